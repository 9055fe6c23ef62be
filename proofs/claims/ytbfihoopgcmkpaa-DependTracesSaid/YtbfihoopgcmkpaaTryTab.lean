/- The table of types of this seat's program, and that it is the program's. Printed by gentab.py. -/
import Derived.Test.YtbfihoopgcmkpaaProg
import Derived.Test.YtbfihoopgcmkpaaEngQ
import Derived.KernelRfl
namespace Go.Eng.Try
set_option linter.unusedSimpArgs false
set_option linter.unusedVariables false
open Go.RowKit Go.Eng

def z1 : V := .int 0
def z2 : V := .int 0
def z3 : V := .int 0
def z4 : V := .bool false
def z5 : V := .int 0
def z9 : V := .str ByteArray.empty
def z12 : V := .int 0
def z21 : V := .int 0
def z22 : V := .list []
def z23 : V := .int 0
def z24 : V := .int 0
def z25 : V := .int 0
def z26 : V := .agg [z3, z3, z4]
def z27 : V := .agg [z3, z3, z4]
def z28 : V := .agg (List.replicate 6 (z27))
def z29 : V := .agg [z3, z3, z3, z25, z3, z2, z2, z28, z3]
def z30 : V := .agg [z3, z3, z3, z25, z3, z2, z2, z28, z3]
def z31 : V := .int 0
def z32 : V := .list []
def z33 : V := .list []
def z34 : V := .int 0
def z36 : V := .int 0
def z37 : V := .int 0
def z38 : V := .int 0
def z39 : V := .int 0
def z40 : V := .int 0
def z41 : V := .int 0
def z42 : V := .list []
def z44 : V := .int 0
def z46 : V := .int 0
def z47 : V := .int 0
def z48 : V := .int 0
def z49 : V := .list []
def z50 : V := .int 0
def z51 : V := .int 0
def z52 : V := .int 0
def z53 : V := .int 0
def z54 : V := .int 0
def z55 : V := .int 0
def z56 : V := .int 0
def z57 : V := .int 0
def z59 : V := .int 0
def z60 : V := .int 0
def z61 : V := .int 0
def z62 : V := .int 0
def z63 : V := .int 0
def z64 : V := .int 0
def z65 : V := .int 0
def z66 : V := .int 0
def z67 : V := .int 0
def z68 : V := .int 0
def z74 : V := .int 0
def z75 : V := .int 0
def z79 : V := .int 0
def tyL : List (Nat × TyD) := [(1, .fn), (2, .int .i64), (3, .int .i64), (4, .bool), (5, .int .u8), (9, .str), (12, .int .u64), (21, .int .i32), (22, .slice 27), (23, .fn), (24, .fn), (25, .int .i64), (26, .struct [3, 3, 4]), (27, .struct [3, 3, 4]), (28, .arr 6 27), (29, .struct [3, 3, 3, 25, 3, 2, 2, 28, 3]), (30, .struct [3, 3, 3, 25, 3, 2, 2, 28, 3]), (31, .fn), (32, .slice 30), (33, .slice 3), (34, .int .i64), (36, .fn), (37, .fn), (38, .fn), (39, .fn), (40, .fn), (41, .fn), (42, .slice 49), (44, .fn), (46, .fn), (47, .fn), (48, .fn), (49, .slice 4), (50, .fn), (51, .fn), (52, .ptr 30), (53, .fn), (54, .fn), (55, .fn), (56, .fn), (57, .fn), (59, .fn), (60, .fn), (61, .fn), (62, .fn), (63, .fn), (64, .fn), (65, .int .u64), (66, .fn), (67, .fn), (68, .fn), (74, .fn), (75, .int .u32), (79, .ptr 5)]
def szL : List (Nat × Nat) := [(1, 1), (2, 1), (3, 1), (4, 1), (5, 1), (9, 1), (12, 1), (21, 1), (22, 1), (23, 1), (24, 1), (25, 1), (26, 3), (27, 3), (28, 18), (29, 26), (30, 26), (31, 1), (32, 1), (33, 1), (34, 1), (36, 1), (37, 1), (38, 1), (39, 1), (40, 1), (41, 1), (42, 1), (44, 1), (46, 1), (47, 1), (48, 1), (49, 1), (50, 1), (51, 1), (52, 1), (53, 1), (54, 1), (55, 1), (56, 1), (57, 1), (59, 1), (60, 1), (61, 1), (62, 1), (63, 1), (64, 1), (65, 1), (66, 1), (67, 1), (68, 1), (74, 1), (75, 1), (79, 1)]
def byL : List (Nat × Nat) := [(1, 8), (2, 8), (3, 8), (4, 1), (5, 1), (9, 16), (12, 8), (21, 4), (22, 24), (23, 8), (24, 8), (25, 8), (26, 24), (27, 24), (28, 144), (29, 208), (30, 208), (31, 8), (32, 24), (33, 24), (34, 8), (36, 8), (37, 8), (38, 8), (39, 8), (40, 8), (41, 8), (42, 24), (44, 8), (46, 8), (47, 8), (48, 8), (49, 24), (50, 8), (51, 8), (52, 8), (53, 8), (54, 8), (55, 8), (56, 8), (57, 8), (59, 8), (60, 8), (61, 8), (62, 8), (63, 8), (64, 8), (65, 8), (66, 8), (67, 8), (68, 8), (74, 8), (75, 4), (79, 8)]
def zeroL : List (Nat × V) := [(1, z1), (2, z2), (3, z3), (4, z4), (5, z5), (9, z9), (12, z12), (21, z21), (22, z22), (23, z23), (24, z24), (25, z25), (26, z26), (27, z27), (28, z28), (29, z29), (30, z30), (31, z31), (32, z32), (33, z33), (34, z34), (36, z36), (37, z37), (38, z38), (39, z39), (40, z40), (41, z41), (42, z42), (44, z44), (46, z46), (47, z47), (48, z48), (49, z49), (50, z50), (51, z51), (52, z52), (53, z53), (54, z54), (55, z55), (56, z56), (57, z57), (59, z59), (60, z60), (61, z61), (62, z62), (63, z63), (64, z64), (65, z65), (66, z66), (67, z67), (68, z68), (74, z74), (75, z75), (79, z79)]
def tab : Tab := { ty := tyOf tyL, sz := fun t => (szL.lookup t).getD 0, by_ := fun t => (byL.lookup t).getD 0, zero := fun t => (zeroL.lookup t).getD default }
theorem ty1 : tab.ty 1 = .fn := rfl
theorem sz1 : tab.sz 1 = 1 := rfl
theorem by1 : tab.by_ 1 = 8 := rfl
theorem zero1 : tab.zero 1 = z1 := rfl
theorem ty2 : tab.ty 2 = .int .i64 := rfl
theorem sz2 : tab.sz 2 = 1 := rfl
theorem by2 : tab.by_ 2 = 8 := rfl
theorem zero2 : tab.zero 2 = z2 := rfl
theorem ty3 : tab.ty 3 = .int .i64 := rfl
theorem sz3 : tab.sz 3 = 1 := rfl
theorem by3 : tab.by_ 3 = 8 := rfl
theorem zero3 : tab.zero 3 = z3 := rfl
theorem ty4 : tab.ty 4 = .bool := rfl
theorem sz4 : tab.sz 4 = 1 := rfl
theorem by4 : tab.by_ 4 = 1 := rfl
theorem zero4 : tab.zero 4 = z4 := rfl
theorem ty5 : tab.ty 5 = .int .u8 := rfl
theorem sz5 : tab.sz 5 = 1 := rfl
theorem by5 : tab.by_ 5 = 1 := rfl
theorem zero5 : tab.zero 5 = z5 := rfl
theorem ty9 : tab.ty 9 = .str := rfl
theorem sz9 : tab.sz 9 = 1 := rfl
theorem by9 : tab.by_ 9 = 16 := rfl
theorem zero9 : tab.zero 9 = z9 := rfl
theorem ty12 : tab.ty 12 = .int .u64 := rfl
theorem sz12 : tab.sz 12 = 1 := rfl
theorem by12 : tab.by_ 12 = 8 := rfl
theorem zero12 : tab.zero 12 = z12 := rfl
theorem ty21 : tab.ty 21 = .int .i32 := rfl
theorem sz21 : tab.sz 21 = 1 := rfl
theorem by21 : tab.by_ 21 = 4 := rfl
theorem zero21 : tab.zero 21 = z21 := rfl
theorem ty22 : tab.ty 22 = .slice 27 := rfl
theorem sz22 : tab.sz 22 = 1 := rfl
theorem by22 : tab.by_ 22 = 24 := rfl
theorem zero22 : tab.zero 22 = z22 := rfl
theorem ty23 : tab.ty 23 = .fn := rfl
theorem sz23 : tab.sz 23 = 1 := rfl
theorem by23 : tab.by_ 23 = 8 := rfl
theorem zero23 : tab.zero 23 = z23 := rfl
theorem ty24 : tab.ty 24 = .fn := rfl
theorem sz24 : tab.sz 24 = 1 := rfl
theorem by24 : tab.by_ 24 = 8 := rfl
theorem zero24 : tab.zero 24 = z24 := rfl
theorem ty25 : tab.ty 25 = .int .i64 := rfl
theorem sz25 : tab.sz 25 = 1 := rfl
theorem by25 : tab.by_ 25 = 8 := rfl
theorem zero25 : tab.zero 25 = z25 := rfl
theorem ty26 : tab.ty 26 = .struct [3, 3, 4] := rfl
theorem sz26 : tab.sz 26 = 3 := rfl
theorem by26 : tab.by_ 26 = 24 := rfl
theorem zero26 : tab.zero 26 = z26 := rfl
theorem ty27 : tab.ty 27 = .struct [3, 3, 4] := rfl
theorem sz27 : tab.sz 27 = 3 := rfl
theorem by27 : tab.by_ 27 = 24 := rfl
theorem zero27 : tab.zero 27 = z27 := rfl
theorem ty28 : tab.ty 28 = .arr 6 27 := rfl
theorem sz28 : tab.sz 28 = 18 := rfl
theorem by28 : tab.by_ 28 = 144 := rfl
theorem zero28 : tab.zero 28 = z28 := rfl
theorem ty29 : tab.ty 29 = .struct [3, 3, 3, 25, 3, 2, 2, 28, 3] := rfl
theorem sz29 : tab.sz 29 = 26 := rfl
theorem by29 : tab.by_ 29 = 208 := rfl
theorem zero29 : tab.zero 29 = z29 := rfl
theorem ty30 : tab.ty 30 = .struct [3, 3, 3, 25, 3, 2, 2, 28, 3] := rfl
theorem sz30 : tab.sz 30 = 26 := rfl
theorem by30 : tab.by_ 30 = 208 := rfl
theorem zero30 : tab.zero 30 = z30 := rfl
theorem ty31 : tab.ty 31 = .fn := rfl
theorem sz31 : tab.sz 31 = 1 := rfl
theorem by31 : tab.by_ 31 = 8 := rfl
theorem zero31 : tab.zero 31 = z31 := rfl
theorem ty32 : tab.ty 32 = .slice 30 := rfl
theorem sz32 : tab.sz 32 = 1 := rfl
theorem by32 : tab.by_ 32 = 24 := rfl
theorem zero32 : tab.zero 32 = z32 := rfl
theorem ty33 : tab.ty 33 = .slice 3 := rfl
theorem sz33 : tab.sz 33 = 1 := rfl
theorem by33 : tab.by_ 33 = 24 := rfl
theorem zero33 : tab.zero 33 = z33 := rfl
theorem ty34 : tab.ty 34 = .int .i64 := rfl
theorem sz34 : tab.sz 34 = 1 := rfl
theorem by34 : tab.by_ 34 = 8 := rfl
theorem zero34 : tab.zero 34 = z34 := rfl
theorem ty36 : tab.ty 36 = .fn := rfl
theorem sz36 : tab.sz 36 = 1 := rfl
theorem by36 : tab.by_ 36 = 8 := rfl
theorem zero36 : tab.zero 36 = z36 := rfl
theorem ty37 : tab.ty 37 = .fn := rfl
theorem sz37 : tab.sz 37 = 1 := rfl
theorem by37 : tab.by_ 37 = 8 := rfl
theorem zero37 : tab.zero 37 = z37 := rfl
theorem ty38 : tab.ty 38 = .fn := rfl
theorem sz38 : tab.sz 38 = 1 := rfl
theorem by38 : tab.by_ 38 = 8 := rfl
theorem zero38 : tab.zero 38 = z38 := rfl
theorem ty39 : tab.ty 39 = .fn := rfl
theorem sz39 : tab.sz 39 = 1 := rfl
theorem by39 : tab.by_ 39 = 8 := rfl
theorem zero39 : tab.zero 39 = z39 := rfl
theorem ty40 : tab.ty 40 = .fn := rfl
theorem sz40 : tab.sz 40 = 1 := rfl
theorem by40 : tab.by_ 40 = 8 := rfl
theorem zero40 : tab.zero 40 = z40 := rfl
theorem ty41 : tab.ty 41 = .fn := rfl
theorem sz41 : tab.sz 41 = 1 := rfl
theorem by41 : tab.by_ 41 = 8 := rfl
theorem zero41 : tab.zero 41 = z41 := rfl
theorem ty42 : tab.ty 42 = .slice 49 := rfl
theorem sz42 : tab.sz 42 = 1 := rfl
theorem by42 : tab.by_ 42 = 24 := rfl
theorem zero42 : tab.zero 42 = z42 := rfl
theorem ty44 : tab.ty 44 = .fn := rfl
theorem sz44 : tab.sz 44 = 1 := rfl
theorem by44 : tab.by_ 44 = 8 := rfl
theorem zero44 : tab.zero 44 = z44 := rfl
theorem ty46 : tab.ty 46 = .fn := rfl
theorem sz46 : tab.sz 46 = 1 := rfl
theorem by46 : tab.by_ 46 = 8 := rfl
theorem zero46 : tab.zero 46 = z46 := rfl
theorem ty47 : tab.ty 47 = .fn := rfl
theorem sz47 : tab.sz 47 = 1 := rfl
theorem by47 : tab.by_ 47 = 8 := rfl
theorem zero47 : tab.zero 47 = z47 := rfl
theorem ty48 : tab.ty 48 = .fn := rfl
theorem sz48 : tab.sz 48 = 1 := rfl
theorem by48 : tab.by_ 48 = 8 := rfl
theorem zero48 : tab.zero 48 = z48 := rfl
theorem ty49 : tab.ty 49 = .slice 4 := rfl
theorem sz49 : tab.sz 49 = 1 := rfl
theorem by49 : tab.by_ 49 = 24 := rfl
theorem zero49 : tab.zero 49 = z49 := rfl
theorem ty50 : tab.ty 50 = .fn := rfl
theorem sz50 : tab.sz 50 = 1 := rfl
theorem by50 : tab.by_ 50 = 8 := rfl
theorem zero50 : tab.zero 50 = z50 := rfl
theorem ty51 : tab.ty 51 = .fn := rfl
theorem sz51 : tab.sz 51 = 1 := rfl
theorem by51 : tab.by_ 51 = 8 := rfl
theorem zero51 : tab.zero 51 = z51 := rfl
theorem ty52 : tab.ty 52 = .ptr 30 := rfl
theorem sz52 : tab.sz 52 = 1 := rfl
theorem by52 : tab.by_ 52 = 8 := rfl
theorem zero52 : tab.zero 52 = z52 := rfl
theorem ty53 : tab.ty 53 = .fn := rfl
theorem sz53 : tab.sz 53 = 1 := rfl
theorem by53 : tab.by_ 53 = 8 := rfl
theorem zero53 : tab.zero 53 = z53 := rfl
theorem ty54 : tab.ty 54 = .fn := rfl
theorem sz54 : tab.sz 54 = 1 := rfl
theorem by54 : tab.by_ 54 = 8 := rfl
theorem zero54 : tab.zero 54 = z54 := rfl
theorem ty55 : tab.ty 55 = .fn := rfl
theorem sz55 : tab.sz 55 = 1 := rfl
theorem by55 : tab.by_ 55 = 8 := rfl
theorem zero55 : tab.zero 55 = z55 := rfl
theorem ty56 : tab.ty 56 = .fn := rfl
theorem sz56 : tab.sz 56 = 1 := rfl
theorem by56 : tab.by_ 56 = 8 := rfl
theorem zero56 : tab.zero 56 = z56 := rfl
theorem ty57 : tab.ty 57 = .fn := rfl
theorem sz57 : tab.sz 57 = 1 := rfl
theorem by57 : tab.by_ 57 = 8 := rfl
theorem zero57 : tab.zero 57 = z57 := rfl
theorem ty59 : tab.ty 59 = .fn := rfl
theorem sz59 : tab.sz 59 = 1 := rfl
theorem by59 : tab.by_ 59 = 8 := rfl
theorem zero59 : tab.zero 59 = z59 := rfl
theorem ty60 : tab.ty 60 = .fn := rfl
theorem sz60 : tab.sz 60 = 1 := rfl
theorem by60 : tab.by_ 60 = 8 := rfl
theorem zero60 : tab.zero 60 = z60 := rfl
theorem ty61 : tab.ty 61 = .fn := rfl
theorem sz61 : tab.sz 61 = 1 := rfl
theorem by61 : tab.by_ 61 = 8 := rfl
theorem zero61 : tab.zero 61 = z61 := rfl
theorem ty62 : tab.ty 62 = .fn := rfl
theorem sz62 : tab.sz 62 = 1 := rfl
theorem by62 : tab.by_ 62 = 8 := rfl
theorem zero62 : tab.zero 62 = z62 := rfl
theorem ty63 : tab.ty 63 = .fn := rfl
theorem sz63 : tab.sz 63 = 1 := rfl
theorem by63 : tab.by_ 63 = 8 := rfl
theorem zero63 : tab.zero 63 = z63 := rfl
theorem ty64 : tab.ty 64 = .fn := rfl
theorem sz64 : tab.sz 64 = 1 := rfl
theorem by64 : tab.by_ 64 = 8 := rfl
theorem zero64 : tab.zero 64 = z64 := rfl
theorem ty65 : tab.ty 65 = .int .u64 := rfl
theorem sz65 : tab.sz 65 = 1 := rfl
theorem by65 : tab.by_ 65 = 8 := rfl
theorem zero65 : tab.zero 65 = z65 := rfl
theorem ty66 : tab.ty 66 = .fn := rfl
theorem sz66 : tab.sz 66 = 1 := rfl
theorem by66 : tab.by_ 66 = 8 := rfl
theorem zero66 : tab.zero 66 = z66 := rfl
theorem ty67 : tab.ty 67 = .fn := rfl
theorem sz67 : tab.sz 67 = 1 := rfl
theorem by67 : tab.by_ 67 = 8 := rfl
theorem zero67 : tab.zero 67 = z67 := rfl
theorem ty68 : tab.ty 68 = .fn := rfl
theorem sz68 : tab.sz 68 = 1 := rfl
theorem by68 : tab.by_ 68 = 8 := rfl
theorem zero68 : tab.zero 68 = z68 := rfl
theorem ty74 : tab.ty 74 = .fn := rfl
theorem sz74 : tab.sz 74 = 1 := rfl
theorem by74 : tab.by_ 74 = 8 := rfl
theorem zero74 : tab.zero 74 = z74 := rfl
theorem ty75 : tab.ty 75 = .int .u32 := rfl
theorem sz75 : tab.sz 75 = 1 := rfl
theorem by75 : tab.by_ 75 = 4 := rfl
theorem zero75 : tab.zero 75 = z75 := rfl
theorem ty79 : tab.ty 79 = .ptr 5 := rfl
theorem sz79 : tab.sz 79 = 1 := rfl
theorem by79 : tab.by_ 79 = 8 := rfl
theorem zero79 : tab.zero 79 = z79 := rfl
def c2 : List Value := [.int .i64 0]
theorem f2 (w : World) (F : Nat → Prop) : Fits tab w F 2 z2 c2 := .int rfl (by unfold IntKind.has; decide)
def c3 : List Value := [.int .i64 0]
theorem f3 (w : World) (F : Nat → Prop) : Fits tab w F 3 z3 c3 := .int rfl (by unfold IntKind.has; decide)
def c4 : List Value := [.bool false]
theorem f4 (w : World) (F : Nat → Prop) : Fits tab w F 4 z4 c4 := .bool rfl
def c5 : List Value := [.int .u8 0]
theorem f5 (w : World) (F : Nat → Prop) : Fits tab w F 5 z5 c5 := .int rfl (by unfold IntKind.has; decide)
def c9 : List Value := [.string ByteArray.empty]
theorem f9 (w : World) (F : Nat → Prop) : Fits tab w F 9 z9 c9 := .str rfl
def c12 : List Value := [.int .u64 0]
theorem f12 (w : World) (F : Nat → Prop) : Fits tab w F 12 z12 c12 := .int rfl (by unfold IntKind.has; decide)
def c21 : List Value := [.int .i32 0]
theorem f21 (w : World) (F : Nat → Prop) : Fits tab w F 21 z21 c21 := .int rfl (by unfold IntKind.has; decide)
def c22 : List Value := [.slice none 0 0]
theorem f22 (w : World) (F : Nat → Prop) : Fits tab w F 22 z22 c22 := .nil rfl
def c25 : List Value := [.int .i64 0]
theorem f25 (w : World) (F : Nat → Prop) : Fits tab w F 25 z25 c25 := .int rfl (by unfold IntKind.has; decide)
def c26 : List Value := c3 ++ (c3 ++ (c4 ++ []))
theorem f26 (w : World) (F : Nat → Prop) : Fits tab w F 26 z26 c26 := .struct (ts := [3, 3, 4]) rfl (.cons (f3 w F) (.cons (f3 w F) (.cons (f4 w F) (.nil))))
def c27 : List Value := c3 ++ (c3 ++ (c4 ++ []))
theorem f27 (w : World) (F : Nat → Prop) : Fits tab w F 27 z27 c27 := .struct (ts := [3, 3, 4]) rfl (.cons (f3 w F) (.cons (f3 w F) (.cons (f4 w F) (.nil))))
def c28 : List Value := (List.replicate 6 c27).flatten
theorem f28 (w : World) (F : Nat → Prop) : Fits tab w F 28 z28 c28 := .arr (n := 6) (e := 27) rfl (FitsL.repl (f27 w F) 6)
def c29 : List Value := c3 ++ (c3 ++ (c3 ++ (c25 ++ (c3 ++ (c2 ++ (c2 ++ (c28 ++ (c3 ++ []))))))))
theorem f29 (w : World) (F : Nat → Prop) : Fits tab w F 29 z29 c29 := .struct (ts := [3, 3, 3, 25, 3, 2, 2, 28, 3]) rfl (.cons (f3 w F) (.cons (f3 w F) (.cons (f3 w F) (.cons (f25 w F) (.cons (f3 w F) (.cons (f2 w F) (.cons (f2 w F) (.cons (f28 w F) (.cons (f3 w F) (.nil))))))))))
def c30 : List Value := c3 ++ (c3 ++ (c3 ++ (c25 ++ (c3 ++ (c2 ++ (c2 ++ (c28 ++ (c3 ++ []))))))))
theorem f30 (w : World) (F : Nat → Prop) : Fits tab w F 30 z30 c30 := .struct (ts := [3, 3, 3, 25, 3, 2, 2, 28, 3]) rfl (.cons (f3 w F) (.cons (f3 w F) (.cons (f3 w F) (.cons (f25 w F) (.cons (f3 w F) (.cons (f2 w F) (.cons (f2 w F) (.cons (f28 w F) (.cons (f3 w F) (.nil))))))))))
def c32 : List Value := [.slice none 0 0]
theorem f32 (w : World) (F : Nat → Prop) : Fits tab w F 32 z32 c32 := .nil rfl
def c33 : List Value := [.slice none 0 0]
theorem f33 (w : World) (F : Nat → Prop) : Fits tab w F 33 z33 c33 := .nil rfl
def c34 : List Value := [.int .i64 0]
theorem f34 (w : World) (F : Nat → Prop) : Fits tab w F 34 z34 c34 := .int rfl (by unfold IntKind.has; decide)
def c42 : List Value := [.slice none 0 0]
theorem f42 (w : World) (F : Nat → Prop) : Fits tab w F 42 z42 c42 := .nil rfl
def c49 : List Value := [.slice none 0 0]
theorem f49 (w : World) (F : Nat → Prop) : Fits tab w F 49 z49 c49 := .nil rfl
def c65 : List Value := [.int .u64 0]
theorem f65 (w : World) (F : Nat → Prop) : Fits tab w F 65 z65 c65 := .int rfl (by unfold IntKind.has; decide)
def c75 : List Value := [.int .u32 0]
theorem f75 (w : World) (F : Nat → Prop) : Fits tab w F 75 z75 c75 := .int rfl (by unfold IntKind.has; decide)
theorem row1 : RowOk Go.Proofs.Try.prog tab 1 (.fn) := ⟨⟨⟨_, _, _, Go.Proofs.Try.underlying1⟩, rfl⟩, .nilFunc, by kernel_rfl, by kernel_rfl, by kernel_rfl, by first | rfl | (simp [TyD.isAgg, Value.cells]; done) | (simp [TyD.isAgg, Value.oneCell']; done), (fun h => absurd rfl h), fun _ => rfl, (fun _ h => by cases h)⟩
theorem row2 : RowOk Go.Proofs.Try.prog tab 2 (.int .i64) := ⟨⟨by kernel_rfl, rfl⟩, (.int .i64 0), by kernel_rfl, by kernel_rfl, by kernel_rfl, by first | rfl | (simp [TyD.isAgg, Value.cells]; done) | (simp [TyD.isAgg, Value.oneCell']; done), (fun _ _ w F => (f2 w F : Fits tab w F 2 z2 c2)), (fun h => by cases h), (fun _ h => by cases h)⟩
theorem row3 : RowOk Go.Proofs.Try.prog tab 3 (.int .i64) := ⟨⟨by kernel_rfl, rfl⟩, (.int .i64 0), by kernel_rfl, by kernel_rfl, by kernel_rfl, by first | rfl | (simp [TyD.isAgg, Value.cells]; done) | (simp [TyD.isAgg, Value.oneCell']; done), (fun _ _ w F => (f3 w F : Fits tab w F 3 z3 c3)), (fun h => by cases h), (fun _ h => by cases h)⟩
theorem row4 : RowOk Go.Proofs.Try.prog tab 4 (.bool) := ⟨⟨by kernel_rfl, rfl⟩, (.bool false), by kernel_rfl, by kernel_rfl, by kernel_rfl, by first | rfl | (simp [TyD.isAgg, Value.cells]; done) | (simp [TyD.isAgg, Value.oneCell']; done), (fun _ _ w F => (f4 w F : Fits tab w F 4 z4 c4)), (fun h => by cases h), (fun _ h => by cases h)⟩
theorem row5 : RowOk Go.Proofs.Try.prog tab 5 (.int .u8) := ⟨⟨by kernel_rfl, rfl⟩, (.int .u8 0), by kernel_rfl, by kernel_rfl, by kernel_rfl, by first | rfl | (simp [TyD.isAgg, Value.cells]; done) | (simp [TyD.isAgg, Value.oneCell']; done), (fun _ _ w F => (f5 w F : Fits tab w F 5 z5 c5)), (fun h => by cases h), (fun _ h => by cases h)⟩
theorem row9 : RowOk Go.Proofs.Try.prog tab 9 (.str) := ⟨⟨by kernel_rfl, rfl⟩, (.string ByteArray.empty), by kernel_rfl, by kernel_rfl, by kernel_rfl, by first | rfl | (simp [TyD.isAgg, Value.cells]; done) | (simp [TyD.isAgg, Value.oneCell']; done), (fun _ _ w F => (f9 w F : Fits tab w F 9 z9 c9)), (fun h => by cases h), (fun _ h => by cases h)⟩
theorem row12 : RowOk Go.Proofs.Try.prog tab 12 (.int .u64) := ⟨⟨by kernel_rfl, rfl⟩, (.int .u64 0), by kernel_rfl, by kernel_rfl, by kernel_rfl, by first | rfl | (simp [TyD.isAgg, Value.cells]; done) | (simp [TyD.isAgg, Value.oneCell']; done), (fun _ _ w F => (f12 w F : Fits tab w F 12 z12 c12)), (fun h => by cases h), (fun _ h => by cases h)⟩
theorem row21 : RowOk Go.Proofs.Try.prog tab 21 (.int .i32) := ⟨⟨by kernel_rfl, rfl⟩, (.int .i32 0), by kernel_rfl, by kernel_rfl, by kernel_rfl, by first | rfl | (simp [TyD.isAgg, Value.cells]; done) | (simp [TyD.isAgg, Value.oneCell']; done), (fun _ _ w F => (f21 w F : Fits tab w F 21 z21 c21)), (fun h => by cases h), (fun _ h => by cases h)⟩
theorem row22 : RowOk Go.Proofs.Try.prog tab 22 (.slice 27) := ⟨⟨⟨by kernel_rfl, by rw [ty27]; simp⟩, rfl, by decide⟩, (.slice none 0 0), by kernel_rfl, by kernel_rfl, by kernel_rfl, by first | rfl | (simp [TyD.isAgg, Value.cells]; done) | (simp [TyD.isAgg, Value.oneCell']; done), (fun _ _ w F => (f22 w F : Fits tab w F 22 z22 c22)), (fun h => by cases h), fun _ _ => rfl⟩
theorem row23 : RowOk Go.Proofs.Try.prog tab 23 (.fn) := ⟨⟨⟨_, _, _, Go.Proofs.Try.underlying23⟩, rfl⟩, .nilFunc, by kernel_rfl, by kernel_rfl, by kernel_rfl, by first | rfl | (simp [TyD.isAgg, Value.cells]; done) | (simp [TyD.isAgg, Value.oneCell']; done), (fun h => absurd rfl h), fun _ => rfl, (fun _ h => by cases h)⟩
theorem row24 : RowOk Go.Proofs.Try.prog tab 24 (.fn) := ⟨⟨⟨_, _, _, Go.Proofs.Try.underlying24⟩, rfl⟩, .nilFunc, by kernel_rfl, by kernel_rfl, by kernel_rfl, by first | rfl | (simp [TyD.isAgg, Value.cells]; done) | (simp [TyD.isAgg, Value.oneCell']; done), (fun h => absurd rfl h), fun _ => rfl, (fun _ h => by cases h)⟩
theorem row25 : RowOk Go.Proofs.Try.prog tab 25 (.int .i64) := ⟨⟨by kernel_rfl, rfl⟩, (.int .i64 0), by kernel_rfl, by kernel_rfl, by kernel_rfl, by first | rfl | (simp [TyD.isAgg, Value.cells]; done) | (simp [TyD.isAgg, Value.oneCell']; done), (fun _ _ w F => (f25 w F : Fits tab w F 25 z25 c25)), (fun h => by cases h), (fun _ h => by cases h)⟩
theorem row26 : RowOk Go.Proofs.Try.prog tab 26 (.struct [3, 3, 4]) := ⟨⟨⟨_, Go.Proofs.Try.underlying26, by kernel_rfl, by kernel_rfl, by kernel_rfl⟩, rfl, by kernel_rfl⟩, (.agg c26.toArray), by kernel_rfl, by kernel_rfl, by kernel_rfl, by first | rfl | (simp [TyD.isAgg, Value.cells]; done) | (simp [TyD.isAgg, Value.oneCell']; done), (fun _ _ w F => (f26 w F : Fits tab w F 26 z26 c26)), (fun h => by cases h), (fun _ h => by cases h)⟩
theorem row27 : RowOk Go.Proofs.Try.prog tab 27 (.struct [3, 3, 4]) := ⟨⟨⟨_, Go.Proofs.Try.underlying27, by kernel_rfl, by kernel_rfl, by kernel_rfl⟩, rfl, by kernel_rfl⟩, (.agg c27.toArray), by kernel_rfl, by kernel_rfl, by kernel_rfl, by first | rfl | (simp [TyD.isAgg, Value.cells]; done) | (simp [TyD.isAgg, Value.oneCell']; done), (fun _ _ w F => (f27 w F : Fits tab w F 27 z27 c27)), (fun h => by cases h), (fun _ h => by cases h)⟩
theorem row28 : RowOk Go.Proofs.Try.prog tab 28 (.arr 6 27) := ⟨⟨⟨by kernel_rfl, by decide, by decide, by rw [ty27]; simp⟩, rfl, by kernel_rfl⟩, (.agg c28.toArray), by kernel_rfl, by kernel_rfl, by kernel_rfl, by first | rfl | (simp [TyD.isAgg, Value.cells]; done) | (simp [TyD.isAgg, Value.oneCell']; done), (fun _ _ w F => (f28 w F : Fits tab w F 28 z28 c28)), (fun h => by cases h), (fun _ h => by cases h)⟩
theorem row29 : RowOk Go.Proofs.Try.prog tab 29 (.struct [3, 3, 3, 25, 3, 2, 2, 28, 3]) := ⟨⟨⟨_, Go.Proofs.Try.underlying29, by kernel_rfl, by kernel_rfl, by kernel_rfl⟩, rfl, by kernel_rfl⟩, (.agg c29.toArray), by kernel_rfl, by kernel_rfl, by kernel_rfl, by first | rfl | (simp [TyD.isAgg, Value.cells]; done) | (simp [TyD.isAgg, Value.oneCell']; done), (fun _ _ w F => (f29 w F : Fits tab w F 29 z29 c29)), (fun h => by cases h), (fun _ h => by cases h)⟩
theorem row30 : RowOk Go.Proofs.Try.prog tab 30 (.struct [3, 3, 3, 25, 3, 2, 2, 28, 3]) := ⟨⟨⟨_, Go.Proofs.Try.underlying30, by kernel_rfl, by kernel_rfl, by kernel_rfl⟩, rfl, by kernel_rfl⟩, (.agg c30.toArray), by kernel_rfl, by kernel_rfl, by kernel_rfl, by first | rfl | (simp [TyD.isAgg, Value.cells]; done) | (simp [TyD.isAgg, Value.oneCell']; done), (fun _ _ w F => (f30 w F : Fits tab w F 30 z30 c30)), (fun h => by cases h), (fun _ h => by cases h)⟩
theorem row31 : RowOk Go.Proofs.Try.prog tab 31 (.fn) := ⟨⟨⟨_, _, _, Go.Proofs.Try.underlying31⟩, rfl⟩, .nilFunc, by kernel_rfl, by kernel_rfl, by kernel_rfl, by first | rfl | (simp [TyD.isAgg, Value.cells]; done) | (simp [TyD.isAgg, Value.oneCell']; done), (fun h => absurd rfl h), fun _ => rfl, (fun _ h => by cases h)⟩
theorem row32 : RowOk Go.Proofs.Try.prog tab 32 (.slice 30) := ⟨⟨⟨by kernel_rfl, by rw [ty30]; simp⟩, rfl, by decide⟩, (.slice none 0 0), by kernel_rfl, by kernel_rfl, by kernel_rfl, by first | rfl | (simp [TyD.isAgg, Value.cells]; done) | (simp [TyD.isAgg, Value.oneCell']; done), (fun _ _ w F => (f32 w F : Fits tab w F 32 z32 c32)), (fun h => by cases h), fun _ _ => rfl⟩
theorem row33 : RowOk Go.Proofs.Try.prog tab 33 (.slice 3) := ⟨⟨⟨by kernel_rfl, by rw [ty3]; simp⟩, rfl, by decide⟩, (.slice none 0 0), by kernel_rfl, by kernel_rfl, by kernel_rfl, by first | rfl | (simp [TyD.isAgg, Value.cells]; done) | (simp [TyD.isAgg, Value.oneCell']; done), (fun _ _ w F => (f33 w F : Fits tab w F 33 z33 c33)), (fun h => by cases h), fun _ _ => rfl⟩
theorem row34 : RowOk Go.Proofs.Try.prog tab 34 (.int .i64) := ⟨⟨by kernel_rfl, rfl⟩, (.int .i64 0), by kernel_rfl, by kernel_rfl, by kernel_rfl, by first | rfl | (simp [TyD.isAgg, Value.cells]; done) | (simp [TyD.isAgg, Value.oneCell']; done), (fun _ _ w F => (f34 w F : Fits tab w F 34 z34 c34)), (fun h => by cases h), (fun _ h => by cases h)⟩
theorem row36 : RowOk Go.Proofs.Try.prog tab 36 (.fn) := ⟨⟨⟨_, _, _, Go.Proofs.Try.underlying36⟩, rfl⟩, .nilFunc, by kernel_rfl, by kernel_rfl, by kernel_rfl, by first | rfl | (simp [TyD.isAgg, Value.cells]; done) | (simp [TyD.isAgg, Value.oneCell']; done), (fun h => absurd rfl h), fun _ => rfl, (fun _ h => by cases h)⟩
theorem row37 : RowOk Go.Proofs.Try.prog tab 37 (.fn) := ⟨⟨⟨_, _, _, Go.Proofs.Try.underlying37⟩, rfl⟩, .nilFunc, by kernel_rfl, by kernel_rfl, by kernel_rfl, by first | rfl | (simp [TyD.isAgg, Value.cells]; done) | (simp [TyD.isAgg, Value.oneCell']; done), (fun h => absurd rfl h), fun _ => rfl, (fun _ h => by cases h)⟩
theorem row38 : RowOk Go.Proofs.Try.prog tab 38 (.fn) := ⟨⟨⟨_, _, _, Go.Proofs.Try.underlying38⟩, rfl⟩, .nilFunc, by kernel_rfl, by kernel_rfl, by kernel_rfl, by first | rfl | (simp [TyD.isAgg, Value.cells]; done) | (simp [TyD.isAgg, Value.oneCell']; done), (fun h => absurd rfl h), fun _ => rfl, (fun _ h => by cases h)⟩
theorem row39 : RowOk Go.Proofs.Try.prog tab 39 (.fn) := ⟨⟨⟨_, _, _, Go.Proofs.Try.underlying39⟩, rfl⟩, .nilFunc, by kernel_rfl, by kernel_rfl, by kernel_rfl, by first | rfl | (simp [TyD.isAgg, Value.cells]; done) | (simp [TyD.isAgg, Value.oneCell']; done), (fun h => absurd rfl h), fun _ => rfl, (fun _ h => by cases h)⟩
theorem row40 : RowOk Go.Proofs.Try.prog tab 40 (.fn) := ⟨⟨⟨_, _, _, Go.Proofs.Try.underlying40⟩, rfl⟩, .nilFunc, by kernel_rfl, by kernel_rfl, by kernel_rfl, by first | rfl | (simp [TyD.isAgg, Value.cells]; done) | (simp [TyD.isAgg, Value.oneCell']; done), (fun h => absurd rfl h), fun _ => rfl, (fun _ h => by cases h)⟩
theorem row41 : RowOk Go.Proofs.Try.prog tab 41 (.fn) := ⟨⟨⟨_, _, _, Go.Proofs.Try.underlying41⟩, rfl⟩, .nilFunc, by kernel_rfl, by kernel_rfl, by kernel_rfl, by first | rfl | (simp [TyD.isAgg, Value.cells]; done) | (simp [TyD.isAgg, Value.oneCell']; done), (fun h => absurd rfl h), fun _ => rfl, (fun _ h => by cases h)⟩
theorem row42 : RowOk Go.Proofs.Try.prog tab 42 (.slice 49) := ⟨⟨⟨by kernel_rfl, by rw [ty49]; simp⟩, rfl, by decide⟩, (.slice none 0 0), by kernel_rfl, by kernel_rfl, by kernel_rfl, by first | rfl | (simp [TyD.isAgg, Value.cells]; done) | (simp [TyD.isAgg, Value.oneCell']; done), (fun _ _ w F => (f42 w F : Fits tab w F 42 z42 c42)), (fun h => by cases h), fun _ _ => rfl⟩
theorem row44 : RowOk Go.Proofs.Try.prog tab 44 (.fn) := ⟨⟨⟨_, _, _, Go.Proofs.Try.underlying44⟩, rfl⟩, .nilFunc, by kernel_rfl, by kernel_rfl, by kernel_rfl, by first | rfl | (simp [TyD.isAgg, Value.cells]; done) | (simp [TyD.isAgg, Value.oneCell']; done), (fun h => absurd rfl h), fun _ => rfl, (fun _ h => by cases h)⟩
theorem row46 : RowOk Go.Proofs.Try.prog tab 46 (.fn) := ⟨⟨⟨_, _, _, Go.Proofs.Try.underlying46⟩, rfl⟩, .nilFunc, by kernel_rfl, by kernel_rfl, by kernel_rfl, by first | rfl | (simp [TyD.isAgg, Value.cells]; done) | (simp [TyD.isAgg, Value.oneCell']; done), (fun h => absurd rfl h), fun _ => rfl, (fun _ h => by cases h)⟩
theorem row47 : RowOk Go.Proofs.Try.prog tab 47 (.fn) := ⟨⟨⟨_, _, _, Go.Proofs.Try.underlying47⟩, rfl⟩, .nilFunc, by kernel_rfl, by kernel_rfl, by kernel_rfl, by first | rfl | (simp [TyD.isAgg, Value.cells]; done) | (simp [TyD.isAgg, Value.oneCell']; done), (fun h => absurd rfl h), fun _ => rfl, (fun _ h => by cases h)⟩
theorem row48 : RowOk Go.Proofs.Try.prog tab 48 (.fn) := ⟨⟨⟨_, _, _, Go.Proofs.Try.underlying48⟩, rfl⟩, .nilFunc, by kernel_rfl, by kernel_rfl, by kernel_rfl, by first | rfl | (simp [TyD.isAgg, Value.cells]; done) | (simp [TyD.isAgg, Value.oneCell']; done), (fun h => absurd rfl h), fun _ => rfl, (fun _ h => by cases h)⟩
theorem row49 : RowOk Go.Proofs.Try.prog tab 49 (.slice 4) := ⟨⟨⟨by kernel_rfl, by rw [ty4]; simp⟩, rfl, by decide⟩, (.slice none 0 0), by kernel_rfl, by kernel_rfl, by kernel_rfl, by first | rfl | (simp [TyD.isAgg, Value.cells]; done) | (simp [TyD.isAgg, Value.oneCell']; done), (fun _ _ w F => (f49 w F : Fits tab w F 49 z49 c49)), (fun h => by cases h), fun _ _ => rfl⟩
theorem row50 : RowOk Go.Proofs.Try.prog tab 50 (.fn) := ⟨⟨⟨_, _, _, Go.Proofs.Try.underlying50⟩, rfl⟩, .nilFunc, by kernel_rfl, by kernel_rfl, by kernel_rfl, by first | rfl | (simp [TyD.isAgg, Value.cells]; done) | (simp [TyD.isAgg, Value.oneCell']; done), (fun h => absurd rfl h), fun _ => rfl, (fun _ h => by cases h)⟩
theorem row51 : RowOk Go.Proofs.Try.prog tab 51 (.fn) := ⟨⟨⟨_, _, _, Go.Proofs.Try.underlying51⟩, rfl⟩, .nilFunc, by kernel_rfl, by kernel_rfl, by kernel_rfl, by first | rfl | (simp [TyD.isAgg, Value.cells]; done) | (simp [TyD.isAgg, Value.oneCell']; done), (fun h => absurd rfl h), fun _ => rfl, (fun _ h => by cases h)⟩
theorem row52 : RowOk Go.Proofs.Try.prog tab 52 (.ptr 30) := ⟨⟨⟨by kernel_rfl, by rw [ty30]; simp⟩, rfl⟩, (.pointer none), by kernel_rfl, by kernel_rfl, by kernel_rfl, by first | rfl | (simp [TyD.isAgg, Value.cells]; done) | (simp [TyD.isAgg, Value.oneCell']; done), (fun _ h => absurd rfl (h _)), (fun h => by cases h), (fun _ h => by cases h)⟩
theorem row53 : RowOk Go.Proofs.Try.prog tab 53 (.fn) := ⟨⟨⟨_, _, _, Go.Proofs.Try.underlying53⟩, rfl⟩, .nilFunc, by kernel_rfl, by kernel_rfl, by kernel_rfl, by first | rfl | (simp [TyD.isAgg, Value.cells]; done) | (simp [TyD.isAgg, Value.oneCell']; done), (fun h => absurd rfl h), fun _ => rfl, (fun _ h => by cases h)⟩
theorem row54 : RowOk Go.Proofs.Try.prog tab 54 (.fn) := ⟨⟨⟨_, _, _, Go.Proofs.Try.underlying54⟩, rfl⟩, .nilFunc, by kernel_rfl, by kernel_rfl, by kernel_rfl, by first | rfl | (simp [TyD.isAgg, Value.cells]; done) | (simp [TyD.isAgg, Value.oneCell']; done), (fun h => absurd rfl h), fun _ => rfl, (fun _ h => by cases h)⟩
theorem row55 : RowOk Go.Proofs.Try.prog tab 55 (.fn) := ⟨⟨⟨_, _, _, Go.Proofs.Try.underlying55⟩, rfl⟩, .nilFunc, by kernel_rfl, by kernel_rfl, by kernel_rfl, by first | rfl | (simp [TyD.isAgg, Value.cells]; done) | (simp [TyD.isAgg, Value.oneCell']; done), (fun h => absurd rfl h), fun _ => rfl, (fun _ h => by cases h)⟩
theorem row56 : RowOk Go.Proofs.Try.prog tab 56 (.fn) := ⟨⟨⟨_, _, _, Go.Proofs.Try.underlying56⟩, rfl⟩, .nilFunc, by kernel_rfl, by kernel_rfl, by kernel_rfl, by first | rfl | (simp [TyD.isAgg, Value.cells]; done) | (simp [TyD.isAgg, Value.oneCell']; done), (fun h => absurd rfl h), fun _ => rfl, (fun _ h => by cases h)⟩
theorem row57 : RowOk Go.Proofs.Try.prog tab 57 (.fn) := ⟨⟨⟨_, _, _, Go.Proofs.Try.underlying57⟩, rfl⟩, .nilFunc, by kernel_rfl, by kernel_rfl, by kernel_rfl, by first | rfl | (simp [TyD.isAgg, Value.cells]; done) | (simp [TyD.isAgg, Value.oneCell']; done), (fun h => absurd rfl h), fun _ => rfl, (fun _ h => by cases h)⟩
theorem row59 : RowOk Go.Proofs.Try.prog tab 59 (.fn) := ⟨⟨⟨_, _, _, Go.Proofs.Try.underlying59⟩, rfl⟩, .nilFunc, by kernel_rfl, by kernel_rfl, by kernel_rfl, by first | rfl | (simp [TyD.isAgg, Value.cells]; done) | (simp [TyD.isAgg, Value.oneCell']; done), (fun h => absurd rfl h), fun _ => rfl, (fun _ h => by cases h)⟩
theorem row60 : RowOk Go.Proofs.Try.prog tab 60 (.fn) := ⟨⟨⟨_, _, _, Go.Proofs.Try.underlying60⟩, rfl⟩, .nilFunc, by kernel_rfl, by kernel_rfl, by kernel_rfl, by first | rfl | (simp [TyD.isAgg, Value.cells]; done) | (simp [TyD.isAgg, Value.oneCell']; done), (fun h => absurd rfl h), fun _ => rfl, (fun _ h => by cases h)⟩
theorem row61 : RowOk Go.Proofs.Try.prog tab 61 (.fn) := ⟨⟨⟨_, _, _, Go.Proofs.Try.underlying61⟩, rfl⟩, .nilFunc, by kernel_rfl, by kernel_rfl, by kernel_rfl, by first | rfl | (simp [TyD.isAgg, Value.cells]; done) | (simp [TyD.isAgg, Value.oneCell']; done), (fun h => absurd rfl h), fun _ => rfl, (fun _ h => by cases h)⟩
theorem row62 : RowOk Go.Proofs.Try.prog tab 62 (.fn) := ⟨⟨⟨_, _, _, Go.Proofs.Try.underlying62⟩, rfl⟩, .nilFunc, by kernel_rfl, by kernel_rfl, by kernel_rfl, by first | rfl | (simp [TyD.isAgg, Value.cells]; done) | (simp [TyD.isAgg, Value.oneCell']; done), (fun h => absurd rfl h), fun _ => rfl, (fun _ h => by cases h)⟩
theorem row63 : RowOk Go.Proofs.Try.prog tab 63 (.fn) := ⟨⟨⟨_, _, _, Go.Proofs.Try.underlying63⟩, rfl⟩, .nilFunc, by kernel_rfl, by kernel_rfl, by kernel_rfl, by first | rfl | (simp [TyD.isAgg, Value.cells]; done) | (simp [TyD.isAgg, Value.oneCell']; done), (fun h => absurd rfl h), fun _ => rfl, (fun _ h => by cases h)⟩
theorem row64 : RowOk Go.Proofs.Try.prog tab 64 (.fn) := ⟨⟨⟨_, _, _, Go.Proofs.Try.underlying64⟩, rfl⟩, .nilFunc, by kernel_rfl, by kernel_rfl, by kernel_rfl, by first | rfl | (simp [TyD.isAgg, Value.cells]; done) | (simp [TyD.isAgg, Value.oneCell']; done), (fun h => absurd rfl h), fun _ => rfl, (fun _ h => by cases h)⟩
theorem row65 : RowOk Go.Proofs.Try.prog tab 65 (.int .u64) := ⟨⟨by kernel_rfl, rfl⟩, (.int .u64 0), by kernel_rfl, by kernel_rfl, by kernel_rfl, by first | rfl | (simp [TyD.isAgg, Value.cells]; done) | (simp [TyD.isAgg, Value.oneCell']; done), (fun _ _ w F => (f65 w F : Fits tab w F 65 z65 c65)), (fun h => by cases h), (fun _ h => by cases h)⟩
theorem row66 : RowOk Go.Proofs.Try.prog tab 66 (.fn) := ⟨⟨⟨_, _, _, Go.Proofs.Try.underlying66⟩, rfl⟩, .nilFunc, by kernel_rfl, by kernel_rfl, by kernel_rfl, by first | rfl | (simp [TyD.isAgg, Value.cells]; done) | (simp [TyD.isAgg, Value.oneCell']; done), (fun h => absurd rfl h), fun _ => rfl, (fun _ h => by cases h)⟩
theorem row67 : RowOk Go.Proofs.Try.prog tab 67 (.fn) := ⟨⟨⟨_, _, _, Go.Proofs.Try.underlying67⟩, rfl⟩, .nilFunc, by kernel_rfl, by kernel_rfl, by kernel_rfl, by first | rfl | (simp [TyD.isAgg, Value.cells]; done) | (simp [TyD.isAgg, Value.oneCell']; done), (fun h => absurd rfl h), fun _ => rfl, (fun _ h => by cases h)⟩
theorem row68 : RowOk Go.Proofs.Try.prog tab 68 (.fn) := ⟨⟨⟨_, _, _, Go.Proofs.Try.underlying68⟩, rfl⟩, .nilFunc, by kernel_rfl, by kernel_rfl, by kernel_rfl, by first | rfl | (simp [TyD.isAgg, Value.cells]; done) | (simp [TyD.isAgg, Value.oneCell']; done), (fun h => absurd rfl h), fun _ => rfl, (fun _ h => by cases h)⟩
theorem row74 : RowOk Go.Proofs.Try.prog tab 74 (.fn) := ⟨⟨⟨_, _, _, Go.Proofs.Try.underlying74⟩, rfl⟩, .nilFunc, by kernel_rfl, by kernel_rfl, by kernel_rfl, by first | rfl | (simp [TyD.isAgg, Value.cells]; done) | (simp [TyD.isAgg, Value.oneCell']; done), (fun h => absurd rfl h), fun _ => rfl, (fun _ h => by cases h)⟩
theorem row75 : RowOk Go.Proofs.Try.prog tab 75 (.int .u32) := ⟨⟨by kernel_rfl, rfl⟩, (.int .u32 0), by kernel_rfl, by kernel_rfl, by kernel_rfl, by first | rfl | (simp [TyD.isAgg, Value.cells]; done) | (simp [TyD.isAgg, Value.oneCell']; done), (fun _ _ w F => (f75 w F : Fits tab w F 75 z75 c75)), (fun h => by cases h), (fun _ h => by cases h)⟩
theorem row79 : RowOk Go.Proofs.Try.prog tab 79 (.ptr 5) := ⟨⟨⟨by kernel_rfl, by rw [ty5]; simp⟩, rfl⟩, (.pointer none), by kernel_rfl, by kernel_rfl, by kernel_rfl, by first | rfl | (simp [TyD.isAgg, Value.cells]; done) | (simp [TyD.isAgg, Value.oneCell']; done), (fun _ h => absurd rfl (h _)), (fun h => by cases h), (fun _ h => by cases h)⟩
theorem ok : TabOk Go.Proofs.Try.prog tab := tabOk rfl (by
  intro p hp
  simp only [tyL, List.mem_cons, List.not_mem_nil, or_false] at hp
  rcases hp with rfl | rfl | rfl | rfl | rfl | rfl | rfl | rfl | rfl | rfl | rfl | rfl | rfl | rfl | rfl | rfl | rfl | rfl | rfl | rfl | rfl | rfl | rfl | rfl | rfl | rfl | rfl | rfl | rfl | rfl | rfl | rfl | rfl | rfl | rfl | rfl | rfl | rfl | rfl | rfl | rfl | rfl | rfl | rfl | rfl | rfl | rfl | rfl | rfl | rfl | rfl | rfl | rfl | rfl
  · exact row1
  · exact row2
  · exact row3
  · exact row4
  · exact row5
  · exact row9
  · exact row12
  · exact row21
  · exact row22
  · exact row23
  · exact row24
  · exact row25
  · exact row26
  · exact row27
  · exact row28
  · exact row29
  · exact row30
  · exact row31
  · exact row32
  · exact row33
  · exact row34
  · exact row36
  · exact row37
  · exact row38
  · exact row39
  · exact row40
  · exact row41
  · exact row42
  · exact row44
  · exact row46
  · exact row47
  · exact row48
  · exact row49
  · exact row50
  · exact row51
  · exact row52
  · exact row53
  · exact row54
  · exact row55
  · exact row56
  · exact row57
  · exact row59
  · exact row60
  · exact row61
  · exact row62
  · exact row63
  · exact row64
  · exact row65
  · exact row66
  · exact row67
  · exact row68
  · exact row74
  · exact row75
  · exact row79)
theorem mixed : Go.Proofs.Try.prog.follows .mixedOrders = true := by kernel_rfl
end Go.Eng.Try
