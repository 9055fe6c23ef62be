/- A part of the proof: walks through the program's functions, and what they compute. -/
import Derived.Test.YtedceinkpkoncaaGreatDoorProg
import Derived.Test.YtedceinkpkoncaaGreatDoorPk8
import Derived.Lib.TrailingZeros
import Derived.KernelRfl
set_option linter.unusedSimpArgs false
set_option linter.unusedVariables false
namespace Go.Eng.Tryz
open Go.RowKit Go.Eng
def z2:V:=.int 0
def z3:V:=.int 0
def z4:V:=.bool false
def z5:V:=.int 0
def z9:V:=.str ByteArray.empty
def z21:V:=.int 0
def z22:V:=.list []
def z23:V:=.list []
def z24:V:=.list []
def z26:V:=.agg [z22,z3,z23,z24]
def z27:V:=.agg (List.replicate 8 (z2))
def z28:V:=.agg (List.replicate 4 (z3))
def z29:V:=.agg (List.replicate 4 (z2))
def z31:V:=.agg [z29,z3,z4,z3,z3,z2]
def z32:V:=.agg (List.replicate 4 (z31))
def z34:V:=.agg [z3,z3,z3,z3,z27]
def z35:V:=.agg (List.replicate 6 (z34))
def z37:V:=.agg [z27,z28,z32,z35,z3]
def z39:V:=.agg [z3,z3]
def z41:V:=.agg [z26,z37,z39,z3]
def z43:V:=.int 0
def z45:V:=.agg [z3,z3,z4]
def z46:V:=.agg (List.replicate 6 (z45))
def z48:V:=.agg [z3,z3,z3,z43,z3,z2,z2,z46,z3]
def z49:V:=.int 0
def z60:V:=.list []
def z64:V:=.list []
def z77:V:=.agg [z3,z3,z3]
def z79:V:=.list []
def z81:V:=.agg [z79,z37,z4]
def z106:V:=.list []
def z118:V:=.list []
def z119:V:=.list []
def z121:V:=.agg [z3,z3,z118,z119]
def z122:V:=.list []
def z124:V:=.agg [z122,z3]
def z129:V:=.agg [z43,z3,z3,z3,z2]
def z131:V:=.int 0
def z133:V:=.agg [z26,z37,z3,z3,z2,z4]
def z135:V:=.int 0
def z139:V:=.agg [z4,z2]
def z142:V:=.agg [z3,z3]
def z149:V:=.agg (List.replicate 6 (z3))
def z151:V:=.int 0
def z154:V:=.int 0
def z156:V:=.agg [z4,z3,z3,z3]
def z165:V:=.int 0
def z171:V:=.int 0
def z172:V:=.int 0
def z175:V:=.int 0
def z186:V:=.int 0
def z189:V:=.agg [z37,z2,z3,z3]
def z194:V:=.list []
def z202:V:=.int 0
def z204:V:=.agg [z26,z121]
def z209:V:=.int 0
def z210:V:=.int 0
def z230:V:=.int 0
def z238:V:=.int 0
def z240:V:=.int 0
def z247:V:=.int 0
def z251:V:=.int 0
def z261:V:=.int 0
def z262:V:=.int 0
def z263:V:=.int 0
def z265:V:=.int 0
def z267:V:=.agg (List.replicate 64 (z5))
def tyL:List (Nat × TyD):=[(2,.int .i64),(3,.int .i64),(4,.bool),(5,.int .u8),(9,.str),(21,.int .i32),(22,.slice 139),(23,.slice 3),(24,.slice 121),(26,.struct [22,3,23,24]),(27,.arr 8 2),(28,.arr 4 3),(29,.arr 4 2),(31,.struct [29,3,4,3,3,2]),(32,.arr 4 31),(34,.struct [3,3,3,3,27]),(35,.arr 6 34),(37,.struct [27,28,32,35,3]),(39,.struct [3,3]),(41,.struct [26,37,39,3]),(43,.int .i64),(45,.struct [3,3,4]),(46,.arr 6 45),(48,.struct [3,3,3,43,3,2,2,46,3]),(49,.int .i64),(60,.slice 45),(64,.slice 39),(77,.struct [3,3,3]),(79,.slice 48),(81,.struct [79,37,4]),(106,.slice 37),(118,.slice 129),(119,.slice 124),(121,.struct [3,3,118,119]),(122,.slice 156),(124,.struct [122,3]),(129,.struct [43,3,3,3,2]),(131,.ptr 133),(133,.struct [26,37,3,3,2,4]),(135,.ptr 34),(139,.struct [4,2]),(142,.struct [3,3]),(149,.arr 6 3),(151,.fn),(154,.fn),(156,.struct [4,3,3,3]),(165,.fn),(171,.fn),(172,.fn),(175,.fn),(186,.fn),(189,.struct [37,2,3,3]),(194,.slice 2),(202,.ptr 204),(204,.struct [26,121]),(209,.int .u64),(210,.ptr 31),(230,.int .i64),(238,.int .u32),(240,.int .u64),(247,.int .u64),(251,.ptr 3),(261,.int .i8),(262,.int .i16),(263,.int .u16),(265,.ptr 247),(267,.arr 64 5)]
def szL:List (Nat × Nat):=[(2,1),(3,1),(4,1),(5,1),(9,1),(21,1),(22,1),(23,1),(24,1),(26,4),(27,8),(28,4),(29,4),(31,9),(32,36),(34,12),(35,72),(37,121),(39,2),(41,128),(43,1),(45,3),(46,18),(48,26),(49,1),(60,1),(64,1),(77,3),(79,1),(81,123),(106,1),(118,1),(119,1),(121,4),(122,1),(124,2),(129,5),(131,1),(133,129),(135,1),(139,2),(142,2),(149,6),(151,1),(154,1),(156,4),(165,1),(171,1),(172,1),(175,1),(186,1),(189,124),(194,1),(202,1),(204,8),(209,1),(210,1),(230,1),(238,1),(240,1),(247,1),(251,1),(261,1),(262,1),(263,1),(265,1),(267,64)]
def byL:List (Nat × Nat):=[(2,8),(3,8),(4,1),(5,1),(9,16),(21,4),(22,24),(23,24),(24,24),(26,80),(27,64),(28,32),(29,32),(31,72),(32,288),(34,96),(35,576),(37,968),(39,16),(41,1072),(43,8),(45,24),(46,144),(48,208),(49,8),(60,24),(64,24),(77,24),(79,24),(81,1000),(106,24),(118,24),(119,24),(121,64),(122,24),(124,32),(129,40),(131,8),(133,1080),(135,8),(139,16),(142,16),(149,48),(151,8),(154,8),(156,32),(165,8),(171,8),(172,8),(175,8),(186,8),(189,992),(194,24),(202,8),(204,144),(209,8),(210,8),(230,8),(238,4),(240,8),(247,8),(251,8),(261,1),(262,2),(263,2),(265,8),(267,64)]
def zeroL:List (Nat × V):=[(2,z2),(3,z3),(4,z4),(5,z5),(9,z9),(21,z21),(22,z22),(23,z23),(24,z24),(26,z26),(27,z27),(28,z28),(29,z29),(31,z31),(32,z32),(34,z34),(35,z35),(37,z37),(39,z39),(41,z41),(43,z43),(45,z45),(46,z46),(48,z48),(49,z49),(60,z60),(64,z64),(77,z77),(79,z79),(81,z81),(106,z106),(118,z118),(119,z119),(121,z121),(122,z122),(124,z124),(129,z129),(131,z131),(133,z133),(135,z135),(139,z139),(142,z142),(149,z149),(151,z151),(154,z154),(156,z156),(165,z165),(171,z171),(172,z172),(175,z175),(186,z186),(189,z189),(194,z194),(202,z202),(204,z204),(209,z209),(210,z210),(230,z230),(238,z238),(240,z240),(247,z247),(251,z251),(261,z261),(262,z262),(263,z263),(265,z265),(267,z267)]
def glob (w:World):Prop:=∀ j,j<Lib.deBruijn64tab.length→w.cell? ⟨0,j,none⟩=some (.int .u8 (Lib.deBruijn64tab.getD j 0))
theorem globB (w w':World) (h:glob w) (hb:Below w.heap.size w w'):glob w':=by
 intro j hj
 have h1:=h j hj
 have hlt:0<w.heap.size:=by
  by_cases q:0<w.heap.size
  · exact q
  · exfalso
    have:w.heap[0]?=none:=Array.getElem?_eq_none (by omega)
    simp [World.cell?,this] at h1
 rw [hb.cell hlt];exact h1
def tab:Tab:={ ty:=tyOf tyL,sz:=fun t=>(szL.lookup t).getD 0,by_:=fun t=>(byL.lookup t).getD 0,zero:=fun t=>(zeroL.lookup t).getD default,glob:=glob,globB:=globB }
theorem ty2:tab.ty 2=.int .i64:=rfl
theorem ty3:tab.ty 3=.int .i64:=rfl
theorem by3:tab.by_ 3=8:=rfl
theorem zero3:tab.zero 3=z3:=rfl
theorem ty4:tab.ty 4=.bool:=rfl
theorem ty5:tab.ty 5=.int .u8:=rfl
theorem ty9:tab.ty 9=.str:=rfl
theorem ty21:tab.ty 21=.int .i32:=rfl
theorem ty22:tab.ty 22=.slice 139:=rfl
theorem ty23:tab.ty 23=.slice 3:=rfl
theorem ty24:tab.ty 24=.slice 121:=rfl
theorem ty26:tab.ty 26=.struct [22,3,23,24]:=rfl
theorem ty27:tab.ty 27=.arr 8 2:=rfl
theorem ty28:tab.ty 28=.arr 4 3:=rfl
theorem ty29:tab.ty 29=.arr 4 2:=rfl
theorem zero29:tab.zero 29=z29:=rfl
theorem ty31:tab.ty 31=.struct [29,3,4,3,3,2]:=rfl
theorem ty32:tab.ty 32=.arr 4 31:=rfl
theorem ty34:tab.ty 34=.struct [3,3,3,3,27]:=rfl
theorem ty35:tab.ty 35=.arr 6 34:=rfl
theorem ty37:tab.ty 37=.struct [27,28,32,35,3]:=rfl
theorem by37:tab.by_ 37=968:=rfl
theorem ty39:tab.ty 39=.struct [3,3]:=rfl
theorem by39:tab.by_ 39=16:=rfl
theorem zero39:tab.zero 39=z39:=rfl
theorem ty41:tab.ty 41=.struct [26,37,39,3]:=rfl
theorem ty43:tab.ty 43=.int .i64:=rfl
theorem ty45:tab.ty 45=.struct [3,3,4]:=rfl
theorem by45:tab.by_ 45=24:=rfl
theorem ty46:tab.ty 46=.arr 6 45:=rfl
theorem ty48:tab.ty 48=.struct [3,3,3,43,3,2,2,46,3]:=rfl
theorem by48:tab.by_ 48=208:=rfl
theorem ty49:tab.ty 49=.int .i64:=rfl
theorem ty60:tab.ty 60=.slice 45:=rfl
theorem ty64:tab.ty 64=.slice 39:=rfl
theorem ty77:tab.ty 77=.struct [3,3,3]:=rfl
theorem ty79:tab.ty 79=.slice 48:=rfl
theorem ty81:tab.ty 81=.struct [79,37,4]:=rfl
theorem ty106:tab.ty 106=.slice 37:=rfl
theorem ty118:tab.ty 118=.slice 129:=rfl
theorem ty119:tab.ty 119=.slice 124:=rfl
theorem ty121:tab.ty 121=.struct [3,3,118,119]:=rfl
theorem ty122:tab.ty 122=.slice 156:=rfl
theorem ty124:tab.ty 124=.struct [122,3]:=rfl
theorem ty129:tab.ty 129=.struct [43,3,3,3,2]:=rfl
theorem ty131:tab.ty 131=.ptr 133:=rfl
theorem ty133:tab.ty 133=.struct [26,37,3,3,2,4]:=rfl
theorem ty135:tab.ty 135=.ptr 34:=rfl
theorem ty139:tab.ty 139=.struct [4,2]:=rfl
theorem ty142:tab.ty 142=.struct [3,3]:=rfl
theorem zero142:tab.zero 142=z142:=rfl
theorem ty149:tab.ty 149=.arr 6 3:=rfl
theorem ty151:tab.ty 151=.fn:=rfl
theorem ty154:tab.ty 154=.fn:=rfl
theorem ty156:tab.ty 156=.struct [4,3,3,3]:=rfl
theorem ty165:tab.ty 165=.fn:=rfl
theorem ty171:tab.ty 171=.fn:=rfl
theorem ty172:tab.ty 172=.fn:=rfl
theorem ty175:tab.ty 175=.fn:=rfl
theorem ty186:tab.ty 186=.fn:=rfl
theorem ty189:tab.ty 189=.struct [37,2,3,3]:=rfl
theorem ty194:tab.ty 194=.slice 2:=rfl
theorem ty202:tab.ty 202=.ptr 204:=rfl
theorem ty204:tab.ty 204=.struct [26,121]:=rfl
theorem ty209:tab.ty 209=.int .u64:=rfl
theorem ty210:tab.ty 210=.ptr 31:=rfl
theorem ty230:tab.ty 230=.int .i64:=rfl
theorem ty238:tab.ty 238=.int .u32:=rfl
theorem ty240:tab.ty 240=.int .u64:=rfl
theorem ty247:tab.ty 247=.int .u64:=rfl
theorem ty251:tab.ty 251=.ptr 3:=rfl
theorem ty261:tab.ty 261=.int .i8:=rfl
theorem ty262:tab.ty 262=.int .i16:=rfl
theorem ty263:tab.ty 263=.int .u16:=rfl
theorem ty265:tab.ty 265=.ptr 247:=rfl
theorem ty267:tab.ty 267=.arr 64 5:=rfl
def c2:List Value:=[.int .i64 0]
theorem f2 (w:World) (F:Nat→Prop):Fits tab w F 2 z2 c2:=.int rfl (by unfold IntKind.has;decide)
def c3:List Value:=[.int .i64 0]
theorem f3 (w:World) (F:Nat→Prop):Fits tab w F 3 z3 c3:=.int rfl (by unfold IntKind.has;decide)
def c4:List Value:=[.bool false]
theorem f4 (w:World) (F:Nat→Prop):Fits tab w F 4 z4 c4:=.bool rfl
def c5:List Value:=[.int .u8 0]
theorem f5 (w:World) (F:Nat→Prop):Fits tab w F 5 z5 c5:=.int rfl (by unfold IntKind.has;decide)
def c9:List Value:=[.string ByteArray.empty]
theorem f9 (w:World) (F:Nat→Prop):Fits tab w F 9 z9 c9:=.str rfl
def c21:List Value:=[.int .i32 0]
theorem f21 (w:World) (F:Nat→Prop):Fits tab w F 21 z21 c21:=.int rfl (by unfold IntKind.has;decide)
def c22:List Value:=[.slice none 0 0]
theorem f22 (w:World) (F:Nat→Prop):Fits tab w F 22 z22 c22:=.nil rfl
def c23:List Value:=[.slice none 0 0]
theorem f23 (w:World) (F:Nat→Prop):Fits tab w F 23 z23 c23:=.nil rfl
def c24:List Value:=[.slice none 0 0]
theorem f24 (w:World) (F:Nat→Prop):Fits tab w F 24 z24 c24:=.nil rfl
def c26:List Value:=c22++(c3++(c23++(c24++[])))
theorem f26 (w:World) (F:Nat→Prop):Fits tab w F 26 z26 c26:=.struct (ts:=[22,3,23,24]) rfl (.cons (f22 w F) (.cons (f3 w F) (.cons (f23 w F) (.cons (f24 w F) (.nil)))))
def c27:List Value:=(List.replicate 8 c2).flatten
theorem f27 (w:World) (F:Nat→Prop):Fits tab w F 27 z27 c27:=.arr (n:=8) (e:=2) rfl (FitsL.repl (f2 w F) 8)
def c28:List Value:=(List.replicate 4 c3).flatten
theorem f28 (w:World) (F:Nat→Prop):Fits tab w F 28 z28 c28:=.arr (n:=4) (e:=3) rfl (FitsL.repl (f3 w F) 4)
def c29:List Value:=(List.replicate 4 c2).flatten
theorem f29 (w:World) (F:Nat→Prop):Fits tab w F 29 z29 c29:=.arr (n:=4) (e:=2) rfl (FitsL.repl (f2 w F) 4)
def c31:List Value:=c29++(c3++(c4++(c3++(c3++(c2++[])))))
theorem f31 (w:World) (F:Nat→Prop):Fits tab w F 31 z31 c31:=.struct (ts:=[29,3,4,3,3,2]) rfl (.cons (f29 w F) (.cons (f3 w F) (.cons (f4 w F) (.cons (f3 w F) (.cons (f3 w F) (.cons (f2 w F) (.nil)))))))
def c32:List Value:=(List.replicate 4 c31).flatten
theorem f32 (w:World) (F:Nat→Prop):Fits tab w F 32 z32 c32:=.arr (n:=4) (e:=31) rfl (FitsL.repl (f31 w F) 4)
def c34:List Value:=c3++(c3++(c3++(c3++(c27++[]))))
theorem f34 (w:World) (F:Nat→Prop):Fits tab w F 34 z34 c34:=.struct (ts:=[3,3,3,3,27]) rfl (.cons (f3 w F) (.cons (f3 w F) (.cons (f3 w F) (.cons (f3 w F) (.cons (f27 w F) (.nil))))))
def c35:List Value:=(List.replicate 6 c34).flatten
theorem f35 (w:World) (F:Nat→Prop):Fits tab w F 35 z35 c35:=.arr (n:=6) (e:=34) rfl (FitsL.repl (f34 w F) 6)
def c37:List Value:=c27++(c28++(c32++(c35++(c3++[]))))
theorem f37 (w:World) (F:Nat→Prop):Fits tab w F 37 z37 c37:=.struct (ts:=[27,28,32,35,3]) rfl (.cons (f27 w F) (.cons (f28 w F) (.cons (f32 w F) (.cons (f35 w F) (.cons (f3 w F) (.nil))))))
def c39:List Value:=c3++(c3++[])
theorem f39 (w:World) (F:Nat→Prop):Fits tab w F 39 z39 c39:=.struct (ts:=[3,3]) rfl (.cons (f3 w F) (.cons (f3 w F) (.nil)))
def c41:List Value:=c26++(c37++(c39++(c3++[])))
theorem f41 (w:World) (F:Nat→Prop):Fits tab w F 41 z41 c41:=.struct (ts:=[26,37,39,3]) rfl (.cons (f26 w F) (.cons (f37 w F) (.cons (f39 w F) (.cons (f3 w F) (.nil)))))
def c43:List Value:=[.int .i64 0]
theorem f43 (w:World) (F:Nat→Prop):Fits tab w F 43 z43 c43:=.int rfl (by unfold IntKind.has;decide)
def c45:List Value:=c3++(c3++(c4++[]))
theorem f45 (w:World) (F:Nat→Prop):Fits tab w F 45 z45 c45:=.struct (ts:=[3,3,4]) rfl (.cons (f3 w F) (.cons (f3 w F) (.cons (f4 w F) (.nil))))
def c46:List Value:=(List.replicate 6 c45).flatten
theorem f46 (w:World) (F:Nat→Prop):Fits tab w F 46 z46 c46:=.arr (n:=6) (e:=45) rfl (FitsL.repl (f45 w F) 6)
def c48:List Value:=c3++(c3++(c3++(c43++(c3++(c2++(c2++(c46++(c3++[]))))))))
theorem f48 (w:World) (F:Nat→Prop):Fits tab w F 48 z48 c48:=.struct (ts:=[3,3,3,43,3,2,2,46,3]) rfl (.cons (f3 w F) (.cons (f3 w F) (.cons (f3 w F) (.cons (f43 w F) (.cons (f3 w F) (.cons (f2 w F) (.cons (f2 w F) (.cons (f46 w F) (.cons (f3 w F) (.nil))))))))))
def c49:List Value:=[.int .i64 0]
theorem f49 (w:World) (F:Nat→Prop):Fits tab w F 49 z49 c49:=.int rfl (by unfold IntKind.has;decide)
def c60:List Value:=[.slice none 0 0]
theorem f60 (w:World) (F:Nat→Prop):Fits tab w F 60 z60 c60:=.nil rfl
def c64:List Value:=[.slice none 0 0]
theorem f64 (w:World) (F:Nat→Prop):Fits tab w F 64 z64 c64:=.nil rfl
def c77:List Value:=c3++(c3++(c3++[]))
theorem f77 (w:World) (F:Nat→Prop):Fits tab w F 77 z77 c77:=.struct (ts:=[3,3,3]) rfl (.cons (f3 w F) (.cons (f3 w F) (.cons (f3 w F) (.nil))))
def c79:List Value:=[.slice none 0 0]
theorem f79 (w:World) (F:Nat→Prop):Fits tab w F 79 z79 c79:=.nil rfl
def c81:List Value:=c79++(c37++(c4++[]))
theorem f81 (w:World) (F:Nat→Prop):Fits tab w F 81 z81 c81:=.struct (ts:=[79,37,4]) rfl (.cons (f79 w F) (.cons (f37 w F) (.cons (f4 w F) (.nil))))
def c106:List Value:=[.slice none 0 0]
theorem f106 (w:World) (F:Nat→Prop):Fits tab w F 106 z106 c106:=.nil rfl
def c118:List Value:=[.slice none 0 0]
theorem f118 (w:World) (F:Nat→Prop):Fits tab w F 118 z118 c118:=.nil rfl
def c119:List Value:=[.slice none 0 0]
theorem f119 (w:World) (F:Nat→Prop):Fits tab w F 119 z119 c119:=.nil rfl
def c121:List Value:=c3++(c3++(c118++(c119++[])))
theorem f121 (w:World) (F:Nat→Prop):Fits tab w F 121 z121 c121:=.struct (ts:=[3,3,118,119]) rfl (.cons (f3 w F) (.cons (f3 w F) (.cons (f118 w F) (.cons (f119 w F) (.nil)))))
def c122:List Value:=[.slice none 0 0]
theorem f122 (w:World) (F:Nat→Prop):Fits tab w F 122 z122 c122:=.nil rfl
def c124:List Value:=c122++(c3++[])
theorem f124 (w:World) (F:Nat→Prop):Fits tab w F 124 z124 c124:=.struct (ts:=[122,3]) rfl (.cons (f122 w F) (.cons (f3 w F) (.nil)))
def c129:List Value:=c43++(c3++(c3++(c3++(c2++[]))))
theorem f129 (w:World) (F:Nat→Prop):Fits tab w F 129 z129 c129:=.struct (ts:=[43,3,3,3,2]) rfl (.cons (f43 w F) (.cons (f3 w F) (.cons (f3 w F) (.cons (f3 w F) (.cons (f2 w F) (.nil))))))
def c133:List Value:=c26++(c37++(c3++(c3++(c2++(c4++[])))))
theorem f133 (w:World) (F:Nat→Prop):Fits tab w F 133 z133 c133:=.struct (ts:=[26,37,3,3,2,4]) rfl (.cons (f26 w F) (.cons (f37 w F) (.cons (f3 w F) (.cons (f3 w F) (.cons (f2 w F) (.cons (f4 w F) (.nil)))))))
def c139:List Value:=c4++(c2++[])
theorem f139 (w:World) (F:Nat→Prop):Fits tab w F 139 z139 c139:=.struct (ts:=[4,2]) rfl (.cons (f4 w F) (.cons (f2 w F) (.nil)))
def c142:List Value:=c3++(c3++[])
theorem f142 (w:World) (F:Nat→Prop):Fits tab w F 142 z142 c142:=.struct (ts:=[3,3]) rfl (.cons (f3 w F) (.cons (f3 w F) (.nil)))
def c149:List Value:=(List.replicate 6 c3).flatten
theorem f149 (w:World) (F:Nat→Prop):Fits tab w F 149 z149 c149:=.arr (n:=6) (e:=3) rfl (FitsL.repl (f3 w F) 6)
def c156:List Value:=c4++(c3++(c3++(c3++[])))
theorem f156 (w:World) (F:Nat→Prop):Fits tab w F 156 z156 c156:=.struct (ts:=[4,3,3,3]) rfl (.cons (f4 w F) (.cons (f3 w F) (.cons (f3 w F) (.cons (f3 w F) (.nil)))))
def c189:List Value:=c37++(c2++(c3++(c3++[])))
theorem f189 (w:World) (F:Nat→Prop):Fits tab w F 189 z189 c189:=.struct (ts:=[37,2,3,3]) rfl (.cons (f37 w F) (.cons (f2 w F) (.cons (f3 w F) (.cons (f3 w F) (.nil)))))
def c194:List Value:=[.slice none 0 0]
theorem f194 (w:World) (F:Nat→Prop):Fits tab w F 194 z194 c194:=.nil rfl
def c204:List Value:=c26++(c121++[])
theorem f204 (w:World) (F:Nat→Prop):Fits tab w F 204 z204 c204:=.struct (ts:=[26,121]) rfl (.cons (f26 w F) (.cons (f121 w F) (.nil)))
def c209:List Value:=[.int .u64 0]
theorem f209 (w:World) (F:Nat→Prop):Fits tab w F 209 z209 c209:=.int rfl (by unfold IntKind.has;decide)
def c230:List Value:=[.int .i64 0]
theorem f230 (w:World) (F:Nat→Prop):Fits tab w F 230 z230 c230:=.int rfl (by unfold IntKind.has;decide)
def c238:List Value:=[.int .u32 0]
theorem f238 (w:World) (F:Nat→Prop):Fits tab w F 238 z238 c238:=.int rfl (by unfold IntKind.has;decide)
def c240:List Value:=[.int .u64 0]
theorem f240 (w:World) (F:Nat→Prop):Fits tab w F 240 z240 c240:=.int rfl (by unfold IntKind.has;decide)
def c247:List Value:=[.int .u64 0]
theorem f247 (w:World) (F:Nat→Prop):Fits tab w F 247 z247 c247:=.int rfl (by unfold IntKind.has;decide)
def c261:List Value:=[.int .i8 0]
theorem f261 (w:World) (F:Nat→Prop):Fits tab w F 261 z261 c261:=.int rfl (by unfold IntKind.has;decide)
def c262:List Value:=[.int .i16 0]
theorem f262 (w:World) (F:Nat→Prop):Fits tab w F 262 z262 c262:=.int rfl (by unfold IntKind.has;decide)
def c263:List Value:=[.int .u16 0]
theorem f263 (w:World) (F:Nat→Prop):Fits tab w F 263 z263 c263:=.int rfl (by unfold IntKind.has;decide)
def c267:List Value:=(List.replicate 64 c5).flatten
theorem f267 (w:World) (F:Nat→Prop):Fits tab w F 267 z267 c267:=.arr (n:=64) (e:=5) rfl (FitsL.repl (f5 w F) 64)
theorem row2:RowOk Go.Proofs.Tryz.prog tab 2 (.int .i64):=⟨⟨by kernel_rfl,rfl⟩,(.int .i64 0),by kernel_rfl,by kernel_rfl,by kernel_rfl,by first|rfl|(simp [TyD.isAgg,Value.cells];done)|(simp [TyD.isAgg,Value.oneCell'];done),(fun _ _ w F=>(f2 w F:Fits tab w F 2 z2 c2)),(fun h=>by cases h),(fun _ h=>by cases h),by kernel_rfl⟩
theorem row3:RowOk Go.Proofs.Tryz.prog tab 3 (.int .i64):=⟨⟨by kernel_rfl,rfl⟩,(.int .i64 0),by kernel_rfl,by kernel_rfl,by kernel_rfl,by first|rfl|(simp [TyD.isAgg,Value.cells];done)|(simp [TyD.isAgg,Value.oneCell'];done),(fun _ _ w F=>(f3 w F:Fits tab w F 3 z3 c3)),(fun h=>by cases h),(fun _ h=>by cases h),by kernel_rfl⟩
theorem row4:RowOk Go.Proofs.Tryz.prog tab 4 (.bool):=⟨⟨by kernel_rfl,rfl⟩,(.bool false),by kernel_rfl,by kernel_rfl,by kernel_rfl,by first|rfl|(simp [TyD.isAgg,Value.cells];done)|(simp [TyD.isAgg,Value.oneCell'];done),(fun _ _ w F=>(f4 w F:Fits tab w F 4 z4 c4)),(fun h=>by cases h),(fun _ h=>by cases h),by kernel_rfl⟩
theorem row5:RowOk Go.Proofs.Tryz.prog tab 5 (.int .u8):=⟨⟨by kernel_rfl,rfl⟩,(.int .u8 0),by kernel_rfl,by kernel_rfl,by kernel_rfl,by first|rfl|(simp [TyD.isAgg,Value.cells];done)|(simp [TyD.isAgg,Value.oneCell'];done),(fun _ _ w F=>(f5 w F:Fits tab w F 5 z5 c5)),(fun h=>by cases h),(fun _ h=>by cases h),by kernel_rfl⟩
theorem row9:RowOk Go.Proofs.Tryz.prog tab 9 (.str):=⟨⟨by kernel_rfl,rfl⟩,(.string ByteArray.empty),by kernel_rfl,by kernel_rfl,by kernel_rfl,by first|rfl|(simp [TyD.isAgg,Value.cells];done)|(simp [TyD.isAgg,Value.oneCell'];done),(fun _ _ w F=>(f9 w F:Fits tab w F 9 z9 c9)),(fun h=>by cases h),(fun _ h=>by cases h),by kernel_rfl⟩
theorem row21:RowOk Go.Proofs.Tryz.prog tab 21 (.int .i32):=⟨⟨by kernel_rfl,rfl⟩,(.int .i32 0),by kernel_rfl,by kernel_rfl,by kernel_rfl,by first|rfl|(simp [TyD.isAgg,Value.cells];done)|(simp [TyD.isAgg,Value.oneCell'];done),(fun _ _ w F=>(f21 w F:Fits tab w F 21 z21 c21)),(fun h=>by cases h),(fun _ h=>by cases h),by kernel_rfl⟩
theorem row22:RowOk Go.Proofs.Tryz.prog tab 22 (.slice 139):=⟨⟨⟨by kernel_rfl,by rw [ty139];simp⟩,rfl,by decide⟩,(.slice none 0 0),by kernel_rfl,by kernel_rfl,by kernel_rfl,by first|rfl|(simp [TyD.isAgg,Value.cells];done)|(simp [TyD.isAgg,Value.oneCell'];done),(fun _ _ w F=>(f22 w F:Fits tab w F 22 z22 c22)),(fun h=>by cases h),fun _ _=>rfl,by kernel_rfl⟩
theorem row23:RowOk Go.Proofs.Tryz.prog tab 23 (.slice 3):=⟨⟨⟨by kernel_rfl,by rw [ty3];simp⟩,rfl,by decide⟩,(.slice none 0 0),by kernel_rfl,by kernel_rfl,by kernel_rfl,by first|rfl|(simp [TyD.isAgg,Value.cells];done)|(simp [TyD.isAgg,Value.oneCell'];done),(fun _ _ w F=>(f23 w F:Fits tab w F 23 z23 c23)),(fun h=>by cases h),fun _ _=>rfl,by kernel_rfl⟩
theorem row24:RowOk Go.Proofs.Tryz.prog tab 24 (.slice 121):=⟨⟨⟨by kernel_rfl,by rw [ty121];simp⟩,rfl,by decide⟩,(.slice none 0 0),by kernel_rfl,by kernel_rfl,by kernel_rfl,by first|rfl|(simp [TyD.isAgg,Value.cells];done)|(simp [TyD.isAgg,Value.oneCell'];done),(fun _ _ w F=>(f24 w F:Fits tab w F 24 z24 c24)),(fun h=>by cases h),fun _ _=>rfl,by kernel_rfl⟩
theorem row26:RowOk Go.Proofs.Tryz.prog tab 26 (.struct [22,3,23,24]):=⟨⟨⟨_,Go.Proofs.Tryz.underlying26,by kernel_rfl,by kernel_rfl,by kernel_rfl⟩,rfl,by kernel_rfl⟩,(.agg c26.toArray),by kernel_rfl,by kernel_rfl,by kernel_rfl,by first|rfl|(simp [TyD.isAgg,Value.cells];done)|(simp [TyD.isAgg,Value.oneCell'];done),(fun _ _ w F=>(f26 w F:Fits tab w F 26 z26 c26)),(fun h=>by cases h),(fun _ h=>by cases h),by kernel_rfl⟩
theorem row27:RowOk Go.Proofs.Tryz.prog tab 27 (.arr 8 2):=⟨⟨⟨by kernel_rfl,by decide,by decide,by rw [ty2];simp⟩,rfl,by kernel_rfl⟩,(.agg c27.toArray),by kernel_rfl,by kernel_rfl,by kernel_rfl,by first|rfl|(simp [TyD.isAgg,Value.cells];done)|(simp [TyD.isAgg,Value.oneCell'];done),(fun _ _ w F=>(f27 w F:Fits tab w F 27 z27 c27)),(fun h=>by cases h),(fun _ h=>by cases h),by kernel_rfl⟩
theorem row28:RowOk Go.Proofs.Tryz.prog tab 28 (.arr 4 3):=⟨⟨⟨by kernel_rfl,by decide,by decide,by rw [ty3];simp⟩,rfl,by kernel_rfl⟩,(.agg c28.toArray),by kernel_rfl,by kernel_rfl,by kernel_rfl,by first|rfl|(simp [TyD.isAgg,Value.cells];done)|(simp [TyD.isAgg,Value.oneCell'];done),(fun _ _ w F=>(f28 w F:Fits tab w F 28 z28 c28)),(fun h=>by cases h),(fun _ h=>by cases h),by kernel_rfl⟩
theorem row29:RowOk Go.Proofs.Tryz.prog tab 29 (.arr 4 2):=⟨⟨⟨by kernel_rfl,by decide,by decide,by rw [ty2];simp⟩,rfl,by kernel_rfl⟩,(.agg c29.toArray),by kernel_rfl,by kernel_rfl,by kernel_rfl,by first|rfl|(simp [TyD.isAgg,Value.cells];done)|(simp [TyD.isAgg,Value.oneCell'];done),(fun _ _ w F=>(f29 w F:Fits tab w F 29 z29 c29)),(fun h=>by cases h),(fun _ h=>by cases h),by kernel_rfl⟩
theorem row31:RowOk Go.Proofs.Tryz.prog tab 31 (.struct [29,3,4,3,3,2]):=⟨⟨⟨_,Go.Proofs.Tryz.underlying31,by kernel_rfl,by kernel_rfl,by kernel_rfl⟩,rfl,by kernel_rfl⟩,(.agg c31.toArray),by kernel_rfl,by kernel_rfl,by kernel_rfl,by first|rfl|(simp [TyD.isAgg,Value.cells];done)|(simp [TyD.isAgg,Value.oneCell'];done),(fun _ _ w F=>(f31 w F:Fits tab w F 31 z31 c31)),(fun h=>by cases h),(fun _ h=>by cases h),by kernel_rfl⟩
theorem row32:RowOk Go.Proofs.Tryz.prog tab 32 (.arr 4 31):=⟨⟨⟨by kernel_rfl,by decide,by decide,by rw [ty31];simp⟩,rfl,by kernel_rfl⟩,(.agg c32.toArray),by kernel_rfl,by kernel_rfl,by kernel_rfl,by first|rfl|(simp [TyD.isAgg,Value.cells];done)|(simp [TyD.isAgg,Value.oneCell'];done),(fun _ _ w F=>(f32 w F:Fits tab w F 32 z32 c32)),(fun h=>by cases h),(fun _ h=>by cases h),by kernel_rfl⟩
theorem row34:RowOk Go.Proofs.Tryz.prog tab 34 (.struct [3,3,3,3,27]):=⟨⟨⟨_,Go.Proofs.Tryz.underlying34,by kernel_rfl,by kernel_rfl,by kernel_rfl⟩,rfl,by kernel_rfl⟩,(.agg c34.toArray),by kernel_rfl,by kernel_rfl,by kernel_rfl,by first|rfl|(simp [TyD.isAgg,Value.cells];done)|(simp [TyD.isAgg,Value.oneCell'];done),(fun _ _ w F=>(f34 w F:Fits tab w F 34 z34 c34)),(fun h=>by cases h),(fun _ h=>by cases h),by kernel_rfl⟩
theorem row35:RowOk Go.Proofs.Tryz.prog tab 35 (.arr 6 34):=⟨⟨⟨by kernel_rfl,by decide,by decide,by rw [ty34];simp⟩,rfl,by kernel_rfl⟩,(.agg c35.toArray),by kernel_rfl,by kernel_rfl,by kernel_rfl,by first|rfl|(simp [TyD.isAgg,Value.cells];done)|(simp [TyD.isAgg,Value.oneCell'];done),(fun _ _ w F=>(f35 w F:Fits tab w F 35 z35 c35)),(fun h=>by cases h),(fun _ h=>by cases h),by kernel_rfl⟩
theorem row37:RowOk Go.Proofs.Tryz.prog tab 37 (.struct [27,28,32,35,3]):=⟨⟨⟨_,Go.Proofs.Tryz.underlying37,by kernel_rfl,by kernel_rfl,by kernel_rfl⟩,rfl,by kernel_rfl⟩,(.agg c37.toArray),by kernel_rfl,by kernel_rfl,by kernel_rfl,by first|rfl|(simp [TyD.isAgg,Value.cells];done)|(simp [TyD.isAgg,Value.oneCell'];done),(fun _ _ w F=>(f37 w F:Fits tab w F 37 z37 c37)),(fun h=>by cases h),(fun _ h=>by cases h),by kernel_rfl⟩
theorem row39:RowOk Go.Proofs.Tryz.prog tab 39 (.struct [3,3]):=⟨⟨⟨_,Go.Proofs.Tryz.underlying39,by kernel_rfl,by kernel_rfl,by kernel_rfl⟩,rfl,by kernel_rfl⟩,(.agg c39.toArray),by kernel_rfl,by kernel_rfl,by kernel_rfl,by first|rfl|(simp [TyD.isAgg,Value.cells];done)|(simp [TyD.isAgg,Value.oneCell'];done),(fun _ _ w F=>(f39 w F:Fits tab w F 39 z39 c39)),(fun h=>by cases h),(fun _ h=>by cases h),by kernel_rfl⟩
theorem row41:RowOk Go.Proofs.Tryz.prog tab 41 (.struct [26,37,39,3]):=⟨⟨⟨_,Go.Proofs.Tryz.underlying41,by kernel_rfl,by kernel_rfl,by kernel_rfl⟩,rfl,by kernel_rfl⟩,(.agg c41.toArray),by kernel_rfl,by kernel_rfl,by kernel_rfl,by first|rfl|(simp [TyD.isAgg,Value.cells];done)|(simp [TyD.isAgg,Value.oneCell'];done),(fun _ _ w F=>(f41 w F:Fits tab w F 41 z41 c41)),(fun h=>by cases h),(fun _ h=>by cases h),by kernel_rfl⟩
theorem row43:RowOk Go.Proofs.Tryz.prog tab 43 (.int .i64):=⟨⟨by kernel_rfl,rfl⟩,(.int .i64 0),by kernel_rfl,by kernel_rfl,by kernel_rfl,by first|rfl|(simp [TyD.isAgg,Value.cells];done)|(simp [TyD.isAgg,Value.oneCell'];done),(fun _ _ w F=>(f43 w F:Fits tab w F 43 z43 c43)),(fun h=>by cases h),(fun _ h=>by cases h),by kernel_rfl⟩
theorem row45:RowOk Go.Proofs.Tryz.prog tab 45 (.struct [3,3,4]):=⟨⟨⟨_,Go.Proofs.Tryz.underlying45,by kernel_rfl,by kernel_rfl,by kernel_rfl⟩,rfl,by kernel_rfl⟩,(.agg c45.toArray),by kernel_rfl,by kernel_rfl,by kernel_rfl,by first|rfl|(simp [TyD.isAgg,Value.cells];done)|(simp [TyD.isAgg,Value.oneCell'];done),(fun _ _ w F=>(f45 w F:Fits tab w F 45 z45 c45)),(fun h=>by cases h),(fun _ h=>by cases h),by kernel_rfl⟩
theorem row46:RowOk Go.Proofs.Tryz.prog tab 46 (.arr 6 45):=⟨⟨⟨by kernel_rfl,by decide,by decide,by rw [ty45];simp⟩,rfl,by kernel_rfl⟩,(.agg c46.toArray),by kernel_rfl,by kernel_rfl,by kernel_rfl,by first|rfl|(simp [TyD.isAgg,Value.cells];done)|(simp [TyD.isAgg,Value.oneCell'];done),(fun _ _ w F=>(f46 w F:Fits tab w F 46 z46 c46)),(fun h=>by cases h),(fun _ h=>by cases h),by kernel_rfl⟩
theorem row48:RowOk Go.Proofs.Tryz.prog tab 48 (.struct [3,3,3,43,3,2,2,46,3]):=⟨⟨⟨_,Go.Proofs.Tryz.underlying48,by kernel_rfl,by kernel_rfl,by kernel_rfl⟩,rfl,by kernel_rfl⟩,(.agg c48.toArray),by kernel_rfl,by kernel_rfl,by kernel_rfl,by first|rfl|(simp [TyD.isAgg,Value.cells];done)|(simp [TyD.isAgg,Value.oneCell'];done),(fun _ _ w F=>(f48 w F:Fits tab w F 48 z48 c48)),(fun h=>by cases h),(fun _ h=>by cases h),by kernel_rfl⟩
theorem row49:RowOk Go.Proofs.Tryz.prog tab 49 (.int .i64):=⟨⟨by kernel_rfl,rfl⟩,(.int .i64 0),by kernel_rfl,by kernel_rfl,by kernel_rfl,by first|rfl|(simp [TyD.isAgg,Value.cells];done)|(simp [TyD.isAgg,Value.oneCell'];done),(fun _ _ w F=>(f49 w F:Fits tab w F 49 z49 c49)),(fun h=>by cases h),(fun _ h=>by cases h),by kernel_rfl⟩
theorem row60:RowOk Go.Proofs.Tryz.prog tab 60 (.slice 45):=⟨⟨⟨by kernel_rfl,by rw [ty45];simp⟩,rfl,by decide⟩,(.slice none 0 0),by kernel_rfl,by kernel_rfl,by kernel_rfl,by first|rfl|(simp [TyD.isAgg,Value.cells];done)|(simp [TyD.isAgg,Value.oneCell'];done),(fun _ _ w F=>(f60 w F:Fits tab w F 60 z60 c60)),(fun h=>by cases h),fun _ _=>rfl,by kernel_rfl⟩
theorem row64:RowOk Go.Proofs.Tryz.prog tab 64 (.slice 39):=⟨⟨⟨by kernel_rfl,by rw [ty39];simp⟩,rfl,by decide⟩,(.slice none 0 0),by kernel_rfl,by kernel_rfl,by kernel_rfl,by first|rfl|(simp [TyD.isAgg,Value.cells];done)|(simp [TyD.isAgg,Value.oneCell'];done),(fun _ _ w F=>(f64 w F:Fits tab w F 64 z64 c64)),(fun h=>by cases h),fun _ _=>rfl,by kernel_rfl⟩
theorem row77:RowOk Go.Proofs.Tryz.prog tab 77 (.struct [3,3,3]):=⟨⟨⟨_,Go.Proofs.Tryz.underlying77,by kernel_rfl,by kernel_rfl,by kernel_rfl⟩,rfl,by kernel_rfl⟩,(.agg c77.toArray),by kernel_rfl,by kernel_rfl,by kernel_rfl,by first|rfl|(simp [TyD.isAgg,Value.cells];done)|(simp [TyD.isAgg,Value.oneCell'];done),(fun _ _ w F=>(f77 w F:Fits tab w F 77 z77 c77)),(fun h=>by cases h),(fun _ h=>by cases h),by kernel_rfl⟩
theorem row79:RowOk Go.Proofs.Tryz.prog tab 79 (.slice 48):=⟨⟨⟨by kernel_rfl,by rw [ty48];simp⟩,rfl,by decide⟩,(.slice none 0 0),by kernel_rfl,by kernel_rfl,by kernel_rfl,by first|rfl|(simp [TyD.isAgg,Value.cells];done)|(simp [TyD.isAgg,Value.oneCell'];done),(fun _ _ w F=>(f79 w F:Fits tab w F 79 z79 c79)),(fun h=>by cases h),fun _ _=>rfl,by kernel_rfl⟩
theorem row81:RowOk Go.Proofs.Tryz.prog tab 81 (.struct [79,37,4]):=⟨⟨⟨_,Go.Proofs.Tryz.underlying81,by kernel_rfl,by kernel_rfl,by kernel_rfl⟩,rfl,by kernel_rfl⟩,(.agg c81.toArray),by kernel_rfl,by kernel_rfl,by kernel_rfl,by first|rfl|(simp [TyD.isAgg,Value.cells];done)|(simp [TyD.isAgg,Value.oneCell'];done),(fun _ _ w F=>(f81 w F:Fits tab w F 81 z81 c81)),(fun h=>by cases h),(fun _ h=>by cases h),by kernel_rfl⟩
theorem row106:RowOk Go.Proofs.Tryz.prog tab 106 (.slice 37):=⟨⟨⟨by kernel_rfl,by rw [ty37];simp⟩,rfl,by decide⟩,(.slice none 0 0),by kernel_rfl,by kernel_rfl,by kernel_rfl,by first|rfl|(simp [TyD.isAgg,Value.cells];done)|(simp [TyD.isAgg,Value.oneCell'];done),(fun _ _ w F=>(f106 w F:Fits tab w F 106 z106 c106)),(fun h=>by cases h),fun _ _=>rfl,by kernel_rfl⟩
theorem row118:RowOk Go.Proofs.Tryz.prog tab 118 (.slice 129):=⟨⟨⟨by kernel_rfl,by rw [ty129];simp⟩,rfl,by decide⟩,(.slice none 0 0),by kernel_rfl,by kernel_rfl,by kernel_rfl,by first|rfl|(simp [TyD.isAgg,Value.cells];done)|(simp [TyD.isAgg,Value.oneCell'];done),(fun _ _ w F=>(f118 w F:Fits tab w F 118 z118 c118)),(fun h=>by cases h),fun _ _=>rfl,by kernel_rfl⟩
theorem row119:RowOk Go.Proofs.Tryz.prog tab 119 (.slice 124):=⟨⟨⟨by kernel_rfl,by rw [ty124];simp⟩,rfl,by decide⟩,(.slice none 0 0),by kernel_rfl,by kernel_rfl,by kernel_rfl,by first|rfl|(simp [TyD.isAgg,Value.cells];done)|(simp [TyD.isAgg,Value.oneCell'];done),(fun _ _ w F=>(f119 w F:Fits tab w F 119 z119 c119)),(fun h=>by cases h),fun _ _=>rfl,by kernel_rfl⟩
theorem row121:RowOk Go.Proofs.Tryz.prog tab 121 (.struct [3,3,118,119]):=⟨⟨⟨_,Go.Proofs.Tryz.underlying121,by kernel_rfl,by kernel_rfl,by kernel_rfl⟩,rfl,by kernel_rfl⟩,(.agg c121.toArray),by kernel_rfl,by kernel_rfl,by kernel_rfl,by first|rfl|(simp [TyD.isAgg,Value.cells];done)|(simp [TyD.isAgg,Value.oneCell'];done),(fun _ _ w F=>(f121 w F:Fits tab w F 121 z121 c121)),(fun h=>by cases h),(fun _ h=>by cases h),by kernel_rfl⟩
theorem row122:RowOk Go.Proofs.Tryz.prog tab 122 (.slice 156):=⟨⟨⟨by kernel_rfl,by rw [ty156];simp⟩,rfl,by decide⟩,(.slice none 0 0),by kernel_rfl,by kernel_rfl,by kernel_rfl,by first|rfl|(simp [TyD.isAgg,Value.cells];done)|(simp [TyD.isAgg,Value.oneCell'];done),(fun _ _ w F=>(f122 w F:Fits tab w F 122 z122 c122)),(fun h=>by cases h),fun _ _=>rfl,by kernel_rfl⟩
theorem row124:RowOk Go.Proofs.Tryz.prog tab 124 (.struct [122,3]):=⟨⟨⟨_,Go.Proofs.Tryz.underlying124,by kernel_rfl,by kernel_rfl,by kernel_rfl⟩,rfl,by kernel_rfl⟩,(.agg c124.toArray),by kernel_rfl,by kernel_rfl,by kernel_rfl,by first|rfl|(simp [TyD.isAgg,Value.cells];done)|(simp [TyD.isAgg,Value.oneCell'];done),(fun _ _ w F=>(f124 w F:Fits tab w F 124 z124 c124)),(fun h=>by cases h),(fun _ h=>by cases h),by kernel_rfl⟩
theorem row129:RowOk Go.Proofs.Tryz.prog tab 129 (.struct [43,3,3,3,2]):=⟨⟨⟨_,Go.Proofs.Tryz.underlying129,by kernel_rfl,by kernel_rfl,by kernel_rfl⟩,rfl,by kernel_rfl⟩,(.agg c129.toArray),by kernel_rfl,by kernel_rfl,by kernel_rfl,by first|rfl|(simp [TyD.isAgg,Value.cells];done)|(simp [TyD.isAgg,Value.oneCell'];done),(fun _ _ w F=>(f129 w F:Fits tab w F 129 z129 c129)),(fun h=>by cases h),(fun _ h=>by cases h),by kernel_rfl⟩
theorem row131:RowOk Go.Proofs.Tryz.prog tab 131 (.ptr 133):=⟨⟨⟨by kernel_rfl,by rw [ty133];simp⟩,rfl⟩,(.pointer none),by kernel_rfl,by kernel_rfl,by kernel_rfl,by first|rfl|(simp [TyD.isAgg,Value.cells];done)|(simp [TyD.isAgg,Value.oneCell'];done),(fun _ h=>absurd rfl (h _)),(fun h=>by cases h),(fun _ h=>by cases h),by kernel_rfl⟩
theorem row133:RowOk Go.Proofs.Tryz.prog tab 133 (.struct [26,37,3,3,2,4]):=⟨⟨⟨_,Go.Proofs.Tryz.underlying133,by kernel_rfl,by kernel_rfl,by kernel_rfl⟩,rfl,by kernel_rfl⟩,(.agg c133.toArray),by kernel_rfl,by kernel_rfl,by kernel_rfl,by first|rfl|(simp [TyD.isAgg,Value.cells];done)|(simp [TyD.isAgg,Value.oneCell'];done),(fun _ _ w F=>(f133 w F:Fits tab w F 133 z133 c133)),(fun h=>by cases h),(fun _ h=>by cases h),by kernel_rfl⟩
theorem row135:RowOk Go.Proofs.Tryz.prog tab 135 (.ptr 34):=⟨⟨⟨by kernel_rfl,by rw [ty34];simp⟩,rfl⟩,(.pointer none),by kernel_rfl,by kernel_rfl,by kernel_rfl,by first|rfl|(simp [TyD.isAgg,Value.cells];done)|(simp [TyD.isAgg,Value.oneCell'];done),(fun _ h=>absurd rfl (h _)),(fun h=>by cases h),(fun _ h=>by cases h),by kernel_rfl⟩
theorem row139:RowOk Go.Proofs.Tryz.prog tab 139 (.struct [4,2]):=⟨⟨⟨_,Go.Proofs.Tryz.underlying139,by kernel_rfl,by kernel_rfl,by kernel_rfl⟩,rfl,by kernel_rfl⟩,(.agg c139.toArray),by kernel_rfl,by kernel_rfl,by kernel_rfl,by first|rfl|(simp [TyD.isAgg,Value.cells];done)|(simp [TyD.isAgg,Value.oneCell'];done),(fun _ _ w F=>(f139 w F:Fits tab w F 139 z139 c139)),(fun h=>by cases h),(fun _ h=>by cases h),by kernel_rfl⟩
theorem row142:RowOk Go.Proofs.Tryz.prog tab 142 (.struct [3,3]):=⟨⟨⟨_,Go.Proofs.Tryz.underlying142,by kernel_rfl,by kernel_rfl,by kernel_rfl⟩,rfl,by kernel_rfl⟩,(.agg c142.toArray),by kernel_rfl,by kernel_rfl,by kernel_rfl,by first|rfl|(simp [TyD.isAgg,Value.cells];done)|(simp [TyD.isAgg,Value.oneCell'];done),(fun _ _ w F=>(f142 w F:Fits tab w F 142 z142 c142)),(fun h=>by cases h),(fun _ h=>by cases h),by kernel_rfl⟩
theorem row149:RowOk Go.Proofs.Tryz.prog tab 149 (.arr 6 3):=⟨⟨⟨by kernel_rfl,by decide,by decide,by rw [ty3];simp⟩,rfl,by kernel_rfl⟩,(.agg c149.toArray),by kernel_rfl,by kernel_rfl,by kernel_rfl,by first|rfl|(simp [TyD.isAgg,Value.cells];done)|(simp [TyD.isAgg,Value.oneCell'];done),(fun _ _ w F=>(f149 w F:Fits tab w F 149 z149 c149)),(fun h=>by cases h),(fun _ h=>by cases h),by kernel_rfl⟩
theorem row151:RowOk Go.Proofs.Tryz.prog tab 151 (.fn):=⟨⟨⟨_,_,_,Go.Proofs.Tryz.underlying151⟩,rfl⟩,.nilFunc,by kernel_rfl,by kernel_rfl,by kernel_rfl,by first|rfl|(simp [TyD.isAgg,Value.cells];done)|(simp [TyD.isAgg,Value.oneCell'];done),(fun h=>absurd rfl h),fun _=>rfl,(fun _ h=>by cases h),by kernel_rfl⟩
theorem row154:RowOk Go.Proofs.Tryz.prog tab 154 (.fn):=⟨⟨⟨_,_,_,Go.Proofs.Tryz.underlying154⟩,rfl⟩,.nilFunc,by kernel_rfl,by kernel_rfl,by kernel_rfl,by first|rfl|(simp [TyD.isAgg,Value.cells];done)|(simp [TyD.isAgg,Value.oneCell'];done),(fun h=>absurd rfl h),fun _=>rfl,(fun _ h=>by cases h),by kernel_rfl⟩
theorem row156:RowOk Go.Proofs.Tryz.prog tab 156 (.struct [4,3,3,3]):=⟨⟨⟨_,Go.Proofs.Tryz.underlying156,by kernel_rfl,by kernel_rfl,by kernel_rfl⟩,rfl,by kernel_rfl⟩,(.agg c156.toArray),by kernel_rfl,by kernel_rfl,by kernel_rfl,by first|rfl|(simp [TyD.isAgg,Value.cells];done)|(simp [TyD.isAgg,Value.oneCell'];done),(fun _ _ w F=>(f156 w F:Fits tab w F 156 z156 c156)),(fun h=>by cases h),(fun _ h=>by cases h),by kernel_rfl⟩
theorem row165:RowOk Go.Proofs.Tryz.prog tab 165 (.fn):=⟨⟨⟨_,_,_,Go.Proofs.Tryz.underlying165⟩,rfl⟩,.nilFunc,by kernel_rfl,by kernel_rfl,by kernel_rfl,by first|rfl|(simp [TyD.isAgg,Value.cells];done)|(simp [TyD.isAgg,Value.oneCell'];done),(fun h=>absurd rfl h),fun _=>rfl,(fun _ h=>by cases h),by kernel_rfl⟩
theorem row171:RowOk Go.Proofs.Tryz.prog tab 171 (.fn):=⟨⟨⟨_,_,_,Go.Proofs.Tryz.underlying171⟩,rfl⟩,.nilFunc,by kernel_rfl,by kernel_rfl,by kernel_rfl,by first|rfl|(simp [TyD.isAgg,Value.cells];done)|(simp [TyD.isAgg,Value.oneCell'];done),(fun h=>absurd rfl h),fun _=>rfl,(fun _ h=>by cases h),by kernel_rfl⟩
theorem row172:RowOk Go.Proofs.Tryz.prog tab 172 (.fn):=⟨⟨⟨_,_,_,Go.Proofs.Tryz.underlying172⟩,rfl⟩,.nilFunc,by kernel_rfl,by kernel_rfl,by kernel_rfl,by first|rfl|(simp [TyD.isAgg,Value.cells];done)|(simp [TyD.isAgg,Value.oneCell'];done),(fun h=>absurd rfl h),fun _=>rfl,(fun _ h=>by cases h),by kernel_rfl⟩
theorem row175:RowOk Go.Proofs.Tryz.prog tab 175 (.fn):=⟨⟨⟨_,_,_,Go.Proofs.Tryz.underlying175⟩,rfl⟩,.nilFunc,by kernel_rfl,by kernel_rfl,by kernel_rfl,by first|rfl|(simp [TyD.isAgg,Value.cells];done)|(simp [TyD.isAgg,Value.oneCell'];done),(fun h=>absurd rfl h),fun _=>rfl,(fun _ h=>by cases h),by kernel_rfl⟩
theorem row186:RowOk Go.Proofs.Tryz.prog tab 186 (.fn):=⟨⟨⟨_,_,_,Go.Proofs.Tryz.underlying186⟩,rfl⟩,.nilFunc,by kernel_rfl,by kernel_rfl,by kernel_rfl,by first|rfl|(simp [TyD.isAgg,Value.cells];done)|(simp [TyD.isAgg,Value.oneCell'];done),(fun h=>absurd rfl h),fun _=>rfl,(fun _ h=>by cases h),by kernel_rfl⟩
theorem row189:RowOk Go.Proofs.Tryz.prog tab 189 (.struct [37,2,3,3]):=⟨⟨⟨_,Go.Proofs.Tryz.underlying189,by kernel_rfl,by kernel_rfl,by kernel_rfl⟩,rfl,by kernel_rfl⟩,(.agg c189.toArray),by kernel_rfl,by kernel_rfl,by kernel_rfl,by first|rfl|(simp [TyD.isAgg,Value.cells];done)|(simp [TyD.isAgg,Value.oneCell'];done),(fun _ _ w F=>(f189 w F:Fits tab w F 189 z189 c189)),(fun h=>by cases h),(fun _ h=>by cases h),by kernel_rfl⟩
theorem row194:RowOk Go.Proofs.Tryz.prog tab 194 (.slice 2):=⟨⟨⟨by kernel_rfl,by rw [ty2];simp⟩,rfl,by decide⟩,(.slice none 0 0),by kernel_rfl,by kernel_rfl,by kernel_rfl,by first|rfl|(simp [TyD.isAgg,Value.cells];done)|(simp [TyD.isAgg,Value.oneCell'];done),(fun _ _ w F=>(f194 w F:Fits tab w F 194 z194 c194)),(fun h=>by cases h),fun _ _=>rfl,by kernel_rfl⟩
theorem row202:RowOk Go.Proofs.Tryz.prog tab 202 (.ptr 204):=⟨⟨⟨by kernel_rfl,by rw [ty204];simp⟩,rfl⟩,(.pointer none),by kernel_rfl,by kernel_rfl,by kernel_rfl,by first|rfl|(simp [TyD.isAgg,Value.cells];done)|(simp [TyD.isAgg,Value.oneCell'];done),(fun _ h=>absurd rfl (h _)),(fun h=>by cases h),(fun _ h=>by cases h),by kernel_rfl⟩
theorem row204:RowOk Go.Proofs.Tryz.prog tab 204 (.struct [26,121]):=⟨⟨⟨_,Go.Proofs.Tryz.underlying204,by kernel_rfl,by kernel_rfl,by kernel_rfl⟩,rfl,by kernel_rfl⟩,(.agg c204.toArray),by kernel_rfl,by kernel_rfl,by kernel_rfl,by first|rfl|(simp [TyD.isAgg,Value.cells];done)|(simp [TyD.isAgg,Value.oneCell'];done),(fun _ _ w F=>(f204 w F:Fits tab w F 204 z204 c204)),(fun h=>by cases h),(fun _ h=>by cases h),by kernel_rfl⟩
theorem row209:RowOk Go.Proofs.Tryz.prog tab 209 (.int .u64):=⟨⟨by kernel_rfl,rfl⟩,(.int .u64 0),by kernel_rfl,by kernel_rfl,by kernel_rfl,by first|rfl|(simp [TyD.isAgg,Value.cells];done)|(simp [TyD.isAgg,Value.oneCell'];done),(fun _ _ w F=>(f209 w F:Fits tab w F 209 z209 c209)),(fun h=>by cases h),(fun _ h=>by cases h),by kernel_rfl⟩
theorem row210:RowOk Go.Proofs.Tryz.prog tab 210 (.ptr 31):=⟨⟨⟨by kernel_rfl,by rw [ty31];simp⟩,rfl⟩,(.pointer none),by kernel_rfl,by kernel_rfl,by kernel_rfl,by first|rfl|(simp [TyD.isAgg,Value.cells];done)|(simp [TyD.isAgg,Value.oneCell'];done),(fun _ h=>absurd rfl (h _)),(fun h=>by cases h),(fun _ h=>by cases h),by kernel_rfl⟩
theorem row230:RowOk Go.Proofs.Tryz.prog tab 230 (.int .i64):=⟨⟨by kernel_rfl,rfl⟩,(.int .i64 0),by kernel_rfl,by kernel_rfl,by kernel_rfl,by first|rfl|(simp [TyD.isAgg,Value.cells];done)|(simp [TyD.isAgg,Value.oneCell'];done),(fun _ _ w F=>(f230 w F:Fits tab w F 230 z230 c230)),(fun h=>by cases h),(fun _ h=>by cases h),by kernel_rfl⟩
theorem row238:RowOk Go.Proofs.Tryz.prog tab 238 (.int .u32):=⟨⟨by kernel_rfl,rfl⟩,(.int .u32 0),by kernel_rfl,by kernel_rfl,by kernel_rfl,by first|rfl|(simp [TyD.isAgg,Value.cells];done)|(simp [TyD.isAgg,Value.oneCell'];done),(fun _ _ w F=>(f238 w F:Fits tab w F 238 z238 c238)),(fun h=>by cases h),(fun _ h=>by cases h),by kernel_rfl⟩
theorem row240:RowOk Go.Proofs.Tryz.prog tab 240 (.int .u64):=⟨⟨by kernel_rfl,rfl⟩,(.int .u64 0),by kernel_rfl,by kernel_rfl,by kernel_rfl,by first|rfl|(simp [TyD.isAgg,Value.cells];done)|(simp [TyD.isAgg,Value.oneCell'];done),(fun _ _ w F=>(f240 w F:Fits tab w F 240 z240 c240)),(fun h=>by cases h),(fun _ h=>by cases h),by kernel_rfl⟩
theorem row247:RowOk Go.Proofs.Tryz.prog tab 247 (.int .u64):=⟨⟨by kernel_rfl,rfl⟩,(.int .u64 0),by kernel_rfl,by kernel_rfl,by kernel_rfl,by first|rfl|(simp [TyD.isAgg,Value.cells];done)|(simp [TyD.isAgg,Value.oneCell'];done),(fun _ _ w F=>(f247 w F:Fits tab w F 247 z247 c247)),(fun h=>by cases h),(fun _ h=>by cases h),by kernel_rfl⟩
theorem row251:RowOk Go.Proofs.Tryz.prog tab 251 (.ptr 3):=⟨⟨⟨by kernel_rfl,by rw [ty3];simp⟩,rfl⟩,(.pointer none),by kernel_rfl,by kernel_rfl,by kernel_rfl,by first|rfl|(simp [TyD.isAgg,Value.cells];done)|(simp [TyD.isAgg,Value.oneCell'];done),(fun _ h=>absurd rfl (h _)),(fun h=>by cases h),(fun _ h=>by cases h),by kernel_rfl⟩
theorem row261:RowOk Go.Proofs.Tryz.prog tab 261 (.int .i8):=⟨⟨by kernel_rfl,rfl⟩,(.int .i8 0),by kernel_rfl,by kernel_rfl,by kernel_rfl,by first|rfl|(simp [TyD.isAgg,Value.cells];done)|(simp [TyD.isAgg,Value.oneCell'];done),(fun _ _ w F=>(f261 w F:Fits tab w F 261 z261 c261)),(fun h=>by cases h),(fun _ h=>by cases h),by kernel_rfl⟩
theorem row262:RowOk Go.Proofs.Tryz.prog tab 262 (.int .i16):=⟨⟨by kernel_rfl,rfl⟩,(.int .i16 0),by kernel_rfl,by kernel_rfl,by kernel_rfl,by first|rfl|(simp [TyD.isAgg,Value.cells];done)|(simp [TyD.isAgg,Value.oneCell'];done),(fun _ _ w F=>(f262 w F:Fits tab w F 262 z262 c262)),(fun h=>by cases h),(fun _ h=>by cases h),by kernel_rfl⟩
theorem row263:RowOk Go.Proofs.Tryz.prog tab 263 (.int .u16):=⟨⟨by kernel_rfl,rfl⟩,(.int .u16 0),by kernel_rfl,by kernel_rfl,by kernel_rfl,by first|rfl|(simp [TyD.isAgg,Value.cells];done)|(simp [TyD.isAgg,Value.oneCell'];done),(fun _ _ w F=>(f263 w F:Fits tab w F 263 z263 c263)),(fun h=>by cases h),(fun _ h=>by cases h),by kernel_rfl⟩
theorem row265:RowOk Go.Proofs.Tryz.prog tab 265 (.ptr 247):=⟨⟨⟨by kernel_rfl,by rw [ty247];simp⟩,rfl⟩,(.pointer none),by kernel_rfl,by kernel_rfl,by kernel_rfl,by first|rfl|(simp [TyD.isAgg,Value.cells];done)|(simp [TyD.isAgg,Value.oneCell'];done),(fun _ h=>absurd rfl (h _)),(fun h=>by cases h),(fun _ h=>by cases h),by kernel_rfl⟩
theorem row267:RowOk Go.Proofs.Tryz.prog tab 267 (.arr 64 5):=⟨⟨⟨by kernel_rfl,by decide,by decide,by rw [ty5];simp⟩,rfl,by kernel_rfl⟩,(.agg c267.toArray),by kernel_rfl,by kernel_rfl,by kernel_rfl,by first|rfl|(simp [TyD.isAgg,Value.cells];done)|(simp [TyD.isAgg,Value.oneCell'];done),(fun _ _ w F=>(f267 w F:Fits tab w F 267 z267 c267)),(fun h=>by cases h),(fun _ h=>by cases h),by kernel_rfl⟩
set_option maxRecDepth 20000
theorem ok:TabOk Go.Proofs.Tryz.prog tab:=tabOk rfl (by
 intro p hp
 simp only [tyL,List.mem_cons,List.not_mem_nil,or_false] at hp
 rcases hp with rfl|rfl|rfl|rfl|rfl|rfl|rfl|rfl|rfl|rfl|rfl|rfl|rfl|rfl|rfl|rfl|rfl|rfl|rfl|rfl|rfl|rfl|rfl|rfl|rfl|rfl|rfl|rfl|rfl|rfl|rfl|rfl|rfl|rfl|rfl|rfl|rfl|rfl|rfl|rfl|rfl|rfl|rfl|rfl|rfl|rfl|rfl|rfl|rfl|rfl|rfl|rfl|rfl|rfl|rfl|rfl|rfl|rfl|rfl|rfl|rfl|rfl|rfl|rfl|rfl|rfl|rfl
 · exact row2
 · exact row3
 · exact row4
 · exact row5
 · exact row9
 · exact row21
 · exact row22
 · exact row23
 · exact row24
 · exact row26
 · exact row27
 · exact row28
 · exact row29
 · exact row31
 · exact row32
 · exact row34
 · exact row35
 · exact row37
 · exact row39
 · exact row41
 · exact row43
 · exact row45
 · exact row46
 · exact row48
 · exact row49
 · exact row60
 · exact row64
 · exact row77
 · exact row79
 · exact row81
 · exact row106
 · exact row118
 · exact row119
 · exact row121
 · exact row122
 · exact row124
 · exact row129
 · exact row131
 · exact row133
 · exact row135
 · exact row139
 · exact row142
 · exact row149
 · exact row151
 · exact row154
 · exact row156
 · exact row165
 · exact row171
 · exact row172
 · exact row175
 · exact row186
 · exact row189
 · exact row194
 · exact row202
 · exact row204
 · exact row209
 · exact row210
 · exact row230
 · exact row238
 · exact row240
 · exact row247
 · exact row251
 · exact row261
 · exact row262
 · exact row263
 · exact row265
 · exact row267)
theorem mixed:Go.Proofs.Tryz.prog.follows .mixedOrders=true:=by kernel_rfl
end Go.Eng.Tryz
