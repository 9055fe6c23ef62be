/- A part of the proof: walks through the program's functions, and what they compute. -/
import Derived.Test.YtedceinkpkoncaaGreatDoorPk12
import Derived.Test.YtedceinkpkoncaaGreatDoorPk9
import Derived.Test.YtedceinkpkoncaaGreatDoorPk11
set_option linter.unusedSimpArgs false
set_option linter.unusedVariables false
namespace Go.Eng
def firstNZ:List Int→Int
 | []=>0
 | x::l=>if x≠0 then x else firstNZ l
theorem firstNZ_append (a b:List Int):firstNZ (a++b)=if firstNZ a≠0 then firstNZ a else firstNZ b:=by
 induction a with
 | nil=>simp [firstNZ]
 | cons x a ih =>
   simp only [List.cons_append,firstNZ]
   by_cases h:x=0
   · simpa [h] using ih
   · simp [h]
theorem firstNZ_snoc (a:List Int) (x:Int):firstNZ (a++[x])=if firstNZ a≠0 then firstNZ a else x:=by
 rw [firstNZ_append]
 by_cases h:firstNZ a=0
 · by_cases hx:x=0<;>simp [h,firstNZ,hx]
 · simp [h]
theorem firstNZ_range (g:Nat→Int) (n:Nat):firstNZ ((List.range (n+1)).map g)=if firstNZ ((List.range n).map g)≠0 then firstNZ ((List.range n).map g) else g n:=by
 rw [List.range_succ,List.map_append,List.map_cons,List.map_nil,firstNZ_snoc]
theorem firstNZ_take {α:Type} [Inhabited α] (g:α→Int) (l:List α) {n:Nat} (h:n<l.length):firstNZ ((l.take (n+1)).map g)=if firstNZ ((l.take n).map g)≠0 then firstNZ ((l.take n).map g) else g (l.getD n default):=by
 rw [List.take_succ_eq_append_getElem h,List.map_append,List.map_cons,List.map_nil,firstNZ_snoc]
 simp [List.getD_eq_getElem?_getD,h]
theorem firstNZ_hit {α:Type} [Inhabited α] (g:α→Int) (l:List α) {n:Nat} (h:n<l.length) (h0:firstNZ ((l.take n).map g)=0) (h1:g (l.getD n default)≠0):firstNZ (l.map g)=g (l.getD n default):=by
 have e:l.map g=(l.take (n+1)).map g++(l.drop (n+1)).map g:=by rw [← List.map_append,List.take_append_drop]
 have e2:firstNZ ((l.take (n+1)).map g)=g (l.getD n default):=by rw [firstNZ_take g l h,if_neg (fun q=>q h0)]
 rw [e,firstNZ_append,e2,if_pos h1]
theorem findIdx_range {p:Nat→Bool} {n i:Nat} (hi:i≤n) (h0:∀ j,j<i→p j=false) (h1:i=n∨p i=true):(List.range n).findIdx p=i:=by
 rcases Nat.lt_or_ge i n with h|h
 · have h1:p i=true:=h1.resolve_left (by omega)
   rw [List.findIdx_eq (by simpa using h)]
   refine ⟨by simpa using h1,fun j hj=>?_⟩
   simpa using h0 j hj
 · have:i=n:=by omega
   subst this
   have:(List.range i).findIdx p=(List.range i).length:=by
    rw [List.findIdx_eq_length]
    intro x hx
    simpa using h0 x (by simpa using hx)
   simpa using this
theorem firstNZ_zero {a:List Int}:firstNZ a=0↔∀ x∈a,x=0:=by
 induction a with
 | nil=>simp [firstNZ]
 | cons x a ih =>
   simp only [firstNZ,List.mem_cons,forall_eq_or_imp]
   split
   · rename_i h;simp [h]
   · rename_i h;rw [ih];simp at h;simp [h]
def formL (op:Int):List Nat :=
 if 1≤op∧op≤15 then [114,114,45,45]
 else if 16≤op∧op≤36 then [114,114,114,45]
 else if op=40 then [114,45,45,110]
 else if op=41 then [114,114,45,45]
 else if op=42 then [116,45,45,45]
 else if op=43 then [114,116,45,45]
 else if op=44 then [114,45,45,110]
 else if op=45 then [45,45,45,45]
 else if op=50 then [114,118,45,45]
 else if op=51 then [118,114,45,45]
 else if op=52 then [111,97,114,45]
 else if op=53 then [114,97,114,119]
 else if op=54 then [97,114,45,45]
 else if op=55∨op=56 then [108,45,45,45]
 else if op=57 then [114,108,45,45]
 else if op=58 then [99,114,45,45]
 else if op=59 then [111,99,111,45]
 else if op=60 then [99,45,45,45]
 else if op=61 then [115,45,45,45]
 else if op=62 then [111,102,112,45]
 else if op=63 then [114,45,45,45]
 else if op=64 then [45,45,45,45]
 else if op=65 then [114,45,45,110]
 else []
def formB (op:Int):ByteArray:=⟨((formL op).map Nat.toUInt8).toArray⟩
theorem formL_fin:∀ n:Fin 66,(∀ x∈formL n.val,x<256)∧((isLocal n.val||isVisible n.val)=true→(formL n.val).length=4):=by decide +kernel
theorem formL_none {op:Int} (h:op<1∨65<op):formL op=[]:=by
 unfold formL
 rw [if_neg (by omega),if_neg (by omega),if_neg (by omega),if_neg (by omega),if_neg (by omega),if_neg (by omega),if_neg (by omega),if_neg (by omega),if_neg (by omega),if_neg (by omega),if_neg (by omega),if_neg (by omega),if_neg (by omega),if_neg (by omega),if_neg (by omega),if_neg (by omega),if_neg (by omega),if_neg (by omega),if_neg (by omega),if_neg (by omega),if_neg (by omega),if_neg (by omega),if_neg (by omega)]
theorem formL_lt (op:Int):∀ x∈formL op,x<256:=by
 by_cases h:op<1∨65<op
 · rw [formL_none h];simp
 · have:=(formL_fin ⟨op.toNat,by omega⟩).1
   rwa [show ((⟨op.toNat,by omega⟩:Fin 66).val:Int)=op from by simp;omega] at this
theorem formB_at (op:Int) (j:Nat):((((formB op).data[j]?).getD 0).toNat:Int)=(((formL op).getD j 0:Nat):Int):=by
 simp only [formB,List.getElem?_toArray,List.getElem?_map,List.getD_eq_getElem?_getD]
 cases h:(formL op)[j]? with
 | none=>rfl
 | some x =>
   have:=formL_lt op x (List.mem_of_getElem? h)
   simp
   omega
theorem formB_size (op:Int):(formB op).size=(formL op).length:=by simp [formB,ByteArray.size]
theorem formL_four {op:Int} (h:isLocal op=true∨isVisible op=true):(formL op).length=4:=by
 have hr:1≤op∧op≤65:=by simp [isLocal,isVisible] at h;omega
 have:=(formL_fin ⟨op.toNat,by omega⟩).2
 rw [show ((⟨op.toNat,by omega⟩:Fin 66).val:Int)=op from by simp;omega] at this
 exact this (by simpa using h)
def operandErr (p:Prg) (f:Fnc) (letter:Int) (x:Int) (i:Instr):Int :=
 if letter=114∨letter=119 then (if within x f.regs then 0 else 35)
 else if letter=111 then (if x ≠ -1∧within x f.regs=false then 35 else 0)
 else if letter=112 then (if ((p.fn i.b).params=0∧x≠0)∨(0<(p.fn i.b).params∧(x<0∨w64 (f.regs-(p.fn i.b).params)<x)) then 35 else 0)
 else if letter=118 then (if within x p.vars.length then 0 else 36)
 else if letter=97 then (if within x p.vars.length then (if (p.vars.getD x.toNat default).atomic then 0 else 37) else 36)
 else if letter=108 then (if within x p.locks then 0 else 36)
 else if letter=99 then (if within x p.chans.length then 0 else 36)
 else if letter=115 then (if within x f.sels.length then 0 else 36)
 else if letter=102 then (if within x p.funcs.length then 0 else 36)
 else if letter=116 then (if within x f.code.length then 0 else 38)
 else 0
def Instr.field (i:Instr) (j:Nat):Int:=[i.a,i.b,i.c,i.n].getD j 0
theorem field_getD (i:Instr) (j:Nat):[V.int i.a,V.int i.b,V.int i.c,V.int i.n].getD j default=.int (i.field j):=getD_ints [i.a,i.b,i.c,i.n] j
def letterAt (i:Instr) (j:Nat):Int:=((formL i.op).getD j 0:Nat)
def unusedTo (i:Instr) (n:Nat):Bool:=(List.range n).any fun j=>decide (letterAt i j=45)&&decide (i.field j≠0)
def operTo (p:Prg) (f:Fnc) (i:Instr) (n:Nat):Int:=firstNZ ((List.range n).map fun j=>operandErr p f (letterAt i j) (i.field j) i)
def instrErr (p:Prg) (f:Fnc) (i:Instr):Int :=
 if isLocal i.op=false∧isVisible i.op=false then 33 else if unusedTo i 4 then 34 else operTo p f i 4
theorem letter_fin:∀ n:Fin 66,∀ j:Fin 4,(formL n.val).getD j.val 0=112→n.val=62∧j.val=2:=by decide +kernel
theorem letter_112 {i:Instr} {j:Nat} (h:letterAt i j=112):i.op=62∧j=2:=by
 unfold letterAt at h
 by_cases hr:i.op<1∨65<i.op
 · rw [formL_none hr] at h;simp at h
 · have e:((⟨i.op.toNat,by omega⟩:Fin 66).val:Int)=i.op:=by simp;omega
   by_cases hj:j<4
   · have:=letter_fin ⟨i.op.toNat,by omega⟩ ⟨j,hj⟩
     rw [e] at this
     have:=this (by exact_mod_cast h)
     simp at this
     omega
   · have hl:(formL i.op).length≤4:=by
      by_cases hv:isLocal i.op=true∨isVisible i.op=true
      · rw [formL_four hv];exact Nat.le_refl _
      · have:formL i.op=[]:=by
         simp [isLocal,isVisible] at hv
         unfold formL
         (repeat (rw [if_neg (by omega)]))
        rw [this];simp
     rw [List.getD_eq_getElem?_getD,List.getElem?_eq_none (by omega)] at h
     simp at h
theorem operTo_succ (p:Prg) (f:Fnc) (i:Instr) (n:Nat):operTo p f i (n+1)=if operTo p f i n≠0 then operTo p f i n else operandErr p f (letterAt i n) (i.field n) i:=firstNZ_range _ _
theorem operTo_end {p:Prg} {f:Fnc} {i:Instr} {n:Nat} (h:operTo p f i n≠0):∀ m,operTo p f i (n+m)=operTo p f i n
 | 0=>rfl
 | m+1=>by rw [← Nat.add_assoc,operTo_succ,operTo_end h m,if_pos h]
theorem unusedTo_succ (i:Instr) (n:Nat):unusedTo i (n+1)=(unusedTo i n||(decide (letterAt i n=45)&&decide (i.field n≠0))):=any_range_succ _ _
theorem unusedTo_end {i:Instr} {n:Nat} (h:unusedTo i n=true):∀ m,unusedTo i (n+m)=true
 | 0=>h
 | m+1=>by rw [← Nat.add_assoc,unusedTo_succ,unusedTo_end h m];rfl
theorem oper_112 {p:Prg} {f:Fnc} {i:Instr} {j:Nat} (h0:operTo p f i j=0) (h:letterAt i j=112):0≤i.b∧i.b<p.funcs.length:=by
 obtain ⟨h62,rfl⟩:=letter_112 h
 rw [operTo_succ] at h0
 split at h0
 · rename_i hn;exact absurd h0 hn
 · have e1:letterAt i 1=102:=by simp [letterAt,h62,formL]
   have e2:i.field 1=i.b:=rfl
   rw [e1,e2] at h0
   by_cases hw:within i.b p.funcs.length=true
   · simpa [within] using hw
   · simp [operandErr,hw] at h0
def caseErr (p:Prg) (f:Fnc) (c:Cas):Int :=
 if within c.chan p.chans.length=false then 36
 else if within c.reg f.regs=false∧(c.send=true∨c.reg ≠ -1) then 35
 else if c.send=true∧p.cap c.chan=0 then 37
 else if within c.to_ f.code.length=false then 38 else 0
theorem within_false {x n:Int}:within x n=false↔x<0∨n≤x:=by
 unfold within
 rw [Bool.and_eq_false_iff]
 simp only [decide_eq_false_iff_not]
 omega
theorem caseErr_36 {p:Prg} {f:Fnc} {c:Cas} (h:c.chan<0∨(p.chans.length:Int)≤c.chan):caseErr p f c=36:=by
 unfold caseErr;rw [if_pos (within_false.2 h)]
theorem caseErr_35 {p:Prg} {f:Fnc} {c:Cas} (h:0≤c.chan∧c.chan<(p.chans.length:Int)) (h2:(c.reg<0∨f.regs≤c.reg)∧(c.send=true∨¬c.reg = -1)):caseErr p f c=35:=by
 unfold caseErr;rw [if_neg (by rw [within_false];omega),if_pos ⟨within_false.2 h2.1,h2.2⟩]
theorem caseErr_37 {p:Prg} {f:Fnc} {c:Cas} (h:0≤c.chan∧c.chan<(p.chans.length:Int)) (h2:c.reg<0∨f.regs≤c.reg→c.send=false∧c.reg = -1) (h3:c.send=true∧p.chans.getD c.chan.toNat 0=0):caseErr p f c=37:=by
 unfold caseErr Prg.cap
 rw [if_neg (by rw [within_false];omega),if_neg (by rw [within_false];rintro ⟨q1,q2⟩;have:=h2 q1;simp_all),if_pos h3]
theorem caseErr_38 {p:Prg} {f:Fnc} {c:Cas} (h:0≤c.chan∧c.chan<(p.chans.length:Int)) (h2:c.reg<0∨f.regs≤c.reg→c.send=false∧c.reg = -1) (h3:c.send=true→¬p.chans.getD c.chan.toNat 0=0) (h4:c.to_<0∨(f.code.length:Int)≤c.to_):caseErr p f c=38:=by
 unfold caseErr Prg.cap
 rw [if_neg (by rw [within_false];omega),if_neg (by rw [within_false];rintro ⟨q1,q2⟩;have:=h2 q1;simp_all),if_neg (fun q=>h3 q.1 q.2),if_pos (within_false.2 h4)]
theorem caseErr_0 {p:Prg} {f:Fnc} {c:Cas} (h:0≤c.chan∧c.chan<(p.chans.length:Int)) (h2:c.reg<0∨f.regs≤c.reg→c.send=false∧c.reg = -1) (h3:c.send=true→¬p.chans.getD c.chan.toNat 0=0) (h4:0≤c.to_∧c.to_<(f.code.length:Int)):caseErr p f c=0:=by
 unfold caseErr Prg.cap
 rw [if_neg (by rw [within_false];omega),if_neg (by rw [within_false];rintro ⟨q1,q2⟩;have:=h2 q1;simp_all),if_neg (fun q=>h3 q.1 q.2),if_neg (by rw [within_false];omega)]
def casesErr (p:Prg) (f:Fnc) (s:Sel) (n:Nat):Int:=firstNZ ((s.cases.take n).map (caseErr p f))
def selErr (p:Prg) (f:Fnc) (s:Sel):Int :=
 let e:=casesErr p f s s.cases.length
 if e≠0 then e else if s.els ≠ -1∧within s.els f.code.length=false then 38 else 0
def selsErr (p:Prg) (f:Fnc) (n:Nat):Int:=firstNZ ((f.sels.take n).map (selErr p f))
def selsShort (f:Fnc) (n:Nat):Bool:=(f.sels.take n).all fun s=>decide (1≤s.cases.length)&&decide (s.cases.length≤4)
def formed (n:Int) (f:Fnc):Bool :=
 if f.regs<0∨8<f.regs∨f.params<0∨f.regs<f.params∨(n=0∧f.params≠0) then false
 else if f.code.length<1∨64<f.code.length∨4<f.sels.length then false
 else selsShort f f.sels.length
theorem all_take {α:Type} [Inhabited α] (f:α→Bool) (b:List α) {i:Nat} (h:i<b.length):(b.take (i+1)).all f=((b.take i).all f&&f (b.getD i default)):=by
 rw [List.take_succ_eq_append_getElem h]
 simp only [List.all_append,List.all_cons,List.all_nil,Bool.and_true,List.getD_eq_getElem?_getD,List.getElem?_eq_getElem h,Option.getD_some]
theorem all_miss {α:Type} [Inhabited α] {f:α→Bool} {b:List α} {i:Nat} (h:i<b.length) (h0:f (b.getD i default)=false):b.all f=false:=by
 rw [List.all_eq_false]
 exact ⟨_,getD_mem b h,by rw [h0];simp⟩
theorem selsErr_succ (p:Prg) (f:Fnc) {i:Nat} (h:i<f.sels.length):selsErr p f (i+1)=if selsErr p f i≠0 then selsErr p f i else selErr p f (f.sels.getD i default):=firstNZ_take _ _ h
theorem casesErr_succ (p:Prg) (f:Fnc) (s:Sel) {i:Nat} (h:i<s.cases.length):casesErr p f s (i+1)=if casesErr p f s i≠0 then casesErr p f s i else caseErr p f (s.cases.getD i default):=firstNZ_take _ _ h
theorem sels_hit {p:Prg} {f:Fnc} {i:Nat} (hi:i<f.sels.length) (hz:selsErr p f i=0) {e:Int} (he:selErr p f (f.sels.getD i default)=e) (hne:e≠0):selsErr p f f.sels.length=e:=by
 unfold selsErr
 rw [List.take_length,firstNZ_hit _ _ hi hz (by rw [he];exact hne),he]
theorem selects_hit {p:Prg} {f:Fnc} {i j:Nat} (hi:i<f.sels.length) (hz:selsErr p f i=0) (hj:j<(f.sels.getD i default).cases.length) (hc:casesErr p f (f.sels.getD i default) j=0) {e:Int} (he:caseErr p f ((f.sels.getD i default).cases.getD j default)=e) (hne:e≠0):selsErr p f f.sels.length=e:=by
 refine sels_hit hi hz ?_ hne
 have:casesErr p f (f.sels.getD i default) (f.sels.getD i default).cases.length=e:=by
  unfold casesErr
  rw [List.take_length,firstNZ_hit _ _ hj hc (by rw [he];exact hne),he]
 simp only [selErr,this]
 rw [if_pos hne]
theorem getD_mem_sels {f:Fnc} {i:Nat} (hi:i<f.sels.length):f.sels.getD i default∈f.sels:=getD_mem _ hi
def codeErr (p:Prg) (f:Fnc) (n:Nat):Int:=firstNZ ((f.code.take n).map (instrErr p f))
def lastOk (f:Fnc):Bool :=
 let l:=(f.at_ ((f.code.length:Int)-1)).op
 decide (l=42)||decide (l=45)||decide (l=61)
def funcErr (p:Prg) (n:Int) (f:Fnc):Int :=
 if formed n f=false then 32
 else if selsErr p f f.sels.length≠0 then selsErr p f f.sels.length
 else if codeErr p f f.code.length≠0 then codeErr p f f.code.length
 else if lastOk f then 0 else 39
def funcsErr (p:Prg) (n:Nat):Int:=firstNZ ((List.range n).map fun (i:Nat)=>funcErr p i (p.fn i))
def capsErr (p:Prg) (n:Nat):Bool:=(p.chans.take n).all fun c=>decide (0≤c)&&decide (c≤4)
def funcPc (p:Prg) (n:Int) (f:Fnc):Int :=
 if formed n f=false then 0
 else if selsErr p f f.sels.length≠0 then 0
 else if codeErr p f f.code.length≠0 then (f.code.findIdx fun i=>decide (instrErr p f i≠0):Nat)
 else (f.code.length:Int)-1
def badFn (p:Prg):Nat:=(List.range p.funcs.length).findIdx fun (i:Nat)=>decide (funcErr p i (p.fn i)≠0)
def checkP (p:Prg):Int :=
 if 8<p.vars.length∨p.locks<0∨4<p.locks∨4<p.chans.length∨p.funcs.length<1∨8<p.funcs.length then 30
 else if capsErr p p.chans.length=false then 31
 else funcsErr p p.funcs.length
def spotP (p:Prg):Int × Int :=
 if 8<p.vars.length∨p.locks<0∨4<p.locks∨4<p.chans.length∨p.funcs.length<1∨8<p.funcs.length then (0,0)
 else if capsErr p p.chans.length=false then (0,0)
 else if funcsErr p p.funcs.length=0 then (0,0)
 else ((badFn p:Int),funcPc p (badFn p) (p.fn (badFn p)))
def rightP (p:Prg):Bool:=decide (checkP p=0)
theorem fn_nat (p:Prg) (i:Nat):p.fn (i:Int)=p.funcs.getD i default:=by simp [Prg.fn]
theorem codeErr_succ (p:Prg) (f:Fnc) {i:Nat} (h:i<f.code.length):codeErr p f (i+1)=if codeErr p f i≠0 then codeErr p f i else instrErr p f (f.code.getD i default):=firstNZ_take _ _ h
theorem funcsErr_succ (p:Prg) (i:Nat):funcsErr p (i+1)=if funcsErr p i≠0 then funcsErr p i else funcErr p i (p.fn i):=firstNZ_range _ _
theorem funcs_hit {p:Prg} {i:Nat} (hi:i<p.funcs.length) (hz:funcsErr p i=0) {e:Int} (he:funcErr p i (p.fn i)=e) (hne:e≠0):funcsErr p p.funcs.length=e∧badFn p=i:=by
 constructor
 · have h1:funcsErr p (i+1)=e:=by rw [funcsErr_succ,if_neg (fun q=>q hz),he]
   have:∀ m,funcsErr p (i+1+m)=e:=by
    intro m
    induction m with
    | zero=>exact h1
    | succ m ih=>rw [← Nat.add_assoc,funcsErr_succ,ih,if_pos hne]
   have h2:=this (p.funcs.length-(i+1))
   rwa [show i+1+(p.funcs.length-(i+1))=p.funcs.length by omega] at h2
 · refine findIdx_range (Nat.le_of_lt hi) (fun j hj=>?_) (.inr (by simp [he,hne]))
   have:=firstNZ_zero.1 hz (funcErr p j (p.fn j)) (List.mem_map.2 ⟨j,by simpa using hj,rfl⟩)
   simp [this]
theorem check_sizes {p:Prg} (h:8<p.vars.length∨p.locks<0∨4<p.locks∨4<p.chans.length∨p.funcs.length<1∨8<p.funcs.length):checkP p=30∧spotP p=(0,0):=by
 unfold checkP spotP;rw [if_pos h,if_pos h];exact ⟨rfl,rfl⟩
def Sizes (p:Prg):Prop:=¬(8<p.vars.length∨p.locks<0∨4<p.locks∨4<p.chans.length∨p.funcs.length<1∨8<p.funcs.length)
theorem check_caps {p:Prg} (h:Sizes p) (h2:capsErr p p.chans.length=false):checkP p=31∧spotP p=(0,0):=by
 unfold checkP spotP;rw [if_neg h,if_neg h,if_pos h2,if_pos h2];exact ⟨rfl,rfl⟩
theorem caps_miss {p:Prg} {i:Nat} (hi:i<p.chans.length) (h:p.chans.getD i 0<0∨4<p.chans.getD i 0):capsErr p p.chans.length=false:=by
 unfold capsErr
 rw [List.take_length]
 refine all_miss hi ?_
 rw [Bool.and_eq_false_iff,decide_eq_false_iff_not,decide_eq_false_iff_not]
 have:p.chans.getD i default=p.chans.getD i 0:=rfl
 omega
theorem check_hit {p:Prg} (h:Sizes p) (h2:capsErr p p.chans.length=true) {i:Nat} (hi:i<p.funcs.length) (hz:funcsErr p i=0) {e:Int} (he:funcErr p i (p.fn i)=e) (hne:e≠0) :
 checkP p=e∧spotP p=((i:Int),funcPc p i (p.fn i)):=by
 obtain ⟨h3,h4⟩:=funcs_hit hi hz he hne
 unfold checkP spotP
 rw [if_neg h,if_neg h,if_neg (by rw [h2];simp),if_neg (by rw [h2];simp),h3,if_neg hne,h4]
 exact ⟨rfl,rfl⟩
theorem check_ok {p:Prg} (h:Sizes p) (h2:capsErr p p.chans.length=true) (hz:funcsErr p p.funcs.length=0):checkP p=0∧spotP p=(0,0):=by
 unfold checkP spotP
 rw [if_neg h,if_neg h,if_neg (by rw [h2];simp),if_neg (by rw [h2];simp),hz,if_pos rfl]
 exact ⟨rfl,rfl⟩
theorem code_hit {p:Prg} {f:Fnc} {j:Nat} (hj:j<f.code.length) (hz:codeErr p f j=0) {e:Int} (he:instrErr p f (f.code.getD j default)=e) (hne:e≠0):codeErr p f f.code.length=e∧(f.code.findIdx fun i=>decide (instrErr p f i≠0))=j:=by
 constructor
 · unfold codeErr
   rw [List.take_length,firstNZ_hit _ _ hj hz (by rw [he];exact hne),he]
 · rw [List.findIdx_eq hj]
   have e2:f.code.getD j default=f.code[j]:=by simp [List.getD_eq_getElem?_getD,hj]
   rw [e2] at he
   refine ⟨by simp [he,hne],fun k hk=>?_⟩
   have:=firstNZ_zero.1 hz (instrErr p f f.code[k]) (List.mem_map.2 ⟨_,List.mem_take_iff_getElem.2 ⟨k,by omega,rfl⟩,rfl⟩)
   simp [this]
theorem formed_len {m:Int} {f:Fnc} (h:formed m f=true):(0≤f.regs∧f.regs≤8∧0≤f.params∧f.params≤f.regs∧(m=0→f.params=0))∧1≤f.code.length∧f.code.length≤64∧f.sels.length≤4∧selsShort f f.sels.length=true:=by
 unfold formed at h
 split at h
 · cases h
 split at h
 · cases h
 rename_i h1 h2
 exact ⟨by omega,by omega,by omega,by omega,h⟩
theorem check_formed {p:Prg} (h:Sizes p) (h2:capsErr p p.chans.length=true) {i:Nat} (hi:i<p.funcs.length) (hz:funcsErr p i=0) (hf:formed i (p.funcs.getD i default)=false):checkP p=32∧spotP p=((i:Int),0):=by
 have:=check_hit h h2 hi hz (e:=32) (by rw [fn_nat];unfold funcErr;rw [if_pos hf]) (by decide)
 rw [fn_nat] at this
 unfold funcPc at this
 rwa [if_pos hf] at this
theorem check_sels {p:Prg} (h:Sizes p) (h2:capsErr p p.chans.length=true) {i:Nat} (hi:i<p.funcs.length) (hz:funcsErr p i=0) (hf:formed i (p.funcs.getD i default)=true) (hs:selsErr p (p.funcs.getD i default) (p.funcs.getD i default).sels.length≠0) :
 checkP p=selsErr p (p.funcs.getD i default) (p.funcs.getD i default).sels.length∧spotP p=((i:Int),0):=by
 have:=check_hit h h2 hi hz (e:=selsErr p (p.funcs.getD i default) (p.funcs.getD i default).sels.length) (by rw [fn_nat];unfold funcErr;rw [if_neg (by rw [hf];simp),if_pos hs]) hs
 rw [fn_nat] at this
 unfold funcPc at this
 rwa [if_neg (by rw [hf];simp),if_pos hs] at this
theorem check_code {p:Prg} (h:Sizes p) (h2:capsErr p p.chans.length=true) {i:Nat} (hi:i<p.funcs.length) (hz:funcsErr p i=0) (hf:formed i (p.funcs.getD i default)=true) (hs:selsErr p (p.funcs.getD i default) (p.funcs.getD i default).sels.length=0)
 {j:Nat} (hj:j<(p.funcs.getD i default).code.length) (hk:codeErr p (p.funcs.getD i default) j=0) (he:instrErr p (p.funcs.getD i default) ((p.funcs.getD i default).code.getD j default)≠0) :
 checkP p=instrErr p (p.funcs.getD i default) ((p.funcs.getD i default).code.getD j default)∧spotP p=((i:Int),(j:Int)):=by
 obtain ⟨c1,c2⟩:=code_hit hj hk rfl he
 have:=check_hit h h2 hi hz (e:=instrErr p (p.funcs.getD i default) ((p.funcs.getD i default).code.getD j default)) (by rw [fn_nat];unfold funcErr;rw [if_neg (by rw [hf];simp),if_neg (fun q=>q hs),if_pos (by rw [c1];exact he),c1]) he
 rw [fn_nat] at this
 unfold funcPc at this
 rwa [if_neg (by rw [hf];simp),if_neg (fun q=>q hs),if_pos (by rw [c1];exact he),c2] at this
theorem check_fall {p:Prg} (h:Sizes p) (h2:capsErr p p.chans.length=true) {i:Nat} (hi:i<p.funcs.length) (hz:funcsErr p i=0) (hf:formed i (p.funcs.getD i default)=true) (hs:selsErr p (p.funcs.getD i default) (p.funcs.getD i default).sels.length=0)
 (hk:codeErr p (p.funcs.getD i default) (p.funcs.getD i default).code.length=0) (hl:lastOk (p.funcs.getD i default)=false):checkP p=39∧spotP p=((i:Int),((p.funcs.getD i default).code.length:Int)-1):=by
 have:=check_hit h h2 hi hz (e:=39) (by rw [fn_nat];unfold funcErr;rw [if_neg (by rw [hf];simp),if_neg (fun q=>q hs),if_neg (fun q=>q hk),hl];rfl) (by decide)
 rw [fn_nat] at this
 unfold funcPc at this
 rwa [if_neg (by rw [hf];simp),if_neg (fun q=>q hs),if_neg (fun q=>q hk)] at this
theorem last_op (f:Fnc) (h:1≤f.code.length):f.at_ ((f.code.length:Int)-1)=f.code.getD (f.code.length-1) default:=by
 unfold Fnc.at_
 rw [show ((f.code.length:Int)-1).toNat=f.code.length-1 by omega]
theorem last_bad {f:Fnc} (hl:1≤f.code.length) (h:(¬(f.code.getD (f.code.length-1) default).op=42∧¬(f.code.getD (f.code.length-1) default).op=45)∧¬(f.code.getD (f.code.length-1) default).op=61):lastOk f=false:=by
 simp only [lastOk,last_op f hl,h.1.1,h.1.2,h.2,decide_false,Bool.or_self]
theorem last_good {f:Fnc} (hl:1≤f.code.length) (h:¬(f.code.getD (f.code.length-1) default).op=42→¬(f.code.getD (f.code.length-1) default).op=45→(f.code.getD (f.code.length-1) default).op=61):lastOk f=true:=by
 simp only [lastOk,last_op f hl]
 by_cases q1:(f.code.getD (f.code.length-1) default).op=42
 · simp only [q1,decide_true,Bool.true_or]
 · by_cases q2:(f.code.getD (f.code.length-1) default).op=45
   · simp only [q2,decide_true,Bool.or_true,Bool.true_or]
   · simp only [h q1 q2,decide_true,Bool.or_true]
def failing (op why:Int):Bool :=
 if why=1 then decide (op=44) else if why=2 then decide (op=19)||decide (op=20) else if why=3 then decide (25≤op)&&decide (op≤27)
 else if why=4 then decide (op=58)||decide (op=61) else if why=5 then decide (op=60) else if why=6 then decide (op=56)
 else if why=7 then decide (op=63) else if why=8 then decide (op=62) else false
def regsZero (g:Gor) (m:Int) (n:Nat):Bool:=(List.range n).all fun i=>decide ((i:Int)<m)||decide (g.regs.getD i 0=0)
def gorOk (p:Prg) (g:Gor):Bool :=
 if g.status<1∨5<g.status∨g.func<0∨(p.funcs.length:Int)≤g.func∨g.pc<0∨((p.fn g.func).code.length:Int)≤g.pc then false
 else
  let m:=if g.status=3∨g.status=4 then 0 else (p.fn g.func).regs
  if regsZero g m 8=false then false
  else
   let op:=((p.fn g.func).at_ g.pc).op
   if g.status=4 then failing op g.why
   else decide (g.why=0)&&(decide (g.status≠3)||decide (op=45))&&(decide (g.status≠5)||isLocal op)
def bufZero (c:Chn) (n:Nat):Bool:=(List.range n).all fun i=>decide ((i:Int)<c.len)||decide (c.buf.getD i 0=0)
def chanOk (p:Prg) (s:Stt) (n:Int):Bool :=
 let c:=s.chn n
 if c.len<0∨p.cap n<c.len∨c.offer<0∨3<c.offer∨(p.cap n≠0∧c.offer≠0) then false
 else if bufZero c 4=false then false
 else if c.offer=0 then decide (c.from_=0)&&decide (c.val=0)
 else if (c.offer≠1∧c.val≠0)∨(c.offer=1∧c.closed=true)∨(c.offer=3∧c.closed=false) then false
 else if c.from_<0∨s.count≤c.from_∨(s.gor c.from_).status≠2 then false
 else decide ((instrAt p s c.from_).op=58)&&decide ((instrAt p s c.from_).a=n)
def gorsOk (p:Prg) (s:Stt) (n:Nat):Bool:=(List.range n).all fun i=>if (i:Int)<s.count then gorOk p (s.gor i) else decide (s.gor i=zeroGor)
def varsOk (p:Prg) (s:Stt) (n:Nat):Bool:=(List.range n).all fun i=>decide (i<p.vars.length)||decide (s.vars.getD i 0=0)
def ownOk (p:Prg) (s:Stt) (i:Nat):Bool:=decide (0≤s.owner.getD i 0)&&decide (s.owner.getD i 0≤s.count)&&(decide ((i:Int)<p.locks)||decide (s.owner.getD i 0=0))
def ownersOk (p:Prg) (s:Stt) (n:Nat):Bool:=(List.range n).all (ownOk p s)
def chansOk (p:Prg) (s:Stt) (n:Nat):Bool:=(List.range n).all fun i=>if i<p.chans.length then chanOk p s i else decide (s.chn i=zeroChn)
def offersTo (s:Stt) (g:Int) (n:Nat):Nat:=((List.range n).filter fun (i:Nat)=>decide ((s.chn i).offer≠0)&&decide ((s.chn i).from_=g)).length
def waitsOk (s:Stt) (n:Nat):Bool:=(List.range n).all fun g=>decide ((s.gor g).status≠2)||decide (offersTo s g 4=1)
def validP (p:Prg) (s:Stt):Bool :=
 rightP p&&decide (1≤s.count)&&decide (s.count≤6)&&gorsOk p s 6&&varsOk p s 8&&ownersOk p s 4&&chansOk p s 4&&waitsOk s s.count.toNat
end Go.Eng
namespace Go.Eng
section
variable (apply:Int→Int→Int→Int × Int)
def ended (g:Gor) (status why:Int):Gor:=⟨status,g.func,g.pc,why,List.replicate 8 0⟩
def Gor.setR (g:Gor) (r v:Int):Gor:={ g with regs:=g.regs.set r.toNat v }
def Gor.next (g:Gor):Gor:={ g with pc:=g.pc+1 }
def localStep (p:Prg) (g:Gor):Gor × Bool :=
 let i:=(p.fn g.func).at_ g.pc
 if i.op≤15 then ((g.setR i.a (apply i.op (g.reg i.b) 0).1).next,true)
 else if i.op≤36 then
  let x:=apply i.op (g.reg i.b) (g.reg i.c)
  if x.2=20 then (ended g 4 2,false) else if x.2=21 then (ended g 4 3,false) else ((g.setR i.a x.1).next,true)
 else if i.op=40 then ((g.setR i.a i.n).next,true)
 else if i.op=41 then ((g.setR i.a (g.reg i.b)).next,true)
 else if i.op=42 then ({ g with pc:=i.a },true)
 else if i.op=43 then (if g.reg i.a≠0 then { g with pc:=i.b } else g.next,true)
 else if i.op=44 then (if g.reg i.a=0 then (ended g 4 1,false) else (g.next,true))
 else (ended g 3 0,false)
def settledN (p:Prg):Nat→Gor→Gor
 | 0,g=>if isLocal ((p.fn g.func).at_ g.pc).op then { g with status:=5 } else g
 | n+1,g=>if isLocal ((p.fn g.func).at_ g.pc).op then
    let r:=localStep apply p g
    if r.2 then settledN p n r.1 else r.1
   else g
def settled (p:Prg) (g:Gor) (fuel:Int):Gor:=settledN apply p fuel.toNat { g with status:=1 }
def startVars (p:Prg) (n:Nat):List Int:=(List.range 8).map fun i=>if i<n then (p.vars.getD i default).init else 0
def start (p:Prg) (fuel:Int):Stt × Int :=
 if rightP p=false then (zeroStt,3) else if fuel<0∨4096<fuel then (zeroStt,1)
 else ({ zeroStt with vars:=startVars p p.vars.length,gos:=zeroStt.gos.set 0 (settled apply p zeroGor fuel),count:=1 },0)
def settle (p:Prg) (s:Stt) (g fuel:Int):Stt × Int :=
 if rightP p=false then (zeroStt,3) else if validP p s=false then (zeroStt,4)
 else if g<0∨6≤g∨fuel<0∨4096<fuel then (zeroStt,1) else if s.count≤g then (zeroStt,9)
 else if (s.gor g).status=1∨(s.gor g).status=5 then ({ s with gos:=s.gos.set g.toNat (settled apply p (s.gor g) fuel) },0) else (s,0)
def take (p:Prg) (s:Stt) (x:Pck) (fuel:Int):Stt × Event :=
 let d:=visible p s x.go x.alt
 if d.why≠0 then
  ({ d.s with gos:=d.s.gos.set x.go.toNat { d.s.gor x.go with status:=4,why:=d.why,regs:=List.replicate 8 0 } },event p s x 0)
 else
  let e:=event p s x d.val
  if d.to_<0 then (d.s,e)
  else
   let s1:={ d.s with gos:=d.s.gos.set x.go.toNat { d.s.gor x.go with pc:=d.to_ } }
   let out:=(settle apply p s1 x.go fuel).1
   (if s.count<out.count then (settle apply p out s.count fuel).1 else out,e)
def doStep (p:Prg) (s:Stt) (x:Pck) (fuel:Int):Stt × Event × Int :=
 if fuel<0∨4096<fuel then (zeroStt,zeroEvent,1) else if has p s x=false then (zeroStt,zeroEvent,5)
 else ((take apply p s x fuel).1,(take apply p s x fuel).2,0)
def reach (p:Prg) (fuel:Int) (s:Stt) (l:List Pck):Stt:=l.foldl (fun s x=>(doStep apply p s x fuel).1) s
def stateAt (p:Prg) (fuel:Int) (s:Stt) (l:List Pck) (j:Nat):Stt:=reach apply p fuel s (l.take j)
def eventAt (p:Prg) (fuel:Int) (s:Stt) (l:List Pck) (j:Nat):Event:=(doStep apply p (stateAt apply p fuel s l j) (l.getD j default) fuel).2.1
def okAtR (p:Prg) (fuel:Int) (s:Stt) (l:List Pck) (j:Nat):Bool:=(ready p (stateAt apply p fuel s l j)).any fun y=>decide (l.getD j default=y)
def eventsTo (p:Prg) (fuel:Int) (s:Stt) (l:List Pck) (n:Nat):List Event:=(List.range n).map (eventAt apply p fuel s l)
end
end Go.Eng
namespace Go.Eng.Tryz
open Go.RowKit Go.Eng
attribute [go_sem] argsV contentV fromVs Option.getD_some St.keep List.filterMap_cons List.filterMap_nil Option.map_some Option.map_none opG opQ opB newEs outE CallStepB guardA putK putE pureA evalO evalL constE pickA capsE capsV loadA fieldAddrA indexAddrA indexA sliceA evalOptI builtinA binA plainA shiftA eqA nilA arith shifts effA storeA appendA appB freshA St.kill Tm.kill E.kill E.killL Obj.kill elemsOf evalVs buildA okAt toV fromV zeroE slTy List.any_cons List.any_nil V.get V.put V.sub args0 CallStep CallStepQ i64min i64max u64min u64max u32min u32max u8min u8max Nat.zero_add List.length_map List.lookup_cons List.lookup_nil List.getElem?_cons_zero List.getElem?_cons_succ List.getElem?_toArray List.getElem?_nil Option.bind_some Option.bind_none List.size_toArray List.length_cons List.length_nil List.nil_append List.append_nil List.cons_append List.getD_cons_zero List.getD_cons_succ List.map_cons List.map_nil List.set_cons_zero List.set_cons_succ true_and and_true forall_const true_implies Bool.true_and Bool.and_true Bool.not_true Bool.not_false Bool.false_and Bool.and_false beq_self_eq_true Bool.true_beq Bool.false_beq beq_true beq_false eq_self false_implies V.toInt_int V.toBool_bool V.toList_list V.toList_agg V.toStr_str V.deref_ref if_true if_false Bool.false_eq_true Option.isSome_none Option.isSome_some Bool.false_or Bool.true_or Bool.or_false Bool.or_true cond_true cond_false implies_true and_self imp_self V.setSub_agg toVs lvOf List.length_map Int.toNat_natCast Int.natCast_zero concat_at Instr.v0 Instr.v1 Instr.v2 Instr.v3 Instr.v4 Cas.v0 Cas.v1 Cas.v2 Cas.v3 Sel.v0 Sel.v1 Fnc.v0 Fnc.v1 Fnc.v2 Fnc.v3 Vr.v0 Vr.v1 Prg.v0 Prg.v1 Prg.v2 Prg.v3 Gor.v0 Gor.v1 Gor.v2 Gor.v3 Gor.v4 Chn.v0 Chn.v1 Chn.v2 Chn.v3 Chn.v4 Chn.v5 Stt.v0 Stt.v1 Stt.v2 Stt.v3 Stt.v4 Pck.v0 Pck.v1 Bud.v0 Bud.v1 Bud.v2 getD_ints field_getD Event.v0 Event.v7 Event.v8 Access.v0 Access.v1 Access.v2 beq_acc
attribute [go_sem] ty2 ty3 ty4 ty5 ty9 ty21 ty22 ty23 ty24 ty26 ty27 ty28 ty29 ty31 ty32 ty34 ty35 ty37 ty39 ty41 ty43 ty45 ty46 ty48 ty49 ty60 ty64 ty77 ty79 ty81 ty106 ty118 ty119 ty121 ty122 ty124 ty129 ty131 ty133 ty135 ty139 ty142 ty149 ty151 ty154 ty156 ty165 ty171 ty172 ty175 ty186 ty189 ty194 ty202 ty204 ty209 ty210 ty230 ty238 ty240 ty247 ty251 ty261 ty262 ty263 ty265 ty267
theorem parts26:partsZ tab [22,3,23,24] (tab.zero 26).toList=[.nilsl,.int .i64 0,.nilsl,.nilsl]:=rfl
theorem parts81:partsZ tab [79,37,4] (tab.zero 81).toList=[.nilsl,.data 37 (tab.zero 37),.bool false]:=rfl
theorem parts121:partsZ tab [3,3,118,119] (tab.zero 121).toList=[.int .i64 0,.int .i64 0,.nilsl,.nilsl]:=rfl
theorem parts124:partsZ tab [122,3] (tab.zero 124).toList=[.nilsl,.int .i64 0]:=rfl
attribute [go_sem] parts26 parts81 parts121 parts124
theorem cq {f:FuncId} {cs:List E} {A:FuncId→List E→E→Prop} {B:E→Prop} {C:FuncId→List E→Prop} {e:E} (h:A f cs e) (k:B e):∃ fid caps,E.fn f cs=E.fn fid caps∧((∃ e,A fid caps e∧B e)∨C fid caps):=⟨_,_,rfl,.inl ⟨e,h,k⟩⟩
theorem ce {f:FuncId} {cs:List E} {A:FuncId→List E→Prop} {C:FuncId→List E→Prop} (h:C f cs):∃ fid caps,E.fn f cs=E.fn fid caps∧(A fid caps∨C fid caps):=⟨_,_,rfl,.inr h⟩
theorem cc {σ:St} {f:FuncId} {pts:List TypeId} {rt:TypeId} {vs:List V} {r:V} {es:List E} (hc:Ctr Go.Proofs.Tryz.prog tab f pts [rt] vs [r]) (hv:argsV tab σ pts es=some vs:=by first|rfl|(simp [go_sem];done)|fail) (hf:flatTy tab 20 rt=true:=by rfl):CallQ Go.Proofs.Tryz.prog tab σ f es (fromV tab rt r):=CallQ.ctr ok hc hv hf
theorem cf {σ:St} {f:FuncId} {pts rts:List TypeId} {vs rs:List V} {es:List E} {K:St→E→Prop} (hc:Ctr Go.Proofs.Tryz.prog tab f pts rts vs rs) (hK:K { σ with ob:=σ.ob++(newEs tab σ.ob.length rts rs).1 } (outE (newEs tab σ.ob.length rts rs).2)) (hv:argsV tab σ pts es=some vs:=by first|rfl|(simp [go_sem];done)|fail):CallE Go.Proofs.Tryz.prog tab σ f es K:=CallE.ctr ok hc hv hK
end Go.Eng.Tryz
namespace Go.Eng
variable (i:Nat) (d:V)
theorem getD_pick {α:Type} [Inhabited α] (f:α→V) (l:List α) (i:Nat):((l.map f).getD i default=f (l.getD i default))∨((l.map f).getD i default=.int 0∧l.getD i default=default):=by
 by_cases h:i<l.length
 · exact .inl (getD_map f l h _)
 · right
   simp only [List.getD_eq_getElem?_getD,List.getElem?_map,List.getElem?_eq_none (Nat.le_of_not_lt h)]
   exact ⟨rfl,rfl⟩
theorem Instr.at_op (l:List Instr):(((l.map Instr.v).getD i default).toList.getD 0 default).toInt=(l.getD i default).op:=by
 rcases getD_pick Instr.v l i with h|⟨h,h'⟩
 · rw [h,Instr.v0];rfl
 · rw [h,h'];rfl
theorem Instr.at_a (l:List Instr):(((l.map Instr.v).getD i default).toList.getD 1 default).toInt=(l.getD i default).a:=by
 rcases getD_pick Instr.v l i with h|⟨h,h'⟩
 · rw [h,Instr.v1];rfl
 · rw [h,h'];rfl
theorem Instr.at_b (l:List Instr):(((l.map Instr.v).getD i default).toList.getD 2 default).toInt=(l.getD i default).b:=by
 rcases getD_pick Instr.v l i with h|⟨h,h'⟩
 · rw [h,Instr.v2];rfl
 · rw [h,h'];rfl
theorem Instr.at_c (l:List Instr):(((l.map Instr.v).getD i default).toList.getD 3 default).toInt=(l.getD i default).c:=by
 rcases getD_pick Instr.v l i with h|⟨h,h'⟩
 · rw [h,Instr.v3];rfl
 · rw [h,h'];rfl
theorem Instr.at_n (l:List Instr):(((l.map Instr.v).getD i default).toList.getD 4 default).toInt=(l.getD i default).n:=by
 rcases getD_pick Instr.v l i with h|⟨h,h'⟩
 · rw [h,Instr.v4];rfl
 · rw [h,h'];rfl
theorem Cas.at_send (l:List Cas):(((l.map Cas.v).getD i default).toList.getD 0 default).toBool=(l.getD i default).send:=by
 rcases getD_pick Cas.v l i with h|⟨h,h'⟩
 · rw [h,Cas.v0];rfl
 · rw [h,h'];rfl
theorem Cas.at_chan (l:List Cas):(((l.map Cas.v).getD i default).toList.getD 1 default).toInt=(l.getD i default).chan:=by
 rcases getD_pick Cas.v l i with h|⟨h,h'⟩
 · rw [h,Cas.v1];rfl
 · rw [h,h'];rfl
theorem Cas.at_reg (l:List Cas):(((l.map Cas.v).getD i default).toList.getD 2 default).toInt=(l.getD i default).reg:=by
 rcases getD_pick Cas.v l i with h|⟨h,h'⟩
 · rw [h,Cas.v2];rfl
 · rw [h,h'];rfl
theorem Cas.at_to_ (l:List Cas):(((l.map Cas.v).getD i default).toList.getD 3 default).toInt=(l.getD i default).to_:=by
 rcases getD_pick Cas.v l i with h|⟨h,h'⟩
 · rw [h,Cas.v3];rfl
 · rw [h,h'];rfl
theorem Sel.at_cases (l:List Sel):(((l.map Sel.v).getD i default).toList.getD 0 default).toList=(l.getD i default).cases.map Cas.v:=by
 rcases getD_pick Sel.v l i with h|⟨h,h'⟩
 · rw [h,Sel.v0];rfl
 · rw [h,h'];rfl
theorem Sel.at_els (l:List Sel):(((l.map Sel.v).getD i default).toList.getD 1 default).toInt=(l.getD i default).els:=by
 rcases getD_pick Sel.v l i with h|⟨h,h'⟩
 · rw [h,Sel.v1];rfl
 · rw [h,h'];rfl
theorem Fnc.at_params (l:List Fnc):(((l.map Fnc.v).getD i default).toList.getD 0 default).toInt=(l.getD i default).params:=by
 rcases getD_pick Fnc.v l i with h|⟨h,h'⟩
 · rw [h,Fnc.v0];rfl
 · rw [h,h'];rfl
theorem Fnc.at_regs (l:List Fnc):(((l.map Fnc.v).getD i default).toList.getD 1 default).toInt=(l.getD i default).regs:=by
 rcases getD_pick Fnc.v l i with h|⟨h,h'⟩
 · rw [h,Fnc.v1];rfl
 · rw [h,h'];rfl
theorem Fnc.at_code (l:List Fnc):(((l.map Fnc.v).getD i default).toList.getD 2 default).toList=(l.getD i default).code.map Instr.v:=by
 rcases getD_pick Fnc.v l i with h|⟨h,h'⟩
 · rw [h,Fnc.v2];rfl
 · rw [h,h'];rfl
theorem Fnc.at_sels (l:List Fnc):(((l.map Fnc.v).getD i default).toList.getD 3 default).toList=(l.getD i default).sels.map Sel.v:=by
 rcases getD_pick Fnc.v l i with h|⟨h,h'⟩
 · rw [h,Fnc.v3];rfl
 · rw [h,h'];rfl
theorem Vr.at_atomic (l:List Vr):(((l.map Vr.v).getD i default).toList.getD 0 default).toBool=(l.getD i default).atomic:=by
 rcases getD_pick Vr.v l i with h|⟨h,h'⟩
 · rw [h,Vr.v0];rfl
 · rw [h,h'];rfl
theorem Vr.at_init (l:List Vr):(((l.map Vr.v).getD i default).toList.getD 1 default).toInt=(l.getD i default).init:=by
 rcases getD_pick Vr.v l i with h|⟨h,h'⟩
 · rw [h,Vr.v1];rfl
 · rw [h,h'];rfl
theorem Gor.at_status (l:List Gor):(((l.map Gor.v).getD i default).toList.getD 0 default).toInt=(l.getD i default).status:=by
 rcases getD_pick Gor.v l i with h|⟨h,h'⟩
 · rw [h,Gor.v0];rfl
 · rw [h,h'];rfl
theorem Gor.at_func (l:List Gor):(((l.map Gor.v).getD i default).toList.getD 1 default).toInt=(l.getD i default).func:=by
 rcases getD_pick Gor.v l i with h|⟨h,h'⟩
 · rw [h,Gor.v1];rfl
 · rw [h,h'];rfl
theorem Gor.at_pc (l:List Gor):(((l.map Gor.v).getD i default).toList.getD 2 default).toInt=(l.getD i default).pc:=by
 rcases getD_pick Gor.v l i with h|⟨h,h'⟩
 · rw [h,Gor.v2];rfl
 · rw [h,h'];rfl
theorem Gor.at_why (l:List Gor):(((l.map Gor.v).getD i default).toList.getD 3 default).toInt=(l.getD i default).why:=by
 rcases getD_pick Gor.v l i with h|⟨h,h'⟩
 · rw [h,Gor.v3];rfl
 · rw [h,h'];rfl
theorem Gor.at_regs_get (l:List Gor) (j:Nat):((((l.map Gor.v).getD i default).toList.getD 4 default).toList.getD j default).toInt=(l.getD i default).regs.getD j 0:=by
 rcases getD_pick Gor.v l i with h|⟨h,h'⟩
 · rw [h,Gor.v4,V.toList_agg,getD_ints,V.toInt_int]
 · rw [h,h'];cases j<;>rfl
theorem Chn.at_buf_get (l:List Chn) (j:Nat):((((l.map Chn.v).getD i default).toList.getD 0 default).toList.getD j default).toInt=(l.getD i default).buf.getD j 0:=by
 rcases getD_pick Chn.v l i with h|⟨h,h'⟩
 · rw [h,Chn.v0,V.toList_agg,getD_ints,V.toInt_int]
 · rw [h,h'];cases j<;>rfl
theorem Chn.at_len (l:List Chn):(((l.map Chn.v).getD i default).toList.getD 1 default).toInt=(l.getD i default).len:=by
 rcases getD_pick Chn.v l i with h|⟨h,h'⟩
 · rw [h,Chn.v1];rfl
 · rw [h,h'];rfl
theorem Chn.at_closed (l:List Chn):(((l.map Chn.v).getD i default).toList.getD 2 default).toBool=(l.getD i default).closed:=by
 rcases getD_pick Chn.v l i with h|⟨h,h'⟩
 · rw [h,Chn.v2];rfl
 · rw [h,h'];rfl
theorem Chn.at_offer (l:List Chn):(((l.map Chn.v).getD i default).toList.getD 3 default).toInt=(l.getD i default).offer:=by
 rcases getD_pick Chn.v l i with h|⟨h,h'⟩
 · rw [h,Chn.v3];rfl
 · rw [h,h'];rfl
theorem Chn.at_from_ (l:List Chn):(((l.map Chn.v).getD i default).toList.getD 4 default).toInt=(l.getD i default).from_:=by
 rcases getD_pick Chn.v l i with h|⟨h,h'⟩
 · rw [h,Chn.v4];rfl
 · rw [h,h'];rfl
theorem Chn.at_val (l:List Chn):(((l.map Chn.v).getD i default).toList.getD 5 default).toInt=(l.getD i default).val:=by
 rcases getD_pick Chn.v l i with h|⟨h,h'⟩
 · rw [h,Chn.v5];rfl
 · rw [h,h'];rfl
theorem Pck.at_go (l:List Pck):(((l.map Pck.v).getD i default).toList.getD 0 default).toInt=(l.getD i default).go:=by
 rcases getD_pick Pck.v l i with h|⟨h,h'⟩
 · rw [h,Pck.v0];rfl
 · rw [h,h'];rfl
theorem Pck.at_alt (l:List Pck):(((l.map Pck.v).getD i default).toList.getD 1 default).toInt=(l.getD i default).alt:=by
 rcases getD_pick Pck.v l i with h|⟨h,h'⟩
 · rw [h,Pck.v1];rfl
 · rw [h,h'];rfl
attribute [go_sem] Instr.at_op Instr.at_a Instr.at_b Instr.at_c Instr.at_n Cas.at_send Cas.at_chan Cas.at_reg Cas.at_to_ Sel.at_cases Sel.at_els Fnc.at_params Fnc.at_regs Fnc.at_code Fnc.at_sels Vr.at_atomic Vr.at_init Gor.at_status Gor.at_func Gor.at_pc Gor.at_why Gor.at_regs_get Chn.at_buf_get Chn.at_len Chn.at_closed Chn.at_offer Chn.at_from_ Chn.at_val Pck.at_go Pck.at_alt
end Go.Eng
