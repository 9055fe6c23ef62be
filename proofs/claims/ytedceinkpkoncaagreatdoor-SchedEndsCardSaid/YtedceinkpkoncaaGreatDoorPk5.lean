/- A part of the proof: walks through the program's functions, and what they compute. -/
import Derived.Test.YtedceinkpkoncaaGreatDoorPk4
import Derived.Lib.Mul64
set_option linter.unusedSimpArgs false
set_option linter.unusedVariables false
namespace Go.Eng
theorem qh {α:Type} {n i:Nat} (h:i<n) (f:Nat→α) (x:α):((List.range n).map f).set i x=(List.range n).map fun k=>if k=i then x else f k:=by
 apply List.ext_getElem?
 intro k
 by_cases hk:k<n
 · by_cases hki:k=i
   · subst hki;simp [hk]
   · rw [List.getElem?_set_ne (Ne.symm hki)];simp [hk,hki]
 · rw [List.getElem?_eq_none (by simp;omega),List.getElem?_eq_none (by simp;omega)]
end Go.Eng
namespace Go.Eng
theorem ZC (l:List Int) (i:Nat) (x:Int):(l.map V.int).set i (.int x)=(l.set i x).map V.int:=(List.map_set ..).symm
theorem Wy (l:List Gor) (i:Nat) (x:Gor):(l.map Gor.v).set i x.v=(l.set i x).map Gor.v:=(List.map_set ..).symm
theorem Zs (l:List Chn) (i:Nat) (x:Chn):(l.map Chn.v).set i x.v=(l.set i x).map Chn.v:=(List.map_set ..).symm
theorem Gor.put0 (g:Gor) (x:Int):V.setSub g.v 0 (.int x)=Gor.v ⟨x,g.func,g.pc,g.why,g.regs⟩:=rfl
theorem Gor.put1 (g:Gor) (x:Int):V.setSub g.v 1 (.int x)=Gor.v ⟨g.status,x,g.pc,g.why,g.regs⟩:=rfl
theorem Gor.put2 (g:Gor) (x:Int):V.setSub g.v 2 (.int x)=Gor.v ⟨g.status,g.func,x,g.why,g.regs⟩:=rfl
theorem Gor.put3 (g:Gor) (x:Int):V.setSub g.v 3 (.int x)=Gor.v ⟨g.status,g.func,g.pc,x,g.regs⟩:=rfl
theorem Gor.put4 (g:Gor) (x:List Int):V.setSub g.v 4 (.agg (x.map V.int))=Gor.v ⟨g.status,g.func,g.pc,g.why,x⟩:=rfl
theorem Chn.put0 (c:Chn) (x:List Int):V.setSub c.v 0 (.agg (x.map V.int))=Chn.v ⟨x,c.len,c.closed,c.offer,c.from_,c.val⟩:=rfl
theorem Chn.put1 (c:Chn) (x:Int):V.setSub c.v 1 (.int x)=Chn.v ⟨c.buf,x,c.closed,c.offer,c.from_,c.val⟩:=rfl
theorem Chn.put2 (c:Chn) (x:Bool):V.setSub c.v 2 (.bool x)=Chn.v ⟨c.buf,c.len,x,c.offer,c.from_,c.val⟩:=rfl
theorem Chn.put3 (c:Chn) (x:Int):V.setSub c.v 3 (.int x)=Chn.v ⟨c.buf,c.len,c.closed,x,c.from_,c.val⟩:=rfl
theorem Chn.put4 (c:Chn) (x:Int):V.setSub c.v 4 (.int x)=Chn.v ⟨c.buf,c.len,c.closed,c.offer,x,c.val⟩:=rfl
theorem Chn.put5 (c:Chn) (x:Int):V.setSub c.v 5 (.int x)=Chn.v ⟨c.buf,c.len,c.closed,c.offer,c.from_,x⟩:=rfl
theorem Stt.put0 (s:Stt) (x:List Int):V.setSub s.v 0 (.agg (x.map V.int))=Stt.v ⟨x,s.owner,s.chans,s.gos,s.count⟩:=rfl
theorem Stt.put1 (s:Stt) (x:List Int):V.setSub s.v 1 (.agg (x.map V.int))=Stt.v ⟨s.vars,x,s.chans,s.gos,s.count⟩:=rfl
theorem Stt.put2 (s:Stt) (x:List Chn):V.setSub s.v 2 (.agg (x.map Chn.v))=Stt.v ⟨s.vars,s.owner,x,s.gos,s.count⟩:=rfl
theorem Stt.put3 (s:Stt) (x:List Gor):V.setSub s.v 3 (.agg (x.map Gor.v))=Stt.v ⟨s.vars,s.owner,s.chans,x,s.count⟩:=rfl
theorem Stt.put4 (s:Stt) (x:Int):V.setSub s.v 4 (.int x)=Stt.v ⟨s.vars,s.owner,s.chans,s.gos,x⟩:=rfl
attribute [go_sem] ZC Wy Zs Gor.put0 Gor.put1 Gor.put2 Gor.put3 Gor.put4 Chn.put0 Chn.put1 Chn.put2 Chn.put3 Chn.put4 Chn.put5 Stt.put0 Stt.put1 Stt.put2 Stt.put3 Stt.put4
theorem QT {p:Prg} {f:Fnc} {i:Instr} (h:QV p f i=0):(Ql i.op=true∨ZA i.op=true)∧∀ j:Nat,j<4→Qa p f (QO i j) (i.field j) i=0:=by
 unfold QV at h
 split at h;· cases h
 rename_i h1
 split at h;· cases h
 refine ⟨?_,fun j hj=>?_⟩
 · cases h2:Ql i.op
   · right
     cases h3:ZA i.op
     · exact absurd ⟨h2,h3⟩ h1
     · rfl
   · exact .inl rfl
 · exact firstNZ_zero.1 h _ (List.mem_map.2 ⟨j,by simpa using hj,rfl⟩)
theorem within_iff {x n:Int}:Qh x n=true↔0≤x∧x<n:=by simp [Qh]
theorem Zc {p:Prg} {f:Fnc} {i:Instr} {l x:Int} (h:Qa p f l x i=0) (hl:l=114∨l=119):0≤x∧x<f.regs:=by
 unfold Qa at h
 rw [if_pos hl] at h
 split at h
 · rename_i hw;exact within_iff.1 hw
 · cases h
theorem yn {p:Prg} {f:Fnc} {i:Instr} {l x:Int} (h:Qa p f l x i=0) (hl:l=111):x = -1∨0≤x∧x<f.regs:=by
 subst hl
 unfold Qa at h
 rw [if_neg (by decide),if_pos rfl] at h
 split at h
 · cases h
 · rename_i hw
   rw [within_false] at hw
   omega
theorem QBR {p:Prg} {f:Fnc} {i:Instr} {l x:Int} (h:Qa p f l x i=0) (hl:l=116):0≤x∧x<(f.code.length:Int):=by
 subst hl
 unfold Qa at h
 rw [if_neg (by decide),if_neg (by decide),if_neg (by decide),if_neg (by decide),if_neg (by decide),if_neg (by decide),if_neg (by decide),if_neg (by decide),if_neg (by decide),if_pos rfl] at h
 split at h
 · rename_i hw;exact within_iff.1 hw
 · cases h
theorem QMr {op:Int} (h1:1≤op) (h2:op≤15):Q8 op=[114,114,45,45]:=by unfold Q8;rw [if_pos ⟨h1,h2⟩]
theorem QJQ {op:Int} (h1:16≤op) (h2:op≤36):Q8 op=[114,114,114,45]:=by unfold Q8;rw [if_neg (by omega),if_pos ⟨h1,h2⟩]
theorem QOS {p:Prg} {f:Fnc} {i:Instr} (h:QV p f i=0) (h1:1≤i.op) (h2:i.op≤15):(0≤i.a∧i.a<f.regs)∧(0≤i.b∧i.b<f.regs):=by
 have:=(QT h).2
 exact ⟨Zc (this 0 (by decide)) (.inl (by simp [QO,QMr h1 h2])),Zc (this 1 (by decide)) (.inl (by simp [QO,QMr h1 h2]))⟩
theorem QLC {p:Prg} {f:Fnc} {i:Instr} (h:QV p f i=0) (h1:16≤i.op) (h2:i.op≤36):(0≤i.a∧i.a<f.regs)∧(0≤i.b∧i.b<f.regs)∧(0≤i.c∧i.c<f.regs):=by
 have:=(QT h).2
 exact ⟨Zc (this 0 (by decide)) (.inl (by simp [QO,QJQ h1 h2])),Zc (this 1 (by decide)) (.inl (by simp [QO,QJQ h1 h2])),Zc (this 2 (by decide)) (.inl (by simp [QO,QJQ h1 h2]))⟩
theorem QJI {p:Prg} {f:Fnc} {i:Instr} (h:QV p f i=0) (h1:i.op=40):0≤i.a∧i.a<f.regs:=Zc ((QT h).2 0 (by decide)) (.inl (by simp [QO,Q8,h1]))
theorem QJH {p:Prg} {f:Fnc} {i:Instr} (h:QV p f i=0) (h1:i.op=41):(0≤i.a∧i.a<f.regs)∧(0≤i.b∧i.b<f.regs) :=
 ⟨Zc ((QT h).2 0 (by decide)) (.inl (by simp [QO,Q8,h1])),Zc ((QT h).2 1 (by decide)) (.inl (by simp [QO,Q8,h1]))⟩
theorem QMq {p:Prg} {f:Fnc} {i:Instr} (h:QV p f i=0) (h1:i.op=42):0≤i.a∧i.a<(f.code.length:Int):=QBR ((QT h).2 0 (by decide)) (by simp [QO,Q8,h1])
theorem QGC {p:Prg} {f:Fnc} {i:Instr} (h:QV p f i=0) (h1:i.op=43):(0≤i.a∧i.a<f.regs)∧(0≤i.b∧i.b<(f.code.length:Int)) :=
 ⟨Zc ((QT h).2 0 (by decide)) (.inl (by simp [QO,Q8,h1])),QBR ((QT h).2 1 (by decide)) (by simp [QO,Q8,h1])⟩
theorem QMp {p:Prg} {f:Fnc} {i:Instr} (h:QV p f i=0) (h1:i.op=44):0≤i.a∧i.a<f.regs:=Zc ((QT h).2 0 (by decide)) (.inl (by simp [QO,Q8,h1]))
structure gorIn (p:Prg) (g:Gor):Prop where
 f0:0≤g.func
 f1:g.func<p.funcs.length
 p0:0≤g.pc
 p1:g.pc<(p.funcs.getD g.func.toNat default).code.length
 regs:g.regs.length=8
abbrev Prg.instr (p:Prg) (g:Gor):Instr:=(p.funcs.getD g.func.toNat default).code.getD g.pc.toNat default
theorem XU {p:Prg} (hok:p.Ok) {g:Gor} (hg:gorIn p g):QV p (p.funcs.getD g.func.toNat default) (p.instr g)=0 :=
 hok.instr _ _ (by have:=hg.f0;have:=hg.f1;omega) (by have:=hg.p0;have:=hg.p1;omega)
theorem QCo {p:Prg} (hok:p.Ok) {g:Gor} (hg:gorIn p g) (h:(p.instr g).op≠42∧(p.instr g).op≠45∧(p.instr g).op≠61):g.pc+1<(p.funcs.getD g.func.toNat default).code.length:=by
 have h1:=hg.p1
 have h0:=hg.p0
 by_cases hc:g.pc+1<(p.funcs.getD g.func.toNat default).code.length
 · exact hc
 · have hl:=hok.last g.func.toNat (by have:=hg.f0;have:=hg.f1;omega)
   have e:g.pc=((p.funcs.getD g.func.toNat default).code.length:Int)-1:=by omega
   unfold U5 Fnc.at_ at hl
   rw [← e] at hl
   simp only [Bool.or_eq_true,decide_eq_true_eq] at hl
   rcases hl with (hl|hl)|hl
   · exact absurd hl h.1
   · exact absurd hl h.2.1
   · exact absurd hl h.2.2
section
variable (apply:Int→Int→Int→Int × Int) {p:Prg} {g:Gor}
theorem ls1 (h:(p.instr g).op≤15):Qg apply p g=(⟨g.status,g.func,g.pc+1,g.why,g.regs.set (p.instr g).a.toNat (apply (p.instr g).op (g.regs.getD (p.instr g).b.toNat 0) 0).1⟩,true):=if_pos h
theorem ls2 (h1:¬(p.instr g).op≤15) (h:(p.instr g).op≤36) (e1:¬(apply (p.instr g).op (g.regs.getD (p.instr g).b.toNat 0) (g.regs.getD (p.instr g).c.toNat 0)).2=20) (e2:¬(apply (p.instr g).op (g.regs.getD (p.instr g).b.toNat 0) (g.regs.getD (p.instr g).c.toNat 0)).2=21) :
 Qg apply p g=(⟨g.status,g.func,g.pc+1,g.why,g.regs.set (p.instr g).a.toNat (apply (p.instr g).op (g.regs.getD (p.instr g).b.toNat 0) (g.regs.getD (p.instr g).c.toNat 0)).1⟩,true) :=
 (if_neg h1).trans ((if_pos h).trans ((if_neg e1).trans (if_neg e2)))
theorem QK9 (h1:¬(p.instr g).op≤15) (h:(p.instr g).op≤36) (e1:(apply (p.instr g).op (g.regs.getD (p.instr g).b.toNat 0) (g.regs.getD (p.instr g).c.toNat 0)).2=20):Qg apply p g=(ended g 4 2,false) :=
 (if_neg h1).trans ((if_pos h).trans (if_pos e1))
theorem QLA (h1:¬(p.instr g).op≤15) (h:(p.instr g).op≤36) (e1:¬(apply (p.instr g).op (g.regs.getD (p.instr g).b.toNat 0) (g.regs.getD (p.instr g).c.toNat 0)).2=20) (e2:(apply (p.instr g).op (g.regs.getD (p.instr g).b.toNat 0) (g.regs.getD (p.instr g).c.toNat 0)).2=21):Qg apply p g=(ended g 4 3,false) :=
 (if_neg h1).trans ((if_pos h).trans ((if_neg e1).trans (if_pos e2)))
theorem QK8 (h1:¬(p.instr g).op≤15) (h2:¬(p.instr g).op≤36) (h:(p.instr g).op=40):Qg apply p g=(⟨g.status,g.func,g.pc+1,g.why,g.regs.set (p.instr g).a.toNat (p.instr g).n⟩,true) :=
 (if_neg h1).trans ((if_neg h2).trans (if_pos h))
theorem QK7 (h1:¬(p.instr g).op≤15) (h2:¬(p.instr g).op≤36) (h3:¬(p.instr g).op=40) (h:(p.instr g).op=41):Qg apply p g=(⟨g.status,g.func,g.pc+1,g.why,g.regs.set (p.instr g).a.toNat (g.regs.getD (p.instr g).b.toNat 0)⟩,true) :=
 (if_neg h1).trans ((if_neg h2).trans ((if_neg h3).trans (if_pos h)))
theorem QK6 (h1:¬(p.instr g).op≤15) (h2:¬(p.instr g).op≤36) (h3:¬(p.instr g).op=40) (h4:¬(p.instr g).op=41) (h:(p.instr g).op=42):Qg apply p g=(⟨g.status,g.func,(p.instr g).a,g.why,g.regs⟩,true) :=
 (if_neg h1).trans ((if_neg h2).trans ((if_neg h3).trans ((if_neg h4).trans (if_pos h))))
theorem QK5 (h1:¬(p.instr g).op≤15) (h2:¬(p.instr g).op≤36) (h3:¬(p.instr g).op=40) (h4:¬(p.instr g).op=41) (h5:¬(p.instr g).op=42) (h:(p.instr g).op=43) (e:¬g.regs.getD (p.instr g).a.toNat 0=0):Qg apply p g=(⟨g.status,g.func,(p.instr g).b,g.why,g.regs⟩,true):=by
 refine (if_neg h1).trans ((if_neg h2).trans ((if_neg h3).trans ((if_neg h4).trans ((if_neg h5).trans ((if_pos h).trans ?_)))))
 exact Prod.ext (if_pos e) rfl
theorem QGB (h1:¬(p.instr g).op≤15) (h2:¬(p.instr g).op≤36) (h3:¬(p.instr g).op=40) (h4:¬(p.instr g).op=41) (h5:¬(p.instr g).op=42) (h:(p.instr g).op=43) (e:g.regs.getD (p.instr g).a.toNat 0=0):Qg apply p g=(⟨g.status,g.func,g.pc+1,g.why,g.regs⟩,true):=by
 refine (if_neg h1).trans ((if_neg h2).trans ((if_neg h3).trans ((if_neg h4).trans ((if_neg h5).trans ((if_pos h).trans ?_)))))
 exact Prod.ext (if_neg (fun q=>q e)) rfl
theorem QK4 (h1:¬(p.instr g).op≤15) (h2:¬(p.instr g).op≤36) (h3:¬(p.instr g).op=40) (h4:¬(p.instr g).op=41) (h5:¬(p.instr g).op=42) (h6:¬(p.instr g).op=43) (h:(p.instr g).op=44) (e:¬g.regs.getD (p.instr g).a.toNat 0=0):Qg apply p g=(⟨g.status,g.func,g.pc+1,g.why,g.regs⟩,true) :=
 (if_neg h1).trans ((if_neg h2).trans ((if_neg h3).trans ((if_neg h4).trans ((if_neg h5).trans ((if_neg h6).trans ((if_pos h).trans (if_neg e)))))))
theorem QGA (h1:¬(p.instr g).op≤15) (h2:¬(p.instr g).op≤36) (h3:¬(p.instr g).op=40) (h4:¬(p.instr g).op=41) (h5:¬(p.instr g).op=42) (h6:¬(p.instr g).op=43) (h:(p.instr g).op=44) (e:g.regs.getD (p.instr g).a.toNat 0=0):Qg apply p g=(ended g 4 1,false) :=
 (if_neg h1).trans ((if_neg h2).trans ((if_neg h3).trans ((if_neg h4).trans ((if_neg h5).trans ((if_neg h6).trans ((if_pos h).trans (if_pos e)))))))
theorem QK3 (h1:¬(p.instr g).op≤15) (h2:¬(p.instr g).op≤36) (h3:¬(p.instr g).op=40) (h4:¬(p.instr g).op=41) (h5:¬(p.instr g).op=42) (h6:¬(p.instr g).op=43) (h:¬(p.instr g).op=44):Qg apply p g=(ended g 3 0,false) :=
 (if_neg h1).trans ((if_neg h2).trans ((if_neg h3).trans ((if_neg h4).trans ((if_neg h5).trans ((if_neg h6).trans (if_neg h))))))
theorem y8 (hg:gorIn p g) (s w:Int):gorIn p (ended g s w):=⟨hg.f0,hg.f1,hg.p0,hg.p1,rfl⟩
theorem V6 {op:Int} (h:Ql op=true):(1≤op∧op≤36)∨(40≤op∧op≤45):=by simpa [Ql] using h
theorem Zi (hok:p.Ok) (hg:gorIn p g) (hl:Ql (p.instr g).op=true):gorIn p (Qg apply p g).1:=by
 have hr:=V6 hl
 have hin:=XU hok hg
 have next:∀ regs:List Int,regs.length=8→((p.instr g).op≠42∧(p.instr g).op≠45∧(p.instr g).op≠61)→gorIn p ⟨g.status,g.func,g.pc+1,g.why,regs⟩:=fun regs h8 ho =>
  ⟨hg.f0,hg.f1,by have:=hg.p0;show 0≤g.pc+1;omega,QCo hok hg ho,h8⟩
 have h8:=hg.regs
 by_cases h1:(p.instr g).op≤15
 · rw [ls1 apply h1];exact next _ (by rw [List.length_set];exact h8) (by omega)
 by_cases h2:(p.instr g).op≤36
 · by_cases e1:(apply (p.instr g).op (g.regs.getD (p.instr g).b.toNat 0) (g.regs.getD (p.instr g).c.toNat 0)).2=20
   · rw [QK9 apply h1 h2 e1];exact y8 hg _ _
   by_cases e2:(apply (p.instr g).op (g.regs.getD (p.instr g).b.toNat 0) (g.regs.getD (p.instr g).c.toNat 0)).2=21
   · rw [QLA apply h1 h2 e1 e2];exact y8 hg _ _
   · rw [ls2 apply h1 h2 e1 e2];exact next _ (by rw [List.length_set];exact h8) (by omega)
 by_cases h3:(p.instr g).op=40
 · rw [QK8 apply h1 h2 h3];exact next _ (by rw [List.length_set];exact h8) (by omega)
 by_cases h4:(p.instr g).op=41
 · rw [QK7 apply h1 h2 h3 h4];exact next _ (by rw [List.length_set];exact h8) (by omega)
 by_cases h5:(p.instr g).op=42
 · rw [QK6 apply h1 h2 h3 h4 h5]
   have:=QMq hin h5
   exact ⟨hg.f0,hg.f1,this.1,this.2,h8⟩
 by_cases h6:(p.instr g).op=43
 · by_cases e:g.regs.getD (p.instr g).a.toNat 0=0
   · rw [QGB apply h1 h2 h3 h4 h5 h6 e];exact next _ h8 (by omega)
   · rw [QK5 apply h1 h2 h3 h4 h5 h6 e]
     have:=(QGC hin h6).2
     exact ⟨hg.f0,hg.f1,this.1,this.2,h8⟩
 by_cases h7:(p.instr g).op=44
 · by_cases e:g.regs.getD (p.instr g).a.toNat 0=0
   · rw [QGA apply h1 h2 h3 h4 h5 h6 h7 e];exact y8 hg _ _
   · rw [QK4 apply h1 h2 h3 h4 h5 h6 h7 e];exact next _ h8 (by omega)
 · rw [QK3 apply h1 h2 h3 h4 h5 h6 h7];exact y8 hg _ _
theorem Y6 {m:Nat} (h:Ql (p.instr g).op=false):Zh apply p m g=g:=by
 cases m with
 | zero=>exact if_neg (by rw [show ((p.fn g.func).at_ g.pc)=p.instr g from rfl,h];simp)
 | succ m=>exact if_neg (by rw [show ((p.fn g.func).at_ g.pc)=p.instr g from rfl,h];simp)
theorem Wq (h:Ql (p.instr g).op=true):Zh apply p 0 g=⟨5,g.func,g.pc,g.why,g.regs⟩:=if_pos h
theorem Q5 {m:Nat} (h:Ql (p.instr g).op=true):Zh apply p (m+1) g=if (Qg apply p g).2 then Zh apply p m (Qg apply p g).1 else (Qg apply p g).1:=if_pos h
end
theorem Wv {p:Prg} {s:Stt} (h:Zf p s=true):QP p=true∧(1≤s.count∧s.count≤6)∧Yh p s 6=true∧W6 p s 8=true∧YC p s 4=true∧XH p s 4=true∧Ys s s.count.toNat=true:=by
 simp only [Zf,Bool.and_eq_true,decide_eq_true_eq] at h
 exact ⟨h.1.1.1.1.1.1.1,⟨h.1.1.1.1.1.1.2,h.1.1.1.1.1.2⟩,h.1.1.1.1.2,h.1.1.1.2,h.1.1.2,h.1.2,h.2⟩
theorem QFH {p:Prg} {s:Stt} (hs:s.Shape) (h:Yh p s 6=true) {g:Int} (h0:0≤g) (h6:g<6) (hc:g<s.count):gorIn p (s.gos.getD g.toNat default):=by
 have:=wm (zQ h h0 h6 hc)
 unfold qU at this
 exact ⟨this.1.1.1.2,this.1.1.2,this.1.2,this.2,hs.regs _ (Qn _ (by rw [hs.gos];omega))⟩
end Go.Eng
namespace Go.Eng
theorem qj {p:Prg} {f:Fnc} {i:Instr} {l x:Int} (h:Qa p f l x i=0) (hl:l=118∨l=97):0≤x∧x<(p.vars.length:Int):=by
 unfold Qa at h
 rw [if_neg (by omega),if_neg (by omega),if_neg (by omega)] at h
 split at h
 · split at h
   · rename_i hw;exact within_iff.1 hw
   · cases h
 · rw [if_pos (by omega)] at h
   split at h
   · rename_i hw;exact within_iff.1 hw
   · cases h
theorem QBQ {p:Prg} {f:Fnc} {i:Instr} {l x:Int} (h:Qa p f l x i=0) (hl:l=108):0≤x∧x<p.locks:=by
 subst hl
 unfold Qa at h
 rw [if_neg (by decide),if_neg (by decide),if_neg (by decide),if_neg (by decide),if_neg (by decide),if_pos rfl] at h
 split at h
 · rename_i hw;exact within_iff.1 hw
 · cases h
theorem xf {p:Prg} {f:Fnc} {i:Instr} {l x:Int} (h:Qa p f l x i=0) (hl:l=99):0≤x∧x<(p.chans.length:Int):=by
 subst hl
 unfold Qa at h
 rw [if_neg (by decide),if_neg (by decide),if_neg (by decide),if_neg (by decide),if_neg (by decide),if_neg (by decide),if_pos rfl] at h
 split at h
 · rename_i hw;exact within_iff.1 hw
 · cases h
theorem QIZ {p:Prg} {f:Fnc} {i:Instr} {l x:Int} (h:Qa p f l x i=0) (hl:l=115):0≤x∧x<(f.sels.length:Int):=by
 subst hl
 unfold Qa at h
 rw [if_neg (by decide),if_neg (by decide),if_neg (by decide),if_neg (by decide),if_neg (by decide),if_neg (by decide),if_neg (by decide),if_pos rfl] at h
 split at h
 · rename_i hw;exact within_iff.1 hw
 · cases h
theorem QIb {p:Prg} {f:Fnc} {i:Instr} {l x:Int} (h:Qa p f l x i=0) (hl:l=102):0≤x∧x<(p.funcs.length:Int):=by
 subst hl
 unfold Qa at h
 rw [if_neg (by decide),if_neg (by decide),if_neg (by decide),if_neg (by decide),if_neg (by decide),if_neg (by decide),if_neg (by decide),if_neg (by decide),if_pos rfl] at h
 split at h
 · rename_i hw;exact within_iff.1 hw
 · cases h
theorem QIa {p:Prg} {f:Fnc} {i:Instr} {l x:Int} (h:Qa p f l x i=0) (hl:l=112):((p.fn i.b).params=0→x=0)∧(0<(p.fn i.b).params→0≤x∧x≤w64 (f.regs-(p.fn i.b).params)):=by
 subst hl
 unfold Qa at h
 rw [if_neg (by decide),if_neg (by decide),if_pos rfl] at h
 split at h
 · cases h
 · rename_i hw
   constructor
   · intro h0
     by_cases hx:x=0
     · exact hx
     · exact absurd (.inl ⟨h0,hx⟩) hw
   · intro h0
     omega
section
variable {p:Prg} {f:Fnc} {i:Instr} (h:QV p f i=0)
include h
theorem QDZ (h1:i.op=50):(0≤i.a∧i.a<f.regs)∧(0≤i.b∧i.b<(p.vars.length:Int)):=⟨Zc ((QT h).2 0 (by decide)) (.inl (by simp [QO,Q8,h1])),qj ((QT h).2 1 (by decide)) (.inl (by simp [QO,Q8,h1]))⟩
theorem QDY (h1:i.op=51):(0≤i.a∧i.a<(p.vars.length:Int))∧(0≤i.b∧i.b<f.regs):=⟨qj ((QT h).2 0 (by decide)) (.inl (by simp [QO,Q8,h1])),Zc ((QT h).2 1 (by decide)) (.inl (by simp [QO,Q8,h1]))⟩
theorem QDX (h1:i.op=52):(i.a = -1∨0≤i.a∧i.a<f.regs)∧(0≤i.b∧i.b<(p.vars.length:Int))∧(0≤i.c∧i.c<f.regs):=⟨yn ((QT h).2 0 (by decide)) (by simp [QO,Q8,h1]),qj ((QT h).2 1 (by decide)) (.inr (by simp [QO,Q8,h1])),Zc ((QT h).2 2 (by decide)) (.inl (by simp [QO,Q8,h1]))⟩
theorem QDW (h1:i.op=53):(0≤i.a∧i.a<f.regs)∧(0≤i.b∧i.b<(p.vars.length:Int))∧(0≤i.c∧i.c<f.regs)∧(0≤i.n∧i.n<f.regs):=⟨Zc ((QT h).2 0 (by decide)) (.inl (by simp [QO,Q8,h1])),qj ((QT h).2 1 (by decide)) (.inr (by simp [QO,Q8,h1])),Zc ((QT h).2 2 (by decide)) (.inl (by simp [QO,Q8,h1])),Zc ((QT h).2 3 (by decide)) (.inr (by simp [QO,Q8,h1]))⟩
theorem QA5 (h1:i.op=54):(0≤i.a∧i.a<(p.vars.length:Int))∧(0≤i.b∧i.b<f.regs):=⟨qj ((QT h).2 0 (by decide)) (.inr (by simp [QO,Q8,h1])),Zc ((QT h).2 1 (by decide)) (.inl (by simp [QO,Q8,h1]))⟩
theorem qY (h1:i.op=55∨i.op=56):0≤i.a∧i.a<p.locks:=QBQ ((QT h).2 0 (by decide)) (by rcases h1 with h1|h1<;>simp [QO,Q8,h1])
theorem QDV (h1:i.op=57):(0≤i.a∧i.a<f.regs)∧(0≤i.b∧i.b<p.locks):=⟨Zc ((QT h).2 0 (by decide)) (.inl (by simp [QO,Q8,h1])),QBQ ((QT h).2 1 (by decide)) (by simp [QO,Q8,h1])⟩
theorem VU (h1:i.op=58):(0≤i.a∧i.a<(p.chans.length:Int))∧(0≤i.b∧i.b<f.regs):=⟨xf ((QT h).2 0 (by decide)) (by simp [QO,Q8,h1]),Zc ((QT h).2 1 (by decide)) (.inl (by simp [QO,Q8,h1]))⟩
theorem yU (h1:i.op=59):(i.a = -1∨0≤i.a∧i.a<f.regs)∧(0≤i.b∧i.b<(p.chans.length:Int))∧(i.c = -1∨0≤i.c∧i.c<f.regs):=⟨yn ((QT h).2 0 (by decide)) (by simp [QO,Q8,h1]),xf ((QT h).2 1 (by decide)) (by simp [QO,Q8,h1]),yn ((QT h).2 2 (by decide)) (by simp [QO,Q8,h1])⟩
theorem QDU (h1:i.op=60):0≤i.a∧i.a<(p.chans.length:Int):=xf ((QT h).2 0 (by decide)) (by simp [QO,Q8,h1])
theorem V0 (h1:i.op=61):0≤i.a∧i.a<(f.sels.length:Int):=QIZ ((QT h).2 0 (by decide)) (by simp [QO,Q8,h1])
theorem QFq (h1:i.op=62):(i.a = -1∨0≤i.a∧i.a<f.regs)∧(0≤i.b∧i.b<(p.funcs.length:Int))∧((p.fn i.b).params=0→i.c=0)∧(0<(p.fn i.b).params→0≤i.c∧i.c≤w64 (f.regs-(p.fn i.b).params)):=⟨yn ((QT h).2 0 (by decide)) (by simp [QO,Q8,h1]),QIb ((QT h).2 1 (by decide)) (by simp [QO,Q8,h1]),QIa ((QT h).2 2 (by decide)) (by simp [QO,Q8,h1])⟩
theorem zc (h1:i.op=63∨i.op=65):0≤i.a∧i.a<f.regs:=Zc ((QT h).2 0 (by decide)) (.inl (by rcases h1 with h1|h1<;>simp [QO,Q8,h1]))
theorem QFz:1≤i.op∧i.op≤65:=by
 have:=(QT h).1
 simp [Ql,ZA] at this
 omega
end
structure Wf (p:Prg) (s:Stt):Prop where
 shape:s.Shape
 count:0≤s.count∧s.count≤6
 gos:∀ g:Int,0≤g→g<s.count→gorIn p (s.gos.getD g.toNat default)
 wait:∀ g:Int,0≤g→g<s.count→(s.gos.getD g.toNat default).status=2→(p.instr (s.gos.getD g.toNat default)).op=58
 chans:∀ i:Nat,0≤(s.chans.getD i default).len∧(s.chans.getD i default).len≤p.chans.getD i 0
abbrev UZ (p:Prg) (s:Stt) (g:Int):Instr:=p.instr (s.gos.getD g.toNat default)
theorem U1 {p:Prg} {s:Stt} {g k:Int} (h:QL p s g=k):((s.gos.getD g.toNat default).status=2∧k=66)∨(¬(s.gos.getD g.toNat default).status=2∧(UZ p s g).op=k):=by
 unfold QL at h
 split at h
 · rename_i h1;exact .inl ⟨h1,h.symm⟩
 · rename_i h1;exact .inr ⟨h1,h⟩
theorem Wf.right {p:Prg} {s:Stt} (hok:p.Ok) (hw:Wf p s) {g:Int} (h0:0≤g) (hc:g<s.count):QV p (p.funcs.getD (s.gos.getD g.toNat default).func.toNat default) (UZ p s g)=0:=XU hok (hw.gos g h0 hc)
theorem Wf.op_at {p:Prg} {s:Stt} (hok:p.Ok) (hw:Wf p s) {g k:Int} (h0:0≤g) (hc:g<s.count) (h:QL p s g=k) (hk:k≠66):(UZ p s g).op=k:=by
 rcases U1 h with h|h
 · exact absurd h.2 hk
 · exact h.2
theorem Wf.op66 {p:Prg} {s:Stt} (hok:p.Ok) (hw:Wf p s) {g:Int} (h0:0≤g) (hc:g<s.count) (h:QL p s g=66):(UZ p s g).op=58:=by
 rcases U1 h with h|h
 · exact hw.wait g h0 hc h.1
 · have:=QFz (hw.right hok h0 hc);omega
theorem live_iff {s:Stt} {g:Int}:ZE s g=true↔(0≤g∧g<s.count)∧((s.gos.getD g.toNat default).status=1∨(s.gos.getD g.toNat default).status=2):=by
 unfold ZE
 rw [Bool.and_eq_true,Bool.and_eq_true,Bool.or_eq_true,decide_eq_true_eq,decide_eq_true_eq,decide_eq_true_eq,decide_eq_true_eq]
 exact Iff.rfl
structure CasIn (p:Prg) (f:Fnc) (c:Cas):Prop where
 chan:0≤c.chan∧c.chan<(p.chans.length:Int)
 reg:(0≤c.reg∧c.reg<f.regs)∨(c.send=false∧c.reg = -1)
 cap:c.send=true→¬p.chans.getD c.chan.toNat 0=0
 to_:0≤c.to_∧c.to_<(f.code.length:Int)
theorem QFa {p:Prg} {f:Fnc} {c:Cas} (h:Z0 p f c=0):CasIn p f c:=by
 unfold Z0 at h
 split at h;· cases h
 rename_i h1
 split at h;· cases h
 rename_i h2
 split at h;· cases h
 rename_i h3
 split at h;· cases h
 rename_i h4
 rw [within_false] at h1 h4
 rw [within_false] at h2
 refine ⟨by omega,?_,fun q q2=>h3 ⟨q,q2⟩,by omega⟩
 by_cases hr:0≤c.reg∧c.reg<f.regs
 · exact .inl hr
 · right
   cases hs:c.send
   · exact ⟨rfl,by by_cases q:c.reg = -1;exact q;exact absurd ⟨by omega,.inr q⟩ h2⟩
   · exact absurd ⟨by omega,.inl hs⟩ h2
theorem UC {p:Prg} (hok:p.Ok) {i j k:Nat} (hi:i<p.funcs.length) (hj:j<(p.funcs.getD i default).sels.length) (hk:k<((p.funcs.getD i default).sels.getD j default).cases.length) :
 CasIn p (p.funcs.getD i default) (((p.funcs.getD i default).sels.getD j default).cases.getD k default):=by
 have h:=hok.sels i j hi hj
 simp only [Va] at h
 split at h
 · rename_i h1;exact absurd h h1
 · rename_i h1
   have h1:XW p (p.funcs.getD i default) ((p.funcs.getD i default).sels.getD j default) ((p.funcs.getD i default).sels.getD j default).cases.length=0:=by simpa using h1
   unfold XW at h1
   rw [List.take_length] at h1
   exact QFa (firstNZ_zero.1 h1 _ (List.mem_map.2 ⟨_,Qn _ hk,rfl⟩))
theorem QGN {p:Prg} (hok:p.Ok) {i j:Nat} (hi:i<p.funcs.length) (hj:j<(p.funcs.getD i default).sels.length) :
 ((p.funcs.getD i default).sels.getD j default).els = -1∨0≤((p.funcs.getD i default).sels.getD j default).els∧((p.funcs.getD i default).sels.getD j default).els<((p.funcs.getD i default).code.length:Int):=by
 have h:=hok.sels i j hi hj
 simp only [Va] at h
 split at h
 · rename_i h1;exact absurd h h1
 · split at h
   · cases h
   · rename_i h2
     rw [within_false] at h2
     omega
theorem WI (p:Prg) (s:Stt) (q:Sel) (n:Nat):(ZV p s q n).length≤n:=by
 unfold ZV;rw [List.length_map];exact Nat.le_trans (List.length_filter_le _ _) (by simp)
theorem wU {p:Prg} {s:Stt} {q:Sel} {n:Nat} (h:XX p s (q.cases.getD n default)=true):ZV p s q (n+1)=ZV p s q n++[(n:Int)]:=by
 unfold ZV
 rw [List.range_succ,List.filter_append,List.map_append]
 simp only [List.filter_cons,List.filter_nil,h,if_true,List.map_cons,List.map_nil]
theorem xI {p:Prg} {s:Stt} {q:Sel} {n:Nat} (h:XX p s (q.cases.getD n default)=false):ZV p s q (n+1)=ZV p s q n:=by
 unfold ZV
 rw [List.range_succ,List.filter_append,List.map_append]
 simp only [List.filter_cons,List.filter_nil,h,Bool.false_eq_true,if_false,List.map_nil,List.append_nil]
theorem Uw (p:Prg) (s:Stt) (n:Nat):XG p s (n+1)=XG p s n++(Qj p s n).map fun a=>⟨(n:Int),a⟩:=by
 unfold XG
 rw [List.range_succ,List.flatMap_append]
 simp
end Go.Eng
namespace Go.Eng
def ckV (p:Prg) (f:Fnc):V:=.agg [p.v,f.v]
theorem QSK (p:Prg) (f:Fnc) (d:V):(ckV p f).toList.getD 0 d=p.v:=rfl
theorem QSJ (p:Prg) (f:Fnc) (d:V):(ckV p f).toList.getD 1 d=f.v:=rfl
def Z9 (e x n:Int):Int:=if Qh x n then 0 else e
theorem Yu {e x n:Int} (h:Z9 e x n=0) (he:e≠0):0≤x∧x<n:=by
 unfold Z9 at h
 split at h
 · rename_i q;exact within_iff.1 q
 · exact absurd h he
theorem qm {e x n:Int} (h:Z9 e x n≠0):Qh x n=false:=by
 unfold Z9 at h
 split at h
 · exact absurd rfl h
 · rename_i q;simpa using q
theorem QHV:∀ n:Fin 66,((VC n.val).toList == (ByteArray.mk #[]).toList)=!(Ql n.val||ZA n.val):=by decide +kernel
theorem QFJ (op:Int):((VC op).toList == (ByteArray.mk #[]).toList)=!(Ql op||ZA op):=by
 by_cases h:op<1∨65<op
 · have e:VC op=ByteArray.mk #[]:=by unfold VC;rw [yH h];rfl
   have h1:Ql op=false:=by
    unfold Ql
    rw [Bool.or_eq_false_iff,Bool.and_eq_false_iff,Bool.and_eq_false_iff]
    simp only [decide_eq_false_iff_not];omega
   have h2:ZA op=false:=by
    unfold ZA
    rw [Bool.and_eq_false_iff]
    simp only [decide_eq_false_iff_not];omega
   rw [e,h1,h2];simp
 · have:=QHV ⟨op.toNat,by omega⟩
   rwa [show ((⟨op.toNat,by omega⟩:Fin 66).val:Int)=op from by simp;omega] at this
theorem zN {e x n:Int} (h:Z9 e x n≠0):Z9 e x n=e:=by
 have:=qm h
 unfold Z9
 rw [this];rfl
section
variable {p:Prg} {f:Fnc} {c:Cas}
theorem QOi (h:Z9 36 c.chan p.chans.length≠0):Z0 p f c=Z9 36 c.chan p.chans.length:=by
 rw [zN h];exact QAR (within_false.1 (qm h))
theorem QOj (h:Z9 36 c.chan p.chans.length=0) (h1:c.send=true∨¬c.reg = -1) (h2:Z9 35 c.reg f.regs≠0):Z0 p f c=Z9 35 c.reg f.regs:=by
 rw [zN h2];exact QAS (Yu h (by decide)) ⟨within_false.1 (qm h2),h1⟩
theorem QAO (h2:(c.send=false∧c.reg = -1)∨Z9 35 c.reg f.regs=0):c.reg<0∨f.regs≤c.reg→c.send=false∧c.reg = -1:=by
 intro q
 rcases h2 with h2|h2
 · exact h2
 · have:=Yu h2 (by decide);omega
theorem QOh (h:Z9 36 c.chan p.chans.length=0) (h2:(c.send=false∧c.reg = -1)∨Z9 35 c.reg f.regs=0) (h3:c.send=true∧p.chans.getD c.chan.toNat 0=0):Z0 p f c=37 :=
 QAQ (Yu h (by decide)) (QAO h2) h3
theorem QOg (h:Z9 36 c.chan p.chans.length=0) (h2:(c.send=false∧c.reg = -1)∨Z9 35 c.reg f.regs=0) (h3:c.send=true→¬p.chans.getD c.chan.toNat 0=0) (h4:Z9 38 c.to_ f.code.length≠0):Z0 p f c=Z9 38 c.to_ f.code.length:=by
 rw [zN h4];exact QAP (Yu h (by decide)) (QAO h2) h3 (within_false.1 (qm h4))
theorem QQu (h:Z9 36 c.chan p.chans.length=0) (h2:(c.send=false∧c.reg = -1)∨Z9 35 c.reg f.regs=0) (h3:c.send=true→¬p.chans.getD c.chan.toNat 0=0) (h4:Z9 38 c.to_ f.code.length=0):Z0 p f c=0 :=
 QB2 (Yu h (by decide)) (QAO h2) h3 (Yu h4 (by decide))
end
def UM (p:Prg):Int:=if 8<p.vars.length∨p.locks<0∨4<p.locks∨4<p.chans.length∨p.funcs.length<1∨8<p.funcs.length then 30 else if Zr p p.chans.length=false then 31 else 0
theorem QGg {p:Prg} (h:UM p≠0):Yk p=UM p∧Wx p=(0,0):=by
 unfold UM at *
 by_cases h1:8<p.vars.length∨p.locks<0∨4<p.locks∨4<p.chans.length∨p.funcs.length<1∨8<p.funcs.length
 · rw [if_pos h1];exact wT h1
 · rw [if_neg h1] at h ⊢
   by_cases h2:Zr p p.chans.length=false
   · rw [if_pos h2];exact QAM h1 h2
   · rw [if_neg h2] at h;exact absurd rfl h
theorem QEo {p:Prg} (h:UM p=0):Ze p∧Zr p p.chans.length=true:=by
 unfold UM at h
 by_cases h1:8<p.vars.length∨p.locks<0∨4<p.locks∨4<p.chans.length∨p.funcs.length<1∨8<p.funcs.length
 · rw [if_pos h1] at h;cases h
 · rw [if_neg h1] at h
   by_cases h2:Zr p p.chans.length=false
   · rw [if_pos h2] at h;cases h
   · exact ⟨h1,by simpa using h2⟩
def WR (m:Int) (f:Fnc):Int:=if Yj m f then 0 else 32
end Go.Eng
namespace Go.Eng
def Did.v (d:Did):V:=.agg [d.s.v,.int d.val,.int d.why,.int d.to_]
theorem Did.v0 (d:Did) (x:V):d.v.toList.getD 0 x=d.s.v:=rfl
theorem Did.v1 (d:Did) (x:V):d.v.toList.getD 1 x=.int d.val:=rfl
theorem Did.v2 (d:Did) (x:V):d.v.toList.getD 2 x=.int d.why:=rfl
theorem Did.v3 (d:Did) (x:V):d.v.toList.getD 3 x=.int d.to_:=rfl
theorem Did.put0 (d:Did) (x:Stt):V.setSub d.v 0 x.v=Did.v ⟨x,d.val,d.why,d.to_⟩:=rfl
theorem Did.put1 (d:Did) (x:Int):V.setSub d.v 1 (.int x)=Did.v ⟨d.s,x,d.why,d.to_⟩:=rfl
theorem Did.put2 (d:Did) (x:Int):V.setSub d.v 2 (.int x)=Did.v ⟨d.s,d.val,x,d.to_⟩:=rfl
theorem Did.put3 (d:Did) (x:Int):V.setSub d.v 3 (.int x)=Did.v ⟨d.s,d.val,d.why,x⟩:=rfl
attribute [go_sem] Did.v0 Did.v1 Did.v2 Did.v3 Did.put0 Did.put1 Did.put2 Did.put3
theorem vJ (b:List Int) {n i:Nat} (hi:i<b.length) (h:n≤i):(Zz b n).getD i 0=b.getD i 0:=by
 unfold Zz
 rw [VQ hi,if_neg (by omega)]
theorem YN (b:List Int) (n:Nat):(Zz b n).length=b.length:=by simp [Zz]
theorem QHS (l:List Gor) (i:Nat) (x:Int):(l.map Gor.v).set i (V.setSub ((l.map Gor.v).getD i default) 0 (.int x))=(l.set i ⟨x,(l.getD i default).func,(l.getD i default).pc,(l.getD i default).why,(l.getD i default).regs⟩).map Gor.v:=by
 by_cases h:i<l.length
 · rw [YL h,Gor.put0,Wy]
 · rw [List.set_eq_of_length_le (by simpa using h),List.set_eq_of_length_le (by simpa using h)]
theorem QHR (l:List Gor) (i:Nat) (x:Int):(l.map Gor.v).set i (V.setSub ((l.map Gor.v).getD i default) 2 (.int x))=(l.set i ⟨(l.getD i default).status,(l.getD i default).func,x,(l.getD i default).why,(l.getD i default).regs⟩).map Gor.v:=by
 by_cases h:i<l.length
 · rw [YL h,Gor.put2,Wy]
 · rw [List.set_eq_of_length_le (by simpa using h),List.set_eq_of_length_le (by simpa using h)]
theorem QHQ (l:List Gor) (i:Nat) (x:Int):(l.map Gor.v).set i (V.setSub ((l.map Gor.v).getD i default) 3 (.int x))=(l.set i ⟨(l.getD i default).status,(l.getD i default).func,(l.getD i default).pc,x,(l.getD i default).regs⟩).map Gor.v:=by
 by_cases h:i<l.length
 · rw [YL h,Gor.put3,Wy]
 · rw [List.set_eq_of_length_le (by simpa using h),List.set_eq_of_length_le (by simpa using h)]
theorem QHP (l:List Gor) (i:Nat) (x:List Int):(l.map Gor.v).set i (V.setSub ((l.map Gor.v).getD i default) 4 (.agg (x.map V.int)))=(l.set i ⟨(l.getD i default).status,(l.getD i default).func,(l.getD i default).pc,(l.getD i default).why,x⟩).map Gor.v:=by
 by_cases h:i<l.length
 · rw [YL h,Gor.put4,Wy]
 · rw [List.set_eq_of_length_le (by simpa using h),List.set_eq_of_length_le (by simpa using h)]
theorem QHO (l:List Gor) (i r:Nat) (x:Int):(l.map Gor.v).set i (V.setSub ((l.map Gor.v).getD i default) 4 (V.setSub (((l.map Gor.v).getD i default).toList.getD 4 default) r (.int x)))=(l.set i ⟨(l.getD i default).status,(l.getD i default).func,(l.getD i default).pc,(l.getD i default).why,(l.getD i default).regs.set r x⟩).map Gor.v:=by
 by_cases h:i<l.length
 · rw [YL h,Gor.v4,V.setSub_agg,ZC,Gor.put4,Wy]
 · rw [List.set_eq_of_length_le (by simpa using h),List.set_eq_of_length_le (by simpa using h)]
attribute [go_sem] QHS QHR QHQ QHP QHO
theorem wi {α:Type} {q:α→Prop} {l:List α} {x:α} (h:∀ y∈l,q y) (hx:q x) (n:Nat):∀ y∈l.set n x,q y:=by
 intro y hy
 rcases List.mem_or_eq_of_mem_set hy with h1|h1
 · exact h y h1
 · rw [h1];exact hx
theorem YJ {s:Stt} (hs:s.Shape) (c:Nat) {X:Chn} (hX:X.buf.length=4):Stt.Shape ⟨s.vars,s.owner,s.chans.set c X,s.gos,s.count⟩ :=
 ⟨hs.vars,hs.owner,by simpa using hs.chans,wi hs.bufs hX c,hs.gos,hs.regs⟩
theorem Yd {s:Stt} (hs:s.Shape) (g:Nat) {X:Gor} (n:Int) (hX:X.regs.length=8):Stt.Shape ⟨s.vars,s.owner,s.chans,s.gos.set g X,n⟩ :=
 ⟨hs.vars,hs.owner,hs.chans,hs.bufs,by simpa using hs.gos,wi hs.regs hX g⟩
theorem Ut {s:Stt} (hs:s.Shape) (i:Nat) (x:Int):Stt.Shape ⟨s.vars.set i x,s.owner,s.chans,s.gos,s.count⟩ :=
 ⟨by simpa using hs.vars,hs.owner,hs.chans,hs.bufs,hs.gos,hs.regs⟩
theorem zH {s:Stt} (hs:s.Shape) (i:Nat) (x:Int):Stt.Shape ⟨s.vars,s.owner.set i x,s.chans,s.gos,s.count⟩ :=
 ⟨hs.vars,by simpa using hs.owner,hs.chans,hs.bufs,hs.gos,hs.regs⟩
theorem QAG {d:Did} {g:Int} {x:Instr} (h1:¬x.op=50) (h2:¬x.op=51) (h3:¬x.op=52) (h:x.op=53) :
 ZK d g x=if XL (decide (d.s.vars.getD x.b.toNat 0=(d.s.gos.getD g.toNat default).regs.getD x.c.toNat 0))=1
  then ⟨Stt.setReg ⟨d.s.vars.set x.b.toNat ((d.s.gos.getD g.toNat default).regs.getD x.n.toNat 0),d.s.owner,d.s.chans,d.s.gos,d.s.count⟩ g x.a (XL (decide (d.s.vars.getD x.b.toNat 0=(d.s.gos.getD g.toNat default).regs.getD x.c.toNat 0))),XL (decide (d.s.vars.getD x.b.toNat 0=(d.s.gos.getD g.toNat default).regs.getD x.c.toNat 0)),d.why,d.to_⟩
  else ⟨d.s.setReg g x.a (XL (decide (d.s.vars.getD x.b.toNat 0=(d.s.gos.getD g.toNat default).regs.getD x.c.toNat 0))),XL (decide (d.s.vars.getD x.b.toNat 0=(d.s.gos.getD g.toNat default).regs.getD x.c.toNat 0)),d.why,d.to_⟩:=by
 refine ((if_neg h1).trans ((if_neg h2).trans ((if_neg h3).trans (if_pos h)))).trans ?_
 by_cases hc:XL (decide (d.s.vars.getD x.b.toNat 0=(d.s.gos.getD g.toNat default).regs.getD x.c.toNat 0))=1
 · rw [if_pos hc]
   exact congrArg (fun s:Stt=>(⟨s.setReg g x.a _,_,d.why,d.to_⟩:Did)) (if_pos hc)
 · rw [if_neg hc]
   exact congrArg (fun s:Stt=>(⟨s.setReg g x.a _,_,d.why,d.to_⟩:Did)) (if_neg hc)
theorem QAF {d:Did} {g:Int} {x:Instr} (h1:¬x.op=50) (h2:¬x.op=51) (h3:¬x.op=52) (h4:¬x.op=53) (h5:¬x.op=54) (h6:¬x.op=55) (h7:¬x.op=56) (h:x.op=57) :
 ZK d g x=if XL (decide (d.s.owner.getD x.b.toNat 0=0))=1
  then ⟨Stt.setReg ⟨d.s.vars,d.s.owner.set x.b.toNat (g+1),d.s.chans,d.s.gos,d.s.count⟩ g x.a (XL (decide (d.s.owner.getD x.b.toNat 0=0))),XL (decide (d.s.owner.getD x.b.toNat 0=0)),d.why,d.to_⟩
  else ⟨d.s.setReg g x.a (XL (decide (d.s.owner.getD x.b.toNat 0=0))),XL (decide (d.s.owner.getD x.b.toNat 0=0)),d.why,d.to_⟩:=by
 refine ((if_neg h1).trans ((if_neg h2).trans ((if_neg h3).trans ((if_neg h4).trans ((if_neg h5).trans ((if_neg h6).trans ((if_neg h7).trans (if_pos h)))))))).trans ?_
 by_cases hc:XL (decide (d.s.owner.getD x.b.toNat 0=0))=1
 · rw [if_pos hc]
   exact congrArg (fun s:Stt=>(⟨s.setReg g x.a _,_,d.why,d.to_⟩:Did)) (if_pos hc)
 · rw [if_neg hc]
   exact congrArg (fun s:Stt=>(⟨s.setReg g x.a _,_,d.why,d.to_⟩:Did)) (if_neg hc)
end Go.Eng
namespace Go.Eng
theorem Yq {p:Prg} {s:Stt} {g alt:Int} (ha:alt∈Qj p s g):ZE s g=true:=by
 unfold Qj at ha
 split at ha
 · assumption
 · cases ha
theorem Vt {p:Prg} {s:Stt} {g alt:Int} (ha:alt∈Qj p s g) (h:¬QL p s g=61):plain p s g=true∧alt=0:=by
 unfold Qj at ha
 rw [if_pos (Yq ha),if_neg h] at ha
 split at ha
 · rename_i hp;exact ⟨hp,by simpa using ha⟩
 · cases ha
theorem UB {p:Prg} {s:Stt} {q:Sel} {n:Nat} {a:Int} (h:a∈ZV p s q n):∃ k:Nat,a=k∧k<n∧XX p s (q.cases.getD k default)=true:=by
 unfold ZV at h
 obtain ⟨k,hk,rfl⟩:=List.mem_map.1 h
 have:=List.mem_filter.1 hk
 exact ⟨k,rfl,by simpa using this.1,this.2⟩
theorem QAX {p:Prg} {s:Stt} {g alt:Int} (ha:alt∈Qj p s g) (h:QL p s g=61):alt=((Qx p s g).cases.length:Int)∨∃ k:Nat,alt=k∧k<(Qx p s g).cases.length∧XX p s ((Qx p s g).cases.getD k default)=true:=by
 unfold Qj at ha
 rw [if_pos (Yq ha),if_pos h] at ha
 simp only at ha
 split at ha
 · rcases List.mem_append.1 ha with h1|h1
   · exact .inr (UB h1)
   · exact .inl (by simpa using h1)
 · exact .inr (UB ha)
theorem z8 {p:Prg} {s:Stt} {g:Int} (h:QL p s g=58):plain p s g=XF p s (QA p s g).a:=(if_neg (by omega)).trans ((if_neg (by omega)).trans (if_pos h))
end Go.Eng
namespace Go.Eng
theorem QW {α:Type} (l:List α) (i j:Nat) (x d:α):(l.set i x).getD j d=if i=j∧i<l.length then x else l.getD j d:=by
 by_cases h:i=j
 · subst h
   by_cases h2:i<l.length
   · rw [if_pos ⟨rfl,h2⟩];simp [List.getD_eq_getElem?_getD,h2]
   · rw [if_neg (fun q=>h2 q.2),List.set_eq_of_length_le (by omega)]
 · rw [if_neg (fun q=>h q.1)]
   simp [List.getD_eq_getElem?_getD,List.getElem?_set_ne h]
section
variable {p:Prg} {s:Stt} (hok:p.Ok) (hw:Wf p s)
include hw
theorem Wf.go (g:Int) {X:Gor} (hX:gorIn p X) (h2:X.status=2→(p.instr X).op=58):Wf p ⟨s.vars,s.owner,s.chans,s.gos.set g.toNat X,s.count⟩:=by
 refine ⟨Yd hw.shape _ _ hX.regs,hw.count,fun k h0 hc=>?_,fun k h0 hc=>?_,hw.chans⟩
 · show gorIn p ((s.gos.set g.toNat X).getD k.toNat default)
   rw [QW]
   split
   · exact hX
   · exact hw.gos k h0 hc
 · show ((s.gos.set g.toNat X).getD k.toNat default).status=2→(p.instr ((s.gos.set g.toNat X).getD k.toNat default)).op=58
   rw [QW]
   split
   · exact h2
   · exact hw.wait k h0 hc
theorem Wf.chn (c:Nat) {X:Chn} (hb:X.buf.length=4) (hl:0≤X.len∧X.len≤p.chans.getD c 0):Wf p ⟨s.vars,s.owner,s.chans.set c X,s.gos,s.count⟩:=by
 refine ⟨YJ hw.shape _ hb,hw.count,hw.gos,hw.wait,fun i=>?_⟩
 show 0≤((s.chans.set c X).getD i default).len∧((s.chans.set c X).getD i default).len≤_
 rw [QW]
 split
 · rename_i h;rw [← h.1];exact hl
 · exact hw.chans i
theorem Wf.var (i:Nat) (x:Int):Wf p ⟨s.vars.set i x,s.owner,s.chans,s.gos,s.count⟩:=⟨Ut hw.shape _ _,hw.count,hw.gos,hw.wait,hw.chans⟩
theorem Wf.own (i:Nat) (x:Int):Wf p ⟨s.vars,s.owner.set i x,s.chans,s.gos,s.count⟩:=⟨zH hw.shape _ _,hw.count,hw.gos,hw.wait,hw.chans⟩
theorem Wf.reg {g:Int} (hg:0≤g∧g<s.count) (r v:Int):Wf p (s.setReg g r v):=by
 unfold Stt.setReg
 split
 · have h:=hw.gos g hg.1 hg.2
   exact hw.go g (X:={ s.gor g with regs:=(s.gor g).regs.set r.toNat v }) ⟨h.f0,h.f1,h.p0,h.p1,by show ((s.gor g).regs.set r.toNat v).length=8;rw [List.length_set];exact h.regs⟩ (fun q=>hw.wait g hg.1 hg.2 q)
 · exact hw
theorem Wf.buf (c:Nat):(s.chans.getD c default).buf.length=4∨4≤c:=by
 by_cases h:c<4
 · exact .inl (hw.shape.bufs _ (Qn _ (by rw [hw.shape.chans];exact h)))
 · exact .inr (by omega)
theorem Wf.status {g:Int} (hg:0≤g∧g<s.count) (v:Int) (h:v=2→(UZ p s g).op=58):Wf p (s.setStatus g v):=by
 have h1:=hw.gos g hg.1 hg.2
 exact hw.go g (X:={ s.gor g with status:=v }) ⟨h1.f0,h1.f1,h1.p0,h1.p1,h1.regs⟩ h
end
theorem Qb {q:Stt→Prop} {c:Prop} [Decidable c] {a b:Did} (h1:c→q a.s) (h2:¬c→q b.s):q (if c then a else b).s:=by
 by_cases h:c
 · rw [if_pos h];exact h1 h
 · rw [if_neg h];exact h2 h
theorem wl {q:Stt→Prop} {c:Prop} [Decidable c] {a b:Stt} (h1:c→q a) (h2:¬c→q b):q (if c then a else b):=by
 by_cases h:c
 · rw [if_pos h];exact h1 h
 · rw [if_neg h];exact h2 h
theorem UH (s:Stt) (g c:Int) (n:Nat):(Q3 s g c n).length=8:=by simp [Q3]
theorem xb {p:Prg} {s:Stt} {c:Int} (h:XF p s c=true):(s.chans.getD c.toNat default).closed=false→0<p.chans.getD c.toNat 0→(s.chans.getD c.toNat default).len<p.chans.getD c.toNat 0:=by
 intro h1 h2
 have e:XF p s c=decide ((s.chans.getD c.toNat default).len<p.chans.getD c.toNat 0):=(if_neg (fun q=>Bool.noConfusion (h1.symm.trans q))).trans (if_pos h2)
 rw [e] at h
 exact of_decide_eq_true h
theorem ZS (s:Stt) (g r v:Int):(s.setReg g r v).count=s.count:=by unfold Stt.setReg;split<;>rfl
theorem Uu (s:Stt) (g r v:Int):(s.setReg g r v).owner=s.owner:=by unfold Stt.setReg;split<;>rfl
structure Same (s t:Stt):Prop where
 count:t.count=s.count
 owner:t.owner=s.owner
theorem qv (p:Prg) (d:Did) (g c v:Int):Same d.s (YW p d g c v).s:=by
 unfold YW
 exact Qb (q:=Same d.s) (fun _=>⟨rfl,rfl⟩) (fun _=>Qb (q:=Same d.s) (fun _=>⟨rfl,rfl⟩) (fun _=>⟨rfl,rfl⟩))
theorem qw (d:Did) (g c r ok:Int):Same d.s (XE d g c r ok).s:=by
 have two:∀ (X:Stt) (x y:Int),X.count=d.s.count→X.owner=d.s.owner→Same d.s ((X.setReg g r x).setReg g ok y):=fun X x y h1 h2=>⟨by rw [ZS,ZS,h1],by rw [Uu,Uu,h2]⟩
 unfold XE
 exact Qb (q:=Same d.s) (fun _=>two _ _ _ rfl rfl) (fun _=>Qb (q:=Same d.s) (fun _=>two _ _ _ rfl rfl) (fun _=>two _ _ _ rfl rfl))
theorem xC (d:Did) (c:Int):Same d.s (YH d c).s:=by
 unfold YH
 exact Qb (q:=Same d.s) (fun _=>⟨rfl,rfl⟩) (fun _=>Qb (q:=Same d.s) (fun _=>⟨rfl,rfl⟩) (fun _=>⟨rfl,rfl⟩))
theorem xA (d:Did) (g:Int) (x:Instr):(ZK d g x).s.count=d.s.count:=by
 unfold ZK
 refine Qb (q:=fun t=>t.count=d.s.count) (fun _=>ZS _ _ _ _) (fun _=>?_)
 refine Qb (q:=fun t=>t.count=d.s.count) (fun _=>rfl) (fun _=>?_)
 refine Qb (q:=fun t=>t.count=d.s.count) (fun _=>ZS _ _ _ _) (fun _=>?_)
 refine Qb (q:=fun t=>t.count=d.s.count) (fun _=>(ZS _ _ _ _).trans (wl (q:=fun t=>t.count=d.s.count) (fun _=>rfl) (fun _=>rfl))) (fun _=>?_)
 refine Qb (q:=fun t=>t.count=d.s.count) (fun _=>rfl) (fun _=>?_)
 refine Qb (q:=fun t=>t.count=d.s.count) (fun _=>rfl) (fun _=>?_)
 refine Qb (q:=fun t=>t.count=d.s.count) (fun _=>Qb (q:=fun t=>t.count=d.s.count) (fun _=>rfl) (fun _=>rfl)) (fun _=>?_)
 refine Qb (q:=fun t=>t.count=d.s.count) (fun _=>(ZS _ _ _ _).trans (wl (q:=fun t=>t.count=d.s.count) (fun _=>rfl) (fun _=>rfl))) (fun _=>rfl)
theorem xH {p:Prg} {s:Stt} (h:XH p s 4=true) {i:Nat} (hi:i<4):(i<p.chans.length→Wm p s i=true)∧(p.chans.length≤i→s.chans.getD i default=zeroChn):=by
 have:=List.all_eq_true.1 h i (List.mem_range.2 hi)
 constructor
 · intro q;rw [if_pos q] at this;exact this
 · intro q;rw [if_neg (by omega)] at this
   have:=of_decide_eq_true this
   simpa [Stt.chn] using this
theorem QDb {p:Prg} (hok:p.Ok) {s:Stt} (hs:s.Shape) (h:Zf p s=true):Wf p s:=by
 obtain ⟨_,hc,hg,_,_,hch,hwt⟩:=Wv h
 refine ⟨hs,⟨by omega,hc.2⟩,fun g h0 h1=>QFH hs hg h0 (by omega) h1,fun g h0 h1 h2=>?_,fun i=>?_⟩
 · have h3:=List.all_eq_true.1 hwt g.toNat (List.mem_range.2 (by omega))
   rw [Bool.or_eq_true,decide_eq_true_eq,decide_eq_true_eq] at h3
   have e:((g.toNat:Nat):Int)=g:=by omega
   have h3:Q9 s g 4=1:=by
    rcases h3 with h3|h3
    · exact absurd (by simpa [Stt.gor,e] using h2) h3
    · rw [e] at h3;exact h3
   unfold Q9 at h3
   obtain ⟨i,hi⟩:=List.exists_mem_of_length_pos (l:=(List.range 4).filter fun (i:Nat)=>decide ((s.chn i).offer≠0)&&decide ((s.chn i).from_=g)) (by omega)
   have hm:=List.mem_filter.1 hi
   have hi4:i<4:=List.mem_range.1 hm.1
   have hoff:(s.chans.getD i default).offer≠0∧(s.chans.getD i default).from_=g:=by
    have:=hm.2
    rw [Bool.and_eq_true,decide_eq_true_eq,decide_eq_true_eq] at this
    simpa [Stt.chn] using this
   have hca:=xH hch hi4
   by_cases hlt:i<p.chans.length
   · have hx:=hca.1 hlt
     unfold Wm at hx
     simp only at hx
     split at hx
     · cases hx
     split at hx
     · cases hx
     rw [if_neg (by show ¬(s.chn i).offer=0;simpa [Stt.chn] using hoff.1)] at hx
     split at hx
     · cases hx
     split at hx
     · cases hx
     rw [Bool.and_eq_true,decide_eq_true_eq] at hx
     have e2:(s.chn (i:Int)).from_=g:=by simpa [Stt.chn] using hoff.2
     rw [e2] at hx
     exact hx.1
   · rw [hca.2 (by omega)] at hoff
     exact absurd rfl hoff.1
 · have h0:=(hok.caps i).1
   by_cases hi:i<4
   · have hca:=xH hch hi
     by_cases hlt:i<p.chans.length
     · have hx:=hca.1 hlt
       unfold Wm at hx
       simp only at hx
       split at hx
       · cases hx
       · rename_i hn
         have e2:s.chn (i:Int)=s.chans.getD i default:=by simp [Stt.chn]
         have e3:p.cap (i:Int)=p.chans.getD i 0:=by simp [Prg.cap]
         rw [e2,e3] at hn
         omega
     · rw [hca.2 (by omega)];exact ⟨Int.le_refl 0,h0⟩
   · rw [show s.chans.getD i default=default by rw [List.getD_eq_getElem?_getD,List.getElem?_eq_none (by rw [hs.chans];omega)];rfl]
     exact ⟨Int.le_refl 0,h0⟩
end Go.Eng
namespace Go.Eng
structure GorP (p:Prg) (g:Gor):Prop where
 st:1≤g.status∧g.status≤5
 inn:gorIn p g
 zero:∀ k:Nat,Ub p g≤k→k<8→g.regs.getD k 0=0
 fail:g.status=4→ZP (p.instr g).op g.why=true
 why:g.status≠4→g.why=0
 done:g.status=3→(p.instr g).op=45
 spun:g.status=5→Ql (p.instr g).op=true
theorem GorP.of {p:Prg} {g:Gor} (h8:g.regs.length=8) (h:Ua p g=true):GorP p g:=by
 have hr:=wm h
 rw [W1 hr] at h
 have hr':=hr;unfold qU at hr'
 split at h;· cases h
 rename_i hz
 have hz:UU g (Ub p g) 8=true:=by simpa using hz
 have hz':∀ k:Nat,Ub p g≤k→k<8→g.regs.getD k 0=0:=by
  intro k h1 h2
  have:=List.all_eq_true.1 hz k (List.mem_range.2 h2)
  simp only [Bool.or_eq_true,decide_eq_true_eq] at this
  omega
 have hin:gorIn p g:=⟨by omega,by omega,by omega,by omega,h8⟩
 split at h
 · rename_i h4
   exact ⟨by omega,hin,hz',fun _=>h,fun q=>absurd h4 q,fun q=>by omega,fun q=>by omega⟩
 · rename_i h4
   simp only [Bool.and_eq_true,Bool.or_eq_true,decide_eq_true_eq] at h
   exact ⟨by omega,hin,hz',fun q=>absurd q h4,fun _=>h.1.1,fun q=>h.1.2.resolve_left (fun w=>w q),fun q=>h.2.resolve_left (fun w=>w q)⟩
theorem GorP.ok {p:Prg} {g:Gor} (h:GorP p g):Ua p g=true:=by
 have hr:qU p g:=by
  have h1:=h.inn.f0;have h2:=h.inn.f1;have h3:=h.inn.p0;have h4:=h.inn.p1;have h5:=h.st
  unfold qU;omega
 rw [W1 hr,if_neg (by rw [UT (fun k h1 h2=>h.zero k h1 (by omega))];simp)]
 split
 · rename_i h4;exact h.fail h4
 · rename_i h4
   simp only [Bool.and_eq_true,Bool.or_eq_true,decide_eq_true_eq]
   refine ⟨⟨h.why h4,?_⟩,?_⟩
   · by_cases q:g.status=3
     · exact .inr (h.done q)
     · exact .inl q
   · by_cases q:g.status=5
     · exact .inr (h.spun q)
     · exact .inl q
def Waits (p:Prg) (gos:List Gor) (g i:Nat):Prop:=(gos.getD g default).status=2∧(p.instr (gos.getD g default)).op=58∧(p.instr (gos.getD g default)).a=(i:Int)
structure ChnP (p:Prg) (gos:List Gor) (count:Int) (i:Nat) (x:Chn):Prop where
 len:0≤x.len∧x.len≤p.chans.getD i 0
 off:0≤x.offer∧x.offer≤3
 cap:p.chans.getD i 0≠0→x.offer=0
 buf:∀ k:Nat,x.len≤k→k<4→x.buf.getD k 0=0
 none:x.offer=0→x.from_=0∧x.val=0
 val:x.offer≠0→x.offer≠1→x.val=0
 open_:x.offer=1→x.closed=false
 lost:x.offer=3→x.closed=true
 from_:x.offer≠0→(0≤x.from_∧x.from_<count)∧Waits p gos x.from_.toNat i
theorem ChnP.of {p:Prg} {s:Stt} {i:Nat} (h:Wm p s i=true):ChnP p s.gos s.count i (s.chans.getD i default):=by
 rw [Yl] at h
 simp only [Int.toNat_natCast] at h
 split at h;· cases h
 rename_i h1
 split at h;· cases h
 rename_i h2
 have h2:qF (s.chans.getD i default) 4=true:=by simpa using h2
 have hb:∀ k:Nat,(s.chans.getD i default).len≤k→k<4→(s.chans.getD i default).buf.getD k 0=0:=by
  intro k q1 q2
  have:=List.all_eq_true.1 h2 k (List.mem_range.2 q2)
  simp only [Bool.or_eq_true,decide_eq_true_eq] at this
  omega
 split at h
 · rename_i h3
   simp only [Bool.and_eq_true,decide_eq_true_eq] at h
   exact ⟨by omega,by omega,fun _=>h3,hb,fun _=>h,fun q=>absurd h3 q,fun q=>by omega,fun q=>by omega,fun q=>absurd h3 q⟩
 · rename_i h3
   split at h;· cases h
   rename_i h4
   split at h;· cases h
   rename_i h5
   simp only [Bool.and_eq_true,decide_eq_true_eq] at h
   have h6:(s.gos.getD (s.chans.getD i default).from_.toNat default).status=2:=by
    by_cases q:(s.gos.getD (s.chans.getD i default).from_.toNat default).status=2
    · exact q
    · exact absurd (.inr (.inr q)) h5
   refine ⟨by omega,by omega,fun q=>?_,hb,fun q=>absurd q h3,fun _ q2=>?_,fun q=>?_,fun q=>?_,fun _=>⟨by omega,h6,h.1,h.2⟩⟩
   · by_cases q2:(s.chans.getD i default).offer=0
     · exact q2
     · exact absurd (.inr (.inr (.inr (.inr ⟨q,q2⟩)))) h1
   · by_cases w:(s.chans.getD i default).val=0
     · exact w
     · exact absurd (.inl ⟨q2,w⟩) h4
   · cases w:(s.chans.getD i default).closed
     · rfl
     · exact absurd (.inr (.inl ⟨q,w⟩)) h4
   · cases w:(s.chans.getD i default).closed
     · exact absurd (.inr (.inr ⟨q,w⟩)) h4
     · rfl
theorem ChnP.ok {p:Prg} {s:Stt} {i:Nat} (h:ChnP p s.gos s.count i (s.chans.getD i default)):Wm p s i=true:=by
 rw [Yl]
 simp only [Int.toNat_natCast]
 have h1:=h.len;have h2:=h.off
 rw [if_neg (by
  rintro (q|q|q|q|⟨q,q2⟩)
  · omega
  · omega
  · omega
  · omega
  · exact q2 (h.cap q))]
 rw [WZ (fun k q1 q2=>h.buf k q1 (by omega)),if_neg (by simp)]
 split
 · rename_i h3
   simp only [Bool.and_eq_true,decide_eq_true_eq]
   exact h.none h3
 · rename_i h3
   rw [if_neg (by
    rintro (⟨q1,q2⟩|⟨q1,q2⟩|⟨q1,q2⟩)
    · exact q2 (h.val h3 q1)
    · rw [h.open_ q1] at q2;cases q2
    · rw [h.lost q1] at q2;cases q2)]
   obtain ⟨⟨f0,f1⟩,w1,w2,w3⟩:=h.from_ h3
   rw [if_neg (by
    rintro (q|q|q)
    · omega
    · omega
    · exact q w1)]
   simp only [Bool.and_eq_true,decide_eq_true_eq]
   exact ⟨w2,w3⟩
structure Vld (p:Prg) (s:Stt):Prop where
 shape:s.Shape
 count:1≤s.count∧s.count≤6
 gos:∀ i:Nat,(i:Int)<s.count→GorP p (s.gos.getD i default)
 rest:∀ i:Nat,i<6→s.count≤(i:Int)→s.gos.getD i default=zeroGor
 vars:∀ i:Nat,p.vars.length≤i→i<8→s.vars.getD i 0=0
 own:∀ i:Nat,i<4→(0≤s.owner.getD i 0∧s.owner.getD i 0≤s.count)∧(p.locks≤(i:Int)→s.owner.getD i 0=0)
 chans:∀ i:Nat,i<p.chans.length→ChnP p s.gos s.count i (s.chans.getD i default)
 rchans:∀ i:Nat,i<4→p.chans.length≤i→s.chans.getD i default=zeroChn
 waits:∀ g:Nat,(g:Int)<s.count→(s.gos.getD g default).status=2→∃ c:Nat,c<p.chans.length∧(s.chans.getD c default).offer≠0∧(s.chans.getD c default).from_=(g:Int)
theorem Prg.Ok.four {p:Prg} (h:p.Ok):p.chans.length≤4:=by have:=h.sizes;unfold Ze at this;omega
theorem Vld.of {p:Prg} (hok:p.Ok) {s:Stt} (hs:s.Shape) (h:Zf p s=true):Vld p s:=by
 obtain ⟨_,hc,hg,hv,ho,hch,hwt⟩:=Wv h
 have h4:=hok.four
 have rch:∀ i:Nat,i<4→p.chans.length≤i→s.chans.getD i default=zeroChn:=fun i h1 h2=>(xH hch h1).2 h2
 have chs:∀ i:Nat,i<p.chans.length→ChnP p s.gos s.count i (s.chans.getD i default):=fun i hi=>ChnP.of ((xH hch (by omega)).1 hi)
 refine ⟨hs,hc,fun i hi=>?_,fun i h6 hi=>?_,fun i h1 h2=>?_,fun i hi=>?_,chs,rch,fun g hg2 h2=>?_⟩
 · have:=zQ hg (i:=(i:Int)) (by omega) (by omega) hi
   rw [Int.toNat_natCast] at this
   exact GorP.of (hs.regs _ (Qn _ (by rw [hs.gos];omega))) this
 · have:=List.all_eq_true.1 hg i (List.mem_range.2 h6)
   rw [if_neg (by omega)] at this
   have:=of_decide_eq_true this
   simpa [Stt.gor] using this
 · have:=List.all_eq_true.1 hv i (List.mem_range.2 h2)
   simp only [Bool.or_eq_true,decide_eq_true_eq] at this
   omega
 · exact own_at.1 (List.all_eq_true.1 ho i (List.mem_range.2 hi))
 · have h3:=List.all_eq_true.1 hwt g (List.mem_range.2 (by omega))
   rw [Bool.or_eq_true,decide_eq_true_eq,decide_eq_true_eq] at h3
   have h3:Q9 s (g:Int) 4=1:=by
    rcases h3 with h3|h3
    · exact absurd (by simpa [Stt.gor] using h2) h3
    · exact h3
   unfold Q9 at h3
   obtain ⟨i,hi⟩:=List.exists_mem_of_length_pos (l:=(List.range 4).filter fun (i:Nat)=>decide ((s.chn i).offer≠0)&&decide ((s.chn i).from_=(g:Int))) (by omega)
   have hm:=List.mem_filter.1 hi
   have hi4:i<4:=List.mem_range.1 hm.1
   have hoff:(s.chans.getD i default).offer≠0∧(s.chans.getD i default).from_=(g:Int):=by
    have:=hm.2
    rw [Bool.and_eq_true,decide_eq_true_eq,decide_eq_true_eq] at this
    simpa [Stt.chn] using this
   by_cases hlt:i<p.chans.length
   · exact ⟨i,hlt,hoff⟩
   · rw [rch i hi4 (by omega)] at hoff;exact absurd rfl hoff.1
theorem Vld.ok {p:Prg} (hok:p.Ok) (hr:QP p=true) {s:Stt} (h:Vld p s):Zf p s=true:=by
 have h4:=hok.four
 have hc:=h.count
 have e1:Yh p s 6=true:=List.all_eq_true.2 fun i hi=>by
  have hi:i<6:=List.mem_range.1 hi
  simp only [Stt.gor,Int.toNat_natCast]
  split
  · rename_i q;exact (h.gos i q).ok
  · rename_i q;exact decide_eq_true (h.rest i hi (by omega))
 have e2:XH p s 4=true:=List.all_eq_true.2 fun i hi=>by
  have hi:i<4:=List.mem_range.1 hi
  simp only [Stt.chn,Int.toNat_natCast]
  split
  · rename_i q;exact (h.chans i q).ok
  · rename_i q;exact decide_eq_true (h.rchans i hi (by omega))
 have e3:YC p s 4=true:=List.all_eq_true.2 fun i hi=>own_at.2 (h.own i (List.mem_range.1 hi))
 have e4:Ys s s.count.toNat=true:=List.all_eq_true.2 fun g hg=>by
  have hg:(g:Int)<s.count:=by have:=List.mem_range.1 hg;omega
  rw [Bool.or_eq_true,decide_eq_true_eq,decide_eq_true_eq]
  by_cases q:(s.gor (g:Int)).status=2
  · right
    have q2:(s.gos.getD g default).status=2:=by simpa [Stt.gor] using q
    obtain ⟨c,hc1,hc2,hc3⟩:=h.waits g hg q2
    have hw:=(h.chans c hc1).from_ hc2
    rw [hc3] at hw
    simp only [Int.toNat_natCast] at hw
    have one:∀ j:Nat,j<4→(decide ((s.chn (j:Int)).offer≠0)&&decide ((s.chn (j:Int)).from_=(g:Int)))=decide (j=c):=by
     intro j hj
     simp only [Stt.chn,Int.toNat_natCast]
     by_cases hjc:j=c
     · subst hjc;rw [show decide (j=j)=true from by simp,Bool.and_eq_true];exact ⟨decide_eq_true hc2,decide_eq_true hc3⟩
     · rw [decide_eq_false hjc,Bool.and_eq_false_iff]
       by_cases ho:(s.chans.getD j default).offer=0
       · left;exact decide_eq_false (fun q=>q ho)
       · right
         refine decide_eq_false fun hf=>hjc ?_
         by_cases hlt:j<p.chans.length
         · have hw2:=(h.chans j hlt).from_ ho
           rw [hf] at hw2
           simp only [Int.toNat_natCast] at hw2
           have:=hw.2.2.2.symm.trans hw2.2.2.2
           omega
         · rw [h.rchans j hj (by omega)] at ho;exact absurd rfl ho
    unfold Q9
    rw [List.filter_congr (q:=fun j=>decide (j=c)) (fun j hj=>one j (List.mem_range.1 hj))]
    rcases (show c=0∨c=1∨c=2∨c=3 by omega) with rfl|rfl|rfl|rfl<;>rfl
  · exact .inl q
 simp only [Zf,Bool.and_eq_true,decide_eq_true_eq]
 exact ⟨⟨⟨⟨⟨⟨⟨hr,hc.1⟩,hc.2⟩,e1⟩,xT h.vars⟩,e3⟩,e2⟩,e4⟩
theorem Vld.wf {p:Prg} {s:Stt} (hok:p.Ok) (hr:QP p=true) (h:Vld p s):Wf p s:=QDb hok h.shape (h.ok hok hr)
section
variable {p:Prg} {s:Stt}
theorem Waits.set {gos:List Gor} {g i j:Nat} {X:Gor} (h:Waits p gos g j) (h1:(gos.getD i default).status≠2):Waits p (gos.set i X) g j:=by
 have hne:i≠g:=fun q=>h1 (by rw [q];exact h.1)
 unfold Waits at *
 rw [QW,if_neg (fun q=>hne q.1)]
 exact h
theorem ChnP.go {gos:List Gor} {count:Int} {i j:Nat} {X:Gor} {x:Chn} (h:ChnP p gos count j x) (h1:(gos.getD i default).status≠2):ChnP p (gos.set i X) count j x :=
 ⟨h.len,h.off,h.cap,h.buf,h.none,h.val,h.open_,h.lost,fun q=>⟨(h.from_ q).1,(h.from_ q).2.set h1⟩⟩
theorem Vld.go (h:Vld p s) {i:Nat} (hi:(i:Int)<s.count) {X:Gor} (hX:GorP p X) (h1:(s.gos.getD i default).status≠2) (h2:X.status≠2):Vld p ⟨s.vars,s.owner,s.chans,s.gos.set i X,s.count⟩:=by
 refine ⟨Yd h.shape _ _ hX.inn.regs,h.count,fun k hk=>?_,fun k h6 hk=>?_,h.vars,h.own,fun c hc=>(h.chans c hc).go h1,h.rchans,fun g hg hs=>?_⟩
 · show GorP p ((s.gos.set i X).getD k default)
   rw [QW];split
   · exact hX
   · exact h.gos k hk
 · show (s.gos.set i X).getD k default=zeroGor
   have hk:s.count≤(k:Int):=hk
   rw [QW,if_neg (by omega)]
   exact h.rest k h6 hk
 · have hs:((s.gos.set i X).getD g default).status=2:=hs
   rw [QW] at hs
   split at hs
   · exact absurd hs h2
   · exact h.waits g hg hs
theorem Vld.chn (h:Vld p s) {c:Nat} (hc:c<p.chans.length) {X:Chn} (hb:X.buf.length=4) (hX:ChnP p s.gos s.count c X)
 (hk:(s.chans.getD c default).offer≠0→X.offer≠0∧X.from_=(s.chans.getD c default).from_):Vld p ⟨s.vars,s.owner,s.chans.set c X,s.gos,s.count⟩:=by
 refine ⟨YJ h.shape _ hb,h.count,h.gos,h.rest,h.vars,h.own,fun j hj=>?_,fun j h4 hj=>?_,fun g hg hs=>?_⟩
 · show ChnP p s.gos s.count j ((s.chans.set c X).getD j default)
   rw [QW];split
   · rename_i q;rw [← q.1];exact hX
   · exact h.chans j hj
 · show (s.chans.set c X).getD j default=zeroChn
   rw [QW,if_neg (by omega)]
   exact h.rchans j h4 hj
 · obtain ⟨j,hj,h1,h2⟩:=h.waits g hg hs
   refine ⟨j,hj,?_⟩
   show ((s.chans.set c X).getD j default).offer≠0∧((s.chans.set c X).getD j default).from_=(g:Int)
   rw [QW];split
   · rename_i q
     have:=hk (by rw [q.1];exact h1)
     rw [q.1] at this
     exact ⟨this.1,this.2.trans h2⟩
   · exact ⟨h1,h2⟩
theorem Vld.var (h:Vld p s) {i:Nat} (hi:i<p.vars.length) (x:Int):Vld p ⟨s.vars.set i x,s.owner,s.chans,s.gos,s.count⟩:=by
 refine ⟨Ut h.shape _ _,h.count,h.gos,h.rest,fun k h1 h2=>?_,h.own,h.chans,h.rchans,h.waits⟩
 show (s.vars.set i x).getD k 0=0
 rw [QW,if_neg (by omega)]
 exact h.vars k h1 h2
theorem Vld.owns (h:Vld p s) {i:Nat} (hi:(i:Int)<p.locks) {x:Int} (hx:0≤x∧x≤s.count):Vld p ⟨s.vars,s.owner.set i x,s.chans,s.gos,s.count⟩:=by
 refine ⟨zH h.shape _ _,h.count,h.gos,h.rest,h.vars,fun k hk=>?_,h.chans,h.rchans,h.waits⟩
 show (0≤(s.owner.set i x).getD k 0∧(s.owner.set i x).getD k 0≤s.count)∧(p.locks≤(k:Int)→(s.owner.set i x).getD k 0=0)
 rw [QW];split
 · exact ⟨hx,fun q=>by omega⟩
 · exact h.own k hk
theorem GorP.reg {g:Gor} (h:GorP p g) {r:Int} (hr:0≤r∧r<(p.fn g.func).regs) (h1:g.status=1) (v:Int):GorP p { g with regs:=g.regs.set r.toNat v }:=by
 have hm:Ub p g=(p.fn g.func).regs:=if_neg (by omega)
 refine ⟨h.st,⟨h.inn.f0,h.inn.f1,h.inn.p0,h.inn.p1,by show (g.regs.set _ _).length=8;rw [List.length_set];exact h.inn.regs⟩,fun k hk h8=>?_,fun q=>?_,h.why,h.done,h.spun⟩
 · have hk:Ub p g≤(k:Int):=hk
   show (g.regs.set r.toNat v).getD k 0=0
   rw [QW,if_neg (by omega)]
   exact h.zero k hk h8
 · have q:g.status=4:=q
   omega
theorem Vld.reg (h:Vld p s) {g:Int} (hg:0≤g∧g<s.count) (h1:(s.gor g).status=1) {r:Int} (hr:r = -1∨0≤r∧r<(p.fn (s.gor g).func).regs) (v:Int):Vld p (s.setReg g r v):=by
 unfold Stt.setReg
 split
 · have hG:=h.gos g.toNat (by omega)
   have:=h.go (i:=g.toNat) (by omega) (X:={ s.gor g with regs:=(s.gor g).regs.set r.toNat v }) (hG.reg (r:=r) (by have:(p.fn (s.gos.getD g.toNat default).func).regs=(p.fn (s.gor g).func).regs:=rfl;omega) h1 v) (by have h1:(s.gos.getD g.toNat default).status=1:=h1;omega) (by show (s.gor g).status≠2;omega)
   exact this
 · exact h
end
end Go.Eng
namespace Go.Eng
def zw (p:Prg) (s:Stt) (g c:Int):Bool:=if g<0∨s.count≤g∨(s.gos.getD g.toNat default).status≠2 then false else decide ((UZ p s g).op=58)&&decide ((UZ p s g).a=c)
theorem zX {p:Prg} {s:Stt} {m:Int} (h1:¬((s.chans.getD m.toNat default).len<0∨p.chans.getD m.toNat 0<(s.chans.getD m.toNat default).len∨(s.chans.getD m.toNat default).offer<0∨3<(s.chans.getD m.toNat default).offer∨(p.chans.getD m.toNat 0≠0∧(s.chans.getD m.toNat default).offer≠0)))
 (hb:qF (s.chans.getD m.toNat default) 4=true):Wm p s m=if (s.chans.getD m.toNat default).offer=0 then decide ((s.chans.getD m.toNat default).from_=0)&&decide ((s.chans.getD m.toNat default).val=0)
   else if (s.chans.getD m.toNat default).offer=1 then !(s.chans.getD m.toNat default).closed&&zw p s (s.chans.getD m.toNat default).from_ m
   else if (s.chans.getD m.toNat default).offer=2 then decide ((s.chans.getD m.toNat default).val=0)&&zw p s (s.chans.getD m.toNat default).from_ m
   else decide ((s.chans.getD m.toNat default).val=0)&&(s.chans.getD m.toNat default).closed&&zw p s (s.chans.getD m.toNat default).from_ m:=by
 rw [Yl,if_neg h1,hb,if_neg (by simp)]
 by_cases h0:(s.chans.getD m.toNat default).offer=0
 · rw [if_pos h0,if_pos h0]
 · rw [if_neg h0,if_neg h0]
   have e:∀ b:Bool,(if (s.chans.getD m.toNat default).from_<0∨s.count≤(s.chans.getD m.toNat default).from_∨(s.gos.getD (s.chans.getD m.toNat default).from_.toNat default).status≠2 then false
    else decide (((p.funcs.getD (s.gos.getD (s.chans.getD m.toNat default).from_.toNat default).func.toNat default).code.getD (s.gos.getD (s.chans.getD m.toNat default).from_.toNat default).pc.toNat default).op=58) &&
     decide (((p.funcs.getD (s.gos.getD (s.chans.getD m.toNat default).from_.toNat default).func.toNat default).code.getD (s.gos.getD (s.chans.getD m.toNat default).from_.toNat default).pc.toNat default).a=m))=zw p s (s.chans.getD m.toNat default).from_ m:=fun _=>rfl
   rw [e false]
   by_cases h2:(s.chans.getD m.toNat default).offer=1
   · rw [if_pos h2]
     cases hc:(s.chans.getD m.toNat default).closed
     · rw [if_neg (by rintro (q|q|q);exact q.1 h2;exact Bool.noConfusion q.2;omega)];rfl
     · rw [if_pos (.inr (.inl ⟨h2,rfl⟩))];rfl
   · rw [if_neg h2]
     by_cases h3:(s.chans.getD m.toNat default).offer=2
     · rw [if_pos h3]
       by_cases hv:(s.chans.getD m.toNat default).val=0
       · rw [decide_eq_true hv,if_neg (by rintro (q|q|q);exact q.2 hv;exact h2 q.1;omega)];rfl
       · rw [decide_eq_false hv,if_pos (.inl ⟨h2,hv⟩)];rfl
     · rw [if_neg h3]
       have h4:(s.chans.getD m.toNat default).offer=3:=by omega
       by_cases hv:(s.chans.getD m.toNat default).val=0
       · rw [decide_eq_true hv]
         cases hc:(s.chans.getD m.toNat default).closed
         · rw [if_pos (.inr (.inr ⟨h4,rfl⟩))];rfl
         · rw [if_neg (by rintro (q|q|q);exact q.2 hv;exact h2 q.1;exact Bool.noConfusion q.2)];rfl
       · rw [decide_eq_false hv,if_pos (.inl ⟨h2,hv⟩)];rfl
theorem VV {p:Prg} {s:Stt} (h:QP p=false∨s.count<1∨6<s.count∨Yh p s 6=false∨W6 p s 8=false∨YC p s 4=false∨XH p s 4=false∨Ys s s.count.toNat=false):Zf p s=false:=by
 cases hv:Zf p s
 · rfl
 · obtain ⟨h1,h2,h3,h4,h5,h6,h7⟩:=Wv hv
   rcases h with h|h|h|h|h|h|h|h
   · rw [h1] at h;cases h
   · omega
   · omega
   · rw [h3] at h;cases h
   · rw [h4] at h;cases h
   · rw [h5] at h;cases h
   · rw [h6] at h;cases h
   · rw [h7] at h;cases h
theorem QGk {p:Prg} {s:Stt} (h1:QP p=true) (h2:1≤s.count∧s.count≤6) (h3:Yh p s 6=true) (h4:W6 p s 8=true) (h5:YC p s 4=true) (h6:XH p s 4=true) (h7:Ys s s.count.toNat=true):Zf p s=true:=by
 simp only [Zf,Bool.and_eq_true,decide_eq_true_eq]
 exact ⟨⟨⟨⟨⟨⟨⟨h1,h2.1⟩,h2.2⟩,h3⟩,h4⟩,h5⟩,h6⟩,h7⟩
def Xu (s:Stt) (i:Nat):List Int:=(List.range 6).map fun (g:Nat)=>(Q9 s (g:Int) i:Int)
theorem vk (s:Stt) (i:Nat) {g:Int} (h0:0≤g) (h6:g<6):(Xu s i).getD g.toNat 0=(Q9 s g i:Int):=by
 unfold Xu
 rw [VQ (by omega),show ((g.toNat:Nat):Int)=g by omega]
theorem QD8 {s:Stt} {i:Nat} (h:¬(s.chans.getD i default).offer=0) (h0:0≤(s.chans.getD i default).from_) (h6:(s.chans.getD i default).from_<6) :
 (Xu s i).set (s.chans.getD i default).from_.toNat ((Q9 s (s.chans.getD i default).from_ i:Int)+1)=Xu s (i+1):=by
 unfold Xu
 rw [qh (by omega)]
 refine List.map_congr_left fun k hk=>?_
 have hk:k<6:=List.mem_range.1 hk
 by_cases e:k=(s.chans.getD i default).from_.toNat
 · rw [if_pos e,vj (g:=(k:Int)) ⟨h,by omega⟩,show (s.chans.getD i default).from_=(k:Int) by omega];rfl
 · rw [if_neg e,qk (g:=(k:Int)) (fun _ q=>e (by omega))]
theorem yo {s:Stt} {i:Nat} (h:(s.chans.getD i default).offer=0):Xu s (i+1)=Xu s i:=by
 unfold Xu
 refine List.map_congr_left fun k hk=>?_
 rw [qk (fun q=>absurd h q)]
theorem ql (s:Stt) (g:Int) (i:Nat):Q9 s g i≤i:=QBT s g i
theorem QDM (g:Gor) (h:g=zeroGor):g.status=0:=by rw [h];rfl
theorem QEl (c:Chn) (h:c=zeroChn):c.offer=0:=by rw [h];rfl
theorem QJw (l:List Int) (h:l.length=4) (n:Nat):List.take (4-n) (List.drop n (l.map V.int))=(l.drop n).map V.int:=by
 rw [List.take_of_length_le (by rw [List.length_drop,List.length_map,h];exact Nat.le_refl _),List.map_drop]
theorem y9 (l:List Int) (n j:Nat):(l.drop n).getD j 0=l.getD (n+j) 0:=by simp [List.getD_eq_getElem?_getD]
theorem QBy {p:Prg} {s:Stt} {i:Nat} (h:Wm p s i=true) (h0:¬(s.chans.getD i default).offer=0):0≤(s.chans.getD i default).from_∧(s.chans.getD i default).from_<s.count:=((ChnP.of h).from_ h0).1
theorem wH (s:Stt) {g:Nat} (h6:g<6):(Xu s 4).getD g 0=(Q9 s (g:Int) 4:Int):=by
 unfold Xu;rw [VQ h6]
theorem QEr {s:Stt} {n m:Nat} (h:Ys s n=true) (hm:m≤n):Ys s m=true:=by
 unfold Ys at *
 rw [List.all_eq_true] at *
 exact fun x hx=>h x (List.mem_range.2 (by have:=List.mem_range.1 hx;omega))
theorem QGH (g:Gor) (p:Prg):Ub p g=if g.status=3∨g.status=4 then 0 else (p.funcs.getD g.func.toNat default).regs:=rfl
end Go.Eng
namespace Go.Eng
theorem XZ (x:Int):IntKind.i64.wrap x=(BitVec.ofInt 64 x).toInt:=by
 rw [BitVec.toInt_ofInt]
 simp only [IntKind.wrap,IntKind.bits,IntKind.signed,Int.bmod]
 simp
 split<;>split<;>omega
theorem Xn (x:Int):IntKind.u64.wrap x=((BitVec.ofInt 64 x).toNat:Int):=by
 rw [BitVec.toNat_ofInt]
 simp only [IntKind.wrap,IntKind.bits,IntKind.signed]
 simp
 omega
theorem Vw (z:BitVec 64):BitVec.ofInt 64 (z.toNat:Int)=z:=by
 rw [BitVec.ofInt_natCast,BitVec.ofNat_toNat,BitVec.setWidth_eq]
theorem QJ9 (z:BitVec 64):BitVec.ofInt 64 z.toInt=z:=BitVec.ofInt_toInt
theorem W5 (x:Int):BitVec.ofInt 64 (IntKind.u64.wrap x)=BitVec.ofInt 64 x:=by rw [Xn,Vw]
theorem QGc (x:Int):BitVec.ofInt 64 (IntKind.i64.wrap x)=BitVec.ofInt 64 x:=by rw [XZ,QJ9]
theorem ww (x:Int):IntKind.i64.wrap (IntKind.u64.wrap x)=IntKind.i64.wrap x:=by rw [XZ,W5,← XZ]
theorem QDP (z:BitVec 64):IntKind.i64.wrap (z.toNat:Int)=z.toInt:=by rw [XZ,Vw]
theorem QGX (z:BitVec 64):z &&& 1#64=if z.getLsbD 0 then 1#64 else 0#64:=by
 apply BitVec.eq_of_getLsbD_eq
 intro i hi
 rw [BitVec.getLsbD_and]
 by_cases h0:i=0
 · subst h0
   cases z.getLsbD 0<;>rfl
 · have e:(1#64).getLsbD i=false:=by rw [BitVec.getLsbD_one];simp [h0]
   rw [e,Bool.and_false]
   split
   · rw [e]
   · simp
theorem y5 (z:BitVec 64) (n:Nat):((z.toNat:Int)).fdiv (2^n)=((z >>> n).toNat:Int):=by
 rw [BitVec.toNat_ushiftRight,Nat.shiftRight_eq_div_pow,Int.fdiv_eq_ediv_of_nonneg _ (Int.le_of_lt (Int.pow_pos (by decide)))]
 simp
theorem Yy (x:Int) {n:Nat} (h:n<64):X8 x n=XL ((BitVec.ofInt 64 x).getLsbD n):=by
 have hk:(IntKind.u64.wrap (n:Int)).toNat=n:=by rw [show IntKind.u64.wrap (n:Int)=(n:Int) by simp [IntKind.wrap,IntKind.signed,IntKind.bits];omega];rfl
 unfold X8
 rw [hk,Nat.min_eq_left (by omega),Xn x,y5,Vw,QGX,BitVec.getLsbD_ushiftRight]
 simp only [Nat.add_zero]
 cases (BitVec.ofInt 64 x).getLsbD n<;>decide
theorem QFk {n:Nat} (h:n<64):BitVec.ofInt 64 (2^n)=BitVec.twoPow 64 n:=by
 apply BitVec.eq_of_toNat_eq
 rw [BitVec.toNat_ofInt,BitVec.toNat_twoPow]
 have e:((2:Int)^n)=((2^n:Nat):Int):=by simp
 rw [e,← Int.natCast_emod]
 rfl
set_option linter.unusedVariables false in
theorem QKa (r:BitVec 64) {n:Nat} (h:n<64) (b:Bool):QAo r.toInt n (XL b)=(r ||| if b then BitVec.twoPow 64 n else 0#64).toInt:=by
 have hk:(IntKind.u64.wrap (n:Int)).toNat=n:=by rw [show IntKind.u64.wrap (n:Int)=(n:Int) by simp [IntKind.wrap,IntKind.signed,IntKind.bits];omega];rfl
 unfold QAo
 rw [hk,Nat.min_eq_left (by omega),ww,show BitVec.ofInt 64 (IntKind.u64.wrap r.toInt)=r from (W5 _).trans (QJ9 r),show ∀ x,BitVec.ofInt 64 (IntKind.u64.wrap x)=BitVec.ofInt 64 x from W5,QDP]
 congr 2
 cases b
 · simp [XL,IntKind.wrap,IntKind.signed,IntKind.bits]
 · have e:IntKind.u64.wrap (XL true)*2^n=2^n:=by simp [XL,IntKind.wrap,IntKind.signed,IntKind.bits]
   rw [e,QFk h];rfl
def QJv (f:Nat→Bool):Nat→BitVec 64
 | 0=>0#64
 | n+1=>QJv f n ||| if f n then BitVec.twoPow 64 n else 0#64
theorem QEc (f:Nat→Bool):∀ n,n≤64→∀ i,(QJv f n).getLsbD i=(decide (i<n)&&f i)
 | 0,_,i=>by simp [QJv]
 | n+1,h,i=>by
   unfold QJv
   rw [BitVec.getLsbD_or,QEc f n (by omega) i]
   by_cases h1:i=n
   · subst h1
     cases f i<;>simp [BitVec.getLsbD_twoPow]
     omega
   · have e:(if f n then BitVec.twoPow 64 n else 0#64).getLsbD i=false:=by
      cases f n<;>simp [BitVec.getLsbD_twoPow]
      omega
     rw [e,Bool.or_false]
     congr 1
     exact decide_eq_decide.2 ⟨fun q=>by omega,fun q=>by omega⟩
theorem QA6 {f:Nat→Bool} {g:Nat→Int→Int} (hg:∀ k r,k<64→g k r=QAo r k (XL (f k))):∀ n,n≤64→YB g 0 n=(QJv f n).toInt
 | 0,_=>rfl
 | n+1,h=>by rw [UN,QA6 hg n (by omega),hg n _ (by omega),QKa _ (by omega)];rfl
theorem yV {f:Nat→Bool} {g:Nat→Int→Int} {x:Int} (hg:∀ k r,k<64→g k r=QAo r k (XL (f k))) (h:∀ i,i<64→(BitVec.ofInt 64 x).getLsbD i=f i):YB g 0 64=IntKind.i64.wrap x:=by
 rw [QA6 hg 64 (by omega),XZ]
 congr 1
 apply BitVec.eq_of_getLsbD_eq
 intro i hi
 rw [QEc f 64 (by omega),h i hi]
 simp [hi]
theorem QFm {c:Prop} [Decidable c] (a b:Bool):(if c then XL a else XL b)=XL (if c then a else b):=by split<;>rfl
theorem yD (a:Int) {w i:Nat} (hw:w≤64) (h:i<w):(BitVec.ofInt w a).getLsbD i=(BitVec.ofInt 64 a).getLsbD i:=by
 have e:BitVec.ofInt w a=(BitVec.ofInt 64 a).setWidth w:=by
  apply BitVec.eq_of_toNat_eq
  rw [BitVec.toNat_setWidth,BitVec.toNat_ofInt,BitVec.toNat_ofInt]
  have hd:(2^w:Nat) ∣ 2^64:=Nat.pow_dvd_pow 2 hw
  have h1:(0:Int)≤a % ((2^64:Nat):Int):=Int.emod_nonneg _ (by decide)
  have h2:((a % ((2^64:Nat):Int)).toNat:Int)=a % ((2^64:Nat):Int):=Int.toNat_of_nonneg h1
  have h3:(((a % ((2^64:Nat):Int)).toNat % 2^w:Nat):Int)=a % ((2^w:Nat):Int):=by
   rw [Int.natCast_emod,h2]
   exact Int.emod_emod_of_dvd _ (Int.natCast_dvd_natCast.2 hd)
  have h4:(0:Int)≤a % ((2^w:Nat):Int):=Int.emod_nonneg _ (by have:=Nat.two_pow_pos w;omega)
  omega
 rw [e,BitVec.getLsbD_setWidth]
 simp [h]
theorem QBv (a:Int) {w:Nat} (h0:1≤w) (hw:w≤64) (s:Bool) (x:Int) (hx:∀ i,i<64→(BitVec.ofInt 64 x).getLsbD i=if (i:Int)<w then (BitVec.ofInt 64 a).getLsbD i else if s then (BitVec.ofInt 64 a).getLsbD (w-1) else false):qy a w s=IntKind.i64.wrap x:=by
 unfold qy
 refine yV (f:=fun i=>if (i:Int)<w then (BitVec.ofInt 64 a).getLsbD i else if s then (BitVec.ofInt 64 a).getLsbD (w-1) else false) (fun k r hk=>?_) hx
 unfold QEV
 have e:IntKind.i64.wrap ((w:Int)-1)=((w-1:Nat):Int):=by simp [IntKind.wrap,IntKind.signed,IntKind.bits];omega
 rw [e,Yy a hk,Yy a (show w-1<64 by omega),show (0:Int)=XL false from rfl,QFm,QFm]
theorem QJi (a:Int) {w:Nat} (h0:1≤w) (hw:w≤64):qy a w true=IntKind.i64.wrap (BitVec.ofInt w a).toInt:=by
 refine QBv a h0 hw true _ fun i hi=>?_
 have e:BitVec.ofInt 64 (BitVec.ofInt w a).toInt=(BitVec.ofInt w a).signExtend 64:=rfl
 rw [e,BitVec.getLsbD_signExtend]
 simp only [hi,decide_true,Bool.true_and,if_true]
 by_cases h:i<w
 · rw [if_pos h,if_pos (by omega),yD a hw h]
 · rw [if_neg h,if_neg (by omega),BitVec.msb_eq_getLsbD_last,yD a hw (by omega)]
theorem QJh (a:Int) {w:Nat} (h0:1≤w) (hw:w≤64):qy a w false=IntKind.i64.wrap ((BitVec.ofInt w a).toNat:Int):=by
 refine QBv a h0 hw false _ fun i hi=>?_
 have e:BitVec.ofInt 64 ((BitVec.ofInt w a).toNat:Int)=(BitVec.ofInt w a).setWidth 64:=by
  rw [BitVec.ofInt_natCast,BitVec.ofNat_toNat]
 rw [e,BitVec.getLsbD_setWidth]
 simp only [hi,decide_true,Bool.true_and]
 by_cases h:i<w
 · rw [if_pos (by omega),yD a hw h]
 · rw [if_neg (by omega),BitVec.getLsbD_of_ge _ _ (by omega)];rfl
theorem QM6 (a:Int):IntKind.i8.wrap a=(BitVec.ofInt 8 a).toInt:=by
 rw [BitVec.toInt_ofInt]
 simp only [IntKind.wrap,IntKind.bits,IntKind.signed,Int.bmod]
 simp
 split<;>split<;>omega
theorem QKI (a:Int):IntKind.i16.wrap a=(BitVec.ofInt 16 a).toInt:=by
 rw [BitVec.toInt_ofInt]
 simp only [IntKind.wrap,IntKind.bits,IntKind.signed,Int.bmod]
 simp
 split<;>split<;>omega
theorem QKH (a:Int):IntKind.i32.wrap a=(BitVec.ofInt 32 a).toInt:=by
 rw [BitVec.toInt_ofInt]
 simp only [IntKind.wrap,IntKind.bits,IntKind.signed,Int.bmod]
 simp
 split<;>split<;>omega
theorem QM5 (a:Int):IntKind.u8.wrap a=((BitVec.ofInt 8 a).toNat:Int):=by
 rw [BitVec.toNat_ofInt]
 simp only [IntKind.wrap,IntKind.bits,IntKind.signed]
 simp
 omega
theorem QKG (a:Int):IntKind.u16.wrap a=((BitVec.ofInt 16 a).toNat:Int):=by
 rw [BitVec.toNat_ofInt]
 simp only [IntKind.wrap,IntKind.bits,IntKind.signed]
 simp
 omega
theorem QKF (a:Int):IntKind.u32.wrap a=((BitVec.ofInt 32 a).toNat:Int):=by
 rw [BitVec.toNat_ofInt]
 simp only [IntKind.wrap,IntKind.bits,IntKind.signed]
 simp
 omega
theorem xK {op a b:Int} {f:Bool→Bool→Bool} (hf:∀ x y,QGU op (XL x) (XL y)=f x y) {z:BitVec 64} (hz:∀ i,i<64→z.getLsbD i=f ((BitVec.ofInt 64 a).getLsbD i) ((BitVec.ofInt 64 b).getLsbD i)):wW op a b=IntKind.i64.wrap (z.toNat:Int):=by
 unfold wW
 refine yV (f:=fun i=>f ((BitVec.ofInt 64 a).getLsbD i) ((BitVec.ofInt 64 b).getLsbD i)) (fun k r hk=>?_) fun i hi=>?_
 · unfold QEe
   rw [Yy a hk,Yy b hk,hf]
 · rw [Vw];exact hz i hi
theorem QJ0 (a b:Int):wW 21 a b=IntKind.i64.wrap ((BitVec.ofInt 64 a &&& BitVec.ofInt 64 b).toNat:Int) :=
 xK (f:=fun x y=>x&&y) (by intro x y;cases x<;>cases y<;>decide) fun i _=>by rw [BitVec.getLsbD_and]
theorem QLR (a b:Int):wW 22 a b=IntKind.i64.wrap ((BitVec.ofInt 64 a ||| BitVec.ofInt 64 b).toNat:Int) :=
 xK (f:=fun x y=>x||y) (by intro x y;cases x<;>cases y<;>decide) fun i _=>by rw [BitVec.getLsbD_or]
theorem QJy (a b:Int):wW 23 a b=IntKind.i64.wrap ((BitVec.ofInt 64 a ^^^ BitVec.ofInt 64 b).toNat:Int) :=
 xK (f:=fun x y=>x ^^ y) (by intro x y;cases x<;>cases y<;>decide) fun i _=>by rw [BitVec.getLsbD_xor]
theorem QFe (a b:Int):wW 24 a b=IntKind.i64.wrap ((BitVec.ofInt 64 a &&& ~~~BitVec.ofInt 64 b).toNat:Int) :=
 xK (f:=fun x y=>x&&!y) (by intro x y;cases x<;>cases y<;>decide) fun i hi=>by rw [BitVec.getLsbD_and,BitVec.getLsbD_not];simp [hi]
theorem xY {a by_ fill x:Int} {F:Bool} (hF:fill=XL F) (h0 : -64≤by_∧by_≤64) (hx:∀ i:Nat,i<64→(BitVec.ofInt 64 x).getLsbD i=if 0≤(i:Int)-by_∧(i:Int)-by_<64 then (BitVec.ofInt 64 a).getLsbD ((i:Int)-by_).toNat else F):Us a by_ fill=IntKind.i64.wrap x:=by
 unfold Us
 refine yV (f:=fun i=>if 0≤(i:Int)-by_∧(i:Int)-by_<64 then (BitVec.ofInt 64 a).getLsbD ((i:Int)-by_).toNat else F) (fun k r hk=>?_) hx
 unfold vK
 have e:IntKind.i64.wrap ((k:Int)-by_)=(k:Int)-by_:=by simp [IntKind.wrap,IntKind.signed,IntKind.bits];omega
 rw [e]
 congr 1
 by_cases h:0≤(k:Int)-by_∧(k:Int)-by_<64
 · rw [if_pos h,if_pos h]
   have e2:(k:Int)-by_=(((k:Int)-by_).toNat:Int):=(Int.toNat_of_nonneg h.1).symm
   rw [e2,Yy a (by omega)]
   rfl
 · rw [if_neg h,if_neg h,hF]
theorem QGM {b:Int} (h:0≤b):xq b=((min b.toNat 64:Nat):Int):=by unfold xq;split<;>omega
theorem QGL {b:Int} (h:0≤b):IntKind.i64.wrap (0-xq b) = -((min b.toNat 64:Nat):Int):=by rw [QGM h];simp [IntKind.wrap,IntKind.signed,IntKind.bits];omega
theorem QDK (x y:Int):BitVec.ofInt 64 (x*y)=BitVec.ofInt 64 x*BitVec.ofInt 64 y:=BitVec.ofInt_mul ..
theorem QJ8 (a:Int) {n:Nat} (h:n≤64):BitVec.ofInt 64 (a*2^n)=BitVec.ofInt 64 a <<< n:=by
 by_cases h1:n=64
 · subst h1
   rw [QDK,show BitVec.ofInt 64 (2^64)=0#64 from by decide,BitVec.mul_zero,BitVec.shiftLeft_eq_zero (by omega)]
 · rw [QDK,QFk (by omega),BitVec.mul_twoPow_eq_shiftLeft]
theorem QPq (a:Int) {b:Int} (h:0≤b):Us a (xq b) 0=IntKind.i64.wrap (a*2^min b.toNat 64):=by
 rw [QGM h]
 generalize hn:min b.toNat 64=n
 refine xY (F:=false) rfl (by omega) fun i hi=>?_
 rw [QJ8 a (by omega),BitVec.getLsbD_shiftLeft]
 simp only [hi,decide_true,Bool.true_and]
 by_cases h1:i<n
 · rw [if_neg (by omega)];simp [h1]
 · rw [if_pos (by omega)]
   simp only [h1,decide_false,Bool.not_false,Bool.true_and]
   congr 1
   omega
theorem QOq {a:Int} (ha:IntKind.i64.wrap a=a) (n:Nat):BitVec.ofInt 64 (a.fdiv (2^n))=(BitVec.ofInt 64 a).sshiftRight n:=by
 rw [Int.fdiv_eq_ediv_of_nonneg _ (Int.le_of_lt (Int.pow_pos (by decide)))]
 rw [XZ] at ha
 unfold BitVec.sshiftRight
 rw [ha,Int.shiftRight_eq_div_pow]
 simp
theorem QPr {a b:Int} (ha:IntKind.i64.wrap a=a) (h:0≤b):Us a (IntKind.i64.wrap (0-xq b)) (X8 a 63)=IntKind.i64.wrap (a.fdiv (2^min b.toNat 64)):=by
 rw [QGL h]
 generalize hn:min b.toNat 64=n
 refine xY (F:=(BitVec.ofInt 64 a).getLsbD 63) (Yy a (n:=63) (by decide)) (by omega) fun i hi=>?_
 rw [QOq ha,BitVec.getLsbD_sshiftRight]
 simp only [show ¬64≤i by omega,decide_false,Bool.not_false,Bool.true_and]
 by_cases h1:n+i<64
 · rw [if_pos h1,if_pos (by omega)]
   congr 1
   omega
 · rw [if_neg h1,if_neg (by omega),BitVec.msb_eq_getLsbD_last]
theorem QPp (a:Int) {b:Int} (h:0≤b):Us a (IntKind.i64.wrap (0-xq b)) 0=IntKind.i64.wrap ((IntKind.u64.wrap a).fdiv (2^min b.toNat 64)):=by
 rw [QGL h]
 generalize hn:min b.toNat 64=n
 refine xY (F:=false) rfl (by omega) fun i hi=>?_
 rw [Xn,y5,Vw,BitVec.getLsbD_ushiftRight]
 by_cases h1:n+i<64
 · rw [if_pos (by omega)]
   congr 1
   omega
 · rw [if_neg (by omega),BitVec.getLsbD_of_ge _ _ (by omega)]
theorem QN3 {b:Int} {k:Nat} (hk:k<64):(IntKind.i64.wrap ((IntKind.i64.wrap ((k:Int)-b.tmod 64)).tmod 64+64)).tmod 64=(((k:Int)-b) % 64):=by
 have h1:=Int.tmod_lt_of_pos b (show (0:Int)<64 by decide)
 have h2:=Int.lt_tmod_of_pos b (show (0:Int)<64 by decide)
 have e0:b.tmod 64=b-64*b.tdiv 64:=Int.tmod_def b 64
 have e1:IntKind.i64.wrap ((k:Int)-b.tmod 64)=(k:Int)-b.tmod 64:=by simp only [IntKind.wrap,IntKind.signed,IntKind.bits];simp;omega
 rw [e1]
 generalize ht:(k:Int)-b.tmod 64=t at *
 have h3:=Int.tmod_lt_of_pos t (show (0:Int)<64 by decide)
 have h4:=Int.lt_tmod_of_pos t (show (0:Int)<64 by decide)
 have e2:t.tmod 64=t-64*t.tdiv 64:=Int.tmod_def t 64
 have e3:IntKind.i64.wrap (t.tmod 64+64)=t.tmod 64+64:=by simp only [IntKind.wrap,IntKind.signed,IntKind.bits];simp;omega
 rw [e3,Int.tmod_eq_emod_of_nonneg (by omega)]
 omega
theorem QQI (a b:Int) {x:Int} (hx:∀ i:Nat,i<64→(BitVec.ofInt 64 x).getLsbD i=(BitVec.ofInt 64 a).getLsbD (((i:Int)-b) % 64).toNat):QE1 a b=IntKind.i64.wrap x:=by
 unfold QE1
 refine yV (f:=fun i=>(BitVec.ofInt 64 a).getLsbD (((i:Int)-b) % 64).toNat) (fun k r hk=>?_) hx
 unfold QIN
 rw [QN3 hk]
 have e2:((k:Int)-b) % 64=((((k:Int)-b) % 64).toNat:Int):=(Int.toNat_of_nonneg (Int.emod_nonneg _ (by decide))).symm
 rw [e2,Yy a (by omega)]
 rfl
theorem QOZ (a:Int) {x:Int} (hx:∀ i:Nat,i<64→(BitVec.ofInt 64 x).getLsbD i=(BitVec.ofInt 64 a).getLsbD (63-i)):YB (wN a) 0 64=IntKind.i64.wrap x:=by
 refine yV (f:=fun i=>(BitVec.ofInt 64 a).getLsbD (63-i)) (fun k r hk=>?_) hx
 unfold wN
 have e:IntKind.i64.wrap (63-(k:Int))=((63-k:Nat):Int):=by simp [IntKind.wrap,IntKind.signed,IntKind.bits];omega
 rw [e,Yy a (by omega)]
end Go.Eng
namespace Go.Eng
theorem QBU {a t:Int} (ha : -9223372036854775808≤a∧a≤9223372036854775808) (ht : -9223372036854775808≤t∧t≤9223372036854775808) : -85070591730234615865843651857942052864≤a*t∧a*t≤85070591730234615865843651857942052864:=by
 have h:=Nat.mul_le_mul (show a.natAbs≤9223372036854775808 by omega) (show t.natAbs≤9223372036854775808 by omega)
 rw [← Int.natAbs_mul] at h
 generalize a*t=q at *
 omega
theorem QFn (z:BitVec 64) {k:Nat}:XL (z.getLsbD k)=((z.toNat / 2^k % 2:Nat):Int):=by
 have e:z.getLsbD k=decide (z.toNat / 2^k % 2=1):=by
  rw [BitVec.getLsbD,Nat.testBit_eq_decide_div_mod_eq]
 rw [e]
 unfold XL
 have:=Nat.mod_two_eq_zero_or_one (z.toNat / 2^k)
 by_cases h:z.toNat / 2^k % 2=1
 · simp [h]
 · have h0:z.toNat / 2^k % 2=0:=by omega
   simp [h0]
theorem QGT (b:Int) {k:Nat} (hk:k<64):X8 b k=b / 2^k % 2:=by
 rw [Yy b hk,QFn,BitVec.toNat_ofInt]
 have h1:(0:Int)≤b % ((2^64:Nat):Int):=Int.emod_nonneg _ (by decide)
 have e:(((b % ((2^64:Nat):Int)).toNat:Nat):Int)=b % ((2^64:Nat):Int):=Int.toNat_of_nonneg h1
 rw [Int.natCast_emod,Int.natCast_ediv,e]
 have hs:((2^64:Nat):Int)=2^k*(2*2^(63-k)):=by
  have:(64:Nat)=k+(1+(63-k)):=by omega
  rw [show ((2^64:Nat):Int)=(2:Int)^64 from by decide,this,Int.pow_add,Int.pow_add]
  rfl
 have hb:b=b % ((2^64:Nat):Int)+2^k*(2*2^(63-k))*(b / ((2^64:Nat):Int)):=by
  rw [← hs];exact (Int.emod_add_mul_ediv ..).symm
 generalize b % ((2^64:Nat):Int)=m at *
 generalize b / ((2^64:Nat):Int)=q at *
 have hp:((2:Int)^k)≠0:=Int.ne_of_gt (Int.pow_pos (by decide))
 rw [hb,Int.mul_assoc,Int.add_mul_ediv_left _ _ hp,Int.mul_assoc,Int.add_mul_emod_self_left]
 simp
def qa (b:Int) (j:Nat):Int:=b / 2^(64-j)
theorem zF (b:Int) {j:Nat} (hj:j<64):qa b (j+1)=2*qa b j+X8 b ((63-j:Nat):Int):=by
 unfold qa
 rw [QGT b (show 63-j<64 by omega),show 64-(j+1)=63-j by omega,show 64-j=(63-j)+1 by omega,Int.pow_succ,← Int.ediv_ediv_of_nonneg (Int.le_of_lt (Int.pow_pos (by decide)))]
 omega
theorem w9 {b:Int} (hb : -9223372036854775808≤b∧b<9223372036854775808) {j:Nat} : -9223372036854775808≤qa b j∧qa b j≤9223372036854775808:=by
 unfold qa
 have hp:(0:Int)<2^(64-j):=Int.pow_pos (by decide)
 constructor
 · refine (Int.le_ediv_iff_mul_le hp).2 ?_
   generalize (2:Int)^(64-j)=q at *
   omega
 · by_cases h:b<0
   · have:=Int.ediv_neg_of_neg_of_pos h hp
     omega
   · have:=Int.ediv_le_self (2^(64-j)) (show 0≤b by omega)
     omega
theorem QGp {b:Int} (hb : -9223372036854775808≤b∧b<9223372036854775808) {j:Nat} (hj:j<64) : -4611686018427387904≤qa b j∧qa b j≤4611686018427387904:=by
 have h:=zF b hj
 have h1:=w9 hb (j:=j+1)
 have h2:X8 b ((63-j:Nat):Int)=0∨X8 b ((63-j:Nat):Int)=1:=by
  rw [Yy b (by omega)]
  cases (BitVec.ofInt 64 b).getLsbD (63-j)
  · exact .inl rfl
  · exact .inr rfl
 omega
theorem QIo {a t:Int} (ha : -9223372036854775808≤a∧a≤9223372036854775808) (ht : -4611686018427387904≤t∧t≤4611686018427387904) : -42535295865117307932921825928971026432≤a*t∧a*t≤42535295865117307932921825928971026432:=by
 have h:=Nat.mul_le_mul (show a.natAbs≤9223372036854775808 by omega) (show t.natAbs≤4611686018427387904 by omega)
 rw [← Int.natAbs_mul] at h
 generalize a*t=q at *
 omega
theorem ZD (x:Int):IntKind.u64.wrap x=x % 18446744073709551616:=by simp [IntKind.wrap,IntKind.signed,IntKind.bits]
theorem QFN (x:Int):x.fdiv (2^63)=x / 9223372036854775808:=by rw [Int.fdiv_eq_ediv_of_nonneg _ (by decide)];rfl
theorem Q4 {x:Int} (h1 : -9223372036854775808≤x) (h2:x<9223372036854775808):IntKind.i64.wrap x=x:=by
 simp only [IntKind.wrap,IntKind.signed,IntKind.bits];simp;omega
theorem QHp {P:Int} (hP : -42535295865117307932921825928971026432≤P∧P≤42535295865117307932921825928971026432):IntKind.i64.wrap (IntKind.i64.wrap (P / 18446744073709551616*2)+IntKind.i64.wrap ((P % 18446744073709551616).fdiv (2^63)))=2*P / 18446744073709551616∧IntKind.u64.wrap (P % 18446744073709551616*2)=2*P % 18446744073709551616:=by
 rw [QFN,ZD,Q4 (x:=P / 18446744073709551616*2) (by omega) (by omega),Q4 (x:=P % 18446744073709551616 / 9223372036854775808) (by omega) (by omega),Q4 (by omega) (by omega)]
 omega
theorem QHq {a Q:Int} (ha : -9223372036854775808≤a∧a<9223372036854775808) (hS : -85070591730234615865843651857942052864≤Q+a∧Q+a≤85070591730234615865843651857942052864) :
 (if IntKind.u64.wrap (Q % 18446744073709551616+IntKind.u64.wrap a)<Q % 18446744073709551616 then IntKind.i64.wrap (IntKind.i64.wrap (Q / 18446744073709551616+a.fdiv (2^63))+1) else IntKind.i64.wrap (Q / 18446744073709551616+a.fdiv (2^63)))=(Q+a) / 18446744073709551616∧IntKind.u64.wrap (Q % 18446744073709551616+IntKind.u64.wrap a)=(Q+a) % 18446744073709551616:=by
 rw [QFN,ZD,ZD]
 have h1:IntKind.i64.wrap (Q / 18446744073709551616+a / 9223372036854775808)=Q / 18446744073709551616+a / 9223372036854775808:=Q4 (by omega) (by omega)
 rw [h1]
 refine ⟨?_,by omega⟩
 split
 · rw [Q4 (by omega) (by omega)];omega
 · omega
theorem QEn {a b:Int} (ha : -9223372036854775808≤a∧a<9223372036854775808):x6 a b 0 (0,0)=(-(a*X8 b 63) / 18446744073709551616,-(a*X8 b 63) % 18446744073709551616):=by
 have hb:X8 b 63=0∨X8 b 63=1:=by
  have:=Yy b (n:=63) (by decide)
  rw [show ((63:Nat):Int)=63 from rfl] at this
  rw [this]
  cases (BitVec.ofInt 64 b).getLsbD 63
  · exact .inl rfl
  · exact .inr rfl
 unfold x6
 simp only [show (63:Int)-((0:Nat):Int)=63 from rfl,show IntKind.i64.wrap (IntKind.i64.wrap (0*2)+IntKind.i64.wrap ((0:Int).fdiv (2^63)))=0 from by decide,show IntKind.u64.wrap (0*2)=0 from by decide,if_true]
 rcases hb with h|h
 · rw [h,if_pos rfl];simp
 · rw [h,if_neg (by decide),Int.mul_one,QFN]
   simp only [ZD]
   have h1:IntKind.i64.wrap (0-a / 9223372036854775808)=0-a / 9223372036854775808:=Q4 (by omega) (by omega)
   rw [h1]
   refine Prod.ext ?_ (by show _ % _=_;omega)
   show (if _ then _ else _) = -a / 18446744073709551616
   split
   · rw [Q4 (by omega) (by omega)];omega
   · have h0:a=0:=by omega
     subst h0
     decide
theorem QA3 {a b:Int} (ha : -9223372036854775808≤a∧a<9223372036854775808) (hb : -9223372036854775808≤b∧b<9223372036854775808):∀ j,j<64→YB (x6 a b) (0,0) (j+1)=(a*qa b (j+1) / 18446744073709551616,a*qa b (j+1) % 18446744073709551616)
 | 0,_=>by
   have e:=zF b (j:=0) (by decide)
   have e0:qa b 0=if b<0 then -1 else 0:=by
    unfold qa
    rw [show (2:Int)^(64-0)=18446744073709551616 from by decide]
    split<;>omega
   have e1:X8 b 63=if b<0 then 1 else 0:=by
    have:=QGT b (k:=63) (by decide)
    rw [show (2:Int)^63=9223372036854775808 from by decide] at this
    rw [show ((63:Nat):Int)=63 from rfl] at this
    rw [this]
    split<;>omega
   rw [UN,QGl,QEn ha,e,e0,show ((63-0:Nat):Int)=63 from rfl,e1]
   split
   · simp
   · simp
 | j+1,hj=>by
   rw [UN,QA3 ha hb j (by omega),zF b hj]
   have hP:=QIo (a:=a) (t:=qa b (j+1)) ⟨ha.1,by omega⟩ (QGp hb (by omega))
   have hS:=QBU (a:=a) (t:=qa b (j+1+1)) ⟨ha.1,by omega⟩ (w9 hb)
   rw [zF b hj,Int.mul_add,← Int.mul_assoc,Int.mul_comm a 2,Int.mul_assoc] at hS
   rw [Int.mul_add,← Int.mul_assoc,Int.mul_comm a 2,Int.mul_assoc]
   unfold x6
   have hk:(63:Int)-((j+1:Nat):Int)=((63-(j+1):Nat):Int):=by omega
   have hk2:¬((63-(j+1):Nat):Int)=63:=by omega
   simp only [hk]
   generalize a*qa b (j+1)=P at *
   obtain ⟨d1,d2⟩:=QHp hP
   rw [d1,d2]
   have hb2:X8 b ((63-(j+1):Nat):Int)=0∨X8 b ((63-(j+1):Nat):Int)=1:=by
    rw [Yy b (by omega)]
    cases (BitVec.ofInt 64 b).getLsbD (63-(j+1))
    · exact .inl rfl
    · exact .inr rfl
   rcases hb2 with h|h
   · rw [h,if_pos rfl];simp
   · rw [h] at hS ⊢
     rw [if_neg (by decide),if_neg hk2,Int.mul_one]
     rw [Int.mul_one] at hS
     obtain ⟨w1,w2⟩:=QHq (a:=a) (Q:=2*P) ha hS
     exact Prod.ext w1 w2
theorem qV {a b:Int} (ha : -9223372036854775808≤a∧a<9223372036854775808) (hb : -9223372036854775808≤b∧b<9223372036854775808):x5 a b=(a*b / 18446744073709551616,a*b % 18446744073709551616):=by
 have h:=QA3 ha hb 63 (by decide)
 rw [show qa b (63+1)=b from by unfold qa;simp] at h
 exact h
theorem Uk {a b:Int} (ha : -9223372036854775808≤a∧a<9223372036854775808) (hb : -9223372036854775808≤b∧b<9223372036854775808) :
 let ua:=a % 18446744073709551616
 let ub:=b % 18446744073709551616
 let h0:=ua*ub / 18446744073709551616
 let h1:=if a<0 then (h0-ub) % 18446744073709551616 else h0
 let h2:=if b<0 then (h1-ua) % 18446744073709551616 else h1
 IntKind.i64.wrap h2=a*b / 18446744073709551616∧ua*ub % 18446744073709551616=a*b % 18446744073709551616:=by
 intro ua ub h0 h1 h2
 have hP:=QBU (a:=a) (t:=b) ⟨ha.1,by omega⟩ ⟨hb.1,by omega⟩
 have hi:∀ x,x % 18446744073709551616=(a*b / 18446744073709551616) % 18446744073709551616→IntKind.i64.wrap x=a*b / 18446744073709551616:=by
  intro x hx
  have hr : -9223372036854775808≤a*b / 18446744073709551616∧a*b / 18446744073709551616<9223372036854775808:=by
   generalize a*b=P at *
   omega
  rw [← Q4 hr.1 hr.2]
  generalize a*b / 18446744073709551616=q at *
  simp only [IntKind.wrap,IntKind.signed,IntKind.bits]
  simp
  rw [hx]
 by_cases h1':a<0<;>by_cases h2':b<0
 · have e1:ua=a+18446744073709551616:=by show a % _=_;omega
   have e2:ub=b+18446744073709551616:=by show b % _=_;omega
   have e:ua*ub=a*b+18446744073709551616*a+18446744073709551616*b+340282366920938463463374607431768211456:=by
    rw [e1,e2,Int.add_mul,Int.mul_add,Int.mul_add];omega
   have E1:h1=(h0-ub) % 18446744073709551616:=if_pos h1'
   have E2:h2=(h1-ua) % 18446744073709551616:=if_pos h2'
   have E0:h0=ua*ub / 18446744073709551616:=rfl
   rw [e] at E0 ⊢
   refine ⟨hi _ ?_,?_⟩
   · rw [E2,E1,E0,e1,e2]
     generalize a*b=P at *
     omega
   · generalize a*b=P at *
     omega
 · have e1:ua=a+18446744073709551616:=by show a % _=_;omega
   have e2:ub=b:=by show b % _=_;omega
   have e:ua*ub=a*b+18446744073709551616*b:=by rw [e1,e2,Int.add_mul]
   have E1:h1=(h0-ub) % 18446744073709551616:=if_pos h1'
   have E2:h2=h1:=if_neg h2'
   have E0:h0=ua*ub / 18446744073709551616:=rfl
   rw [e] at E0 ⊢
   refine ⟨hi _ ?_,?_⟩
   · rw [E2,E1,E0,e2]
     generalize a*b=P at *
     omega
   · generalize a*b=P at *
     omega
 · have e1:ua=a:=by show a % _=_;omega
   have e2:ub=b+18446744073709551616:=by show b % _=_;omega
   have e:ua*ub=a*b+18446744073709551616*a:=by rw [e1,e2,Int.mul_add];omega
   have E1:h1=h0:=if_neg h1'
   have E2:h2=(h1-ua) % 18446744073709551616:=if_pos h2'
   have E0:h0=ua*ub / 18446744073709551616:=rfl
   rw [e] at E0 ⊢
   refine ⟨hi _ ?_,?_⟩
   · rw [E2,E1,E0,e1]
     generalize a*b=P at *
     omega
   · generalize a*b=P at *
     omega
 · have e1:ua=a:=by show a % _=_;omega
   have e2:ub=b:=by show b % _=_;omega
   have e:ua*ub=a*b:=by rw [e1,e2]
   have E1:h1=h0:=if_neg h1'
   have E2:h2=h1:=if_neg h2'
   have E0:h0=ua*ub / 18446744073709551616:=rfl
   rw [e] at E0 ⊢
   exact ⟨hi _ (by rw [E2,E1,E0]),rfl⟩
end Go.Eng
namespace Go.Eng
def Xd (c:Nat):Nat→Nat
 | 0=>0
 | n+1=>Xd c n*256+c
def XJ:List Nat→Nat
 | []=>0
 | c::l=>XJ l*256+c
theorem Ug (a b c d:Nat) (hb:b<256) (hd:d<256):(a*256+b) &&& (c*256+d)=(a &&& c)*256+(b &&& d):=by
 have hbd:b &&& d<2^8:=Nat.lt_of_le_of_lt Nat.and_le_left hb
 apply Nat.eq_of_testBit_eq
 intro i
 rw [show 256=2^8 from rfl,Nat.mul_comm a,Nat.mul_comm c,Nat.mul_comm (a &&& c),Nat.testBit_and,Nat.testBit_two_pow_mul_add _ (show b<2^8 from hb),Nat.testBit_two_pow_mul_add _ (show d<2^8 from hd),Nat.testBit_two_pow_mul_add _ hbd]
 split<;>rw [Nat.testBit_and]
def s1 (x:Nat):Nat:=(x / 2 &&& 0x55)+(x &&& 0x55)
def s2 (x:Nat):Nat:=(x / 4 &&& 0x33)+(x &&& 0x33)
def s3 (x:Nat):Nat:=(x / 16+x) &&& 0x0f
def QCi (x:Nat):Nat:=x % 2+x / 2 % 2+x / 4 % 2+x / 8 % 2+x / 16 % 2+x / 32 % 2+x / 64 % 2+x / 128 % 2
theorem QRb:∀ x:Fin 256,s3 (s2 (s1 x))=QCi x:=by decide +kernel
theorem QNQ:∀ x:Fin 256,∀ h:Fin 2,(h.1*128+x.1 / 2) &&& 0x55=x.1 / 2 &&& 0x55:=by decide +kernel
theorem QNO:∀ x:Fin 256,∀ h:Fin 4,(h.1*64+x.1 / 4) &&& 0x33=x.1 / 4 &&& 0x33:=by decide +kernel
theorem QNN:∀ x:Fin 119,∀ h:Fin 8,(h.1*16+x.1 / 16+x.1) &&& 0x0f=(x.1 / 16+x.1) &&& 0x0f:=by decide +kernel
theorem QPs:∀ x:Fin 256,s1 x<171:=by decide +kernel
theorem QNP:∀ x:Fin 171,s2 x / 16<8∧s2 x % 16<8∧s2 x<119:=by decide +kernel
theorem QJ6:∀ l:List Nat,(∀ c∈l,c<256)→(XJ l / 2 &&& Xd 0x55 l.length)+(XJ l &&& Xd 0x55 l.length)=XJ (l.map s1)
 | [],_=>rfl
 | c::l,h=>by
   have hc:=h c (by simp)
   have ih:=QJ6 l fun d hd=>h d (by simp [hd])
   simp only [XJ,List.length_cons,Xd,List.map_cons]
   have e:(XJ l*256+c) / 2=XJ l / 2*256+(XJ l % 2*128+c / 2):=by omega
   have h2:XJ l % 2<2:=Nat.mod_lt _ (by decide)
   have et:=QNQ ⟨c,hc⟩ ⟨_,h2⟩
   simp only at et
   rw [e,Ug _ _ _ _ (by omega) (by decide),Ug _ _ _ _ hc (by decide),et,← ih]
   unfold s1
   omega
theorem QJ5:∀ l:List Nat,(∀ c∈l,c<256)→(XJ l / 4 &&& Xd 0x33 l.length)+(XJ l &&& Xd 0x33 l.length)=XJ (l.map s2)
 | [],_=>rfl
 | c::l,h=>by
   have hc:=h c (by simp)
   have ih:=QJ5 l fun d hd=>h d (by simp [hd])
   simp only [XJ,List.length_cons,Xd,List.map_cons]
   have e:(XJ l*256+c) / 4=XJ l / 4*256+(XJ l % 4*64+c / 4):=by omega
   have h2:XJ l % 4<4:=Nat.mod_lt _ (by decide)
   have et:=QNO ⟨c,hc⟩ ⟨_,h2⟩
   simp only at et
   rw [e,Ug _ _ _ _ (by omega) (by decide),Ug _ _ _ _ hc (by decide),et,← ih]
   unfold s2
   omega
theorem QJ4:∀ l:List Nat,(∀ c∈l,c<119∧c % 16<8)→(XJ l / 16+XJ l) &&& Xd 0x0f l.length=XJ (l.map s3)∧XJ l % 16<8
 | [],_=>⟨rfl,by decide⟩
 | c::l,h=>by
   have hc:=h c (by simp)
   obtain ⟨ih,h8⟩:=QJ4 l fun d hd=>h d (by simp [hd])
   simp only [XJ,List.length_cons,Xd,List.map_cons]
   have e:(XJ l*256+c) / 16+(XJ l*256+c)=(XJ l / 16+XJ l)*256+(XJ l % 16*16+c / 16+c):=by omega
   have et:=QNN ⟨c,hc.1⟩ ⟨_,h8⟩
   simp only at et
   rw [e,Ug _ _ _ _ (by omega) (by decide),et,← ih]
   exact ⟨rfl,by omega⟩
def YX:Nat→Nat→List Nat
 | 0,_=>[]
 | n+1,x=>x % 256::YX n (x / 256)
theorem w5:∀ (n x:Nat),x<256^n→XJ (YX n x)=x
 | 0,x,h=>by simp at h;subst h;rfl
 | n+1,x,h=>by
   have h1:x / 256<256^n:=by rw [Nat.pow_succ] at h;exact Nat.div_lt_of_lt_mul (by rw [Nat.mul_comm];exact h)
   rw [YX,XJ,w5 n _ h1]
   omega
theorem QEb:∀ (n x:Nat),∀ c∈YX n x,c<256
 | 0,_,c,h=>by simp [YX] at h
 | n+1,x,c,h=>by
   rw [YX] at h
   rcases List.mem_cons.1 h with e|e
   · omega
   · exact QEb n _ c e
theorem QB6:∀ (n x:Nat),(YX n x).length=n
 | 0,_=>rfl
 | n+1,x=>by rw [YX,List.length_cons,QB6]
theorem QRZ (x:Nat) (hx:x<18446744073709551616) :
 let y:=(x / 2 &&& Xd 0x55 8)+(x &&& Xd 0x55 8)
 let z:=(y / 4 &&& Xd 0x33 8)+(y &&& Xd 0x33 8)
 (z / 16+z) &&& Xd 0x0f 8=XJ ((YX 8 x).map QCi):=by
 intro y z
 have h256:=QEb 8 x
 have hl:=QB6 8 x
 have hy:y=XJ ((YX 8 x).map s1):=by
  have h:=QJ6 (YX 8 x) h256
  rw [hl,w5 8 x (by omega)] at h
  exact h
 have h1:∀ c∈(YX 8 x).map s1,c<171:=by
  intro c hc
  obtain ⟨d,hd,rfl⟩:=List.mem_map.1 hc
  exact QPs ⟨d,h256 d hd⟩
 have hz:z=XJ (((YX 8 x).map s1).map s2):=by
  have h:=QJ5 ((YX 8 x).map s1) fun c hc=>by have:=h1 c hc;omega
  rw [List.length_map,hl,← hy] at h
  exact h
 have h2:∀ c∈((YX 8 x).map s1).map s2,c<119∧c % 16<8:=by
  intro c hc
  obtain ⟨d,hd,rfl⟩:=List.mem_map.1 hc
  have:=QNP ⟨d,h1 d hd⟩
  exact ⟨this.2.2,this.2.1⟩
 have h:=(QJ4 _ h2).1
 rw [List.length_map,List.length_map,hl,← hz] at h
 rw [h,List.map_map,List.map_map]
 congr 1
 apply List.map_congr_left
 intro c hc
 exact QRb ⟨c,h256 c hc⟩
def xF (x:Nat):Nat→Nat
 | 0=>0
 | n+1=>xF x n+x / 2^n % 2
theorem QGP (x:Nat):∀ n,xF x n≤n
 | 0=>Nat.le_refl _
 | n+1=>by have:=QGP x n;have:=Nat.mod_lt (x / 2^n) (show 0<2 by decide);unfold xF;omega
theorem QD3 (a:Int):∀ n,n≤64→YB (wG a) 0 n=(xF (BitVec.ofInt 64 a).toNat n:Int)
 | 0,_=>rfl
 | n+1,h=>by
   rw [UN,QD3 a n (by omega)]
   unfold wG
   rw [Yy a (by omega),QFn]
   have h1:=QGP (BitVec.ofInt 64 a).toNat n
   have h2:=Nat.mod_lt ((BitVec.ofInt 64 a).toNat / 2^n) (show 0<2 by decide)
   show _=((xF (BitVec.ofInt 64 a).toNat n+(BitVec.ofInt 64 a).toNat / 2^n % 2:Nat):Int)
   generalize (BitVec.ofInt 64 a).toNat / 2^n % 2=u at *
   generalize xF (BitVec.ofInt 64 a).toNat n=v at *
   rw [Q4 (by omega) (by omega)]
   omega
theorem QEW (x:Nat) (n:Nat):∀ m,xF x (n+m)=xF x n+xF (x / 2^n) m
 | 0=>rfl
 | m+1=>by
   rw [← Nat.add_assoc,xF,xF,QEW x n m,Nat.div_div_eq_div_mul,← Nat.pow_add]
   omega
theorem QOf (x:Nat):xF x 8=QCi (x % 256):=by
 simp only [xF,QCi]
 omega
theorem QBw:∀ (n x:Nat),xF x (8*n)=((YX n x).map QCi).sum
 | 0,_=>rfl
 | n+1,x=>by
   rw [show 8*(n+1)=8+8*n by omega,QEW,QOf,QBw n,YX,List.map_cons,List.sum_cons]
theorem V2 (x:Nat):QCi x≤8:=by unfold QCi;omega
theorem QRa {c0 c1 c2 c3 c4 c5 c6 c7:Nat} (h0:c0≤8) (h1:c1≤8) (h2:c2≤8) (h3:c3≤8) (h4:c4≤8) (h5:c5≤8) (h6:c6≤8) (h7:c7≤8) :
 let y:=XJ [c0,c1,c2,c3,c4,c5,c6,c7]
 let y1:=(y+y / 256) % 18446744073709551616
 let y2:=(y1+y1 / 65536) % 18446744073709551616
 let y3:=(y2+y2 / 4294967296) % 18446744073709551616
 y3 % 128=c0+c1+c2+c3+c4+c5+c6+c7:=by
 intro y y1 y2 y3
 obtain ⟨X7,e7⟩:∃ X,X=c7:=⟨_,rfl⟩
 obtain ⟨X6,e6⟩:∃ X,X=c6+256*X7:=⟨_,rfl⟩
 obtain ⟨X5,e5⟩:∃ X,X=c5+256*X6:=⟨_,rfl⟩
 obtain ⟨X4,e4⟩:∃ X,X=c4+256*X5:=⟨_,rfl⟩
 obtain ⟨X3,e3⟩:∃ X,X=c3+256*X4:=⟨_,rfl⟩
 obtain ⟨X2,e2⟩:∃ X,X=c2+256*X3:=⟨_,rfl⟩
 obtain ⟨X1,e1⟩:∃ X,X=c1+256*X2:=⟨_,rfl⟩
 obtain ⟨X0,e0⟩:∃ X,X=c0+256*X1:=⟨_,rfl⟩
 have b6:X6≤2056:=by omega
 have b5:X5≤526344:=by omega
 have b4:X4≤134744072:=by omega
 have b3:X3≤34494482440:=by omega
 have b2:X2≤8830587504648:=by omega
 have b1:X1≤2260630401189896:=by omega
 have b0:X0≤578721382704613384:=by omega
 have ey:y=X0:=by
  show XJ _=_
  simp only [XJ]
  omega
 have q1:y1=X0+X1:=by
  show (y+y / 256) % _=_
  rw [ey]
  clear e7 e6 e5 e4 e3 e2 e1
  omega
 have d2:(X0+X1) / 65536=X2+X3:=by
  have f0:X0=c0+256*c1+65536*X2:=by omega
  have f1:X1=c1+256*c2+65536*X3:=by omega
  rw [f0,f1]
  clear e7 e6 e5 e4 e3 e2 e1 e0 f0 f1
  omega
 have q2:y2=X0+X1+X2+X3:=by
  show (y1+y1 / 65536) % _=_
  rw [q1,d2]
  clear e7 e6 e5 e4 e3 e2 e1 e0
  omega
 have d3:(X0+X1+X2+X3) / 4294967296=X4+X5+X6+X7:=by
  have f0:X0=c0+256*c1+65536*c2+16777216*c3+4294967296*X4:=by omega
  have f1:X1=c1+256*c2+65536*c3+16777216*c4+4294967296*X5:=by omega
  have f2:X2=c2+256*c3+65536*c4+16777216*c5+4294967296*X6:=by omega
  have f3:X3=c3+256*c4+65536*c5+16777216*c6+4294967296*X7:=by omega
  rw [f0,f1,f2,f3]
  clear e7 e6 e5 e4 e3 e2 e1 e0 f0 f1 f2 f3
  omega
 have q3:y3=X0+X1+X2+X3+(X4+X5+X6+X7):=by
  show (y2+y2 / 4294967296) % _=_
  rw [q2,d3]
  clear e7 e6 e5 e4 e3 e2 e1 e0
  omega
 rw [q3,e0,e1,e2,e3,e4,e5,e6,e7]
 omega
theorem QG8 (a:Int) :
 let x:=(BitVec.ofInt 64 a).toNat
 let y:=(x / 2 &&& Xd 0x55 8)+(x &&& Xd 0x55 8)
 let z:=(y / 4 &&& Xd 0x33 8)+(y &&& Xd 0x33 8)
 let v:=(z / 16+z) &&& Xd 0x0f 8
 let y1:=(v+v / 256) % 18446744073709551616
 let y2:=(y1+y1 / 65536) % 18446744073709551616
 let y3:=(y2+y2 / 4294967296) % 18446744073709551616
 YB (wG a) 0 64=((y3 % 128:Nat):Int):=by
 intro x y z v y1 y2 y3
 have hv:v=XJ ((YX 8 x).map QCi):=QRZ x (BitVec.ofInt 64 a).isLt
 rw [QD3 a 64 (by decide),show (64:Nat)=8*8 from rfl,QBw]
 have e:=QRa (V2 (x % 256)) (V2 (x / 256 % 256)) (V2 (x / 256 / 256 % 256)) (V2 (x / 256 / 256 / 256 % 256)) (V2 (x / 256 / 256 / 256 / 256 % 256)) (V2 (x / 256 / 256 / 256 / 256 / 256 % 256)) (V2 (x / 256 / 256 / 256 / 256 / 256 / 256 % 256)) (V2 (x / 256 / 256 / 256 / 256 / 256 / 256 / 256 % 256))
 simp only [YX,List.map_cons,List.map_nil] at hv
 simp only at e
 rw [← hv] at e
 have e':y3 % 128=_:=e
 rw [e']
 change ((((YX 8 x).map QCi).sum:Nat):Int)=_
 clear e e' hv
 simp only [YX,List.map_cons,List.map_nil,List.sum_cons,List.sum_nil]
 congr 1
 omega
end Go.Eng
namespace Go.Eng
theorem QAB {p:Nat→Bool} {n k:Nat} (hk:k<n) (h:p k=true) (hb:∀ j,j<k→p j=false):(List.range n).findIdx p=k:=by
 have hl:(List.range n).findIdx p<(List.range n).length:=List.findIdx_lt_length_of_exists ⟨k,List.mem_range.2 hk,h⟩
 have h1:=List.findIdx_getElem (w:=hl)
 rw [List.getElem_range] at h1
 rcases Nat.lt_trichotomy ((List.range n).findIdx p) k with q|q|q
 · rw [hb _ q] at h1;cases h1
 · exact q
 · have h2:=List.not_of_lt_findIdx q
   rw [List.getElem_range] at h2
   exact absurd h (by simpa using h2)
theorem wO {p:Nat→Bool} {n:Nat} (hb:∀ j,j<n→p j=false):(List.range n).findIdx p=n:=by
 have h:=List.findIdx_eq_length (p:=p) (xs:=List.range n)
 rw [List.length_range] at h
 exact h.2 fun x hx=>hb x (List.mem_range.1 hx)
theorem QHm (b:Bool):decide (XL b≠0)=b:=by cases b<;>rfl
def Zm (x:Nat):Nat:=if x=0 then 0 else Nat.log2 x+1
theorem QLE {x n:Nat} (h1:x<2^n) (h2:n=0∨2^(n-1)≤x):Zm x=n:=by
 unfold Zm
 rcases h2 with h2|h2
 · subst h2
   rw [if_pos (by simpa using h1)]
 · have hp:0<2^(n-1):=Nat.pow_pos (by decide)
   have h0:x≠0:=by omega
   rw [if_neg h0]
   have q1:=(Nat.le_log2 h0).2 h2
   have q2:=(Nat.log2_lt h0).2 h1
   omega
theorem QGD (x:Nat):x<2^Zm x:=by
 unfold Zm
 split
 · omega
 · next h=>exact (Nat.log2_lt h).1 (Nat.lt_succ_self _)
theorem QGE {x:Nat} (h:x≠0):2^(Zm x-1)≤x:=by
 unfold Zm
 rw [if_neg h]
 exact (Nat.le_log2 h).1 (Nat.le_refl _)
theorem QEH {x:Nat} (h:x≠0):1≤Zm x:=by unfold Zm;rw [if_neg h];omega
theorem Yf {x:Nat} (h:x<18446744073709551616):Zm x≤64:=by
 by_cases h0:x=0
 · subst h0;decide
 · unfold Zm
   rw [if_neg h0]
   have:=(Nat.log2_lt h0).2 (show x<2^64 from h)
   omega
theorem yG {x k:Nat} (h:2^k≤x):Zm x=Zm (x / 2^k)+k:=by
 have hp:0<2^k:=Nat.pow_pos (by decide)
 have h0:x / 2^k≠0:=by
  have:=Nat.div_pos h hp
  omega
 have hl:=QEH h0
 refine QLE ?_ (.inr ?_)
 · rw [Nat.pow_add]
   exact (Nat.div_lt_iff_lt_mul hp).1 (QGD _)
 · rw [show Zm (x / 2^k)+k-1=(Zm (x / 2^k)-1)+k by omega,Nat.pow_add]
   exact (Nat.le_div_iff_mul_le hp).1 (QGE h0)
theorem QJJ (a:Int):QEJ a=64-Zm (BitVec.ofInt 64 a).toNat:=by
 have hz:=(BitVec.ofInt 64 a).isLt
 have h64:=Yf hz
 have hlt:=QGD (BitVec.ofInt 64 a).toNat
 have hbit:∀ j:Nat,j<64→decide (X8 a (63-(j:Int))≠0)=decide ((BitVec.ofInt 64 a).toNat / 2^(63-j) % 2=1):=by
  intro j hj
  rw [show (63:Int)-(j:Int)=((63-j:Nat):Int) by omega,Yy a (by omega),QHm,BitVec.getLsbD,Nat.testBit_eq_decide_div_mod_eq]
 unfold QEJ
 by_cases h0:(BitVec.ofInt 64 a).toNat=0
 · rw [h0] at hbit ⊢
   rw [wO (fun j hj=>by rw [hbit j hj];simp)]
   rfl
 · have hle:=QGE h0
   have hp:=QEH h0
   generalize hn:Zm (BitVec.ofInt 64 a).toNat=n at *
   generalize (BitVec.ofInt 64 a).toNat=z at *
   refine QAB (by omega) ?_ fun j hj=>?_
   · rw [hbit _ (by omega),show 63-(64-n)=n-1 by omega]
     have e:z / 2^(n-1)=1:=by
      refine Nat.div_eq_of_lt_le (by omega) ?_
      have:2^n=2^(n-1)*2:=by rw [← Nat.pow_succ];congr 1;omega
      omega
     rw [e];rfl
   · rw [hbit _ (by omega)]
     have e:z / 2^(63-j)=0:=Nat.div_eq_of_lt (Nat.lt_of_lt_of_le hlt (Nat.pow_le_pow_right (by decide) (by omega)))
     rw [e];rfl
theorem QGn (a:Int):w7 a=Lib.ctz 64 (BitVec.ofInt 64 a).toNat:=by
 have hz:=(BitVec.ofInt 64 a).isLt
 have hbit:∀ j:Nat,j<64→decide (X8 a (j:Int)≠0)=decide ((BitVec.ofInt 64 a).toNat / 2^j % 2=1):=by
  intro j hj
  rw [Yy a (by omega),QHm,BitVec.getLsbD,Nat.testBit_eq_decide_div_mod_eq]
 unfold w7 Lib.ctz
 by_cases h0:(BitVec.ofInt 64 a).toNat=0
 · rw [if_pos h0,wO (fun j hj=>by rw [hbit j hj,h0];simp)]
 · rw [if_neg h0]
   obtain ⟨m,hm,hc⟩:=Lib.ctzFrom_spec 64 _ (Nat.pos_of_ne_zero h0) hz
   generalize Lib.ctzFrom 64 (BitVec.ofInt 64 a).toNat=c at *
   generalize (BitVec.ofInt 64 a).toNat=z at *
   refine QAB hc ?_ fun j hj=>?_
   · rw [hbit _ hc,hm,Nat.mul_div_cancel_left _ (Nat.pow_pos (by decide))]
     simp
   · rw [hbit _ (by omega),hm]
     have e:2^c*(2*m+1)=2^j*(2*(2^(c-j-1)*(2*m+1))):=by
      rw [show c=j+(1+(c-j-1)) by omega,Nat.pow_add,Nat.pow_add,show j+(1+(c-j-1))-j-1=c-j-1 by omega]
      simp only [Nat.pow_one,Nat.mul_assoc]
     rw [e,Nat.mul_div_cancel_left _ (Nat.pow_pos (by decide))]
     simp
end Go.Eng
namespace Go.Eng
theorem QCV (x m:Nat):((x:Int)).fdiv (2^m)=((x / 2^m:Nat):Int):=by
 rw [Int.fdiv_eq_ediv_of_nonneg _ (Int.le_of_lt (Int.pow_pos (by decide)))]
 simp
theorem qJ {x:Nat} (h:x<18446744073709551616):IntKind.u64.wrap (x:Int)=(x:Int):=by rw [ZD];omega
theorem QLZ (x:Nat):IntKind.u64.wrap (x:Int)=((x % 18446744073709551616:Nat):Int):=by rw [ZD];omega
theorem QEk (x y:Nat):(x:Int)+(y:Int)=((x+y:Nat):Int):=(Int.natCast_add x y).symm
theorem QIp (x y:Nat):(x:Int)*(y:Int)=((x*y:Nat):Int):=(Int.natCast_mul x y).symm
theorem QHh {x y:Nat} (hx:x<18446744073709551616) (hy:y<18446744073709551616):IntKind.u64.wrap ((BitVec.ofInt 64 (x:Int) &&& BitVec.ofNat 64 y).toNat:Int)=((x &&& y:Nat):Int):=by
 rw [BitVec.ofInt_natCast,BitVec.toNat_and,BitVec.toNat_ofNat,BitVec.toNat_ofNat,Nat.mod_eq_of_lt hx,Nat.mod_eq_of_lt hy]
 exact qJ (Nat.lt_of_le_of_lt Nat.and_le_left hx)
theorem QRl {x:Nat} (hx:x<18446744073709551616):IntKind.u64.wrap ((BitVec.ofInt 64 (x:Int) &&& 4294967295#64).toNat:Int)=((x % 4294967296:Nat):Int):=by
 rw [QHh hx (by decide),show (4294967295:Nat)=2^32-1 from rfl,Nat.and_two_pow_sub_one_eq_mod]
theorem wj {x:Nat} (h:4294967296≤x):Zm x=Zm (x / 4294967296)+32:=by
 have e:(2:Nat)^32=4294967296:=by decide
 have:=yG (x:=x) (k:=32) (by rw [e];exact h)
 rw [e] at this
 exact this
theorem wk {x:Nat} (h:65536≤x):Zm x=Zm (x / 65536)+16:=by
 have e:(2:Nat)^16=65536:=by decide
 have:=yG (x:=x) (k:=16) (by rw [e];exact h)
 rw [e] at this
 exact this
theorem QCx {x:Nat} (h:256≤x):Zm x=Zm (x / 256)+8:=yG (x:=x) (k:=8) h
theorem f32 (x:Nat):(x:Int).fdiv 4294967296=((x / 4294967296:Nat):Int):=QCV x 32
theorem QC3 (x:Nat):(x:Int).fdiv (2^min 32 64)=((x / 4294967296:Nat):Int):=QCV x 32
theorem QC4 (x:Nat):(x:Int).fdiv (2^min 16 64)=((x / 65536:Nat):Int):=QCV x 16
theorem f8' (x:Nat):(x:Int).fdiv (2^min 8 64)=((x / 256:Nat):Int):=QCV x 8
theorem QFr (x:Int):IntKind.u8.wrap x=x % 256:=by simp [IntKind.wrap,IntKind.signed,IntKind.bits]
theorem UO {n:Nat} (hn:n=256) (x:Int):0≤IntKind.u8.wrap x∧IntKind.u8.wrap x<(n:Int):=by rw [QFr];omega
theorem x9 {x:Nat} (h:x<256):(IntKind.u8.wrap (x:Int)).toNat=x:=by rw [QFr];omega
theorem w48:IntKind.i64.wrap 48=48:=by decide
theorem w40:IntKind.i64.wrap 40=40:=by decide
theorem w56:IntKind.i64.wrap 56=56:=by decide
theorem w24:IntKind.i64.wrap 24=24:=by decide
theorem w16:IntKind.i64.wrap 16=16:=by decide
theorem w8:IntKind.i64.wrap 8=8:=by decide
theorem QOd {x:Nat} (h:x<18446744073709551616):Lib.ctz 64 x≤64:=by
 unfold Lib.ctz
 split
 · omega
 · next h0 =>
   obtain ⟨m,_,hc⟩:=Lib.ctzFrom_spec 64 x (Nat.pos_of_ne_zero h0) h
   omega
def QF0 (x:Nat):Nat:=(x / 2 &&& Xd 0x55 8)+(x &&& Xd 0x55 8)
def QD6 (x:Nat):Nat:=(x / 4 &&& Xd 0x33 8)+(x &&& Xd 0x33 8)
def QLm (x:Nat):Nat:=(x / 16+x) &&& Xd 0x0f 8
def QD4 (k x:Nat):Nat:=(x+x / 2^k) % 18446744073709551616
def QIf (x:Nat):Nat:=QD4 32 (QD4 16 (QD4 8 (QLm (QD6 (QF0 x))))) % 128
theorem QIe (a:Int):YB (wG a) 0 64=(QIf (BitVec.ofInt 64 a).toNat:Int):=QG8 a
theorem QD7 (x:Nat):QF0 x<18446744073709551616:=by
 have h1:x / 2 &&& Xd 0x55 8≤Xd 0x55 8:=Nat.and_le_right
 have h2:x &&& Xd 0x55 8≤Xd 0x55 8:=Nat.and_le_right
 have h3:Xd 0x55 8=6148914691236517205:=rfl
 unfold QF0;omega
theorem QD5 (x:Nat):QD6 x<7378697629483820647:=by
 have h1:x / 4 &&& Xd 0x33 8≤Xd 0x33 8:=Nat.and_le_right
 have h2:x &&& Xd 0x33 8≤Xd 0x33 8:=Nat.and_le_right
 have h3:Xd 0x33 8=3689348814741910323:=rfl
 unfold QD6;omega
def oA (x:Int):Int:=IntKind.u64.wrap (IntKind.u64.wrap ((BitVec.ofInt 64 (x.fdiv (2^min 1 64)) &&& 6148914691236517205#64).toNat:Int)+IntKind.u64.wrap ((BitVec.ofInt 64 x &&& 6148914691236517205#64).toNat:Int))
def oB (x:Int):Int:=IntKind.u64.wrap (IntKind.u64.wrap ((BitVec.ofInt 64 (x.fdiv (2^min 2 64)) &&& 3689348814741910323#64).toNat:Int)+IntKind.u64.wrap ((BitVec.ofInt 64 x &&& 3689348814741910323#64).toNat:Int))
def oC (x:Int):Int:=IntKind.u64.wrap ((BitVec.ofInt 64 (IntKind.u64.wrap (x.fdiv (2^min 4 64)+x)) &&& 1085102592571150095#64).toNat:Int)
def oD (k:Nat) (x:Int):Int:=IntKind.u64.wrap (x+x.fdiv (2^min k 64))
def oE (x:Int):Int:=IntKind.i64.wrap ((BitVec.ofInt 64 (IntKind.i64.wrap x) &&& 127#64).toNat:Int)
theorem QKl {x:Nat} (h:x<18446744073709551616):oA (x:Int)=(QF0 x:Int):=by
 unfold oA
 rw [QCV,QHh (by show x / 2<_;omega) (by decide),QHh h (by decide),QEk]
 exact qJ (QD7 x)
theorem QKk {x:Nat} (h:x<18446744073709551616):oB (x:Int)=(QD6 x:Int):=by
 unfold oB
 rw [QCV,QHh (by show x / 4<_;omega) (by decide),QHh h (by decide),QEk]
 exact qJ (by have:=QD5 x;unfold QD6 at this;exact Nat.lt_trans this (by decide))
theorem QKj {x:Nat} (h:x<7378697629483820647):oC (x:Int)=(QLm x:Int):=by
 unfold oC
 have e:=qJ (x:=x / 2^min 4 64+x) (by show x / 16+x<_;omega)
 rw [QCV,QEk,e]
 exact QHh (x:=x / 16+x) (y:=1085102592571150095) (by omega) (by decide)
theorem QCm (x k:Nat) (hk:k≤64):oD k (x:Int)=(QD4 k x:Int):=by
 unfold oD
 rw [Nat.min_eq_left hk,QCV,QEk,QLZ];rfl
theorem QIc (x:Nat) (hx:x<18446744073709551616):oE (x:Int)=((x % 128:Nat):Int):=by
 unfold oE
 rw [QGc,BitVec.ofInt_natCast,BitVec.toNat_and,BitVec.toNat_ofNat,Nat.mod_eq_of_lt hx,show (127#64).toNat=2^7-1 from rfl,Nat.and_two_pow_sub_one_eq_mod]
 exact Q4 (by omega) (by omega)
theorem QIg (k x:Nat):QD4 k x<18446744073709551616:=Nat.mod_lt _ (by decide)
theorem QG9 {n:Nat} (hn:n<18446744073709551616):oE (oD 32 (oD 16 (oD 8 (oC (oB (oA (n:Int)))))))=(QIf n:Int):=by
 rw [QKl hn,QKk (QD7 n),QKj (QD5 _),QCm _ 8 (by decide),QCm _ 16 (by decide),QCm _ 32 (by decide),QIc _ (QIg _ _)]
 rfl
def QHI (x:Int):Int:=IntKind.u64.wrap ((BitVec.ofInt 64 x &&& 4294967295#64).toNat:Int)
def QEL (x:Int):Int:=x.fdiv (2^min 32 64)
def QKn (x y:Int):Int:=IntKind.u64.wrap (IntKind.u64.wrap (QEL x*QHI y)+QEL (IntKind.u64.wrap (QHI x*QHI y)))
def QLn (x y:Int):Int:=IntKind.u64.wrap (IntKind.u64.wrap (IntKind.u64.wrap (QEL x*QEL y)+QEL (QKn x y))+QEL (IntKind.u64.wrap (QHI (QKn x y)+IntKind.u64.wrap (QHI x*QEL y))))
theorem QIq {x y:Nat} (hx:x<18446744073709551616) (hy:y<18446744073709551616):QLn x y=((x*y / 18446744073709551616:Nat):Int):=by
 obtain ⟨bd,bt,bw,hhi⟩:=Lib.mul64_hi x y hx hy
 have bb:=Lib.half_mul_le (a:=x / 4294967296) (b:=y % 4294967296) (by omega) (by omega)
 have bc:=Lib.half_mul_le (a:=x % 4294967296) (b:=y / 4294967296) (by omega) (by omega)
 have ba:=Lib.half_mul_le (a:=x / 4294967296) (b:=y / 4294967296) (by omega) (by omega)
 have ba':x / 4294967296*(y / 4294967296)<18446744073709551616:=by omega
 have bb':x / 4294967296*(y % 4294967296)<18446744073709551616:=by omega
 have bc':x % 4294967296*(y / 4294967296)<18446744073709551616:=by omega
 have hq:x*y / 18446744073709551616<18446744073709551616:=by
  have:=Nat.mul_le_mul (show x≤18446744073709551615 by omega) (show y≤18446744073709551615 by omega)
  omega
 have hh:∀ z:Nat,QEL (z:Int)=((z / 4294967296:Nat):Int):=fun z=>QCV z 32
 have hl:∀ z:Nat,z<18446744073709551616→QHI (z:Int)=((z % 4294967296:Nat):Int):=fun z hz=>QRl hz
 have hT:QKn x y=((x / 4294967296*(y % 4294967296)+x % 4294967296*(y % 4294967296) / 4294967296:Nat):Int):=by
  unfold QKn
  rw [hl x hx,hl y hy,hh x,QIp,QIp,qJ bb',qJ bd,hh,QEk,qJ bt]
 unfold QLn
 rw [hT,hl _ bt,hl x hx,hh x,hh y,hh,QIp,QIp,qJ bc',QEk,qJ bw,hh,qJ ba',QEk,qJ (by omega),QEk,hhi,qJ hq]
def QIO (x k:Int):Int:=IntKind.u64.wrap ((BitVec.ofInt 64 (IntKind.u64.wrap (x*2^min k.toNat 64)) ||| BitVec.ofInt 64 (x.fdiv (2^min (64-k).toNat 64))).toNat:Int)
theorem QMw (b:Int):(BitVec.ofInt 64 b &&& 63#64).toNat=(b % 64).toNat:=by
 rw [BitVec.toNat_and,BitVec.toNat_ofInt,show (63#64).toNat=2^6-1 from rfl,Nat.and_two_pow_sub_one_eq_mod]
 omega
theorem QN7 {k:Int} (h:0≤k∧k<64):IntKind.u64.wrap ((BitVec.ofInt 64 (IntKind.u64.wrap k) &&& 63#64).toNat:Int)=k:=by
 rw [W5,QMw,ZD];omega
theorem QMo (b:Int):IntKind.i64.wrap ((BitVec.ofInt 64 b &&& 63#64).toNat:Int)=b % 64:=by
 rw [QMw,Q4 (by omega) (by omega)];omega
end Go.Eng
