/- A part of the proof: walks through the program's functions, and what they compute. -/
import Derived.Test.YtmonhjagbhpbeaaGreatDoorPk4
set_option linter.unusedSimpArgs false
set_option linter.unusedVariables false
namespace Go.Eng
theorem Y0 (p:Prg) (s:Stt) (m:Int):Wv p s m =
 if (s.chans.getD m.toNat default).len<0∨p.chans.getD m.toNat 0<(s.chans.getD m.toNat default).len∨(s.chans.getD m.toNat default).offer<0∨3<(s.chans.getD m.toNat default).offer∨(p.chans.getD m.toNat 0≠0∧(s.chans.getD m.toNat default).offer≠0) then false
 else if qf (s.chans.getD m.toNat default) 4=false then false
 else if (s.chans.getD m.toNat default).offer=0 then decide ((s.chans.getD m.toNat default).from_=0)&&decide ((s.chans.getD m.toNat default).val=0)
 else if ((s.chans.getD m.toNat default).offer≠1∧(s.chans.getD m.toNat default).val≠0)∨((s.chans.getD m.toNat default).offer=1∧(s.chans.getD m.toNat default).closed=true)∨((s.chans.getD m.toNat default).offer=3∧(s.chans.getD m.toNat default).closed=false) then false
 else if (s.chans.getD m.toNat default).from_<0∨s.count≤(s.chans.getD m.toNat default).from_∨(s.gos.getD (s.chans.getD m.toNat default).from_.toNat default).status≠2 then false
 else decide (((p.funcs.getD (s.gos.getD (s.chans.getD m.toNat default).from_.toNat default).func.toNat default).code.getD (s.gos.getD (s.chans.getD m.toNat default).from_.toNat default).pc.toNat default).op=58) &&
  decide (((p.funcs.getD (s.gos.getD (s.chans.getD m.toNat default).from_.toNat default).func.toNat default).code.getD (s.gos.getD (s.chans.getD m.toNat default).from_.toNat default).pc.toNat default).a=m):=rfl
theorem QIH {c:Chn} {i:Int} (h1:c.len≤i) (h2:0≤i) (h3:i<4) (h4:¬c.buf.getD i.toNat 0=0):qf c 4=false:=by
 refine Zg (i:=i.toNat) (by omega) ?_
 simp only [h4,decide_false,Bool.or_false,decide_eq_false_iff_not]
 omega
theorem Wg {c:Chn} (h:∀ k:Nat,c.len≤k→(k:Int)<4→c.buf.getD k 0=0):qf c 4=true:=by
 unfold qf
 rw [List.all_eq_true]
 intro k hk
 have hk:k<4:=by simpa using hk
 by_cases h1:(k:Int)<c.len
 · simp [h1]
 · have:=h k (by omega) (by omega)
   simp only [this,decide_true,Bool.or_true]
theorem QAE {p:Prg} {g:Gor} (h:U0 p g=true):qs p g:=by
 by_cases hr:qs p g
 · exact hr
 · rw [UM hr] at h;cases h
theorem yQ {p:Prg} {s:Stt} (h:Yx p s 6=true) {i:Int} (h0:0≤i) (h6:i<6) (hc:i<s.count):U0 p (s.gos.getD i.toNat default)=true:=by
 unfold Yx at h
 rw [List.all_eq_true] at h
 have:=h i.toNat (by simp;omega)
 rw [if_pos (by omega)] at this
 exact this
theorem Ut {g:Gor} {m:Int} (h:∀ k:Nat,m≤k→(k:Int)<8→g.regs.getD k 0=0):Uu g m 8=true:=by
 unfold Uu
 rw [List.all_eq_true]
 intro k hk
 have hk:k<8:=by simpa using hk
 by_cases h1:(k:Int)<m
 · simp [h1]
 · have:=h k (by omega) (by omega)
   simp only [this,decide_true,Bool.or_true]
theorem QC3 {p:Prg} {s:Stt} {i:Nat} (hz:Yx p s i=true) (h:((i:Int)<s.count→U0 p (s.gos.getD i default)=true)∧(s.count≤(i:Int)→s.gos.getD i default=zeroGor)):Yx p s (i+1)=true:=by
 unfold Yx at *
 rw [Y2,hz,Bool.true_and]
 simp only [Stt.gor,Int.toNat_natCast]
 by_cases hc:(i:Int)<s.count
 · rw [if_pos hc];exact h.1 hc
 · rw [if_neg hc];exact decide_eq_true (h.2 (by omega))
theorem QFg {p:Prg} {s:Stt} {i:Nat} (hi:i<6) (h:(i:Int)<s.count∧U0 p (s.gos.getD i default)=false∨s.count≤(i:Int)∧¬s.gos.getD i default=zeroGor):Yx p s 6=false:=by
 refine Zg hi ?_
 simp only [Stt.gor,Int.toNat_natCast]
 by_cases hc:(i:Int)<s.count
 · rw [if_pos hc]
   rcases h with h|h
   · exact h.2
   · omega
 · rw [if_neg hc]
   rcases h with h|h
   · omega
   · exact decide_eq_false h.2
theorem wQ {p:Prg} {s:Stt} (h:∀ k:Nat,p.vars.length≤k→k<8→s.vars.getD k 0=0):VM p s 8=true:=by
 unfold VM
 rw [List.all_eq_true]
 intro k hk
 have hk:k<8:=by simpa using hk
 by_cases h1:k<p.vars.length
 · rw [decide_eq_true h1];rfl
 · rw [decide_eq_true (h k (by omega) hk),Bool.or_true]
theorem QEs {p:Prg} {s:Stt} {i:Nat} (h1:p.vars.length≤i) (hi:i<8) (h:¬s.vars.getD i 0=0):VM p s 8=false:=by
 refine Zg hi ?_
 rw [decide_eq_false h,decide_eq_false (by omega)];rfl
theorem own_at {p:Prg} {s:Stt} {i:Nat}:QKm p s i=true↔(0≤s.owner.getD i 0∧s.owner.getD i 0≤s.count)∧(p.locks≤(i:Int)→s.owner.getD i 0=0):=by
 unfold QKm
 rw [Bool.and_eq_true,Bool.and_eq_true,Bool.or_eq_true,decide_eq_true_eq,decide_eq_true_eq,decide_eq_true_eq,decide_eq_true_eq]
 omega
theorem QFJ {p:Prg} {s:Stt} {i:Nat} (hz:YU p s i=true) (h:(0≤s.owner.getD i 0∧s.owner.getD i 0≤s.count)∧(p.locks≤(i:Int)→s.owner.getD i 0=0)):YU p s (i+1)=true:=by
 unfold YU at *
 rw [Y2,hz,own_at.2 h];rfl
theorem QHe {p:Prg} {s:Stt} {i:Nat} (hi:i<4) (h:(s.owner.getD i 0<0∨s.count<s.owner.getD i 0)∨p.locks≤(i:Int)∧¬s.owner.getD i 0=0):YU p s 4=false:=by
 refine Zg hi ?_
 rw [Bool.eq_false_iff,Ne,own_at]
 omega
theorem qd {p:Prg} {s:Stt} {i:Nat} (hz:XT p s i=true) (h:(p.chans.length≤i→s.chans.getD i default=zeroChn)∧(i<p.chans.length→Wv p s i=true)):XT p s (i+1)=true:=by
 unfold XT at *
 rw [Y2,hz,Bool.true_and]
 simp only [Stt.chn,Int.toNat_natCast]
 by_cases hc:i<p.chans.length
 · rw [if_pos hc];exact h.2 hc
 · rw [if_neg hc];exact decide_eq_true (h.1 (by omega))
theorem wu {p:Prg} {s:Stt} {i:Nat} (hi:i<4) (h:p.chans.length≤i∧¬s.chans.getD i default=zeroChn∨i<p.chans.length∧Wv p s i=false):XT p s 4=false:=by
 refine Zg hi ?_
 simp only [Stt.chn,Int.toNat_natCast]
 by_cases hc:i<p.chans.length
 · rw [if_pos hc]
   rcases h with h|h
   · omega
   · exact h.2
 · rw [if_neg hc]
   rcases h with h|h
   · exact decide_eq_false h.2
   · omega
theorem QIF (s:Stt) (j:Nat):s.chans.getD j default=s.chn (j:Int):=by simp only [Stt.chn,Int.toNat_natCast]
theorem QBD {s:Stt} {g:Int} {j:Nat} (h:¬(s.chans.getD j default).offer=0∧(s.chans.getD j default).from_=g):ZF s g (j+1)=ZF s g j+1:=by
 rw [QIF] at h
 unfold ZF
 rw [List.range_succ,List.filter_append,List.length_append]
 congr 1
 simp only [List.filter_cons,List.filter_nil]
 rw [show decide ((s.chn (j:Int)).offer≠0)=true from decide_eq_true h.1,decide_eq_true h.2];rfl
theorem zZ {s:Stt} {g:Int} {j:Nat} (h:¬(s.chans.getD j default).offer=0→¬(s.chans.getD j default).from_=g):ZF s g (j+1)=ZF s g j:=by
 rw [QIF] at h
 unfold ZF
 rw [List.range_succ,List.filter_append,List.length_append]
 simp only [List.filter_cons,List.filter_nil]
 by_cases h0:(s.chn (j:Int)).offer=0
 · rw [show decide ((s.chn (j:Int)).offer≠0)=false from decide_eq_false (fun q=>q h0)];rfl
 · rw [show decide ((s.chn (j:Int)).offer≠0)=true from decide_eq_true h0,decide_eq_false (h h0)];rfl
theorem QCt (s:Stt) (g:Int) (j:Nat):ZF s g j≤j:=by
 unfold ZF;exact Nat.le_trans (List.length_filter_le _ _) (by simp)
theorem QH3 (s:Stt) (j:Nat):s.gos.getD j default=s.gor (j:Int):=by simp only [Stt.gor,Int.toNat_natCast]
theorem QAN {s:Stt} {i:Nat} (hz:Y5 s i=true) (h:(s.gos.getD i default).status=2→(ZF s i 4:Int)=1):Y5 s (i+1)=true:=by
 rw [QH3] at h
 unfold Y5 at *
 rw [Y2,hz,Bool.true_and]
 by_cases hs:(s.gor (i:Int)).status=2
 · have:=h hs
   rw [decide_eq_true (show ZF s i 4=1 by omega),Bool.or_true]
 · rw [show decide ((s.gor (i:Int)).status≠2)=true from decide_eq_true hs];rfl
theorem QCS {s:Stt} {n i:Nat} (hi:i<n) (h:(s.gos.getD i default).status=2∧¬(ZF s i 4:Int)=1):Y5 s n=false:=by
 rw [QH3] at h
 refine Zg hi ?_
 rw [show decide ((s.gor (i:Int)).status≠2)=false from decide_eq_false (fun q=>q h.1),decide_eq_false (show ¬ZF s i 4=1 by omega)];rfl
structure Edge where
 from_:Int
 to_:Int
 go:Int
 event:Int
 deriving DecidableEq,Inhabited
def Edge.v (e:Edge):V:=.agg [.int e.from_,.int e.to_,.int e.go,.int e.event]
theorem Vh {α:Type} {n i:Nat} (h:i<n) (f:Nat→α) (d:α):((List.range n).map f).getD i d=f i:=by simp [List.getD_eq_getElem?_getD,h]
theorem zR {α:Type} {n i:Nat} (h:i<n) (f:Nat→α) (x:α):((List.range n).map f).set i x=(List.range n).map fun k=>if k=i then x else f k:=by
 apply List.ext_getElem?
 intro k
 by_cases hk:k<n
 · by_cases hki:k=i
   · subst hki;simp [hk]
   · rw [List.getElem?_set_ne (Ne.symm hki)];simp [hk,hki]
 · rw [List.getElem?_eq_none (by simp;omega),List.getElem?_eq_none (by simp;omega)]
theorem ZK (l:List Int) (i:Nat) (x:Int):(l.map V.int).set i (.int x)=(l.set i x).map V.int:=(List.map_set ..).symm
theorem VA (l:List Gor) (i:Nat) (x:Gor):(l.map Gor.v).set i x.v=(l.set i x).map Gor.v:=(List.map_set ..).symm
theorem Z5 (l:List Chn) (i:Nat) (x:Chn):(l.map Chn.v).set i x.v=(l.set i x).map Chn.v:=(List.map_set ..).symm
theorem Gor.put0 (g:Gor) (x:Int):V.setSub g.v 0 (.int x)=Gor.v ⟨x,g.func,g.pc,g.why,g.regs⟩:=rfl
theorem Gor.put1 (g:Gor) (x:Int):V.setSub g.v 1 (.int x)=Gor.v ⟨g.status,x,g.pc,g.why,g.regs⟩:=rfl
theorem Gor.put2 (g:Gor) (x:Int):V.setSub g.v 2 (.int x)=Gor.v ⟨g.status,g.func,x,g.why,g.regs⟩:=rfl
theorem Gor.put3 (g:Gor) (x:Int):V.setSub g.v 3 (.int x)=Gor.v ⟨g.status,g.func,g.pc,x,g.regs⟩:=rfl
theorem Gor.put4 (g:Gor) (x:List Int):V.setSub g.v 4 (.agg (x.map V.int))=Gor.v ⟨g.status,g.func,g.pc,g.why,x⟩:=rfl
theorem Chn.put0 (c:Chn) (x:List Int):V.setSub c.v 0 (.agg (x.map V.int))=Chn.v ⟨x,c.len,c.closed,c.offer,c.from_,c.val⟩:=rfl
theorem Chn.put1 (c:Chn) (x:Int):V.setSub c.v 1 (.int x)=Chn.v ⟨c.buf,x,c.closed,c.offer,c.from_,c.val⟩:=rfl
theorem Chn.put2 (c:Chn) (x:Bool):V.setSub c.v 2 (.bool x)=Chn.v ⟨c.buf,c.len,x,c.offer,c.from_,c.val⟩:=rfl
theorem Chn.put3 (c:Chn) (x:Int):V.setSub c.v 3 (.int x)=Chn.v ⟨c.buf,c.len,c.closed,x,c.from_,c.val⟩:=rfl
theorem Chn.put4 (c:Chn) (x:Int):V.setSub c.v 4 (.int x)=Chn.v ⟨c.buf,c.len,c.closed,c.offer,x,c.val⟩:=rfl
theorem Chn.put5 (c:Chn) (x:Int):V.setSub c.v 5 (.int x)=Chn.v ⟨c.buf,c.len,c.closed,c.offer,c.from_,x⟩:=rfl
theorem Stt.put0 (s:Stt) (x:List Int):V.setSub s.v 0 (.agg (x.map V.int))=Stt.v ⟨x,s.owner,s.chans,s.gos,s.count⟩:=rfl
theorem Stt.put1 (s:Stt) (x:List Int):V.setSub s.v 1 (.agg (x.map V.int))=Stt.v ⟨s.vars,x,s.chans,s.gos,s.count⟩:=rfl
theorem Stt.put2 (s:Stt) (x:List Chn):V.setSub s.v 2 (.agg (x.map Chn.v))=Stt.v ⟨s.vars,s.owner,x,s.gos,s.count⟩:=rfl
theorem Stt.put3 (s:Stt) (x:List Gor):V.setSub s.v 3 (.agg (x.map Gor.v))=Stt.v ⟨s.vars,s.owner,s.chans,x,s.count⟩:=rfl
theorem Stt.put4 (s:Stt) (x:Int):V.setSub s.v 4 (.int x)=Stt.v ⟨s.vars,s.owner,s.chans,s.gos,x⟩:=rfl
attribute [go_sem] ZK VA Z5 Gor.put0 Gor.put1 Gor.put2 Gor.put3 Gor.put4 Chn.put0 Chn.put1 Chn.put2 Chn.put3 Chn.put4 Chn.put5 Stt.put0 Stt.put1 Stt.put2 Stt.put3 Stt.put4
theorem QW {p:Prg} {f:Fnc} {i:Instr} (h:Qb p f i=0):(Qp i.op=true∨ZG i.op=true)∧∀ j:Nat,j<4→Qd p f (QS i j) (i.field j) i=0:=by
 unfold Qb at h
 split at h;· cases h
 rename_i h1
 split at h;· cases h
 refine ⟨?_,fun j hj=>?_⟩
 · cases h2:Qp i.op
   · right
     cases h3:ZG i.op
     · exact absurd ⟨h2,h3⟩ h1
     · rfl
   · exact .inl rfl
 · exact firstNZ_zero.1 h _ (List.mem_map.2 ⟨j,by simpa using hj,rfl⟩)
theorem within_iff {x n:Int}:Qk x n=true↔0≤x∧x<n:=by simp [Qk]
theorem Zk {p:Prg} {f:Fnc} {i:Instr} {l x:Int} (h:Qd p f l x i=0) (hl:l=114∨l=119):0≤x∧x<f.regs:=by
 unfold Qd at h
 rw [if_pos hl] at h
 split at h
 · rename_i hw;exact within_iff.1 hw
 · cases h
theorem xo {p:Prg} {f:Fnc} {i:Instr} {l x:Int} (h:Qd p f l x i=0) (hl:l=111):x = -1∨0≤x∧x<f.regs:=by
 subst hl
 unfold Qd at h
 rw [if_neg (by decide),if_pos rfl] at h
 split at h
 · cases h
 · rename_i hw
   rw [within_false] at hw
   omega
theorem QCs {p:Prg} {f:Fnc} {i:Instr} {l x:Int} (h:Qd p f l x i=0) (hl:l=116):0≤x∧x<(f.code.length:Int):=by
 subst hl
 unfold Qd at h
 rw [if_neg (by decide),if_neg (by decide),if_neg (by decide),if_neg (by decide),if_neg (by decide),if_neg (by decide),if_neg (by decide),if_neg (by decide),if_neg (by decide),if_pos rfl] at h
 split at h
 · rename_i hw;exact within_iff.1 hw
 · cases h
theorem QPJ {op:Int} (h1:1≤op) (h2:op≤15):ZC op=[114,114,45,45]:=by unfold ZC;rw [if_pos ⟨h1,h2⟩]
theorem QLh {op:Int} (h1:16≤op) (h2:op≤36):ZC op=[114,114,114,45]:=by unfold ZC;rw [if_neg (by omega),if_pos ⟨h1,h2⟩]
theorem QRF {p:Prg} {f:Fnc} {i:Instr} (h:Qb p f i=0) (h1:1≤i.op) (h2:i.op≤15):(0≤i.a∧i.a<f.regs)∧(0≤i.b∧i.b<f.regs):=by
 have:=(QW h).2
 exact ⟨Zk (this 0 (by decide)) (.inl (by simp [QS,QPJ h1 h2])),Zk (this 1 (by decide)) (.inl (by simp [QS,QPJ h1 h2]))⟩
theorem QNN {p:Prg} {f:Fnc} {i:Instr} (h:Qb p f i=0) (h1:16≤i.op) (h2:i.op≤36):(0≤i.a∧i.a<f.regs)∧(0≤i.b∧i.b<f.regs)∧(0≤i.c∧i.c<f.regs):=by
 have:=(QW h).2
 exact ⟨Zk (this 0 (by decide)) (.inl (by simp [QS,QLh h1 h2])),Zk (this 1 (by decide)) (.inl (by simp [QS,QLh h1 h2])),Zk (this 2 (by decide)) (.inl (by simp [QS,QLh h1 h2]))⟩
theorem QLW {p:Prg} {f:Fnc} {i:Instr} (h:Qb p f i=0) (h1:i.op=40):0≤i.a∧i.a<f.regs:=Zk ((QW h).2 0 (by decide)) (.inl (by simp [QS,ZC,h1]))
theorem QLV {p:Prg} {f:Fnc} {i:Instr} (h:Qb p f i=0) (h1:i.op=41):(0≤i.a∧i.a<f.regs)∧(0≤i.b∧i.b<f.regs) :=
 ⟨Zk ((QW h).2 0 (by decide)) (.inl (by simp [QS,ZC,h1])),Zk ((QW h).2 1 (by decide)) (.inl (by simp [QS,ZC,h1]))⟩
theorem QPI {p:Prg} {f:Fnc} {i:Instr} (h:Qb p f i=0) (h1:i.op=42):0≤i.a∧i.a<(f.code.length:Int):=QCs ((QW h).2 0 (by decide)) (by simp [QS,ZC,h1])
theorem QHz {p:Prg} {f:Fnc} {i:Instr} (h:Qb p f i=0) (h1:i.op=43):(0≤i.a∧i.a<f.regs)∧(0≤i.b∧i.b<(f.code.length:Int)) :=
 ⟨Zk ((QW h).2 0 (by decide)) (.inl (by simp [QS,ZC,h1])),QCs ((QW h).2 1 (by decide)) (by simp [QS,ZC,h1])⟩
theorem QPH {p:Prg} {f:Fnc} {i:Instr} (h:Qb p f i=0) (h1:i.op=44):0≤i.a∧i.a<f.regs:=Zk ((QW h).2 0 (by decide)) (.inl (by simp [QS,ZC,h1]))
structure gorIn (p:Prg) (g:Gor):Prop where
 f0:0≤g.func
 f1:g.func<p.funcs.length
 p0:0≤g.pc
 p1:g.pc<(p.funcs.getD g.func.toNat default).code.length
 regs:g.regs.length=8
abbrev Prg.instr (p:Prg) (g:Gor):Instr:=(p.funcs.getD g.func.toNat default).code.getD g.pc.toNat default
theorem Xg {p:Prg} (hok:p.Ok) {g:Gor} (hg:gorIn p g):Qb p (p.funcs.getD g.func.toNat default) (p.instr g)=0 :=
 hok.instr _ _ (by have:=hg.f0;have:=hg.f1;omega) (by have:=hg.p0;have:=hg.p1;omega)
theorem QEJ {p:Prg} (hok:p.Ok) {g:Gor} (hg:gorIn p g) (h:(p.instr g).op≠42∧(p.instr g).op≠45∧(p.instr g).op≠61):g.pc+1<(p.funcs.getD g.func.toNat default).code.length:=by
 have h1:=hg.p1
 have h0:=hg.p0
 by_cases hc:g.pc+1<(p.funcs.getD g.func.toNat default).code.length
 · exact hc
 · have hl:=hok.last g.func.toNat (by have:=hg.f0;have:=hg.f1;omega)
   have e:g.pc=((p.funcs.getD g.func.toNat default).code.length:Int)-1:=by omega
   unfold qS Fnc.at_ at hl
   rw [← e] at hl
   simp only [Bool.or_eq_true,decide_eq_true_eq] at hl
   rcases hl with (hl|hl)|hl
   · exact absurd hl h.1
   · exact absurd hl h.2.1
   · exact absurd hl h.2.2
section
variable (apply:Int→Int→Int→Int × Int) {p:Prg} {g:Gor}
theorem ls1 (h:(p.instr g).op≤15):Qi apply p g=(⟨g.status,g.func,g.pc+1,g.why,g.regs.set (p.instr g).a.toNat (apply (p.instr g).op (g.regs.getD (p.instr g).b.toNat 0) 0).1⟩,true):=if_pos h
theorem ls2 (h1:¬(p.instr g).op≤15) (h:(p.instr g).op≤36) (e1:¬(apply (p.instr g).op (g.regs.getD (p.instr g).b.toNat 0) (g.regs.getD (p.instr g).c.toNat 0)).2=20) (e2:¬(apply (p.instr g).op (g.regs.getD (p.instr g).b.toNat 0) (g.regs.getD (p.instr g).c.toNat 0)).2=21) :
 Qi apply p g=(⟨g.status,g.func,g.pc+1,g.why,g.regs.set (p.instr g).a.toNat (apply (p.instr g).op (g.regs.getD (p.instr g).b.toNat 0) (g.regs.getD (p.instr g).c.toNat 0)).1⟩,true) :=
 (if_neg h1).trans ((if_pos h).trans ((if_neg e1).trans (if_neg e2)))
theorem QNK (h1:¬(p.instr g).op≤15) (h:(p.instr g).op≤36) (e1:(apply (p.instr g).op (g.regs.getD (p.instr g).b.toNat 0) (g.regs.getD (p.instr g).c.toNat 0)).2=20):Qi apply p g=(ended g 4 2,false) :=
 (if_neg h1).trans ((if_pos h).trans (if_pos e1))
theorem QNL (h1:¬(p.instr g).op≤15) (h:(p.instr g).op≤36) (e1:¬(apply (p.instr g).op (g.regs.getD (p.instr g).b.toNat 0) (g.regs.getD (p.instr g).c.toNat 0)).2=20) (e2:(apply (p.instr g).op (g.regs.getD (p.instr g).b.toNat 0) (g.regs.getD (p.instr g).c.toNat 0)).2=21):Qi apply p g=(ended g 4 3,false) :=
 (if_neg h1).trans ((if_pos h).trans ((if_neg e1).trans (if_pos e2)))
theorem QNJ (h1:¬(p.instr g).op≤15) (h2:¬(p.instr g).op≤36) (h:(p.instr g).op=40):Qi apply p g=(⟨g.status,g.func,g.pc+1,g.why,g.regs.set (p.instr g).a.toNat (p.instr g).n⟩,true) :=
 (if_neg h1).trans ((if_neg h2).trans (if_pos h))
theorem QNI (h1:¬(p.instr g).op≤15) (h2:¬(p.instr g).op≤36) (h3:¬(p.instr g).op=40) (h:(p.instr g).op=41):Qi apply p g=(⟨g.status,g.func,g.pc+1,g.why,g.regs.set (p.instr g).a.toNat (g.regs.getD (p.instr g).b.toNat 0)⟩,true) :=
 (if_neg h1).trans ((if_neg h2).trans ((if_neg h3).trans (if_pos h)))
theorem QNH (h1:¬(p.instr g).op≤15) (h2:¬(p.instr g).op≤36) (h3:¬(p.instr g).op=40) (h4:¬(p.instr g).op=41) (h:(p.instr g).op=42):Qi apply p g=(⟨g.status,g.func,(p.instr g).a,g.why,g.regs⟩,true) :=
 (if_neg h1).trans ((if_neg h2).trans ((if_neg h3).trans ((if_neg h4).trans (if_pos h))))
theorem QNG (h1:¬(p.instr g).op≤15) (h2:¬(p.instr g).op≤36) (h3:¬(p.instr g).op=40) (h4:¬(p.instr g).op=41) (h5:¬(p.instr g).op=42) (h:(p.instr g).op=43) (e:¬g.regs.getD (p.instr g).a.toNat 0=0):Qi apply p g=(⟨g.status,g.func,(p.instr g).b,g.why,g.regs⟩,true):=by
 refine (if_neg h1).trans ((if_neg h2).trans ((if_neg h3).trans ((if_neg h4).trans ((if_neg h5).trans ((if_pos h).trans ?_)))))
 exact Prod.ext (if_pos e) rfl
theorem QHy (h1:¬(p.instr g).op≤15) (h2:¬(p.instr g).op≤36) (h3:¬(p.instr g).op=40) (h4:¬(p.instr g).op=41) (h5:¬(p.instr g).op=42) (h:(p.instr g).op=43) (e:g.regs.getD (p.instr g).a.toNat 0=0):Qi apply p g=(⟨g.status,g.func,g.pc+1,g.why,g.regs⟩,true):=by
 refine (if_neg h1).trans ((if_neg h2).trans ((if_neg h3).trans ((if_neg h4).trans ((if_neg h5).trans ((if_pos h).trans ?_)))))
 exact Prod.ext (if_neg (fun q=>q e)) rfl
theorem QNF (h1:¬(p.instr g).op≤15) (h2:¬(p.instr g).op≤36) (h3:¬(p.instr g).op=40) (h4:¬(p.instr g).op=41) (h5:¬(p.instr g).op=42) (h6:¬(p.instr g).op=43) (h:(p.instr g).op=44) (e:¬g.regs.getD (p.instr g).a.toNat 0=0):Qi apply p g=(⟨g.status,g.func,g.pc+1,g.why,g.regs⟩,true) :=
 (if_neg h1).trans ((if_neg h2).trans ((if_neg h3).trans ((if_neg h4).trans ((if_neg h5).trans ((if_neg h6).trans ((if_pos h).trans (if_neg e)))))))
theorem QHx (h1:¬(p.instr g).op≤15) (h2:¬(p.instr g).op≤36) (h3:¬(p.instr g).op=40) (h4:¬(p.instr g).op=41) (h5:¬(p.instr g).op=42) (h6:¬(p.instr g).op=43) (h:(p.instr g).op=44) (e:g.regs.getD (p.instr g).a.toNat 0=0):Qi apply p g=(ended g 4 1,false) :=
 (if_neg h1).trans ((if_neg h2).trans ((if_neg h3).trans ((if_neg h4).trans ((if_neg h5).trans ((if_neg h6).trans ((if_pos h).trans (if_pos e)))))))
theorem QNE (h1:¬(p.instr g).op≤15) (h2:¬(p.instr g).op≤36) (h3:¬(p.instr g).op=40) (h4:¬(p.instr g).op=41) (h5:¬(p.instr g).op=42) (h6:¬(p.instr g).op=43) (h:¬(p.instr g).op=44):Qi apply p g=(ended g 3 0,false) :=
 (if_neg h1).trans ((if_neg h2).trans ((if_neg h3).trans ((if_neg h4).trans ((if_neg h5).trans ((if_neg h6).trans (if_neg h))))))
theorem x8 (hg:gorIn p g) (s w:Int):gorIn p (ended g s w):=⟨hg.f0,hg.f1,hg.p0,hg.p1,rfl⟩
theorem UK {op:Int} (h:Qp op=true):(1≤op∧op≤36)∨(40≤op∧op≤45):=by simpa [Qp] using h
theorem Zs (hok:p.Ok) (hg:gorIn p g) (hl:Qp (p.instr g).op=true):gorIn p (Qi apply p g).1:=by
 have hr:=UK hl
 have hin:=Xg hok hg
 have next:∀ regs:List Int,regs.length=8→((p.instr g).op≠42∧(p.instr g).op≠45∧(p.instr g).op≠61)→gorIn p ⟨g.status,g.func,g.pc+1,g.why,regs⟩:=fun regs h8 ho =>
  ⟨hg.f0,hg.f1,by have:=hg.p0;show 0≤g.pc+1;omega,QEJ hok hg ho,h8⟩
 have h8:=hg.regs
 by_cases h1:(p.instr g).op≤15
 · rw [ls1 apply h1];exact next _ (by rw [List.length_set];exact h8) (by omega)
 by_cases h2:(p.instr g).op≤36
 · by_cases e1:(apply (p.instr g).op (g.regs.getD (p.instr g).b.toNat 0) (g.regs.getD (p.instr g).c.toNat 0)).2=20
   · rw [QNK apply h1 h2 e1];exact x8 hg _ _
   by_cases e2:(apply (p.instr g).op (g.regs.getD (p.instr g).b.toNat 0) (g.regs.getD (p.instr g).c.toNat 0)).2=21
   · rw [QNL apply h1 h2 e1 e2];exact x8 hg _ _
   · rw [ls2 apply h1 h2 e1 e2];exact next _ (by rw [List.length_set];exact h8) (by omega)
 by_cases h3:(p.instr g).op=40
 · rw [QNJ apply h1 h2 h3];exact next _ (by rw [List.length_set];exact h8) (by omega)
 by_cases h4:(p.instr g).op=41
 · rw [QNI apply h1 h2 h3 h4];exact next _ (by rw [List.length_set];exact h8) (by omega)
 by_cases h5:(p.instr g).op=42
 · rw [QNH apply h1 h2 h3 h4 h5]
   have:=QPI hin h5
   exact ⟨hg.f0,hg.f1,this.1,this.2,h8⟩
 by_cases h6:(p.instr g).op=43
 · by_cases e:g.regs.getD (p.instr g).a.toNat 0=0
   · rw [QHy apply h1 h2 h3 h4 h5 h6 e];exact next _ h8 (by omega)
   · rw [QNG apply h1 h2 h3 h4 h5 h6 e]
     have:=(QHz hin h6).2
     exact ⟨hg.f0,hg.f1,this.1,this.2,h8⟩
 by_cases h7:(p.instr g).op=44
 · by_cases e:g.regs.getD (p.instr g).a.toNat 0=0
   · rw [QHx apply h1 h2 h3 h4 h5 h6 h7 e];exact x8 hg _ _
   · rw [QNF apply h1 h2 h3 h4 h5 h6 h7 e];exact next _ h8 (by omega)
 · rw [QNE apply h1 h2 h3 h4 h5 h6 h7];exact x8 hg _ _
theorem XI {m:Nat} (h:Qp (p.instr g).op=false):Zr apply p m g=g:=by
 cases m with
 | zero=>exact if_neg (by rw [show ((p.fn g.func).at_ g.pc)=p.instr g from rfl,h];simp)
 | succ m=>exact if_neg (by rw [show ((p.fn g.func).at_ g.pc)=p.instr g from rfl,h];simp)
theorem Wy (h:Qp (p.instr g).op=true):Zr apply p 0 g=⟨5,g.func,g.pc,g.why,g.regs⟩:=if_pos h
theorem Q8 {m:Nat} (h:Qp (p.instr g).op=true):Zr apply p (m+1) g=if (Qi apply p g).2 then Zr apply p m (Qi apply p g).1 else (Qi apply p g).1:=if_pos h
end
theorem W8 {p:Prg} {s:Stt} (h:YI p s=true):QN p=true∧(1≤s.count∧s.count≤6)∧Yx p s 6=true∧VM p s 8=true∧YU p s 4=true∧XT p s 4=true∧Y5 s s.count.toNat=true:=by
 simp only [YI,Bool.and_eq_true,decide_eq_true_eq] at h
 exact ⟨h.1.1.1.1.1.1.1,⟨h.1.1.1.1.1.1.2,h.1.1.1.1.1.2⟩,h.1.1.1.1.2,h.1.1.1.2,h.1.1.2,h.1.2,h.2⟩
theorem QGo {p:Prg} {s:Stt} (hs:s.Shape) (h:Yx p s 6=true) {g:Int} (h0:0≤g) (h6:g<6) (hc:g<s.count):gorIn p (s.gos.getD g.toNat default):=by
 have:=QAE (yQ h h0 h6 hc)
 unfold qs at this
 exact ⟨this.1.1.1.2,this.1.1.2,this.1.2,this.2,hs.regs _ (Qj _ (by rw [hs.gos];omega))⟩
theorem zL (p:Prg):YE p 0=zeroStt.vars:=by simp [YE,zeroStt];rfl
theorem zM (p:Prg) {i:Nat} (h:i<8):(YE p i).set i (p.vars.getD i default).init=YE p (i+1):=by
 unfold YE
 rw [zR h]
 apply List.map_congr_left
 intro k hk
 by_cases h1:k=i
 · subst h1;simp
 · rw [if_neg h1]
   by_cases h2:k<i
   · rw [if_pos h2,if_pos (by omega)]
   · rw [if_neg h2,if_neg (by omega)]
theorem Vs {p:Prg} (hok:p.Ok):gorIn p zeroGor:=by
 have hs:=hok.sizes
 unfold Zz at hs
 exact ⟨by decide,by show (0:Int)<_;omega,by decide,by have:=hok.code 0 (by omega);show (0:Int)<_;exact_mod_cast this.1,by decide⟩
theorem zY {p:Prg} {f:Fnc} {i:Instr} {l x:Int} (h:Qd p f l x i=0) (hl:l=118∨l=97):0≤x∧x<(p.vars.length:Int):=by
 unfold Qd at h
 rw [if_neg (by omega),if_neg (by omega),if_neg (by omega)] at h
 split at h
 · split at h
   · rename_i hw;exact within_iff.1 hw
   · cases h
 · rw [if_pos (by omega)] at h
   split at h
   · rename_i hw;exact within_iff.1 hw
   · cases h
theorem QCr {p:Prg} {f:Fnc} {i:Instr} {l x:Int} (h:Qd p f l x i=0) (hl:l=108):0≤x∧x<p.locks:=by
 subst hl
 unfold Qd at h
 rw [if_neg (by decide),if_neg (by decide),if_neg (by decide),if_neg (by decide),if_neg (by decide),if_pos rfl] at h
 split at h
 · rename_i hw;exact within_iff.1 hw
 · cases h
theorem wb {p:Prg} {f:Fnc} {i:Instr} {l x:Int} (h:Qd p f l x i=0) (hl:l=99):0≤x∧x<(p.chans.length:Int):=by
 subst hl
 unfold Qd at h
 rw [if_neg (by decide),if_neg (by decide),if_neg (by decide),if_neg (by decide),if_neg (by decide),if_neg (by decide),if_pos rfl] at h
 split at h
 · rename_i hw;exact within_iff.1 hw
 · cases h
theorem QKo {p:Prg} {f:Fnc} {i:Instr} {l x:Int} (h:Qd p f l x i=0) (hl:l=115):0≤x∧x<(f.sels.length:Int):=by
 subst hl
 unfold Qd at h
 rw [if_neg (by decide),if_neg (by decide),if_neg (by decide),if_neg (by decide),if_neg (by decide),if_neg (by decide),if_neg (by decide),if_pos rfl] at h
 split at h
 · rename_i hw;exact within_iff.1 hw
 · cases h
theorem QKq {p:Prg} {f:Fnc} {i:Instr} {l x:Int} (h:Qd p f l x i=0) (hl:l=102):0≤x∧x<(p.funcs.length:Int):=by
 subst hl
 unfold Qd at h
 rw [if_neg (by decide),if_neg (by decide),if_neg (by decide),if_neg (by decide),if_neg (by decide),if_neg (by decide),if_neg (by decide),if_neg (by decide),if_pos rfl] at h
 split at h
 · rename_i hw;exact within_iff.1 hw
 · cases h
theorem QKp {p:Prg} {f:Fnc} {i:Instr} {l x:Int} (h:Qd p f l x i=0) (hl:l=112):((p.fn i.b).params=0→x=0)∧(0<(p.fn i.b).params→0≤x∧x≤w64 (f.regs-(p.fn i.b).params)):=by
 subst hl
 unfold Qd at h
 rw [if_neg (by decide),if_neg (by decide),if_pos rfl] at h
 split at h
 · cases h
 · rename_i hw
   constructor
   · intro h0
     by_cases hx:x=0
     · exact hx
     · exact absurd (.inl ⟨h0,hx⟩) hw
   · intro h0
     omega
section
variable {p:Prg} {f:Fnc} {i:Instr} (h:Qb p f i=0)
include h
theorem QCY (h1:i.op=50):(0≤i.a∧i.a<f.regs)∧(0≤i.b∧i.b<(p.vars.length:Int)):=⟨Zk ((QW h).2 0 (by decide)) (.inl (by simp [QS,ZC,h1])),zY ((QW h).2 1 (by decide)) (.inl (by simp [QS,ZC,h1]))⟩
theorem QCX (h1:i.op=51):(0≤i.a∧i.a<(p.vars.length:Int))∧(0≤i.b∧i.b<f.regs):=⟨zY ((QW h).2 0 (by decide)) (.inl (by simp [QS,ZC,h1])),Zk ((QW h).2 1 (by decide)) (.inl (by simp [QS,ZC,h1]))⟩
theorem QCW (h1:i.op=52):(i.a = -1∨0≤i.a∧i.a<f.regs)∧(0≤i.b∧i.b<(p.vars.length:Int))∧(0≤i.c∧i.c<f.regs):=⟨xo ((QW h).2 0 (by decide)) (by simp [QS,ZC,h1]),zY ((QW h).2 1 (by decide)) (.inr (by simp [QS,ZC,h1])),Zk ((QW h).2 2 (by decide)) (.inl (by simp [QS,ZC,h1]))⟩
theorem QCV (h1:i.op=53):(0≤i.a∧i.a<f.regs)∧(0≤i.b∧i.b<(p.vars.length:Int))∧(0≤i.c∧i.c<f.regs)∧(0≤i.n∧i.n<f.regs):=⟨Zk ((QW h).2 0 (by decide)) (.inl (by simp [QS,ZC,h1])),zY ((QW h).2 1 (by decide)) (.inr (by simp [QS,ZC,h1])),Zk ((QW h).2 2 (by decide)) (.inl (by simp [QS,ZC,h1])),Zk ((QW h).2 3 (by decide)) (.inr (by simp [QS,ZC,h1]))⟩
theorem QAP (h1:i.op=54):(0≤i.a∧i.a<(p.vars.length:Int))∧(0≤i.b∧i.b<f.regs):=⟨zY ((QW h).2 0 (by decide)) (.inr (by simp [QS,ZC,h1])),Zk ((QW h).2 1 (by decide)) (.inl (by simp [QS,ZC,h1]))⟩
theorem yd (h1:i.op=55∨i.op=56):0≤i.a∧i.a<p.locks:=QCr ((QW h).2 0 (by decide)) (by rcases h1 with h1|h1<;>simp [QS,ZC,h1])
theorem QCU (h1:i.op=57):(0≤i.a∧i.a<f.regs)∧(0≤i.b∧i.b<p.locks):=⟨Zk ((QW h).2 0 (by decide)) (.inl (by simp [QS,ZC,h1])),QCr ((QW h).2 1 (by decide)) (by simp [QS,ZC,h1])⟩
theorem Vm (h1:i.op=58):(0≤i.a∧i.a<(p.chans.length:Int))∧(0≤i.b∧i.b<f.regs):=⟨wb ((QW h).2 0 (by decide)) (by simp [QS,ZC,h1]),Zk ((QW h).2 1 (by decide)) (.inl (by simp [QS,ZC,h1]))⟩
theorem yc (h1:i.op=59):(i.a = -1∨0≤i.a∧i.a<f.regs)∧(0≤i.b∧i.b<(p.chans.length:Int))∧(i.c = -1∨0≤i.c∧i.c<f.regs):=⟨xo ((QW h).2 0 (by decide)) (by simp [QS,ZC,h1]),wb ((QW h).2 1 (by decide)) (by simp [QS,ZC,h1]),xo ((QW h).2 2 (by decide)) (by simp [QS,ZC,h1])⟩
theorem QCT (h1:i.op=60):0≤i.a∧i.a<(p.chans.length:Int):=wb ((QW h).2 0 (by decide)) (by simp [QS,ZC,h1])
theorem UB (h1:i.op=61):0≤i.a∧i.a<(f.sels.length:Int):=QKo ((QW h).2 0 (by decide)) (by simp [QS,ZC,h1])
theorem QHS (h1:i.op=62):(i.a = -1∨0≤i.a∧i.a<f.regs)∧(0≤i.b∧i.b<(p.funcs.length:Int))∧((p.fn i.b).params=0→i.c=0)∧(0<(p.fn i.b).params→0≤i.c∧i.c≤w64 (f.regs-(p.fn i.b).params)):=⟨xo ((QW h).2 0 (by decide)) (by simp [QS,ZC,h1]),QKq ((QW h).2 1 (by decide)) (by simp [QS,ZC,h1]),QKp ((QW h).2 2 (by decide)) (by simp [QS,ZC,h1])⟩
theorem w7 (h1:i.op=63∨i.op=65):0≤i.a∧i.a<f.regs:=Zk ((QW h).2 0 (by decide)) (.inl (by rcases h1 with h1|h1<;>simp [QS,ZC,h1]))
theorem QHg:1≤i.op∧i.op≤65:=by
 have:=(QW h).1
 simp [Qp,ZG] at this
 omega
end
structure Wf (p:Prg) (s:Stt):Prop where
 shape:s.Shape
 count:0≤s.count∧s.count≤6
 gos:∀ g:Int,0≤g→g<s.count→gorIn p (s.gos.getD g.toNat default)
 wait:∀ g:Int,0≤g→g<s.count→(s.gos.getD g.toNat default).status=2→(p.instr (s.gos.getD g.toNat default)).op=58
 chans:∀ i:Nat,0≤(s.chans.getD i default).len∧(s.chans.getD i default).len≤p.chans.getD i 0
abbrev qo (p:Prg) (s:Stt) (g:Int):Instr:=p.instr (s.gos.getD g.toNat default)
theorem qP {p:Prg} {s:Stt} {g k:Int} (h:QK p s g=k):((s.gos.getD g.toNat default).status=2∧k=66)∨(¬(s.gos.getD g.toNat default).status=2∧(qo p s g).op=k):=by
 unfold QK at h
 split at h
 · rename_i h1;exact .inl ⟨h1,h.symm⟩
 · rename_i h1;exact .inr ⟨h1,h⟩
theorem Wf.right {p:Prg} {s:Stt} (hok:p.Ok) (hw:Wf p s) {g:Int} (h0:0≤g) (hc:g<s.count):Qb p (p.funcs.getD (s.gos.getD g.toNat default).func.toNat default) (qo p s g)=0:=Xg hok (hw.gos g h0 hc)
theorem Wf.op_at {p:Prg} {s:Stt} (hok:p.Ok) (hw:Wf p s) {g k:Int} (h0:0≤g) (hc:g<s.count) (h:QK p s g=k) (hk:k≠66):(qo p s g).op=k:=by
 rcases qP h with h|h
 · exact absurd h.2 hk
 · exact h.2
theorem Wf.op66 {p:Prg} {s:Stt} (hok:p.Ok) (hw:Wf p s) {g:Int} (h0:0≤g) (hc:g<s.count) (h:QK p s g=66):(qo p s g).op=58:=by
 rcases qP h with h|h
 · exact hw.wait g h0 hc h.1
 · have:=QHg (hw.right hok h0 hc);omega
theorem live_iff {s:Stt} {g:Int}:YB s g=true↔(0≤g∧g<s.count)∧((s.gos.getD g.toNat default).status=1∨(s.gos.getD g.toNat default).status=2):=by
 unfold YB
 rw [Bool.and_eq_true,Bool.and_eq_true,Bool.or_eq_true,decide_eq_true_eq,decide_eq_true_eq,decide_eq_true_eq,decide_eq_true_eq]
 exact Iff.rfl
structure CasIn (p:Prg) (f:Fnc) (c:Cas):Prop where
 chan:0≤c.chan∧c.chan<(p.chans.length:Int)
 reg:(0≤c.reg∧c.reg<f.regs)∨(c.send=false∧c.reg = -1)
 cap:c.send=true→¬p.chans.getD c.chan.toNat 0=0
 to_:0≤c.to_∧c.to_<(f.code.length:Int)
theorem QHB {p:Prg} {f:Fnc} {c:Cas} (h:YH p f c=0):CasIn p f c:=by
 unfold YH at h
 split at h;· cases h
 rename_i h1
 split at h;· cases h
 rename_i h2
 split at h;· cases h
 rename_i h3
 split at h;· cases h
 rename_i h4
 rw [within_false] at h1 h4
 rw [within_false] at h2
 refine ⟨by omega,?_,fun q q2=>h3 ⟨q,q2⟩,by omega⟩
 by_cases hr:0≤c.reg∧c.reg<f.regs
 · exact .inl hr
 · right
   cases hs:c.send
   · exact ⟨rfl,by by_cases q:c.reg = -1;exact q;exact absurd ⟨by omega,.inr q⟩ h2⟩
   · exact absurd ⟨by omega,.inl hs⟩ h2
theorem Vb {p:Prg} (hok:p.Ok) {i j k:Nat} (hi:i<p.funcs.length) (hj:j<(p.funcs.getD i default).sels.length) (hk:k<((p.funcs.getD i default).sels.getD j default).cases.length) :
 CasIn p (p.funcs.getD i default) (((p.funcs.getD i default).sels.getD j default).cases.getD k default):=by
 have h:=hok.sels i j hi hj
 simp only [Vu] at h
 split at h
 · rename_i h1;exact absurd h h1
 · rename_i h1
   have h1:Xj p (p.funcs.getD i default) ((p.funcs.getD i default).sels.getD j default) ((p.funcs.getD i default).sels.getD j default).cases.length=0:=by simpa using h1
   unfold Xj at h1
   rw [List.take_length] at h1
   exact QHB (firstNZ_zero.1 h1 _ (List.mem_map.2 ⟨_,Qj _ hk,rfl⟩))
theorem QH9 {p:Prg} (hok:p.Ok) {i j:Nat} (hi:i<p.funcs.length) (hj:j<(p.funcs.getD i default).sels.length) :
 ((p.funcs.getD i default).sels.getD j default).els = -1∨0≤((p.funcs.getD i default).sels.getD j default).els∧((p.funcs.getD i default).sels.getD j default).els<((p.funcs.getD i default).code.length:Int):=by
 have h:=hok.sels i j hi hj
 simp only [Vu] at h
 split at h
 · rename_i h1;exact absurd h h1
 · split at h
   · cases h
   · rename_i h2
     rw [within_false] at h2
     omega
theorem WR (p:Prg) (s:Stt) (q:Sel) (n:Nat):(ZO p s q n).length≤n:=by
 unfold ZO;rw [List.length_map];exact Nat.le_trans (List.length_filter_le _ _) (by simp)
theorem vZ {p:Prg} {s:Stt} {q:Sel} {n:Nat} (h:XQ p s (q.cases.getD n default)=true):ZO p s q (n+1)=ZO p s q n++[(n:Int)]:=by
 unfold ZO
 rw [List.range_succ,List.filter_append,List.map_append]
 simp only [List.filter_cons,List.filter_nil,h,if_true,List.map_cons,List.map_nil]
theorem wH {p:Prg} {s:Stt} {q:Sel} {n:Nat} (h:XQ p s (q.cases.getD n default)=false):ZO p s q (n+1)=ZO p s q n:=by
 unfold ZO
 rw [List.range_succ,List.filter_append,List.map_append]
 simp only [List.filter_cons,List.filter_nil,h,Bool.false_eq_true,if_false,List.map_nil,List.append_nil]
theorem qL (p:Prg) (s:Stt) (n:Nat):YG p s (n+1)=YG p s n++(Qn p s n).map fun a=>⟨(n:Int),a⟩:=by
 unfold YG
 rw [List.range_succ,List.flatMap_append]
 simp
def ckV (p:Prg) (f:Fnc):V:=.agg [p.v,f.v]
theorem QVa (p:Prg) (f:Fnc) (d:V):(ckV p f).toList.getD 0 d=p.v:=rfl
theorem QVZ (p:Prg) (f:Fnc) (d:V):(ckV p f).toList.getD 1 d=f.v:=rfl
def YQ (e x n:Int):Int:=if Qk x n then 0 else e
theorem Y6 {e x n:Int} (h:YQ e x n=0) (he:e≠0):0≤x∧x<n:=by
 unfold YQ at h
 split at h
 · rename_i q;exact within_iff.1 q
 · exact absurd h he
theorem zb {e x n:Int} (h:YQ e x n≠0):Qk x n=false:=by
 unfold YQ at h
 split at h
 · exact absurd rfl h
 · rename_i q;simpa using q
theorem QJW:∀ n:Fin 66,((VU n.val).toList == (ByteArray.mk #[]).toList)=!(Qp n.val||ZG n.val):=by decide +kernel
theorem QGq (op:Int):((VU op).toList == (ByteArray.mk #[]).toList)=!(Qp op||ZG op):=by
 by_cases h:op<1∨65<op
 · have e:VU op=ByteArray.mk #[]:=by unfold VU;rw [xE h];rfl
   have h1:Qp op=false:=by
    unfold Qp
    rw [Bool.or_eq_false_iff,Bool.and_eq_false_iff,Bool.and_eq_false_iff]
    simp only [decide_eq_false_iff_not];omega
   have h2:ZG op=false:=by
    unfold ZG
    rw [Bool.and_eq_false_iff]
    simp only [decide_eq_false_iff_not];omega
   rw [e,h1,h2];simp
 · have:=QJW ⟨op.toNat,by omega⟩
   rwa [show ((⟨op.toNat,by omega⟩:Fin 66).val:Int)=op from by simp;omega] at this
theorem yL {e x n:Int} (h:YQ e x n≠0):YQ e x n=e:=by
 have:=zb h
 unfold YQ
 rw [this];rfl
section
variable {p:Prg} {f:Fnc} {c:Cas}
theorem QRY (h:YQ 36 c.chan p.chans.length≠0):YH p f c=YQ 36 c.chan p.chans.length:=by
 rw [yL h];exact QBn (within_false.1 (zb h))
theorem QRZ (h:YQ 36 c.chan p.chans.length=0) (h1:c.send=true∨¬c.reg = -1) (h2:YQ 35 c.reg f.regs≠0):YH p f c=YQ 35 c.reg f.regs:=by
 rw [yL h2];exact QBo (Y6 h (by decide)) ⟨within_false.1 (zb h2),h1⟩
theorem QBk (h2:(c.send=false∧c.reg = -1)∨YQ 35 c.reg f.regs=0):c.reg<0∨f.regs≤c.reg→c.send=false∧c.reg = -1:=by
 intro q
 rcases h2 with h2|h2
 · exact h2
 · have:=Y6 h2 (by decide);omega
theorem QRX (h:YQ 36 c.chan p.chans.length=0) (h2:(c.send=false∧c.reg = -1)∨YQ 35 c.reg f.regs=0) (h3:c.send=true∧p.chans.getD c.chan.toNat 0=0):YH p f c=37 :=
 QBm (Y6 h (by decide)) (QBk h2) h3
theorem QRW (h:YQ 36 c.chan p.chans.length=0) (h2:(c.send=false∧c.reg = -1)∨YQ 35 c.reg f.regs=0) (h3:c.send=true→¬p.chans.getD c.chan.toNat 0=0) (h4:YQ 38 c.to_ f.code.length≠0):YH p f c=YQ 38 c.to_ f.code.length:=by
 rw [yL h4];exact QBl (Y6 h (by decide)) (QBk h2) h3 (within_false.1 (zb h4))
theorem QTx (h:YQ 36 c.chan p.chans.length=0) (h2:(c.send=false∧c.reg = -1)∨YQ 35 c.reg f.regs=0) (h3:c.send=true→¬p.chans.getD c.chan.toNat 0=0) (h4:YQ 38 c.to_ f.code.length=0):YH p f c=0 :=
 QDQ (Y6 h (by decide)) (QBk h2) h3 (Y6 h4 (by decide))
end
def Uk (p:Prg):Int:=if 8<p.vars.length∨p.locks<0∨4<p.locks∨4<p.chans.length∨p.funcs.length<1∨8<p.funcs.length then 30 else if Z4 p p.chans.length=false then 31 else 0
theorem QIV {p:Prg} (h:Uk p≠0):Zh p=Uk p∧W9 p=(0,0):=by
 unfold Uk at *
 by_cases h1:8<p.vars.length∨p.locks<0∨4<p.locks∨4<p.chans.length∨p.funcs.length<1∨8<p.funcs.length
 · rw [if_pos h1];exact vY h1
 · rw [if_neg h1] at h ⊢
   by_cases h2:Z4 p p.chans.length=false
   · rw [if_pos h2];exact QBh h1 h2
   · rw [if_neg h2] at h;exact absurd rfl h
theorem QGF {p:Prg} (h:Uk p=0):Zz p∧Z4 p p.chans.length=true:=by
 unfold Uk at h
 by_cases h1:8<p.vars.length∨p.locks<0∨4<p.locks∨4<p.chans.length∨p.funcs.length<1∨8<p.funcs.length
 · rw [if_pos h1] at h;cases h
 · rw [if_neg h1] at h
   by_cases h2:Z4 p p.chans.length=false
   · rw [if_pos h2] at h;cases h
   · exact ⟨h1,by simpa using h2⟩
def WZ (m:Int) (f:Fnc):Int:=if Yz m f then 0 else 32
def Did.v (d:Did):V:=.agg [d.s.v,.int d.val,.int d.why,.int d.to_]
theorem Did.v0 (d:Did) (x:V):d.v.toList.getD 0 x=d.s.v:=rfl
theorem Did.v1 (d:Did) (x:V):d.v.toList.getD 1 x=.int d.val:=rfl
theorem Did.v2 (d:Did) (x:V):d.v.toList.getD 2 x=.int d.why:=rfl
theorem Did.v3 (d:Did) (x:V):d.v.toList.getD 3 x=.int d.to_:=rfl
theorem Did.put0 (d:Did) (x:Stt):V.setSub d.v 0 x.v=Did.v ⟨x,d.val,d.why,d.to_⟩:=rfl
theorem Did.put1 (d:Did) (x:Int):V.setSub d.v 1 (.int x)=Did.v ⟨d.s,x,d.why,d.to_⟩:=rfl
theorem Did.put2 (d:Did) (x:Int):V.setSub d.v 2 (.int x)=Did.v ⟨d.s,d.val,x,d.to_⟩:=rfl
theorem Did.put3 (d:Did) (x:Int):V.setSub d.v 3 (.int x)=Did.v ⟨d.s,d.val,d.why,x⟩:=rfl
attribute [go_sem] Did.v0 Did.v1 Did.v2 Did.v3 Did.put0 Did.put1 Did.put2 Did.put3
theorem QAo (b:List Int) {n i:Nat} (hi:i<b.length) (h:n≤i):(YF b n).getD i 0=b.getD i 0:=by
 unfold YF
 rw [Vh hi,if_neg (by omega)]
theorem Yg (b:List Int) (n:Nat):(YF b n).length=b.length:=by simp [YF]
theorem QJT (l:List Gor) (i:Nat) (x:Int):(l.map Gor.v).set i (V.setSub ((l.map Gor.v).getD i default) 0 (.int x))=(l.set i ⟨x,(l.getD i default).func,(l.getD i default).pc,(l.getD i default).why,(l.getD i default).regs⟩).map Gor.v:=by
 by_cases h:i<l.length
 · rw [Yf h,Gor.put0,VA]
 · rw [List.set_eq_of_length_le (by simpa using h),List.set_eq_of_length_le (by simpa using h)]
theorem QJS (l:List Gor) (i:Nat) (x:Int):(l.map Gor.v).set i (V.setSub ((l.map Gor.v).getD i default) 2 (.int x))=(l.set i ⟨(l.getD i default).status,(l.getD i default).func,x,(l.getD i default).why,(l.getD i default).regs⟩).map Gor.v:=by
 by_cases h:i<l.length
 · rw [Yf h,Gor.put2,VA]
 · rw [List.set_eq_of_length_le (by simpa using h),List.set_eq_of_length_le (by simpa using h)]
theorem QJR (l:List Gor) (i:Nat) (x:Int):(l.map Gor.v).set i (V.setSub ((l.map Gor.v).getD i default) 3 (.int x))=(l.set i ⟨(l.getD i default).status,(l.getD i default).func,(l.getD i default).pc,x,(l.getD i default).regs⟩).map Gor.v:=by
 by_cases h:i<l.length
 · rw [Yf h,Gor.put3,VA]
 · rw [List.set_eq_of_length_le (by simpa using h),List.set_eq_of_length_le (by simpa using h)]
theorem QJQ (l:List Gor) (i:Nat) (x:List Int):(l.map Gor.v).set i (V.setSub ((l.map Gor.v).getD i default) 4 (.agg (x.map V.int)))=(l.set i ⟨(l.getD i default).status,(l.getD i default).func,(l.getD i default).pc,(l.getD i default).why,x⟩).map Gor.v:=by
 by_cases h:i<l.length
 · rw [Yf h,Gor.put4,VA]
 · rw [List.set_eq_of_length_le (by simpa using h),List.set_eq_of_length_le (by simpa using h)]
theorem QJP (l:List Gor) (i r:Nat) (x:Int):(l.map Gor.v).set i (V.setSub ((l.map Gor.v).getD i default) 4 (V.setSub (((l.map Gor.v).getD i default).toList.getD 4 default) r (.int x)))=(l.set i ⟨(l.getD i default).status,(l.getD i default).func,(l.getD i default).pc,(l.getD i default).why,(l.getD i default).regs.set r x⟩).map Gor.v:=by
 by_cases h:i<l.length
 · rw [Yf h,Gor.v4,V.setSub_agg,ZK,Gor.put4,VA]
 · rw [List.set_eq_of_length_le (by simpa using h),List.set_eq_of_length_le (by simpa using h)]
attribute [go_sem] QJT QJS QJR QJQ QJP
theorem QAA {α:Type} {q:α→Prop} {l:List α} {x:α} (h:∀ y∈l,q y) (hx:q x) (n:Nat):∀ y∈l.set n x,q y:=by
 intro y hy
 rcases List.mem_or_eq_of_mem_set hy with h1|h1
 · exact h y h1
 · rw [h1];exact hx
theorem Ye {s:Stt} (hs:s.Shape) (c:Nat) {X:Chn} (hX:X.buf.length=4):Stt.Shape ⟨s.vars,s.owner,s.chans.set c X,s.gos,s.count⟩ :=
 ⟨hs.vars,hs.owner,by simpa using hs.chans,QAA hs.bufs hX c,hs.gos,hs.regs⟩
theorem Yr {s:Stt} (hs:s.Shape) (g:Nat) {X:Gor} (n:Int) (hX:X.regs.length=8):Stt.Shape ⟨s.vars,s.owner,s.chans,s.gos.set g X,n⟩ :=
 ⟨hs.vars,hs.owner,hs.chans,hs.bufs,by simpa using hs.gos,QAA hs.regs hX g⟩
theorem qH {s:Stt} (hs:s.Shape) (i:Nat) (x:Int):Stt.Shape ⟨s.vars.set i x,s.owner,s.chans,s.gos,s.count⟩ :=
 ⟨by simpa using hs.vars,hs.owner,hs.chans,hs.bufs,hs.gos,hs.regs⟩
theorem yC {s:Stt} (hs:s.Shape) (i:Nat) (x:Int):Stt.Shape ⟨s.vars,s.owner.set i x,s.chans,s.gos,s.count⟩ :=
 ⟨hs.vars,by simpa using hs.owner,hs.chans,hs.bufs,hs.gos,hs.regs⟩
theorem QBX {d:Did} {g:Int} {x:Instr} (h1:¬x.op=50) (h2:¬x.op=51) (h3:¬x.op=52) (h:x.op=53) :
 ZB d g x=if XY (decide (d.s.vars.getD x.b.toNat 0=(d.s.gos.getD g.toNat default).regs.getD x.c.toNat 0))=1
  then ⟨Stt.setReg ⟨d.s.vars.set x.b.toNat ((d.s.gos.getD g.toNat default).regs.getD x.n.toNat 0),d.s.owner,d.s.chans,d.s.gos,d.s.count⟩ g x.a (XY (decide (d.s.vars.getD x.b.toNat 0=(d.s.gos.getD g.toNat default).regs.getD x.c.toNat 0))),XY (decide (d.s.vars.getD x.b.toNat 0=(d.s.gos.getD g.toNat default).regs.getD x.c.toNat 0)),d.why,d.to_⟩
  else ⟨d.s.setReg g x.a (XY (decide (d.s.vars.getD x.b.toNat 0=(d.s.gos.getD g.toNat default).regs.getD x.c.toNat 0))),XY (decide (d.s.vars.getD x.b.toNat 0=(d.s.gos.getD g.toNat default).regs.getD x.c.toNat 0)),d.why,d.to_⟩:=by
 refine ((if_neg h1).trans ((if_neg h2).trans ((if_neg h3).trans (if_pos h)))).trans ?_
 by_cases hc:XY (decide (d.s.vars.getD x.b.toNat 0=(d.s.gos.getD g.toNat default).regs.getD x.c.toNat 0))=1
 · rw [if_pos hc]
   exact congrArg (fun s:Stt=>(⟨s.setReg g x.a _,_,d.why,d.to_⟩:Did)) (if_pos hc)
 · rw [if_neg hc]
   exact congrArg (fun s:Stt=>(⟨s.setReg g x.a _,_,d.why,d.to_⟩:Did)) (if_neg hc)
theorem QBW {d:Did} {g:Int} {x:Instr} (h1:¬x.op=50) (h2:¬x.op=51) (h3:¬x.op=52) (h4:¬x.op=53) (h5:¬x.op=54) (h6:¬x.op=55) (h7:¬x.op=56) (h:x.op=57) :
 ZB d g x=if XY (decide (d.s.owner.getD x.b.toNat 0=0))=1
  then ⟨Stt.setReg ⟨d.s.vars,d.s.owner.set x.b.toNat (g+1),d.s.chans,d.s.gos,d.s.count⟩ g x.a (XY (decide (d.s.owner.getD x.b.toNat 0=0))),XY (decide (d.s.owner.getD x.b.toNat 0=0)),d.why,d.to_⟩
  else ⟨d.s.setReg g x.a (XY (decide (d.s.owner.getD x.b.toNat 0=0))),XY (decide (d.s.owner.getD x.b.toNat 0=0)),d.why,d.to_⟩:=by
 refine ((if_neg h1).trans ((if_neg h2).trans ((if_neg h3).trans ((if_neg h4).trans ((if_neg h5).trans ((if_neg h6).trans ((if_neg h7).trans (if_pos h)))))))).trans ?_
 by_cases hc:XY (decide (d.s.owner.getD x.b.toNat 0=0))=1
 · rw [if_pos hc]
   exact congrArg (fun s:Stt=>(⟨s.setReg g x.a _,_,d.why,d.to_⟩:Did)) (if_pos hc)
 · rw [if_neg hc]
   exact congrArg (fun s:Stt=>(⟨s.setReg g x.a _,_,d.why,d.to_⟩:Did)) (if_neg hc)
theorem Zm {p:Prg} {s:Stt} {g alt:Int} (ha:alt∈Qn p s g):YB s g=true:=by
 unfold Qn at ha
 split at ha
 · assumption
 · cases ha
theorem V7 {p:Prg} {s:Stt} {g alt:Int} (ha:alt∈Qn p s g) (h:¬QK p s g=61):plain p s g=true∧alt=0:=by
 unfold Qn at ha
 rw [if_pos (Zm ha),if_neg h] at ha
 split at ha
 · rename_i hp;exact ⟨hp,by simpa using ha⟩
 · cases ha
theorem UT {p:Prg} {s:Stt} {q:Sel} {n:Nat} {a:Int} (h:a∈ZO p s q n):∃ k:Nat,a=k∧k<n∧XQ p s (q.cases.getD k default)=true:=by
 unfold ZO at h
 obtain ⟨k,hk,rfl⟩:=List.mem_map.1 h
 have:=List.mem_filter.1 hk
 exact ⟨k,rfl,by simpa using this.1,this.2⟩
theorem zw {p:Prg} {s:Stt} {g alt:Int} (ha:alt∈Qn p s g) (h:QK p s g=61):alt=((Qw p s g).cases.length:Int)∨∃ k:Nat,alt=k∧k<(Qw p s g).cases.length∧XQ p s ((Qw p s g).cases.getD k default)=true:=by
 unfold Qn at ha
 rw [if_pos (Zm ha),if_pos h] at ha
 simp only at ha
 split at ha
 · rcases List.mem_append.1 ha with h1|h1
   · exact .inr (UT h1)
   · exact .inl (by simpa using h1)
 · exact .inr (UT ha)
theorem y7 {p:Prg} {s:Stt} {g:Int} (h:QK p s g=58):plain p s g=Ys p s (QA p s g).a:=(if_neg (by omega)).trans ((if_neg (by omega)).trans (if_pos h))
theorem QU {α:Type} (l:List α) (i j:Nat) (x d:α):(l.set i x).getD j d=if i=j∧i<l.length then x else l.getD j d:=by
 by_cases h:i=j
 · subst h
   by_cases h2:i<l.length
   · rw [if_pos ⟨rfl,h2⟩];simp [List.getD_eq_getElem?_getD,h2]
   · rw [if_neg (fun q=>h2 q.2),List.set_eq_of_length_le (by omega)]
 · rw [if_neg (fun q=>h q.1)]
   simp [List.getD_eq_getElem?_getD,List.getElem?_set_ne h]
section
variable {p:Prg} {s:Stt} (hok:p.Ok) (hw:Wf p s)
include hw
theorem Wf.go (g:Int) {X:Gor} (hX:gorIn p X) (h2:X.status=2→(p.instr X).op=58):Wf p ⟨s.vars,s.owner,s.chans,s.gos.set g.toNat X,s.count⟩:=by
 refine ⟨Yr hw.shape _ _ hX.regs,hw.count,fun k h0 hc=>?_,fun k h0 hc=>?_,hw.chans⟩
 · show gorIn p ((s.gos.set g.toNat X).getD k.toNat default)
   rw [QU]
   split
   · exact hX
   · exact hw.gos k h0 hc
 · show ((s.gos.set g.toNat X).getD k.toNat default).status=2→(p.instr ((s.gos.set g.toNat X).getD k.toNat default)).op=58
   rw [QU]
   split
   · exact h2
   · exact hw.wait k h0 hc
theorem Wf.chn (c:Nat) {X:Chn} (hb:X.buf.length=4) (hl:0≤X.len∧X.len≤p.chans.getD c 0):Wf p ⟨s.vars,s.owner,s.chans.set c X,s.gos,s.count⟩:=by
 refine ⟨Ye hw.shape _ hb,hw.count,hw.gos,hw.wait,fun i=>?_⟩
 show 0≤((s.chans.set c X).getD i default).len∧((s.chans.set c X).getD i default).len≤_
 rw [QU]
 split
 · rename_i h;rw [← h.1];exact hl
 · exact hw.chans i
theorem Wf.var (i:Nat) (x:Int):Wf p ⟨s.vars.set i x,s.owner,s.chans,s.gos,s.count⟩:=⟨qH hw.shape _ _,hw.count,hw.gos,hw.wait,hw.chans⟩
theorem Wf.own (i:Nat) (x:Int):Wf p ⟨s.vars,s.owner.set i x,s.chans,s.gos,s.count⟩:=⟨yC hw.shape _ _,hw.count,hw.gos,hw.wait,hw.chans⟩
theorem Wf.reg {g:Int} (hg:0≤g∧g<s.count) (r v:Int):Wf p (s.setReg g r v):=by
 unfold Stt.setReg
 split
 · have h:=hw.gos g hg.1 hg.2
   exact hw.go g (X:={ s.gor g with regs:=(s.gor g).regs.set r.toNat v }) ⟨h.f0,h.f1,h.p0,h.p1,by show ((s.gor g).regs.set r.toNat v).length=8;rw [List.length_set];exact h.regs⟩ (fun q=>hw.wait g hg.1 hg.2 q)
 · exact hw
theorem Wf.buf (c:Nat):(s.chans.getD c default).buf.length=4∨4≤c:=by
 by_cases h:c<4
 · exact .inl (hw.shape.bufs _ (Qj _ (by rw [hw.shape.chans];exact h)))
 · exact .inr (by omega)
theorem Wf.status {g:Int} (hg:0≤g∧g<s.count) (v:Int) (h:v=2→(qo p s g).op=58):Wf p (s.setStatus g v):=by
 have h1:=hw.gos g hg.1 hg.2
 exact hw.go g (X:={ s.gor g with status:=v }) ⟨h1.f0,h1.f1,h1.p0,h1.p1,h1.regs⟩ h
end
theorem QO {q:Stt→Prop} {c:Prop} [Decidable c] {a b:Did} (h1:c→q a.s) (h2:¬c→q b.s):q (if c then a else b).s:=by
 by_cases h:c
 · rw [if_pos h];exact h1 h
 · rw [if_neg h];exact h2 h
theorem QAD {q:Stt→Prop} {c:Prop} [Decidable c] {a b:Stt} (h1:c→q a) (h2:¬c→q b):q (if c then a else b):=by
 by_cases h:c
 · rw [if_pos h];exact h1 h
 · rw [if_neg h];exact h2 h
theorem Ua (s:Stt) (g c:Int) (n:Nat):(Q7 s g c n).length=8:=by simp [Q7]
theorem wX {p:Prg} {s:Stt} {c:Int} (h:Ys p s c=true):(s.chans.getD c.toNat default).closed=false→0<p.chans.getD c.toNat 0→(s.chans.getD c.toNat default).len<p.chans.getD c.toNat 0:=by
 intro h1 h2
 have e:Ys p s c=decide ((s.chans.getD c.toNat default).len<p.chans.getD c.toNat 0):=(if_neg (fun q=>Bool.noConfusion (h1.symm.trans q))).trans (if_pos h2)
 rw [e] at h
 exact of_decide_eq_true h
theorem ZZ (s:Stt) (g r v:Int):(s.setReg g r v).count=s.count:=by unfold Stt.setReg;split<;>rfl
theorem qI (s:Stt) (g r v:Int):(s.setReg g r v).owner=s.owner:=by unfold Stt.setReg;split<;>rfl
structure Same (s t:Stt):Prop where
 count:t.count=s.count
 owner:t.owner=s.owner
theorem VG (p:Prg) (d:Did) (g c v:Int):Same d.s (YD p d g c v).s:=by
 unfold YD
 exact QO (q:=Same d.s) (fun _=>⟨rfl,rfl⟩) (fun _=>QO (q:=Same d.s) (fun _=>⟨rfl,rfl⟩) (fun _=>⟨rfl,rfl⟩))
theorem VH (d:Did) (g c r ok:Int):Same d.s (YX d g c r ok).s:=by
 have two:∀ (X:Stt) (x y:Int),X.count=d.s.count→X.owner=d.s.owner→Same d.s ((X.setReg g r x).setReg g ok y):=fun X x y h1 h2=>⟨by rw [ZZ,ZZ,h1],by rw [qI,qI,h2]⟩
 unfold YX
 exact QO (q:=Same d.s) (fun _=>two _ _ _ rfl rfl) (fun _=>QO (q:=Same d.s) (fun _=>two _ _ _ rfl rfl) (fun _=>two _ _ _ rfl rfl))
theorem qb (d:Did) (c:Int):Same d.s (Zu d c).s:=by
 unfold Zu
 exact QO (q:=Same d.s) (fun _=>⟨rfl,rfl⟩) (fun _=>QO (q:=Same d.s) (fun _=>⟨rfl,rfl⟩) (fun _=>⟨rfl,rfl⟩))
theorem qa (d:Did) (g:Int) (x:Instr):(ZB d g x).s.count=d.s.count:=by
 unfold ZB
 refine QO (q:=fun t=>t.count=d.s.count) (fun _=>ZZ _ _ _ _) (fun _=>?_)
 refine QO (q:=fun t=>t.count=d.s.count) (fun _=>rfl) (fun _=>?_)
 refine QO (q:=fun t=>t.count=d.s.count) (fun _=>ZZ _ _ _ _) (fun _=>?_)
 refine QO (q:=fun t=>t.count=d.s.count) (fun _=>(ZZ _ _ _ _).trans (QAD (q:=fun t=>t.count=d.s.count) (fun _=>rfl) (fun _=>rfl))) (fun _=>?_)
 refine QO (q:=fun t=>t.count=d.s.count) (fun _=>rfl) (fun _=>?_)
 refine QO (q:=fun t=>t.count=d.s.count) (fun _=>rfl) (fun _=>?_)
 refine QO (q:=fun t=>t.count=d.s.count) (fun _=>QO (q:=fun t=>t.count=d.s.count) (fun _=>rfl) (fun _=>rfl)) (fun _=>?_)
 refine QO (q:=fun t=>t.count=d.s.count) (fun _=>(ZZ _ _ _ _).trans (QAD (q:=fun t=>t.count=d.s.count) (fun _=>rfl) (fun _=>rfl))) (fun _=>rfl)
theorem QEY (p:Prg) (d:Did) (g:Int) (x:Instr):d.s.count≤(Zo p d g x).s.count∧(Zo p d g x).s.owner=d.s.owner:=by
 unfold Zo
 refine QO (q:=fun t=>d.s.count≤t.count∧t.owner=d.s.owner) (fun _=>⟨Int.le_refl _,rfl⟩) (fun _=>⟨?_,(qI _ _ _ _)⟩)
 show d.s.count≤(Stt.setReg _ _ _ _).count
 rw [ZZ]
 show d.s.count≤d.s.count+1
 omega
theorem QDh {q:Stt→Prop} {p:Prg} {s:Stt} {g alt:Int} (h1:q s) (h2:∀ t,Same s t→q t) (h3:q (Zo p ⟨s,0,0,(s.gor g).pc+1⟩ g (QA p s g)).s)
 (h4:¬QK p s g=66→(QA p s g).op≠58→q (ZB ⟨s,0,0,(s.gor g).pc+1⟩ g (QA p s g)).s):q (QG p s g alt).s:=by
 unfold QG
 refine QO (q:=q) (fun _=>h2 _ ⟨rfl,rfl⟩) (fun h66=>?_)
 have e:QK p s g=(QA p s g).op:=by
  unfold QK at h66 ⊢
  by_cases hs:(s.gor g).status=2
  · rw [if_pos hs] at h66;exact absurd rfl h66
  · rw [if_neg hs]
 refine QO (q:=q) (fun _=>h2 _ (VG p (⟨s,0,0,(s.gor g).pc+1⟩:Did) _ _ _)) (fun h58=>?_)
 refine QO (q:=q) (fun _=>h2 _ (VH (⟨s,0,0,(s.gor g).pc+1⟩:Did) _ _ _ _)) (fun _=>?_)
 refine QO (q:=q) (fun _=>h2 _ (qb (⟨s,0,0,(s.gor g).pc+1⟩:Did) _)) (fun _=>?_)
 refine QO (q:=q) (fun _=>h3) (fun _=>?_)
 refine QO (q:=q) (fun _=>QO (q:=q) (fun _=>h1) (fun _=>h1)) (fun _=>?_)
 refine QO (q:=q) (fun _=>h1) (fun _=>?_)
 refine QO (q:=q) (fun _=>?_) (fun _=>h4 h66 (by rw [← e];exact h58))
 refine QO (q:=q) (fun _=>h1) (fun _=>?_)
 exact QO (q:=q) (fun _=>h2 _ (VG p ⟨s,0,0,((Qw p s g).cases.getD alt.toNat default).to_⟩ _ _ _)) (fun _=>h2 _ (VH ⟨s,0,0,((Qw p s g).cases.getD alt.toNat default).to_⟩ _ _ _ _))
theorem UX (p:Prg) (s:Stt) (g alt:Int):s.count≤(QG p s g alt).s.count :=
 QDh (q:=fun t=>s.count≤t.count) (Int.le_refl _) (fun t h=>by rw [h.count];exact Int.le_refl _) (QEY _ _ _ _).1 (fun _ _=>by rw [qa];exact Int.le_refl _)
theorem xR {p:Prg} (hok:p.Ok):Wf p zeroStt :=
 ⟨⟨rfl,rfl,rfl,by decide,rfl,by decide⟩,⟨by decide,by decide⟩,fun g h0 hc=>absurd hc (by show ¬g<0;omega),fun g h0 hc=>absurd hc (by show ¬g<0;omega),fun i=>by
   have h:=(hok.caps i).1
   have e:(zeroStt.chans.getD i default).len=0:=by
    by_cases hi:i<4
    · rcases (show i=0∨i=1∨i=2∨i=3 by omega) with rfl|rfl|rfl|rfl<;>rfl
    · rw [List.getD_eq_getElem?_getD,List.getElem?_eq_none (by show 4≤i;omega)];rfl
   rw [e];exact ⟨Int.le_refl 0,h⟩⟩
theorem wG {p:Prg} {s:Stt} (h:XT p s 4=true) {i:Nat} (hi:i<4):(i<p.chans.length→Wv p s i=true)∧(p.chans.length≤i→s.chans.getD i default=zeroChn):=by
 have:=List.all_eq_true.1 h i (List.mem_range.2 hi)
 constructor
 · intro q;rw [if_pos q] at this;exact this
 · intro q;rw [if_neg (by omega)] at this
   have:=of_decide_eq_true this
   simpa [Stt.chn] using this
theorem QEt {p:Prg} (hok:p.Ok) {s:Stt} (hs:s.Shape) (h:YI p s=true):Wf p s:=by
 obtain ⟨_,hc,hg,_,_,hch,hwt⟩:=W8 h
 refine ⟨hs,⟨by omega,hc.2⟩,fun g h0 h1=>QGo hs hg h0 (by omega) h1,fun g h0 h1 h2=>?_,fun i=>?_⟩
 · have h3:=List.all_eq_true.1 hwt g.toNat (List.mem_range.2 (by omega))
   rw [Bool.or_eq_true,decide_eq_true_eq,decide_eq_true_eq] at h3
   have e:((g.toNat:Nat):Int)=g:=by omega
   have h3:ZF s g 4=1:=by
    rcases h3 with h3|h3
    · exact absurd (by simpa [Stt.gor,e] using h2) h3
    · rw [e] at h3;exact h3
   unfold ZF at h3
   obtain ⟨i,hi⟩:=List.exists_mem_of_length_pos (l:=(List.range 4).filter fun (i:Nat)=>decide ((s.chn i).offer≠0)&&decide ((s.chn i).from_=g)) (by omega)
   have hm:=List.mem_filter.1 hi
   have hi4:i<4:=List.mem_range.1 hm.1
   have hoff:(s.chans.getD i default).offer≠0∧(s.chans.getD i default).from_=g:=by
    have:=hm.2
    rw [Bool.and_eq_true,decide_eq_true_eq,decide_eq_true_eq] at this
    simpa [Stt.chn] using this
   have hca:=wG hch hi4
   by_cases hlt:i<p.chans.length
   · have hx:=hca.1 hlt
     unfold Wv at hx
     simp only at hx
     split at hx
     · cases hx
     split at hx
     · cases hx
     rw [if_neg (by show ¬(s.chn i).offer=0;simpa [Stt.chn] using hoff.1)] at hx
     split at hx
     · cases hx
     split at hx
     · cases hx
     rw [Bool.and_eq_true,decide_eq_true_eq] at hx
     have e2:(s.chn (i:Int)).from_=g:=by simpa [Stt.chn] using hoff.2
     rw [e2] at hx
     exact hx.1
   · rw [hca.2 (by omega)] at hoff
     exact absurd rfl hoff.1
 · have h0:=(hok.caps i).1
   by_cases hi:i<4
   · have hca:=wG hch hi
     by_cases hlt:i<p.chans.length
     · have hx:=hca.1 hlt
       unfold Wv at hx
       simp only at hx
       split at hx
       · cases hx
       · rename_i hn
         have e2:s.chn (i:Int)=s.chans.getD i default:=by simp [Stt.chn]
         have e3:p.cap (i:Int)=p.chans.getD i 0:=by simp [Prg.cap]
         rw [e2,e3] at hn
         omega
     · rw [hca.2 (by omega)];exact ⟨Int.le_refl 0,h0⟩
   · rw [show s.chans.getD i default=default by rw [List.getD_eq_getElem?_getD,List.getElem?_eq_none (by rw [hs.chans];omega)];rfl]
     exact ⟨Int.le_refl 0,h0⟩
section
variable (apply:Int→Int→Int→Int × Int)
theorem VW (p:Prg) (fuel:Int) (s:Stt) (l:List Pck):QP apply p fuel s l 0=s:=by simp [QP,vH]
theorem YK (p:Prg) (fuel:Int) (s:Stt) (l:List Pck) {i:Nat} (h:i<l.length):QP apply p fuel s l (i+1)=(YO apply p (QP apply p fuel s l i) (l.getD i default) fuel).1:=by
 unfold QP vH
 rw [List.take_succ_eq_append_getElem h,List.foldl_append]
 simp [List.getD_eq_getElem?_getD,h]
theorem yk (p:Prg) (fuel:Int) (s:Stt) (l:List Pck) (i:Nat):Z7 apply p fuel s l (i+1)=Z7 apply p fuel s l i++[Qy apply p fuel s l i]:=by
 unfold Z7;rw [List.range_succ,List.map_append];simp
theorem Yk (p:Prg) (fuel:Int) (s:Stt) (l:List Pck) (i:Nat):(Z7 apply p fuel s l i).length=i:=by simp [Z7]
theorem QCd {p:Prg} {fuel:Int} {s:Stt} {l:List Pck} {i:Nat} (hi:i<l.length) (hb:Z6 apply p fuel s l i=false) (h:∀ k,k<i→Z6 apply p fuel s l k=true):ZY apply p fuel s l=i:=by
 unfold ZY
 rw [List.findIdx_eq (by simpa using hi)]
 refine ⟨by simp [hb],fun j hj=>?_⟩
 simp [h j hj]
theorem qF {p:Prg} {fuel:Int} {s:Stt} {l:List Pck} (h:∀ k,k<l.length→Z6 apply p fuel s l k=true):ZY apply p fuel s l=l.length:=by
 unfold ZY
 have e:∀ x∈List.range l.length,(!Z6 apply p fuel s l x)=false:=by
  intro x hx;rw [h x (List.mem_range.1 hx)];rfl
 rw [List.findIdx_eq_length.2 e]
 simp
theorem Uo (p:Prg) (fuel:Int) (s:Stt) (l:List Pck):ZY apply p fuel s l≤l.length:=by
 unfold ZY
 have:=List.findIdx_le_length (xs:=List.range l.length) (p:=fun j=>!Z6 apply p fuel s l j)
 simpa using this
theorem QCc {p:Prg} {fuel:Int} {s:Stt} {l:List Pck} {i:Nat} (hi:i<ZY apply p fuel s l):Z6 apply p fuel s l i=true:=by
 have hl:i<(List.range l.length).length:=by have:=Uo apply p fuel s l;simp;omega
 have:=List.not_of_lt_findIdx (xs:=List.range l.length) (p:=fun j=>!Z6 apply p fuel s l j) hi
 simpa using this
end
structure GorP (p:Prg) (g:Gor):Prop where
 st:1≤g.status∧g.status≤5
 inn:gorIn p g
 zero:∀ k:Nat,U1 p g≤k→k<8→g.regs.getD k 0=0
 fail:g.status=4→ZV (p.instr g).op g.why=true
 why:g.status≠4→g.why=0
 done:g.status=3→(p.instr g).op=45
 spun:g.status=5→Qp (p.instr g).op=true
theorem GorP.of {p:Prg} {g:Gor} (h8:g.regs.length=8) (h:U0 p g=true):GorP p g:=by
 have hr:=QAE h
 rw [VE hr] at h
 have hr':=hr;unfold qs at hr'
 split at h;· cases h
 rename_i hz
 have hz:Uu g (U1 p g) 8=true:=by simpa using hz
 have hz':∀ k:Nat,U1 p g≤k→k<8→g.regs.getD k 0=0:=by
  intro k h1 h2
  have:=List.all_eq_true.1 hz k (List.mem_range.2 h2)
  simp only [Bool.or_eq_true,decide_eq_true_eq] at this
  omega
 have hin:gorIn p g:=⟨by omega,by omega,by omega,by omega,h8⟩
 split at h
 · rename_i h4
   exact ⟨by omega,hin,hz',fun _=>h,fun q=>absurd h4 q,fun q=>by omega,fun q=>by omega⟩
 · rename_i h4
   simp only [Bool.and_eq_true,Bool.or_eq_true,decide_eq_true_eq] at h
   exact ⟨by omega,hin,hz',fun q=>absurd q h4,fun _=>h.1.1,fun q=>h.1.2.resolve_left (fun w=>w q),fun q=>h.2.resolve_left (fun w=>w q)⟩
theorem GorP.ok {p:Prg} {g:Gor} (h:GorP p g):U0 p g=true:=by
 have hr:qs p g:=by
  have h1:=h.inn.f0;have h2:=h.inn.f1;have h3:=h.inn.p0;have h4:=h.inn.p1;have h5:=h.st
  unfold qs;omega
 rw [VE hr,if_neg (by rw [Ut (fun k h1 h2=>h.zero k h1 (by omega))];simp)]
 split
 · rename_i h4;exact h.fail h4
 · rename_i h4
   simp only [Bool.and_eq_true,Bool.or_eq_true,decide_eq_true_eq]
   refine ⟨⟨h.why h4,?_⟩,?_⟩
   · by_cases q:g.status=3
     · exact .inr (h.done q)
     · exact .inl q
   · by_cases q:g.status=5
     · exact .inr (h.spun q)
     · exact .inl q
def Waits (p:Prg) (gos:List Gor) (g i:Nat):Prop:=(gos.getD g default).status=2∧(p.instr (gos.getD g default)).op=58∧(p.instr (gos.getD g default)).a=(i:Int)
structure ChnP (p:Prg) (gos:List Gor) (count:Int) (i:Nat) (x:Chn):Prop where
 len:0≤x.len∧x.len≤p.chans.getD i 0
 off:0≤x.offer∧x.offer≤3
 cap:p.chans.getD i 0≠0→x.offer=0
 buf:∀ k:Nat,x.len≤k→k<4→x.buf.getD k 0=0
 none:x.offer=0→x.from_=0∧x.val=0
 val:x.offer≠0→x.offer≠1→x.val=0
 open_:x.offer=1→x.closed=false
 lost:x.offer=3→x.closed=true
 from_:x.offer≠0→(0≤x.from_∧x.from_<count)∧Waits p gos x.from_.toNat i
theorem ChnP.of {p:Prg} {s:Stt} {i:Nat} (h:Wv p s i=true):ChnP p s.gos s.count i (s.chans.getD i default):=by
 rw [Y0] at h
 simp only [Int.toNat_natCast] at h
 split at h;· cases h
 rename_i h1
 split at h;· cases h
 rename_i h2
 have h2:qf (s.chans.getD i default) 4=true:=by simpa using h2
 have hb:∀ k:Nat,(s.chans.getD i default).len≤k→k<4→(s.chans.getD i default).buf.getD k 0=0:=by
  intro k q1 q2
  have:=List.all_eq_true.1 h2 k (List.mem_range.2 q2)
  simp only [Bool.or_eq_true,decide_eq_true_eq] at this
  omega
 split at h
 · rename_i h3
   simp only [Bool.and_eq_true,decide_eq_true_eq] at h
   exact ⟨by omega,by omega,fun _=>h3,hb,fun _=>h,fun q=>absurd h3 q,fun q=>by omega,fun q=>by omega,fun q=>absurd h3 q⟩
 · rename_i h3
   split at h;· cases h
   rename_i h4
   split at h;· cases h
   rename_i h5
   simp only [Bool.and_eq_true,decide_eq_true_eq] at h
   have h6:(s.gos.getD (s.chans.getD i default).from_.toNat default).status=2:=by
    by_cases q:(s.gos.getD (s.chans.getD i default).from_.toNat default).status=2
    · exact q
    · exact absurd (.inr (.inr q)) h5
   refine ⟨by omega,by omega,fun q=>?_,hb,fun q=>absurd q h3,fun _ q2=>?_,fun q=>?_,fun q=>?_,fun _=>⟨by omega,h6,h.1,h.2⟩⟩
   · by_cases q2:(s.chans.getD i default).offer=0
     · exact q2
     · exact absurd (.inr (.inr (.inr (.inr ⟨q,q2⟩)))) h1
   · by_cases w:(s.chans.getD i default).val=0
     · exact w
     · exact absurd (.inl ⟨q2,w⟩) h4
   · cases w:(s.chans.getD i default).closed
     · rfl
     · exact absurd (.inr (.inl ⟨q,w⟩)) h4
   · cases w:(s.chans.getD i default).closed
     · exact absurd (.inr (.inr ⟨q,w⟩)) h4
     · rfl
theorem ChnP.ok {p:Prg} {s:Stt} {i:Nat} (h:ChnP p s.gos s.count i (s.chans.getD i default)):Wv p s i=true:=by
 rw [Y0]
 simp only [Int.toNat_natCast]
 have h1:=h.len;have h2:=h.off
 rw [if_neg (by
  rintro (q|q|q|q|⟨q,q2⟩)
  · omega
  · omega
  · omega
  · omega
  · exact q2 (h.cap q))]
 rw [Wg (fun k q1 q2=>h.buf k q1 (by omega)),if_neg (by simp)]
 split
 · rename_i h3
   simp only [Bool.and_eq_true,decide_eq_true_eq]
   exact h.none h3
 · rename_i h3
   rw [if_neg (by
    rintro (⟨q1,q2⟩|⟨q1,q2⟩|⟨q1,q2⟩)
    · exact q2 (h.val h3 q1)
    · rw [h.open_ q1] at q2;cases q2
    · rw [h.lost q1] at q2;cases q2)]
   obtain ⟨⟨f0,f1⟩,w1,w2,w3⟩:=h.from_ h3
   rw [if_neg (by
    rintro (q|q|q)
    · omega
    · omega
    · exact q w1)]
   simp only [Bool.and_eq_true,decide_eq_true_eq]
   exact ⟨w2,w3⟩
structure Vld (p:Prg) (s:Stt):Prop where
 shape:s.Shape
 count:1≤s.count∧s.count≤6
 gos:∀ i:Nat,(i:Int)<s.count→GorP p (s.gos.getD i default)
 rest:∀ i:Nat,i<6→s.count≤(i:Int)→s.gos.getD i default=zeroGor
 vars:∀ i:Nat,p.vars.length≤i→i<8→s.vars.getD i 0=0
 own:∀ i:Nat,i<4→(0≤s.owner.getD i 0∧s.owner.getD i 0≤s.count)∧(p.locks≤(i:Int)→s.owner.getD i 0=0)
 chans:∀ i:Nat,i<p.chans.length→ChnP p s.gos s.count i (s.chans.getD i default)
 rchans:∀ i:Nat,i<4→p.chans.length≤i→s.chans.getD i default=zeroChn
 waits:∀ g:Nat,(g:Int)<s.count→(s.gos.getD g default).status=2→∃ c:Nat,c<p.chans.length∧(s.chans.getD c default).offer≠0∧(s.chans.getD c default).from_=(g:Int)
theorem Prg.Ok.four {p:Prg} (h:p.Ok):p.chans.length≤4:=by have:=h.sizes;unfold Zz at this;omega
theorem Prg.Ok.eight {p:Prg} (h:p.Ok):p.vars.length≤8:=by have:=h.sizes;unfold Zz at this;omega
theorem Vld.of {p:Prg} (hok:p.Ok) {s:Stt} (hs:s.Shape) (h:YI p s=true):Vld p s:=by
 obtain ⟨_,hc,hg,hv,ho,hch,hwt⟩:=W8 h
 have h4:=hok.four
 have rch:∀ i:Nat,i<4→p.chans.length≤i→s.chans.getD i default=zeroChn:=fun i h1 h2=>(wG hch h1).2 h2
 have chs:∀ i:Nat,i<p.chans.length→ChnP p s.gos s.count i (s.chans.getD i default):=fun i hi=>ChnP.of ((wG hch (by omega)).1 hi)
 refine ⟨hs,hc,fun i hi=>?_,fun i h6 hi=>?_,fun i h1 h2=>?_,fun i hi=>?_,chs,rch,fun g hg2 h2=>?_⟩
 · have:=yQ hg (i:=(i:Int)) (by omega) (by omega) hi
   rw [Int.toNat_natCast] at this
   exact GorP.of (hs.regs _ (Qj _ (by rw [hs.gos];omega))) this
 · have:=List.all_eq_true.1 hg i (List.mem_range.2 h6)
   rw [if_neg (by omega)] at this
   have:=of_decide_eq_true this
   simpa [Stt.gor] using this
 · have:=List.all_eq_true.1 hv i (List.mem_range.2 h2)
   simp only [Bool.or_eq_true,decide_eq_true_eq] at this
   omega
 · exact own_at.1 (List.all_eq_true.1 ho i (List.mem_range.2 hi))
 · have h3:=List.all_eq_true.1 hwt g (List.mem_range.2 (by omega))
   rw [Bool.or_eq_true,decide_eq_true_eq,decide_eq_true_eq] at h3
   have h3:ZF s (g:Int) 4=1:=by
    rcases h3 with h3|h3
    · exact absurd (by simpa [Stt.gor] using h2) h3
    · exact h3
   unfold ZF at h3
   obtain ⟨i,hi⟩:=List.exists_mem_of_length_pos (l:=(List.range 4).filter fun (i:Nat)=>decide ((s.chn i).offer≠0)&&decide ((s.chn i).from_=(g:Int))) (by omega)
   have hm:=List.mem_filter.1 hi
   have hi4:i<4:=List.mem_range.1 hm.1
   have hoff:(s.chans.getD i default).offer≠0∧(s.chans.getD i default).from_=(g:Int):=by
    have:=hm.2
    rw [Bool.and_eq_true,decide_eq_true_eq,decide_eq_true_eq] at this
    simpa [Stt.chn] using this
   by_cases hlt:i<p.chans.length
   · exact ⟨i,hlt,hoff⟩
   · rw [rch i hi4 (by omega)] at hoff;exact absurd rfl hoff.1
theorem Vld.ok {p:Prg} (hok:p.Ok) (hr:QN p=true) {s:Stt} (h:Vld p s):YI p s=true:=by
 have h4:=hok.four
 have hc:=h.count
 have e1:Yx p s 6=true:=List.all_eq_true.2 fun i hi=>by
  have hi:i<6:=List.mem_range.1 hi
  simp only [Stt.gor,Int.toNat_natCast]
  split
  · rename_i q;exact (h.gos i q).ok
  · rename_i q;exact decide_eq_true (h.rest i hi (by omega))
 have e2:XT p s 4=true:=List.all_eq_true.2 fun i hi=>by
  have hi:i<4:=List.mem_range.1 hi
  simp only [Stt.chn,Int.toNat_natCast]
  split
  · rename_i q;exact (h.chans i q).ok
  · rename_i q;exact decide_eq_true (h.rchans i hi (by omega))
 have e3:YU p s 4=true:=List.all_eq_true.2 fun i hi=>own_at.2 (h.own i (List.mem_range.1 hi))
 have e4:Y5 s s.count.toNat=true:=List.all_eq_true.2 fun g hg=>by
  have hg:(g:Int)<s.count:=by have:=List.mem_range.1 hg;omega
  rw [Bool.or_eq_true,decide_eq_true_eq,decide_eq_true_eq]
  by_cases q:(s.gor (g:Int)).status=2
  · right
    have q2:(s.gos.getD g default).status=2:=by simpa [Stt.gor] using q
    obtain ⟨c,hc1,hc2,hc3⟩:=h.waits g hg q2
    have hw:=(h.chans c hc1).from_ hc2
    rw [hc3] at hw
    simp only [Int.toNat_natCast] at hw
    have one:∀ j:Nat,j<4→(decide ((s.chn (j:Int)).offer≠0)&&decide ((s.chn (j:Int)).from_=(g:Int)))=decide (j=c):=by
     intro j hj
     simp only [Stt.chn,Int.toNat_natCast]
     by_cases hjc:j=c
     · subst hjc;rw [show decide (j=j)=true from by simp,Bool.and_eq_true];exact ⟨decide_eq_true hc2,decide_eq_true hc3⟩
     · rw [decide_eq_false hjc,Bool.and_eq_false_iff]
       by_cases ho:(s.chans.getD j default).offer=0
       · left;exact decide_eq_false (fun q=>q ho)
       · right
         refine decide_eq_false fun hf=>hjc ?_
         by_cases hlt:j<p.chans.length
         · have hw2:=(h.chans j hlt).from_ ho
           rw [hf] at hw2
           simp only [Int.toNat_natCast] at hw2
           have:=hw.2.2.2.symm.trans hw2.2.2.2
           omega
         · rw [h.rchans j hj (by omega)] at ho;exact absurd rfl ho
    unfold ZF
    rw [List.filter_congr (q:=fun j=>decide (j=c)) (fun j hj=>one j (List.mem_range.1 hj))]
    rcases (show c=0∨c=1∨c=2∨c=3 by omega) with rfl|rfl|rfl|rfl<;>rfl
  · exact .inl q
 simp only [YI,Bool.and_eq_true,decide_eq_true_eq]
 exact ⟨⟨⟨⟨⟨⟨⟨hr,hc.1⟩,hc.2⟩,e1⟩,wQ h.vars⟩,e3⟩,e2⟩,e4⟩
theorem Vld.wf {p:Prg} {s:Stt} (hok:p.Ok) (hr:QN p=true) (h:Vld p s):Wf p s:=QEt hok h.shape (h.ok hok hr)
section
variable {p:Prg} {s:Stt}
theorem Waits.set {gos:List Gor} {g i j:Nat} {X:Gor} (h:Waits p gos g j) (h1:(gos.getD i default).status≠2):Waits p (gos.set i X) g j:=by
 have hne:i≠g:=fun q=>h1 (by rw [q];exact h.1)
 unfold Waits at *
 rw [QU,if_neg (fun q=>hne q.1)]
 exact h
theorem ChnP.go {gos:List Gor} {count:Int} {i j:Nat} {X:Gor} {x:Chn} (h:ChnP p gos count j x) (h1:(gos.getD i default).status≠2):ChnP p (gos.set i X) count j x :=
 ⟨h.len,h.off,h.cap,h.buf,h.none,h.val,h.open_,h.lost,fun q=>⟨(h.from_ q).1,(h.from_ q).2.set h1⟩⟩
theorem Vld.go (h:Vld p s) {i:Nat} (hi:(i:Int)<s.count) {X:Gor} (hX:GorP p X) (h1:(s.gos.getD i default).status≠2) (h2:X.status≠2):Vld p ⟨s.vars,s.owner,s.chans,s.gos.set i X,s.count⟩:=by
 refine ⟨Yr h.shape _ _ hX.inn.regs,h.count,fun k hk=>?_,fun k h6 hk=>?_,h.vars,h.own,fun c hc=>(h.chans c hc).go h1,h.rchans,fun g hg hs=>?_⟩
 · show GorP p ((s.gos.set i X).getD k default)
   rw [QU];split
   · exact hX
   · exact h.gos k hk
 · show (s.gos.set i X).getD k default=zeroGor
   have hk:s.count≤(k:Int):=hk
   rw [QU,if_neg (by omega)]
   exact h.rest k h6 hk
 · have hs:((s.gos.set i X).getD g default).status=2:=hs
   rw [QU] at hs
   split at hs
   · exact absurd hs h2
   · exact h.waits g hg hs
theorem Vld.chn (h:Vld p s) {c:Nat} (hc:c<p.chans.length) {X:Chn} (hb:X.buf.length=4) (hX:ChnP p s.gos s.count c X)
 (hk:(s.chans.getD c default).offer≠0→X.offer≠0∧X.from_=(s.chans.getD c default).from_):Vld p ⟨s.vars,s.owner,s.chans.set c X,s.gos,s.count⟩:=by
 refine ⟨Ye h.shape _ hb,h.count,h.gos,h.rest,h.vars,h.own,fun j hj=>?_,fun j h4 hj=>?_,fun g hg hs=>?_⟩
 · show ChnP p s.gos s.count j ((s.chans.set c X).getD j default)
   rw [QU];split
   · rename_i q;rw [← q.1];exact hX
   · exact h.chans j hj
 · show (s.chans.set c X).getD j default=zeroChn
   rw [QU,if_neg (by omega)]
   exact h.rchans j h4 hj
 · obtain ⟨j,hj,h1,h2⟩:=h.waits g hg hs
   refine ⟨j,hj,?_⟩
   show ((s.chans.set c X).getD j default).offer≠0∧((s.chans.set c X).getD j default).from_=(g:Int)
   rw [QU];split
   · rename_i q
     have:=hk (by rw [q.1];exact h1)
     rw [q.1] at this
     exact ⟨this.1,this.2.trans h2⟩
   · exact ⟨h1,h2⟩
theorem Vld.var (h:Vld p s) {i:Nat} (hi:i<p.vars.length) (x:Int):Vld p ⟨s.vars.set i x,s.owner,s.chans,s.gos,s.count⟩:=by
 refine ⟨qH h.shape _ _,h.count,h.gos,h.rest,fun k h1 h2=>?_,h.own,h.chans,h.rchans,h.waits⟩
 show (s.vars.set i x).getD k 0=0
 rw [QU,if_neg (by omega)]
 exact h.vars k h1 h2
theorem Vld.owns (h:Vld p s) {i:Nat} (hi:(i:Int)<p.locks) {x:Int} (hx:0≤x∧x≤s.count):Vld p ⟨s.vars,s.owner.set i x,s.chans,s.gos,s.count⟩:=by
 refine ⟨yC h.shape _ _,h.count,h.gos,h.rest,h.vars,fun k hk=>?_,h.chans,h.rchans,h.waits⟩
 show (0≤(s.owner.set i x).getD k 0∧(s.owner.set i x).getD k 0≤s.count)∧(p.locks≤(k:Int)→(s.owner.set i x).getD k 0=0)
 rw [QU];split
 · exact ⟨hx,fun q=>by omega⟩
 · exact h.own k hk
theorem GorP.reg {g:Gor} (h:GorP p g) {r:Int} (hr:0≤r∧r<(p.fn g.func).regs) (h1:g.status=1) (v:Int):GorP p { g with regs:=g.regs.set r.toNat v }:=by
 have hm:U1 p g=(p.fn g.func).regs:=if_neg (by omega)
 refine ⟨h.st,⟨h.inn.f0,h.inn.f1,h.inn.p0,h.inn.p1,by show (g.regs.set _ _).length=8;rw [List.length_set];exact h.inn.regs⟩,fun k hk h8=>?_,fun q=>?_,h.why,h.done,h.spun⟩
 · have hk:U1 p g≤(k:Int):=hk
   show (g.regs.set r.toNat v).getD k 0=0
   rw [QU,if_neg (by omega)]
   exact h.zero k hk h8
 · have q:g.status=4:=q
   omega
theorem Vld.reg (h:Vld p s) {g:Int} (hg:0≤g∧g<s.count) (h1:(s.gor g).status=1) {r:Int} (hr:r = -1∨0≤r∧r<(p.fn (s.gor g).func).regs) (v:Int):Vld p (s.setReg g r v):=by
 unfold Stt.setReg
 split
 · have hG:=h.gos g.toNat (by omega)
   have:=h.go (i:=g.toNat) (by omega) (X:={ s.gor g with regs:=(s.gor g).regs.set r.toNat v }) (hG.reg (r:=r) (by have:(p.fn (s.gos.getD g.toNat default).func).regs=(p.fn (s.gor g).func).regs:=rfl;omega) h1 v) (by have h1:(s.gos.getD g.toNat default).status=1:=h1;omega) (by show (s.gor g).status≠2;omega)
   exact this
 · exact h
end
def yu (p:Prg) (s:Stt) (g c:Int):Bool:=if g<0∨s.count≤g∨(s.gos.getD g.toNat default).status≠2 then false else decide ((qo p s g).op=58)&&decide ((qo p s g).a=c)
theorem yX {p:Prg} {s:Stt} {m:Int} (h1:¬((s.chans.getD m.toNat default).len<0∨p.chans.getD m.toNat 0<(s.chans.getD m.toNat default).len∨(s.chans.getD m.toNat default).offer<0∨3<(s.chans.getD m.toNat default).offer∨(p.chans.getD m.toNat 0≠0∧(s.chans.getD m.toNat default).offer≠0)))
 (hb:qf (s.chans.getD m.toNat default) 4=true):Wv p s m=if (s.chans.getD m.toNat default).offer=0 then decide ((s.chans.getD m.toNat default).from_=0)&&decide ((s.chans.getD m.toNat default).val=0)
   else if (s.chans.getD m.toNat default).offer=1 then !(s.chans.getD m.toNat default).closed&&yu p s (s.chans.getD m.toNat default).from_ m
   else if (s.chans.getD m.toNat default).offer=2 then decide ((s.chans.getD m.toNat default).val=0)&&yu p s (s.chans.getD m.toNat default).from_ m
   else decide ((s.chans.getD m.toNat default).val=0)&&(s.chans.getD m.toNat default).closed&&yu p s (s.chans.getD m.toNat default).from_ m:=by
 rw [Y0,if_neg h1,hb,if_neg (by simp)]
 by_cases h0:(s.chans.getD m.toNat default).offer=0
 · rw [if_pos h0,if_pos h0]
 · rw [if_neg h0,if_neg h0]
   have e:∀ b:Bool,(if (s.chans.getD m.toNat default).from_<0∨s.count≤(s.chans.getD m.toNat default).from_∨(s.gos.getD (s.chans.getD m.toNat default).from_.toNat default).status≠2 then false
    else decide (((p.funcs.getD (s.gos.getD (s.chans.getD m.toNat default).from_.toNat default).func.toNat default).code.getD (s.gos.getD (s.chans.getD m.toNat default).from_.toNat default).pc.toNat default).op=58) &&
     decide (((p.funcs.getD (s.gos.getD (s.chans.getD m.toNat default).from_.toNat default).func.toNat default).code.getD (s.gos.getD (s.chans.getD m.toNat default).from_.toNat default).pc.toNat default).a=m))=yu p s (s.chans.getD m.toNat default).from_ m:=fun _=>rfl
   rw [e false]
   by_cases h2:(s.chans.getD m.toNat default).offer=1
   · rw [if_pos h2]
     cases hc:(s.chans.getD m.toNat default).closed
     · rw [if_neg (by rintro (q|q|q);exact q.1 h2;exact Bool.noConfusion q.2;omega)];rfl
     · rw [if_pos (.inr (.inl ⟨h2,rfl⟩))];rfl
   · rw [if_neg h2]
     by_cases h3:(s.chans.getD m.toNat default).offer=2
     · rw [if_pos h3]
       by_cases hv:(s.chans.getD m.toNat default).val=0
       · rw [decide_eq_true hv,if_neg (by rintro (q|q|q);exact q.2 hv;exact h2 q.1;omega)];rfl
       · rw [decide_eq_false hv,if_pos (.inl ⟨h2,hv⟩)];rfl
     · rw [if_neg h3]
       have h4:(s.chans.getD m.toNat default).offer=3:=by omega
       by_cases hv:(s.chans.getD m.toNat default).val=0
       · rw [decide_eq_true hv]
         cases hc:(s.chans.getD m.toNat default).closed
         · rw [if_pos (.inr (.inr ⟨h4,rfl⟩))];rfl
         · rw [if_neg (by rintro (q|q|q);exact q.2 hv;exact h2 q.1;exact Bool.noConfusion q.2)];rfl
       · rw [decide_eq_false hv,if_pos (.inl ⟨h2,hv⟩)];rfl
theorem Vn {p:Prg} {s:Stt} (h:QN p=false∨s.count<1∨6<s.count∨Yx p s 6=false∨VM p s 8=false∨YU p s 4=false∨XT p s 4=false∨Y5 s s.count.toNat=false):YI p s=false:=by
 cases hv:YI p s
 · rfl
 · obtain ⟨h1,h2,h3,h4,h5,h6,h7⟩:=W8 hv
   rcases h with h|h|h|h|h|h|h|h
   · rw [h1] at h;cases h
   · omega
   · omega
   · rw [h3] at h;cases h
   · rw [h4] at h;cases h
   · rw [h5] at h;cases h
   · rw [h6] at h;cases h
   · rw [h7] at h;cases h
theorem QIb {p:Prg} {s:Stt} (h1:QN p=true) (h2:1≤s.count∧s.count≤6) (h3:Yx p s 6=true) (h4:VM p s 8=true) (h5:YU p s 4=true) (h6:XT p s 4=true) (h7:Y5 s s.count.toNat=true):YI p s=true:=by
 simp only [YI,Bool.and_eq_true,decide_eq_true_eq]
 exact ⟨⟨⟨⟨⟨⟨⟨h1,h2.1⟩,h2.2⟩,h3⟩,h4⟩,h5⟩,h6⟩,h7⟩
def WD (s:Stt) (i:Nat):List Int:=(List.range 6).map fun (g:Nat)=>(ZF s (g:Int) i:Int)
theorem QBE (s:Stt) (i:Nat) {g:Int} (h0:0≤g) (h6:g<6):(WD s i).getD g.toNat 0=(ZF s g i:Int):=by
 unfold WD
 rw [Vh (by omega),show ((g.toNat:Nat):Int)=g by omega]
theorem QFR {s:Stt} {i:Nat} (h:¬(s.chans.getD i default).offer=0) (h0:0≤(s.chans.getD i default).from_) (h6:(s.chans.getD i default).from_<6) :
 (WD s i).set (s.chans.getD i default).from_.toNat ((ZF s (s.chans.getD i default).from_ i:Int)+1)=WD s (i+1):=by
 unfold WD
 rw [zR (by omega)]
 refine List.map_congr_left fun k hk=>?_
 have hk:k<6:=List.mem_range.1 hk
 by_cases e:k=(s.chans.getD i default).from_.toNat
 · rw [if_pos e,QBD (g:=(k:Int)) ⟨h,by omega⟩,show (s.chans.getD i default).from_=(k:Int) by omega];rfl
 · rw [if_neg e,zZ (g:=(k:Int)) (fun _ q=>e (by omega))]
theorem xp {s:Stt} {i:Nat} (h:(s.chans.getD i default).offer=0):WD s (i+1)=WD s i:=by
 unfold WD
 refine List.map_congr_left fun k hk=>?_
 rw [zZ (fun q=>absurd h q)]
theorem za (s:Stt) (g:Int) (i:Nat):ZF s g i≤i:=QCt s g i
theorem QEm (g:Gor) (h:g=zeroGor):g.status=0:=by rw [h];rfl
theorem QGC (c:Chn) (h:c=zeroChn):c.offer=0:=by rw [h];rfl
theorem QL8 (l:List Int) (h:l.length=4) (n:Nat):List.take (4-n) (List.drop n (l.map V.int))=(l.drop n).map V.int:=by
 rw [List.take_of_length_le (by rw [List.length_drop,List.length_map,h];exact Nat.le_refl _),List.map_drop]
theorem x9 (l:List Int) (n j:Nat):(l.drop n).getD j 0=l.getD (n+j) 0:=by simp [List.getD_eq_getElem?_getD]
theorem QDN {p:Prg} {s:Stt} {i:Nat} (h:Wv p s i=true) (h0:¬(s.chans.getD i default).offer=0):0≤(s.chans.getD i default).from_∧(s.chans.getD i default).from_<s.count:=((ChnP.of h).from_ h0).1
theorem vJ (s:Stt) {g:Nat} (h6:g<6):(WD s 4).getD g 0=(ZF s (g:Int) 4:Int):=by
 unfold WD;rw [Vh h6]
theorem QGI {s:Stt} {n m:Nat} (h:Y5 s n=true) (hm:m≤n):Y5 s m=true:=by
 unfold Y5 at *
 rw [List.all_eq_true] at *
 exact fun x hx=>h x (List.mem_range.2 (by have:=List.mem_range.1 hx;omega))
theorem QH4 (g:Gor) (p:Prg):U1 p g=if g.status=3∨g.status=4 then 0 else (p.funcs.getD g.func.toNat default).regs:=rfl
def YT {α:Type} (f:Nat→α→α) (a:α):Nat→α
 | 0=>a
 | n+1=>f n (YT f a n)
theorem Ul {α:Type} (f:Nat→α→α) (a:α) (n:Nat):YT f a (n+1)=f n (YT f a n):=rfl
theorem QId {α:Type} (f:Nat→α→α) (a:α):YT f a 0=a:=rfl
def WL (x k:Int):Int:=IntKind.i64.wrap (IntKind.u64.wrap (BitVec.ofInt 64 ((IntKind.u64.wrap x).fdiv (2^min (IntKind.u64.wrap k).toNat 64)) &&& 1#64).toNat)
def QCB (x k y:Int):Int:=IntKind.i64.wrap (IntKind.u64.wrap (BitVec.ofInt 64 (IntKind.u64.wrap x) ||| BitVec.ofInt 64 (IntKind.u64.wrap (IntKind.u64.wrap y*2^min (IntKind.u64.wrap k).toNat 64))).toNat)
def ws (x:Int):Int:=if 64<x then 64 else x
def WM (x:Int):Int:=if x<1∨36<x then 0 else if x≤15 then 1 else 2
def QFw (a n:Int) (sign:Bool) (k:Nat) (r:Int):Int:=QCB r k (if (k:Int)<n then WL a k else if sign then WL a (IntKind.i64.wrap (n-1)) else 0)
def zq (a n:Int) (sign:Bool):Int:=YT (QFw a n sign) 0 64
def vI (a:Int) (k:Nat) (n:Int):Int:=IntKind.i64.wrap (n+WL a k)
def vQ (a:Int) (k:Nat) (r:Int):Int:=QCB r k (WL a (IntKind.i64.wrap (63-(k:Int))))
def QFb (a:Int):Nat:=(List.range 64).findIdx fun (j:Nat)=>decide (WL a (63-(j:Int))≠0)
def QAS (a:Int):Nat:=(List.range 64).findIdx fun (j:Nat)=>decide (WL a j≠0)
def QEH (op a:Int):Int :=
 if op=1 then IntKind.i64.wrap (0-a)
 else if op=2 then IntKind.i64.wrap (-1-a)
 else if op=3 then (if a<0 then IntKind.i64.wrap (0-a) else a)
 else if op=4 then YT (vI a) 0 64
 else if op=5 then QFb a
 else if op=6 then QAS a
 else if op=7 then YT (vQ a) 0 64
 else if op=8 then XY (decide (a≠0))
 else if op=9 then XY (decide (a=0))
 else if op=10 then zq a 8 true
 else if op=11 then zq a 16 true
 else if op=12 then zq a 32 true
 else if op=13 then zq a 8 false
 else if op=14 then zq a 16 false
 else zq a 32 false
def QIJ (op x y:Int):Bool :=
 if op=21 then decide (IntKind.i64.wrap (x+y)=2)
 else if op=22 then decide (0<IntKind.i64.wrap (x+y))
 else if op=23 then decide (IntKind.i64.wrap (x+y)=1)
 else if op=24 then decide (x=1)&&decide (y=0)
 else false
def QF4 (op a b:Int) (k:Nat) (r:Int):Int:=QCB r k (XY (QIJ op (WL a k) (WL b k)))
def vd (op a b:Int):Int:=YT (QF4 op a b) 0 64
def QAp (a by_ fill:Int) (k:Nat) (r:Int):Int :=
 QCB r k (if 0≤IntKind.i64.wrap ((k:Int)-by_)∧IntKind.i64.wrap ((k:Int)-by_)<64 then WL a (IntKind.i64.wrap ((k:Int)-by_)) else fill)
def qG (a by_ fill:Int):Int:=YT (QAp a by_ fill) 0 64
def QKa (a b:Int) (k:Nat) (r:Int):Int :=
 QCB r k (WL a ((IntKind.i64.wrap ((IntKind.i64.wrap ((k:Int)-b.tmod 64)).tmod 64+64)).tmod 64))
def QGZ (a b:Int):Int:=YT (QKa a b) 0 64
def w6 (a b:Int) (j:Nat) (x:Int × Int):Int × Int :=
 let k:Int:=63-(j:Int)
 let hi:=IntKind.i64.wrap (IntKind.i64.wrap (x.1*2)+IntKind.i64.wrap (x.2.fdiv (2^63)))
 let lo:=IntKind.u64.wrap (x.2*2)
 if WL b k=0 then (hi,lo)
 else if k=63 then
  let lo1:=IntKind.u64.wrap (lo-IntKind.u64.wrap a)
  let hi1:=IntKind.i64.wrap (hi-a.fdiv (2^63))
  (if lo<IntKind.u64.wrap a then IntKind.i64.wrap (hi1-1) else hi1,lo1)
 else
  let lo1:=IntKind.u64.wrap (lo+IntKind.u64.wrap a)
  let hi1:=IntKind.i64.wrap (hi+a.fdiv (2^63))
  (if lo1<lo then IntKind.i64.wrap (hi1+1) else hi1,lo1)
def w5 (a b:Int):Int × Int:=YT (w6 a b) (0,0) 64
def QFf (op a b:Int):Int :=
 if op=29 then XY (decide (a=b))
 else if op=30 then XY (decide (a≠b))
 else if op=31 then XY (decide (a<b))
 else if op=32 then XY (decide (a≤b))
 else if op=33 then XY (decide (IntKind.u64.wrap a<IntKind.u64.wrap b))
 else if op=34 then (if b<a then b else a)
 else if op=35 then (if a<b then b else a)
 else (w5 a b).1
def XW (op a b:Int):Int × Int :=
 if op=16 then (IntKind.i64.wrap (a+b),0)
 else if op=17 then (IntKind.i64.wrap (a-b),0)
 else if op=18 then (IntKind.i64.wrap (w5 a b).2,0)
 else if op=19∨op=20 then
  if b=0 then (0,20)
  else if b = -1 then (if op=19 then (IntKind.i64.wrap (0-a),0) else (0,0))
  else if op=19 then (IntKind.i64.wrap (a.tdiv b),0)
  else (IntKind.i64.wrap (a-IntKind.i64.wrap (IntKind.i64.wrap (a.tdiv b)*b)),0)
 else if op=21∨op=22∨op=23∨op=24 then (vd op a b,0)
 else if op=25∨op=26∨op=27 then
  if b<0 then (0,21)
  else if op=25 then (qG a (ws b) 0,0)
  else if op=26 then (qG a (IntKind.i64.wrap (0-ws b)) (WL a 63),0)
  else (qG a (IntKind.i64.wrap (0-ws b)) 0,0)
 else if op=28 then (QGZ a b,0)
 else (QFf op a b,0)
def QB (op a b:Int):Int × Int:=if WM op=0 then (0,22) else if WM op=1 then (QEH op a,0) else XW op a b
theorem Xl (x:Int):IntKind.i64.wrap x=(BitVec.ofInt 64 x).toInt:=by
 rw [BitVec.toInt_ofInt]
 simp only [IntKind.wrap,IntKind.bits,IntKind.signed,Int.bmod]
 simp
 split<;>split<;>omega
theorem Xz (x:Int):IntKind.u64.wrap x=((BitVec.ofInt 64 x).toNat:Int):=by
 rw [BitVec.toNat_ofInt]
 simp only [IntKind.wrap,IntKind.bits,IntKind.signed]
 simp
 omega
theorem V8 (z:BitVec 64):BitVec.ofInt 64 (z.toNat:Int)=z:=by
 rw [BitVec.ofInt_natCast,BitVec.ofNat_toNat,BitVec.setWidth_eq]
theorem QMM (z:BitVec 64):BitVec.ofInt 64 z.toInt=z:=BitVec.ofInt_toInt
theorem VJ (x:Int):BitVec.ofInt 64 (IntKind.u64.wrap x)=BitVec.ofInt 64 x:=by rw [Xz,V8]
theorem QIR (x:Int):BitVec.ofInt 64 (IntKind.i64.wrap x)=BitVec.ofInt 64 x:=by rw [Xl,QMM]
theorem QAM (x:Int):IntKind.i64.wrap (IntKind.u64.wrap x)=IntKind.i64.wrap x:=by rw [Xl,VJ,← Xl]
theorem QEp (z:BitVec 64):IntKind.i64.wrap (z.toNat:Int)=z.toInt:=by rw [Xl,V8]
theorem QIM (z:BitVec 64):z &&& 1#64=if z.getLsbD 0 then 1#64 else 0#64:=by
 apply BitVec.eq_of_getLsbD_eq
 intro i hi
 rw [BitVec.getLsbD_and]
 by_cases h0:i=0
 · subst h0
   cases z.getLsbD 0<;>rfl
 · have e:(1#64).getLsbD i=false:=by rw [BitVec.getLsbD_one];simp [h0]
   rw [e,Bool.and_false]
   split
   · rw [e]
   · simp
theorem x5 (z:BitVec 64) (n:Nat):((z.toNat:Int)).fdiv (2^n)=((z >>> n).toNat:Int):=by
 rw [BitVec.toNat_ushiftRight,Nat.shiftRight_eq_div_pow,Int.fdiv_eq_ediv_of_nonneg _ (Int.le_of_lt (Int.pow_pos (by decide)))]
 simp
theorem Y9 (x:Int) {n:Nat} (h:n<64):WL x n=XY ((BitVec.ofInt 64 x).getLsbD n):=by
 have hk:(IntKind.u64.wrap (n:Int)).toNat=n:=by rw [show IntKind.u64.wrap (n:Int)=(n:Int) by simp [IntKind.wrap,IntKind.signed,IntKind.bits];omega];rfl
 unfold WL
 rw [hk,Nat.min_eq_left (by omega),Xz x,x5,V8,QIM,BitVec.getLsbD_ushiftRight]
 simp only [Nat.add_zero]
 cases (BitVec.ofInt 64 x).getLsbD n<;>decide
theorem QHN {n:Nat} (h:n<64):BitVec.ofInt 64 (2^n)=BitVec.twoPow 64 n:=by
 apply BitVec.eq_of_toNat_eq
 rw [BitVec.toNat_ofInt,BitVec.toNat_twoPow]
 have e:((2:Int)^n)=((2^n:Nat):Int):=by simp
 rw [e,← Int.natCast_emod]
 rfl
set_option linter.unusedVariables false in
theorem QMq (r:BitVec 64) {n:Nat} (h:n<64) (b:Bool):QCB r.toInt n (XY b)=(r ||| if b then BitVec.twoPow 64 n else 0#64).toInt:=by
 have hk:(IntKind.u64.wrap (n:Int)).toNat=n:=by rw [show IntKind.u64.wrap (n:Int)=(n:Int) by simp [IntKind.wrap,IntKind.signed,IntKind.bits];omega];rfl
 unfold QCB
 rw [hk,Nat.min_eq_left (by omega),QAM,show BitVec.ofInt 64 (IntKind.u64.wrap r.toInt)=r from (VJ _).trans (QMM r),show ∀ x,BitVec.ofInt 64 (IntKind.u64.wrap x)=BitVec.ofInt 64 x from VJ,QEp]
 congr 2
 cases b
 · simp [XY,IntKind.wrap,IntKind.signed,IntKind.bits]
 · have e:IntKind.u64.wrap (XY true)*2^n=2^n:=by simp [XY,IntKind.wrap,IntKind.signed,IntKind.bits]
   rw [e,QHN h];rfl
def QL7 (f:Nat→Bool):Nat→BitVec 64
 | 0=>0#64
 | n+1=>QL7 f n ||| if f n then BitVec.twoPow 64 n else 0#64
theorem QF3 (f:Nat→Bool):∀ n,n≤64→∀ i,(QL7 f n).getLsbD i=(decide (i<n)&&f i)
 | 0,_,i=>by simp [QL7]
 | n+1,h,i=>by
   unfold QL7
   rw [BitVec.getLsbD_or,QF3 f n (by omega) i]
   by_cases h1:i=n
   · subst h1
     cases f i<;>simp [BitVec.getLsbD_twoPow]
     omega
   · have e:(if f n then BitVec.twoPow 64 n else 0#64).getLsbD i=false:=by
      cases f n<;>simp [BitVec.getLsbD_twoPow]
      omega
     rw [e,Bool.or_false]
     congr 1
     exact decide_eq_decide.2 ⟨fun q=>by omega,fun q=>by omega⟩
theorem QCZ {f:Nat→Bool} {g:Nat→Int→Int} (hg:∀ k r,k<64→g k r=QCB r k (XY (f k))):∀ n,n≤64→YT g 0 n=(QL7 f n).toInt
 | 0,_=>rfl
 | n+1,h=>by rw [Ul,QCZ hg n (by omega),hg n _ (by omega),QMq _ (by omega)];rfl
theorem xW {f:Nat→Bool} {g:Nat→Int→Int} {x:Int} (hg:∀ k r,k<64→g k r=QCB r k (XY (f k))) (h:∀ i,i<64→(BitVec.ofInt 64 x).getLsbD i=f i):YT g 0 64=IntKind.i64.wrap x:=by
 rw [QCZ hg 64 (by omega),Xl]
 congr 1
 apply BitVec.eq_of_getLsbD_eq
 intro i hi
 rw [QF3 f 64 (by omega),h i hi]
 simp [hi]
theorem QHO {c:Prop} [Decidable c] (a b:Bool):(if c then XY a else XY b)=XY (if c then a else b):=by split<;>rfl
theorem xB (a:Int) {w i:Nat} (hw:w≤64) (h:i<w):(BitVec.ofInt w a).getLsbD i=(BitVec.ofInt 64 a).getLsbD i:=by
 have e:BitVec.ofInt w a=(BitVec.ofInt 64 a).setWidth w:=by
  apply BitVec.eq_of_toNat_eq
  rw [BitVec.toNat_setWidth,BitVec.toNat_ofInt,BitVec.toNat_ofInt]
  have hd:(2^w:Nat) ∣ 2^64:=Nat.pow_dvd_pow 2 hw
  have h1:(0:Int)≤a % ((2^64:Nat):Int):=Int.emod_nonneg _ (by decide)
  have h2:((a % ((2^64:Nat):Int)).toNat:Int)=a % ((2^64:Nat):Int):=Int.toNat_of_nonneg h1
  have h3:(((a % ((2^64:Nat):Int)).toNat % 2^w:Nat):Int)=a % ((2^w:Nat):Int):=by
   rw [Int.natCast_emod,h2]
   exact Int.emod_emod_of_dvd _ (Int.natCast_dvd_natCast.2 hd)
  have h4:(0:Int)≤a % ((2^w:Nat):Int):=Int.emod_nonneg _ (by have:=Nat.two_pow_pos w;omega)
  omega
 rw [e,BitVec.getLsbD_setWidth]
 simp [h]
theorem QDL (a:Int) {w:Nat} (h0:1≤w) (hw:w≤64) (s:Bool) (x:Int) (hx:∀ i,i<64→(BitVec.ofInt 64 x).getLsbD i=if (i:Int)<w then (BitVec.ofInt 64 a).getLsbD i else if s then (BitVec.ofInt 64 a).getLsbD (w-1) else false):zq a w s=IntKind.i64.wrap x:=by
 unfold zq
 refine xW (f:=fun i=>if (i:Int)<w then (BitVec.ofInt 64 a).getLsbD i else if s then (BitVec.ofInt 64 a).getLsbD (w-1) else false) (fun k r hk=>?_) hx
 unfold QFw
 have e:IntKind.i64.wrap ((w:Int)-1)=((w-1:Nat):Int):=by simp [IntKind.wrap,IntKind.signed,IntKind.bits];omega
 rw [e,Y9 a hk,Y9 a (show w-1<64 by omega),show (0:Int)=XY false from rfl,QHO,QHO]
theorem QL0 (a:Int) {w:Nat} (h0:1≤w) (hw:w≤64):zq a w true=IntKind.i64.wrap (BitVec.ofInt w a).toInt:=by
 refine QDL a h0 hw true _ fun i hi=>?_
 have e:BitVec.ofInt 64 (BitVec.ofInt w a).toInt=(BitVec.ofInt w a).signExtend 64:=rfl
 rw [e,BitVec.getLsbD_signExtend]
 simp only [hi,decide_true,Bool.true_and,if_true]
 by_cases h:i<w
 · rw [if_pos h,if_pos (by omega),xB a hw h]
 · rw [if_neg h,if_neg (by omega),BitVec.msb_eq_getLsbD_last,xB a hw (by omega)]
theorem QLz (a:Int) {w:Nat} (h0:1≤w) (hw:w≤64):zq a w false=IntKind.i64.wrap ((BitVec.ofInt w a).toNat:Int):=by
 refine QDL a h0 hw false _ fun i hi=>?_
 have e:BitVec.ofInt 64 ((BitVec.ofInt w a).toNat:Int)=(BitVec.ofInt w a).setWidth 64:=by
  rw [BitVec.ofInt_natCast,BitVec.ofNat_toNat]
 rw [e,BitVec.getLsbD_setWidth]
 simp only [hi,decide_true,Bool.true_and]
 by_cases h:i<w
 · rw [if_pos (by omega),xB a hw h]
 · rw [if_neg (by omega),BitVec.getLsbD_of_ge _ _ (by omega)];rfl
theorem QPb (a:Int):IntKind.i8.wrap a=(BitVec.ofInt 8 a).toInt:=by
 rw [BitVec.toInt_ofInt]
 simp only [IntKind.wrap,IntKind.bits,IntKind.signed,Int.bmod]
 simp
 split<;>split<;>omega
theorem QMS (a:Int):IntKind.i16.wrap a=(BitVec.ofInt 16 a).toInt:=by
 rw [BitVec.toInt_ofInt]
 simp only [IntKind.wrap,IntKind.bits,IntKind.signed,Int.bmod]
 simp
 split<;>split<;>omega
theorem QMR (a:Int):IntKind.i32.wrap a=(BitVec.ofInt 32 a).toInt:=by
 rw [BitVec.toInt_ofInt]
 simp only [IntKind.wrap,IntKind.bits,IntKind.signed,Int.bmod]
 simp
 split<;>split<;>omega
theorem QPa (a:Int):IntKind.u8.wrap a=((BitVec.ofInt 8 a).toNat:Int):=by
 rw [BitVec.toNat_ofInt]
 simp only [IntKind.wrap,IntKind.bits,IntKind.signed]
 simp
 omega
theorem QMQ (a:Int):IntKind.u16.wrap a=((BitVec.ofInt 16 a).toNat:Int):=by
 rw [BitVec.toNat_ofInt]
 simp only [IntKind.wrap,IntKind.bits,IntKind.signed]
 simp
 omega
theorem QMP (a:Int):IntKind.u32.wrap a=((BitVec.ofInt 32 a).toNat:Int):=by
 rw [BitVec.toNat_ofInt]
 simp only [IntKind.wrap,IntKind.bits,IntKind.signed]
 simp
 omega
theorem wJ {op a b:Int} {f:Bool→Bool→Bool} (hf:∀ x y,QIJ op (XY x) (XY y)=f x y) {z:BitVec 64} (hz:∀ i,i<64→z.getLsbD i=f ((BitVec.ofInt 64 a).getLsbD i) ((BitVec.ofInt 64 b).getLsbD i)):vd op a b=IntKind.i64.wrap (z.toNat:Int):=by
 unfold vd
 refine xW (f:=fun i=>f ((BitVec.ofInt 64 a).getLsbD i) ((BitVec.ofInt 64 b).getLsbD i)) (fun k r hk=>?_) fun i hi=>?_
 · unfold QF4
   rw [Y9 a hk,Y9 b hk,hf]
 · rw [V8];exact hz i hi
theorem QMC (a b:Int):vd 21 a b=IntKind.i64.wrap ((BitVec.ofInt 64 a &&& BitVec.ofInt 64 b).toNat:Int) :=
 wJ (f:=fun x y=>x&&y) (by intro x y;cases x<;>cases y<;>decide) fun i _=>by rw [BitVec.getLsbD_and]
theorem QNf (a b:Int):vd 22 a b=IntKind.i64.wrap ((BitVec.ofInt 64 a ||| BitVec.ofInt 64 b).toNat:Int) :=
 wJ (f:=fun x y=>x||y) (by intro x y;cases x<;>cases y<;>decide) fun i _=>by rw [BitVec.getLsbD_or]
theorem QMA (a b:Int):vd 23 a b=IntKind.i64.wrap ((BitVec.ofInt 64 a ^^^ BitVec.ofInt 64 b).toNat:Int) :=
 wJ (f:=fun x y=>x ^^ y) (by intro x y;cases x<;>cases y<;>decide) fun i _=>by rw [BitVec.getLsbD_xor]
theorem QHE (a b:Int):vd 24 a b=IntKind.i64.wrap ((BitVec.ofInt 64 a &&& ~~~BitVec.ofInt 64 b).toNat:Int) :=
 wJ (f:=fun x y=>x&&!y) (by intro x y;cases x<;>cases y<;>decide) fun i hi=>by rw [BitVec.getLsbD_and,BitVec.getLsbD_not];simp [hi]
theorem wV {a by_ fill x:Int} {F:Bool} (hF:fill=XY F) (h0 : -64≤by_∧by_≤64) (hx:∀ i:Nat,i<64→(BitVec.ofInt 64 x).getLsbD i=if 0≤(i:Int)-by_∧(i:Int)-by_<64 then (BitVec.ofInt 64 a).getLsbD ((i:Int)-by_).toNat else F):qG a by_ fill=IntKind.i64.wrap x:=by
 unfold qG
 refine xW (f:=fun i=>if 0≤(i:Int)-by_∧(i:Int)-by_<64 then (BitVec.ofInt 64 a).getLsbD ((i:Int)-by_).toNat else F) (fun k r hk=>?_) hx
 unfold QAp
 have e:IntKind.i64.wrap ((k:Int)-by_)=(k:Int)-by_:=by simp [IntKind.wrap,IntKind.signed,IntKind.bits];omega
 rw [e]
 congr 1
 by_cases h:0≤(k:Int)-by_∧(k:Int)-by_<64
 · rw [if_pos h,if_pos h]
   have e2:(k:Int)-by_=(((k:Int)-by_).toNat:Int):=(Int.toNat_of_nonneg h.1).symm
   rw [e2,Y9 a (by omega)]
   rfl
 · rw [if_neg h,if_neg h,hF]
theorem QH8 {b:Int} (h:0≤b):ws b=((min b.toNat 64:Nat):Int):=by unfold ws;split<;>omega
theorem QH7 {b:Int} (h:0≤b):IntKind.i64.wrap (0-ws b) = -((min b.toNat 64:Nat):Int):=by rw [QH8 h];simp [IntKind.wrap,IntKind.signed,IntKind.bits];omega
theorem QEl (x y:Int):BitVec.ofInt 64 (x*y)=BitVec.ofInt 64 x*BitVec.ofInt 64 y:=BitVec.ofInt_mul ..
theorem QML (a:Int) {n:Nat} (h:n≤64):BitVec.ofInt 64 (a*2^n)=BitVec.ofInt 64 a <<< n:=by
 by_cases h1:n=64
 · subst h1
   rw [QEl,show BitVec.ofInt 64 (2^64)=0#64 from by decide,BitVec.mul_zero,BitVec.shiftLeft_eq_zero (by omega)]
 · rw [QEl,QHN (by omega),BitVec.mul_twoPow_eq_shiftLeft]
theorem QSu (a:Int) {b:Int} (h:0≤b):qG a (ws b) 0=IntKind.i64.wrap (a*2^min b.toNat 64):=by
 rw [QH8 h]
 generalize hn:min b.toNat 64=n
 refine wV (F:=false) rfl (by omega) fun i hi=>?_
 rw [QML a (by omega),BitVec.getLsbD_shiftLeft]
 simp only [hi,decide_true,Bool.true_and]
 by_cases h1:i<n
 · rw [if_neg (by omega)];simp [h1]
 · rw [if_pos (by omega)]
   simp only [h1,decide_false,Bool.not_false,Bool.true_and]
   congr 1
   omega
theorem QRg {a:Int} (ha:IntKind.i64.wrap a=a) (n:Nat):BitVec.ofInt 64 (a.fdiv (2^n))=(BitVec.ofInt 64 a).sshiftRight n:=by
 rw [Int.fdiv_eq_ediv_of_nonneg _ (Int.le_of_lt (Int.pow_pos (by decide)))]
 rw [Xl] at ha
 unfold BitVec.sshiftRight
 rw [ha,Int.shiftRight_eq_div_pow]
 simp
theorem QSv {a b:Int} (ha:IntKind.i64.wrap a=a) (h:0≤b):qG a (IntKind.i64.wrap (0-ws b)) (WL a 63)=IntKind.i64.wrap (a.fdiv (2^min b.toNat 64)):=by
 rw [QH7 h]
 generalize hn:min b.toNat 64=n
 refine wV (F:=(BitVec.ofInt 64 a).getLsbD 63) (Y9 a (n:=63) (by decide)) (by omega) fun i hi=>?_
 rw [QRg ha,BitVec.getLsbD_sshiftRight]
 simp only [show ¬64≤i by omega,decide_false,Bool.not_false,Bool.true_and]
 by_cases h1:n+i<64
 · rw [if_pos h1,if_pos (by omega)]
   congr 1
   omega
 · rw [if_neg h1,if_neg (by omega),BitVec.msb_eq_getLsbD_last]
theorem QSt (a:Int) {b:Int} (h:0≤b):qG a (IntKind.i64.wrap (0-ws b)) 0=IntKind.i64.wrap ((IntKind.u64.wrap a).fdiv (2^min b.toNat 64)):=by
 rw [QH7 h]
 generalize hn:min b.toNat 64=n
 refine wV (F:=false) rfl (by omega) fun i hi=>?_
 rw [Xz,x5,V8,BitVec.getLsbD_ushiftRight]
 by_cases h1:n+i<64
 · rw [if_pos (by omega)]
   congr 1
   omega
 · rw [if_neg (by omega),BitVec.getLsbD_of_ge _ _ (by omega)]
theorem QQq {b:Int} {k:Nat} (hk:k<64):(IntKind.i64.wrap ((IntKind.i64.wrap ((k:Int)-b.tmod 64)).tmod 64+64)).tmod 64=(((k:Int)-b) % 64):=by
 have h1:=Int.tmod_lt_of_pos b (show (0:Int)<64 by decide)
 have h2:=Int.lt_tmod_of_pos b (show (0:Int)<64 by decide)
 have e0:b.tmod 64=b-64*b.tdiv 64:=Int.tmod_def b 64
 have e1:IntKind.i64.wrap ((k:Int)-b.tmod 64)=(k:Int)-b.tmod 64:=by simp only [IntKind.wrap,IntKind.signed,IntKind.bits];simp;omega
 rw [e1]
 generalize ht:(k:Int)-b.tmod 64=t at *
 have h3:=Int.tmod_lt_of_pos t (show (0:Int)<64 by decide)
 have h4:=Int.lt_tmod_of_pos t (show (0:Int)<64 by decide)
 have e2:t.tmod 64=t-64*t.tdiv 64:=Int.tmod_def t 64
 have e3:IntKind.i64.wrap (t.tmod 64+64)=t.tmod 64+64:=by simp only [IntKind.wrap,IntKind.signed,IntKind.bits];simp;omega
 rw [e3,Int.tmod_eq_emod_of_nonneg (by omega)]
 omega
theorem QTP (a b:Int) {x:Int} (hx:∀ i:Nat,i<64→(BitVec.ofInt 64 x).getLsbD i=(BitVec.ofInt 64 a).getLsbD (((i:Int)-b) % 64).toNat):QGZ a b=IntKind.i64.wrap x:=by
 unfold QGZ
 refine xW (f:=fun i=>(BitVec.ofInt 64 a).getLsbD (((i:Int)-b) % 64).toNat) (fun k r hk=>?_) hx
 unfold QKa
 rw [QQq hk]
 have e2:((k:Int)-b) % 64=((((k:Int)-b) % 64).toNat:Int):=(Int.toNat_of_nonneg (Int.emod_nonneg _ (by decide))).symm
 rw [e2,Y9 a (by omega)]
 rfl
theorem QRM (a:Int) {x:Int} (hx:∀ i:Nat,i<64→(BitVec.ofInt 64 x).getLsbD i=(BitVec.ofInt 64 a).getLsbD (63-i)):YT (vQ a) 0 64=IntKind.i64.wrap x:=by
 refine xW (f:=fun i=>(BitVec.ofInt 64 a).getLsbD (63-i)) (fun k r hk=>?_) hx
 unfold vQ
 have e:IntKind.i64.wrap (63-(k:Int))=((63-k:Nat):Int):=by simp [IntKind.wrap,IntKind.signed,IntKind.bits];omega
 rw [e,Y9 a (by omega)]
theorem QCu {a t:Int} (ha : -9223372036854775808≤a∧a≤9223372036854775808) (ht : -9223372036854775808≤t∧t≤9223372036854775808) : -85070591730234615865843651857942052864≤a*t∧a*t≤85070591730234615865843651857942052864:=by
 have h:=Nat.mul_le_mul (show a.natAbs≤9223372036854775808 by omega) (show t.natAbs≤9223372036854775808 by omega)
 rw [← Int.natAbs_mul] at h
 generalize a*t=q at *
 omega
theorem QHP (z:BitVec 64) {k:Nat}:XY (z.getLsbD k)=((z.toNat / 2^k % 2:Nat):Int):=by
 have e:z.getLsbD k=decide (z.toNat / 2^k % 2=1):=by
  rw [BitVec.getLsbD,Nat.testBit_eq_decide_div_mod_eq]
 rw [e]
 unfold XY
 have:=Nat.mod_two_eq_zero_or_one (z.toNat / 2^k)
 by_cases h:z.toNat / 2^k % 2=1
 · simp [h]
 · have h0:z.toNat / 2^k % 2=0:=by omega
   simp [h0]
theorem QII (b:Int) {k:Nat} (hk:k<64):WL b k=b / 2^k % 2:=by
 rw [Y9 b hk,QHP,BitVec.toNat_ofInt]
 have h1:(0:Int)≤b % ((2^64:Nat):Int):=Int.emod_nonneg _ (by decide)
 have e:(((b % ((2^64:Nat):Int)).toNat:Nat):Int)=b % ((2^64:Nat):Int):=Int.toNat_of_nonneg h1
 rw [Int.natCast_emod,Int.natCast_ediv,e]
 have hs:((2^64:Nat):Int)=2^k*(2*2^(63-k)):=by
  have:(64:Nat)=k+(1+(63-k)):=by omega
  rw [show ((2^64:Nat):Int)=(2:Int)^64 from by decide,this,Int.pow_add,Int.pow_add]
  rfl
 have hb:b=b % ((2^64:Nat):Int)+2^k*(2*2^(63-k))*(b / ((2^64:Nat):Int)):=by
  rw [← hs];exact (Int.emod_add_mul_ediv ..).symm
 generalize b % ((2^64:Nat):Int)=m at *
 generalize b / ((2^64:Nat):Int)=q at *
 have hp:((2:Int)^k)≠0:=Int.ne_of_gt (Int.pow_pos (by decide))
 rw [hb,Int.mul_assoc,Int.add_mul_ediv_left _ _ hp,Int.mul_assoc,Int.add_mul_emod_self_left]
 simp
def zF (b:Int) (j:Nat):Int:=b / 2^(64-j)
theorem z7 (b:Int) {j:Nat} (hj:j<64):zF b (j+1)=2*zF b j+WL b ((63-j:Nat):Int):=by
 unfold zF
 rw [QII b (show 63-j<64 by omega),show 64-(j+1)=63-j by omega,show 64-j=(63-j)+1 by omega,Int.pow_succ,← Int.ediv_ediv_of_nonneg (Int.le_of_lt (Int.pow_pos (by decide)))]
 omega
theorem QAU {b:Int} (hb : -9223372036854775808≤b∧b<9223372036854775808) {j:Nat} : -9223372036854775808≤zF b j∧zF b j≤9223372036854775808:=by
 unfold zF
 have hp:(0:Int)<2^(64-j):=Int.pow_pos (by decide)
 constructor
 · refine (Int.le_ediv_iff_mul_le hp).2 ?_
   generalize (2:Int)^(64-j)=q at *
   omega
 · by_cases h:b<0
   · have:=Int.ediv_neg_of_neg_of_pos h hp
     omega
   · have:=Int.ediv_le_self (2^(64-j)) (show 0≤b by omega)
     omega
theorem QIi {b:Int} (hb : -9223372036854775808≤b∧b<9223372036854775808) {j:Nat} (hj:j<64) : -4611686018427387904≤zF b j∧zF b j≤4611686018427387904:=by
 have h:=z7 b hj
 have h1:=QAU hb (j:=j+1)
 have h2:WL b ((63-j:Nat):Int)=0∨WL b ((63-j:Nat):Int)=1:=by
  rw [Y9 b (by omega)]
  cases (BitVec.ofInt 64 b).getLsbD (63-j)
  · exact .inl rfl
  · exact .inr rfl
 omega
theorem QK3 {a t:Int} (ha : -9223372036854775808≤a∧a≤9223372036854775808) (ht : -4611686018427387904≤t∧t≤4611686018427387904) : -42535295865117307932921825928971026432≤a*t∧a*t≤42535295865117307932921825928971026432:=by
 have h:=Nat.mul_le_mul (show a.natAbs≤9223372036854775808 by omega) (show t.natAbs≤4611686018427387904 by omega)
 rw [← Int.natAbs_mul] at h
 generalize a*t=q at *
 omega
theorem ZL (x:Int):IntKind.u64.wrap x=x % 18446744073709551616:=by simp [IntKind.wrap,IntKind.signed,IntKind.bits]
theorem QGw (x:Int):x.fdiv (2^63)=x / 9223372036854775808:=by rw [Int.fdiv_eq_ediv_of_nonneg _ (by decide)];rfl
theorem Qm {x:Int} (h1 : -9223372036854775808≤x) (h2:x<9223372036854775808):IntKind.i64.wrap x=x:=by
 simp only [IntKind.wrap,IntKind.signed,IntKind.bits];simp;omega
theorem QJ0 {P:Int} (hP : -42535295865117307932921825928971026432≤P∧P≤42535295865117307932921825928971026432):IntKind.i64.wrap (IntKind.i64.wrap (P / 18446744073709551616*2)+IntKind.i64.wrap ((P % 18446744073709551616).fdiv (2^63)))=2*P / 18446744073709551616∧IntKind.u64.wrap (P % 18446744073709551616*2)=2*P % 18446744073709551616:=by
 rw [QGw,ZL,Qm (x:=P / 18446744073709551616*2) (by omega) (by omega),Qm (x:=P % 18446744073709551616 / 9223372036854775808) (by omega) (by omega),Qm (by omega) (by omega)]
 omega
theorem QJ1 {a Q:Int} (ha : -9223372036854775808≤a∧a<9223372036854775808) (hS : -85070591730234615865843651857942052864≤Q+a∧Q+a≤85070591730234615865843651857942052864) :
 (if IntKind.u64.wrap (Q % 18446744073709551616+IntKind.u64.wrap a)<Q % 18446744073709551616 then IntKind.i64.wrap (IntKind.i64.wrap (Q / 18446744073709551616+a.fdiv (2^63))+1) else IntKind.i64.wrap (Q / 18446744073709551616+a.fdiv (2^63)))=(Q+a) / 18446744073709551616∧IntKind.u64.wrap (Q % 18446744073709551616+IntKind.u64.wrap a)=(Q+a) % 18446744073709551616:=by
 rw [QGw,ZL,ZL]
 have h1:IntKind.i64.wrap (Q / 18446744073709551616+a / 9223372036854775808)=Q / 18446744073709551616+a / 9223372036854775808:=Qm (by omega) (by omega)
 rw [h1]
 refine ⟨?_,by omega⟩
 split
 · rw [Qm (by omega) (by omega)];omega
 · omega
theorem QGE {a b:Int} (ha : -9223372036854775808≤a∧a<9223372036854775808):w6 a b 0 (0,0)=(-(a*WL b 63) / 18446744073709551616,-(a*WL b 63) % 18446744073709551616):=by
 have hb:WL b 63=0∨WL b 63=1:=by
  have:=Y9 b (n:=63) (by decide)
  rw [show ((63:Nat):Int)=63 from rfl] at this
  rw [this]
  cases (BitVec.ofInt 64 b).getLsbD 63
  · exact .inl rfl
  · exact .inr rfl
 unfold w6
 simp only [show (63:Int)-((0:Nat):Int)=63 from rfl,show IntKind.i64.wrap (IntKind.i64.wrap (0*2)+IntKind.i64.wrap ((0:Int).fdiv (2^63)))=0 from by decide,show IntKind.u64.wrap (0*2)=0 from by decide,if_true]
 rcases hb with h|h
 · rw [h,if_pos rfl];simp
 · rw [h,if_neg (by decide),Int.mul_one,QGw]
   simp only [ZL]
   have h1:IntKind.i64.wrap (0-a / 9223372036854775808)=0-a / 9223372036854775808:=Qm (by omega) (by omega)
   rw [h1]
   refine Prod.ext ?_ (by show _ % _=_;omega)
   show (if _ then _ else _) = -a / 18446744073709551616
   split
   · rw [Qm (by omega) (by omega)];omega
   · have h0:a=0:=by omega
     subst h0
     decide
theorem QCR {a b:Int} (ha : -9223372036854775808≤a∧a<9223372036854775808) (hb : -9223372036854775808≤b∧b<9223372036854775808):∀ j,j<64→YT (w6 a b) (0,0) (j+1)=(a*zF b (j+1) / 18446744073709551616,a*zF b (j+1) % 18446744073709551616)
 | 0,_=>by
   have e:=z7 b (j:=0) (by decide)
   have e0:zF b 0=if b<0 then -1 else 0:=by
    unfold zF
    rw [show (2:Int)^(64-0)=18446744073709551616 from by decide]
    split<;>omega
   have e1:WL b 63=if b<0 then 1 else 0:=by
    have:=QII b (k:=63) (by decide)
    rw [show (2:Int)^63=9223372036854775808 from by decide] at this
    rw [show ((63:Nat):Int)=63 from rfl] at this
    rw [this]
    split<;>omega
   rw [Ul,QId,QGE ha,e,e0,show ((63-0:Nat):Int)=63 from rfl,e1]
   split
   · simp
   · simp
 | j+1,hj=>by
   rw [Ul,QCR ha hb j (by omega),z7 b hj]
   have hP:=QK3 (a:=a) (t:=zF b (j+1)) ⟨ha.1,by omega⟩ (QIi hb (by omega))
   have hS:=QCu (a:=a) (t:=zF b (j+1+1)) ⟨ha.1,by omega⟩ (QAU hb)
   rw [z7 b hj,Int.mul_add,← Int.mul_assoc,Int.mul_comm a 2,Int.mul_assoc] at hS
   rw [Int.mul_add,← Int.mul_assoc,Int.mul_comm a 2,Int.mul_assoc]
   unfold w6
   have hk:(63:Int)-((j+1:Nat):Int)=((63-(j+1):Nat):Int):=by omega
   have hk2:¬((63-(j+1):Nat):Int)=63:=by omega
   simp only [hk]
   generalize a*zF b (j+1)=P at *
   obtain ⟨d1,d2⟩:=QJ0 hP
   rw [d1,d2]
   have hb2:WL b ((63-(j+1):Nat):Int)=0∨WL b ((63-(j+1):Nat):Int)=1:=by
    rw [Y9 b (by omega)]
    cases (BitVec.ofInt 64 b).getLsbD (63-(j+1))
    · exact .inl rfl
    · exact .inr rfl
   rcases hb2 with h|h
   · rw [h,if_pos rfl];simp
   · rw [h] at hS ⊢
     rw [if_neg (by decide),if_neg hk2,Int.mul_one]
     rw [Int.mul_one] at hS
     obtain ⟨w1,w2⟩:=QJ1 (a:=a) (Q:=2*P) ha hS
     exact Prod.ext w1 w2
theorem zA {a b:Int} (ha : -9223372036854775808≤a∧a<9223372036854775808) (hb : -9223372036854775808≤b∧b<9223372036854775808):w5 a b=(a*b / 18446744073709551616,a*b % 18446744073709551616):=by
 have h:=QCR ha hb 63 (by decide)
 rw [show zF b (63+1)=b from by unfold zF;simp] at h
 exact h
theorem qB {a b:Int} (ha : -9223372036854775808≤a∧a<9223372036854775808) (hb : -9223372036854775808≤b∧b<9223372036854775808) :
 let ua:=a % 18446744073709551616
 let ub:=b % 18446744073709551616
 let h0:=ua*ub / 18446744073709551616
 let h1:=if a<0 then (h0-ub) % 18446744073709551616 else h0
 let h2:=if b<0 then (h1-ua) % 18446744073709551616 else h1
 IntKind.i64.wrap h2=a*b / 18446744073709551616∧ua*ub % 18446744073709551616=a*b % 18446744073709551616:=by
 intro ua ub h0 h1 h2
 have hP:=QCu (a:=a) (t:=b) ⟨ha.1,by omega⟩ ⟨hb.1,by omega⟩
 have hi:∀ x,x % 18446744073709551616=(a*b / 18446744073709551616) % 18446744073709551616→IntKind.i64.wrap x=a*b / 18446744073709551616:=by
  intro x hx
  have hr : -9223372036854775808≤a*b / 18446744073709551616∧a*b / 18446744073709551616<9223372036854775808:=by
   generalize a*b=P at *
   omega
  rw [← Qm hr.1 hr.2]
  generalize a*b / 18446744073709551616=q at *
  simp only [IntKind.wrap,IntKind.signed,IntKind.bits]
  simp
  rw [hx]
 by_cases h1':a<0<;>by_cases h2':b<0
 · have e1:ua=a+18446744073709551616:=by show a % _=_;omega
   have e2:ub=b+18446744073709551616:=by show b % _=_;omega
   have e:ua*ub=a*b+18446744073709551616*a+18446744073709551616*b+340282366920938463463374607431768211456:=by
    rw [e1,e2,Int.add_mul,Int.mul_add,Int.mul_add];omega
   have E1:h1=(h0-ub) % 18446744073709551616:=if_pos h1'
   have E2:h2=(h1-ua) % 18446744073709551616:=if_pos h2'
   have E0:h0=ua*ub / 18446744073709551616:=rfl
   rw [e] at E0 ⊢
   refine ⟨hi _ ?_,?_⟩
   · rw [E2,E1,E0,e1,e2]
     generalize a*b=P at *
     omega
   · generalize a*b=P at *
     omega
 · have e1:ua=a+18446744073709551616:=by show a % _=_;omega
   have e2:ub=b:=by show b % _=_;omega
   have e:ua*ub=a*b+18446744073709551616*b:=by rw [e1,e2,Int.add_mul]
   have E1:h1=(h0-ub) % 18446744073709551616:=if_pos h1'
   have E2:h2=h1:=if_neg h2'
   have E0:h0=ua*ub / 18446744073709551616:=rfl
   rw [e] at E0 ⊢
   refine ⟨hi _ ?_,?_⟩
   · rw [E2,E1,E0,e2]
     generalize a*b=P at *
     omega
   · generalize a*b=P at *
     omega
 · have e1:ua=a:=by show a % _=_;omega
   have e2:ub=b+18446744073709551616:=by show b % _=_;omega
   have e:ua*ub=a*b+18446744073709551616*a:=by rw [e1,e2,Int.mul_add];omega
   have E1:h1=h0:=if_neg h1'
   have E2:h2=(h1-ua) % 18446744073709551616:=if_pos h2'
   have E0:h0=ua*ub / 18446744073709551616:=rfl
   rw [e] at E0 ⊢
   refine ⟨hi _ ?_,?_⟩
   · rw [E2,E1,E0,e1]
     generalize a*b=P at *
     omega
   · generalize a*b=P at *
     omega
 · have e1:ua=a:=by show a % _=_;omega
   have e2:ub=b:=by show b % _=_;omega
   have e:ua*ub=a*b:=by rw [e1,e2]
   have E1:h1=h0:=if_neg h1'
   have E2:h2=h1:=if_neg h2'
   have E0:h0=ua*ub / 18446744073709551616:=rfl
   rw [e] at E0 ⊢
   exact ⟨hi _ (by rw [E2,E1,E0]),rfl⟩
def Xp (c:Nat):Nat→Nat
 | 0=>0
 | n+1=>Xp c n*256+c
def XV:List Nat→Nat
 | []=>0
 | c::l=>XV l*256+c
theorem U6 (a b c d:Nat) (hb:b<256) (hd:d<256):(a*256+b) &&& (c*256+d)=(a &&& c)*256+(b &&& d):=by
 have hbd:b &&& d<2^8:=Nat.lt_of_le_of_lt Nat.and_le_left hb
 apply Nat.eq_of_testBit_eq
 intro i
 rw [show 256=2^8 from rfl,Nat.mul_comm a,Nat.mul_comm c,Nat.mul_comm (a &&& c),Nat.testBit_and,Nat.testBit_two_pow_mul_add _ (show b<2^8 from hb),Nat.testBit_two_pow_mul_add _ (show d<2^8 from hd),Nat.testBit_two_pow_mul_add _ hbd]
 split<;>rw [Nat.testBit_and]
def s1 (x:Nat):Nat:=(x / 2 &&& 0x55)+(x &&& 0x55)
def s2 (x:Nat):Nat:=(x / 4 &&& 0x33)+(x &&& 0x33)
def s3 (x:Nat):Nat:=(x / 16+x) &&& 0x0f
def QEC (x:Nat):Nat:=x % 2+x / 2 % 2+x / 4 % 2+x / 8 % 2+x / 16 % 2+x / 32 % 2+x / 64 % 2+x / 128 % 2
theorem QUs:∀ x:Fin 256,s3 (s2 (s1 x))=QEC x:=by decide +kernel
theorem QPv:∀ x:Fin 256,∀ h:Fin 2,(h.1*128+x.1 / 2) &&& 0x55=x.1 / 2 &&& 0x55:=by decide +kernel
theorem QPt:∀ x:Fin 256,∀ h:Fin 4,(h.1*64+x.1 / 4) &&& 0x33=x.1 / 4 &&& 0x33:=by decide +kernel
theorem QPs:∀ x:Fin 119,∀ h:Fin 8,(h.1*16+x.1 / 16+x.1) &&& 0x0f=(x.1 / 16+x.1) &&& 0x0f:=by decide +kernel
theorem QSw:∀ x:Fin 256,s1 x<171:=by decide +kernel
theorem QPu:∀ x:Fin 171,s2 x / 16<8∧s2 x % 16<8∧s2 x<119:=by decide +kernel
theorem QMI:∀ l:List Nat,(∀ c∈l,c<256)→(XV l / 2 &&& Xp 0x55 l.length)+(XV l &&& Xp 0x55 l.length)=XV (l.map s1)
 | [],_=>rfl
 | c::l,h=>by
   have hc:=h c (by simp)
   have ih:=QMI l fun d hd=>h d (by simp [hd])
   simp only [XV,List.length_cons,Xp,List.map_cons]
   have e:(XV l*256+c) / 2=XV l / 2*256+(XV l % 2*128+c / 2):=by omega
   have h2:XV l % 2<2:=Nat.mod_lt _ (by decide)
   have et:=QPv ⟨c,hc⟩ ⟨_,h2⟩
   simp only at et
   rw [e,U6 _ _ _ _ (by omega) (by decide),U6 _ _ _ _ hc (by decide),et,← ih]
   unfold s1
   omega
theorem QMH:∀ l:List Nat,(∀ c∈l,c<256)→(XV l / 4 &&& Xp 0x33 l.length)+(XV l &&& Xp 0x33 l.length)=XV (l.map s2)
 | [],_=>rfl
 | c::l,h=>by
   have hc:=h c (by simp)
   have ih:=QMH l fun d hd=>h d (by simp [hd])
   simp only [XV,List.length_cons,Xp,List.map_cons]
   have e:(XV l*256+c) / 4=XV l / 4*256+(XV l % 4*64+c / 4):=by omega
   have h2:XV l % 4<4:=Nat.mod_lt _ (by decide)
   have et:=QPt ⟨c,hc⟩ ⟨_,h2⟩
   simp only at et
   rw [e,U6 _ _ _ _ (by omega) (by decide),U6 _ _ _ _ hc (by decide),et,← ih]
   unfold s2
   omega
theorem QMG:∀ l:List Nat,(∀ c∈l,c<119∧c % 16<8)→(XV l / 16+XV l) &&& Xp 0x0f l.length=XV (l.map s3)∧XV l % 16<8
 | [],_=>⟨rfl,by decide⟩
 | c::l,h=>by
   have hc:=h c (by simp)
   obtain ⟨ih,h8⟩:=QMG l fun d hd=>h d (by simp [hd])
   simp only [XV,List.length_cons,Xp,List.map_cons]
   have e:(XV l*256+c) / 16+(XV l*256+c)=(XV l / 16+XV l)*256+(XV l % 16*16+c / 16+c):=by omega
   have et:=QPs ⟨c,hc.1⟩ ⟨_,h8⟩
   simp only at et
   rw [e,U6 _ _ _ _ (by omega) (by decide),et,← ih]
   exact ⟨rfl,by omega⟩
def Yn:Nat→Nat→List Nat
 | 0,_=>[]
 | n+1,x=>x % 256::Yn n (x / 256)
theorem QAQ:∀ (n x:Nat),x<256^n→XV (Yn n x)=x
 | 0,x,h=>by simp at h;subst h;rfl
 | n+1,x,h=>by
   have h1:x / 256<256^n:=by rw [Nat.pow_succ] at h;exact Nat.div_lt_of_lt_mul (by rw [Nat.mul_comm];exact h)
   rw [Yn,XV,QAQ n _ h1]
   omega
theorem QF2:∀ (n x:Nat),∀ c∈Yn n x,c<256
 | 0,_,c,h=>by simp [Yn] at h
 | n+1,x,c,h=>by
   rw [Yn] at h
   rcases List.mem_cons.1 h with e|e
   · omega
   · exact QF2 n _ c e
theorem QDU:∀ (n x:Nat),(Yn n x).length=n
 | 0,_=>rfl
 | n+1,x=>by rw [Yn,List.length_cons,QDU]
end Go.Eng
