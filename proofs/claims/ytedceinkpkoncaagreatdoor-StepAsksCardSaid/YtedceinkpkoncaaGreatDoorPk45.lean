/- A part of the proof: walks through the program's functions, and what they compute. -/
import Derived.Test.YtedceinkpkoncaaGreatDoorPk20
set_option linter.unusedSimpArgs false
set_option linter.unusedVariables false
namespace Go.Eng
open Go.RowKit
variable {H:Type} {enc:TypeId × Value→H} {P:Program} {T:Tab} {w:World} {base:Nat} {spare:Nat→Bool} {held:Bool} {F:Nat→Prop}
theorem QAA {α:Type} {f:α→V} {q:α→Prop} {e:TypeId} (hf:∀ v cs,Fits T w F e v cs→∃ a,q a∧v=f a):∀ {n:Nat} {l:List V} {cs:List Value},FitsL T w F (List.replicate n e) l cs→∃ m:List α,(∀ a∈m,q a)∧l=m.map f
 | 0,l,cs,h=>by cases h;exact ⟨[],by simp,rfl⟩
 | n+1,l,cs,h=>by
   rw [List.replicate_succ] at h
   cases h with
   | cons h1 h2 =>
     obtain ⟨a,ha,rfl⟩:=hf _ _ h1
     obtain ⟨m,hm,rfl⟩:=QAA hf h2
     exact ⟨a::m,by simpa using ⟨ha,hm⟩,rfl⟩
end Go.Eng
namespace Go.Eng.Tryz
open Go.RowKit Go.Eng
variable {w:World} {F:Nat→Prop}
theorem Uf {α:Type} {f:α→V} {q:α→Prop} {t e:TypeId} {n:Nat} (ht:tab.ty t=.arr n e) (hf:∀ v cs,Fits tab w F e v cs→∃ a,q a∧v=f a) {v:V} {cs:List Value} (h:Fits tab w F t v cs):∃ m:List α,m.length=n∧(∀ a∈m,q a)∧v=.agg (m.map f):=by
 obtain ⟨l,hl,hf'⟩:=h.inv' ht
 obtain ⟨m,hm,rfl⟩:=QAA hf hf'
 have:=hf'.lens
 simp at this
 exact ⟨m,this,hm,hl⟩
theorem QJS (v:V) (cs:List Value) (h:Fits tab w F 34 v cs):∃ a:Gor,a.regs.length=8∧v=a.v:=by
 obtain ⟨l,rfl,hl⟩:=h.inv' QKM
 cases hl with|cons h1 hl=>cases hl with|cons h2 hl=>cases hl with|cons h3 hl=>cases hl with|cons h4 hl=>cases hl with|cons h5 hl=>cases hl with|nil =>
  obtain ⟨a1,_,rfl⟩:=Qo qS _ _ h1
  obtain ⟨a2,_,rfl⟩:=Qo qS _ _ h2
  obtain ⟨a3,_,rfl⟩:=Qo qS _ _ h3
  obtain ⟨a4,_,rfl⟩:=Qo qS _ _ h4
  obtain ⟨a5,hl5,_,rfl⟩:=Uf QNF (Qo ty2) h5
  exact ⟨⟨a1,a2,a3,a4,a5⟩,hl5,rfl⟩
theorem QJV (v:V) (cs:List Value) (h:Fits tab w F 31 v cs):∃ a:Chn,a.buf.length=4∧v=a.v:=by
 obtain ⟨l,rfl,hl⟩:=h.inv' QKN
 cases hl with|cons h1 hl=>cases hl with|cons h2 hl=>cases hl with|cons h3 hl=>cases hl with|cons h4 hl=>cases hl with|cons h5 hl=>cases hl with|cons h6 hl=>cases hl with|nil =>
  obtain ⟨a1,hl1,_,rfl⟩:=Uf QPL (Qo ty2) h1
  obtain ⟨a2,_,rfl⟩:=Qo qS _ _ h2
  obtain ⟨a3,rfl⟩:=xo ty4 _ _ h3
  obtain ⟨a4,_,rfl⟩:=Qo qS _ _ h4
  obtain ⟨a5,_,rfl⟩:=Qo qS _ _ h5
  obtain ⟨a6,_,rfl⟩:=Qo ty2 _ _ h6
  exact ⟨⟨a1,a2,a3,a4,a5,a6⟩,hl1,rfl⟩
theorem v9 (v:V) (cs:List Value) (h:Fits tab w F 37 v cs):∃ a:Stt,a.Shape∧v=a.v:=by
 obtain ⟨l,rfl,hl⟩:=h.inv' QKL
 cases hl with|cons h1 hl=>cases hl with|cons h2 hl=>cases hl with|cons h3 hl=>cases hl with|cons h4 hl=>cases hl with|cons h5 hl=>cases hl with|nil =>
  obtain ⟨a1,l1,_,rfl⟩:=Uf QNF (Qo ty2) h1
  obtain ⟨a2,l2,_,rfl⟩:=Uf QPM (Qo qS) h2
  obtain ⟨a3,l3,q3,rfl⟩:=Uf QPK QJV h3
  obtain ⟨a4,l4,q4,rfl⟩:=Uf QNE QJS h4
  obtain ⟨a5,_,rfl⟩:=Qo qS _ _ h5
  exact ⟨⟨a1,a2,a3,a4,a5⟩,⟨l1,l2,l3,q3,l4,q4⟩,rfl⟩
end Go.Eng.Tryz
namespace Go.Eng.Tryz
open Go.RowKit Go.Eng
set_option maxHeartbeats 0
set_option maxRecDepth 20000
theorem QDp:s0.Shape:=⟨rfl,rfl,rfl,by intro c hc;simp [s0] at hc;subst hc;rfl,rfl,by intro g hg;simp [s0] at hg;rcases hg with rfl|rfl<;>rfl⟩
theorem QIL:s1.Shape:=⟨rfl,rfl,rfl,by intro c hc;simp [s1] at hc;subst hc;rfl,rfl,by intro g hg;simp [s1] at hg;rcases hg with rfl|rfl<;>rfl⟩
theorem QID:Ctr Go.Proofs.Tryz.prog tab 26 [26,37] [64,49] [p0.v,s0.v] [.list [Pck.v ⟨0,0⟩],.int 0]:=by
 have h:=Wh p0 s0 ve QDp
 rw [show ZO p0 s0=0 by decide +kernel,if_pos rfl,show ready p0 s0=[⟨0,0⟩] by decide +kernel] at h
 exact h
theorem QNK:Ctr Go.Proofs.Tryz.prog tab 15 [26,37,39,3] [37,48,49] [p0.v,s0.v,Pck.v ⟨0,0⟩,.int 1] [s1.v,e1.v,.int 0]:=by
 have h:=Uz p0 s0 ⟨0,0⟩ 1 ve QDp
 rw [show xQ p0 s0 ⟨0,0⟩ 1=(s1,e1,0) by decide +kernel] at h
 exact h
theorem QNJ:Ctr Go.Proofs.Tryz.prog tab 15 [26,37,39,3] [37,48,49] [p0.v,s1.v,Pck.v ⟨0,0⟩,.int 1] [zeroStt.v,zeroEvent.v,.int 5]:=by
 have h:=Uz p0 s1 ⟨0,0⟩ 1 ve QIL
 rw [show xQ p0 s1 ⟨0,0⟩ 1=(zeroStt,zeroEvent,5) by decide +kernel] at h
 exact h
def QI2:List (List Nat):=[[],[1],[1,2],[1,2],[1,2,3,4],[1,3,4,5,6,7],[3,4,5,6,7,10],[0]]
theorem Ur:Ctr Go.Proofs.Tryz.prog tab 17 [] [4] [] [.bool true]:=by
 have hmx:256≤maxLen:=by decide
 refine Ctr.body ok Go.Proofs.Tryz.func17 rfl rfl 75 rfl [.tmp 0] rfl (by simp [QE]) ?_
 simp only [go_sem,Nat.reduceAdd]
 repeat' first
  | ((with_reducible refine SARW.told 1 3 ?_)
     refine J48 (J49 ok.sized 0 rfl) ?_
     simp only [St.frz,Tm.frz,E.frz,E.frzL,Obj.frz,List.map_cons,List.map_nil,List.set_cons_zero,List.set_cons_succ,Nat.reduceBEq,Nat.beq_refl,if_true,if_false,Nat.beq_eq_true_eq,reduceCtorEq,Bool.false_eq_true,V.get,Nat.reduceEqDiff])
  | ((with_reducible refine SARW.told 1 5 ?_)
     refine J48 (J49 ok.sized 1 rfl) ?_
     simp only [St.frz,Tm.frz,E.frz,E.frzL,Obj.frz,List.map_cons,List.map_nil,List.set_cons_zero,List.set_cons_succ,Nat.reduceBEq,Nat.beq_refl,if_true,if_false,Nat.beq_eq_true_eq,reduceCtorEq,Bool.false_eq_true,V.get,Nat.reduceEqDiff])
  | ((with_reducible first|refine Q2 fun R1 hR1=>?_|refine SARW.do fun R1 hR1=>?_);(simp only [go_sem,seval,-List.reduceReplicate,Bool.cond_false_right,Bool.cond_true_left]);(repeat' with_reducible refine And.intro ?_ ?_);all_goals first|(refine hR1 _ ?_;clear hR1 R1)|((first|refine ce (cf (QID) ?_ (by first|rfl|(simp [go_sem,List.length_map,List.take_of_length_le];done)|fail))|refine ce (cf (QNK) ?_ (by first|rfl|(simp [go_sem,List.length_map,List.take_of_length_le];done)|fail))|refine ce (cf (QNJ) ?_ (by first|rfl|(simp [go_sem,List.length_map,List.take_of_length_le];done)|fail)));all_goals ((try simp only [go_sem,seval,-List.reduceReplicate,Bool.cond_false_right,Bool.cond_true_left]);(repeat' with_reducible refine And.intro ?_ ?_);all_goals first|(refine hR1 _ ?_;clear hR1 R1)|exact Xk))|exact Xk)
  | ((with_reducible first|refine Q1 ?_|refine SARW.nil ?_);refine hR _ ?_;clear hR R;try simp only [go_sem,QI2,Nat.reduceBEq])
  | (with_reducible first|refine J1 ?_|refine J2 ?_|refine Q0 ?_|refine Qz ?_)
  | ((with_reducible refine QZ 2 ?_)
     refine Zo (Qq (show _=({ tm:=[(1,true,.ptr 2 [] 26)],ob:=[.dead,.dead,.var 26 (.data 26 p0.v)],out:=[],nt:=75 }:St) from rfl)) ?_
     (with_reducible refine rg QI2 fun R hR=>?_);simp only [go_sem,QC])
  | ((with_reducible refine QZ 4 ?_)
     refine Zo (Qq (show _=({ tm:=[(1,true,.ptr 2 [] 26),(2,true,.ptr 3 [] 37)],ob:=[.dead,.dead,.var 26 (.data 26 p0.v),.var 37 (.data 37 s0.v)],out:=[],nt:=75 }:St) from rfl)) ?_
     (with_reducible refine rg QI2 fun R hR=>?_);simp only [go_sem,QC])
  | ((with_reducible refine QZ 1 ?_)
     skip
     (with_reducible refine SA.regionWN ok (by kernel_rfl) QI2 ?_);intro R hR;simp only [go_sem,QC])
  | ((with_reducible refine rg QI2 fun R hR=>?_);simp only [go_sem,QC])
  | ((with_reducible first|refine ZH ?_|refine ZG ?_)
     simp only [go_sem,QJ,QK,QG,seval]
     exact ⟨rfl,rfl⟩)
end Go.Eng.Tryz
