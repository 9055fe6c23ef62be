/- A part of the proof: walks through the program's functions, and what they compute. -/
import Derived.Test.YtedceinkpkoncaaGreatDoorPk39
import Derived.Test.YtedceinkpkoncaaGreatDoorPk43
import Derived.Test.YtedceinkpkoncaaGreatDoorPk45
import Derived.Test.YtedceinkpkoncaaGreatDoorPk47
set_option linter.unusedSimpArgs false
set_option linter.unusedVariables false
namespace Go.Eng
def QJn (p:Prg) (s:Stt) (x:Pck) (fuel:Int):V:=.agg [p.v,s.v,x.v,.int fuel]
end Go.Eng
namespace Go.Eng.Tryz
open Go.RowKit Go.Eng
variable {w:World} {F:Nat→Prop}
theorem QJU (v:V) (cs:List Value) (h:Fits tab w F 41 v cs):∃ (p:Prg) (s:Stt) (x:Pck) (fuel:Int),s.Shape∧v=QJn p s x fuel:=by
 obtain ⟨l,rfl,hl⟩:=h.inv' QNC
 cases hl with|cons h1 hl=>cases hl with|cons h2 hl=>cases hl with|cons h3 hl=>cases hl with|cons h4 hl=>cases hl with|nil =>
  obtain ⟨a1,rfl⟩:=Wl _ _ h1
  obtain ⟨a2,hs,rfl⟩:=v9 _ _ h2
  obtain ⟨a3,rfl⟩:=xn _ _ h3
  obtain ⟨a4,_,rfl⟩:=Qo qS _ _ h4
  exact ⟨a1,a2,a3,a4,hs,rfl⟩
theorem QLP {p:Prg} {s:Stt} {x:Pck} {fuel:Int} (h:V.Lens (QJn p s x fuel)):p.Fit:=Prg.fit_of (V.Lens.of_agg h p.v (by simp))
end Go.Eng.Tryz
namespace Go.Eng.Tryz
open Go.RowKit Go.Eng
set_option maxHeartbeats 0
set_option maxRecDepth 20000
theorem QJc {p:Prg} {s:Stt} {x:Pck} {fuel:Int} (h:QP p=false):xQ p s x fuel=(zeroStt,zeroEvent,3):=by
 have e:ZO p s=3:=by unfold ZO;rw [h];rfl
 rw [QC8 (by rw [e];decide),e]
theorem QJb {p:Prg} {s:Stt} {x:Pck} {fuel:Int} (h:QP p=true) (h2:Zf p s=false):xQ p s x fuel=(zeroStt,zeroEvent,4):=by
 have e:ZO p s=4:=by unfold ZO;rw [h,h2];rfl
 rw [QC8 (by rw [e];decide),e]
theorem QJZ {p:Prg} {s:Stt} {x:Pck} {fuel:Int} (h:QP p=true) (h2:Zf p s=true):xQ p s x fuel=YV QB p s x fuel:=by
 have e:ZO p s=0:=by unfold ZO;rw [h,h2];decide
 unfold xQ
 rw [e,if_neg (by decide)]
def lv3:List (List Nat):=[[1],[1,3],[1,3,4,5,6],[1,4,5,6,33],[2],[1,4,5,6,37],[2],[1,4,5,6,55],[2],[4,5,6,7,8,9],[2]]
theorem QCN (p:Prg) (s:Stt) (x:Pck) (fuel:Int) (hp:p.Fit) (hz:p.Sz) (hs:s.Shape):Ctr Go.Proofs.Tryz.prog tab 3 [41] [4] [QJn p s x fuel] [.bool true]:=by
 have hpp:=hp
 have hfit:=hp
 have hcode:=p.code_len hp
 have hsl:=p.sels_len hp
 obtain ⟨hp1,hp2,hp3,hp4⟩:=hp
 have hmx:256≤maxLen:=by decide
 refine Ctr.body ok Go.Proofs.Tryz.func3 rfl rfl 94 rfl [.tmp 2] rfl (by simp [QE]) ?_
 simp only [go_sem,Nat.reduceAdd]
 repeat' first
  | ((with_reducible refine Q2 fun R1 hR1=>?_);(simp only [go_sem,seval,-List.reduceReplicate,Bool.cond_false_right,Bool.cond_true_left,decide_true,decide_false,Bool.not_true,Bool.not_false,Stt.beq,Event.beq,QF,ZY]);(repeat' with_reducible refine And.intro ?_ ?_);all_goals first|(refine hR1 _ ?_;clear hR1 R1)|(intro hgf;simp only [hgf];refine hR1 _ ?_;clear hR1 R1)|((first|refine ⟨_,_,rfl,.inr (CallE.ctrZ (VK p hpp hz) (by first|rfl|(simp [go_sem,List.take_of_length_le,List.length_map];done)|fail) ?_)⟩|refine ⟨_,_,rfl,.inr ⟨fun _=>CallE.ctrZ (VK p hpp hz) (by first|rfl|(simp [go_sem,List.take_of_length_le,List.length_map];done)|fail) ?_,?_⟩⟩|refine ce (cf (Uz p s x fuel hpp hs) ?_ (by first|rfl|(simp [go_sem,List.take_of_length_le,List.length_map];done)|fail))|refine ⟨_,_,rfl,.inr ⟨fun _=>CallE.ctr ok (Uz p s x fuel hpp hs) (by first|rfl|(simp [go_sem,List.take_of_length_le,List.length_map];done)|fail) ?_,?_⟩⟩|refine cq (cc (VF p hpp) (by first|rfl|(simp [go_sem,List.take_of_length_le,List.length_map];done)|fail)) ?_|refine ⟨_,_,rfl,.inl ⟨_,fun hg=>CallQ.ctr ok (VF p hpp) (by first|rfl|(simp [go_sem,List.take_of_length_le,List.length_map];done)|fail) rfl,?_⟩⟩|refine cq (cc (Ur) (by first|rfl|(simp [go_sem,List.take_of_length_le,List.length_map];done)|fail)) ?_|refine ⟨_,_,rfl,.inl ⟨_,fun hg=>CallQ.ctr ok (Ur) (by first|rfl|(simp [go_sem,List.take_of_length_le,List.length_map];done)|fail) rfl,?_⟩⟩|refine cq (cc (YK p hpp) (by first|rfl|(simp [go_sem,List.take_of_length_le,List.length_map];done)|fail)) ?_|refine ⟨_,_,rfl,.inl ⟨_,fun hg=>CallQ.ctr ok (YK p hpp) (by first|rfl|(simp [go_sem,List.take_of_length_le,List.length_map];done)|fail) rfl,?_⟩⟩|refine cq (cc (VN p s hpp hs) (by first|rfl|(simp [go_sem,List.take_of_length_le,List.length_map];done)|fail)) ?_|refine ⟨_,_,rfl,.inl ⟨_,fun hg=>CallQ.ctr ok (VN p s hpp hs) (by first|rfl|(simp [go_sem,List.take_of_length_le,List.length_map];done)|fail) rfl,?_⟩⟩|refine ce (cf (QAD p s x fuel hpp hb37 hw9) ?_ (by first|rfl|(simp [go_sem,List.take_of_length_le,List.length_map];done)|fail))|refine ⟨_,_,rfl,.inr ⟨fun _=>CallE.ctr ok (QAD p s x fuel hpp hb37 hw9) (by first|rfl|(simp [go_sem,List.take_of_length_le,List.length_map];done)|fail) ?_,?_⟩⟩);all_goals ((try simp only [go_sem,seval,-List.reduceReplicate,Bool.cond_false_right,Bool.cond_true_left,decide_true,decide_false,Bool.not_true,Bool.not_false,Stt.beq,Event.beq,QF,ZY]);(repeat' with_reducible refine And.intro ?_ ?_);all_goals first|(refine hR1 _ ?_;clear hR1 R1)|(intro hgf;simp only [hgf];refine hR1 _ ?_;clear hR1 R1)|exact Xk))|exact Xk)
  | ((with_reducible refine Q1 ?_);refine hR _ ?_;clear hR R;try simp only [go_sem,lv3,Nat.reduceBEq])
  | (with_reducible first|refine J1 ?_|refine J2 ?_|refine J3 ?_|refine Q0 ?_|refine Qz ?_)
  | ((with_reducible refine QZ 6 ?_)
     rw [QJc hb37]
     (with_reducible refine rg lv3 fun R hR=>?_);simp only [go_sem,QC])
  | ((with_reducible refine QZ 8 ?_)
     rw [QJb hb37 hb55]
     (with_reducible refine rg lv3 fun R hR=>?_);simp only [go_sem,QC])
  | ((with_reducible refine QZ 9 ?_)
     have hw9:Wf p s:=(Vld.of (Prg.ok hb37) hs hb55).wf (Prg.ok hb37) hb37
     rw [QJZ hb37 hb55]
     (with_reducible refine rg lv3 fun R hR=>?_);simp only [go_sem,QC])
  | ((with_reducible refine rg lv3 fun R hR=>?_);simp only [go_sem,QC])
  | ((with_reducible refine QH 33 rfl (fun hb33=>?_) fun hb33=>?_);all_goals (try simp [-List.getD_eq_getElem?_getD] at hb33;try (exfalso;omega)))
  | ((with_reducible refine QH 37 rfl (fun hb37=>?_) fun hb37=>?_);all_goals (try simp [-List.getD_eq_getElem?_getD] at hb37;try (exfalso;omega)))
  | ((with_reducible refine QH 55 rfl (fun hb55=>?_) fun hb55=>?_);all_goals (try simp [-List.getD_eq_getElem?_getD] at hb55;try (exfalso;omega)))
  | ((with_reducible first|refine ZH ?_|refine ZG ?_)
     simp only [go_sem,QJ,QK,QG,seval]
     first
      | (exact ⟨rfl,rfl⟩)
      | (rfl)
      | (refine ⟨rfl,?_⟩
         simp))
end Go.Eng.Tryz
