/- A part of the proof: walks through the program's functions, and what they compute. -/
import Derived.Test.YtmonhjagbhpbeaaGreatDoorPk30
import Derived.Test.YtmonhjagbhpbeaaGreatDoorPk31
import Derived.Test.YtmonhjagbhpbeaaGreatDoorPk34
import Derived.Test.YtmonhjagbhpbeaaGreatDoorPk36
set_option linter.unusedSimpArgs false
set_option linter.unusedVariables false
namespace Go.Eng.Tryz
open Go.RowKit Go.Eng
set_option maxHeartbeats 0
set_option maxRecDepth 20000
theorem QHr:p0.Fit:=⟨by decide,by decide,by decide,by
 intro f hf
 simp [p0] at hf
 subst hf
 exact ⟨by decide,by decide,by intro s hs;simp at hs⟩⟩
end Go.Eng.Tryz
namespace Go.Eng.Tryz
open Go.RowKit Go.Eng
set_option maxHeartbeats 0
set_option maxRecDepth 20000
theorem QJk:VR p0 [⟨0,0⟩] ⟨2,2,0⟩=(t0,0,0):=by
 have h:Y1 p0 [⟨0,0⟩] ⟨2,2,0⟩=(1,s1,0,0):=by decide +kernel
 obtain ⟨_,hS,hO⟩:=YS (p:=p0) (l:=[⟨0,0⟩]) (b:=⟨2,2,0⟩) (by rw [h])
 rw [hO]
 have e:ZK p0 [⟨0,0⟩] ⟨2,2,0⟩=[e1]:=by decide +kernel
 rw [h] at hS
 have e2:ZE p0 [⟨0,0⟩] ⟨2,2,0⟩=s1:=(congrArg (fun x=>x.2.1) hS).symm
 rw [e,e2]
 rfl
theorem QJj:VR p0 [⟨1,0⟩] ⟨2,2,0⟩=(⟨[],zeroStt,false⟩,5,0):=by
 have h:Y1 p0 [⟨1,0⟩] ⟨2,2,0⟩=(0,zeroStt,5,0):=by decide +kernel
 rw [wT (by rw [h];decide),h]
theorem QJm:CtrZ Go.Proofs.Tryz.prog tab 16 [26,29,28] [49,30,3] [p0.v,.list [Pck.v ⟨0,0⟩],Bud.v ⟨2,2,0⟩] [t0.v,.int 0,.int 0]:=by
 have h:=Zz p0 [⟨0,0⟩] ⟨2,2,0⟩ QHr (by decide)
 rw [QJk] at h
 exact h
theorem QJl:CtrZ Go.Proofs.Tryz.prog tab 16 [26,29,28] [49,30,3] [p0.v,.list [Pck.v ⟨1,0⟩],Bud.v ⟨2,2,0⟩] [Trc.v ⟨[],zeroStt,false⟩,.int 5,.int 0]:=by
 have h:=Zz p0 [⟨1,0⟩] ⟨2,2,0⟩ QHr (by decide)
 rw [QJj] at h
 exact h
def QIQ:List (List Nat):=[[],[1],[1,2,3,4],[2,3,4,6,7],[0]]
theorem qR:Ctr Go.Proofs.Tryz.prog tab 15 [] [4] [] [.bool true]:=by
 have hcode:True→True:=id
 have hsl:True→True:=id
 have hmx:256≤maxLen:=by decide
 refine Ctr.body ok Go.Proofs.Tryz.func15 rfl rfl 65 rfl [.tmp 0] rfl (by simp [QL]) ?_
 simp only [go_sem,Nat.reduceAdd]
 repeat' first
  | ((with_reducible refine SARW.told 1 3 ?_)
     refine J48 (J49 ok.sized 0 rfl) ?_
     simp only [St.frz,Tm.frz,E.frz,E.frzL,Obj.frz,List.map_cons,List.map_nil,List.set_cons_zero,List.set_cons_succ,Nat.reduceBEq,Nat.beq_refl,if_true,if_false,Nat.beq_eq_true_eq,reduceCtorEq,Bool.false_eq_true,V.get,Nat.reduceEqDiff])
  | ((with_reducible refine SARW.told 1 5 ?_)
     refine J48 (J49 ok.sized 1 rfl) ?_
     simp only [St.frz,Tm.frz,E.frz,E.frzL,Obj.frz,List.map_cons,List.map_nil,List.set_cons_zero,List.set_cons_succ,Nat.reduceBEq,Nat.beq_refl,if_true,if_false,Nat.beq_eq_true_eq,reduceCtorEq,Bool.false_eq_true,V.get,Nat.reduceEqDiff])
  | ((with_reducible refine SARW.told 2 3 ?_)
     refine J48 (J49 ok.sized 3 rfl) ?_
     simp only [St.frz,Tm.frz,E.frz,E.frzL,Obj.frz,List.map_cons,List.map_nil,List.set_cons_zero,List.set_cons_succ,Nat.reduceBEq,Nat.beq_refl,if_true,if_false,Nat.beq_eq_true_eq,reduceCtorEq,Bool.false_eq_true,V.get,Nat.reduceEqDiff])
  | ((with_reducible refine SARW.told 3 3 ?_)
     refine J48 (J49 ok.sized 5 rfl) ?_
     simp only [St.frz,Tm.frz,E.frz,E.frzL,Obj.frz,List.map_cons,List.map_nil,List.set_cons_zero,List.set_cons_succ,Nat.reduceBEq,Nat.beq_refl,if_true,if_false,Nat.beq_eq_true_eq,reduceCtorEq,Bool.false_eq_true,V.get,Nat.reduceEqDiff])
  | ((with_reducible first|refine Zx fun R1 hR1=>?_|refine SARW.do fun R1 hR1=>?_);(simp only [go_sem,seval,-List.reduceReplicate,Bool.cond_false_right,Bool.cond_true_left,decide_true,Bool.not_true,Bool.not_false,Stt.beq]);(repeat' with_reducible refine And.intro ?_ ?_);all_goals first|(refine hR1 _ ?_;clear hR1 R1)|(intro hgf;simp only [hgf];refine hR1 _ ?_;clear hR1 R1)|((first|refine ⟨_,_,rfl,.inr (CallE.ctrZ (QJm) (by first|rfl|(simp [go_sem,List.take_of_length_le,List.length_map];done)|fail) ?_)⟩|refine ⟨_,_,rfl,.inr (CallE.ctrZ (QJl) (by first|rfl|(simp [go_sem,List.take_of_length_le,List.length_map];done)|fail) ?_)⟩);all_goals ((try simp only [go_sem,seval,-List.reduceReplicate,Bool.cond_false_right,Bool.cond_true_left,decide_true,Bool.not_true,Bool.not_false,Stt.beq]);(repeat' with_reducible refine And.intro ?_ ?_);all_goals first|(refine hR1 _ ?_;clear hR1 R1)|(intro hgf;simp only [hgf];refine hR1 _ ?_;clear hR1 R1)|omega|rfl|decide|assumption|(intro _;omega)|(simp;done)|(simp [-List.getD_eq_getElem?_getD];omega)|exact hcode _|(intro _;exact hcode _)|exact hsl _|(intro _;exact hsl _)|(simp [-List.getD_eq_getElem?_getD,QF,maxLen,YN,Q0,Qz,Qw,Qx];omega)|(simp [-List.getD_eq_getElem?_getD,QF,maxLen,YN,Q0,Qz,Qw,Qx];done)))|omega|rfl|decide|assumption|(intro _;omega)|(simp;done)|(simp [-List.getD_eq_getElem?_getD];omega)|exact hcode _|(intro _;exact hcode _)|exact hsl _|(intro _;exact hsl _)|(simp [-List.getD_eq_getElem?_getD,QF,maxLen,YN,Q0,Qz,Qw,Qx];omega)|(simp [-List.getD_eq_getElem?_getD,QF,maxLen,YN,Q0,Qz,Qw,Qx];done))
  | ((with_reducible first|refine Zw ?_|refine SARW.nil ?_);refine hR _ ?_;clear hR R;try simp only [go_sem,QIQ,Nat.reduceBEq])
  | (with_reducible first|refine J1 ?_|refine J2 ?_|refine ZL ?_|refine ZS ?_)
  | ((with_reducible refine Qy 2 ?_)
     refine Yx (ZZ (show _=({ tm:=[(1,true,.ptr 2 [] 26)],ob:=[.dead,.dead,.var 26 (.data 26 p0.v)],out:=[],nt:=65 }:St) from rfl)) ?_
     (with_reducible refine SA.regionWN ok (by kernel_rfl) QIQ ?_);intro R hR;simp only [go_sem,QC])
  | ((with_reducible refine Qy 1 ?_)
     skip
     (with_reducible refine SA.regionWN ok (by kernel_rfl) QIQ ?_);intro R hR;simp only [go_sem,QC])
  | ((with_reducible refine Qy 3 ?_)
     skip
     (with_reducible refine SA.regionWN ok (by kernel_rfl) QIQ ?_);intro R hR;simp only [go_sem,QC])
  | ((with_reducible refine rg QIQ fun R hR=>?_);simp only [go_sem,QC])
  | ((with_reducible first|refine YQ ?_|refine Zv ?_)
     simp only [go_sem,QS,QW,QM,seval]
     first
      | (exact ⟨rfl,rfl⟩)
      | (rfl))
end Go.Eng.Tryz
namespace Go.Eng.Tryz
open Go.RowKit Go.Eng
set_option maxHeartbeats 0
set_option maxRecDepth 20000
theorem QJE {p:Prg} {l:List Pck} {b:Bud} (h:(Y1 p l b).2.2.1=0):Zf p l.length b=0∧(l.length:Int)≤b.steps:=by
 by_cases h1:Zf p l.length b=0
 · by_cases h2:b.steps<(l.length:Int)
   · rw [Vq h1 h2] at h;cases h
   · exact ⟨h1,by omega⟩
 · rw [Uz h1] at h;exact absurd h h1
def lv3:List (List Nat):=[[1,3,5],[1,3,5,7,8],[1,3,5,7,32],[6],[3,5,7,9,10],[3,5,7,9,71],[6],[3,5,7,9,12,13],[3,5,7,9,12,88],[6],[3,5,7,9,12,14],[3,5,7,9,12,14,89,90,91],[3,5,7,9,12,14,89,90,91,92],[3,5,7,9,12,14,15,16,89,90,91],[3,5,7,9,12,14,15,16,17,18,89,90,91],[3,5,7,9,12,14,15,16,17,18,19,89,90,91],[3,5,7,9,12,14,15,16,18,19,89,90,91,105,106,107],[3,5,7,9,12,14,15,16,18,19,89,90,91,105,106,107,108],[3,5,7,9,12,14,15,16,18,19,20,21,89,90,91,105,106,107],[3,5,7,9,12,14,15,16,18,19,20,89,90,91,105,106,107,114],[3,5,7,9,12,14,15,16,18,19,89,90,91,105,106,107],[3,5,7,9,12,14,15,16,18,19,89,90,91,105,106,107],[3,5,7,9,12,14,19,89,90,91,144],[6],[3,5,7,9,12,14,89,90,91],[3,5,7,9,12,14,89,90,91],[7,22,23],[6]]
theorem wS (p:Prg) (l:List Int) (b:Bud) (hp:p.Fit) (hl:l.length≤maxLen):Ctr Go.Proofs.Tryz.prog tab 3 [26,23,28] [4] [p.v,.list (l.map V.int),b.v] [.bool true]:=by
 have hpp:=hp
 have hcode:True→True:=id
 have hsl:True→True:=id
 have hmx:400≤maxLen:=by decide
 have hcl2:=vE p l b
 have hcl:(QD p l b).length≤maxLen:=Nat.le_trans hcl2 (by decide)
 refine Ctr.body ok Go.Proofs.Tryz.func3 rfl rfl 164 rfl [.tmp 6] rfl (by simp [QL]) ?_
 simp only [go_sem,Nat.reduceAdd]
 repeat' first
  | ((with_reducible refine SARA.told 13 _ ?_);try simp only [hAt])
  | ((with_reducible refine SART.told 14 _ ?_);try simp only [hStt])
  | ((with_reducible refine SARA.told 18 _ ?_);try simp only [hAk])
  | ((with_reducible refine SARQ.told 22 _ ?_);try simp only [hEt,hE0,hE4,Pck.v0,Pck.v1])
  | ((with_reducible first|refine Zx fun R1 hR1=>?_|refine J23 fun R1 hR1=>?_|refine vp fun R1 hR1=>?_|refine vo fun R1 hR1=>?_|refine vn fun R1 hR1=>?_);(simp only [go_sem,seval,-List.reduceReplicate,Bool.cond_false_right,Bool.cond_true_left,QK,decide_true,Bool.not_true,Bool.not_false,Pck.beq]);(repeat' with_reducible refine And.intro ?_ ?_);all_goals first|(refine hR1 _ ?_;clear hR1 R1)|(intro hgf;simp only [hgf];refine hR1 _ ?_;clear hR1 R1)|((first|refine ce (cf (ZW p l b hpp hl) ?_ (by first|rfl|(simp [go_sem,List.take_of_length_le,List.length_map,List.map_take,List.drop_zero];done)|fail))|refine ⟨_,_,rfl,.inr ⟨fun _=>CallE.ctr ok (ZW p l b hpp hl) (by first|rfl|(simp [go_sem,List.take_of_length_le,List.length_map,List.map_take,List.drop_zero];done)|fail) ?_,?_⟩⟩|refine ⟨_,_,rfl,.inr (CallB.ctr ok (ZW p l b hpp hl) (by first|rfl|(simp [go_sem,List.take_of_length_le,List.length_map,List.map_take,List.drop_zero];done)|fail) ?_)⟩|refine ⟨_,_,rfl,.inr ⟨fun _=>CallB.ctr ok (ZW p l b hpp hl) (by first|rfl|(simp [go_sem,List.take_of_length_le,List.length_map,List.map_take,List.drop_zero];done)|fail) ?_,?_⟩⟩|refine ⟨_,_,rfl,_,CallQ.ctr ok (qW p hpp) (by first|rfl|(simp [go_sem,List.take_of_length_le,List.length_map,List.map_take,List.drop_zero];done)|fail) rfl,?_⟩|refine ⟨_,_,rfl,_,fun hg=>CallQ.ctr ok (qW p hpp) (by first|rfl|(simp [go_sem,List.take_of_length_le,List.length_map,List.map_take,List.drop_zero];done)|fail) rfl,?_⟩|refine cq (cc (qW p hpp) (by first|rfl|(simp [go_sem,List.take_of_length_le,List.length_map,List.map_take,List.drop_zero];done)|fail)) ?_|refine ⟨_,_,rfl,.inl ⟨_,fun hg=>CallQ.ctr ok (qW p hpp) (by first|rfl|(simp [go_sem,List.take_of_length_le,List.length_map,List.map_take,List.drop_zero];done)|fail) rfl,?_⟩⟩|refine ⟨_,_,rfl,_,CallQ.ctr ok (UZ b) (by first|rfl|(simp [go_sem,List.take_of_length_le,List.length_map,List.map_take,List.drop_zero];done)|fail) rfl,?_⟩|refine ⟨_,_,rfl,_,fun hg=>CallQ.ctr ok (UZ b) (by first|rfl|(simp [go_sem,List.take_of_length_le,List.length_map,List.map_take,List.drop_zero];done)|fail) rfl,?_⟩|refine cq (cc (UZ b) (by first|rfl|(simp [go_sem,List.take_of_length_le,List.length_map,List.map_take,List.drop_zero];done)|fail)) ?_|refine ⟨_,_,rfl,.inl ⟨_,fun hg=>CallQ.ctr ok (UZ b) (by first|rfl|(simp [go_sem,List.take_of_length_le,List.length_map,List.map_take,List.drop_zero];done)|fail) rfl,?_⟩⟩|refine ⟨_,_,rfl,_,CallQ.ctr ok (qR) (by first|rfl|(simp [go_sem,List.take_of_length_le,List.length_map,List.map_take,List.drop_zero];done)|fail) rfl,?_⟩|refine ⟨_,_,rfl,_,fun hg=>CallQ.ctr ok (qR) (by first|rfl|(simp [go_sem,List.take_of_length_le,List.length_map,List.map_take,List.drop_zero];done)|fail) rfl,?_⟩|refine cq (cc (qR) (by first|rfl|(simp [go_sem,List.take_of_length_le,List.length_map,List.map_take,List.drop_zero];done)|fail)) ?_|refine ⟨_,_,rfl,.inl ⟨_,fun hg=>CallQ.ctr ok (qR) (by first|rfl|(simp [go_sem,List.take_of_length_le,List.length_map,List.map_take,List.drop_zero];done)|fail) rfl,?_⟩⟩|refine ⟨_,_,rfl,.inr (CallE.ctrZ (hT) (by first|rfl|(simp [go_sem,List.take_of_length_le,List.length_map,List.map_take,List.drop_zero];done)|fail) ?_)⟩|refine ⟨_,_,rfl,.inr ⟨fun _=>CallE.ctrZ (hT) (by first|rfl|(simp [go_sem,List.take_of_length_le,List.length_map,List.map_take,List.drop_zero];done)|fail) ?_,?_⟩⟩|refine ⟨_,_,rfl,.inr (CallB.ctrZ (hT) (by first|rfl|(simp [go_sem,List.take_of_length_le,List.length_map,List.map_take,List.drop_zero];done)|fail) ?_)⟩|refine ⟨_,_,rfl,.inr ⟨fun _=>CallB.ctrZ (hT) (by first|rfl|(simp [go_sem,List.take_of_length_le,List.length_map,List.map_take,List.drop_zero];done)|fail) ?_,?_⟩⟩|refine ce (cf (hSt) ?_ (by first|rfl|(simp [go_sem,List.take_of_length_le,List.length_map,List.map_take,List.drop_zero];done)|fail))|refine ⟨_,_,rfl,.inr ⟨fun _=>CallE.ctr ok (hSt) (by first|rfl|(simp [go_sem,List.take_of_length_le,List.length_map,List.map_take,List.drop_zero];done)|fail) ?_,?_⟩⟩|refine ⟨_,_,rfl,.inr (CallB.ctr ok (hSt) (by first|rfl|(simp [go_sem,List.take_of_length_le,List.length_map,List.map_take,List.drop_zero];done)|fail) ?_)⟩|refine ⟨_,_,rfl,.inr ⟨fun _=>CallB.ctr ok (hSt) (by first|rfl|(simp [go_sem,List.take_of_length_le,List.length_map,List.map_take,List.drop_zero];done)|fail) ?_,?_⟩⟩|refine ce (cf (hrd) ?_ (by first|rfl|(simp [go_sem,List.take_of_length_le,List.length_map,List.map_take,List.drop_zero];done)|fail))|refine ⟨_,_,rfl,.inr ⟨fun _=>CallE.ctr ok (hrd) (by first|rfl|(simp [go_sem,List.take_of_length_le,List.length_map,List.map_take,List.drop_zero];done)|fail) ?_,?_⟩⟩|refine ⟨_,_,rfl,.inr (CallB.ctr ok (hrd) (by first|rfl|(simp [go_sem,List.take_of_length_le,List.length_map,List.map_take,List.drop_zero];done)|fail) ?_)⟩|refine ⟨_,_,rfl,.inr ⟨fun _=>CallB.ctr ok (hrd) (by first|rfl|(simp [go_sem,List.take_of_length_le,List.length_map,List.map_take,List.drop_zero];done)|fail) ?_,?_⟩⟩|refine ce (cf (hch) ?_ (by first|rfl|(simp [go_sem,List.take_of_length_le,List.length_map,List.map_take,List.drop_zero];done)|fail))|refine ⟨_,_,rfl,.inr ⟨fun _=>CallE.ctr ok (hch) (by first|rfl|(simp [go_sem,List.take_of_length_le,List.length_map,List.map_take,List.drop_zero];done)|fail) ?_,?_⟩⟩|refine ⟨_,_,rfl,.inr (CallB.ctr ok (hch) (by first|rfl|(simp [go_sem,List.take_of_length_le,List.length_map,List.map_take,List.drop_zero];done)|fail) ?_)⟩|refine ⟨_,_,rfl,.inr ⟨fun _=>CallB.ctr ok (hch) (by first|rfl|(simp [go_sem,List.take_of_length_le,List.length_map,List.map_take,List.drop_zero];done)|fail) ?_,?_⟩⟩|refine ⟨_,_,rfl,_,CallQ.ctr ok (YA (QD p l b) (QD p l b) hcl hcl) (by first|rfl|(simp [go_sem,List.take_of_length_le,List.length_map,List.map_take,List.drop_zero];done)|fail) rfl,?_⟩|refine ⟨_,_,rfl,_,fun hg=>CallQ.ctr ok (YA (QD p l b) (QD p l b) hcl hcl) (by first|rfl|(simp [go_sem,List.take_of_length_le,List.length_map,List.map_take,List.drop_zero];done)|fail) rfl,?_⟩|refine cq (cc (YA (QD p l b) (QD p l b) hcl hcl) (by first|rfl|(simp [go_sem,List.take_of_length_le,List.length_map,List.map_take,List.drop_zero];done)|fail)) ?_|refine ⟨_,_,rfl,.inl ⟨_,fun hg=>CallQ.ctr ok (YA (QD p l b) (QD p l b) hcl hcl) (by first|rfl|(simp [go_sem,List.take_of_length_le,List.length_map,List.map_take,List.drop_zero];done)|fail) rfl,?_⟩⟩);all_goals ((try simp only [go_sem,seval,-List.reduceReplicate,Bool.cond_false_right,Bool.cond_true_left,QK,decide_true,Bool.not_true,Bool.not_false,Pck.beq]);(repeat' with_reducible refine And.intro ?_ ?_);all_goals first|(refine hR1 _ ?_;clear hR1 R1)|(intro hgf;simp only [hgf];refine hR1 _ ?_;clear hR1 R1)|omega|rfl|decide|assumption|(intro _;omega)|(simp;done)|(simp [-List.getD_eq_getElem?_getD];omega)|exact hcode _|(intro _;exact hcode _)|exact hsl _|(intro _;exact hsl _)|(simp [-List.getD_eq_getElem?_getD,QF,maxLen,YN,Q0,Qz,Qw,Qx];omega)|(simp [-List.getD_eq_getElem?_getD,QF,maxLen,YN,Q0,Qz,Qw,Qx];done)))|omega|rfl|decide|assumption|(intro _;omega)|(simp;done)|(simp [-List.getD_eq_getElem?_getD];omega)|exact hcode _|(intro _;exact hcode _)|exact hsl _|(intro _;exact hsl _)|(simp [-List.getD_eq_getElem?_getD,QF,maxLen,YN,Q0,Qz,Qw,Qx];omega)|(simp [-List.getD_eq_getElem?_getD,QF,maxLen,YN,Q0,Qz,Qw,Qx];done))
  | ((with_reducible first|refine vm ?_|refine Zw ?_|refine J29 ?_);refine hR _ ?_;clear hR R;try simp only [go_sem,lv3,Nat.reduceBEq])
  | (with_reducible first|refine vk ?_ ?_|exact vj|refine vi ?_ ?_)
  | (with_reducible first|refine J1 ?_|refine J2 ?_|refine J3 ?_|refine J4 ?_|refine J5 ?_|refine J6 ?_|refine J7 ?_|refine J8 (by decide) ?_|refine J9 ?_|refine Uf ?_|refine ZL ?_|refine ZS ?_|refine Y3 ?_|refine V7 ?_)
  | ((with_reducible refine Qy 3 ?_)
     have hc0:QD p l b=[]:=if_neg hb32
     simp only [hc0,List.map_nil,List.length_nil]
     (with_reducible refine rg lv3 fun R hR=>?_);simp only [go_sem,QC])
  | ((with_reducible refine Qy 4 ?_)
     obtain ⟨hOk,hS,hO⟩:=YS (y6 hb32)
     have hin:=QJE (y6 hb32)
     have hr:=hOk.right
     have hT:=Zz p (QD p l b) b hpp hcl
     rw [hO] at hT
     have hevl:(ZK p (QD p l b) b).length=(QD p l b).length:=WB ..
     have hSt:=Uh p (QD p l b) b hpp hcl
     rw [hOk.eq] at hSt
     have hstl:(ZP QA p b.fuel (start QA p b.fuel).1 (QD p l b) (QD p l b).length).length=(QD p l b).length+1:=UE ..
     have hwl:=QN (n:=(QD p l b).length) (m:=300) (by omega) (by decide)
     have hoj:∀ j,j<(QD p l b).length→Zy QA p b.fuel (start QA p b.fuel).1 (QD p l b) j=true:=fun j hj=>yh QA (by rw [hOk.stop];exact hj)
     refine Yx (J49 ok.sized 2 rfl) ?_
     simp only [St.frz,Tm.frz,E.frz,E.frzL,Obj.frz,List.map_cons,List.map_nil,List.set_cons_zero,List.set_cons_succ,Nat.reduceBEq,Nat.beq_refl,if_true,if_false,Nat.beq_eq_true_eq,reduceCtorEq,Bool.false_eq_true,V.get,Nat.reduceEqDiff]
     simp only [List.drop_zero,List.take_of_length_le,List.length_map,Nat.le_refl]
     (with_reducible refine rg lv3 fun R hR=>?_);simp only [go_sem,QC])
  | ((with_reducible refine Qy 8 ?_)
     refine Yx (J49 ok.sized 4 rfl) ?_
     simp only [St.frz,Tm.frz,E.frz,E.frzL,Obj.frz,List.map_cons,List.map_nil,List.set_cons_zero,List.set_cons_succ,Nat.reduceBEq,Nat.beq_refl,if_true,if_false,Nat.beq_eq_true_eq,reduceCtorEq,Bool.false_eq_true,V.get,Nat.reduceEqDiff]
     simp only [List.drop_zero,List.take_of_length_le,List.length_map,Nat.le_refl]
     (with_reducible refine rg lv3 fun R hR=>?_);simp only [go_sem,QC])
  | ((with_reducible refine Qy 13 ?_)
     have hlt:i<(QD p l b).length:=by omega
     have hAt:=Qt Pck.v (QD p l b) (i:=i) (by omega)
     (with_reducible refine rg lv3 fun R hR=>?_);simp only [go_sem,QC])
  | ((with_reducible refine Qy 16 ?_)
     refine Yx (J49 ok.sized 7 rfl) ?_
     simp only [St.frz,Tm.frz,E.frz,E.frzL,Obj.frz,List.map_cons,List.map_nil,List.set_cons_zero,List.set_cons_succ,Nat.reduceBEq,Nat.beq_refl,if_true,if_false,Nat.beq_eq_true_eq,reduceCtorEq,Bool.false_eq_true,V.get,Nat.reduceEqDiff]
     simp only [List.drop_zero,List.take_of_length_le,List.length_map,Nat.le_refl]
     (with_reducible refine rg lv3 fun R hR=>?_);simp only [go_sem,QC])
  | ((with_reducible refine Qy 18 ?_)
     have hkt:k<(ready p (QG QA p b.fuel (start QA p b.fuel).1 (QD p l b) i)).length:=by omega
     have hAk:=Qt Pck.v (ready p (QG QA p b.fuel (start QA p b.fuel).1 (QD p l b) i)) (i:=k) (by omega)
     (with_reducible refine rg lv3 fun R hR=>?_);simp only [go_sem,QC])
  | ((with_reducible refine Qy 22 ?_)
     have hk2:k=(ready p (QG QA p b.fuel (start QA p b.fuel).1 (QD p l b) i)).length:=by omega
     subst hk2
     rw [show UN (ready p (QG QA p b.fuel (start QA p b.fuel).1 (QD p l b) i)) ((QD p l b).getD i default) (ready p (QG QA p b.fuel (start QA p b.fuel).1 (QD p l b) i)).length=(n0:Int) from hn0]
     (with_reducible refine qq ok Qc (by kernel_rfl) (by kernel_rfl) lv3 ?_);intro R hR;simp only [go_sem,QC])
  | ((with_reducible refine Qy 26 ?_)
     have hi':i=(QD p l b).length:=by omega
     subst hi'
     have hch:=ZW p (Wa p b.fuel (QD p l b) (QD p l b).length) b hpp (by rw [Wn];exact hcl)
     rw [QCD hin.1 hin.2 hoj,Wn,hin.1] at hch
     refine Yx (J49 ok.sized 5 rfl) ?_
     simp only [St.frz,Tm.frz,E.frz,E.frzL,Obj.frz,List.map_cons,List.map_nil,List.set_cons_zero,List.set_cons_succ,Nat.reduceBEq,Nat.beq_refl,if_true,if_false,Nat.beq_eq_true_eq,reduceCtorEq,Bool.false_eq_true,V.get,Nat.reduceEqDiff]
     simp only [List.drop_zero,List.take_of_length_le,List.length_map,Nat.le_refl]
     simp only [List.take_of_length_le,List.length_map,Wn,Nat.le_refl]
     (with_reducible refine rg lv3 fun R hR=>?_);simp only [go_sem,QC])
  | ((with_reducible refine Qy 14 ?_)
     have hvi:Vld p (QG QA p b.fuel (start QA p b.fuel).1 (QD p l b) i):=Y5 ZO hr (Prg.ok hr) hOk.fuel (Ut ZO hr (Prg.ok hr) hOk.fuel) (by omega) (fun j hj=>hoj j (by omega))
     have hrd:=zR p (QG QA p b.fuel (start QA p b.fuel).1 (QD p l b) i) hpp hvi.shape
     rw [Ub hr hvi,if_pos rfl] at hrd
     have hrl:=VS (Prg.ok hr) (hvi.wf (Prg.ok hr) hr) (QG QA p b.fuel (start QA p b.fuel).1 (QD p l b) i).count.toNat
     have hct:=hvi.count
     have hrl2:(ready p (QG QA p b.fuel (start QA p b.fuel).1 (QD p l b) i)).length≤384:=by unfold ready;omega
     have hrl3:(ready p (QG QA p b.fuel (start QA p b.fuel).1 (QD p l b) i)).length≤maxLen:=by omega
     have hEt:∀ d:V,((ZK p (QD p l b) b).map Event.v).getD i d=Event.v (Qj QA p b.fuel (start QA p b.fuel).1 (QD p l b) i):=fun d=>by
      rw [Qt Event.v (ZK p (QD p l b) b) (i:=i) (by omega),qz hlt]
     have hStt:∀ d:V,((ZP QA p b.fuel (start QA p b.fuel).1 (QD p l b) (QD p l b).length).map Stt.v).getD i d=Stt.v (QG QA p b.fuel (start QA p b.fuel).1 (QD p l b) i):=fun d=>by
      rw [Qt Stt.v (ZP QA p b.fuel (start QA p b.fuel).1 (QD p l b) (QD p l b).length) (i:=i) (by omega),qt (by omega)]
     obtain ⟨n0,hn0,hn1,hn2⟩:=xc (hoj i hlt)
     have hpk:=QB6 hOk.fuel (hoj i hlt)
     have hE0:∀ d:V,(Event.v (Qj QA p b.fuel (start QA p b.fuel).1 (QD p l b) i)).toList.getD 0 d=.int ((QD p l b).getD i default).go:=fun d=>congrArg V.int hpk.1
     have hE4:∀ d:V,(Event.v (Qj QA p b.fuel (start QA p b.fuel).1 (QD p l b) i)).toList.getD 4 d=.int ((QD p l b).getD i default).alt:=fun d=>congrArg V.int hpk.2
     refine V6 ok Qc (.take 0 (.take 1 (.take 2 (.take 3 (.take 4 (.br 5 (.take 6 (.take 7 (.take 8 (.take 9 (.take 10 .done))))) .nil)))))) [] lv3 (by kernel_rfl) (fun R hR=>?_);simp only [go_sem,QC])
  | ((with_reducible refine rg lv3 fun R hR=>?_);simp only [go_sem,QC])
  | ((with_reducible refine qq ok Qc (by kernel_rfl) (by kernel_rfl) lv3 ?_);intro R hR;simp only [go_sem,QC])
  | ((with_reducible refine QR 32 rfl (fun hb32=>?_) fun hb32=>?_);all_goals (try simp [-List.getD_eq_getElem?_getD] at hb32;try (exfalso;omega)))
  | ((with_reducible refine QR 71 rfl (fun hb71=>?_) fun hb71=>?_);all_goals (try simp [-List.getD_eq_getElem?_getD] at hb71;try (exfalso;omega)))
  | ((with_reducible refine QR 88 rfl (fun hb88=>?_) fun hb88=>?_);all_goals (try simp [-List.getD_eq_getElem?_getD] at hb88;try (exfalso;omega)))
  | ((with_reducible refine QR 114 rfl (fun hb114=>?_) fun hb114=>?_);all_goals (try simp [-List.getD_eq_getElem?_getD] at hb114;try (exfalso;omega)))
  | ((with_reducible refine QR 144 rfl (fun hb144=>?_) fun hb144=>?_);all_goals (try simp [-List.getD_eq_getElem?_getD] at hb144;try (exfalso;omega)))
  | ((with_reducible refine SA.cond rfl ?_ ?_)
     all_goals
      intro hb
      try simp [-List.getD_eq_getElem?_getD] at hb
      try (exfalso;omega))
  | ((with_reducible refine W1 ?_)
     refine Yx ((St.le.own (t:=14) 3 rfl).trans ((St.le.keep [3,5,7,9,12,14,89,90,91]).trans (ZZ (by first|rfl|(simp;done)|fail)))) (Wo (fun n τ=>∃ (i:Nat),n=(QD p l b).length-i∧(i≤(QD p l b).length)∧τ={ tm:=[(3,true,.ptr 0 [] 26),(5,true,.ptr 1 [] 28),(7,true,.fs 56 ((QD p l b).map Pck.v) false),(9,true,.ptr 3 [] 49),(12,true,.fs 47 ((ZP QA p b.fuel (start QA p b.fuel).1 (QD p l b) (QD p l b).length).map Stt.v) false),(14,true,.sl 5 3 0 i false),(89,true,.fs 56 ((QD p l b).map Pck.v) false),(90,true,.int .i64 (QD p l b).length),(91,true,.int .i64 i)],ob:=[.var 26 (.data 26 p.v),.var 28 (.data 28 b.v),.dead,.var 49 (.data 49 (Trc.v ⟨ZK p (QD p l b) b,ZE p (QD p l b) b,decide (((QD p l b).length:Int)=b.steps)&&decide (0<(ready p (ZE p (QD p l b) b)).length)⟩)),.dead,.row 3 ((Wa p b.fuel (QD p l b) i).map V.int)],out:=[],nt:=164 }) ((QD p l b).length) ⟨0,rfl,Nat.zero_le _,rfl⟩ ?_)
     rintro n τ ⟨i,hn,hi,rfl⟩
     have hagl:=Wn (p:=p) (fuel:=b.fuel) (l:=(QD p l b)) i)
  | ((with_reducible refine W1 ?_)
     refine Yx (ZZ (by first|rfl|(simp;done)|fail)) (Wo (fun n τ=>∃ (k:Nat),n=(ready p (QG QA p b.fuel (start QA p b.fuel).1 (QD p l b) i)).length-k∧(k≤(ready p (QG QA p b.fuel (start QA p b.fuel).1 (QD p l b) i)).length)∧τ={ tm:=[(3,true,.ptr 0 [] 26),(5,true,.ptr 1 [] 28),(7,true,.fs 56 ((QD p l b).map Pck.v) false),(9,true,.ptr 3 [] 49),(12,true,.fs 47 ((ZP QA p b.fuel (start QA p b.fuel).1 (QD p l b) (QD p l b).length).map Stt.v) false),(14,true,.sl 5 3 0 i false),(15,true,.int .i64 i),(16,true,.ptr 6 [] 56),(18,true,.int .i64 0),(19,true,.int .i64 (UN (ready p (QG QA p b.fuel (start QA p b.fuel).1 (QD p l b) i)) ((QD p l b).getD i default) k)),(89,true,.fs 56 ((QD p l b).map Pck.v) false),(90,true,.int .i64 (QD p l b).length),(91,true,.int .i64 i),(105,true,.fs 56 ((ready p (QG QA p b.fuel (start QA p b.fuel).1 (QD p l b) i)).map Pck.v) false),(106,true,.int .i64 (ready p (QG QA p b.fuel (start QA p b.fuel).1 (QD p l b) i)).length),(107,true,.int .i64 k)],ob:=[.var 26 (.data 26 p.v),.var 28 (.data 28 b.v),.dead,.var 49 (.data 49 (Trc.v ⟨ZK p (QD p l b) b,ZE p (QD p l b) b,decide (((QD p l b).length:Int)=b.steps)&&decide (0<(ready p (ZE p (QD p l b) b)).length)⟩)),.dead,.row 3 ((Wa p b.fuel (QD p l b) i).map V.int),.var 56 (.data 56 (Pck.v ((QD p l b).getD i default))),.dead],out:=[],nt:=164 }) ((ready p (QG QA p b.fuel (start QA p b.fuel).1 (QD p l b) i)).length) ⟨0,rfl,Nat.zero_le _,rfl⟩ ?_)
     rintro n τ ⟨k,hn,hk,rfl⟩)
  | ((with_reducible refine zF ?_)
     first
      | (have hw:=QN hlt hcl
         refine WE ((QD p l b).length-(i+1)) _ (by omega) ((Vk 6 rfl).trans (ZZ (by simp [-List.getD_eq_getElem?_getD,hw,QCL,hn0,List.take_of_length_le,hagl]))) ⟨i+1,rfl,hlt,rfl⟩)
      | (have q:=hb114
         have hw:=QN hkt hrl3
         have e:UN (ready p (QG QA p b.fuel (start QA p b.fuel).1 (QD p l b) i)) ((QD p l b).getD i default) (k+1)=k:=if_pos hb114
         refine WE ((ready p (QG QA p b.fuel (start QA p b.fuel).1 (QD p l b) i)).length-(k+1)) _ (by omega) ((Vk 8 rfl).trans (ZZ (by simp only [hw,e,List.take_succ_cons,List.take_zero]))) ⟨k+1,rfl,hkt,rfl⟩)
      | (have q:¬_:=hb114
         have hw:=QN hkt hrl3
         have e:UN (ready p (QG QA p b.fuel (start QA p b.fuel).1 (QD p l b) i)) ((QD p l b).getD i default) (k+1)=UN (ready p (QG QA p b.fuel (start QA p b.fuel).1 (QD p l b) i)) ((QD p l b).getD i default) k:=if_neg hb114
         refine WE ((ready p (QG QA p b.fuel (start QA p b.fuel).1 (QD p l b) i)).length-(k+1)) _ (by omega) ((Vk 8 rfl).trans (ZZ (by simp only [hw,e,List.take_succ_cons,List.take_zero]))) ⟨k+1,rfl,hkt,rfl⟩))
  | ((with_reducible first|refine YQ ?_|refine Zv ?_)
     simp only [go_sem,QS,QW,QM,seval]
     first
      | (have q:¬_:=hb32
         have e:=QGt hb32
         refine ⟨rfl,?_⟩
         revert e
         cases QT p<;>cases Z5 b<;>simp)
      | (exact ⟨rfl,rfl⟩)
      | (rfl)
      | (refine ⟨rfl,?_⟩
         simp))
end Go.Eng.Tryz
