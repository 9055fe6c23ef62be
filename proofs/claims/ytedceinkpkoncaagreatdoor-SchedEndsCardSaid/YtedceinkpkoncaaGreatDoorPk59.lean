/- A part of the proof: walks through the program's functions, and what they compute. -/
import Derived.Test.YtedceinkpkoncaaGreatDoorPk51
import Derived.Test.YtedceinkpkoncaaGreatDoorPk52
set_option linter.unusedSimpArgs false
set_option linter.unusedVariables false
namespace Go.Eng.Tryz
open Go.RowKit Go.Eng
set_option maxHeartbeats 0
set_option maxRecDepth 20000
def QOR:List (List Nat):=[[1,3,5],[3,5,7,8],[3,5,7,24],[6],[3,5,7,9,10],[3,5,7,9,10,12,13],[5,7,9,10,12,13,14,15],[6]]
theorem QAm (p:Prg) (l:List Int) (b:Bud) (hp:p.Fit) (hl:l.length≤maxLen):Ctr Go.Proofs.Tryz.prog tab 13 [26,23,77] [4] [p.v,.list (l.map V.int),b.v] [.bool true]:=by
 have hpp:=hp
 have hcode:True→True:=id
 have hsl:True→True:=id
 have hmx:400≤maxLen:=by decide
 have hcl:(QR p l b).length≤maxLen:=Nat.le_trans (yL p l b) (by decide)
 refine Ctr.body ok Go.Proofs.Tryz.func13 rfl rfl 79 rfl [.tmp 6] rfl (by simp [QE]) ?_
 simp only [go_sem,Nat.reduceAdd]
 repeat' first
  | ((with_reducible refine Q2 fun R1 hR1=>?_);(simp only [go_sem,seval,-List.reduceReplicate,Bool.cond_false_right,Bool.cond_true_left,QF,decide_true,Bool.not_true,Bool.not_false,vt]);(repeat' with_reducible refine And.intro ?_ ?_);all_goals first|(refine hR1 _ ?_;clear hR1 R1)|(intro hgf;simp only [hgf];refine hR1 _ ?_;clear hR1 R1)|((first|refine ce (cf (Z1 p l b hpp hl) ?_ (by first|rfl|(simp [go_sem,List.take_of_length_le,List.length_map,List.map_take,List.drop_zero];done)|fail))|refine ⟨_,_,rfl,.inr (CallE.ctrZ (hT) (by first|rfl|(simp [go_sem,List.take_of_length_le,List.length_map,List.map_take,List.drop_zero];done)|fail) ?_)⟩|refine ce (cf (hM) ?_ (by first|rfl|(simp [go_sem,List.take_of_length_le,List.length_map,List.map_take,List.drop_zero];done)|fail))|refine ce (cf (hrd) ?_ (by first|rfl|(simp [go_sem,List.take_of_length_le,List.length_map,List.map_take,List.drop_zero];done)|fail))|refine cq (cc (Xa) (by first|rfl|(simp [go_sem,List.take_of_length_le,List.length_map,List.map_take,List.drop_zero];done)|fail)) ?_);all_goals ((try simp only [go_sem,seval,-List.reduceReplicate,Bool.cond_false_right,Bool.cond_true_left,QF,decide_true,Bool.not_true,Bool.not_false,vt]);(repeat' with_reducible refine And.intro ?_ ?_);all_goals first|(refine hR1 _ ?_;clear hR1 R1)|(intro hgf;simp only [hgf];refine hR1 _ ?_;clear hR1 R1)|exact ZQ))|exact ZQ)
  | ((with_reducible refine Q1 ?_);refine hR _ ?_;clear hR R;try simp only [go_sem,QOR,Nat.reduceBEq])
  | (with_reducible first|refine J1 ?_|refine J2 ?_|refine J3 ?_|refine Q0 ?_|refine Qz ?_)
  | ((with_reducible refine QZ 4 ?_)
     obtain ⟨hOk,hS,hO⟩:=WS (QBx hb24)
     have hT:=YU p (QR p l b) b hpp hcl
     rw [hO] at hT
     have hM:=UR p (QR p l b) b hpp hcl
     rw [hS] at hM
     have hv:=hOk.vld
     have hrd:=Wh p (ZX p (QR p l b) b) hpp hv.shape
     rw [zZ hOk.right hv,if_pos rfl] at hrd
     have hw:=hv.wf (Prg.ok hOk.right) hOk.right
     have hrl:=Zu (Prg.ok hOk.right) hw (ZX p (QR p l b) b).count.toNat
     have hct:=hv.count
     have hrl2:(ready p (ZX p (QR p l b) b)).length≤384:=by unfold ready;omega
     have hrl3:(ready p (ZX p (QR p l b) b)).length≤maxLen:=by omega
     refine Zo (J49 ok.sized 2 rfl) ?_
     simp only [St.frz,Tm.frz,E.frz,E.frzL,Obj.frz,List.map_cons,List.map_nil,List.set_cons_zero,List.set_cons_succ,Nat.reduceBEq,Nat.beq_refl,if_true,if_false,Nat.beq_eq_true_eq,reduceCtorEq,Bool.false_eq_true,V.get,Nat.reduceEqDiff]
     simp only [List.drop_zero,List.take_of_length_le,List.length_map,Nat.le_refl]
     (with_reducible refine rg QOR fun R hR=>?_);simp only [go_sem,QC])
  | ((with_reducible refine rg QOR fun R hR=>?_);simp only [go_sem,QC])
  | ((with_reducible refine QH 24 rfl (fun hb24=>?_) fun hb24=>?_);all_goals (try simp [-List.getD_eq_getElem?_getD] at hb24;try (exfalso;omega)))
  | ((with_reducible first|refine ZH ?_|refine ZG ?_)
     simp only [go_sem,QJ,QK,QG,seval]
     first
      | (exact ⟨rfl,rfl⟩)
      | (rfl)
      | (refine ⟨rfl,?_⟩
         generalize decide (0<(ready p (ZX p (QR p l b) b)).length)=x
         generalize decide (((QR p l b).length:Int)=b.steps)=y
         cases x<;>cases y<;>rfl))
end Go.Eng.Tryz
