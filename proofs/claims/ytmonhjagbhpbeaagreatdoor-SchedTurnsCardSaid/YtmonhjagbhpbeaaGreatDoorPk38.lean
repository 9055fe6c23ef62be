/- A part of the proof: walks through the program's functions, and what they compute. -/
import Derived.Test.YtmonhjagbhpbeaaGreatDoorPk15
set_option linter.unusedSimpArgs false
set_option linter.unusedVariables false
namespace Go.Eng.Tryz
open Go.RowKit Go.Eng
set_option maxHeartbeats 0
set_option maxRecDepth 20000
def QNC:List (List Nat):=[[0,1],[0,1,10],[4],[0,1,12,13],[0,1,12,13,14],[0,1,5,12,13],[0,1,12,13,24],[4],[0,1,12,13],[4]]
theorem ZX (a b:List Pck) (ha:a.length≤maxLen) (hb:b.length≤maxLen):Ctr Go.Proofs.Tryz.prog tab 19 [29,29] [4] [.list (a.map Pck.v),.list (b.map Pck.v)] [.bool (decide (a=b))]:=by
 have hcode:True→True:=id
 have hsl:True→True:=id
 refine Ctr.body ok Go.Proofs.Tryz.func19 rfl rfl 26 rfl [.tmp 4] rfl (by simp [QF]) ?_
 simp only [go_sem,Nat.reduceAdd]
 repeat' first
  | ((with_reducible refine SARQ.told 6 _ ?_);try simp only [Qg Pck.v a hlt,Qg Pck.v b hlt'])
  | ((with_reducible first|refine Q5 fun R1 hR1=>?_|refine yb fun R1 hR1=>?_);(simp only [go_sem,seval,-List.reduceReplicate,Pck.beq,Access.beq]);(repeat' with_reducible refine And.intro ?_ ?_);all_goals first|(refine hR1 _ ?_;clear hR1 R1)|exact VL)
  | ((with_reducible first|refine Q4 ?_|refine ya ?_);refine hR _ ?_;clear hR R;try simp only [go_sem,QNC,Nat.reduceBEq])
  | (with_reducible first|refine J1 ?_|refine J2 ?_|refine J3 ?_|refine J4 ?_|refine J5 ?_|refine J6 ?_|refine J7 ?_|refine J8 (by decide) ?_|refine J9 ?_|refine Xu ?_|refine Q2 ?_|refine Q1 ?_|refine Yc ?_|refine Xt ?_)
  | ((with_reducible refine Qe 6 ?_)
     have hlt:i<a.length:=by omega
     have hlt':i<b.length:=by omega
     (with_reducible refine Ve ok QQ (by kernel_rfl) (by kernel_rfl) QNC ?_);intro R hR;simp only [go_sem,QC])
  | ((with_reducible refine rg QNC fun R hR=>?_);simp only [go_sem,QC])
  | ((with_reducible refine Ve ok QQ (by kernel_rfl) (by kernel_rfl) QNC ?_);intro R hR;simp only [go_sem,QC])
  | ((with_reducible refine QI 10 rfl (fun hb10=>?_) fun hb10=>?_);all_goals (try simp [-List.getD_eq_getElem?_getD] at hb10))
  | ((with_reducible refine QI 24 rfl (fun hb24=>?_) fun hb24=>?_);all_goals (try simp [-List.getD_eq_getElem?_getD] at hb24))
  | ((with_reducible refine SA.cond rfl ?_ ?_)
     all_goals
      intro hb
      try simp [-List.getD_eq_getElem?_getD] at hb)
  | ((with_reducible refine Ya ?_)
     refine Zv (Qo (by first|rfl|(simp;done)|fail)) (Yb (fun n τ=>∃ (i:Nat),n=a.length-i∧(i≤a.length∧a.length=b.length∧a.take i=b.take i)∧τ={ tm:=[(0,true,.fs 56 (a.map Pck.v) false),(1,true,.fs 56 (b.map Pck.v) false),(12,true,.int .i64 a.length),(13,true,.int .i64 i)],ob:=[],out:=[],nt:=26 }) (a.length) ⟨0,rfl,⟨Nat.zero_le _,by omega,rfl⟩,rfl⟩ ?_)
     rintro n τ ⟨i,hn,⟨hi,hl,hc⟩,rfl⟩)
  | ((with_reducible refine WC ?_)
     first
      | (have hlt:i<a.length:=by omega
         refine Z0 (a.length-(i+1)) _ (by omega) (Qo (by simp only [QD hlt ha])) ⟨i+1,rfl,⟨hlt,hl,?_⟩,rfl⟩
         have hlt':i<b.length:=by omega
         rw [List.take_succ_eq_append_getElem hlt,List.take_succ_eq_append_getElem hlt',hc]
         have:a[i]=b[i]:=by simpa [hlt,hlt'] using hb24
         rw [this]))
  | ((with_reducible first|refine ZQ ?_|refine ZP ?_)
     simp only [go_sem,QL,QM,QH,seval]
     first
      | (have q:¬(_=_):=hb10
         refine ⟨rfl,?_⟩
         rw [decide_eq_false (fun h:a=b=>hb10 (by rw [h]))])
      | (have q:¬(_=_):=hb24
         refine ⟨rfl,?_⟩
         rw [decide_eq_false (fun h:a=b=>hb24 (by rw [h]))])
      | (refine ⟨rfl,?_⟩
         have:i=a.length:=by omega
         subst this
         rw [List.take_length,hl,List.take_length] at hc
         simp [hc]))
end Go.Eng.Tryz
