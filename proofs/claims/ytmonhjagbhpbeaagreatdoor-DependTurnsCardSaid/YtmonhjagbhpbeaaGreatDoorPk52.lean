/- A part of the proof: walks through the program's functions, and what they compute. -/
import Derived.Test.YtmonhjagbhpbeaaGreatDoorPk41
import Derived.Test.YtmonhjagbhpbeaaGreatDoorPk42
import Derived.Test.YtmonhjagbhpbeaaGreatDoorPk43
set_option linter.unusedSimpArgs false
set_option linter.unusedVariables false
namespace Go.Eng.Tryz
open Go.RowKit Go.Eng
set_option maxHeartbeats 0
set_option maxRecDepth 20000
theorem QGO {p:Prg} {l:List Pck} {b:Bud} {i:Nat} (h:RunOk p l b) (hi:i+1<l.length) (hd:ZH (Zb p l b i) (Zb p l b (i+1))=false):Swapped p b.fuel (start QB p b.fuel).1 l i :=
 QAX h.right h.fuel h.start hi h.all hd
theorem QGP {p:Prg} {l:List Pck} {b:Bud} {i:Nat} (h:(XX p l b).2.2.1=0) (hi:i+1<l.length) (hd:ZH (Zb p l b i) (Zb p l b (i+1))=false) :
 (XX p (Qx l i) b).2.2.1=0∧Qs p (Qx l i) b=Qs p l b∧∀ j,j<l.length→Zb p l b j=Zb p (Qx l i) b (if j=i then i+1 else if j=i+1 then i else j):=by
 have hS:=QGO (YZ h).1 hi hd
 refine ⟨QCk h (Xa ..) hS.legal,?_,fun j hj=>?_⟩
 · rw [yP,yP,Xa]
   exact hS.state _ (Nat.le_refl _) (by omega)
 · by_cases q:j=i
   · subst q;rw [if_pos rfl];exact hS.ev1.symm
   · by_cases q2:j=i+1
     · subst q2;rw [if_neg q,if_pos rfl];exact hS.ev0.symm
     · rw [if_neg q,if_neg q2];exact (hS.evk j hj q q2).symm
def QQ1:List (List Nat):=[[1],[1,3,4,5],[1,3,4,32],[2],[1,3,6,7],[1,6,7,9,10],[1,6,9,99],[2],[1,6,9,12],[1,6,9,12,104],[1,6,9,12],[1,6,9,12,13],[1,6,9,12,13,111],[1,6,9,12,13],[1,6,9,12,13,118],[1,6,9,12,13],[1,6,9,12,131],[2],[2]]
theorem QBY (p:Prg) (l:List Pck) (i:Int) (b:Bud) (e:Int) (hsw:Ctr Go.Proofs.Tryz.prog tab 26 [26,29,3,28] [29,4,30] [p.v,.list (l.map Pck.v),.int i,b.v] [.list [],.bool false,.int e]):Ctr Go.Proofs.Tryz.prog tab 6 [75] [4] [UU p l i b] [.bool true]:=by
 have hcode:True→True:=id
 have hsl:True→True:=id
 refine Ctr.body ok Go.Proofs.Tryz.func6 rfl rfl 133 rfl [.tmp 2] rfl (by simp [QF]) ?_
 simp only [go_sem,Nat.reduceAdd]
 repeat' first
  | ((with_reducible first|refine Q5 fun R1 hR1=>?_|refine yb fun R1 hR1=>?_);(simp only [go_sem,seval,-List.reduceReplicate,Bool.cond_false_right,Bool.cond_true_left,QE,decide_true,Bool.not_true,Bool.not_false,Stt.beq,Event.beq]);(repeat' with_reducible refine And.intro ?_ ?_);all_goals first|(refine hR1 _ ?_;clear hR1 R1)|(intro hgf;simp only [hgf];refine hR1 _ ?_;clear hR1 R1)|((first|refine ce (wO (hsw) ?_)|refine ⟨_,_,rfl,.inr ⟨fun _=>CallE.ctr ok (hsw) (by first|rfl|(simp [go_sem,List.take_of_length_le,List.length_map,List.map_take,List.drop_zero];done)|fail) ?_,?_⟩⟩|refine V4 (VK (ZE)) ?_|refine wB (fun hg=>VK (ZE)) ?_|refine cq (VK (ZE)) ?_|refine Y4 (fun hg=>VK (ZE)) ?_);all_goals ((try simp only [go_sem,seval,-List.reduceReplicate,Bool.cond_false_right,Bool.cond_true_left,QE,decide_true,Bool.not_true,Bool.not_false,Stt.beq,Event.beq]);(repeat' with_reducible refine And.intro ?_ ?_);all_goals first|(refine hR1 _ ?_;clear hR1 R1)|(intro hgf;simp only [hgf];refine hR1 _ ?_;clear hR1 R1)|exact Zp))|exact Zp)
  | ((with_reducible first|refine Q4 ?_|refine ya ?_);refine hR _ ?_;clear hR R;try simp only [go_sem,QQ1,Nat.reduceBEq])
  | (with_reducible first|refine J1 ?_|refine J2 ?_|refine J3 ?_|refine J4 ?_|refine J5 ?_|refine J6 ?_|refine J7 ?_|refine J8 (by decide) ?_|refine J9 ?_|refine Xu ?_|refine Q2 ?_|refine Q1 ?_|refine Yc ?_|refine Xt ?_)
  | ((with_reducible refine rg QQ1 fun R hR=>?_);simp only [go_sem,QC])
  | ((with_reducible refine Ve ok QQ (by kernel_rfl) (by kernel_rfl) QQ1 ?_);intro R hR;simp only [go_sem,QC])
  | ((with_reducible refine QI 32 rfl (fun hb32=>?_) fun hb32=>?_);all_goals (try simp [-List.getD_eq_getElem?_getD] at hb32;try (exfalso;omega)))
  | ((with_reducible refine QI 99 rfl (fun hb99=>?_) fun hb99=>?_);all_goals (try simp [-List.getD_eq_getElem?_getD] at hb99;try (exfalso;omega)))
  | ((with_reducible refine QI 111 rfl (fun hb111=>?_) fun hb111=>?_);all_goals (try simp [-List.getD_eq_getElem?_getD] at hb111;try (exfalso;omega)))
  | ((with_reducible refine QI 118 rfl (fun hb118=>?_) fun hb118=>?_);all_goals (try simp [-List.getD_eq_getElem?_getD] at hb118;try (exfalso;omega)))
  | ((with_reducible refine QI 131 rfl (fun hb131=>?_) fun hb131=>?_);all_goals (try simp [-List.getD_eq_getElem?_getD] at hb131;try (exfalso;omega)))
  | ((with_reducible refine SA.cond rfl ?_ ?_)
     all_goals
      intro hb
      try simp [-List.getD_eq_getElem?_getD] at hb
      try (exfalso;omega))
  | ((with_reducible first|refine ZQ ?_|refine ZP ?_)
     simp only [go_sem,QL,QM,QH,seval]
     first
      | (exact ⟨rfl,rfl⟩)
      | (rfl)
      | (refine ⟨rfl,?_⟩
         simp))
def lv6:List (List Nat):=[[1],[1,3,4,5],[1,3,4,32],[2],[1,3,6,7],[1,6,7,9,10],[1,6,9,99],[2],[1,6,9,12],[1,6,9,12,104],[1,6,9,12],[1,6,9,12,13],[1,6,9,12,13,111],[1,6,9,12,13],[1,6,9,12,13,118],[1,6,9,12,13],[1,6,9,12,131],[2],[2]]
theorem vr (p:Prg) (l:List Pck) (i:Int) (b:Bud) (hp:p.Fit) (hl:l.length≤maxLen):Ctr Go.Proofs.Tryz.prog tab 6 [75] [4] [UU p l i b] [.bool true]:=by
 have hpp:=hp
 have hcode:True→True:=id
 have hsl:True→True:=id
 have hmx:400≤maxLen:=by decide
 have hlx:=hl
 unfold maxLen at hlx
 have hsw:=vX p l i b hpp hl
 rcases vB p l i b with ⟨e,hV⟩|⟨k,rfl,hk,hS,hD,hV⟩
 · rw [hV] at hsw
   simp only [List.map_nil] at hsw
   exact QBY p l i b e hsw
 rw [hV] at hsw
 simp only at hsw
 refine Ctr.body ok Go.Proofs.Tryz.func6 rfl rfl 133 rfl [.tmp 2] rfl (by simp [QF]) ?_
 simp only [go_sem,Nat.reduceAdd]
 repeat' first
  | ((with_reducible refine SARA.told 6 _ ?_);try simp only [hevl,hevl2,hw1])
  | ((with_reducible refine SARA.told 14 _ ?_);try simp only [hw1])
  | ((with_reducible refine SARQ.told 16 _ ?_);try simp only [hEj,hE2,ej,hwj,hwm,Int.toNat_natCast])
  | ((with_reducible first|refine Q5 fun R1 hR1=>?_|refine yb fun R1 hR1=>?_);(simp only [go_sem,seval,-List.reduceReplicate,Bool.cond_false_right,Bool.cond_true_left,QE,decide_true,Bool.not_true,Bool.not_false,Stt.beq,Event.beq]);(repeat' with_reducible refine And.intro ?_ ?_);all_goals first|(refine hR1 _ ?_;clear hR1 R1)|(intro hgf;simp only [hgf];refine hR1 _ ?_;clear hR1 R1)|((first|refine ce (wO (hsw) ?_)|refine ⟨_,_,rfl,.inr ⟨fun _=>CallE.ctr ok (hsw) (by first|rfl|(simp [go_sem,List.take_of_length_le,List.length_map,List.map_take,List.drop_zero];done)|fail) ?_,?_⟩⟩|refine ⟨_,_,rfl,.inr (CallE.ctrZ (hT) (by first|rfl|(simp [go_sem,List.take_of_length_le,List.length_map,List.map_take,List.drop_zero];done)|fail) ?_)⟩|refine ⟨_,_,rfl,.inr ⟨fun _=>CallE.ctrZ (hT) (by first|rfl|(simp [go_sem,List.take_of_length_le,List.length_map,List.map_take,List.drop_zero];done)|fail) ?_,?_⟩⟩|refine ⟨_,_,rfl,.inr (CallE.ctrZ (hT2) (by first|rfl|(simp [go_sem,List.take_of_length_le,List.length_map,List.map_take,List.drop_zero];done)|fail) ?_)⟩|refine ⟨_,_,rfl,.inr ⟨fun _=>CallE.ctrZ (hT2) (by first|rfl|(simp [go_sem,List.take_of_length_le,List.length_map,List.map_take,List.drop_zero];done)|fail) ?_,?_⟩⟩|refine V4 (VK (ZE)) ?_|refine wB (fun hg=>VK (ZE)) ?_|refine cq (VK (ZE)) ?_|refine Y4 (fun hg=>VK (ZE)) ?_);all_goals ((try simp only [go_sem,seval,-List.reduceReplicate,Bool.cond_false_right,Bool.cond_true_left,QE,decide_true,Bool.not_true,Bool.not_false,Stt.beq,Event.beq]);(repeat' with_reducible refine And.intro ?_ ?_);all_goals first|(refine hR1 _ ?_;clear hR1 R1)|(intro hgf;simp only [hgf];refine hR1 _ ?_;clear hR1 R1)|exact Zp))|exact Zp)
  | ((with_reducible first|refine Q4 ?_|refine ya ?_);refine hR _ ?_;clear hR R;try simp only [go_sem,lv6,Nat.reduceBEq])
  | (with_reducible first|refine J1 ?_|refine J2 ?_|refine J3 ?_|refine J4 ?_|refine J5 ?_|refine J6 ?_|refine J7 ?_|refine J8 (by decide) ?_|refine J9 ?_|refine Xu ?_|refine Q2 ?_|refine Q1 ?_|refine Yc ?_|refine Xt ?_)
  | ((with_reducible refine Qe 4 ?_)
     obtain ⟨hOk,_,hO⟩:=YZ hS
     obtain ⟨hS2,hla,hev⟩:=QGP hS hk hD
     obtain ⟨hOk2,_,hO2⟩:=YZ hS2
     have hlen:=hOk.len
     have hsl2:=Xa l k
     have hT:=YP p l b hpp hl
     have hT2:=YP p (Qx l k) b hpp (by rw [hsl2];exact hl)
     rw [hO] at hT
     rw [hO2,hla] at hT2
     have hevl:=YM p l b
     have hevl2:=YM p (Qx l k) b
     have hw1:=QD (show k<l.length by omega) hl
     refine Zv (J49 ok.sized 1 rfl) ?_
     simp only [St.frz,Tm.frz,E.frz,E.frzL,Obj.frz,List.map_cons,List.map_nil,List.set_cons_zero,List.set_cons_succ,Nat.reduceBEq,Nat.beq_refl,if_true,if_false,Nat.beq_eq_true_eq,reduceCtorEq,Bool.false_eq_true,V.get,Nat.reduceEqDiff]
     simp only [List.drop_zero,List.take_of_length_le,List.length_map,Nat.le_refl]
     (with_reducible refine rg lv6 fun R hR=>?_);simp only [go_sem,QC])
  | ((with_reducible refine Qe 11 ?_)
     have hlt:j<l.length:=by omega
     have hwj:=QD hlt hl
     have hEj:=fun d:V=>Xh (p:=p) (b:=b) (d:=d) hlt
     (with_reducible refine rg lv6 fun R hR=>?_);simp only [go_sem,QC])
  | ((with_reducible refine Qe 16 ?_)
     have ej0:=hev j hlt
     have hwm:=True.intro
     first
      | (have q:j=k:=by omega
         have hE2:=fun d:V=>Xh (p:=p) (l:=(Qx l k)) (b:=b) (d:=d) (k:=j+1) (by omega)
         have ej:Zb p l b j=Zb p (Qx l k) b (j+1):=by rw [ej0,if_pos q,q])
      | (have q:j=k+1:=by omega
         have hwm:IntKind.i64.wrap ((j:Int)-1)=((j-1:Nat):Int):=by
          rw [Qm (by omega) (by omega)]
          omega
         have hE2:=fun d:V=>Xh (p:=p) (l:=(Qx l k)) (b:=b) (d:=d) (k:=j-1) (by omega)
         have ej:Zb p l b j=Zb p (Qx l k) b (j-1):=by rw [ej0,if_neg (by omega),if_pos q,show j-1=k by omega])
      | (have q:j≠k∧j≠k+1:=by omega
         have hE2:=fun d:V=>Xh (p:=p) (l:=(Qx l k)) (b:=b) (d:=d) (k:=j) (by omega)
         have ej:Zb p l b j=Zb p (Qx l k) b j:=by rw [ej0,if_neg q.1,if_neg q.2])
     (with_reducible refine Ve ok QQ (by kernel_rfl) (by kernel_rfl) lv6 ?_);intro R hR;simp only [go_sem,QC])
  | ((with_reducible refine rg lv6 fun R hR=>?_);simp only [go_sem,QC])
  | ((with_reducible refine Ve ok QQ (by kernel_rfl) (by kernel_rfl) lv6 ?_);intro R hR;simp only [go_sem,QC])
  | ((with_reducible refine QI 32 rfl (fun hb32=>?_) fun hb32=>?_);all_goals (try simp [-List.getD_eq_getElem?_getD] at hb32;try (exfalso;omega)))
  | ((with_reducible refine QI 99 rfl (fun hb99=>?_) fun hb99=>?_);all_goals (try simp [-List.getD_eq_getElem?_getD] at hb99;try (exfalso;omega)))
  | ((with_reducible refine QI 111 rfl (fun hb111=>?_) fun hb111=>?_);all_goals (try simp [-List.getD_eq_getElem?_getD] at hb111;try (exfalso;omega)))
  | ((with_reducible refine QI 118 rfl (fun hb118=>?_) fun hb118=>?_);all_goals (try simp [-List.getD_eq_getElem?_getD] at hb118;try (exfalso;omega)))
  | ((with_reducible refine QI 131 rfl (fun hb131=>?_) fun hb131=>?_);all_goals (try simp [-List.getD_eq_getElem?_getD] at hb131;try (exfalso;omega)))
  | ((with_reducible refine SA.cond rfl ?_ ?_)
     all_goals
      intro hb
      try simp [-List.getD_eq_getElem?_getD] at hb
      try (exfalso;omega))
  | ((with_reducible refine Ya ?_)
     refine Zv (Qo (by first|rfl|(simp;done)|fail)) (Yb (fun n τ=>∃ (j:Nat),n=l.length-j∧(j≤l.length)∧τ={ tm:=[(1,true,.ptr 0 [] 75),(6,true,.ptr 2 [] 49),(9,true,.ptr 3 [] 49),(12,true,.int .i64 j)],ob:=[.var 75 (.data 75 (UU p l k b)),.dead,.var 49 (.data 49 (Trc.v ⟨Qh p l b,Qs p l b,decide ((l.length:Int)=b.steps)&&decide (0<(ready p (Qs p l b)).length)⟩)),.var 49 (.data 49 (Trc.v ⟨Qh p (Qx l k) b,Qs p l b,decide (((Qx l k).length:Int)=b.steps)&&decide (0<(ready p (Qs p l b)).length)⟩))],out:=[],nt:=133 }) (l.length) ⟨0,rfl,Nat.zero_le _,rfl⟩ ?_)
     rintro n τ ⟨j,hn,hj,rfl⟩)
  | ((with_reducible refine WC ?_)
     first
      | (refine Z0 (l.length-(j+1)) _ (by omega) (Qo (by simp only [hwj])) ⟨j+1,rfl,hlt,rfl⟩))
  | ((with_reducible first|refine ZQ ?_|refine ZP ?_)
     simp only [go_sem,QL,QM,QH,seval]
     first
      | (exact ⟨rfl,rfl⟩)
      | (rfl))
end Go.Eng.Tryz
