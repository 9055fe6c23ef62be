/- A part of the proof: walks through the program's functions, and what they compute. -/
import Derived.Test.YtmonhjagbhpbeaaGreatDoorPk37
import Derived.Test.YtmonhjagbhpbeaaGreatDoorPk38
import Derived.Test.YtmonhjagbhpbeaaGreatDoorPk54
set_option linter.unusedSimpArgs false
set_option linter.unusedVariables false
namespace Go.Eng.Tryz
open Go.RowKit Go.Eng
set_option maxHeartbeats 0
set_option maxRecDepth 20000
theorem QCl (p:Prg) (b:Bud) (hp:p.Fit):Ctr Go.Proofs.Tryz.prog tab 22 [26,28] [29,30] [p.v,b.v] [.list ((Vv p b).map Pck.v),.int (ZR p 0 b)]:=by
 have hpp:=hp
 have hcode:True→True:=id
 have hsl:True→True:=id
 have hmx:400≤maxLen:=by decide
 refine Ctr.body ok Go.Proofs.Tryz.func22 rfl rfl 18 rfl [.tmp 4,.tmp 5] rfl (by simp [QF]) ?_
 simp only [go_sem,Nat.reduceAdd]
 repeat' first
  | ((with_reducible refine Q5 fun R1 hR1=>?_);(simp only [go_sem,seval,-List.reduceReplicate,Bool.cond_false_right,Bool.cond_true_left,QE]);(repeat' with_reducible refine And.intro ?_ ?_);all_goals first|(refine hR1 _ ?_;clear hR1 R1)|((first|refine cq (VK (qJ p _ b hpp)) ?_|refine ⟨_,_,rfl,.inr (QCL p b hpp hz.2.2.1 hz.2.1 hz.1 (QE6 hz.2.2.1 hz.2.1) ?_ ?_ (fun s ys=>?_))⟩);all_goals ((try simp only [go_sem,seval,-List.reduceReplicate,Bool.cond_false_right,Bool.cond_true_left,QE]);(repeat' with_reducible refine And.intro ?_ ?_);all_goals first|(refine hR1 _ ?_;clear hR1 R1)|exact Zp))|exact Zp)
  | ((with_reducible refine Q4 ?_);refine hR _ ?_;clear hR R;try simp only [go_sem,QRD,Nat.reduceBEq])
  | (with_reducible first|refine J1 ?_|refine J2 ?_|refine J3 ?_|refine Q2 ?_|refine Q1 ?_)
  | ((with_reducible refine Qe 4 ?_)
     have hz:=yO hb12
     (with_reducible refine rg QRD fun R hR=>?_);simp only [go_sem,QC])
  | ((with_reducible refine rg QRD fun R hR=>?_);simp only [go_sem,QC])
  | ((with_reducible refine QI 12 rfl (fun hb12=>?_) fun hb12=>?_);all_goals (try simp [-List.getD_eq_getElem?_getD] at hb12;try (exfalso;omega)))
  | ((with_reducible first|refine ZQ ?_|refine ZP ?_)
     simp only [go_sem,QL,QM,QH,seval]
     first
      | (have q:¬_:=hb12
         refine ⟨⟨rfl,?_⟩,rfl⟩
         unfold Vv
         rw [if_neg hb12]
         rfl)
      | (have q:=hb12
         have e:Vv p b=(QX p b.fuel (Yi p b)).2.1:=if_pos hb12
         have hkl2:=Us (p:=p) (fuel:=b.fuel) (Yi p b)
         rw [e,hb12]
         refine ⟨⟨rfl,?_,?_⟩,rfl,rfl⟩
         · simp [List.take_of_length_le,hkl2]
         · intro e he
           first|(cases he;done)|(intro j u lo n c h;simp at he;subst he;cases h)))
def QFW:List (List Nat):=[[2,3],[2,3,6],[2,3,6,18],[4,5],[2,3,7],[2,3,7,9],[2,3,7,9,10],[2,3,7,9,10,31],[2,3,7,9,10,11],[2,3,7,9,10,11,37],[2,3,7,9,10,11,12],[2,3,7,9,10,11,12,13],[2,3,7,9,10,11,12,13,45],[2,3,7,9,10,11,12,13],[2,3,7,9,10,11,12,13,54],[2,3,7,9,10,11,12,13],[2,3,7,9,12],[2,3,7,9,10,12],[2,3,7,9,10],[4,5]]
theorem xi (p:Prg) (b:Bud) (hp:p.Fit):Ctr Go.Proofs.Tryz.prog tab 23 [26,28] [29,3] [p.v,b.v] [.list ((Vv p b).map Pck.v),.int (ZR p 0 b)]:=by
 have hpp:=hp
 have hcode:True→True:=id
 have hsl:True→True:=id
 have hmx:400≤maxLen:=by decide
 refine Ctr.body ok Go.Proofs.Tryz.func23 rfl rfl 76 rfl [.tmp 4,.tmp 5] rfl (by simp [QF]) ?_
 simp only [go_sem,Nat.reduceAdd]
 repeat' first
  | ((with_reducible refine SARA.told 10 _ ?_);try simp only [hA0])
  | ((with_reducible refine SARA.told 11 _ ?_);try simp only [hw0])
  | ((with_reducible refine SARA.told 14 _ ?_);try simp only [hix,hAm,Pck.v0])
  | ((with_reducible refine SARA.told 15 _ ?_);try simp only [hix,hAm])
  | ((with_reducible refine SARA.told 17 _ ?_);try simp only [Pck.v0])
  | ((with_reducible refine Q5 fun R1 hR1=>?_);(simp only [go_sem,seval,-List.reduceReplicate,Bool.cond_false_right,Bool.cond_true_left,QE,Nat.zero_add]);(repeat' with_reducible refine And.intro ?_ ?_);all_goals first|(refine hR1 _ ?_;clear hR1 R1)|((first|refine cq (VK (yY p _ b hpp)) ?_|refine ce (wO (QCe p b.fuel hpp) ?_)|refine ce (wO (Uv p (QX p b.fuel k).1 hpp hr hw) ?_)|refine ce (wO (QLp p (QX p b.fuel k).1 (ZN (ready p (QX p b.fuel k).1) (QX p b.fuel k).2.2) b.fuel hpp hr hw) ?_));all_goals ((try simp only [go_sem,seval,-List.reduceReplicate,Bool.cond_false_right,Bool.cond_true_left,QE,Nat.zero_add]);(repeat' with_reducible refine And.intro ?_ ?_);all_goals first|(refine hR1 _ ?_;clear hR1 R1)|exact VL))|exact VL)
  | ((with_reducible refine Q4 ?_);refine hR _ ?_;clear hR R;try simp only [go_sem,QFW,Nat.reduceBEq])
  | (with_reducible first|refine J1 ?_|refine J2 ?_|refine J3 ?_|refine J4 ?_|refine J5 ?_|refine J6 ?_|refine J7 ?_|refine J8 (by decide) ?_|refine J9 ?_|refine Xu ?_|refine Q2 ?_|refine Q1 ?_|refine Yc ?_|refine Xt ?_)
  | ((with_reducible refine Qe 4 ?_)
     have hz0:=yO hb18
     have hr:=hz0.2.2.1
     have hok:=Prg.ok hr
     have hst:=hz0.1
     (with_reducible refine rg QFW fun R hR=>?_);simp only [go_sem,QC])
  | ((with_reducible refine Qe 8 ?_)
     have hvk:Vld p (QX p b.fuel k).1:=Ur hr hz0.2.1 hz
     have hw:=hvk.wf hok hr
     have hrl:=Yj hok hw (QX p b.fuel k).1.count.toNat
     have hct:=hvk.count
     have hrl2:(ready p (QX p b.fuel k).1).length≤384:=by unfold ready;omega
     have hrl3:(ready p (QX p b.fuel k).1).length≤maxLen:=by omega
     (with_reducible refine rg QFW fun R hR=>?_);simp only [go_sem,QC])
  | ((with_reducible refine Qe 9 ?_)
     refine Zv (J49 ok.sized 4 rfl) ?_
     simp only [St.frz,Tm.frz,E.frz,E.frzL,Obj.frz,List.map_cons,List.map_nil,List.set_cons_zero,List.set_cons_succ,Nat.reduceBEq,Nat.beq_refl,if_true,if_false,Nat.beq_eq_true_eq,reduceCtorEq,Bool.false_eq_true,V.get,Nat.reduceEqDiff]
     simp only [List.drop_zero,List.take_of_length_le,List.length_map,Nat.le_refl]
     (with_reducible refine rg QFW fun R hR=>?_);simp only [go_sem,QC])
  | ((with_reducible refine Qe 10 ?_)
     have hr0:0<(ready p (QX p b.fuel k).1).length:=by have q:=hb37;first|exact List.length_pos_iff.2 hb37|omega
     have hA0:=Qg Pck.v (ready p (QX p b.fuel k).1) (i:=0) hr0
     have hw0:IntKind.i64.wrap (((ready p (QX p b.fuel k).1).length:Int)-1)=((ready p (QX p b.fuel k).1).length:Int)-1:=Qm (by omega) (by omega)
     (with_reducible refine rg QFW fun R hR=>?_);simp only [go_sem,QC])
  | ((with_reducible refine Qe 14 ?_)
     have hml:m<(ready p (QX p b.fuel k).1).length:=by omega
     have hAm:=Qg Pck.v (ready p (QX p b.fuel k).1) (i:=(ready p (QX p b.fuel k).1).length-(m+1)) (by omega)
     have hix:(((((ready p (QX p b.fuel k).1).length-m):Nat):Int)-1).toNat=(ready p (QX p b.fuel k).1).length-(m+1):=by omega
     have hstp:=QD8 (rd:=(ready p (QX p b.fuel k).1)) (j:=(ready p (QX p b.fuel k).1).length-(m+1)) (QX p b.fuel k).2.2 (by omega)
     rw [show (ready p (QX p b.fuel k).1).length-(m+1)+1=((ready p (QX p b.fuel k).1).length-m) by omega] at hstp
     have hwm:IntKind.i64.wrap (((((ready p (QX p b.fuel k).1).length-m):Nat):Int)-1-1)=(((ready p (QX p b.fuel k).1).length-(m+1):Nat):Int)-1:=by
      rw [Qm (by omega) (by omega)]
      omega
     (with_reducible refine rg QFW fun R hR=>?_);simp only [go_sem,QC])
  | ((with_reducible refine Qe 16 ?_)
     have hm2:m=(ready p (QX p b.fuel k).1).length:=by omega
     subst hm2
     rw [Nat.sub_self,QD7]
     (with_reducible refine rg QFW fun R hR=>?_);simp only [go_sem,QC])
  | ((with_reducible refine rg QFW fun R hR=>?_);simp only [go_sem,QC])
  | ((with_reducible refine QI 18 rfl (fun hb18=>?_) fun hb18=>?_);all_goals (try simp [-List.getD_eq_getElem?_getD] at hb18;try (exfalso;omega)))
  | ((with_reducible refine QI 31 rfl (fun hb31=>?_) fun hb31=>?_);all_goals (try simp [-List.getD_eq_getElem?_getD] at hb31;try (exfalso;omega)))
  | ((with_reducible refine QI 37 rfl (fun hb37=>?_) fun hb37=>?_);all_goals (try simp [-List.getD_eq_getElem?_getD] at hb37;try (exfalso;omega)))
  | ((with_reducible refine QI 45 rfl (fun hb45=>?_) fun hb45=>?_);all_goals (try simp [-List.getD_eq_getElem?_getD] at hb45;try (exfalso;omega)))
  | ((with_reducible refine QI 54 rfl (fun hb54=>?_) fun hb54=>?_);all_goals (try simp [-List.getD_eq_getElem?_getD] at hb54;try (exfalso;omega)))
  | ((with_reducible refine Ya ?_)
     refine Zv ((St.le.own (t:=9) 56 rfl).trans ((St.le.keep [2,3,7,9,10]).trans (Qo (by first|rfl|(simp;done)|fail)))) (Yb (fun n τ=>∃ (k:Nat),n=b.steps.toNat+1-k∧(k≤b.steps.toNat∧∀ j:Nat,j<k→0<(ready p (QX p b.fuel j).1).length)∧τ={ tm:=[(2,true,.ptr 0 [] 26),(3,true,.ptr 1 [] 28),(7,true,.ptr 2 [] 47),(9,true,.sl 3 56 0 k false),(10,true,.int .i64 (QX p b.fuel k).2.2)],ob:=[.var 26 (.data 26 p.v),.var 28 (.data 28 b.v),.var 47 (.data 47 (Stt.v (QX p b.fuel k).1)),.row 56 ((QX p b.fuel k).2.1.map Pck.v)],out:=[],nt:=76 }) (b.steps.toNat+1) ⟨0,rfl,⟨Nat.zero_le _,fun j h=>by omega⟩,rfl⟩ ?_)
     rintro n τ ⟨k,hn,⟨hk,hz⟩,rfl⟩
     have hkl2:=Us (p:=p) (fuel:=b.fuel) k)
  | ((with_reducible refine Ya ?_)
     refine Zv (Qo (by (rw [Nat.sub_zero,QE7];try rfl))) (Yb (fun n τ=>∃ (m:Nat),n=(ready p (QX p b.fuel k).1).length-m∧(m≤(ready p (QX p b.fuel k).1).length)∧τ={ tm:=[(2,true,.ptr 0 [] 26),(3,true,.ptr 1 [] 28),(7,true,.ptr 2 [] 47),(9,true,.sl 3 56 0 k false),(10,true,.int .i64 (QX p b.fuel k).2.2),(11,true,.fs 56 ((ready p (QX p b.fuel k).1).map Pck.v) false),(12,true,.ptr 5 [] 56),(13,true,.int .i64 (((((ready p (QX p b.fuel k).1).length-m):Nat):Int)-1))],ob:=[.var 26 (.data 26 p.v),.var 28 (.data 28 b.v),.var 47 (.data 47 (Stt.v (QX p b.fuel k).1)),.row 56 ((QX p b.fuel k).2.1.map Pck.v),.dead,.var 56 (.data 56 (Pck.v (UD (ready p (QX p b.fuel k).1) (QX p b.fuel k).2.2 ((ready p (QX p b.fuel k).1).length-m))))],out:=[],nt:=76 }) ((ready p (QX p b.fuel k).1).length) ⟨0,rfl,Nat.zero_le _,rfl⟩ ?_)
     rintro n τ ⟨m,hn,hm,rfl⟩)
  | ((with_reducible refine WC ?_)
     first
      | (have hlt:k<b.steps.toNat:=by omega
         refine Z0 (b.steps.toNat+1-(k+1)) _ (by omega) ((WS 4 rfl).trans (Qo (by simp [-List.getD_eq_getElem?_getD,QX,List.take_of_length_le,hkl2]))) ⟨k+1,rfl,⟨hlt,fun j h=>?_⟩,rfl⟩
         by_cases h2:j<k
         · exact hz j h2
         · have h3:j=k:=by omega
           rw [h3];exact hr0)
      | (have q:=hb54
         rw [if_pos (by omega)] at hstp
         refine Z0 ((ready p (QX p b.fuel k).1).length-(m+1)) _ (by omega) (Qo (by simp only [hwm,hstp])) ⟨m+1,rfl,hml,rfl⟩)
      | (have q:=hb54
         rw [if_neg (by omega)] at hstp
         refine Z0 ((ready p (QX p b.fuel k).1).length-(m+1)) _ (by omega) (Qo (by simp only [hwm,hstp])) ⟨m+1,rfl,hml,rfl⟩))
  | ((with_reducible first|refine ZQ ?_|refine ZP ?_)
     simp only [go_sem,QL,QM,QH,seval]
     first
      | (have q:¬_:=hb18
         refine ⟨⟨rfl,?_⟩,rfl⟩
         unfold Vv
         rw [if_neg hb18]
         rfl)
      | (have q:=hb37
         have h0:(ready p (QX p b.fuel k).1).length=0:=by first|omega|(rw [hb37];rfl)
         have e:Yi p b=k:=by
          by_cases hc:k<b.steps.toNat
          · exact QA2 hc h0 hz
          · exact UC (by omega) hz
         refine ⟨⟨rfl,?_,?_⟩,rfl,?_⟩
         · unfold Vv
           rw [if_pos hb18,e]
           simp [List.take_of_length_le,hkl2]
         · intro e he
           first|(cases he;done)|(intro j u lo n c h;simp at he;subst he;cases h)
         · rw [hb18])
      | (have e:Yi p b=k:=UC (by omega) hz
         refine ⟨⟨rfl,?_,?_⟩,rfl,?_⟩
         · unfold Vv
           rw [if_pos hb18,e]
           simp [List.take_of_length_le,hkl2]
         · intro e he
           first|(cases he;done)|(intro j u lo n c h;simp at he;subst he;cases h)
         · rw [hb18]))
theorem QIx (p:Prg) (b:Bud):(Vv p b).length≤256:=by
 by_cases h:ZR p 0 b=0
 · have hz:=yO h
   have e:Vv p b=(QX p b.fuel (Yi p b)).2.1:=if_pos h
   have hle:Yi p b≤b.steps.toNat:=by
    unfold Yi
    have:=List.findIdx_le_length (xs:=List.range b.steps.toNat) (p:=fun k=>decide ((ready p (QX p b.fuel k).1).length=0))
    simpa using this
   have h1:=hz.1
   rw [e,Us]
   omega
 · unfold Vv
   rw [if_neg h]
   decide
def lv5:List (List Nat):=[[1,3,5],[1,3,5,7,8],[1,7,8,9,10],[6]]
theorem QAx (p:Prg) (l:List Pck) (b:Bud) (hp:p.Fit) (hl:l.length≤maxLen):Ctr Go.Proofs.Tryz.prog tab 5 [26,29,28] [4] [p.v,.list (l.map Pck.v),b.v] [.bool true]:=by
 have hpp:=hp
 have hcode:True→True:=id
 have hsl:True→True:=id
 have hmx:256≤maxLen:=by decide
 have hcl:(Vv p b).length≤maxLen:=Nat.le_trans (QIx p b) hmx
 refine Ctr.body ok Go.Proofs.Tryz.func5 rfl rfl 41 rfl [.tmp 6] rfl (by simp [QF]) ?_
 simp only [go_sem,Nat.reduceAdd]
 repeat' first
  | ((with_reducible refine Q5 fun R1 hR1=>?_);(simp only [go_sem,seval,-List.reduceReplicate,Bool.cond_false_right,Bool.cond_true_left,QE,decide_true,Bool.not_true,Bool.not_false]);(repeat' with_reducible refine And.intro ?_ ?_);all_goals first|(refine hR1 _ ?_;clear hR1 R1)|(intro hgf;simp only [hgf];refine hR1 _ ?_;clear hR1 R1)|((first|refine ce (wO (QCl p b hpp) ?_)|refine ⟨_,_,rfl,.inr ⟨fun _=>CallE.ctr ok (QCl p b hpp) (by first|rfl|(simp [go_sem,List.take_of_length_le,List.length_map,List.map_take,List.drop_zero];done)|fail) ?_,?_⟩⟩|refine ce (wO (xi p b hpp) ?_)|refine ⟨_,_,rfl,.inr ⟨fun _=>CallE.ctr ok (xi p b hpp) (by first|rfl|(simp [go_sem,List.take_of_length_le,List.length_map,List.map_take,List.drop_zero];done)|fail) ?_,?_⟩⟩|refine cq (VK (ZX (Vv p b) (Vv p b) hcl hcl)) ?_|refine Y4 (fun hg=>VK (ZX (Vv p b) (Vv p b) hcl hcl)) ?_|refine cq (VK (xZ l hl)) ?_|refine Y4 (fun hg=>VK (xZ l hl)) ?_|refine cq (VK (qn l hl)) ?_|refine Y4 (fun hg=>VK (qn l hl)) ?_|refine cq (VK (yA)) ?_|refine Y4 (fun hg=>VK (yA)) ?_);all_goals ((try simp only [go_sem,seval,-List.reduceReplicate,Bool.cond_false_right,Bool.cond_true_left,QE,decide_true,Bool.not_true,Bool.not_false]);(repeat' with_reducible refine And.intro ?_ ?_);all_goals first|(refine hR1 _ ?_;clear hR1 R1)|(intro hgf;simp only [hgf];refine hR1 _ ?_;clear hR1 R1)|exact Zp))|exact Zp)
  | ((with_reducible refine Q4 ?_);refine hR _ ?_;clear hR R;try simp only [go_sem,lv5,Nat.reduceBEq])
  | (with_reducible first|refine J1 ?_|refine J2 ?_|refine Q2 ?_|refine Q1 ?_)
  | ((with_reducible refine rg lv5 fun R hR=>?_);simp only [go_sem,QC])
  | ((with_reducible first|refine ZQ ?_|refine ZP ?_)
     simp only [go_sem,QL,QM,QH,seval]
     first
      | (exact ⟨rfl,rfl⟩)
      | (rfl)
      | (refine ⟨rfl,?_⟩
         simp))
end Go.Eng.Tryz
