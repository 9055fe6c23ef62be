/- A part of the proof: walks through the program's functions, and what they compute. -/
import Derived.Test.YtmonhjagbhpbeaaGreatDoorPk21
import Derived.Test.YtmonhjagbhpbeaaGreatDoorPk24
set_option linter.unusedSimpArgs false
set_option linter.unusedVariables false
namespace Go.Eng.Tryz
open Go.RowKit Go.Eng
set_option maxHeartbeats 0
set_option maxRecDepth 20000
def QM7:List (List Nat):=[[0,1],[1,9,10,11],[1,9,10,11,12],[1,6,9,10,11],[1,6,9,10,11,15,16,17],[1,6,9,10,11,15,16,17,18],[1,6,8,9,10,11,15,16,17],[1,6,9,10,11,15,16,17,40],[4],[1,6,9,10,11,15,16,17],[1,9,10,11],[4]]
theorem Wu (a b:List Access) (ha:a.length≤maxLen) (hb:b.length≤maxLen):Ctr Go.Proofs.Tryz.prog tab 61 [94,94] [4] [.list (a.map Access.v),.list (b.map Access.v)] [.bool (qq a b)]:=by
 refine Ctr.body ok Go.Proofs.Tryz.func61 rfl rfl 43 rfl [.tmp 4] rfl (by simp [QF]) ?_
 simp only [go_sem,Nat.reduceAdd]
 repeat' first
  | ((with_reducible refine Q5 fun R1 hR1=>?_);(simp only [go_sem,seval,-List.reduceReplicate,List.length_map,YS,wP,z3,z4,Int.toNat_natCast,Access.v,Int.natCast_zero]);(repeat' with_reducible refine And.intro ?_ ?_);all_goals first|(refine hR1 _ ?_;clear hR1 R1)|exact ob5)
  | ((with_reducible refine SARA.nilAt 6 ?_);refine hR _ ?_;clear hR R;try simp only [go_sem,QM7,Nat.reduceBEq]
     have hjl:j<b.length:=by omega
     rw [Qg Access.v b hjl])
  | ((with_reducible refine SARA.nilAt 3 ?_);refine hR _ ?_;clear hR R;try simp only [go_sem,QM7,Nat.reduceBEq]
     have hlt:i<a.length:=by omega
     rw [Qg Access.v a hlt])
  | ((with_reducible refine Q4 ?_);refine hR _ ?_;clear hR R;try simp only [go_sem,QM7,Nat.reduceBEq])
  | (with_reducible first|refine J1 ?_|refine J2 ?_|refine J3 ?_|refine J4 ?_|refine J5 ?_|refine J6 ?_|refine J7 ?_|refine J8 (by decide) ?_|refine J9 ?_|refine Xu ?_|refine Q2 ?_|refine Q1 ?_|refine Yc ?_|refine Xt ?_)
  | ((with_reducible refine rg QM7 fun R hR=>?_);simp only [go_sem,QC])
  | ((with_reducible refine QI 12 rfl (fun hb12=>?_) (fun hf12=>?_))
     all_goals
      try
       (try simp only [decide_eq_true_eq,decide_eq_false_iff_not] at hb12)
      try
       (try simp only [decide_eq_true_eq,decide_eq_false_iff_not] at hf12))
  | ((with_reducible refine QI 18 rfl (fun hb18=>?_) (fun hf18=>?_))
     all_goals
      try
       (try simp only [decide_eq_true_eq,decide_eq_false_iff_not] at hb18)
      try
       (try simp only [decide_eq_true_eq,decide_eq_false_iff_not] at hf18))
  | ((with_reducible refine QI 40 rfl (fun hb40=>?_) (fun hf40=>?_))
     all_goals
      try
       (try simp only [decide_eq_true_eq,decide_eq_false_iff_not] at hb40)
      try
       (try simp only [decide_eq_true_eq,decide_eq_false_iff_not] at hf40))
  | ((with_reducible refine Ya ?_)
     refine Zv (Qo (by first|rfl|(simp;done)|fail)) (Yb (fun n τ=>∃ (i:Nat),n=a.length-i∧(i≤a.length∧qq (a.take i) b=false)∧τ={ tm:=[(1,true,.fs 60 (b.map Access.v) false),(9,true,.fs 60 (a.map Access.v) false),(10,true,.int .i64 a.length),(11,true,.int .i64 i)],ob:=[],out:=[],nt:=43 }) (a.length) ⟨0,rfl,⟨Nat.zero_le _,rfl⟩,rfl⟩ ?_)
     rintro n τ ⟨i,hn,⟨hi,hc⟩,rfl⟩)
  | ((with_reducible refine Ya ?_)
     refine Zv (Qo (by first|rfl|(simp;done)|fail)) (Yb (fun n τ=>∃ (j:Nat),n=b.length-j∧(j≤b.length∧((b.take j).any fun y=>Ue (a.getD i default) y)=false)∧τ={ tm:=[(1,true,.fs 60 (b.map Access.v) false),(6,true,.ptr 0 [] 60),(9,true,.fs 60 (a.map Access.v) false),(10,true,.int .i64 a.length),(11,true,.int .i64 i),(15,true,.fs 60 (b.map Access.v) false),(16,true,.int .i64 b.length),(17,true,.int .i64 j)],ob:=[.var 60 (.data 60 (a.getD i default).v)],out:=[],nt:=43 }) (b.length) ⟨0,rfl,⟨Nat.zero_le _,rfl⟩,rfl⟩ ?_)
     rintro n τ ⟨j,hn,⟨hj,hd⟩,rfl⟩)
  | ((with_reducible refine WC ?_)
     first
      | (have hlt:i<a.length:=by omega
         refine Z0 (a.length-(i+1)) _ (by omega) ((WS 0 rfl).trans (Qo (by simp only [QD hlt ha,List.take_zero]))) ⟨i+1,rfl,⟨hlt,?_⟩,rfl⟩
         rw [QBc a b hlt,hc,Bool.false_or]
         have:j=b.length:=by omega
         subst this
         simpa using hd)
      | (have _:=hb12
         have _:=hb18
         have _:=hf40
         refine Z0 (b.length-(j+1)) _ (by omega) ((WS 1 rfl).trans (Qo (by simp only [QD hjl hb,List.take_succ_cons,List.take_zero]<;>rfl))) ⟨j+1,rfl,⟨hjl,?_⟩,rfl⟩
         rw [zu _ b hjl,hd,Bool.false_or]
         simpa [Ue] using hf40))
  | ((with_reducible first|refine ZQ ?_|refine ZP ?_)
     simp only [QL,ZD,QM,QH,VZ,UY,ty4,U9,List.lookup_cons,List.lookup_nil,beq_self_eq_true,forall_const,true_and,and_true]
     first
      | (have _:=hb12
         have _:=hb18
         have _:=hb40
         refine ⟨rfl,?_⟩
         have h3:Ue (a.getD i default) (b.getD j default)=true:=by simpa [Ue] using hb40
         have h4:qq a b=true:=List.any_eq_true.2 ⟨_,Qj a hlt,List.any_eq_true.2 ⟨_,Qj b hjl,h3⟩⟩
         rw [h4];rfl)
      | (have _:=hf12
         refine ⟨rfl,?_⟩
         have:i=a.length:=by omega
         subst this
         rw [List.take_length] at hc
         rw [hc];rfl))
def QQ2:List (List Nat):=[[0],[2]]
theorem xY (e:Event) (he:e.touch.length=6) {σ:St} {K:St→E→Prop} (h:∀ c,K σ (.fs 60 (e.of.map Access.v) c)):CallE Go.Proofs.Tryz.prog tab σ 66 [.fptr 63 e.v] K:=by
 refine CallE.body ok Go.Proofs.Tryz.func66 rfl rfl 13 rfl [.tmp 2] rfl (by simp) ?_
 simp only [enter,Zf,Nat.zero_add,Nat.reduceAdd]
 repeat' first
  | ((with_reducible first|refine Q5 fun R1 hR1=>?_|refine yb fun R1 hR1=>?_);(simp only [go_sem,seval,-List.reduceReplicate,List.length_map,YS,wP,z3,z4,Int.toNat_natCast,Access.v,Int.natCast_zero]);(repeat' with_reducible refine And.intro ?_ ?_);all_goals first|(refine hR1 _ ?_;clear hR1 R1)|exact ob3)
  | ((with_reducible first|refine Q4 ?_|refine ya ?_);refine hR _ ?_;clear hR R;try simp only [go_sem,QQ2,Nat.reduceBEq])
  | (with_reducible first|refine J1 ?_|refine J2 ?_|refine Q2 ?_|refine Q1 ?_)
  | ((with_reducible refine rg QQ2 fun R hR=>?_);simp only [go_sem,QC])
  | ((with_reducible refine Ve ok QQ (by kernel_rfl) (by kernel_rfl) QQ2 ?_);intro R hR;simp only [go_sem,QC])
  | ((with_reducible first|refine xQ ?_|refine xP ?_)
     simp only [QL,ZD,QM,QH,VZ,UY,ty4,U9,List.lookup_cons,List.lookup_nil,beq_self_eq_true,forall_const,true_and,and_true]
     simpa [Event.v,Event.of,List.map_take] using h (decide (max 0 (min 6 e.touches)=6)))
def QRA:List (List Nat):=[[2,3],[4]]
theorem W5 (a b:Event) (ha:a.touch.length=6) (hb:b.touch.length=6):Ctr Go.Proofs.Tryz.prog tab 32 [63,63] [4] [a.v,b.v] [.bool (ZH a b)]:=by
 refine Ctr.body ok Go.Proofs.Tryz.func32 rfl rfl 8 rfl [.tmp 4] rfl (by simp [QF]) ?_
 simp only [go_sem,Nat.reduceAdd]
 repeat' first
  | ((with_reducible refine Q5 fun R1 hR1=>?_);(simp only [go_sem,seval,-List.reduceReplicate,List.length_map,YS,wP,z3,z4,Int.toNat_natCast,Access.v,Int.natCast_zero]);(repeat' with_reducible refine And.intro ?_ ?_);all_goals first|(refine hR1 _ ?_;clear hR1 R1)|((first|refine ⟨_,_,rfl,.inr (xY a ha fun c1=>?_)⟩|refine ⟨_,_,rfl,.inr (xY b hb fun c2=>?_)⟩|refine cq (cc (Wu a.of b.of (by have:=a.of_len ha;unfold maxLen;omega) (by have:=b.of_len hb;unfold maxLen;omega)) (by first|rfl|(simp [go_sem,VN,VO,Yo,List.length_map,List.take_of_length_le];done)|fail)) ?_);all_goals ((try simp only [go_sem,seval,-List.reduceReplicate,List.length_map,YS,wP,z3,z4,Int.toNat_natCast,Access.v,Int.natCast_zero]);(repeat' with_reducible refine And.intro ?_ ?_);all_goals first|(refine hR1 _ ?_;clear hR1 R1)|exact ob5))|exact ob5)
  | ((with_reducible refine Q4 ?_);refine hR _ ?_;clear hR R;try simp only [go_sem,QRA,Nat.reduceBEq])
  | (with_reducible first|refine J1 ?_|refine J2 ?_|refine Q2 ?_|refine Q1 ?_)
  | ((with_reducible refine Qe 1 ?_)
     refine Zv ((St.le.frz ok.sized 0 rfl).trans (St.le.frz ok.sized 1 rfl)) ?_
     simp only [St.frz,Tm.frz,E.frz,E.frzL,Obj.frz,List.map_cons,List.map_nil,List.set_cons_zero,List.set_cons_succ,Nat.reduceBEq,Nat.beq_refl,if_true,if_false,Nat.beq_eq_true_eq,reduceCtorEq,Bool.false_eq_true,V.get,Nat.reduceEqDiff]
     (with_reducible refine rg QRA fun R hR=>?_);simp only [go_sem,QC])
  | ((with_reducible refine rg QRA fun R hR=>?_);simp only [go_sem,QC])
  | ((with_reducible first|refine ZQ ?_|refine ZP ?_)
     simp only [QL,ZD,QM,QH,VZ,UY,ty4,U9,List.lookup_cons,List.lookup_nil,beq_self_eq_true,forall_const,true_and,and_true]
     exact ⟨rfl,rfl⟩)
theorem RunOk.all {p:Prg} {l:List Pck} {b:Bud} (h:RunOk p l b):∀ j,j<l.length→Z6 QB p b.fuel (start QB p b.fuel).1 l j=true:=fun j hj=>QCc QB (by rw [h.stop];exact hj)
theorem RunOk.start {p:Prg} {l:List Pck} {b:Bud} (h:RunOk p l b):Vld p (start QB p b.fuel).1:=zK Zd h.right (Prg.ok h.right) h.fuel
def Zb (p:Prg) (l:List Pck) (b:Bud) (i:Nat):Event:=Qy QB p b.fuel (start QB p b.fuel).1 l i
theorem RunOk.touch {p:Prg} {l:List Pck} {b:Bud} (h:RunOk p l b) {j:Nat} (hj:j<l.length):(Zb p l b j).touch.length=6:=by
 obtain ⟨v,hv⟩:=QAd (apply:=QB) (wd (h.all j hj)) h.fuel
 unfold Zb Qy
 rw [hv]
 exact QB6 _
theorem QFl {p:Prg} {l:List Pck} {b:Bud} {j:Nat} (hj:j<l.length):(Qh p l b).getD j default=Zb p l b j:=QCI hj
theorem YM (p:Prg) (l:List Pck) (b:Bud):(Qh p l b).length=l.length:=Yk ..
def Z1 (p:Prg) (l:List Pck) (i last:Int) (b:Bud):Trc × Int :=
 if QN p=false then (⟨[],zeroStt,false⟩,3) else if 256<l.length then (⟨[],zeroStt,false⟩,2) else if i<0∨last<i then (⟨[],zeroStt,false⟩,1) else ((Wa p l b).1,(Wa p l b).2.1)
theorem Vj {p:Prg} {l:List Pck} {i last:Int} {b:Bud} (h:(Z1 p l i last b).2=0):0≤i∧i≤last∧(XX p l b).2.2.1=0 ∧
 Z1 p l i last b=(⟨Qh p l b,Qs p l b,decide ((l.length:Int)=b.steps)&&decide (0<(ready p (Qs p l b)).length)⟩,0):=by
 unfold Z1 at h ⊢
 split at h;· cases h
 split at h;· cases h
 split at h;· cases h
 rename_i h1 h2 h3
 have hz:(XX p l b).2.2.1=0:=by
  by_cases q:(XX p l b).2.2.1=0
  · exact q
  · rw [QA0 q] at h;exact h
 rw [if_neg h1,if_neg h2,if_neg h3,(YZ hz).2.2]
 exact ⟨by omega,by omega,hz,rfl⟩
theorem QIA {p:Prg} {l:List Pck} {i last:Int} {b:Bud} (h:¬Zh p=0):Z1 p l i last b=(⟨[],zeroStt,false⟩,3):=if_pos (decide_eq_false h)
theorem wt {p:Prg} {l:List Pck} {i last:Int} {b:Bud} (h:Zh p=0):Z1 p l i last b=if 256<l.length then (⟨[],zeroStt,false⟩,2) else if i<0∨last<i then (⟨[],zeroStt,false⟩,1) else ((Wa p l b).1,(Wa p l b).2.1) :=
 if_neg (by rw [show QN p=true from decide_eq_true h];simp)
theorem QIB {p:Prg} {l:List Pck} {i last:Int} {b:Bud} (h:Zh p=0) (h2:256<l.length):Z1 p l i last b=(⟨[],zeroStt,false⟩,2):=(wt h).trans (if_pos h2)
theorem QIC {p:Prg} {l:List Pck} {i last:Int} {b:Bud} (h:Zh p=0) (h2:¬256<l.length) (h3:i<0∨last<i):Z1 p l i last b=(⟨[],zeroStt,false⟩,1):=(wt h).trans ((if_neg h2).trans (if_pos h3))
theorem QEZ {p:Prg} {l:List Pck} {i last:Int} {b:Bud} (h:Zh p=0) (h2:¬256<l.length) (h3:¬(i<0∨last<i)):Z1 p l i last b=((Wa p l b).1,(Wa p l b).2.1):=(wt h).trans ((if_neg h2).trans (if_neg h3))
theorem yw {l:List Pck} {k:Nat}:((l.map Pck.v).set k (Pck.v (l.getD (k+1) default))).set (k+1) (Pck.v (l.getD k default))=(Qx l k).map Pck.v:=by
 unfold Qx
 rw [List.map_set,List.map_set]
theorem Xh {p:Prg} {l:List Pck} {b:Bud} {k:Nat} {d:V} (h:k<l.length):((Qh p l b).map Event.v).getD k d=Event.v (Zb p l b k):=by
 rw [Qg Event.v (Qh p l b) (i:=k) (by rw [YM];exact h),QFl h]
def QTZ:List (List Nat):=[[0],[0,4],[2],[2]]
theorem W6 (l:List Pck) (hl:l.length≤256) (hpos:0<l.length):Ctr Go.Proofs.Tryz.prog tab 60 [29] [29] [.list (l.map Pck.v)] [.list (l.map Pck.v)]:=by
 have hcode:True→True:=id
 have hsl:True→True:=id
 have hmx:400≤maxLen:=by decide
 refine Ctr.body ok Go.Proofs.Tryz.func60 rfl rfl 8 rfl [.tmp 2] rfl (by simp [QF]) ?_
 simp only [go_sem,Nat.reduceAdd]
 repeat' first
  | ((with_reducible refine Q5 fun R1 hR1=>?_);(simp only [go_sem,seval,-List.reduceReplicate,Bool.cond_false_right,Bool.cond_true_left,QE]);(repeat' with_reducible refine And.intro ?_ ?_);all_goals first|(refine hR1 _ ?_;clear hR1 R1)|exact VL)
  | ((with_reducible refine Q4 ?_);refine hR _ ?_;clear hR R;try simp only [go_sem,QTZ,Nat.reduceBEq])
  | (with_reducible first|refine J1 ?_|refine J2 ?_|refine J3 ?_|refine Q2 ?_|refine Q1 ?_)
  | ((with_reducible refine rg QTZ fun R hR=>?_);simp only [go_sem,QC])
  | ((with_reducible refine SA.cond rfl ?_ ?_)
     all_goals
      intro hb
      try simp [-List.getD_eq_getElem?_getD] at hb
      try (exfalso;omega))
  | ((with_reducible first|refine ZQ ?_|refine ZP ?_)
     simp only [go_sem,QL,QM,QH,seval]
     refine ⟨rfl,?_,?_⟩
     · simp [List.take_of_length_le]
     · intro e he
       first|(cases he;done)|(intro j u lo n c h;simp at he;subst he;cases h))
def QTa:List (List Nat):=[[1,2,3,5,9,10],[1,2,3,5,9,10,12],[1,2,3,5,9,10,23],[10,11],[1,2,3,5,9,10,27],[10,11],[1,5,9,10,35],[10,11],[10,14,15],[10,11]]
theorem qc (p:Prg) (l:List Pck) (i last:Int) (b:Bud) (hp:p.Fit) (hl:l.length≤maxLen):CtrZ Go.Proofs.Tryz.prog tab 59 [26,29,3,3,28] [49,30] [p.v,.list (l.map Pck.v),.int i,.int last,b.v] [(Z1 p l i last b).1.v,.int (Z1 p l i last b).2]:=by
 have hpp:=hp
 have hcode:True→True:=id
 have hsl:True→True:=id
 have hmx:400≤maxLen:=by decide
 refine CtrZ.body ok Go.Proofs.Tryz.func59 rfl rfl 47 rfl [.cell 10 49,.tmp 11] rfl (by simp [QF]) ?_
 simp only [go_sem,Nat.reduceAdd]
 repeat' first
  | ((with_reducible refine Q5 fun R1 hR1=>?_);(simp only [go_sem,seval,-List.reduceReplicate,Bool.cond_false_right,Bool.cond_true_left,QE]);(repeat' with_reducible refine And.intro ?_ ?_);all_goals first|(refine hR1 _ ?_;clear hR1 R1)|(intro hgf;simp only [hgf];refine hR1 _ ?_;clear hR1 R1)|((first|refine ce (wO (Vx p hpp) ?_)|refine ⟨_,_,rfl,.inr (CallE.ctrZ (YP p l b hpp hl) (by first|rfl|(simp [go_sem,List.take_of_length_le,List.length_map,List.map_take,List.drop_zero];done)|fail) ?_)⟩);all_goals ((try simp only [go_sem,seval,-List.reduceReplicate,Bool.cond_false_right,Bool.cond_true_left,QE]);(repeat' with_reducible refine And.intro ?_ ?_);all_goals first|(refine hR1 _ ?_;clear hR1 R1)|(intro hgf;simp only [hgf];refine hR1 _ ?_;clear hR1 R1)|exact Zp))|exact Zp)
  | ((with_reducible refine Q4 ?_);refine hR _ ?_;clear hR R;try simp only [go_sem,QTa,Nat.reduceBEq])
  | (with_reducible first|refine J1 ?_|refine J2 ?_|refine J3 ?_|refine Q2 ?_|refine Q1 ?_)
  | ((with_reducible refine rg QTa fun R hR=>?_);simp only [go_sem,QC])
  | ((with_reducible refine QI 23 rfl (fun hb23=>?_) fun hb23=>?_);all_goals (try simp [-List.getD_eq_getElem?_getD] at hb23;try (exfalso;omega)))
  | ((with_reducible refine QI 27 rfl (fun hb27=>?_) fun hb27=>?_);all_goals (try simp [-List.getD_eq_getElem?_getD] at hb27;try (exfalso;omega)))
  | ((with_reducible refine QI 35 rfl (fun hb35=>?_) fun hb35=>?_);all_goals (try simp [-List.getD_eq_getElem?_getD] at hb35;try (exfalso;omega)))
  | ((with_reducible first|refine J46 ?_|refine J47 ?_)
     simp only [go_sem,QL,QM,QH,seval]
     first
      | (have q:¬_:=hb23
         rw [QIA hb23]
         try rfl)
      | (have q:=hb27
         rw [QIB hb23 (by omega)]
         try rfl)
      | (have q:=hb35
         first
          | (rw [QIC hb23 (by omega) (by omega)]
             try rfl)
          | (rw [QEZ hb23 (by omega) (by omega)]
             try rfl)))
def QOt:List (List Nat):=[[0],[3],[3,4],[2],[3,6],[2],[3,8],[2],[3,10],[3,10],[2],[13],[2],[2]]
theorem xt (k:Int):Ctr Go.Proofs.Tryz.prog tab 142 [3] [3] [.int k] [.int (vk k)]:=by
 refine Ctr.body ok Go.Proofs.Tryz.func142 rfl rfl 15 rfl [.tmp 2] rfl (by simp [QF]) ?_
 simp only [go_sem,Nat.reduceAdd]
 repeat' first
  | ((with_reducible refine Q5 fun R1 hR1=>?_);(simp only [go_sem,seval,-List.reduceReplicate,List.length_map,YS,wP,z3,z4,Int.toNat_natCast,Int.natCast_zero,Event.v0,Event.v7,Event.v8,Access.v0,Access.v1,Access.v2,XA]);(repeat' with_reducible refine And.intro ?_ ?_);all_goals first|(refine hR1 _ ?_;clear hR1 R1)|exact ob3)
  | ((with_reducible refine Q4 ?_);refine hR _ ?_;clear hR R;try simp only [go_sem,QOt,Nat.reduceBEq])
  | (with_reducible first|refine J1 ?_|refine J2 ?_|refine J3 ?_|refine J4 ?_|refine J5 ?_|refine J6 ?_|refine J7 ?_|refine J8 (by decide) ?_|refine J9 ?_|refine Q2 ?_|refine Q1 ?_|refine Yc ?_)
  | ((with_reducible refine rg QOt fun R hR=>?_);simp only [go_sem,QC])
  | ((with_reducible refine QI 4 rfl (fun hb4=>?_) (fun hf4=>?_))
     all_goals
      try
       (try simp only [decide_eq_true_eq,decide_eq_false_iff_not] at hb4)
      try
       (try simp only [decide_eq_true_eq,decide_eq_false_iff_not] at hf4))
  | ((with_reducible refine QI 6 rfl (fun hb6=>?_) (fun hf6=>?_))
     all_goals
      try
       (try simp only [decide_eq_true_eq,decide_eq_false_iff_not] at hb6)
      try
       (try simp only [decide_eq_true_eq,decide_eq_false_iff_not] at hf6))
  | ((with_reducible refine QI 8 rfl (fun hb8=>?_) (fun hf8=>?_))
     all_goals
      try
       (try simp only [decide_eq_true_eq,decide_eq_false_iff_not] at hb8)
      try
       (try simp only [decide_eq_true_eq,decide_eq_false_iff_not] at hf8))
  | ((with_reducible refine QI 10 rfl (fun hb10=>?_) (fun hf10=>?_))
     all_goals
      try
       (try simp only [decide_eq_true_eq,decide_eq_false_iff_not] at hb10)
      try
       (try simp only [decide_eq_true_eq,decide_eq_false_iff_not] at hf10))
  | ((with_reducible refine QI 13 rfl (fun hb13=>?_) (fun hf13=>?_))
     all_goals
      try
       (try simp only [decide_eq_true_eq,decide_eq_false_iff_not] at hb13)
      try
       (try simp only [decide_eq_true_eq,decide_eq_false_iff_not] at hf13))
  | ((with_reducible first|refine ZQ ?_|refine ZP ?_)
     simp only [QL,ZD,QM,QH,VZ,UY,ty4,U9,List.lookup_cons,List.lookup_nil,beq_self_eq_true,forall_const,true_and,and_true]
     refine ⟨rfl,?_⟩
     first|(simp [vk, *];done)|(exfalso;omega))
def QOs:List (List Nat):=[[2,3],[2,3,5],[4],[32],[4],[4]]
theorem UQ (x y:Access):Ctr Go.Proofs.Tryz.prog tab 143 [60,60] [3] [x.v,y.v] [.int (cmp x y)]:=by
 refine Ctr.body ok Go.Proofs.Tryz.func143 rfl rfl 45 rfl [.tmp 4] rfl (by simp [QF]) ?_
 simp only [go_sem,Nat.reduceAdd]
 repeat' first
  | ((with_reducible refine Q5 fun R1 hR1=>?_);(simp only [go_sem,seval,-List.reduceReplicate,List.length_map,YS,wP,z3,z4,Int.toNat_natCast,Int.natCast_zero,Event.v0,Event.v7,Event.v8,Access.v0,Access.v1,Access.v2,XA]);(repeat' with_reducible refine And.intro ?_ ?_);all_goals first|(refine hR1 _ ?_;clear hR1 R1)|exact ob5)
  | ((with_reducible refine Q4 ?_);refine hR _ ?_;clear hR R;try simp only [go_sem,QOs,Nat.reduceBEq])
  | (with_reducible first|refine J1 ?_|refine J2 ?_|refine J3 ?_|refine J4 ?_|refine J5 ?_|refine J6 ?_|refine J7 ?_|refine J8 (by decide) ?_|refine J9 ?_|refine Q2 ?_|refine Q1 ?_|refine Yc ?_)
  | ((with_reducible refine rg QOs fun R hR=>?_);simp only [go_sem,QC])
  | ((with_reducible refine QI 5 rfl (fun hb5=>?_) (fun hf5=>?_))
     all_goals
      try
       (simp at hb5)
      try
       (simp at hf5))
  | ((with_reducible refine QI 32 rfl (fun hb32=>?_) (fun hf32=>?_))
     all_goals
      try
       (simp at hb32)
      try
       (simp at hf32))
  | ((with_reducible first|refine ZQ ?_|refine ZP ?_)
     simp only [QL,ZD,QM,QH,VZ,UY,ty4,U9,List.lookup_cons,List.lookup_nil,beq_self_eq_true,forall_const,true_and,and_true]
     refine ⟨rfl,?_⟩
     first|(simp [cmp, *];done)|(simp only [if_true,Option.some.injEq,V.int.injEq];unfold cmp;rw [if_neg (by omega),if_neg (by omega)]))
def QHw:List (List Nat):=[[1],[1,23],[2],[1,3],[1,3,25,26],[1,3,25,26,27],[1,3,4,5,25,26],[1,3,4,5,25,26,33],[1,3,25,26,36],[2],[1,3,5,25,26,61],[2],[1,3,25,26],[1,3,25,26],[2]]
theorem QGy (e:Event) (he:e.touch.length=6):Ctr Go.Proofs.Tryz.prog tab 102 [63] [4] [e.v] [.bool (right e)]:=by
 refine Ctr.body ok Go.Proofs.Tryz.func102 rfl rfl 72 rfl [.tmp 2] rfl (by simp [QF]) ?_
 simp only [go_sem,Nat.reduceAdd]
 repeat' first
  | ((with_reducible refine SARQ.told 10 17 ?_)
     rw [Qc (n:=(i:Int)-1) (by omega) (by omega)])
  | ((with_reducible refine SARQ.told 10 20 ?_)
     have hk:((i:Int)-1).toNat=i-1:=by omega
     rw [hk,Qg Access.v e.touch (by omega:i-1<e.touch.length)])
  | ((with_reducible first|refine Q5 fun R1 hR1=>?_|refine yb fun R1 hR1=>?_);(simp only [go_sem,seval,-List.reduceReplicate,List.length_map,YS,wP,z3,z4,Int.toNat_natCast,Int.natCast_zero,Event.v0,Event.v7,Event.v8,Access.v0,Access.v1,Access.v2,XA]);(repeat' with_reducible refine And.intro ?_ ?_);all_goals first|(refine hR1 _ ?_;clear hR1 R1)|((first|refine V4 (cc (xt (e.touch.getD i default).kind) (by first|rfl|(simp [go_sem,VN,VO,Yo,List.length_map,List.take_of_length_le];done)|fail)) ?_|refine wB (fun hg=>cc (xt (e.touch.getD i default).kind) (by first|rfl|(simp [go_sem,VN,VO,Yo,List.length_map,List.take_of_length_le];done)|fail)) ?_|refine cq (cc (xt (e.touch.getD i default).kind) (by first|rfl|(simp [go_sem,VN,VO,Yo,List.length_map,List.take_of_length_le];done)|fail)) ?_|refine Y4 (fun hg=>cc (xt (e.touch.getD i default).kind) (by first|rfl|(simp [go_sem,VN,VO,Yo,List.length_map,List.take_of_length_le];done)|fail)) ?_|refine V4 (cc (UQ (e.touch.getD (i-1) default) (e.touch.getD i default)) (by first|rfl|(simp [go_sem,VN,VO,Yo,List.length_map,List.take_of_length_le];done)|fail)) ?_|refine wB (fun hg=>cc (UQ (e.touch.getD (i-1) default) (e.touch.getD i default)) (by first|rfl|(simp [go_sem,VN,VO,Yo,List.length_map,List.take_of_length_le];done)|fail)) ?_|refine cq (cc (UQ (e.touch.getD (i-1) default) (e.touch.getD i default)) (by first|rfl|(simp [go_sem,VN,VO,Yo,List.length_map,List.take_of_length_le];done)|fail)) ?_|refine Y4 (fun hg=>cc (UQ (e.touch.getD (i-1) default) (e.touch.getD i default)) (by first|rfl|(simp [go_sem,VN,VO,Yo,List.length_map,List.take_of_length_le];done)|fail)) ?_);all_goals ((try simp only [go_sem,seval,-List.reduceReplicate,List.length_map,YS,wP,z3,z4,Int.toNat_natCast,Int.natCast_zero,Event.v0,Event.v7,Event.v8,Access.v0,Access.v1,Access.v2,XA]);(repeat' with_reducible refine And.intro ?_ ?_);all_goals first|(refine hR1 _ ?_;clear hR1 R1)|exact ob5))|exact ob5)
  | ((with_reducible refine SARA.nilAt 6 ?_);refine hR _ ?_;clear hR R;try simp only [go_sem,QHw,Nat.reduceBEq]
     have hl:i<e.touch.length:=by omega
     rw [Qg Access.v e.touch hl])
  | ((with_reducible first|refine Q4 ?_|refine ya ?_);refine hR _ ?_;clear hR R;try simp only [go_sem,QHw,Nat.reduceBEq])
  | (with_reducible first|refine J1 ?_|refine J2 ?_|refine J3 ?_|refine J4 ?_|refine J5 ?_|refine J6 ?_|refine J7 ?_|refine J8 (by decide) ?_|refine J9 ?_|refine Xu ?_|refine Q2 ?_|refine Q1 ?_|refine Yc ?_|refine Xt ?_)
  | ((with_reducible refine rg QHw fun R hR=>?_);simp only [go_sem,QC])
  | ((with_reducible refine Ve ok QQ (by kernel_rfl) (by kernel_rfl) QHw ?_);intro R hR;simp only [go_sem,QC])
  | ((with_reducible refine QI 23 rfl (fun hb23=>?_) (fun hf23=>?_))
     all_goals
      try
       (simp at hb23)
      try
       (simp at hf23))
  | ((with_reducible refine QI 27 rfl (fun hb27=>?_) (fun hf27=>?_))
     all_goals
      try
       (simp at hb27)
      try
       (simp at hf27))
  | ((with_reducible refine QI 33 rfl (fun hb33=>?_) (fun hf33=>?_))
     all_goals
      try
       (simp at hb33)
      try
       (simp at hf33))
  | ((with_reducible refine QI 36 rfl (fun hb36=>?_) (fun hf36=>?_))
     all_goals
      try
       (simp at hb36)
      try
       (simp at hf36))
  | ((with_reducible refine QI 61 rfl (fun hb61=>?_) (fun hf61=>?_))
     all_goals
      try
       (simp at hb61)
      try
       (simp at hf61))
  | ((with_reducible refine Ya ?_)
     refine Zv (Qo (by first|rfl|(simp;done)|fail)) (Yb (fun n τ=>∃ (i:Nat),n=6-i∧(i≤6∧(0≤e.go∧e.go<6∧1≤e.touches∧e.touches≤6)∧(List.range i).all (Wz e)=true)∧τ={ tm:=[(1,true,.ptr 0 [] 63),(3,true,.bool ((List.range i).any (xm e))),(25,true,.data 61 (.agg (e.touch.map Access.v))),(26,true,.int .i64 i)],ob:=[.var 63 (.data 63 e.v)],out:=[],nt:=72 }) (6) ⟨0,rfl,⟨by omega,by omega,rfl⟩,rfl⟩ ?_)
     rintro n τ ⟨i,hn,⟨hi,hc,hd⟩,rfl⟩)
  | ((with_reducible refine WC ?_)
     first
      | (have _:=hf23
         have _:=hb27
         have _:=hb33
         have _:=hf36
         have hlt:i<6:=by omega
         have hp:Wz e i=true:=by simp [Wz,hb33,hf36]
         have ho:xm e i=false:=by simp [xm];omega
         refine Z0 (6-(i+1)) _ (by omega) ((WS 1 rfl).trans (Qo (by simp only [QD hlt (by decide:6≤maxLen),V6,ho,Bool.or_false,List.take_succ_cons,List.take_zero]))) ⟨i+1,rfl,⟨hlt,hc,?_⟩,rfl⟩
         rw [Y2,hd,hp];rfl)
      | (have _:=hf23
         have _:=hb27
         have _:=hf33
         have _:=hf61
         have hlt:i<6:=by omega
         have hp:Wz e i=true:=by
          simp [Wz,show ¬ e.touches≤i by omega]
          omega
         have ho:(bif (List.range i).any (xm e) then true else decide (e.touch.getD i default={ kind:=5,num:=e.go,write:=true }))=(List.range (i+1)).any (xm e):=by
          rw [V6]
          have:decide ((i:Int)<e.touches)=true:=by simpa using hf33
          simp only [xm,this,Bool.true_and]
          cases (List.range i).any (xm e)<;>rfl
         refine Z0 (6-(i+1)) _ (by omega) ((WS 1 rfl).trans (Qo (by simp only [QD hlt (by decide:6≤maxLen),ho,List.take_succ_cons,List.take_zero]))) ⟨i+1,rfl,⟨hlt,hc,?_⟩,rfl⟩
         rw [Y2,hd,hp];rfl))
  | ((with_reducible first|refine ZQ ?_|refine ZP ?_)
     simp only [QL,ZD,QM,QH,VZ,UY,ty4,U9,List.lookup_cons,List.lookup_nil,beq_self_eq_true,forall_const,true_and,and_true]
     first
      | (have _:=hb23
         refine ⟨rfl,?_⟩
         have:right e=false:=Bool.eq_false_iff.2 fun h=>by simp [right] at h;omega
         rw [this];rfl)
      | (have _:=hf23
         have _:=hb27
         have _:=hb33
         have _:=hb36
         refine ⟨rfl,?_⟩
         have hp:Wz e i=false:=by simp [Wz,hb33,hb36]
         have:right e=false:=by simp [right,Zg (show i<6 by omega) hp]
         rw [this];rfl)
      | (have _:=hf23
         have _:=hb27
         have _:=hf33
         have _:=hb61
         refine ⟨rfl,?_⟩
         have hp:Wz e i=false:=by
          rw [Bool.eq_false_iff];intro h
          simp [Wz,show ¬ e.touches≤i by omega] at h
          omega
         have:right e=false:=by simp [right,Zg (show i<6 by omega) hp]
         rw [this];rfl)
      | (have _:=hf23
         have _:=hf27
         refine ⟨rfl,?_⟩
         have h6:i=6:=by omega
         subst h6
         have:right e=(List.range 6).any (xm e):=by
          simp only [right,hd,Bool.true_and,decide_eq_true hc.1,decide_eq_true hc.2.1,decide_eq_true hc.2.2.1,decide_eq_true hc.2.2.2]
         rw [this];rfl))
def QPE:List (List Nat):=[[1],[2]]
theorem QFs (e:Event) (he:e.touch.length=6):Ctr Go.Proofs.Tryz.prog tab 101 [63] [4] [e.v] [.bool (!right e)]:=by
 refine Ctr.body ok Go.Proofs.Tryz.func101 rfl rfl 6 rfl [.tmp 2] rfl (by simp [QF]) ?_
 simp only [go_sem,Nat.reduceAdd]
 repeat' first
  | ((with_reducible refine Q5 fun R1 hR1=>?_);(simp only [go_sem,seval,-List.reduceReplicate,List.length_map,YS,wP,z3,z4,Int.toNat_natCast,Int.natCast_zero,Event.v0,Event.v7,Event.v8,Access.v0,Access.v1,Access.v2,XA]);(repeat' with_reducible refine And.intro ?_ ?_);all_goals first|(refine hR1 _ ?_;clear hR1 R1)|((first|refine cq (cc (QGy e he) (by first|rfl|(simp [go_sem,VN,VO,Yo,List.length_map,List.take_of_length_le];done)|fail)) ?_);all_goals ((try simp only [go_sem,seval,-List.reduceReplicate,List.length_map,YS,wP,z3,z4,Int.toNat_natCast,Int.natCast_zero,Event.v0,Event.v7,Event.v8,Access.v0,Access.v1,Access.v2,XA]);(repeat' with_reducible refine And.intro ?_ ?_);all_goals first|(refine hR1 _ ?_;clear hR1 R1)|exact ob5))|exact ob5)
  | ((with_reducible refine Q4 ?_);refine hR _ ?_;clear hR R;try simp only [go_sem,QPE,Nat.reduceBEq])
  | (with_reducible first|refine J1 ?_|refine J2 ?_|refine Q2 ?_|refine Q1 ?_)
  | ((with_reducible refine rg QPE fun R hR=>?_);simp only [go_sem,QC])
  | ((with_reducible first|refine ZQ ?_|refine ZP ?_)
     simp only [QL,ZD,QM,QH,VZ,UY,ty4,U9,List.lookup_cons,List.lookup_nil,beq_self_eq_true,forall_const,true_and,and_true]
     exact ⟨rfl,rfl⟩)
def QOu:List (List Nat):=[[0,1],[0,1,7,8],[0,1,7,8,9],[0,1,5,7,8],[0,1,5,7,8,16],[4],[0,1,7,8],[4]]
end Go.Eng.Tryz
