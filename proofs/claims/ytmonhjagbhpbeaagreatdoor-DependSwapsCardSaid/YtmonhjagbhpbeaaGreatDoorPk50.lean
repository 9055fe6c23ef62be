/- A part of the proof: walks through the program's functions, and what they compute. -/
import Derived.Test.YtmonhjagbhpbeaaGreatDoorPk40
import Derived.Test.YtmonhjagbhpbeaaGreatDoorPk41
import Derived.Test.YtmonhjagbhpbeaaGreatDoorPk45
set_option linter.unusedSimpArgs false
set_option linter.unusedVariables false
namespace Go.Eng.Tryz
open Go.RowKit Go.Eng
set_option maxHeartbeats 0
set_option maxRecDepth 20000
def QTi:List (List Nat):=[[0],[0,3],[2]]
theorem QCp (l:List Pck) (hl:l.length≤maxLen) (hz:l.length*16≤140737488355328):Ctr Go.Proofs.Tryz.prog tab 29 [29] [29] [.list (l.map Pck.v)] [.list (l.map Pck.v)]:=by
 have hcode:True→True:=id
 have hsl:True→True:=id
 refine Ctr.body ok Go.Proofs.Tryz.func29 rfl rfl 7 rfl [.tmp 2] rfl (by simp [QF]) ?_
 simp only [go_sem,Nat.reduceAdd]
 repeat' first
  | ((with_reducible refine Q5 fun R1 hR1=>?_);(simp only [go_sem,seval,-List.reduceReplicate,Q3]);(repeat' with_reducible refine And.intro ?_ ?_);all_goals first|(refine hR1 _ ?_;clear hR1 R1)|omega|rfl|decide|assumption|(intro _;omega)|(simp only [VS];omega)|(simp;done))
  | ((with_reducible refine Q4 ?_);refine hR _ ?_;clear hR R;try simp only [go_sem,QTi,Nat.reduceBEq])
  | (with_reducible first|refine J1 ?_|refine J2 ?_|refine Q2 ?_|refine Q1 ?_)
  | ((with_reducible refine rg QTi fun R hR=>?_);simp only [go_sem,QC])
  | ((with_reducible first|refine ZQ ?_|refine ZP ?_)
     simp only [go_sem,QL,QM,QH,seval]
     first
      | (refine ⟨rfl,?_,?_⟩
         · simp [List.take_of_length_le]
         · intro e he j u lo n c h
           simp at he
           subst he
           cases h)
      | (refine ⟨rfl,?_,?_⟩
         · simp [List.take_of_length_le]
         · intro e he
           cases he))
def QHv:List (List Nat):=[[0,1],[0,1,5],[0,1,5,10],[0,1,5],[0,1,5,6],[0,1,5,6,16],[0,1,5,6],[0,1,5,6,56],[4],[4]]
theorem QCJ (a b:List Access) (ha:a.length≤maxLen) (hb:b.length≤maxLen):Ctr Go.Proofs.Tryz.prog tab 103 [94,94] [4] [.list (a.map Access.v),.list (b.map Access.v)] [.bool (qq a b)]:=by
 refine Ctr.body ok Go.Proofs.Tryz.func103 rfl rfl 57 rfl [.tmp 4] rfl (by simp [QF]) ?_
 simp only [go_sem,Nat.reduceAdd]
 repeat' first
  | ((with_reducible first|refine Q5 fun R1 hR1=>?_|refine yb fun R1 hR1=>?_);(simp only [go_sem,seval,-List.reduceReplicate,List.length_map,YS,wP,z3,z4,Int.toNat_natCast,Access.v,Int.natCast_zero]);(repeat' with_reducible refine And.intro ?_ ?_);all_goals first|(refine hR1 _ ?_;clear hR1 R1)|exact ob5)
  | ((with_reducible first|refine Q4 ?_|refine ya ?_);refine hR _ ?_;clear hR R;try simp only [go_sem,QHv,Nat.reduceBEq])
  | (with_reducible first|refine J1 ?_|refine J2 ?_|refine J3 ?_|refine J4 ?_|refine J5 ?_|refine J6 ?_|refine J7 ?_|refine J8 (by decide) ?_|refine J9 ?_|refine Xu ?_|refine Q2 ?_|refine Q1 ?_|refine Yc ?_|refine Xt ?_)
  | ((with_reducible refine Qe 7 ?_)
     have hlt:i<a.length:=by omega
     have hjl:j<b.length:=by omega
     (with_reducible refine Ve ok QQ (by kernel_rfl) (by kernel_rfl) QHv ?_);intro R hR;simp only [go_sem,QC])
  | ((with_reducible refine rg QHv fun R hR=>?_);simp only [go_sem,QC])
  | ((with_reducible refine Ve ok QQ (by kernel_rfl) (by kernel_rfl) QHv ?_);intro R hR;simp only [go_sem,QC])
  | ((with_reducible refine QI 10 rfl (fun hb10=>?_) (fun hf10=>?_))
     all_goals
      try
       (try simp only [decide_eq_true_eq,decide_eq_false_iff_not] at hb10)
      try
       (try simp only [decide_eq_true_eq,decide_eq_false_iff_not] at hf10))
  | ((with_reducible refine QI 16 rfl (fun hb16=>?_) (fun hf16=>?_))
     all_goals
      try
       (try simp only [decide_eq_true_eq,decide_eq_false_iff_not] at hb16)
      try
       (try simp only [decide_eq_true_eq,decide_eq_false_iff_not] at hf16))
  | ((with_reducible refine QI 56 rfl (fun hb56=>?_) (fun hf56=>?_))
     all_goals
      try
       (try simp only [decide_eq_true_eq,decide_eq_false_iff_not] at hb56)
      try
       (try simp only [decide_eq_true_eq,decide_eq_false_iff_not] at hf56))
  | ((with_reducible refine Ya ?_)
     refine Zv (Qo (by first|rfl|(simp;done)|fail)) (Yb (fun n τ=>∃ (i:Nat),n=a.length-i∧(i≤a.length∧qq (a.take i) b=false)∧τ={ tm:=[(0,true,.fs 60 (a.map Access.v) false),(1,true,.fs 60 (b.map Access.v) false),(5,true,.int .i64 i)],ob:=[],out:=[],nt:=57 }) (a.length) ⟨0,rfl,⟨Nat.zero_le _,rfl⟩,rfl⟩ ?_)
     rintro n τ ⟨i,hn,⟨hi,hc⟩,rfl⟩)
  | ((with_reducible refine Ya ?_)
     refine Zv (Qo (by first|rfl|(simp;done)|fail)) (Yb (fun n τ=>∃ (j:Nat),n=b.length-j∧(j≤b.length∧((b.take j).any fun y=>Ue (a.getD i default) y)=false)∧τ={ tm:=[(0,true,.fs 60 (a.map Access.v) false),(1,true,.fs 60 (b.map Access.v) false),(5,true,.int .i64 i),(6,true,.int .i64 j)],ob:=[],out:=[],nt:=57 }) (b.length) ⟨0,rfl,⟨Nat.zero_le _,rfl⟩,rfl⟩ ?_)
     rintro n τ ⟨j,hn,⟨hj,hd⟩,rfl⟩)
  | ((with_reducible refine WC ?_)
     first
      | (have hlt:i<a.length:=by omega
         refine Z0 (a.length-(i+1)) _ (by omega) (Qo (by simp only [QD hlt ha])) ⟨i+1,rfl,⟨hlt,?_⟩,rfl⟩
         rw [QBc a b hlt,hc,Bool.false_or]
         have:j=b.length:=by omega
         subst this
         simpa using hd)
      | (have _:=hb10
         have _:=hb16
         have _:=hf56
         have hjl:j<b.length:=by omega
         refine Z0 (b.length-(j+1)) _ (by omega) (Qo (by simp only [QD hjl hb])) ⟨j+1,rfl,⟨hjl,?_⟩,rfl⟩
         rw [zu _ b hjl,hd,Bool.false_or]
         simp only [Qg Access.v a hlt,Qg Access.v b hjl] at hf56
         simpa [Ue,Access.v] using hf56))
  | ((with_reducible first|refine ZQ ?_|refine ZP ?_)
     simp only [QL,ZD,QM,QH,VZ,UY,ty4,U9,List.lookup_cons,List.lookup_nil,beq_self_eq_true,forall_const,true_and,and_true]
     first
      | (have _:=hb10
         have _:=hb16
         have _:=hb56
         refine ⟨rfl,?_⟩
         have hlt:i<a.length:=by omega
         have hjl:j<b.length:=by omega
         simp only [Qg Access.v a hlt,Qg Access.v b hjl] at hb56
         have h3:Ue (a.getD i default) (b.getD j default)=true:=by simpa [Ue,Access.v] using hb56
         have h4:qq a b=true:=List.any_eq_true.2 ⟨_,Qj a hlt,List.any_eq_true.2 ⟨_,Qj b hjl,h3⟩⟩
         rw [h4];rfl)
      | (have _:=hf10
         refine ⟨rfl,?_⟩
         have:i=a.length:=by omega
         subst this
         rw [List.take_length] at hc
         rw [hc];rfl))
def QPD:List (List Nat):=[[1],[1,3],[1,3,4],[1,3,4,12],[1,3,4],[1,3,4],[2]]
theorem QAG (e:Event) (he:e.touch.length=6):Ctr Go.Proofs.Tryz.prog tab 104 [63] [94] [e.v] [.list (e.of.map Access.v)]:=by
 refine Ctr.body ok Go.Proofs.Tryz.func104 rfl rfl 23 rfl [.tmp 2] rfl (by simp [QF]) ?_
 simp only [go_sem,Nat.reduceAdd]
 repeat' first
  | ((with_reducible refine Q5 fun R1 hR1=>?_);(simp only [go_sem,seval,-List.reduceReplicate,List.length_map,YS,wP,z3,z4,Int.toNat_natCast,Access.v,Int.natCast_zero]);(repeat' with_reducible refine And.intro ?_ ?_);all_goals first|(refine hR1 _ ?_;clear hR1 R1)|exact ob5)
  | ((with_reducible refine Q4 ?_);refine hR _ ?_;clear hR R;try simp only [go_sem,QPD,Nat.reduceBEq])
  | (with_reducible first|refine J1 ?_|refine J2 ?_|refine J3 ?_|refine J4 ?_|refine J5 ?_|refine J6 ?_|refine J7 ?_|refine J8 (by decide) ?_|refine J9 ?_|refine Xu ?_|refine Q2 ?_|refine Q1 ?_|refine Yc ?_|refine Xt ?_)
  | ((with_reducible refine rg QPD fun R hR=>?_);simp only [go_sem,QC])
  | ((with_reducible refine QI 12 rfl (fun hb12=>?_) (fun hf12=>?_))
     all_goals
      try
       (simp [Event.v] at hb12)
      try
       (simp [Event.v] at hf12))
  | ((with_reducible refine Ya ?_)
     refine Zv ((St.le.own (t:=3) 60 rfl).trans ((St.le.keep [1,3,4]).trans (Qo (by first|rfl|(simp;done)|fail)))) (Yb (fun n τ=>∃ (i:Nat),n=6-i∧(i≤6∧(i:Int)≤max 0 e.touches)∧τ={ tm:=[(1,true,.ptr 0 [] 63),(3,true,.sl 1 60 0 i false),(4,true,.int .i64 i)],ob:=[.var 63 (.data 63 e.v),.row 60 ((e.touch.take i).map Access.v)],out:=[],nt:=23 }) (6) ⟨0,rfl,⟨by omega,by omega⟩,rfl⟩ ?_)
     rintro n τ ⟨i,hn,⟨hi,hc⟩,rfl⟩)
  | ((with_reducible refine WC ?_)
     first
      | (have e1:List.take i (List.map Access.v (List.take i e.touch))++List.take 1 (List.drop 0 [(List.map Access.v e.touch).getD i default])=List.map Access.v (List.take (i+1) e.touch):=by
          have hl:i<e.touch.length:=by omega
          have hl':i<(e.touch.map Access.v).length:=by simp;omega
          simp only [List.map_take,List.take_take,Nat.min_self,List.drop_zero,List.take_succ_cons,List.take_zero]
          rw [List.take_succ_eq_append_getElem hl']
          simp [Event.v,hl]
         have e2:=QD (n:=i) (m:=6) (by omega) (by unfold maxLen;omega)
         refine Z0 (6-(i+1)) _ (by omega) ((WS 2 rfl).trans (Qo (by rw [e1,e2];rfl))) ⟨i+1,rfl,⟨by omega,by omega⟩,rfl⟩))
  | ((with_reducible first|refine ZQ ?_|refine ZP ?_)
     simp only [QL,ZD,QM,QH,VZ,UY,ty4,U9,List.lookup_cons,List.lookup_nil,beq_self_eq_true,forall_const,true_and,and_true]
     refine ⟨rfl,rfl,?_,by simp⟩
     have:(max 0 (min 6 e.touches)).toNat=i:=by omega
     simp [Event.of,this,List.take_take])
def QQ3:List (List Nat):=[[2,3],[4]]
theorem XS (a b:Event) (ha:a.touch.length=6) (hb:b.touch.length=6):Ctr Go.Proofs.Tryz.prog tab 64 [63,63] [4] [a.v,b.v] [.bool (ZH a b)]:=by
 refine Ctr.body ok Go.Proofs.Tryz.func64 rfl rfl 10 rfl [.tmp 4] rfl (by simp [QF]) ?_
 simp only [go_sem,Nat.reduceAdd]
 repeat' first
  | ((with_reducible first|refine Q5 fun R1 hR1=>?_|refine qz fun R1 hR1=>?_|refine qy fun R1 hR1=>?_|refine qx fun R1 hR1=>?_);(simp only [go_sem,seval,-List.reduceReplicate,List.length_map,YS,wP,z3,z4,Int.toNat_natCast,Access.v,Int.natCast_zero]);(repeat' with_reducible refine And.intro ?_ ?_);all_goals first|(refine hR1 _ ?_;clear hR1 R1)|((first|refine ce (cf (QAG a ha) ?_ (by first|rfl|(simp [go_sem,VN,VO,Yo,List.length_map,List.take_of_length_le];done)|fail))|refine ⟨_,_,rfl,.inr (CallB.ctr ok (QAG a ha) (by first|rfl|(simp [go_sem,VN,VO,Yo,List.length_map,List.take_of_length_le];done)|fail) ?_)⟩|refine ce (cf (QAG b hb) ?_ (by first|rfl|(simp [go_sem,VN,VO,Yo,List.length_map,List.take_of_length_le];done)|fail))|refine ⟨_,_,rfl,.inr (CallB.ctr ok (QAG b hb) (by first|rfl|(simp [go_sem,VN,VO,Yo,List.length_map,List.take_of_length_le];done)|fail) ?_)⟩|refine cq (cc (QCJ a.of b.of (by have:=a.of_len ha;unfold maxLen;omega) (by have:=b.of_len hb;unfold maxLen;omega)) (by first|rfl|(simp [go_sem,VN,VO,Yo,List.length_map,List.take_of_length_le];done)|fail)) ?_);all_goals ((try simp only [go_sem,seval,-List.reduceReplicate,List.length_map,YS,wP,z3,z4,Int.toNat_natCast,Access.v,Int.natCast_zero]);(repeat' with_reducible refine And.intro ?_ ?_);all_goals first|(refine hR1 _ ?_;clear hR1 R1)|exact ob5))|exact ob5)
  | ((with_reducible first|refine qw ?_|refine Q4 ?_);refine hR _ ?_;clear hR R;try simp only [go_sem,QQ3,Nat.reduceBEq])
  | (with_reducible first|refine qv ?_ ?_|exact qu|refine qt ?_ ?_)
  | (with_reducible first|refine J1 ?_|refine J2 ?_|refine Q2 ?_|refine Q1 ?_)
  | ((with_reducible refine Qe 1 ?_)
     refine WT ok QQ (.take 0 (.take 2 (.br 1 (.br 3 (.br 4 (.take 5 .done) .nil) .nil) .nil))) [] QQ3 (by kernel_rfl) (fun R hR=>?_);simp only [go_sem,QC])
  | ((with_reducible refine rg QQ3 fun R hR=>?_);simp only [go_sem,QC])
  | ((with_reducible first|refine ZQ ?_|refine ZP ?_)
     simp only [QL,ZD,QM,QH,VZ,UY,ty4,U9,List.lookup_cons,List.lookup_nil,beq_self_eq_true,forall_const,true_and,and_true]
     exact ⟨rfl,rfl⟩)
theorem QNh (p:Prg):(ZR p 0 ⟨0,0,0⟩=0∧Zh p=0)∨(ZR p 0 ⟨0,0,0⟩=3∧¬Zh p=0):=by
 by_cases h:Zh p=0
 · refine .inl ⟨?_,h⟩
   unfold ZR
   rw [show QN p=true from decide_eq_true h]
   rfl
 · refine .inr ⟨?_,h⟩
   unfold ZR
   rw [show QN p=false from decide_eq_false h]
   rfl
def QTX:List (List Nat):=[[1,2,3,5,9],[1,2,3,5,9,12],[1,2,3,5,9,12,20],[10,11],[1,2,3,5,9,24],[10,11],[1,5,9,31],[10,11],[13,14],[10,11]]
theorem qK (p:Prg) (l:List Pck) (i last:Int) (b:Bud) (hp:p.Fit) (hl:l.length≤maxLen):CtrZ Go.Proofs.Tryz.prog tab 63 [26,29,3,3,28] [36,3] [p.v,.list (l.map Pck.v),.int i,.int last,b.v] [.list ((Z1 p l i last b).1.events.map Event.v),.int (Z1 p l i last b).2]:=by
 have hpp:=hp
 have hcode:True→True:=id
 have hsl:True→True:=id
 have hmx:400≤maxLen:=by decide
 have hask:=yY p 0 ⟨0,0,0⟩ hpp
 have h00:=QNh p
 generalize ZR p 0 ⟨0,0,0⟩=v at hask h00
 refine CtrZ.body ok Go.Proofs.Tryz.func63 rfl rfl 43 rfl [.tmp 10,.tmp 11] rfl (by simp [QF]) ?_
 simp only [go_sem,Nat.reduceAdd]
 repeat' first
  | ((with_reducible refine Q5 fun R1 hR1=>?_);(simp only [go_sem,seval,-List.reduceReplicate,Bool.cond_false_right,Bool.cond_true_left,QE,decide_true,decide_false]);(repeat' with_reducible refine And.intro ?_ ?_);all_goals first|(refine hR1 _ ?_;clear hR1 R1)|(intro hgf;simp only [hgf];refine hR1 _ ?_;clear hR1 R1)|((first|refine cq (VK (hask)) ?_|refine ⟨_,_,rfl,.inr (CallE.ctrZ (QHY p l b hpp hl) (by first|rfl|(simp [go_sem,List.take_of_length_le,List.length_map,List.map_take,List.drop_zero];done)|fail) ?_)⟩);all_goals ((try simp only [go_sem,seval,-List.reduceReplicate,Bool.cond_false_right,Bool.cond_true_left,QE,decide_true,decide_false]);(repeat' with_reducible refine And.intro ?_ ?_);all_goals first|(refine hR1 _ ?_;clear hR1 R1)|(intro hgf;simp only [hgf];refine hR1 _ ?_;clear hR1 R1)|exact Zp))|exact Zp)
  | ((with_reducible refine Q4 ?_);refine hR _ ?_;clear hR R;try simp only [go_sem,QTX,Nat.reduceBEq])
  | (with_reducible first|refine J1 ?_|refine J2 ?_|refine J3 ?_|refine Q2 ?_|refine Q1 ?_)
  | ((with_reducible refine rg QTX fun R hR=>?_);simp only [go_sem,QC])
  | ((with_reducible refine QI 20 rfl (fun hb20=>?_) fun hb20=>?_);all_goals (try simp [-List.getD_eq_getElem?_getD] at hb20;try (exfalso;omega)))
  | ((with_reducible refine QI 24 rfl (fun hb24=>?_) fun hb24=>?_);all_goals (try simp [-List.getD_eq_getElem?_getD] at hb24;try (exfalso;omega)))
  | ((with_reducible refine QI 31 rfl (fun hb31=>?_) fun hb31=>?_);all_goals (try simp [-List.getD_eq_getElem?_getD] at hb31;try (exfalso;omega)))
  | ((with_reducible first|refine J46 ?_|refine J47 ?_)
     simp only [go_sem,QL,QM,QH,seval]
     first
      | (have q:¬_:=hb20
         obtain ⟨rfl,hc⟩:v=3∧¬Zh p=0:=by
          rcases h00 with h|h
          · exact absurd h.1 hb20
          · exact h
         rw [QIA hc]
         try rfl)
      | (have q:=hb24
         have hc:Zh p=0:=by
          rcases h00 with h|h
          · exact h.2
          · exact absurd h.1 (by omega)
         rw [QIB hc (by omega)]
         try rfl)
      | (have q:=hb31
         have hc:Zh p=0:=by
          rcases h00 with h|h
          · exact h.2
          · exact absurd h.1 (by omega)
         first
          | (rw [QIC hc (by omega) (by omega)]
             try rfl)
          | (rw [QEZ hc (by omega) (by omega)]
             try rfl)))
def QTW:List (List Nat):=[[0,1],[0,1,5],[0,1,5],[5],[4]]
theorem US (l:List Pck) (k:Nat) (hl:l.length≤256) (hk:k+1<l.length):Ctr Go.Proofs.Tryz.prog tab 65 [29,3] [29] [.list (l.map Pck.v),.int k] [.list ((Qx l k).map Pck.v)]:=by
 have hcode:True→True:=id
 have hsl:True→True:=id
 have hmx:400≤maxLen:=by decide
 have hw1:=QD (show k<l.length by omega) (show l.length≤maxLen by omega)
 have hP0:=Qg Pck.v l (i:=k) (by omega)
 have hP1:=Qg Pck.v l (i:=k+1) hk
 refine Ctr.body ok Go.Proofs.Tryz.func65 rfl rfl 26 rfl [.tmp 4] rfl (by simp [QF]) ?_
 simp only [go_sem,Nat.reduceAdd]
 repeat' first
  | ((with_reducible refine SARA.told 2 _ ?_);try simp only [hP1])
  | ((with_reducible refine SARA.told 3 _ ?_);try simp only [hP0])
  | ((with_reducible refine Q5 fun R1 hR1=>?_);(simp only [go_sem,seval,-List.reduceReplicate,Bool.cond_false_right,Bool.cond_true_left,QE,decide_true,decide_false,hw1,Int.toNat_natCast]);(repeat' with_reducible refine And.intro ?_ ?_);all_goals first|(refine hR1 _ ?_;clear hR1 R1)|exact VL)
  | ((with_reducible refine Q4 ?_);refine hR _ ?_;clear hR R;try simp only [go_sem,QTW,Nat.reduceBEq])
  | (with_reducible first|refine J1 ?_|refine J2 ?_|refine Q2 ?_|refine Q1 ?_)
  | ((with_reducible refine rg QTW fun R hR=>?_);simp only [go_sem,QC])
  | ((with_reducible first|refine ZQ ?_|refine ZP ?_)
     simp only [go_sem,QL,QM,QH,seval]
     refine ⟨rfl,?_,?_⟩
     · rw [← yw]
       simp [-List.getD_eq_getElem?_getD,List.take_of_length_le]
     · intro e he
       first|(cases he;done)|(intro j u lo n c h;simp at he;subst he;cases h))
def QRB:List (List Nat):=[[1,2,4,7],[1,2,11,12],[1,2,12,37],[8,9,10],[8,9,10]]
theorem QFA (p:Prg) (l:List Pck) (i:Int) (b:Bud) (hp:p.Fit) (hl:l.length≤maxLen):CtrZ Go.Proofs.Tryz.prog tab 30 [26,29,3,28] [29,4,3] [p.v,.list (l.map Pck.v),.int i,b.v] [.list ((Un p l i b).1.map Pck.v),.bool (Un p l i b).2.1,.int (Un p l i b).2.2]:=by
 have hpp:=hp
 have hcode:True→True:=id
 have hsl:True→True:=id
 have hmx:400≤maxLen:=by decide
 have hlx:=hl
 unfold maxLen at hlx
 have hw2:IntKind.i64.wrap ((l.length:Int)-2)=(l.length:Int)-2:=Qm (by omega) (by omega)
 have hE0:=True.intro
 have hE1:=True.intro
 have hw1:=True.intro
 refine CtrZ.body ok Go.Proofs.Tryz.func30 rfl rfl 42 rfl [.tmp 8,.tmp 9,.tmp 10] rfl (by simp [QF]) ?_
 simp only [go_sem,Nat.reduceAdd]
 repeat' first
  | (fail_if_success (have:=hz)
     (with_reducible refine Qe 2 ?_)
     rcases Decidable.em ((Z1 p l i ((l.length:Int)-2) b).2=0) with hz|hz
     (obtain ⟨h0,h1,hS,hD⟩:=Vj hz
      obtain ⟨k,rfl⟩:=Int.eq_ofNat_of_zero_le h0
      rw [hD]))
  | ((with_reducible refine SART.told 2 _ ?_);try simp only [hz,hE0,hE1,hw1,Int.toNat_natCast])
  | ((with_reducible first|refine Q5 fun R1 hR1=>?_|refine qz fun R1 hR1=>?_|refine qy fun R1 hR1=>?_|refine qx fun R1 hR1=>?_);(simp only [go_sem,seval,-List.reduceReplicate,Bool.cond_false_right,Bool.cond_true_left,QE,decide_true,decide_false,hw2]);(repeat' with_reducible refine And.intro ?_ ?_);all_goals first|(refine hR1 _ ?_;clear hR1 R1)|(intro hgf;simp only [hgf];refine hR1 _ ?_;clear hR1 R1)|((first|refine ⟨_,_,rfl,.inr (CallE.ctrZ (qK p l i ((l.length:Int)-2) b hpp hl) (by first|rfl|(simp [go_sem,List.take_of_length_le,List.length_map,List.map_take,List.drop_zero];done)|fail) ?_)⟩|refine ⟨_,_,rfl,.inr ⟨fun _=>CallE.ctrZ (qK p l i ((l.length:Int)-2) b hpp hl) (by first|rfl|(simp [go_sem,List.take_of_length_le,List.length_map,List.map_take,List.drop_zero];done)|fail) ?_,?_⟩⟩|refine cq (VK (XS (Zb p l b k) (Zb p l b (k+1)) hT0 hT1)) ?_|refine Y4 (fun hg=>VK (XS (Zb p l b k) (Zb p l b (k+1)) hT0 hT1)) ?_|refine ce (wO (US l k hlen hk1) ?_)|refine ⟨_,_,rfl,.inr ⟨fun _=>CallE.ctr ok (US l k hlen hk1) (by first|rfl|(simp [go_sem,List.take_of_length_le,List.length_map,List.map_take,List.drop_zero];done)|fail) ?_,?_⟩⟩|refine ⟨_,_,rfl,.inl ⟨.bool false,?_⟩⟩);all_goals ((try simp only [go_sem,seval,-List.reduceReplicate,Bool.cond_false_right,Bool.cond_true_left,QE,decide_true,decide_false,hw2]);(repeat' with_reducible refine And.intro ?_ ?_);all_goals first|(refine hR1 _ ?_;clear hR1 R1)|(intro hgf;simp only [hgf];refine hR1 _ ?_;clear hR1 R1)|exact Zp))|exact Zp)
  | ((with_reducible first|refine qw ?_|refine Q4 ?_);refine hR _ ?_;clear hR R;try simp only [go_sem,QRB,Nat.reduceBEq])
  | (with_reducible first|refine qv ?_ ?_|exact qu|refine qt ?_ ?_)
  | (with_reducible first|refine J1 ?_|refine J2 ?_|refine J3 ?_|refine Q2 ?_|refine Q1 ?_)
  | ((with_reducible refine Qe 2 ?_)
     try (have hk1:k+1<l.length:=by omega
          have hR:=(YZ hS).1
          have hT0:=hR.touch (show k<l.length by omega)
          have hT1:=hR.touch hk1
          have hw1:=QD (show k<l.length by omega) hl
          have hE0:=fun d:V=>Xh (p:=p) (b:=b) (d:=d) (show k<l.length by omega)
          have hE1:=fun d:V=>Xh (p:=p) (b:=b) (d:=d) hk1
          have hlen:=hR.len
          have hevl:=YM p l b)
     refine WT ok QQ (.take 0 (.take 1 (.take 2 (.take 3 (.take 4 (.take 5 (.take 6 (.take 7 (.take 8 (.take 9 (.take 10 (.take 11 (.br 12 (.take 13 .done) .nil))))))))))))) [] QRB (by kernel_rfl) (fun R hR=>?_);simp only [go_sem,QC])
  | ((with_reducible refine rg QRB fun R hR=>?_);simp only [go_sem,QC])
  | ((with_reducible refine QI 37 rfl (fun hb37=>?_) fun hb37=>?_);all_goals (try simp [-List.getD_eq_getElem?_getD] at hb37;try (exfalso;omega)))
  | ((with_reducible first|refine J46 ?_|refine J47 ?_)
     simp only [go_sem,QL,QM,QH,seval]
     first
      | (have q:¬_:=hz
         rw [wT hz]
         try rfl)
      | (have q:_=true:=hb37
         rw [wS hz hb37]
         try rfl)
      | (have q:=hb37
         rw [QAY hz (by simp [hb37])]
         simp [List.take_of_length_le,Xa]))
def QJG:List (List Nat):=[[1,2,4,7],[1,2,11,12],[1,2,11,12,27],[8,9,10],[2,11,13],[2,11,13,14],[2,11,13,14,47],[2,11,13,14],[2,11,13,14],[8,9,10]]
theorem QFB (p:Prg) (l:List Pck) (i:Int) (b:Bud) (hp:p.Fit) (hl:l.length≤maxLen):CtrZ Go.Proofs.Tryz.prog tab 31 [26,29,3,28] [29,3,3] [p.v,.list (l.map Pck.v),.int i,b.v] [.list ((Up p l i b).1.map Pck.v),.int (Up p l i b).2.1,.int (Up p l i b).2.2]:=by
 have hpp:=hp
 have hcode:True→True:=id
 have hsl:True→True:=id
 have hmx:400≤maxLen:=by decide
 have hlx:=hl
 unfold maxLen at hlx
 have hw2:IntKind.i64.wrap ((l.length:Int)-1)=(l.length:Int)-1:=Qm (by omega) (by omega)
 refine CtrZ.body ok Go.Proofs.Tryz.func31 rfl rfl 56 rfl [.tmp 8,.tmp 9,.tmp 10] rfl (by simp [QF]) ?_
 simp only [go_sem,Nat.reduceAdd]
 repeat' first
  | (fail_if_success (have:=hnk)
     (with_reducible refine Qe 6 ?_)
     refine (Nat.lt_or_ge m k).elim (fun hnk=>?lt) (fun hnk=>?ge)
     case' lt =>
      have hgt:decide (((k-m:Nat):Int) > 0)=true:=decide_eq_true (by omega)
      have hw6:IntKind.i64.wrap (((k-m:Nat):Int)-1)=((k-(m+1):Nat):Int):=by
       rw [Qm (by omega) (by omega)]
       omega
      have hT0:=hR.touch (show k-(m+1)<l.length by omega)
      have hE6:=fun d:V=>Xh (p:=p) (b:=b) (d:=d) (show k-(m+1)<l.length by omega)
      have hsl:=Yq l k m
      have hsl2:=Yq l k (m+1)
     case' ge =>
      have hgt:decide (((k-m:Nat):Int) > 0)=false:=decide_eq_false (by omega)
      have hw6:=True.intro
      have hE6:=True.intro)
  | ((with_reducible refine SART.told 6 _ ?_);try simp only [hgt,hw6,hE6,hEk,Int.toNat_natCast])
  | ((with_reducible refine SARA.told 7 _ ?_);try simp only [hw6])
  | ((with_reducible refine SARA.told 8 _ ?_);try simp only [hw6])
  | ((with_reducible first|refine Q5 fun R1 hR1=>?_|refine qz fun R1 hR1=>?_|refine qy fun R1 hR1=>?_|refine qx fun R1 hR1=>?_);(simp only [go_sem,seval,-List.reduceReplicate,Bool.cond_false_right,Bool.cond_true_left,QE,decide_true,decide_false,hw2]);(repeat' with_reducible refine And.intro ?_ ?_);all_goals first|(refine hR1 _ ?_;clear hR1 R1)|(intro hgf;simp only [hgf];refine hR1 _ ?_;clear hR1 R1)|((first|refine ⟨_,_,rfl,.inr (CallE.ctrZ (qK p l i ((l.length:Int)-1) b hpp hl) (by first|rfl|(simp [go_sem,List.take_of_length_le,List.length_map,List.map_take,List.drop_zero];done)|fail) ?_)⟩|refine ⟨_,_,rfl,.inr ⟨fun _=>CallE.ctrZ (qK p l i ((l.length:Int)-1) b hpp hl) (by first|rfl|(simp [go_sem,List.take_of_length_le,List.length_map,List.map_take,List.drop_zero];done)|fail) ?_,?_⟩⟩|refine cq (VK (XS (Zb p l b (k-(m+1))) (Zb p l b k) hT0 hT1)) ?_|refine Y4 (fun hg=>VK (XS (Zb p l b (k-(m+1))) (Zb p l b k) hT0 hT1)) ?_|refine ce (wO (US (ZJ l k m) (k-(m+1)) (by omega) (by omega)) ?_)|refine ⟨_,_,rfl,.inr ⟨fun _=>CallE.ctr ok (US (ZJ l k m) (k-(m+1)) (by omega) (by omega)) (by first|rfl|(simp [go_sem,List.take_of_length_le,List.length_map,List.map_take,List.drop_zero];done)|fail) ?_,?_⟩⟩|refine ⟨_,_,rfl,.inl ⟨.bool false,?_⟩⟩);all_goals ((try simp only [go_sem,seval,-List.reduceReplicate,Bool.cond_false_right,Bool.cond_true_left,QE,decide_true,decide_false,hw2]);(repeat' with_reducible refine And.intro ?_ ?_);all_goals first|(refine hR1 _ ?_;clear hR1 R1)|(intro hgf;simp only [hgf];refine hR1 _ ?_;clear hR1 R1)|exact VL))|exact VL)
  | ((with_reducible first|refine qw ?_|refine Q4 ?_);refine hR _ ?_;clear hR R;try simp only [go_sem,QJG,Nat.reduceBEq])
  | (with_reducible first|refine qv ?_ ?_|exact qu|refine qt ?_ ?_)
  | (with_reducible first|refine J1 ?_|refine J2 ?_|refine J3 ?_|refine J4 ?_|refine J5 ?_|refine J6 ?_|refine J7 ?_|refine J8 (by decide) ?_|refine J9 ?_|refine Xu ?_|refine Q2 ?_|refine Q1 ?_|refine Yc ?_|refine Xt ?_)
  | ((with_reducible refine Qe 4 ?_)
     obtain ⟨h0,h1,hS,hD⟩:=Vj hb27
     obtain ⟨k,rfl⟩:=Int.eq_ofNat_of_zero_le h0
     rw [hD]
     have hk:k<l.length:=by omega
     have hR:=(YZ hS).1
     have hlen:=hR.len
     have hevl:=YM p l b
     have hT1:=hR.touch hk
     have hEk:=fun d:V=>Xh (p:=p) (b:=b) (d:=d) hk
     (with_reducible refine rg QJG fun R hR=>?_);simp only [go_sem,QC])
  | ((with_reducible refine Qe 5 ?_)
     refine Zv (J49 ok.sized 2 rfl) ?_
     simp only [St.frz,Tm.frz,E.frz,E.frzL,Obj.frz,List.map_cons,List.map_nil,List.set_cons_zero,List.set_cons_succ,Nat.reduceBEq,Nat.beq_refl,if_true,if_false,Nat.beq_eq_true_eq,reduceCtorEq,Bool.false_eq_true,V.get,Nat.reduceEqDiff]
     simp only [List.drop_zero,List.take_of_length_le,List.length_map,Nat.le_refl]
     try simp only [List.take_zero,List.nil_append,List.take_of_length_le,List.length_map,Nat.le_refl]
     (with_reducible refine rg QJG fun R hR=>?_);simp only [go_sem,QC])
  | ((with_reducible refine Qe 8 ?_)
     refine Zv (J49 ok.sized 2 rfl) ?_
     simp only [St.frz,Tm.frz,E.frz,E.frzL,Obj.frz,List.map_cons,List.map_nil,List.set_cons_zero,List.set_cons_succ,Nat.reduceBEq,Nat.beq_refl,if_true,if_false,Nat.beq_eq_true_eq,reduceCtorEq,Bool.false_eq_true,V.get,Nat.reduceEqDiff]
     simp only [List.drop_zero,List.take_of_length_le,List.length_map,Nat.le_refl]
     try simp only [List.take_of_length_le,List.length_map,hsl,hsl2,Nat.le_refl]
     (with_reducible refine rg QJG fun R hR=>?_);simp only [go_sem,QC])
  | ((with_reducible refine Qe 6 ?_)
     refine WT ok QQ (.take 0 (.take 1 (.take 2 (.take 3 (.take 4 (.take 5 (.take 6 (.take 7 (.take 8 (.take 9 (.take 10 (.take 11 (.br 12 (.take 13 (.take 14 .done)) .nil))))))))))))) [] QJG (by kernel_rfl) (fun R hR=>?_);simp only [go_sem,QC])
  | ((with_reducible refine rg QJG fun R hR=>?_);simp only [go_sem,QC])
  | ((with_reducible refine QI 27 rfl (fun hb27=>?_) fun hb27=>?_);all_goals (try simp [-List.getD_eq_getElem?_getD] at hb27;try (exfalso;omega)))
  | ((with_reducible refine QI 47 rfl (fun hb47=>?_) fun hb47=>?_);all_goals (try simp [-List.getD_eq_getElem?_getD] at hb47;try (exfalso;omega)))
  | ((with_reducible refine Ya ?_)
     refine Zv ((WS 2 rfl).trans (Qo rfl)) (Yb (fun n τ=>∃ (m:Nat),n=k-m∧(m≤k∧∀ j,j<m→ZH (Zb p l b (k-(j+1))) (Zb p l b k)=false)∧τ={ tm:=[(2,true,.int .i64 k),(11,true,.fs 63 ((Qh p l b).map Event.v) false),(13,true,.fs 56 ((ZJ l k m).map Pck.v) false),(14,true,.int .i64 ((k-m:Nat):Int))],ob:=[.var 26 (.data 26 p.v),.var 28 (.data 28 b.v)],out:=[],nt:=56 }) (k) ⟨0,rfl,⟨Nat.zero_le _,fun j h=>absurd h (Nat.not_lt_zero _)⟩,rfl⟩ ?_)
     rintro n τ ⟨m,hn,⟨hn,hd⟩,rfl⟩)
  | ((with_reducible refine WC ?_)
     first
      | (refine Z0 (k-(m+1)) _ (by omega) ((WS 2 rfl).trans (Qo (by simp only [List.take_succ_cons,List.take_zero];rfl))) ⟨m+1,rfl,⟨hnk,fun j hj=>?_⟩,rfl⟩
         by_cases h2:j<m
         · exact hd j h2
         · have h3:j=m:=by omega
           rw [h3];simpa using hb47))
  | ((with_reducible first|refine J46 ?_|refine J47 ?_)
     simp only [go_sem,QL,QM,QH,seval]
     first
      | (have q:¬_:=hb27
         rw [wU hb27]
         try rfl)
      | (have e:Zq p l b k=m:=QAk hn (fun h=>by first|(exfalso;omega)|simpa using hb47) hd
         rw [xa hb27,e]
         try rfl))
theorem QIk (p:Prg) (l:List Pck) (i:Int) (b:Bud):(Un p l i b).1.length≤l.length:=by
 rcases vB p l i b with ⟨e,h⟩|⟨k,_,_,_,_,h⟩
 · rw [h];exact Nat.zero_le _
 · rw [h];exact Nat.le_of_eq (Xa l k)
theorem QIr (p:Prg) (l:List Pck) (i:Int) (b:Bud):(Up p l i b).1.length≤l.length:=by
 rcases vF p l i b with ⟨e,_,h⟩|⟨k,_,_,_,h⟩
 · rw [h];exact Nat.zero_le _
 · rw [h];exact Nat.le_of_eq (Yq l k _)
def lv8:List (List Nat):=[[1],[1,3],[1,3,4,5,6],[1,3,4,5,6,7,8,9],[1,3,4,5,6,7,8,9,10,11,12],[1,3,4,5,6,7,8,9,10,11,12,13,14,15],[1,3,98],[2],[2]]
end Go.Eng.Tryz
