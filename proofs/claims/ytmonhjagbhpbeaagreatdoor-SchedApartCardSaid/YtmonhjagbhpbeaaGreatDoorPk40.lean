/- A part of the proof: walks through the program's functions, and what they compute. -/
import Derived.Test.YtmonhjagbhpbeaaGreatDoorPk22
import Derived.Test.YtmonhjagbhpbeaaGreatDoorPk37
import Derived.Test.YtmonhjagbhpbeaaGreatDoorPk39
set_option linter.unusedSimpArgs false
set_option linter.unusedVariables false
namespace Go.Eng.Tryz
open Go.RowKit Go.Eng
set_option maxHeartbeats 0
set_option maxRecDepth 20000
def QO0:List (List Nat):=[[0,3],[3,7,8,9],[3,7,8,9,10],[3,6,7,8,9],[3,7,8,9,15],[4],[3,7,8,9],[4]]
theorem QRJ (l:List Pck) (x:Pck) (hl:l.length≤maxLen):Ctr Go.Proofs.Tryz.prog tab 129 [29,56] [4] [.list (l.map Pck.v),x.v] [.bool (l.any fun y=>decide (x=y))]:=by
 have hcode:True→True:=id
 have hsl:True→True:=id
 refine Ctr.body ok Go.Proofs.Tryz.func129 rfl rfl 17 rfl [.tmp 4] rfl (by simp [QF]) ?_
 simp only [go_sem,Nat.reduceAdd]
 repeat' first
  | ((with_reducible refine SARA.told 3 2 ?_)
     rw [Qg Pck.v l (by omega)])
  | ((with_reducible refine Q5 fun R1 hR1=>?_);(simp only [go_sem,seval,-List.reduceReplicate]);(repeat' with_reducible refine And.intro ?_ ?_);all_goals first|(refine hR1 _ ?_;clear hR1 R1)|exact VL)
  | ((with_reducible refine Q4 ?_);refine hR _ ?_;clear hR R;try simp only [go_sem,QO0,Nat.reduceBEq])
  | (with_reducible first|refine J1 ?_|refine J2 ?_|refine J3 ?_|refine J4 ?_|refine J5 ?_|refine J6 ?_|refine J7 ?_|refine J8 (by decide) ?_|refine J9 ?_|refine Xu ?_|refine Q2 ?_|refine Q1 ?_|refine Yc ?_|refine Xt ?_)
  | ((with_reducible refine rg QO0 fun R hR=>?_);simp only [go_sem,QC])
  | ((with_reducible refine QI 10 rfl (fun hb10=>?_) fun hb10=>?_);all_goals (try simp [-List.getD_eq_getElem?_getD] at hb10;try (exfalso;omega)))
  | ((with_reducible refine QI 15 rfl (fun hb15=>?_) (fun hb15=>?_))
     all_goals
      rw [Pck.beq] at hb15
      try simp [-List.getD_eq_getElem?_getD] at hb15
      try (exfalso;omega))
  | ((with_reducible refine Ya ?_)
     refine Zv (Qo (by first|rfl|(simp;done)|fail)) (Yb (fun n τ=>∃ (j:Nat),n=l.length-j∧(j≤l.length∧∀ k:Nat,k<j→¬x=l.getD k default)∧τ={ tm:=[(3,true,.ptr 0 [] 56),(7,true,.fs 56 (l.map Pck.v) false),(8,true,.int .i64 l.length),(9,true,.int .i64 j)],ob:=[.var 56 (.data 56 x.v)],out:=[],nt:=17 }) (l.length) ⟨0,rfl,⟨by omega,fun k h=>by omega⟩,rfl⟩ ?_)
     rintro n τ ⟨j,hn,⟨hj,hz⟩,rfl⟩)
  | ((with_reducible refine WC ?_)
     first
      | (have hlt:j<l.length:=by omega
         have hw:=QD hlt hl
         refine Z0 (l.length-(j+1)) _ (by omega) ((WS 1 rfl).trans (Qo (by simp only [hw,List.take_succ_cons,List.take_zero]))) ⟨j+1,rfl,⟨hlt,fun k h=>?_⟩,rfl⟩
         by_cases h2:k<j
         · exact hz k h2
         · have h3:k=j:=by omega
           rw [h3];exact hb15))
  | ((with_reducible first|refine ZQ ?_|refine ZP ?_)
     simp only [go_sem,QL,QM,QH,seval]
     first
      | (have q:_=_:=hb15
         have hlt:j<l.length:=by omega
         refine ⟨rfl,?_⟩
         rw [show (l.any fun y=>decide (x=y))=true from List.any_eq_true.2 ⟨_,Qj _ hlt,decide_eq_true hb15⟩])
      | (have hlt:j=l.length:=by omega
         subst hlt
         refine ⟨rfl,?_⟩
         rw [show (l.any fun y=>decide (x=y))=false from List.any_eq_false.2 (fun y hy=>by
          obtain ⟨k,hk,e⟩:=List.mem_iff_getElem.1 hy
          have:=hz k hk
          rw [List.getD_eq_getElem?_getD,List.getElem?_eq_getElem hk] at this
          simpa [← e] using this)]))
def QK6:List (List Nat):=[[1,3,5],[1,3,5,8],[1,3,5,8,10],[1,3,5,8,10,11],[3,5,8,10,11,26,27,28],[3,5,8,10,11,26,27,28,29],[3,5,8,10,11,13,26,27,28],[3,5,8,10,11,13,26,27,28,37],[3,5,8,10,11,14,15,26,27,28],[3,5,8,10,11,15,26,27,28],[3,5,8,10,11,15,26,27,28],[3,5,8,10,11,26,27,28],[3,5,8,10,11,26,27,28],[6,7]]
theorem QJ2 (p:Prg) (l:List Pck) (b:Bud) (hp:p.Fit) (hr:QN p=true) (hf:0≤b.fuel∧b.fuel≤4096) (hl:l.length≤256):Ctr Go.Proofs.Tryz.prog tab 95 [26,29,28] [52,36] [p.v,.list (l.map Pck.v),b.v] [.list ((Q0 QB p b.fuel (start QB p b.fuel).1 l (ZY QB p b.fuel (start QB p b.fuel).1 l)).map Stt.v),.list ((Z7 QB p b.fuel (start QB p b.fuel).1 l (ZY QB p b.fuel (start QB p b.fuel).1 l)).map Event.v)]:=by
 have hpp:=hp
 have hok:=Prg.ok hr
 have hcode:=p.code_len hp
 have hsl:=p.sels_len hp
 have hmx:256<maxLen:=by decide
 obtain ⟨s0,hs0⟩:∃ s0,s0=(start QB p b.fuel).1:=⟨_,rfl⟩
 have hw0:Wf p s0:=by rw [hs0];exact QEz QB hok b.fuel
 rw [← hs0]
 refine Ctr.body ok Go.Proofs.Tryz.func95 rfl rfl 60 rfl [.tmp 6,.tmp 7] rfl (by simp [QF]) ?_
 simp only [go_sem,Nat.reduceAdd]
 repeat' first
  | ((with_reducible refine SARA.told 6 2 ?_)
     rw [Qg Pck.v l (by omega)])
  | ((with_reducible first|refine Q5 fun R1 hR1=>?_|refine qz fun R1 hR1=>?_|refine qy fun R1 hR1=>?_|refine qx fun R1 hR1=>?_);(simp only [go_sem,seval,-List.reduceReplicate,YA,QE,z47,z63,QDc,QJw]);(repeat' with_reducible refine And.intro ?_ ?_);all_goals first|(refine hR1 _ ?_;clear hR1 R1)|((first|refine ce (cf (QCe p b.fuel hpp) ?_ (by first|rfl|(simp [go_sem,Yo,List.take_of_length_le,List.length_map];done)|fail))|refine ce (cf (QLp p _ _ b.fuel hpp hr hwi) ?_ (by first|rfl|(simp [go_sem,Yo,List.take_of_length_le,List.length_map];done)|fail))|refine ce (cf (Uv p _ hpp hr hwi) ?_ (by first|rfl|(simp [go_sem,Yo,List.take_of_length_le,List.length_map];done)|fail))|refine ⟨_,_,rfl,.inr (CallB.ctr ok (Uv p _ hpp hr hwi) (by first|rfl|(simp [go_sem,Yo,List.take_of_length_le,List.length_map];done)|fail) ?_)⟩|refine cq (cc (QRJ (ready p (QP QB p b.fuel s0 l i)) (l.getD i default) hrl) (by first|rfl|(simp [go_sem,Yo,List.take_of_length_le,List.length_map];done)|fail)) ?_);all_goals ((try simp only [go_sem,seval,-List.reduceReplicate,YA,QE,z47,z63,QDc,QJw]);(repeat' with_reducible refine And.intro ?_ ?_);all_goals first|(refine hR1 _ ?_;clear hR1 R1)|exact VL))|exact VL)
  | ((with_reducible first|refine qw ?_|refine Q4 ?_);refine hR _ ?_;clear hR R;try simp only [go_sem,QK6,Nat.reduceBEq])
  | (with_reducible first|refine qv ?_ ?_|exact qu|refine qt ?_ ?_)
  | (with_reducible first|refine J1 ?_|refine J2 ?_|refine J3 ?_|refine J4 ?_|refine J5 ?_|refine J6 ?_|refine J7 ?_|refine J8 (by decide) ?_|refine J9 ?_|refine Xu ?_|refine Q2 ?_|refine Q1 ?_|refine Yc ?_|refine Xt ?_)
  | ((with_reducible refine Qe 2 ?_)
     rw [← hs0]
     (with_reducible refine rg QK6 fun R hR=>?_);simp only [go_sem,QC])
  | ((with_reducible refine Qe 6 ?_)
     have hwi:=QAf QB hok b.fuel hw0 l i
     (with_reducible refine rg QK6 fun R hR=>?_);simp only [go_sem,QC])
  | ((with_reducible refine Qe 7 ?_)
     have hrl:(ready p (QP QB p b.fuel s0 l i)).length≤maxLen:=by
      have:=Yj hok hwi (QP QB p b.fuel s0 l i).count.toNat
      have:=hwi.count
      unfold ready
      omega
     refine WT ok QQ (.take 0 (.take 1 (.take 3 (.br 2 (.br 4 (.take 5 .done) .nil) .nil)))) [] QK6 (by kernel_rfl) (fun R hR=>?_);simp only [go_sem,QC])
  | ((with_reducible refine rg QK6 fun R hR=>?_);simp only [go_sem,QC])
  | ((with_reducible refine QI 29 rfl (fun hb29=>?_) fun hb29=>?_);all_goals (try simp [-List.getD_eq_getElem?_getD] at hb29;try (exfalso;omega)))
  | ((with_reducible refine QI 37 rfl (fun hb37=>?tt37) (fun hb37=>?ff37))
     case' tt37 =>
      have hk:Z6 QB p b.fuel s0 l i=false:=by
       unfold Z6
       simpa using hb37
     case' ff37 =>
      have hk:Z6 QB p b.fuel s0 l i=true:=by
       unfold Z6
       simpa using hb37)
  | ((with_reducible refine Ya ?_)
     refine Zv ((St.le.own (t:=11) 63 rfl).trans ((St.le.keep [3,5,8,10,11,26,27,28]).trans (Qo (by (simp only [VW,ye,QCH];rfl))))) (Yb (fun n τ=>∃ (i:Nat),n=l.length-i∧(i≤l.length∧∀ k:Nat,k<i→Z6 QB p b.fuel s0 l k=true)∧τ={ tm:=[(3,true,.ptr 0 [] 26),(5,true,.ptr 1 [] 28),(8,true,.ptr 2 [] 47),(10,true,.sl 3 47 0 (i+1) false),(11,true,.sl 4 63 0 i false),(26,true,.fs 56 (l.map Pck.v) false),(27,true,.int .i64 l.length),(28,true,.int .i64 i)],ob:=[.var 26 (.data 26 p.v),.var 28 (.data 28 b.v),.var 47 (.data 47 (Stt.v (QP QB p b.fuel s0 l i))),.row 47 ((Q0 QB p b.fuel s0 l i).map Stt.v),.row 63 ((Z7 QB p b.fuel s0 l i).map Event.v)],out:=[],nt:=60 }) (l.length) ⟨0,rfl,⟨by omega,fun k h=>by omega⟩,rfl⟩ ?_)
     rintro n τ ⟨i,hn,⟨hi,hz⟩,rfl⟩
     have hst:=WX QB p b.fuel s0 l i
     have het:=Yk QB p b.fuel s0 l i)
  | ((with_reducible refine WC ?_)
     first
      | (have hlt:i<l.length:=by omega
         have hw:=QD hlt (show l.length≤maxLen by omega)
         have e1:=YK QB p b.fuel s0 l hlt
         have e2:=yf QB p b.fuel s0 l i
         have e3:=yk QB p b.fuel s0 l i
         refine Z0 (l.length-(i+1)) _ (by omega) ((WS 5 rfl).trans (Qo (by simp [-List.getD_eq_getElem?_getD,e1,e2,e3,Qy,hw,hst,het,List.take_of_length_le,Nat.add_assoc]))) ⟨i+1,rfl,⟨hlt,fun k h=>?_⟩,rfl⟩
         by_cases h2:k<i
         · exact hz k h2
         · have h3:k=i:=by omega
           rw [h3];exact hk))
  | ((with_reducible first|refine ZQ ?_|refine ZP ?_)
     simp only [go_sem,QL,QM,QH,seval]
     first
      | (have q:Z6 QB p b.fuel s0 l i=false:=hk
         have hlt:i<l.length:=by omega
         rw [QCd QB hlt hk hz]
         refine ⟨⟨rfl,?_,?_⟩,⟨rfl,?_,?_⟩⟩
         · rw [List.take_of_length_le (by rw [List.length_map,hst];exact Nat.le_refl _)]
         · intro e he j u lo n c h
           rw [List.mem_singleton.1 he] at h
           cases h;decide
         · rw [List.take_of_length_le (by rw [List.length_map,het];exact Nat.le_refl _)]
         · intro e he;cases he)
      | (have hlt:i=l.length:=by omega
         rw [qF QB (fun k h=>hz k (by omega))]
         subst hlt
         refine ⟨⟨rfl,?_,?_⟩,⟨rfl,?_,?_⟩⟩
         · rw [List.take_of_length_le (by rw [List.length_map,hst];exact Nat.le_refl _)]
         · intro e he j u lo n c h
           rw [List.mem_singleton.1 he] at h
           cases h;decide
         · rw [List.take_of_length_le (by rw [List.length_map,het];exact Nat.le_refl _)]
         · intro e he;cases he))
def QNA:List (List Nat):=[[1,3,5],[1,3,5,10],[1,3,5,10,19],[6,7,8,9],[1,3,5,25],[6,7,8,9],[1,11,12],[11,12,39],[6,7,8,9],[6,7,8,9]]
theorem QAe (p:Prg) (l:List Pck) (b:Bud) (hp:p.Fit) (hl:l.length≤maxLen):Ctr Go.Proofs.Tryz.prog tab 50 [26,29,28] [52,36,3,3] [p.v,.list (l.map Pck.v),b.v] [.list ((ZA p l b).1.map Stt.v),.list ((ZA p l b).2.1.map Event.v),.int (ZA p l b).2.2.1,.int (ZA p l b).2.2.2]:=by
 have hpp:=hp
 have hcode:=p.code_len hp
 have hsl:=p.sels_len hp
 refine Ctr.body ok Go.Proofs.Tryz.func50 rfl rfl 44 rfl [.tmp 6,.tmp 7,.tmp 8,.tmp 9] rfl (by simp [QF]) ?_
 simp only [go_sem,Nat.reduceAdd]
 repeat' first
  | ((with_reducible first|refine Q5 fun R1 hR1=>?_|refine yb fun R1 hR1=>?_);(simp only [go_sem,seval,-List.reduceReplicate]);(repeat' with_reducible refine And.intro ?_ ?_);all_goals first|(refine hR1 _ ?_;clear hR1 R1)|((first|refine V4 (cc (yY p _ b hpp) (by first|rfl|(simp [go_sem,Yo,List.take_of_length_le,List.length_map];done)|fail)) ?_|refine cq (cc (yY p _ b hpp) (by first|rfl|(simp [go_sem,Yo,List.take_of_length_le,List.length_map];done)|fail)) ?_|refine ce (cf (QJ2 p l b hpp hr hfu (by omega)) ?_ (by first|rfl|(simp [go_sem,Yo,List.take_of_length_le,List.length_map];done)|fail)));all_goals ((try simp only [go_sem,seval,-List.reduceReplicate]);(repeat' with_reducible refine And.intro ?_ ?_);all_goals first|(refine hR1 _ ?_;clear hR1 R1)|exact VL))|exact VL)
  | ((with_reducible first|refine Q4 ?_|refine ya ?_);refine hR _ ?_;clear hR R;try simp only [go_sem,QNA,Nat.reduceBEq])
  | (with_reducible first|refine J1 ?_|refine J2 ?_|refine J3 ?_|refine Q2 ?_|refine Q1 ?_)
  | ((with_reducible refine Qe 6 ?_)
     obtain ⟨hr,hl6,hst,hfu⟩:=QF6 hb19
     have hl2:=WX QB p b.fuel (start QB p b.fuel).1 l (ZY QB p b.fuel (start QB p b.fuel).1 l)
     have het:=Yk QB p b.fuel (start QB p b.fuel).1 l (ZY QB p b.fuel (start QB p b.fuel).1 l)
     have hnl:=Uo QB p b.fuel (start QB p b.fuel).1 l
     (with_reducible refine rg QNA fun R hR=>?_);simp only [go_sem,QC])
  | ((with_reducible refine rg QNA fun R hR=>?_);simp only [go_sem,QC])
  | ((with_reducible refine Ve ok QQ (by kernel_rfl) (by kernel_rfl) QNA ?_);intro R hR;simp only [go_sem,QC])
  | ((with_reducible refine QI 19 rfl (fun hb19=>?_) fun hb19=>?_);all_goals (try simp [-List.getD_eq_getElem?_getD] at hb19;try (exfalso;omega)))
  | ((with_reducible refine QI 25 rfl (fun hb25=>?_) fun hb25=>?_);all_goals (try simp [-List.getD_eq_getElem?_getD] at hb25;try (exfalso;omega)))
  | ((with_reducible refine QI 39 rfl (fun hb39=>?_) fun hb39=>?_);all_goals (try simp [-List.getD_eq_getElem?_getD] at hb39;try (exfalso;omega)))
  | ((with_reducible first|refine ZQ ?_|refine ZP ?_)
     simp only [go_sem,QL,QM,QH,seval]
     first
      | (have q:¬_:=hb19
         have e:ZA p l b=([],[],ZR p l.length b,0):=if_pos hb19
         rw [e]
         exact ⟨⟨rfl,rfl⟩,⟨rfl,rfl⟩,⟨rfl,rfl⟩,⟨rfl,rfl⟩⟩)
      | (have q:=hb25
         have e:ZA p l b=([],[],2,b.steps):=(if_neg (fun h=>h hb19)).trans (if_pos hb25)
         rw [e]
         exact ⟨⟨rfl,rfl⟩,⟨rfl,rfl⟩,⟨rfl,rfl⟩,⟨rfl,rfl⟩⟩)
      | (have q:=hb39
         have e:ZA p l b=([],[],5,((ZY QB p b.fuel (start QB p b.fuel).1 l):Int)):=(if_neg (fun h=>h hb19)).trans ((if_neg (Int.not_lt.2 hb25)).trans (if_pos (by omega)))
         rw [e,het]
         exact ⟨⟨rfl,rfl⟩,⟨rfl,rfl⟩,⟨rfl,rfl⟩,⟨rfl,rfl⟩⟩)
      | (have e:ZA p l b=(Q0 QB p b.fuel (start QB p b.fuel).1 l (ZY QB p b.fuel (start QB p b.fuel).1 l),Z7 QB p b.fuel (start QB p b.fuel).1 l (ZY QB p b.fuel (start QB p b.fuel).1 l),0,0):=(if_neg (fun h=>h hb19)).trans ((if_neg (Int.not_lt.2 hb25)).trans (if_neg (by omega)))
         rw [e]
         refine ⟨⟨rfl,?_,?_⟩,⟨rfl,?_,?_⟩,⟨rfl,rfl⟩,⟨rfl,rfl⟩⟩
         · rw [List.take_of_length_le (by rw [List.length_map];exact Nat.le_refl _)]
         · intro e he j u lo n c h
           simp only [List.mem_cons,List.not_mem_nil,or_false] at he
           rcases he with he|he|he<;>rw [he] at h<;>cases h<;>decide
         · rw [List.take_of_length_le (by rw [List.length_map];exact Nat.le_refl _)]
         · intro e he j u lo n c h
           simp only [List.mem_cons,List.not_mem_nil,or_false] at he
           rcases he with he|he<;>rw [he] at h<;>cases h))
theorem xS:tab.zero 49=Trc.v ⟨[],zeroStt,false⟩:=rfl
theorem QB8 (p:Prg) (fuel:Int) (s:Stt) (l:List Pck) (n:Nat):(Q0 QB p fuel s l n).getD n default=QP QB p fuel s l n:=by
 unfold Q0
 exact Vh (by omega) _ _
def QLF:List (List Nat):=[[1,3,5,6],[1,3,5,6,9,10,11,12],[1,3,5,6,9,10,11,12,25],[6,7,8],[1,3,5,6,10,13],[6,10,13,14],[6,7,8]]
theorem QHY (p:Prg) (l:List Pck) (b:Bud) (hp:p.Fit) (hl:l.length≤maxLen):CtrZ Go.Proofs.Tryz.prog tab 20 [26,29,28] [49,3,3] [p.v,.list (l.map Pck.v),b.v] [(Wa p l b).1.v,.int (Wa p l b).2.1,.int (Wa p l b).2.2]:=by
 have hpp:=hp
 have hcode:=p.code_len hp
 have hsl:=p.sels_len hp
 have hmx:256<maxLen:=by decide
 refine CtrZ.body ok Go.Proofs.Tryz.func20 rfl rfl 51 rfl [.cell 6 49,.tmp 7,.tmp 8] rfl (by simp [QF]) ?_
 simp only [go_sem,Nat.reduceAdd]
 repeat' first
  | ((with_reducible refine SARW.told 5 9 ?_)
     first|(refine J48 (St.le.unsaid 43 .nilsl rfl) ?_)|skip)
  | ((with_reducible refine SARA.told 4 4 ?_)
     rw [hwr])
  | ((with_reducible refine SARA.told 4 6 ?_)
     rw [Qg Stt.v _ (by rw [hsl2];omega),QB8])
  | ((with_reducible first|refine Q5 fun R1 hR1=>?_|refine SARW.do fun R1 hR1=>?_);(simp only [go_sem,seval,-List.reduceReplicate,xS]);(repeat' with_reducible refine And.intro ?_ ?_);all_goals first|(refine hR1 _ ?_;clear hR1 R1)|(intro hgf;simp only [hgf];refine hR1 _ ?_;clear hR1 R1)|((first|refine ce (cf (QAe p l b hpp hl) ?_ (by first|rfl|(simp [go_sem,Yo,List.take_of_length_le,List.length_map];done)|fail))|refine ⟨_,_,rfl,.inr ⟨fun _=>CallE.ctr ok (QAe p l b hpp hl) (by first|rfl|(simp [go_sem,Yo,List.take_of_length_le,List.length_map];done)|fail) ?_,?_⟩⟩|refine ce (cf (Uv p _ hpp hro.right hw) ?_ (by first|rfl|(simp [go_sem,Yo,List.take_of_length_le,List.length_map];done)|fail))|refine ⟨_,_,rfl,.inr ⟨fun _=>CallE.ctr ok (Uv p _ hpp hro.right hw) (by first|rfl|(simp [go_sem,Yo,List.take_of_length_le,List.length_map];done)|fail) ?_,?_⟩⟩);all_goals ((try simp only [go_sem,seval,-List.reduceReplicate,xS]);(repeat' with_reducible refine And.intro ?_ ?_);all_goals first|(refine hR1 _ ?_;clear hR1 R1)|(intro hgf;simp only [hgf];refine hR1 _ ?_;clear hR1 R1)|exact VL))|exact VL)
  | ((with_reducible first|refine Q4 ?_|refine SARW.nil ?_);refine hR _ ?_;clear hR R;try simp only [go_sem,QLF,Nat.reduceBEq])
  | (with_reducible first|refine J1 ?_|refine J2 ?_|refine J3 ?_|refine Q2 ?_|refine Q1 ?_)
  | ((with_reducible refine Qe 4 ?_)
     have hro:=vC hb25
     have hok:=Prg.ok hro.right
     have hw:Wf p (Qs p l b):=QAf QB hok b.fuel (QEz QB hok b.fuel) l l.length
     have hsl2:=WX QB p b.fuel (start QB p b.fuel).1 l l.length
     have hl6:=hro.len
     have hrl:(ready p (Qs p l b)).length≤maxLen:=by
      have:=Yj hok hw (Qs p l b).count.toNat
      have:=hw.count
      unfold ready
      omega
     simp only [hro.eq,hsl2]
     have hwr:IntKind.i64.wrap (((l.length+1:Nat):Int)-1)=(l.length:Int):=by
      rw [Qc (by omega) (by omega)]
      omega
     (with_reducible refine rg QLF fun R hR=>?_);simp only [go_sem,QC])
  | ((with_reducible refine Qe 6 ?_)
     refine Zv (J49 ok.sized 4 rfl) ?_
     simp only [St.frz,Tm.frz,E.frz,E.frzL,Obj.frz,List.map_cons,List.map_nil,List.set_cons_zero,List.set_cons_succ,Nat.reduceBEq,Nat.beq_refl,if_true,if_false,Nat.beq_eq_true_eq,reduceCtorEq,Bool.false_eq_true,V.get,Nat.reduceEqDiff]
     (with_reducible refine rg QLF fun R hR=>?_);simp only [go_sem,QC])
  | ((with_reducible refine Qe 5 ?_)
     skip
     (with_reducible refine SA.regionWN ok (by kernel_rfl) QLF ?_);intro R hR;simp only [go_sem,QC])
  | ((with_reducible refine rg QLF fun R hR=>?_);simp only [go_sem,QC])
  | ((with_reducible refine QI 25 rfl (fun hb25=>?_) fun hb25=>?_);all_goals (try simp [-List.getD_eq_getElem?_getD] at hb25;try (exfalso;omega)))
  | ((with_reducible first|refine J46 ?_|refine J47 ?_)
     simp only [go_sem,QL,QM,QH,seval]
     first
      | (have q:¬_:=hb25
         rw [show Wa p l b=(⟨[],zeroStt,false⟩,(ZA p l b).2.2.1,(ZA p l b).2.2.2) from if_pos hb25])
      | (rw [show Wa p l b=(⟨Qh p l b,(Qs p l b),decide ((l.length:Int)=b.steps)&&decide (0<(ready p (Qs p l b)).length)⟩,0,0) from if_neg (fun h=>h hb25)]
         first|rw [hgf]|skip
         simp [Trc.v,List.take_of_length_le,V.setSub]))
end Go.Eng.Tryz
