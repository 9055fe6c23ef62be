/- A part of the proof: walks through the program's functions, and what they compute. -/
import Derived.Test.YtedceinkpkoncaaGreatDoorPk40
import Derived.Test.YtedceinkpkoncaaGreatDoorPk49
import Derived.Test.YtedceinkpkoncaaGreatDoorPk51
set_option linter.unusedSimpArgs false
set_option linter.unusedVariables false
namespace Go.Eng.Tryz
open Go.RowKit Go.Eng
set_option maxHeartbeats 0
set_option maxRecDepth 20000
theorem yZ {p:Prg} {l:List Pck} {b:Bud} (h:¬(Xc p l b).2.2.1=0):(Qe p l b).1=[]:=by
 by_cases h1:ZF p l.length b=0
 · by_cases h2:b.steps<(l.length:Int)
   · unfold Qe
     rw [if_neg (fun q=>q h1),if_pos h2]
   · by_cases h3:ZN QB p b.fuel (QS QB p b.fuel).1 l<l.length
     · unfold Qe
       rw [if_neg (fun q=>q h1),if_neg h2]
       simp only [h3,if_true]
     · rw [yf h1 h2 h3] at h
       exact absurd rfl h
 · unfold Qe
   rw [if_pos h1]
def qc (p:Prg) (l:List Pck) (b:Bud) (F:Stt) (k:Nat):List Stt:=F::(List.range k).map fun j=>QY QB p b.fuel (QS QB p b.fuel).1 l (j+1)
theorem QGr (p:Prg) (l:List Pck) (b:Bud) (F:Stt) (k:Nat):(qc p l b F k).length=k+1:=by simp [qc]
theorem vB (p:Prg) (l:List Pck) (b:Bud) (F:Stt) (k:Nat):qc p l b F (k+1)=qc p l b F k++[QY QB p b.fuel (QS QB p b.fuel).1 l (k+1)]:=by
 simp [qc,List.range_succ]
theorem QIB (p:Prg) (l:List Pck) (b:Bud) (k:Nat):qc p l b (QS QB p b.fuel).1 k=Z4 QB p b.fuel (QS QB p b.fuel).1 l k:=by
 induction k with
 | zero=>simp [qc,zd]
 | succ k ih=>rw [vB,ih,ze]
def QCy (p:Prg) (l:List Pck) (b:Bud):Nat:=ZN QB p b.fuel (QS QB p b.fuel).1 (l.take b.steps.toNat)
def QQP:List (List Nat):=[[]]
theorem qp (s e:V) (tm:Tm) (ob:List Obj) (out:List Tm) (nt:Nat) (K:St→E→Prop) (h:∀ ys,K { tm:=tm,ob:=ob++ys,out:=out,nt:=nt } (.tup [])):CallE Go.Proofs.Tryz.prog tab { tm:=tm,ob:=ob,out:=out,nt:=nt } 91 [.data 37 s,.data 48 e] K:=by
 have hcode:True→True:=id
 have hsl:True→True:=id
 refine CallE.body ok Go.Proofs.Tryz.func91 rfl rfl 4 rfl [] rfl (by simp) ?_
 simp only [enter,Zl,Nat.zero_add,Nat.reduceAdd]
 repeat' first
  | ((with_reducible refine Q2 fun R1 hR1=>?_);(simp only [go_sem,seval,-List.reduceReplicate,Bool.cond_false_right,Bool.cond_true_left,QF,List.append_assoc]);(repeat' with_reducible refine And.intro ?_ ?_);all_goals first|(refine hR1 _ ?_;clear hR1 R1)|exact ZQ)
  | ((with_reducible refine Q1 ?_);refine hR _ ?_;clear hR R;try simp only [go_sem,QQP,Nat.reduceBEq])
  | (with_reducible first|refine J1 ?_|refine J2 ?_|refine Q0 ?_|refine Qz ?_)
  | ((with_reducible refine rg QQP fun R hR=>?_);simp only [go_sem,QC])
  | ((with_reducible first|refine xS ?_|refine xR ?_)
     simp only [go_sem,QJ,QK,QG,seval]
     exact h _)
def QQM:List (List Nat):=[[2,3],[]]
theorem wY (P B F s ev:V) (sts:List V) (n:Nat) (hn:n≤1000) (hen:sts.length=n) {L:List Obj} {tm:Tm} {out:List Tm} {nt:Nat} {K:St→E→Prop} (ht:Tm.under (L.length+5) tm=true) (ho:Q7 (L.length+5) out=true) (hL:Qk (L.length+5) L=true) (hk1:Tm.kill 3 tm=tm) (hk2:out.map (Tm.kill 3)=out) (hx:L.map (Obj.kill 3)=L)
 (h:K { tm:=tm,ob:=.var 26 (.data 26 P)::.var 77 (.data 77 B)::.var 37 (.data 37 F)::.row 37 (sts++[s])::.var 106 (.sl 3 37 0 (n+1) false)::L,out:=out,nt:=nt } (.tup [])):CallE Go.Proofs.Tryz.prog tab { tm:=tm,ob:=.var 26 (.data 26 P)::.var 77 (.data 77 B)::.var 37 (.data 37 F)::.row 37 sts::.var 106 (.sl 3 37 0 n false)::L,out:=out,nt:=nt } 95 [.data 37 s,.data 48 ev,.ptr 4 [] 106] K:=by
 refine CallE.cut (L.length+5) ?_
 have hcode:True→True:=id
 have hsl:True→True:=id
 have hmx:1001≤maxLen:=by decide
 have hk1':(tm.map fun x=>(x.1,x.2.1,E.kill 3 x.2.2))=tm:=hk1
 have hb3:Nat.blt 3 (L.length+5)=true:=by rw [Nat.blt_eq];omega
 have hb4:Nat.blt 4 (L.length+5)=true:=by rw [Nat.blt_eq];omega
 refine CallE.body ok Go.Proofs.Tryz.func95 rfl rfl 9 rfl [] rfl (by simp) ?_
 simp only [enter,Zl,Nat.zero_add,Nat.reduceAdd]
 repeat' first
  | ((with_reducible refine Q2 fun R1 hR1=>?_);(simp only [go_sem,seval,-List.reduceReplicate,hk1',hk2,hx,List.getElem?_cons_succ,List.set_cons_succ,List.set_cons_zero,Ue,QAt (X:=L) (N:=L.length) rfl,yv (X:=L) (N:=L.length) rfl,List.length_append,List.append_assoc,List.map_append,Bool.cond_false_right,Bool.cond_true_left,QF]);(repeat' with_reducible refine And.intro ?_ ?_);all_goals first|(refine hR1 _ ?_;clear hR1 R1)|omega|rfl|decide|assumption|(intro _;omega)|(simp;done)|(simp [-List.getD_eq_getElem?_getD];omega)|exact hcode _|(intro _;exact hcode _)|exact hsl _|(intro _;exact hsl _)|(simp [-List.getD_eq_getElem?_getD,QQ,maxLen,QJp];omega)|(simp [-List.getD_eq_getElem?_getD,QQ,maxLen,QJp];done))
  | ((with_reducible refine Q1 ?_);refine hR _ ?_;clear hR R;try simp only [go_sem,QQM,Nat.reduceBEq])
  | (with_reducible first|refine J1 ?_|refine J2 ?_|refine Q0 ?_|refine Qz ?_)
  | ((with_reducible refine rg QQM fun R hR=>?_);simp only [go_sem,QC])
  | ((with_reducible first|refine xS ?_|refine xR ?_)
     simp only [go_sem,QJ,QK,QG,seval]
     refine ⟨⟨by simp [St.under,Tm.under,E.under,E.underL,Q7,Qk,ht,ho,hL,hb3,hb4,List.take_succ_cons,List.take_left,List.length_append,Nat.add_assoc],rfl⟩,?_⟩
     simpa [List.take_of_length_le,hen,List.take_left] using h)
def QQd:List (List Nat):=[[1,3,5],[1,3,5,8],[1,3,5,10],[10,12],[10,12,35],[6,7],[6,7]]
theorem QEv (p:Prg) (l:List Pck) (b:Bud) (F:Stt):Grow p l b (fun k=>.var 26 (.data 26 p.v)::.var 77 (.data 77 b.v)::.var 37 (.data 37 F.v)::.row 37 ((qc p l b F k).map Stt.v)::.var 106 (.sl 3 37 0 (k+1) false)::[]) 5 3 95 [.ptr 4 [] 106]:=by
 refine ⟨fun k=>rfl,fun k=>rfl,rfl,rfl,.inl (by decide),?_⟩
 intro k tm out nt L K hk hk2 h1 h2 h3 h4 h5 h6 h7
 rw [Nat.add_comm] at h1 h2 h3
 have e:=vB p l b F k
 refine wY p.v b.v F.v _ _ ((qc p l b F k).map Stt.v) (k+1) (by omega) (by rw [List.length_map,QGr]) h1 h2 h3 h4 h5 h6 ?_
 rw [show (qc p l b F k).map Stt.v++[Stt.v (QY QB p b.fuel (QS QB p b.fuel).1 l (k+1))]=(qc p l b F (k+1)).map Stt.v from by rw [e];simp]
 exact h7
theorem wZ (p:Prg) (l:List Pck) (b:Bud) (hp:p.Fit) (hl:l.length≤maxLen):Ctr Go.Proofs.Tryz.prog tab 54 [26,64,77] [106,49] [p.v,.list (l.map Pck.v),b.v] [.list ((Qe p l b).1.map Stt.v),.int (Qe p l b).2.2.1]:=by
 have hpp:=hp
 have hcode:True→True:=id
 have hsl:True→True:=id
 have hmx:257≤maxLen:=by decide
 have hst:=(QCd p l b).1
 refine Ctr.body ok Go.Proofs.Tryz.func54 rfl rfl 38 rfl [.tmp 6,.tmp 7] rfl (by simp [QE]) ?_
 simp only [go_sem,Nat.reduceAdd]
 repeat' first
  | ((with_reducible refine Q2 fun R1 hR1=>?_);(simp only [go_sem,seval,-List.reduceReplicate,Bool.cond_false_right,Bool.cond_true_left,QF]);(repeat' with_reducible refine And.intro ?_ ?_);all_goals first|(refine hR1 _ ?_;clear hR1 R1)|((first|refine ce (cf (Ux p (max (min b.fuel 4096) 0) hpp) ?_ (by first|rfl|(simp [go_sem,List.take_of_length_le,List.length_map];done)|fail))|refine ⟨_,_,rfl,.inr (UI p l b hpp hl (QEv p l b (QS QB p (max (min b.fuel 4096) 0)).1) (by decide) ?_ ?_ ?_ ?_ ?_)⟩);all_goals ((try simp only [go_sem,seval,-List.reduceReplicate,Bool.cond_false_right,Bool.cond_true_left,QF]);(repeat' with_reducible refine And.intro ?_ ?_);all_goals first|(refine hR1 _ ?_;clear hR1 R1)|exact ZQ))|exact ZQ)
  | ((with_reducible refine Q1 ?_);refine hR _ ?_;clear hR R;try simp only [go_sem,QQd,Nat.reduceBEq])
  | (with_reducible first|refine J1 ?_|refine J2 ?_|refine J3 ?_|refine Q0 ?_|refine Qz ?_)
  | ((with_reducible refine rg QQd fun R hR=>?_);simp only [go_sem,QC])
  | ((with_reducible refine QH 35 rfl (fun hb35=>?_) fun hb35=>?_);all_goals (try simp [-List.getD_eq_getElem?_getD] at hb35;try (exfalso;omega)))
  | ((with_reducible first|refine ZH ?_|refine ZG ?_)
     simp only [go_sem,QJ,QK,QG,seval]
     first
      | (have q:=hb35
         rw [yZ hb35,hst]
         exact ⟨⟨rfl,rfl⟩,rfl,rfl⟩)
      | (have q:=hb35
         obtain ⟨hOk,hS,_⟩:=WS hb35
         have hfu:max (min b.fuel 4096) 0=b.fuel:=by have:=hOk.fuel;omega
         rw [hOk.eq,hS,hfu,QIB]
         refine ⟨⟨rfl,?_,?_⟩,rfl,rfl⟩
         · rw [List.take_of_length_le (by rw [List.length_map,WP];exact Nat.le_refl _)]
         · intro e'' he j u lo n c h
           rw [List.mem_singleton.1 he] at h
           cases h))
def QKw:List (List Nat):=[[1,3,5],[1,3,5,8],[1,3,5,8,17],[6,7],[10],[6,7]]
theorem Vc (p:Prg) (l:List Pck) (b:Bud) (hp:p.Fit) (hl:l.length≤maxLen):Ctr Go.Proofs.Tryz.prog tab 50 [26,64,77] [3,49] [p.v,.list (l.map Pck.v),b.v] [.int (if ZF p l.length b=0 then (QCy p l b:Int) else 0),.int (ZF p l.length b)]:=by
 have hpp:=hp
 have hcode:True→True:=id
 have hsl:True→True:=id
 have hmx:257≤maxLen:=by decide
 refine Ctr.body ok Go.Proofs.Tryz.func50 rfl rfl 33 rfl [.tmp 6,.tmp 7] rfl (by simp [QE]) ?_
 simp only [go_sem,Nat.reduceAdd]
 repeat' first
  | ((with_reducible first|refine Q2 fun R1 hR1=>?_|refine qR fun R1 hR1=>?_|refine qQ fun R1 hR1=>?_|refine qP fun R1 hR1=>?_);(simp only [go_sem,seval,-List.reduceReplicate,Bool.cond_false_right,Bool.cond_true_left,QF]);(repeat' with_reducible refine And.intro ?_ ?_);all_goals first|(refine hR1 _ ?_;clear hR1 R1)|(intro hgf;simp only [hgf];refine hR1 _ ?_;clear hR1 R1)|((first|refine cq (cc (Uv p _ b hpp) (by first|rfl|(simp [go_sem,List.take_of_length_le,List.length_map];done)|fail)) ?_|((first|refine ⟨_,_,rfl,.inr (Vb p (l.take b.steps.toNat) b hpp hz.2.2.1 hz.2.1 hl2 (xt (X:=[.var 26 (.data 26 p.v),.var 77 (.data 77 b.v)]) (N:=2) rfl rfl qp) (by decide) hpv ?_ ?_ ?_ ?_ ?_)⟩|refine ⟨_,_,rfl,.inr (Vb p (l.take b.steps.toNat) b hpp hz.2.2.1 hz.2.1 hl2 (xt (X:=[.var 26 (.data 26 p.v),.var 77 (.data 77 b.v),.var 37 (.data 37 zeroStt.v)]) (N:=3) rfl rfl qp) (by decide) hpv ?_ ?_ ?_ ?_ ?_)⟩)));all_goals ((try simp only [go_sem,seval,-List.reduceReplicate,Bool.cond_false_right,Bool.cond_true_left,QF]);(repeat' with_reducible refine And.intro ?_ ?_);all_goals first|(refine hR1 _ ?_;clear hR1 R1)|(intro hgf;simp only [hgf];refine hR1 _ ?_;clear hR1 R1)|exact ZQ))|exact ZQ)
  | ((with_reducible refine SART.doneAt 4 ?_);refine hR _ ?_;clear hR R;try simp only [go_sem,QKw,Nat.reduceBEq]
     exact Qq rfl)
  | ((with_reducible first|refine qO ?_|refine Q1 ?_);refine hR _ ?_;clear hR R;try simp only [go_sem,QKw,Nat.reduceBEq])
  | (with_reducible first|refine qN ?_ ?_|exact qM|refine qL ?_ ?_)
  | (with_reducible first|refine J1 ?_|refine J2 ?_|refine J3 ?_|refine Q0 ?_|refine Qz ?_)
  | ((with_reducible refine QZ 4 ?_)
     have hz:=UY hb17
     have hl2:(l.take b.steps.toNat).length≤256:=by rw [List.length_take];omega
     have hpv:List.take (min (l.length:Int) b.steps).toNat (List.drop 0 (l.map Pck.v))=(l.take b.steps.toNat).map Pck.v:=by
      rw [List.drop_zero,← List.map_take]
      congr 1
      by_cases hc:(l.length:Int)≤b.steps
      · rw [List.take_of_length_le (by omega),List.take_of_length_le (by omega)]
      · congr 1;omega
     refine J35 ok QN (.take 0 (.take 1 (.take 2 (.take 3 (.take 4 (.take 5 (.take 6 (.take 7 (.take 8 (.br 9 (.take 10 (.take 11 (.br 12 (.br 13 (.br 14 (.take 15 .done) .nil) .nil) (.br 13 (.br 12 (.br 14 (.take 15 .done) .nil) (.br 14 (.take 12 (.take 15 .done)) .nil)) .nil)))) (.br 13 (.br 9 (.take 10 (.take 11 (.br 12 (.br 14 (.take 15 .done) .nil) (.br 14 (.take 12 (.take 15 .done)) .nil)))) .nil) .nil))))))))))) [9,14] QKw (by kernel_rfl) ({ tm:=[(10,true,.int .i64 (QCy p l b))],ob:=[.var 26 (.data 26 p.v),.var 77 (.data 77 b.v),.var 37 (.data 37 (Stt.v (QY QB p b.fuel (QS QB p b.fuel).1 (l.take b.steps.toNat) (QCy p l b))))],out:=[],nt:=33 }) (fun R hR=>?_) ?_;simp only [go_sem,QC])
  | ((with_reducible refine rg QKw fun R hR=>?_);simp only [go_sem,QC])
  | ((with_reducible refine QH 17 rfl (fun hb17=>?_) fun hb17=>?_);all_goals (try simp [-List.getD_eq_getElem?_getD] at hb17;try (exfalso;omega)))
  | ((with_reducible first|refine ZH ?_|refine ZG ?_)
     simp only [go_sem,QJ,QK,QG,seval]
     first
      | (have q:=hb17
         refine ⟨⟨rfl,?_⟩,rfl⟩
         rw [if_neg hb17])
      | (have q:=hb17
         refine ⟨⟨rfl,?_⟩,rfl,?_⟩
         · rw [if_pos hb17];rfl
         · rw [hb17])
      | (have q:=hb17
         refine ⟨⟨rfl,?_⟩,rfl,?_⟩
         · rw [if_pos hb17]
         · rw [hb17]))
end Go.Eng.Tryz
namespace Go.Eng.Tryz
open Go.RowKit Go.Eng
set_option maxHeartbeats 0
set_option maxRecDepth 20000
theorem QBI (p:Prg) (l:List Pck) (b:Bud):(WT p l b).2.1=(Xc p l b).2.2.1:=by
 by_cases h:(Xc p l b).2.2.1=0
 · rw [(WS h).2.2,h]
 · rw [ye h]
theorem QCP (p:Prg) (l:List Pck) (b:Bud):(Qe p l b).1.length≤257:=by
 by_cases h:(Xc p l b).2.2.1=0
 · have hOk:=(WS h).1
   rw [hOk.eq]
   have:=hOk.len
   show (Z4 ..).length≤257
   rw [WP]
   omega
 · rw [yZ h]
   decide
def QKv:List (List Nat):=[[1,3,5],[1,3,5,8],[1,3,5,8,17],[6,7],[1,3,5,23],[1,3,5],[10],[6,7]]
theorem QCf (p:Prg) (l:List Pck) (b:Bud) (hp:p.Fit) (hl:l.length≤maxLen):Ctr Go.Proofs.Tryz.prog tab 51 [26,64,77] [3,3] [p.v,.list (l.map Pck.v),b.v] [.int (if ZF p l.length b=0 then (QCy p l b:Int) else 0),.int (ZF p l.length b)]:=by
 have hpp:=hp
 have hcode:True→True:=id
 have hsl:True→True:=id
 have hmx:257≤maxLen:=by decide
 refine Ctr.body ok Go.Proofs.Tryz.func51 rfl rfl 37 rfl [.tmp 6,.tmp 7] rfl (by simp [QE]) ?_
 simp only [go_sem,Nat.reduceAdd]
 repeat' first
  | ((with_reducible refine Q2 fun R1 hR1=>?_);(simp only [go_sem,seval,-List.reduceReplicate,Bool.cond_false_right,Bool.cond_true_left,QF,Zj,List.length_map]);(repeat' with_reducible refine And.intro ?_ ?_);all_goals first|(refine hR1 _ ?_;clear hR1 R1)|(intro hgf;simp only [hgf];refine hR1 _ ?_;clear hR1 R1)|((first|refine cq (cc (zY p _ b hpp) (by first|rfl|(simp [go_sem,List.take_of_length_le,List.length_map,List.map_take,List.drop_zero];done)|fail)) ?_|refine ce (cf (QDR p (l.take b.steps.toNat) b hpp hz.2.2.1 hz.2.1 hl2) ?_ (by first|rfl|(simp [go_sem,List.take_of_length_le,List.length_map,List.map_take,List.drop_zero];done)|fail)));all_goals ((try simp only [go_sem,seval,-List.reduceReplicate,Bool.cond_false_right,Bool.cond_true_left,QF,Zj,List.length_map]);(repeat' with_reducible refine And.intro ?_ ?_);all_goals first|(refine hR1 _ ?_;clear hR1 R1)|(intro hgf;simp only [hgf];refine hR1 _ ?_;clear hR1 R1)|exact ZQ))|exact ZQ)
  | ((with_reducible refine Q1 ?_);refine hR _ ?_;clear hR R;try simp only [go_sem,QKv,Nat.reduceBEq])
  | (with_reducible first|refine J1 ?_|refine J2 ?_|refine J3 ?_|refine Q0 ?_|refine Qz ?_)
  | ((with_reducible refine QZ 4 ?_)
     have hz:=UY hb17
     have hl2:(l.take b.steps.toNat).length≤256:=by rw [List.length_take];omega
     have hse:=UP QB p b.fuel (QS QB p b.fuel).1 (l.take b.steps.toNat)
     (with_reducible refine rg QKv fun R hR=>?_);simp only [go_sem,QC])
  | ((with_reducible refine QZ 6 ?_)
     have hpv:¬b.steps<(l.length:Int)→l.map Pck.v=(l.take b.steps.toNat).map Pck.v:=fun h=>by rw [List.take_of_length_le (by omega)]
     try rw [hpv (by omega)]
     (with_reducible refine rg QKv fun R hR=>?_);simp only [go_sem,QC])
  | ((with_reducible refine rg QKv fun R hR=>?_);simp only [go_sem,QC])
  | ((with_reducible refine QH 17 rfl (fun hb17=>?_) fun hb17=>?_);all_goals (try simp [-List.getD_eq_getElem?_getD] at hb17;try (exfalso;omega)))
  | ((with_reducible refine QH 23 rfl (fun hb23=>?_) fun hb23=>?_);all_goals (try simp [-List.getD_eq_getElem?_getD] at hb23;try (exfalso;omega)))
  | ((with_reducible first|refine ZH ?_|refine ZG ?_)
     simp only [go_sem,QJ,QK,QG,seval]
     first
      | (have q:=hb17
         refine ⟨⟨rfl,?_⟩,rfl⟩
         rw [if_neg hb17])
      | (have q:=hb17
         refine ⟨⟨rfl,?_⟩,rfl,?_⟩
         · rw [if_pos hb17];rfl
         · rw [hb17])
      | (have q:=hb17
         refine ⟨⟨rfl,?_⟩,rfl,?_⟩
         · rw [if_pos hb17]
         · rw [hb17]))
def QOH:List (List Nat):=[[1,3,5],[3,8,9],[3,8,9,20],[6,7],[6,7]]
theorem vU (p:Prg) (l:List Pck) (b:Bud) (hp:p.Fit) (hl:l.length≤maxLen):Ctr Go.Proofs.Tryz.prog tab 53 [26,64,77] [4,3] [p.v,.list (l.map Pck.v),b.v] [.bool (decide ((Xc p l b).2.2.1=0)&&!decide (0<(ready p (ZX p l b)).length)),.int (Xc p l b).2.2.1]:=by
 have hpp:=hp
 have hcode:True→True:=id
 have hsl:True→True:=id
 have hmx:384≤maxLen:=by decide
 refine Ctr.body ok Go.Proofs.Tryz.func53 rfl rfl 28 rfl [.tmp 6,.tmp 7] rfl (by simp [QE]) ?_
 simp only [go_sem,Nat.reduceAdd]
 repeat' first
  | ((with_reducible refine Q2 fun R1 hR1=>?_);(simp only [go_sem,seval,-List.reduceReplicate,Bool.cond_false_right,Bool.cond_true_left,QF,QBI]);(repeat' with_reducible refine And.intro ?_ ?_);all_goals first|(refine hR1 _ ?_;clear hR1 R1)|(intro hgf;simp only [hgf];refine hR1 _ ?_;clear hR1 R1)|((first|refine ⟨_,_,rfl,.inr (CallE.ctrZ (QCc p l b hpp hl) (by first|rfl|(simp [go_sem,List.take_of_length_le,List.length_map,List.map_take,List.drop_zero];done)|fail) ?_)⟩|refine ce (cf (Xf p (ZX p l b) hpp hOk.right hw) ?_ (by first|rfl|(simp [go_sem,List.take_of_length_le,List.length_map,List.map_take,List.drop_zero];done)|fail)));all_goals ((try simp only [go_sem,seval,-List.reduceReplicate,Bool.cond_false_right,Bool.cond_true_left,QF,QBI]);(repeat' with_reducible refine And.intro ?_ ?_);all_goals first|(refine hR1 _ ?_;clear hR1 R1)|(intro hgf;simp only [hgf];refine hR1 _ ?_;clear hR1 R1)|exact ZQ))|exact ZQ)
  | ((with_reducible refine Q1 ?_);refine hR _ ?_;clear hR R;try simp only [go_sem,QOH,Nat.reduceBEq])
  | (with_reducible first|refine J1 ?_|refine J2 ?_|refine J3 ?_|refine Q0 ?_|refine Qz ?_)
  | ((with_reducible refine QZ 4 ?_)
     obtain ⟨hOk,hS,hO⟩:=WS hb20
     rw [hO]
     have hw:=hOk.vld.wf (Prg.ok hOk.right) hOk.right
     have hrl:=Zu (Prg.ok hOk.right) hw (ZX p l b).count.toNat
     have hct:=hOk.vld.count
     have hrl2:(ready p (ZX p l b)).length≤384:=by unfold ready;omega
     have hrl3:(ready p (ZX p l b)).length≤maxLen:=by omega
     (with_reducible refine rg QOH fun R hR=>?_);simp only [go_sem,QC])
  | ((with_reducible refine rg QOH fun R hR=>?_);simp only [go_sem,QC])
  | ((with_reducible refine QH 20 rfl (fun hb20=>?_) fun hb20=>?_);all_goals (try simp [-List.getD_eq_getElem?_getD] at hb20;try (exfalso;omega)))
  | ((with_reducible first|refine ZH ?_|refine ZG ?_)
     simp only [go_sem,QJ,QK,QG,seval]
     first
      | (have q:=hb20
         refine ⟨⟨rfl,?_⟩,rfl,?_⟩
         · rw [decide_eq_false hb20];rfl
         · rfl)
      | (have q:=hb20
         refine ⟨⟨rfl,?_⟩,rfl⟩
         rw [decide_eq_false hb20];rfl)
      | (have q:=hb20
         rw [hS]
         refine ⟨⟨rfl,?_⟩,rfl,rfl⟩
         rw [vt]
         rfl))
def QK2:List (List Nat):=[[1,3,5],[1,3,5,7,8],[1,3,5,7,8,9,10],[1,3,5,7,8,9,10,11,12],[1,3,5,7,8,9,10,11,12,13,14],[1,3,5,7,8,9,10,11,12,13,14,15,16],[7,8,9,10,11,12,13,14,15,16,17,19],[15,17,95],[6],[15,17,97,98],[15,17,97,98,99],[15,17,21,97,98],[15,17,97,98,109],[6],[15,17,97,98],[6]]
theorem QAn (p:Prg) (l:List Pck) (b:Bud) (hp:p.Fit) (hl:l.length≤maxLen):Ctr Go.Proofs.Tryz.prog tab 10 [26,64,77] [4] [p.v,.list (l.map Pck.v),b.v] [.bool true]:=by
 have hpp:=hp
 have hcode:True→True:=id
 have hsl:True→True:=id
 have hmx:257≤maxLen:=by decide
 have hsl2:=QCP p l b
 refine Ctr.body ok Go.Proofs.Tryz.func10 rfl rfl 112 rfl [.tmp 6] rfl (by simp [QE]) ?_
 simp only [go_sem,Nat.reduceAdd]
 repeat' first
  | ((with_reducible refine SARQ.told 12 _ ?_);try simp only [hAt])
  | ((with_reducible first|refine Q2 fun R1 hR1=>?_|refine xP fun R1 hR1=>?_);(simp only [go_sem,seval,-List.reduceReplicate,Bool.cond_false_right,Bool.cond_true_left,QF,decide_true,Bool.not_true,Bool.not_false,Stt.beq,List.length_map]);(repeat' with_reducible refine And.intro ?_ ?_);all_goals first|(refine hR1 _ ?_;clear hR1 R1)|(intro hgf;simp only [hgf];refine hR1 _ ?_;clear hR1 R1)|((first|refine ⟨_,_,rfl,_,CallQ.ctr ok (Vc p l b hpp hl) (by first|rfl|(simp [go_sem,List.take_of_length_le,List.length_map,List.map_take,List.drop_zero];done)|fail) rfl,?_⟩|refine cq (cc (Vc p l b hpp hl) (by first|rfl|(simp [go_sem,List.take_of_length_le,List.length_map,List.map_take,List.drop_zero];done)|fail)) ?_|refine ce (cf (Vc p l b hpp hl) ?_ (by first|rfl|(simp [go_sem,List.take_of_length_le,List.length_map,List.map_take,List.drop_zero];done)|fail))|refine ce (cf (QCf p l b hpp hl) ?_ (by first|rfl|(simp [go_sem,List.take_of_length_le,List.length_map,List.map_take,List.drop_zero];done)|fail))|refine ce (cf (UR p l b hpp hl) ?_ (by first|rfl|(simp [go_sem,List.take_of_length_le,List.length_map,List.map_take,List.drop_zero];done)|fail))|refine ce (cf (vU p l b hpp hl) ?_ (by first|rfl|(simp [go_sem,List.take_of_length_le,List.length_map,List.map_take,List.drop_zero];done)|fail))|refine ce (cf (wZ p l b hpp hl) ?_ (by first|rfl|(simp [go_sem,List.take_of_length_le,List.length_map,List.map_take,List.drop_zero];done)|fail))|refine ce (cf (zy p l b hpp hl) ?_ (by first|rfl|(simp [go_sem,List.take_of_length_le,List.length_map,List.map_take,List.drop_zero];done)|fail))|refine ⟨_,_,rfl,_,CallQ.ctr ok (Xa) (by first|rfl|(simp [go_sem,List.take_of_length_le,List.length_map,List.map_take,List.drop_zero];done)|fail) rfl,?_⟩|refine cq (cc (Xa) (by first|rfl|(simp [go_sem,List.take_of_length_le,List.length_map,List.map_take,List.drop_zero];done)|fail)) ?_);all_goals ((try simp only [go_sem,seval,-List.reduceReplicate,Bool.cond_false_right,Bool.cond_true_left,QF,decide_true,Bool.not_true,Bool.not_false,Stt.beq,List.length_map]);(repeat' with_reducible refine And.intro ?_ ?_);all_goals first|(refine hR1 _ ?_;clear hR1 R1)|(intro hgf;simp only [hgf];refine hR1 _ ?_;clear hR1 R1)|exact ZQ))|exact ZQ)
  | ((with_reducible first|refine Q1 ?_|refine xO ?_);refine hR _ ?_;clear hR R;try simp only [go_sem,QK2,Nat.reduceBEq])
  | (with_reducible first|refine J1 ?_|refine J2 ?_|refine J3 ?_|refine J4 ?_|refine J5 ?_|refine J6 ?_|refine J7 ?_|refine J8 (by decide) ?_|refine J9 ?_|refine WL ?_|refine Q0 ?_|refine Qz ?_|refine YZ ?_|refine WK ?_)
  | ((with_reducible refine QZ 12 ?_)
     have hlt:i<(Qe p l b).1.length:=by omega
     have hAt:=Qr Stt.v (Qe p l b).1 (i:=i) (by omega)
     (with_reducible refine Vv ok QN (by kernel_rfl) (by kernel_rfl) QK2 ?_);intro R hR;simp only [go_sem,QC])
  | ((with_reducible refine rg QK2 fun R hR=>?_);simp only [go_sem,QC])
  | ((with_reducible refine Vv ok QN (by kernel_rfl) (by kernel_rfl) QK2 ?_);intro R hR;simp only [go_sem,QC])
  | ((with_reducible refine QH 95 rfl (fun hb95=>?_) fun hb95=>?_);all_goals (try simp [-List.getD_eq_getElem?_getD] at hb95;try (exfalso;omega)))
  | ((with_reducible refine QH 109 rfl (fun hb109=>?_) fun hb109=>?_);all_goals (try simp [-List.getD_eq_getElem?_getD] at hb109;try (exfalso;omega)))
  | ((with_reducible refine SA.cond rfl ?_ ?_)
     all_goals
      intro hb
      try simp [-List.getD_eq_getElem?_getD] at hb
      try (exfalso;omega))
  | ((with_reducible refine YQ ?_)
     refine Zo (Qq (by first|rfl|simp)) (YR (fun n τ=>∃ (i:Nat),n=(Qe p l b).1.length-i∧(i≤(Qe p l b).1.length)∧τ={ tm:=[(15,true,.sl 2 37 0 (Qe p l b).1.length false),(17,true,.sl 3 37 0 (Qe p l b).1.length false),(97,true,.int .i64 (Qe p l b).1.length),(98,true,.int .i64 i)],ob:=[.var 26 (.data 26 p.v),.var 77 (.data 77 b.v),.row 37 ((Qe p l b).1.map Stt.v),.row 37 ((Qe p l b).1.map Stt.v),.row 48 ((Qe p l b).2.1.map Event.v)],out:=[],nt:=112 }) ((Qe p l b).1.length) ⟨0,rfl,by omega,rfl⟩ ?_)
     rintro n τ ⟨i,hn,hi,rfl⟩)
  | ((with_reducible refine WM ?_)
     first
      | (have hlt:i<(Qe p l b).1.length:=by omega
         have hw:=QD hlt (show (Qe p l b).1.length≤maxLen by omega)
         refine Zt ((Qe p l b).1.length-(i+1)) _ (by omega) (Qq (by simp only [hw])) ⟨i+1,rfl,hlt,rfl⟩))
  | ((with_reducible first|refine ZH ?_|refine ZG ?_)
     simp only [go_sem,QJ,QK,QG,seval]
     first
      | (exact ⟨rfl,rfl⟩)
      | (rfl)
      | (refine ⟨rfl,?_⟩
         simp))
end Go.Eng.Tryz
