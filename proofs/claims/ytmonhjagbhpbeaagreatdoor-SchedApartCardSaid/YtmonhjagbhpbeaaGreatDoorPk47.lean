/- A part of the proof: walks through the program's functions, and what they compute. -/
import Derived.Test.YtmonhjagbhpbeaaGreatDoorPk39
import Derived.Test.YtmonhjagbhpbeaaGreatDoorPk44
import Derived.Test.YtmonhjagbhpbeaaGreatDoorPk46
set_option linter.unusedSimpArgs false
set_option linter.unusedVariables false
namespace Go.Eng.Tryz
open Go.RowKit Go.Eng
set_option maxHeartbeats 0
set_option maxRecDepth 20000
def QM9:List (List Nat):=[[0,1],[0,1,10],[4],[0,1,12,13],[0,1,12,13,14],[0,1,5,12,13],[0,1,12,13,24],[4],[0,1,12,13],[4]]
theorem QAz (a b:List Event) (ha:a.length≤maxLen) (hb:b.length≤maxLen):Ctr Go.Proofs.Tryz.prog tab 52 [36,36] [4] [.list (a.map Event.v),.list (b.map Event.v)] [.bool (decide (a=b))]:=by
 have hcode:True→True:=id
 have hsl:True→True:=id
 refine Ctr.body ok Go.Proofs.Tryz.func52 rfl rfl 26 rfl [.tmp 4] rfl (by simp [QF]) ?_
 simp only [go_sem,Nat.reduceAdd]
 repeat' first
  | ((with_reducible refine SARQ.told 6 _ ?_);try simp only [Qg Event.v a hlt,Qg Event.v b hlt'])
  | ((with_reducible first|refine Q5 fun R1 hR1=>?_|refine yb fun R1 hR1=>?_);(simp only [go_sem,seval,-List.reduceReplicate,Event.beq]);(repeat' with_reducible refine And.intro ?_ ?_);all_goals first|(refine hR1 _ ?_;clear hR1 R1)|exact VL)
  | ((with_reducible first|refine Q4 ?_|refine ya ?_);refine hR _ ?_;clear hR R;try simp only [go_sem,QM9,Nat.reduceBEq])
  | (with_reducible first|refine J1 ?_|refine J2 ?_|refine J3 ?_|refine J4 ?_|refine J5 ?_|refine J6 ?_|refine J7 ?_|refine J8 (by decide) ?_|refine J9 ?_|refine Xu ?_|refine Q2 ?_|refine Q1 ?_|refine Yc ?_|refine Xt ?_)
  | ((with_reducible refine Qe 6 ?_)
     have hlt:i<a.length:=by omega
     have hlt':i<b.length:=by omega
     (with_reducible refine Ve ok QQ (by kernel_rfl) (by kernel_rfl) QM9 ?_);intro R hR;simp only [go_sem,QC])
  | ((with_reducible refine rg QM9 fun R hR=>?_);simp only [go_sem,QC])
  | ((with_reducible refine Ve ok QQ (by kernel_rfl) (by kernel_rfl) QM9 ?_);intro R hR;simp only [go_sem,QC])
  | ((with_reducible refine QI 10 rfl (fun hb10=>?_) fun hb10=>?_);all_goals (try simp [-List.getD_eq_getElem?_getD] at hb10))
  | ((with_reducible refine QI 24 rfl (fun hb24=>?_) fun hb24=>?_);all_goals (try simp [-List.getD_eq_getElem?_getD] at hb24))
  | ((with_reducible refine SA.cond rfl ?_ ?_)
     all_goals
      intro hb
      try simp [-List.getD_eq_getElem?_getD] at hb)
  | ((with_reducible refine Ya ?_)
     refine Zv (Qo (by first|rfl|(simp;done)|fail)) (Yb (fun n τ=>∃ (i:Nat),n=a.length-i∧(i≤a.length∧a.length=b.length∧a.take i=b.take i)∧τ={ tm:=[(0,true,.fs 63 (a.map Event.v) false),(1,true,.fs 63 (b.map Event.v) false),(12,true,.int .i64 a.length),(13,true,.int .i64 i)],ob:=[],out:=[],nt:=26 }) (a.length) ⟨0,rfl,⟨Nat.zero_le _,by omega,rfl⟩,rfl⟩ ?_)
     rintro n τ ⟨i,hn,⟨hi,hl,hc⟩,rfl⟩)
  | ((with_reducible refine WC ?_)
     first
      | (have hlt:i<a.length:=by omega
         refine Z0 (a.length-(i+1)) _ (by omega) (Qo (by simp only [QD hlt ha])) ⟨i+1,rfl,⟨hlt,hl,?_⟩,rfl⟩
         have hlt':i<b.length:=by omega
         rw [List.take_succ_eq_append_getElem hlt,List.take_succ_eq_append_getElem hlt',hc]
         have:a[i]=b[i]:=by simpa [hlt,hlt'] using hb24
         rw [this]))
  | ((with_reducible first|refine ZQ ?_|refine ZP ?_)
     simp only [go_sem,QL,QM,QH,seval]
     first
      | (have q:¬(_=_):=hb10
         refine ⟨rfl,?_⟩
         rw [decide_eq_false (fun h:a=b=>hb10 (by rw [h]))])
      | (have q:¬(_=_):=hb24
         refine ⟨rfl,?_⟩
         rw [decide_eq_false (fun h:a=b=>hb24 (by rw [h]))])
      | (refine ⟨rfl,?_⟩
         have:i=a.length:=by omega
         subst this
         rw [List.take_length,hl,List.take_length] at hc
         simp [hc]))
def QTk:List (List Nat):=[[2,3],[4]]
theorem yh (t:Trc) (ht:t.events.length≤maxLen):Ctr Go.Proofs.Tryz.prog tab 21 [49,49] [4] [t.v,t.v] [.bool true]:=by
 have hcode:True→True:=id
 have hsl:True→True:=id
 refine Ctr.body ok Go.Proofs.Tryz.func21 rfl rfl 24 rfl [.tmp 4] rfl (by simp [QF]) ?_
 simp only [go_sem,Nat.reduceAdd]
 repeat' first
  | ((with_reducible refine Q5 fun R1 hR1=>?_);(simp only [go_sem,seval,-List.reduceReplicate,Bool.cond_false_right,Bool.cond_true_left,decide_true,Bool.not_true,Bool.not_false,Stt.beq]);(repeat' with_reducible refine And.intro ?_ ?_);all_goals first|(refine hR1 _ ?_;clear hR1 R1)|(intro hgf;simp only [hgf];refine hR1 _ ?_;clear hR1 R1)|((first|refine cq (cc (QAz t.events t.events ht ht) (by first|rfl|(simp [go_sem,List.take_of_length_le,List.length_map];done)|fail)) ?_);all_goals ((try simp only [go_sem,seval,-List.reduceReplicate,Bool.cond_false_right,Bool.cond_true_left,decide_true,Bool.not_true,Bool.not_false,Stt.beq]);(repeat' with_reducible refine And.intro ?_ ?_);all_goals first|(refine hR1 _ ?_;clear hR1 R1)|(intro hgf;simp only [hgf];refine hR1 _ ?_;clear hR1 R1)|exact Zp))|exact Zp)
  | ((with_reducible refine Q4 ?_);refine hR _ ?_;clear hR R;try simp only [go_sem,QTk,Nat.reduceBEq])
  | (with_reducible first|refine J1 ?_|refine J2 ?_|refine Q2 ?_|refine Q1 ?_)
  | ((with_reducible refine rg QTk fun R hR=>?_);simp only [go_sem,QC])
  | ((with_reducible first|refine ZQ ?_|refine ZP ?_)
     simp only [go_sem,QL,QM,QH,seval]
     first
      | (exact ⟨rfl,rfl⟩)
      | (rfl)
      | (refine ⟨rfl,?_⟩
         simp))
theorem QDr {p:Prg} {l:List Pck} {b:Bud} (h:¬(XX p l b).2.2.1=0):(ZA p l b).1=[]:=by
 by_cases h1:ZR p l.length b=0
 · by_cases h2:b.steps<(l.length:Int)
   · unfold ZA
     rw [if_neg (fun q=>q h1),if_pos h2]
   · by_cases h3:ZY QB p b.fuel (start QB p b.fuel).1 l<l.length
     · unfold ZA
       rw [if_neg (fun q=>q h1),if_neg h2]
       simp only [h3,if_true]
     · rw [zQ h1 h2 h3] at h
       exact absurd rfl h
 · unfold ZA
   rw [if_pos h1]
def zJ (p:Prg) (l:List Pck) (b:Bud) (F:Stt) (k:Nat):List Stt:=F::(List.range k).map fun j=>QP QB p b.fuel (start QB p b.fuel).1 l (j+1)
theorem QIn (p:Prg) (l:List Pck) (b:Bud) (F:Stt) (k:Nat):(zJ p l b F k).length=k+1:=by simp [zJ]
theorem QAc (p:Prg) (l:List Pck) (b:Bud) (F:Stt) (k:Nat):zJ p l b F (k+1)=zJ p l b F k++[QP QB p b.fuel (start QB p b.fuel).1 l (k+1)]:=by
 simp [zJ,List.range_succ]
theorem QKN (p:Prg) (l:List Pck) (b:Bud) (k:Nat):zJ p l b (start QB p b.fuel).1 k=Q0 QB p b.fuel (start QB p b.fuel).1 l k:=by
 induction k with
 | zero=>simp [zJ,ye]
 | succ k ih=>rw [QAc,ih,yf]
def QTe:List (List Nat):=[[2,3],[]]
theorem vg (P B F s ev:V) (sts:List V) (n:Nat) (hn:n≤1000) (hen:sts.length=n) {L:List Obj} {tm:Tm} {out:List Tm} {nt:Nat} {K:St→E→Prop} (ht:Tm.under (L.length+5) tm=true) (ho:QT (L.length+5) out=true) (hL:QV (L.length+5) L=true) (hk1:Tm.kill 3 tm=tm) (hk2:out.map (Tm.kill 3)=out) (hx:L.map (Obj.kill 3)=L)
 (h:K { tm:=tm,ob:=.var 26 (.data 26 P)::.var 28 (.data 28 B)::.var 47 (.data 47 F)::.row 47 (sts++[s])::.var 52 (.sl 3 47 0 (n+1) false)::L,out:=out,nt:=nt } (.tup [])):CallE Go.Proofs.Tryz.prog tab { tm:=tm,ob:=.var 26 (.data 26 P)::.var 28 (.data 28 B)::.var 47 (.data 47 F)::.row 47 sts::.var 52 (.sl 3 47 0 n false)::L,out:=out,nt:=nt } 46 [.data 47 s,.data 63 ev,.ptr 4 [] 52] K:=by
 refine CallE.cut (L.length+5) ?_
 have hcode:True→True:=id
 have hsl:True→True:=id
 have hmx:1001≤maxLen:=by decide
 have hk1':(tm.map fun x=>(x.1,x.2.1,E.kill 3 x.2.2))=tm:=hk1
 have hb3:Nat.blt 3 (L.length+5)=true:=by rw [Nat.blt_eq];omega
 have hb4:Nat.blt 4 (L.length+5)=true:=by rw [Nat.blt_eq];omega
 refine CallE.body ok Go.Proofs.Tryz.func46 rfl rfl 9 rfl [] rfl (by simp) ?_
 simp only [enter,Zf,Nat.zero_add,Nat.reduceAdd]
 repeat' first
  | ((with_reducible refine Q5 fun R1 hR1=>?_);(simp only [go_sem,seval,-List.reduceReplicate,hk1',hk2,hx,List.getElem?_cons_succ,List.set_cons_succ,List.set_cons_zero,U4,wl (X:=L) (N:=L.length) rfl,qp (X:=L) (N:=L.length) rfl,List.length_append,List.append_assoc,List.map_append,Bool.cond_false_right,Bool.cond_true_left,QE]);(repeat' with_reducible refine And.intro ?_ ?_);all_goals first|(refine hR1 _ ?_;clear hR1 R1)|omega|rfl|decide|assumption|(intro _;omega)|(simp;done)|(simp [-List.getD_eq_getElem?_getD];omega)|exact hcode _|(intro _;exact hcode _)|exact hsl _|(intro _;exact hsl _)|(simp [-List.getD_eq_getElem?_getD,Q3,maxLen,Ug];omega)|(simp [-List.getD_eq_getElem?_getD,Q3,maxLen,Ug];done))
  | ((with_reducible refine Q4 ?_);refine hR _ ?_;clear hR R;try simp only [go_sem,QTe,Nat.reduceBEq])
  | (with_reducible first|refine J1 ?_|refine J2 ?_|refine Q2 ?_|refine Q1 ?_)
  | ((with_reducible refine rg QTe fun R hR=>?_);simp only [go_sem,QC])
  | ((with_reducible first|refine xQ ?_|refine xP ?_)
     simp only [go_sem,QL,QM,QH,seval]
     refine ⟨⟨by simp [St.under,Tm.under,E.under,E.underL,QT,QV,ht,ho,hL,hb3,hb4,List.take_succ_cons,List.take_left,List.length_append,Nat.add_assoc],rfl⟩,?_⟩
     simpa [List.take_of_length_le,hen,List.take_left] using h)
def QTl:List (List Nat):=[[1,3,5],[1,3,5,8],[1,3,5,10],[10,12],[10,12,35],[6,7],[6,7]]
theorem QGR (p:Prg) (l:List Pck) (b:Bud) (F:Stt):Grow p l b (fun k=>.var 26 (.data 26 p.v)::.var 28 (.data 28 b.v)::.var 47 (.data 47 F.v)::.row 47 ((zJ p l b F k).map Stt.v)::.var 52 (.sl 3 47 0 (k+1) false)::[]) 5 3 46 [.ptr 4 [] 52]:=by
 refine ⟨fun k=>rfl,fun k=>rfl,rfl,rfl,.inl (by decide),?_⟩
 intro k tm out nt L K hk hk2 h1 h2 h3 h4 h5 h6 h7
 rw [Nat.add_comm] at h1 h2 h3
 have e:=QAc p l b F k
 refine vg p.v b.v F.v _ _ ((zJ p l b F k).map Stt.v) (k+1) (by omega) (by rw [List.length_map,QIn]) h1 h2 h3 h4 h5 h6 ?_
 rw [show (zJ p l b F k).map Stt.v++[Stt.v (QP QB p b.fuel (start QB p b.fuel).1 l (k+1))]=(zJ p l b F (k+1)).map Stt.v from by rw [e];simp]
 exact h7
theorem vh (p:Prg) (l:List Pck) (b:Bud) (hp:p.Fit) (hl:l.length≤maxLen):Ctr Go.Proofs.Tryz.prog tab 17 [26,29,28] [52,30] [p.v,.list (l.map Pck.v),b.v] [.list ((ZA p l b).1.map Stt.v),.int (ZA p l b).2.2.1]:=by
 have hpp:=hp
 have hcode:True→True:=id
 have hsl:True→True:=id
 have hmx:257≤maxLen:=by decide
 have hst:=(QD3 p l b).1
 refine Ctr.body ok Go.Proofs.Tryz.func17 rfl rfl 38 rfl [.tmp 6,.tmp 7] rfl (by simp [QF]) ?_
 simp only [go_sem,Nat.reduceAdd]
 repeat' first
  | ((with_reducible refine Q5 fun R1 hR1=>?_);(simp only [go_sem,seval,-List.reduceReplicate,Bool.cond_false_right,Bool.cond_true_left,QE]);(repeat' with_reducible refine And.intro ?_ ?_);all_goals first|(refine hR1 _ ?_;clear hR1 R1)|((first|refine ce (cf (qN p (max (min b.fuel 4096) 0) hpp) ?_ (by first|rfl|(simp [go_sem,List.take_of_length_le,List.length_map];done)|fail))|refine ⟨_,_,rfl,.inr (Ub p l b hpp hl (QGR p l b (start QB p (max (min b.fuel 4096) 0)).1) (by decide) ?_ ?_ ?_ ?_ ?_)⟩);all_goals ((try simp only [go_sem,seval,-List.reduceReplicate,Bool.cond_false_right,Bool.cond_true_left,QE]);(repeat' with_reducible refine And.intro ?_ ?_);all_goals first|(refine hR1 _ ?_;clear hR1 R1)|exact Zp))|exact Zp)
  | ((with_reducible refine Q4 ?_);refine hR _ ?_;clear hR R;try simp only [go_sem,QTl,Nat.reduceBEq])
  | (with_reducible first|refine J1 ?_|refine J2 ?_|refine J3 ?_|refine Q2 ?_|refine Q1 ?_)
  | ((with_reducible refine rg QTl fun R hR=>?_);simp only [go_sem,QC])
  | ((with_reducible refine QI 35 rfl (fun hb35=>?_) fun hb35=>?_);all_goals (try simp [-List.getD_eq_getElem?_getD] at hb35;try (exfalso;omega)))
  | ((with_reducible first|refine ZQ ?_|refine ZP ?_)
     simp only [go_sem,QL,QM,QH,seval]
     first
      | (have q:=hb35
         rw [QDr hb35,hst]
         exact ⟨⟨rfl,rfl⟩,rfl,rfl⟩)
      | (have q:=hb35
         obtain ⟨hOk,hS,_⟩:=YZ hb35
         have hfu:max (min b.fuel 4096) 0=b.fuel:=by have:=hOk.fuel;omega
         rw [hOk.eq,hS,hfu,QKN]
         refine ⟨⟨rfl,?_,?_⟩,rfl,rfl⟩
         · rw [List.take_of_length_le (by rw [List.length_map,WX];exact Nat.le_refl _)]
         · intro e'' he j u lo n c h
           rw [List.mem_singleton.1 he] at h
           cases h))
def QQ9:List (List Nat):=[[0,1,2,5],[0,1,2,5,11],[5,6],[1,5,7],[1,5,7,21],[1,5,7],[5,6]]
theorem QEf (l:List Int) (rd:List Pck) (n:Nat) (hl:l.length≤maxLen) (hr0:0<rd.length) (hr1:rd.length≤1000) {c:Bool} {tm:Tm} {ob:List Obj} {out:List Tm} {nt:Nat} {K:St→E→Prop} (h:∀ ys,K { tm:=tm,ob:=ob++ys,out:=out,nt:=nt } (.tup [.data 56 (Pck.v (if n<l.length then rd.getD (vo (l.getD n 0) rd.length).toNat default else ⟨0,0⟩:Pck)),.bool (decide (n<l.length))])) :
 CallE Go.Proofs.Tryz.prog tab { tm:=tm,ob:=ob,out:=out,nt:=nt } 40 [.int .i64 n,.fs 56 (rd.map Pck.v) c,.fptr 23 (.list (l.map V.int))] K:=by
 have hcode:True→True:=id
 have hsl:True→True:=id
 have hmx:1000≤maxLen:=by decide
 have hb1:=Int.tmod_lt_of_pos (l.getD n 0) (b:=(rd.length:Int)) (by omega)
 have hb2:=Int.lt_tmod_of_pos (l.getD n 0) (b:=(rd.length:Int)) (by omega)
 have hx:=QFd (c:=l.getD n 0) hr0
 have hwp:(l.getD n 0).tmod rd.length<0→IntKind.i64.wrap ((l.getD n 0).tmod rd.length+rd.length)=vo (l.getD n 0) rd.length:=fun h=>by
  rw [Qm (by omega) (by omega)]
  unfold vo
  rw [if_pos h]
 have hwn:¬(l.getD n 0).tmod rd.length<0→(l.getD n 0).tmod rd.length=vo (l.getD n 0) rd.length:=fun h=>by
  unfold vo
  rw [if_neg h]
 have hAt:=Qg Pck.v rd (i:=(vo (l.getD n 0) rd.length).toNat) (by omega)
 refine CallE.body ok Go.Proofs.Tryz.func40 rfl rfl 30 rfl [.cell 5 56,.tmp 6] rfl (by simp) ?_
 simp only [enter,Zf,Nat.zero_add,Nat.reduceAdd]
 repeat' first
  | ((with_reducible refine SARA.told 6 _ ?_);try simp only [hAt])
  | ((with_reducible refine Q5 fun R1 hR1=>?_);(simp only [go_sem,seval,-List.reduceReplicate,Bool.cond_false_right,Bool.cond_true_left,QE,List.append_assoc,List.length_append,wl (X:=ob) (N:=ob.length) rfl,qp (X:=ob) (N:=ob.length) rfl,QAt (X:=ob) (N:=ob.length) rfl,yg (X:=ob) (N:=ob.length) rfl]);(repeat' with_reducible refine And.intro ?_ ?_);all_goals first|(refine hR1 _ ?_;clear hR1 R1)|exact Zp)
  | ((with_reducible refine Q4 ?_);refine hR _ ?_;clear hR R;try simp only [go_sem,QQ9,Nat.reduceBEq])
  | (with_reducible first|refine J1 ?_|refine J2 ?_|refine J3 ?_|refine Q2 ?_|refine Q1 ?_)
  | ((with_reducible refine Qe 6 ?_)
     first|rw [hwp (by omega)]|rw [hwn (by omega)]
     (with_reducible refine rg QQ9 fun R hR=>?_);simp only [go_sem,QC])
  | ((with_reducible refine rg QQ9 fun R hR=>?_);simp only [go_sem,QC])
  | ((with_reducible refine QI 11 rfl (fun hb11=>?_) fun hb11=>?_);all_goals (try simp [-List.getD_eq_getElem?_getD] at hb11;try (exfalso;omega)))
  | ((with_reducible refine QI 21 rfl (fun hb21=>?_) fun hb21=>?_);all_goals (try simp [-List.getD_eq_getElem?_getD] at hb21;try (exfalso;omega)))
  | ((with_reducible first|refine xQ ?_|refine xP ?_)
     simp only [go_sem,QL,QM,QH,seval]
     first
      | (have q:=hb11
         have e:=h [.var 56 (.data 56 (Pck.v ⟨0,0⟩))]
         rw [decide_eq_false (show ¬n<l.length by omega),if_neg (show ¬n<l.length by omega)] at e
         exact e)
      | (have q:=hb11
         have e:=h [.var 56 (.data 56 (Pck.v (rd.getD (vo (l.getD n 0) rd.length).toNat default)))]
         rw [decide_eq_true (show n<l.length by omega),if_pos (show n<l.length by omega)] at e
         exact e))
def QLC:List (List Nat):=[[2,3,4],[2,3,4,7],[2,3,4,7,9],[2,3,4,7,9,25],[2,3,4,7,9,10],[2,3,4,7,9,10,34],[2,3,4,7,9,12,13],[2,3,4,7,9,12,44],[2,3,4,7,9,12],[2,3,4,7,9],[6]]
theorem QFz (p:Prg) (l:List Int) (b:Bud) (hp:p.Fit) (hr:QN p=true) (hf:0≤b.fuel∧b.fuel≤4096) (hst:0≤b.steps∧b.steps≤256) (hl:l.length≤maxLen):Ctr Go.Proofs.Tryz.prog tab 39 [26,28,100] [29] [p.v,b.v,.clo 40 [23] [.list (l.map V.int)]] [.list ((Z9 p b.fuel l (XP p l b)).2.map Pck.v)]:=by
 have hpp:=hp
 have hok:=Prg.ok hr
 have hcode:True→True:=id
 have hsl:True→True:=id
 have hmx:400≤maxLen:=by decide
 have hmost:WK l b=min l.length b.steps.toNat:=rfl
 refine Ctr.body ok Go.Proofs.Tryz.func39 rfl rfl 60 rfl [.tmp 6] rfl (by simp [QF]) ?_
 simp only [go_sem,Nat.reduceAdd]
 repeat' first
  | ((with_reducible refine Q5 fun R1 hR1=>?_);(simp only [go_sem,seval,-List.reduceReplicate,Bool.cond_false_right,Bool.cond_true_left,QE,List.take_succ_cons,List.take_zero]);(repeat' with_reducible refine And.intro ?_ ?_);all_goals first|(refine hR1 _ ?_;clear hR1 R1)|((first|refine ce (wO (qN p b.fuel hpp) ?_)|refine ce (wO (hrd) ?_)|refine ce (wO (hdo) ?_)|refine ⟨_,_,rfl,.inr (CallE.cut 5 (QEf l (ready p (Z9 p b.fuel l k).1) k hl (by omega) (by omega) fun ys=>⟨⟨rfl,rfl⟩,?_⟩))⟩);all_goals ((try simp only [go_sem,seval,-List.reduceReplicate,Bool.cond_false_right,Bool.cond_true_left,QE,List.take_succ_cons,List.take_zero]);(repeat' with_reducible refine And.intro ?_ ?_);all_goals first|(refine hR1 _ ?_;clear hR1 R1)|exact VL))|exact VL)
  | ((with_reducible refine Q4 ?_);refine hR _ ?_;clear hR R;try simp only [go_sem,QLC,Nat.reduceBEq])
  | (with_reducible first|refine J1 ?_|refine J2 ?_|refine J3 ?_|refine J4 ?_|refine J5 ?_|refine J6 ?_|refine J7 ?_|refine J8 (by decide) ?_|refine J9 ?_|refine Xu ?_|refine Q2 ?_|refine Q1 ?_|refine Yc ?_|refine Xt ?_)
  | ((with_reducible refine Qe 4 ?_)
     have hvk:Vld p (Z9 p b.fuel l k).1:=QL5 hr hf hz
     have hrd:=y9 p (Z9 p b.fuel l k).1 hpp hvk.shape
     rw [yZ hr hvk,if_pos rfl] at hrd
     have hw:=hvk.wf hok hr
     have hrl:=Yj hok hw (Z9 p b.fuel l k).1.count.toNat
     have hct:=hvk.count
     have hrl2:(ready p (Z9 p b.fuel l k).1).length≤384:=by unfold ready;omega
     have hrl3:(ready p (Z9 p b.fuel l k).1).length≤maxLen:=by omega
     (with_reducible refine rg QLC fun R hR=>?_);simp only [go_sem,QC])
  | ((with_reducible refine Qe 6 ?_)
     have hr0:0<(ready p (Z9 p b.fuel l k).1).length:=by have q:=hb34;exact List.length_pos_iff.2 q
     refine Zv (J49 ok.sized 4 rfl) ?_
     simp only [St.frz,Tm.frz,E.frz,E.frzL,Obj.frz,List.map_cons,List.map_nil,List.set_cons_zero,List.set_cons_succ,Nat.reduceBEq,Nat.beq_refl,if_true,if_false,Nat.beq_eq_true_eq,reduceCtorEq,Bool.false_eq_true,V.get,Nat.reduceEqDiff]
     simp only [List.drop_zero,List.take_of_length_le,List.length_map,Nat.le_refl]
     (with_reducible refine rg QLC fun R hR=>?_);simp only [go_sem,QC])
  | ((with_reducible refine Qe 8 ?_)
     have hkl:k<l.length:=hb44
     rw [if_pos hkl]
     have hdo:=QEF p (Z9 p b.fuel l k).1 ((ready p (Z9 p b.fuel l k).1).getD (vo (l.getD k 0) (ready p (Z9 p b.fuel l k).1).length).toNat default) b.fuel hpp hvk.shape
     rw [QLu hr hvk] at hdo
     (with_reducible refine rg QLC fun R hR=>?_);simp only [go_sem,QC])
  | ((with_reducible refine rg QLC fun R hR=>?_);simp only [go_sem,QC])
  | ((with_reducible refine QI 25 rfl (fun hb25=>?_) fun hb25=>?_);all_goals (try simp [-List.getD_eq_getElem?_getD] at hb25;try (exfalso;omega)))
  | ((with_reducible refine QI 34 rfl (fun hb34=>?_) fun hb34=>?_);all_goals (try simp [-List.getD_eq_getElem?_getD] at hb34;try (exfalso;omega)))
  | ((with_reducible refine QI 44 rfl (fun hb44=>?_) fun hb44=>?_);all_goals (try simp [-List.getD_eq_getElem?_getD] at hb44;try (exfalso;omega)))
  | ((with_reducible refine Ya ?_)
     refine Zv ((St.le.own (t:=9) 56 rfl).trans ((St.le.keep [2,3,4,7,9]).trans (Qo (by first|rfl|(simp;done)|fail)))) (Yb (fun n τ=>∃ (k:Nat),n=b.steps.toNat+1-k∧(k≤WK l b∧∀ j:Nat,j<k→0<(ready p (Z9 p b.fuel l j).1).length)∧τ={ tm:=[(2,true,.fn 40 [.fptr 23 (.list (l.map V.int))]),(3,true,.ptr 0 [] 26),(4,true,.ptr 1 [] 28),(7,true,.ptr 2 [] 47),(9,true,.sl 3 56 0 k false)],ob:=[.var 26 (.data 26 p.v),.var 28 (.data 28 b.v),.var 47 (.data 47 (Stt.v (Z9 p b.fuel l k).1)),.row 56 ((Z9 p b.fuel l k).2.map Pck.v)],out:=[],nt:=60 }) (b.steps.toNat+1) ⟨0,rfl,⟨Nat.zero_le _,fun j h=>by omega⟩,rfl⟩ ?_)
     rintro n τ ⟨k,hn,⟨hk,hz⟩,rfl⟩
     have hkl2:=We (p:=p) (fuel:=b.fuel) (l:=l) k)
  | ((with_reducible refine WC ?_)
     first
      | (have hlt:k<WK l b:=by omega
         refine Z0 (b.steps.toNat+1-(k+1)) _ (by omega) ((WS 4 rfl).trans (Qo (by simp [-List.getD_eq_getElem?_getD,Z9,wa,List.take_of_length_le,hkl2]))) ⟨k+1,rfl,⟨hlt,fun j h=>?_⟩,rfl⟩
         by_cases h2:j<k
         · exact hz j h2
         · have h3:j=k:=by omega
           rw [h3];exact hr0))
  | ((with_reducible first|refine ZQ ?_|refine ZP ?_)
     simp only [go_sem,QL,QM,QH,seval]
     first
      | (have hkm:k=WK l b:=by omega
         rw [xJ hkm hz]
         refine ⟨rfl,?_,?_⟩
         · simp [List.take_of_length_le,hkl2]
         · intro e he
           first|(cases he;done)|(intro j u lo n c h;simp at he;subst he;cases h))
      | (have q:=hb34
         have h0:(ready p (Z9 p b.fuel l k).1).length=0:=by rw [hb34];rfl
         have e:XP p l b=k:=by
          by_cases hc:k<WK l b
          · exact QJo hc h0 hz
          · exact xJ (by omega) hz
         rw [e]
         refine ⟨rfl,?_,?_⟩
         · simp [List.take_of_length_le,hkl2]
         · intro e he
           first|(cases he;done)|(intro j u lo n c h;simp at he;subst he;cases h))
      | (have q:=hb44
         have e:XP p l b=k:=xJ (by omega) hz
         rw [e]
         refine ⟨rfl,?_,?_⟩
         · simp [List.take_of_length_le,hkl2]
         · intro e he
           first|(cases he;done)|(intro j u lo n c h;simp at he;subst he;cases h)))
def QRE:List (List Nat):=[[3,4,5],[3,4,5,8],[3,4,5,8,15],[6,7],[6,7]]
theorem qm (p:Prg) (l:List Int) (b:Bud) (hp:p.Fit) (hl:l.length≤maxLen):Ctr Go.Proofs.Tryz.prog tab 12 [26,23,28] [29,30] [p.v,.list (l.map V.int),b.v] [.list ((QJ p l b).map Pck.v),.int (ZR p l.length b)]:=by
 have hpp:=hp
 have hcode:True→True:=id
 have hsl:True→True:=id
 refine Ctr.body ok Go.Proofs.Tryz.func12 rfl rfl 21 rfl [.tmp 6,.tmp 7] rfl (by simp [QF]) ?_
 simp only [go_sem,Nat.reduceAdd]
 repeat' first
  | ((with_reducible refine Q5 fun R1 hR1=>?_);(simp only [go_sem,seval,-List.reduceReplicate,Bool.cond_false_right,Bool.cond_true_left,QE]);(repeat' with_reducible refine And.intro ?_ ?_);all_goals first|(refine hR1 _ ?_;clear hR1 R1)|((first|refine cq (VK (qJ p _ b hpp)) ?_|refine ce (wO (QFz p l b hpp hz.2.2.1 hz.2.1 hz.1 hl) ?_));all_goals ((try simp only [go_sem,seval,-List.reduceReplicate,Bool.cond_false_right,Bool.cond_true_left,QE]);(repeat' with_reducible refine And.intro ?_ ?_);all_goals first|(refine hR1 _ ?_;clear hR1 R1)|exact Zp))|exact Zp)
  | ((with_reducible refine Q4 ?_);refine hR _ ?_;clear hR R;try simp only [go_sem,QRE,Nat.reduceBEq])
  | (with_reducible first|refine J1 ?_|refine J2 ?_|refine J3 ?_|refine Q2 ?_|refine Q1 ?_)
  | ((with_reducible refine Qe 4 ?_)
     have hz:=yO hb15
     refine Zv (St.le.frzVal ok.sized 1 rfl rfl) ?_
     simp only [St.frz,Tm.frz,E.frz,E.frzL,Obj.frz,List.map_cons,List.map_nil,List.set_cons_zero,List.set_cons_succ,Nat.reduceBEq,Nat.beq_refl,if_true,if_false,Nat.beq_eq_true_eq,reduceCtorEq,Bool.false_eq_true,V.get,Nat.reduceEqDiff]
     (with_reducible refine rg QRE fun R hR=>?_);simp only [go_sem,QC])
  | ((with_reducible refine rg QRE fun R hR=>?_);simp only [go_sem,QC])
  | ((with_reducible refine QI 15 rfl (fun hb15=>?_) fun hb15=>?_);all_goals (try simp [-List.getD_eq_getElem?_getD] at hb15;try (exfalso;omega)))
  | ((with_reducible first|refine ZQ ?_|refine ZP ?_)
     simp only [go_sem,QL,QM,QH,seval]
     first
      | (have q:=hb15
         refine ⟨⟨rfl,?_⟩,rfl⟩
         unfold QJ
         rw [if_neg hb15]
         rfl)
      | (have q:=hb15
         have e:QJ p l b=(Z9 p b.fuel l (XP p l b)).2:=if_pos hb15
         rw [e,hb15]
         refine ⟨⟨rfl,?_,?_⟩,rfl,rfl⟩
         · simp [List.take_of_length_le]
         · intro e he
           first|(cases he;done)|(intro j u lo n c h;simp at he;subst he;cases h)))
def QHn:List (List Nat):=[[1,3,5,6],[1,3,5,6,9],[1,3,5,6,9,10,11,12],[1,3,5,6,9,10,11,12,23],[6,7,8],[1,3,5,6,9,10],[6,9],[6,7,8]]
theorem QCA (p:Prg) (l:List Pck) (b:Bud) (hp:p.Fit) (hl:l.length≤maxLen) (hk:(XX p l b).2.2.1=0):CtrA Go.Proofs.Tryz.prog tab 16 [26,29,28] 49 [36,47,4] [30,3] [p.v,.list (l.map Pck.v),b.v] [.list ((Qh p l b).map Event.v),(Qs p l b).v,.bool (decide ((l.length:Int)=b.steps)&&decide (0<(ready p (Qs p l b)).length))] [.int 0,.int 0]:=by
 have hpp:=hp
 have hcode:True→True:=id
 have hsl:True→True:=id
 have hmx:256<maxLen:=by decide
 obtain ⟨hOk,hS,hO⟩:=YZ hk
 refine CtrA.body ok Go.Proofs.Tryz.func16 rfl rfl 41 rfl [.cell 6 49,.tmp 7,.tmp 8] rfl (by simp [QF]) ?_
 simp only [go_sem,Nat.reduceAdd]
 repeat' first
  | ((with_reducible refine Q5 fun R1 hR1=>?_);(simp only [go_sem,seval,-List.reduceReplicate,Bool.cond_false_right,Bool.cond_true_left,QE]);(repeat' with_reducible refine And.intro ?_ ?_);all_goals first|(refine hR1 _ ?_;clear hR1 R1)|(intro hgf;simp only [hgf];refine hR1 _ ?_;clear hR1 R1)|((first|refine ⟨_,_,rfl,.inr (Ub p l b hpp hl (QHZ p l b) (by decide) ?_ ?_ ?_ ?_ ?_)⟩|refine cq (cc (Xn p (Qs p l b) hpp hOk.right hOk.vld) (by first|rfl|(simp [go_sem,List.take_of_length_le,List.length_map];done)|fail)) ?_|refine Y4 (fun hg=>cc (Xn p (Qs p l b) hpp hOk.right hOk.vld) (by first|rfl|(simp [go_sem,List.take_of_length_le,List.length_map];done)|fail)) ?_);all_goals ((try simp only [go_sem,seval,-List.reduceReplicate,Bool.cond_false_right,Bool.cond_true_left,QE]);(repeat' with_reducible refine And.intro ?_ ?_);all_goals first|(refine hR1 _ ?_;clear hR1 R1)|(intro hgf;simp only [hgf];refine hR1 _ ?_;clear hR1 R1)|exact Zp))|exact Zp)
  | ((with_reducible refine Q4 ?_);refine hR _ ?_;clear hR R;try simp only [go_sem,QHn,Nat.reduceBEq])
  | (with_reducible first|refine J1 ?_|refine J2 ?_|refine J3 ?_|refine Q2 ?_|refine Q1 ?_)
  | ((with_reducible refine Qe 2 ?_)
     refine Zv (St.le.ownPart 3 0 (e:=63) rfl rfl) ?_
     simp only [List.set_cons_succ,List.set_cons_zero,List.cons_append,List.nil_append,List.length_cons,List.length_nil,Nat.reduceAdd]
     (with_reducible refine rg QHn fun R hR=>?_);simp only [go_sem,QC])
  | ((with_reducible refine Qe 3 ?_)
     rw [hS]
     (with_reducible refine rg QHn fun R hR=>?_);simp only [go_sem,QC])
  | ((with_reducible refine rg QHn fun R hR=>?_);simp only [go_sem,QC])
  | ((with_reducible refine QI 23 rfl (fun hb23=>?_) fun hb23=>?_);all_goals (try simp [-List.getD_eq_getElem?_getD] at hb23;try (exfalso;omega)))
  | ((with_reducible first|refine ctrAK.normal ?_|refine ctrAK.ret ?_)
     simp only [go_sem,QL,QM,QH,seval]
     refine ⟨_,_,rfl,rfl,?_⟩
     refine ⟨⟨rfl,rfl,rfl,rfl,?_,?_⟩,⟨rfl,rfl⟩,⟨rfl,rfl⟩,⟨rfl,rfl⟩,⟨rfl,rfl⟩,trivial⟩
     · show V.list _=V.list (List.take l.length _)
       rw [List.take_of_length_le (by rw [List.length_map,Yk];exact Nat.le_refl _)]
       try rfl
     · intro e he j u lo n c h
       simp at he
       rcases he with rfl|rfl|rfl|rfl<;>cases h)
theorem QBS {α:Type} (x:α) (l:List α) {i:Nat} (h:i<l.length):(List.replicate i x++l.drop i).set i x=List.replicate (i+1) x++l.drop (i+1):=by
 rw [List.set_append_right _ _ (by simp),List.length_replicate,Nat.sub_self,List.drop_eq_getElem_cons h,List.set_cons_zero,List.replicate_succ',List.append_assoc]
 rfl
def lv4:List (List Nat):=[[1,3,5],[1,3,5,7,8],[1,3,5,7,33],[6],[1,3,5,7,9],[1,3,5,7,9,12],[1,3,5,7,9,12,15],[1,3,5,7,9,12,15,60,61],[1,3,5,7,9,12,15,60,61,62],[1,3,5,7,9,12,15,17,60,61],[1,3,5,7,9,12,15,60,61],[1,3,5,7,9,12,15,60,61],[1,3,5,7,12,15,71,72],[1,3,5,7,12,15,71,72,73],[1,3,5,7,12,15,18,71,72],[1,3,5,7,12,15,71,72],[1,3,5,7,12,15,71,72],[1,3,5,7,12,81,82],[1,3,5,7,12,81,82,83],[1,3,5,7,12,19,81,82],[1,3,5,7,12,81,82],[1,3,5,7,12,81,82],[3,5,12,20],[12,22,23],[6]]
end Go.Eng.Tryz
