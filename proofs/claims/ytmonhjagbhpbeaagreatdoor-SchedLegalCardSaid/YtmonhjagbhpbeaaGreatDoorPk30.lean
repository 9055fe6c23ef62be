/- A part of the proof: walks through the program's functions, and what they compute. -/
import Derived.Test.YtmonhjagbhpbeaaGreatDoorPk22
import Derived.Test.YtmonhjagbhpbeaaGreatDoorPk29
set_option linter.unusedSimpArgs false
set_option linter.unusedVariables false
namespace Go.Eng.Tryz
open Go.RowKit Go.Eng
set_option maxHeartbeats 0
set_option maxRecDepth 20000
theorem QBV {p:Prg} {l:List Pck} {b:Bud} (h:¬(Y1 p l b).2.2.1=0):(Zp p l b).1=[]:=by
 by_cases h1:Zf p l.length b=0
 · by_cases h2:b.steps<(l.length:Int)
   · unfold Zp
     rw [if_neg (fun q=>q h1),if_pos h2]
   · by_cases h3:Zu QA p b.fuel (start QA p b.fuel).1 l<l.length
     · unfold Zp
       rw [if_neg (fun q=>q h1),if_neg h2]
       simp only [h3,if_true]
     · rw [U0 h1 h2 h3] at h
       exact absurd rfl h
 · unfold Zp
   rw [if_pos h1]
def Us (p:Prg) (l:List Pck) (b:Bud) (F:Stt) (k:Nat):List Stt:=F::(List.range k).map fun j=>QG QA p b.fuel (start QA p b.fuel).1 l (j+1)
theorem QFt (p:Prg) (l:List Pck) (b:Bud) (F:Stt) (k:Nat):(Us p l b F k).length=k+1:=by simp [Us]
theorem wF (p:Prg) (l:List Pck) (b:Bud) (F:Stt) (k:Nat):Us p l b F (k+1)=Us p l b F k++[QG QA p b.fuel (start QA p b.fuel).1 l (k+1)]:=by
 simp [Us,List.range_succ]
theorem QHR (p:Prg) (l:List Pck) (b:Bud) (k:Nat):Us p l b (start QA p b.fuel).1 k=ZP QA p b.fuel (start QA p b.fuel).1 l k:=by
 induction k with
 | zero=>simp [Us,vw]
 | succ k ih=>rw [wF,ih,vz]
theorem QGN {p:Prg} {n:Int} {b:Bud} (h:Zf p n b=0):(0≤b.steps∧b.steps≤256)∧(0≤b.fuel∧b.fuel≤4096)∧QT p=true∧n≤256:=by
 have:=Ua h
 exact ⟨this.2.2.2.2,this.2.2.2.1,this.1,this.2.1⟩
def QPn:List (List Nat):=[[2,3],[]]
theorem xe (P B F s ev:V) (sts:List V) (n:Nat) (hn:n≤1000) (hen:sts.length=n) {L:List Obj} {tm:Tm} {out:List Tm} {nt:Nat} {K:St→E→Prop} (ht:Tm.under (L.length+5) tm=true) (ho:Q2 (L.length+5) out=true) (hL:Qi (L.length+5) L=true) (hk1:Tm.kill 3 tm=tm) (hk2:out.map (Tm.kill 3)=out) (hx:L.map (Obj.kill 3)=L)
 (h:K { tm:=tm,ob:=.var 26 (.data 26 P)::.var 28 (.data 28 B)::.var 47 (.data 47 F)::.row 47 (sts++[s])::.var 52 (.sl 3 47 0 (n+1) false)::L,out:=out,nt:=nt } (.tup [])):CallE Go.Proofs.Tryz.prog tab { tm:=tm,ob:=.var 26 (.data 26 P)::.var 28 (.data 28 B)::.var 47 (.data 47 F)::.row 47 sts::.var 52 (.sl 3 47 0 n false)::L,out:=out,nt:=nt } 46 [.data 47 s,.data 63 ev,.ptr 4 [] 52] K:=by
 refine CallE.cut (L.length+5) ?_
 have hcode:True→True:=id
 have hsl:True→True:=id
 have hmx:1001≤maxLen:=by decide
 have hk1':(tm.map fun x=>(x.1,x.2.1,E.kill 3 x.2.2))=tm:=hk1
 have hb3:Nat.blt 3 (L.length+5)=true:=by rw [Nat.blt_eq];omega
 have hb4:Nat.blt 4 (L.length+5)=true:=by rw [Nat.blt_eq];omega
 refine CallE.body ok Go.Proofs.Tryz.func46 rfl rfl 9 rfl [] rfl (by simp) ?_
 simp only [enter,Zr,Nat.zero_add,Nat.reduceAdd]
 repeat' first
  | ((with_reducible refine Zx fun R1 hR1=>?_);(simp only [go_sem,seval,-List.reduceReplicate,hk1',hk2,hx,List.getElem?_cons_succ,List.set_cons_succ,List.set_cons_zero,V0,QAC (X:=L) (N:=L.length) rfl,yJ (X:=L) (N:=L.length) rfl,List.length_append,List.append_assoc,List.map_append,Bool.cond_false_right,Bool.cond_true_left,QK]);(repeat' with_reducible refine And.intro ?_ ?_);all_goals first|(refine hR1 _ ?_;clear hR1 R1)|omega|rfl|decide|assumption|(intro _;omega)|(simp;done)|(simp [-List.getD_eq_getElem?_getD];omega)|exact hcode _|(intro _;exact hcode _)|exact hsl _|(intro _;exact hsl _)|(simp [-List.getD_eq_getElem?_getD,QF,maxLen,Qx];omega)|(simp [-List.getD_eq_getElem?_getD,QF,maxLen,Qx];done))
  | ((with_reducible refine Zw ?_);refine hR _ ?_;clear hR R;try simp only [go_sem,QPn,Nat.reduceBEq])
  | (with_reducible first|refine J1 ?_|refine J2 ?_|refine ZL ?_|refine ZS ?_)
  | ((with_reducible refine rg QPn fun R hR=>?_);simp only [go_sem,QC])
  | ((with_reducible first|refine vd ?_|refine xA ?_)
     simp only [go_sem,QS,QW,QM,seval]
     refine ⟨⟨by simp [St.under,Tm.under,E.under,E.underL,Q2,Qi,ht,ho,hL,hb3,hb4,List.take_succ_cons,List.take_left,List.length_append,Nat.add_assoc],rfl⟩,?_⟩
     simpa [List.take_of_length_le,hen,List.take_left] using h)
def QPr:List (List Nat):=[[1,3,5],[1,3,5,8],[1,3,5,10],[10,12],[10,12,35],[6,7],[6,7]]
theorem QDz (p:Prg) (l:List Pck) (b:Bud) (F:Stt):Grow p l b (fun k=>.var 26 (.data 26 p.v)::.var 28 (.data 28 b.v)::.var 47 (.data 47 F.v)::.row 47 ((Us p l b F k).map Stt.v)::.var 52 (.sl 3 47 0 (k+1) false)::[]) 5 3 46 [.ptr 4 [] 52]:=by
 refine ⟨fun k=>rfl,fun k=>rfl,rfl,rfl,.inl (by decide),?_⟩
 intro k tm out nt L K hk hk2 h1 h2 h3 h4 h5 h6 h7
 rw [Nat.add_comm] at h1 h2 h3
 have e:=wF p l b F k
 refine xe p.v b.v F.v _ _ ((Us p l b F k).map Stt.v) (k+1) (by omega) (by rw [List.length_map,QFt]) h1 h2 h3 h4 h5 h6 ?_
 rw [show (Us p l b F k).map Stt.v++[Stt.v (QG QA p b.fuel (start QA p b.fuel).1 l (k+1))]=(Us p l b F (k+1)).map Stt.v from by rw [e];simp]
 exact h7
theorem Uh (p:Prg) (l:List Pck) (b:Bud) (hp:p.Fit) (hl:l.length≤maxLen):Ctr Go.Proofs.Tryz.prog tab 17 [26,29,28] [52,30] [p.v,.list (l.map Pck.v),b.v] [.list ((Zp p l b).1.map Stt.v),.int (Zp p l b).2.2.1]:=by
 have hpp:=hp
 have hcode:True→True:=id
 have hsl:True→True:=id
 have hmx:257≤maxLen:=by decide
 have hst:=(QBe p l b).1
 refine Ctr.body ok Go.Proofs.Tryz.func17 rfl rfl 38 rfl [.tmp 6,.tmp 7] rfl (by simp [QL]) ?_
 simp only [go_sem,Nat.reduceAdd]
 repeat' first
  | ((with_reducible refine Zx fun R1 hR1=>?_);(simp only [go_sem,seval,-List.reduceReplicate,Bool.cond_false_right,Bool.cond_true_left,QK]);(repeat' with_reducible refine And.intro ?_ ?_);all_goals first|(refine hR1 _ ?_;clear hR1 R1)|((first|refine ce (cf (zQ p (max (min b.fuel 4096) 0) hpp) ?_ (by first|rfl|(simp [go_sem,List.take_of_length_le,List.length_map];done)|fail))|refine ⟨_,_,rfl,.inr (qw p l b hpp hl (QDz p l b (start QA p (max (min b.fuel 4096) 0)).1) (by decide) ?_ ?_ ?_ ?_ ?_)⟩);all_goals ((try simp only [go_sem,seval,-List.reduceReplicate,Bool.cond_false_right,Bool.cond_true_left,QK]);(repeat' with_reducible refine And.intro ?_ ?_);all_goals first|(refine hR1 _ ?_;clear hR1 R1)|exact YJ))|exact YJ)
  | ((with_reducible refine Zw ?_);refine hR _ ?_;clear hR R;try simp only [go_sem,QPr,Nat.reduceBEq])
  | (with_reducible first|refine J1 ?_|refine J2 ?_|refine J3 ?_|refine ZL ?_|refine ZS ?_)
  | ((with_reducible refine rg QPr fun R hR=>?_);simp only [go_sem,QC])
  | ((with_reducible refine QR 35 rfl (fun hb35=>?_) fun hb35=>?_);all_goals (try simp [-List.getD_eq_getElem?_getD] at hb35;try (exfalso;omega)))
  | ((with_reducible first|refine YQ ?_|refine Zv ?_)
     simp only [go_sem,QS,QW,QM,seval]
     first
      | (have q:=hb35
         rw [QBV hb35,hst]
         exact ⟨⟨rfl,rfl⟩,rfl,rfl⟩)
      | (have q:=hb35
         obtain ⟨hOk,hS,_⟩:=YS hb35
         have hfu:max (min b.fuel 4096) 0=b.fuel:=by have:=hOk.fuel;omega
         rw [hOk.eq,hS,hfu,QHR]
         refine ⟨⟨rfl,?_,?_⟩,rfl,rfl⟩
         · rw [List.take_of_length_le (by rw [List.length_map,UE];exact Nat.le_refl _)]
         · intro e'' he j u lo n c h
           rw [List.mem_singleton.1 he] at h
           cases h))
end Go.Eng.Tryz
namespace Go.Eng.Tryz
open Go.RowKit Go.Eng
set_option maxHeartbeats 0
set_option maxRecDepth 20000
theorem QNX {p:Prg} (hr:QT p=true) {s:Stt} (hv:Vld p s) {x:Pck} {fuel:Int}:vh p s x fuel=XV QA p s x fuel:=by
 unfold vh
 rw [Ub hr hv,if_neg (by decide)]
def QND:List (List Nat):=[[0,1,2,5],[0,1,2,5,11],[5,6],[1,5,7],[1,5,7,21],[1,5,7],[5,6]]
theorem QCF (l:List Int) (rd:List Pck) (n:Nat) (hl:l.length≤maxLen) (hr0:0<rd.length) (hr1:rd.length≤1000) {c:Bool} {tm:Tm} {ob:List Obj} {out:List Tm} {nt:Nat} {K:St→E→Prop} (h:∀ ys,K { tm:=tm,ob:=ob++ys,out:=out,nt:=nt } (.tup [.data 56 (Pck.v (if n<l.length then rd.getD (yG (l.getD n 0) rd.length).toNat default else ⟨0,0⟩:Pck)),.bool (decide (n<l.length))])) :
 CallE Go.Proofs.Tryz.prog tab { tm:=tm,ob:=ob,out:=out,nt:=nt } 40 [.int .i64 n,.fs 56 (rd.map Pck.v) c,.fptr 23 (.list (l.map V.int))] K:=by
 have hcode:True→True:=id
 have hsl:True→True:=id
 have hmx:1000≤maxLen:=by decide
 have hb1:=Int.tmod_lt_of_pos (l.getD n 0) (b:=(rd.length:Int)) (by omega)
 have hb2:=Int.lt_tmod_of_pos (l.getD n 0) (b:=(rd.length:Int)) (by omega)
 have hx:=QDF (c:=l.getD n 0) hr0
 have hwp:(l.getD n 0).tmod rd.length<0→IntKind.i64.wrap ((l.getD n 0).tmod rd.length+rd.length)=yG (l.getD n 0) rd.length:=fun h=>by
  rw [Qp (by omega) (by omega)]
  unfold yG
  rw [if_pos h]
 have hwn:¬(l.getD n 0).tmod rd.length<0→(l.getD n 0).tmod rd.length=yG (l.getD n 0) rd.length:=fun h=>by
  unfold yG
  rw [if_neg h]
 have hAt:=Qt Pck.v rd (i:=(yG (l.getD n 0) rd.length).toNat) (by omega)
 refine CallE.body ok Go.Proofs.Tryz.func40 rfl rfl 30 rfl [.cell 5 56,.tmp 6] rfl (by simp) ?_
 simp only [enter,Zr,Nat.zero_add,Nat.reduceAdd]
 repeat' first
  | ((with_reducible refine SARA.told 6 _ ?_);try simp only [hAt])
  | ((with_reducible refine Zx fun R1 hR1=>?_);(simp only [go_sem,seval,-List.reduceReplicate,Bool.cond_false_right,Bool.cond_true_left,QK,List.append_assoc,List.length_append,QAC (X:=ob) (N:=ob.length) rfl,yJ (X:=ob) (N:=ob.length) rfl,QCn (X:=ob) (N:=ob.length) rfl,wP (X:=ob) (N:=ob.length) rfl]);(repeat' with_reducible refine And.intro ?_ ?_);all_goals first|(refine hR1 _ ?_;clear hR1 R1)|exact YJ)
  | ((with_reducible refine Zw ?_);refine hR _ ?_;clear hR R;try simp only [go_sem,QND,Nat.reduceBEq])
  | (with_reducible first|refine J1 ?_|refine J2 ?_|refine J3 ?_|refine ZL ?_|refine ZS ?_)
  | ((with_reducible refine Qy 6 ?_)
     first|rw [hwp (by omega)]|rw [hwn (by omega)]
     (with_reducible refine rg QND fun R hR=>?_);simp only [go_sem,QC])
  | ((with_reducible refine rg QND fun R hR=>?_);simp only [go_sem,QC])
  | ((with_reducible refine QR 11 rfl (fun hb11=>?_) fun hb11=>?_);all_goals (try simp [-List.getD_eq_getElem?_getD] at hb11;try (exfalso;omega)))
  | ((with_reducible refine QR 21 rfl (fun hb21=>?_) fun hb21=>?_);all_goals (try simp [-List.getD_eq_getElem?_getD] at hb21;try (exfalso;omega)))
  | ((with_reducible first|refine vd ?_|refine xA ?_)
     simp only [go_sem,QS,QW,QM,seval]
     first
      | (have q:=hb11
         have e:=h [.var 56 (.data 56 (Pck.v ⟨0,0⟩))]
         rw [decide_eq_false (show ¬n<l.length by omega),if_neg (show ¬n<l.length by omega)] at e
         exact e)
      | (have q:=hb11
         have e:=h [.var 56 (.data 56 (Pck.v (rd.getD (yG (l.getD n 0) rd.length).toNat default)))]
         rw [decide_eq_true (show n<l.length by omega),if_pos (show n<l.length by omega)] at e
         exact e))
def QIJ:List (List Nat):=[[2,3,4],[2,3,4,7],[2,3,4,7,9],[2,3,4,7,9,25],[2,3,4,7,9,10],[2,3,4,7,9,10,34],[2,3,4,7,9,12,13],[2,3,4,7,9,12,44],[2,3,4,7,9,12],[2,3,4,7,9],[6]]
theorem QDb (p:Prg) (l:List Int) (b:Bud) (hp:p.Fit) (hr:QT p=true) (hf:0≤b.fuel∧b.fuel≤4096) (hst:0≤b.steps∧b.steps≤256) (hl:l.length≤maxLen):Ctr Go.Proofs.Tryz.prog tab 39 [26,28,100] [29] [p.v,b.v,.clo 40 [23] [.list (l.map V.int)]] [.list ((Zg p b.fuel l (Yj p l b)).2.map Pck.v)]:=by
 have hpp:=hp
 have hok:=Prg.ok hr
 have hcode:True→True:=id
 have hsl:True→True:=id
 have hmx:400≤maxLen:=by decide
 have hmost:XE l b=min l.length b.steps.toNat:=rfl
 refine Ctr.body ok Go.Proofs.Tryz.func39 rfl rfl 60 rfl [.tmp 6] rfl (by simp [QL]) ?_
 simp only [go_sem,Nat.reduceAdd]
 repeat' first
  | ((with_reducible refine Zx fun R1 hR1=>?_);(simp only [go_sem,seval,-List.reduceReplicate,Bool.cond_false_right,Bool.cond_true_left,QK,List.take_succ_cons,List.take_zero]);(repeat' with_reducible refine And.intro ?_ ?_);all_goals first|(refine hR1 _ ?_;clear hR1 R1)|((first|refine ce (cf (zQ p b.fuel hpp) ?_ (by first|rfl|(simp [go_sem,List.take_of_length_le,List.length_map,List.map_take,List.drop_zero];done)|fail))|refine ce (cf (hrd) ?_ (by first|rfl|(simp [go_sem,List.take_of_length_le,List.length_map,List.map_take,List.drop_zero];done)|fail))|refine ce (cf (hdo) ?_ (by first|rfl|(simp [go_sem,List.take_of_length_le,List.length_map,List.map_take,List.drop_zero];done)|fail))|refine ⟨_,_,rfl,.inr (CallE.cut 5 (QCF l (ready p (Zg p b.fuel l k).1) k hl (by omega) (by omega) fun ys=>⟨⟨rfl,rfl⟩,?_⟩))⟩);all_goals ((try simp only [go_sem,seval,-List.reduceReplicate,Bool.cond_false_right,Bool.cond_true_left,QK,List.take_succ_cons,List.take_zero]);(repeat' with_reducible refine And.intro ?_ ?_);all_goals first|(refine hR1 _ ?_;clear hR1 R1)|omega|rfl|decide|assumption|(intro _;omega)|(simp;done)|(simp [-List.getD_eq_getElem?_getD];omega)|exact hcode _|(intro _;exact hcode _)|exact hsl _|(intro _;exact hsl _)|(simp [-List.getD_eq_getElem?_getD,QF,maxLen,YN,Q0,Qz,Qw,Qx];omega)|(simp [-List.getD_eq_getElem?_getD,QF,maxLen,YN,Q0,Qz,Qw,Qx];done)))|omega|rfl|decide|assumption|(intro _;omega)|(simp;done)|(simp [-List.getD_eq_getElem?_getD];omega)|exact hcode _|(intro _;exact hcode _)|exact hsl _|(intro _;exact hsl _)|(simp [-List.getD_eq_getElem?_getD,QF,maxLen,YN,Q0,Qz,Qw,Qx];omega)|(simp [-List.getD_eq_getElem?_getD,QF,maxLen,YN,Q0,Qz,Qw,Qx];done))
  | ((with_reducible refine Zw ?_);refine hR _ ?_;clear hR R;try simp only [go_sem,QIJ,Nat.reduceBEq])
  | (with_reducible first|refine J1 ?_|refine J2 ?_|refine J3 ?_|refine J4 ?_|refine J5 ?_|refine J6 ?_|refine J7 ?_|refine J8 (by decide) ?_|refine J9 ?_|refine Uf ?_|refine ZL ?_|refine ZS ?_|refine Y3 ?_|refine V7 ?_)
  | ((with_reducible refine Qy 4 ?_)
     have hvk:Vld p (Zg p b.fuel l k).1:=QI7 hr hf hz
     have hrd:=zR p (Zg p b.fuel l k).1 hpp hvk.shape
     rw [Ub hr hvk,if_pos rfl] at hrd
     have hw:=hvk.wf hok hr
     have hrl:=VS hok hw (Zg p b.fuel l k).1.count.toNat
     have hct:=hvk.count
     have hrl2:(ready p (Zg p b.fuel l k).1).length≤384:=by unfold ready;omega
     have hrl3:(ready p (Zg p b.fuel l k).1).length≤maxLen:=by omega
     (with_reducible refine rg QIJ fun R hR=>?_);simp only [go_sem,QC])
  | ((with_reducible refine Qy 6 ?_)
     have hr0:0<(ready p (Zg p b.fuel l k).1).length:=by have q:=hb34;exact List.length_pos_iff.2 q
     refine Yx (J49 ok.sized 4 rfl) ?_
     simp only [St.frz,Tm.frz,E.frz,E.frzL,Obj.frz,List.map_cons,List.map_nil,List.set_cons_zero,List.set_cons_succ,Nat.reduceBEq,Nat.beq_refl,if_true,if_false,Nat.beq_eq_true_eq,reduceCtorEq,Bool.false_eq_true,V.get,Nat.reduceEqDiff]
     simp only [List.drop_zero,List.take_of_length_le,List.length_map,Nat.le_refl]
     (with_reducible refine rg QIJ fun R hR=>?_);simp only [go_sem,QC])
  | ((with_reducible refine Qy 8 ?_)
     have hkl:k<l.length:=hb44
     rw [if_pos hkl]
     have hdo:=QE0 p (Zg p b.fuel l k).1 ((ready p (Zg p b.fuel l k).1).getD (yG (l.getD k 0) (ready p (Zg p b.fuel l k).1).length).toNat default) b.fuel hpp hvk.shape
     rw [QNX hr hvk] at hdo
     (with_reducible refine rg QIJ fun R hR=>?_);simp only [go_sem,QC])
  | ((with_reducible refine rg QIJ fun R hR=>?_);simp only [go_sem,QC])
  | ((with_reducible refine QR 25 rfl (fun hb25=>?_) fun hb25=>?_);all_goals (try simp [-List.getD_eq_getElem?_getD] at hb25;try (exfalso;omega)))
  | ((with_reducible refine QR 34 rfl (fun hb34=>?_) fun hb34=>?_);all_goals (try simp [-List.getD_eq_getElem?_getD] at hb34;try (exfalso;omega)))
  | ((with_reducible refine QR 44 rfl (fun hb44=>?_) fun hb44=>?_);all_goals (try simp [-List.getD_eq_getElem?_getD] at hb44;try (exfalso;omega)))
  | ((with_reducible refine W1 ?_)
     refine Yx ((St.le.own (t:=9) 56 rfl).trans ((St.le.keep [2,3,4,7,9]).trans (ZZ (by first|rfl|(simp;done)|fail)))) (Wo (fun n τ=>∃ (k:Nat),n=b.steps.toNat+1-k∧(k≤XE l b∧∀ j:Nat,j<k→0<(ready p (Zg p b.fuel l j).1).length)∧τ={ tm:=[(2,true,.fn 40 [.fptr 23 (.list (l.map V.int))]),(3,true,.ptr 0 [] 26),(4,true,.ptr 1 [] 28),(7,true,.ptr 2 [] 47),(9,true,.sl 3 56 0 k false)],ob:=[.var 26 (.data 26 p.v),.var 28 (.data 28 b.v),.var 47 (.data 47 (Stt.v (Zg p b.fuel l k).1)),.row 56 ((Zg p b.fuel l k).2.map Pck.v)],out:=[],nt:=60 }) (b.steps.toNat+1) ⟨0,rfl,⟨Nat.zero_le _,fun j h=>by omega⟩,rfl⟩ ?_)
     rintro n τ ⟨k,hn,⟨hk,hz⟩,rfl⟩
     have hkl2:=WD (p:=p) (fuel:=b.fuel) (l:=l) k)
  | ((with_reducible refine zF ?_)
     first
      | (have hlt:k<XE l b:=by omega
         refine WE (b.steps.toNat+1-(k+1)) _ (by omega) ((Vk 4 rfl).trans (ZZ (by simp [-List.getD_eq_getElem?_getD,Zg,Vg,List.take_of_length_le,hkl2]))) ⟨k+1,rfl,⟨hlt,fun j h=>?_⟩,rfl⟩
         by_cases h2:j<k
         · exact hz j h2
         · have h3:j=k:=by omega
           rw [h3];exact hr0))
  | ((with_reducible first|refine YQ ?_|refine Zv ?_)
     simp only [go_sem,QS,QW,QM,seval]
     first
      | (have hkm:k=XE l b:=by omega
         rw [UW hkm hz]
         refine ⟨rfl,?_,?_⟩
         · simp [List.take_of_length_le,hkl2]
         · intro e he
           first|(cases he;done)|(intro j u lo n c h;simp at he;subst he;cases h))
      | (have q:=hb34
         have h0:(ready p (Zg p b.fuel l k).1).length=0:=by rw [hb34];rfl
         have e:Yj p l b=k:=by
          by_cases hc:k<XE l b
          · exact QGp hc h0 hz
          · exact UW (by omega) hz
         rw [e]
         refine ⟨rfl,?_,?_⟩
         · simp [List.take_of_length_le,hkl2]
         · intro e he
           first|(cases he;done)|(intro j u lo n c h;simp at he;subst he;cases h))
      | (have q:=hb44
         have e:Yj p l b=k:=UW (by omega) hz
         rw [e]
         refine ⟨rfl,?_,?_⟩
         · simp [List.take_of_length_le,hkl2]
         · intro e he
           first|(cases he;done)|(intro j u lo n c h;simp at he;subst he;cases h)))
def QNF:List (List Nat):=[[3,4,5],[3,4,5,8],[3,4,5,8,15],[6,7],[6,7]]
theorem ZW (p:Prg) (l:List Int) (b:Bud) (hp:p.Fit) (hl:l.length≤maxLen):Ctr Go.Proofs.Tryz.prog tab 12 [26,23,28] [29,30] [p.v,.list (l.map V.int),b.v] [.list ((QD p l b).map Pck.v),.int (Zf p l.length b)]:=by
 have hpp:=hp
 have hcode:True→True:=id
 have hsl:True→True:=id
 refine Ctr.body ok Go.Proofs.Tryz.func12 rfl rfl 21 rfl [.tmp 6,.tmp 7] rfl (by simp [QL]) ?_
 simp only [go_sem,Nat.reduceAdd]
 repeat' first
  | ((with_reducible refine Zx fun R1 hR1=>?_);(simp only [go_sem,seval,-List.reduceReplicate,Bool.cond_false_right,Bool.cond_true_left,QK]);(repeat' with_reducible refine And.intro ?_ ?_);all_goals first|(refine hR1 _ ?_;clear hR1 R1)|((first|refine cq (cc (zw p _ b hpp) (by first|rfl|(simp [go_sem,List.take_of_length_le,List.length_map,List.map_take,List.drop_zero];done)|fail)) ?_|refine ce (cf (QDb p l b hpp hz.2.2.1 hz.2.1 hz.1 hl) ?_ (by first|rfl|(simp [go_sem,List.take_of_length_le,List.length_map,List.map_take,List.drop_zero];done)|fail)));all_goals ((try simp only [go_sem,seval,-List.reduceReplicate,Bool.cond_false_right,Bool.cond_true_left,QK]);(repeat' with_reducible refine And.intro ?_ ?_);all_goals first|(refine hR1 _ ?_;clear hR1 R1)|exact YJ))|exact YJ)
  | ((with_reducible refine Zw ?_);refine hR _ ?_;clear hR R;try simp only [go_sem,QNF,Nat.reduceBEq])
  | (with_reducible first|refine J1 ?_|refine J2 ?_|refine J3 ?_|refine ZL ?_|refine ZS ?_)
  | ((with_reducible refine Qy 4 ?_)
     have hz:=QGN hb15
     refine Yx (St.le.frzVal ok.sized 1 rfl rfl) ?_
     simp only [St.frz,Tm.frz,E.frz,E.frzL,Obj.frz,List.map_cons,List.map_nil,List.set_cons_zero,List.set_cons_succ,Nat.reduceBEq,Nat.beq_refl,if_true,if_false,Nat.beq_eq_true_eq,reduceCtorEq,Bool.false_eq_true,V.get,Nat.reduceEqDiff]
     (with_reducible refine rg QNF fun R hR=>?_);simp only [go_sem,QC])
  | ((with_reducible refine rg QNF fun R hR=>?_);simp only [go_sem,QC])
  | ((with_reducible refine QR 15 rfl (fun hb15=>?_) fun hb15=>?_);all_goals (try simp [-List.getD_eq_getElem?_getD] at hb15;try (exfalso;omega)))
  | ((with_reducible first|refine YQ ?_|refine Zv ?_)
     simp only [go_sem,QS,QW,QM,seval]
     first
      | (have q:=hb15
         refine ⟨⟨rfl,?_⟩,rfl⟩
         unfold QD
         rw [if_neg hb15]
         rfl)
      | (have q:=hb15
         have e:QD p l b=(Zg p b.fuel l (Yj p l b)).2:=if_pos hb15
         rw [e,hb15]
         refine ⟨⟨rfl,?_,?_⟩,rfl,rfl⟩
         · simp [List.take_of_length_le]
         · intro e he
           first|(cases he;done)|(intro j u lo n c h;simp at he;subst he;cases h)))
end Go.Eng.Tryz
