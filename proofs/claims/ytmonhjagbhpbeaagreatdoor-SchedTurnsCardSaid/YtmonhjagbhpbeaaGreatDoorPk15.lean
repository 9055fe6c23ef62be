/- A part of the proof: walks through the program's functions, and what they compute. -/
import Derived.Test.YtmonhjagbhpbeaaGreatDoorPk7
import Derived.Test.YtmonhjagbhpbeaaGreatDoorPk14
set_option linter.unusedSimpArgs false
set_option linter.unusedVariables false
namespace Go.Eng.Tryz
open Go.RowKit Go.Eng
set_option maxHeartbeats 0
set_option maxRecDepth 20000
theorem y9 (p:Prg) (s:Stt) (hp:p.Fit) (hs:s.Shape):Ctr Go.Proofs.Tryz.prog tab 18 [26,47] [29,30] [p.v,s.v] [.list ((if Wh p s=0 then ready p s else []).map Pck.v),.int (Wh p s)]:=by
 have hpp:=hp
 have hfit:=hp
 have hcode:=p.code_len hp
 have hsl:=p.sels_len hp
 obtain ⟨hp1,hp2,hp3,hp4⟩:=hp
 have hmx:256≤maxLen:=by decide
 refine Ctr.body ok Go.Proofs.Tryz.func18 rfl rfl 43 rfl [.tmp 4,.tmp 5] rfl (by simp [QF]) ?_
 simp only [go_sem,Nat.reduceAdd]
 repeat' first
  | ((with_reducible refine Q5 fun R1 hR1=>?_);(simp only [go_sem,seval,-List.reduceReplicate,Bool.cond_false_right,Bool.cond_true_left,QDd,z56,z3]);(repeat' with_reducible refine And.intro ?_ ?_);all_goals first|(refine hR1 _ ?_;clear hR1 R1)|((first|refine cq (cc (y8 p s hpp hs)) ?_|refine ce (cf (QI1 s hs) ?_)|refine ce (cf (Uw p s ((Ql s 6).getD i 0) hpp hr hv hgi.1 hgi.2) ?_));all_goals ((try simp only [go_sem,seval,-List.reduceReplicate,Bool.cond_false_right,Bool.cond_true_left,QDd,z56,z3]);(repeat' with_reducible refine And.intro ?_ ?_);all_goals first|(refine hR1 _ ?_;clear hR1 R1)|exact VL))|exact VL)
  | ((with_reducible refine Q4 ?_);refine hR _ ?_;clear hR R;try simp only [go_sem,QND,Nat.reduceBEq])
  | (with_reducible first|refine J1 ?_|refine J2 ?_|refine J3 ?_|refine J4 ?_|refine J5 ?_|refine J6 ?_|refine J7 ?_|refine J8 (by decide) ?_|refine J9 ?_|refine Xu ?_|refine Q2 ?_|refine Q1 ?_|refine Yc ?_|refine Xt ?_)
  | ((with_reducible refine Qe 4 ?_)
     have hr:=(wK hb16).1
     have hok:=Prg.ok hr
     have hv:=Vld.of hok hs (wK hb16).2
     have hw:=hv.wf hok hr
     have hll:=QBL s 6
     (with_reducible refine rg QND fun R hR=>?_);simp only [go_sem,QC])
  | ((with_reducible refine Qe 8 ?_)
     have hgi:=QJJ hv (k:=i) (by omega)
     have hal:=zV hok hw ((Ql s 6).getD i 0)
     have hrl:=QFG hok hw ((Ql s 6).take i)
     rw [List.length_take] at hrl
     (with_reducible refine rg QND fun R hR=>?_);simp only [go_sem,QC])
  | ((with_reducible refine rg QND fun R hR=>?_);simp only [go_sem,QC])
  | ((with_reducible refine QI 16 rfl (fun hb16=>?_) fun hb16=>?_);all_goals (try simp [-List.getD_eq_getElem?_getD] at hb16;try (exfalso;omega)))
  | ((with_reducible refine SA.cond rfl ?_ ?_)
     all_goals
      intro hb
      try simp [-List.getD_eq_getElem?_getD] at hb
      try (exfalso;omega))
  | ((with_reducible refine Ya ?_)
     refine Zv ((St.le.own (t:=7) 56 rfl).trans ((St.le.keep [2,3,7,19,20,21]).trans (Qo (by first|rfl|(simp;done)|fail)))) (Yb (fun n τ=>∃ (i:Nat),n=(Ql s 6).length-i∧(i≤(Ql s 6).length)∧τ={ tm:=[(2,true,.ptr 0 [] 26),(3,true,.ptr 1 [] 47),(7,true,.sl 3 56 0 (wZ p s ((Ql s 6).take i)).length false),(19,true,.sl 2 3 0 (Ql s 6).length false),(20,true,.int .i64 (Ql s 6).length),(21,true,.int .i64 i)],ob:=[.var 26 (.data 26 p.v),.var 47 (.data 47 s.v),.row 3 ((Ql s 6).map V.int),.row 56 ((wZ p s ((Ql s 6).take i)).map Pck.v)],out:=[],nt:=43 }) ((Ql s 6).length) ⟨0,rfl,by omega,rfl⟩ ?_)
     rintro n τ ⟨i,hn,hi,rfl⟩)
  | ((with_reducible refine Ya ?_)
     refine Zv (Qo (by first|(simp;done)|fail)) (Yb (fun n τ=>∃ (j:Nat),n=(Qn p s ((Ql s 6).getD i 0)).length-j∧(j≤(Qn p s ((Ql s 6).getD i 0)).length)∧τ={ tm:=[(2,true,.ptr 0 [] 26),(3,true,.ptr 1 [] 47),(7,true,.sl 3 56 0 (wZ p s ((Ql s 6).take i)++((Qn p s ((Ql s 6).getD i 0)).take j).map fun a=>(⟨(Ql s 6).getD i 0,a⟩:Pck)).length false),(9,true,.int .i64 ((Ql s 6).getD i 0)),(19,true,.sl 2 3 0 (Ql s 6).length false),(20,true,.int .i64 (Ql s 6).length),(21,true,.int .i64 i),(28,true,.sl 4 3 0 (Qn p s ((Ql s 6).getD i 0)).length false),(29,true,.int .i64 (Qn p s ((Ql s 6).getD i 0)).length),(30,true,.int .i64 j)],ob:=[.var 26 (.data 26 p.v),.var 47 (.data 47 s.v),.row 3 ((Ql s 6).map V.int),.row 56 ((wZ p s ((Ql s 6).take i)++((Qn p s ((Ql s 6).getD i 0)).take j).map fun a=>(⟨(Ql s 6).getD i 0,a⟩:Pck)).map Pck.v),.row 3 ((Qn p s ((Ql s 6).getD i 0)).map V.int)],out:=[],nt:=43 }) ((Qn p s ((Ql s 6).getD i 0)).length) ⟨0,rfl,by omega,rfl⟩ ?_)
     rintro n τ ⟨j,hn,hj,rfl⟩)
  | ((with_reducible refine WC ?_)
     first
      | (have hlt:i<(Ql s 6).length:=by omega
         have hw:=QD (n:=i) (m:=256) (by omega) (by decide)
         have hj':j=(Qn p s ((Ql s 6).getD i 0)).length:=by omega
         subst hj'
         have e:(Ql s 6).take (i+1)=(Ql s 6).take i++[(Ql s 6).getD i 0]:=QCa hlt
         refine Z0 ((Ql s 6).length-(i+1)) _ (by omega) ((WS 4 rfl).trans (Qo (by simp only [hw,e,QCm,List.take_length,List.take_succ_cons,List.take_zero]))) ⟨i+1,rfl,hlt,rfl⟩)
      | (have hlt:j<(Qn p s ((Ql s 6).getD i 0)).length:=by omega
         have hw:=QD (n:=j) (m:=256) (by omega) (by decide)
         have e:(Qn p s ((Ql s 6).getD i 0)).take (j+1)=(Qn p s ((Ql s 6).getD i 0)).take j++[(Qn p s ((Ql s 6).getD i 0)).getD j 0]:=QCa hlt
         refine Z0 ((Qn p s ((Ql s 6).getD i 0)).length-(j+1)) _ (by omega) ((WS 5 rfl).trans (Qo (by simp [-List.getD_eq_getElem?_getD,hw,e,Pck.v,List.take_of_length_le,Nat.add_assoc]))) ⟨j+1,rfl,hlt,rfl⟩))
  | ((with_reducible first|refine ZQ ?_|refine ZP ?_)
     simp only [go_sem,QL,QM,QH,seval]
     first
      | (have q:¬_:=hb16
         refine ⟨⟨rfl,?_⟩,rfl⟩
         rw [if_neg hb16]
         rfl)
      | (have hi':i=(Ql s 6).length:=by omega
         subst hi'
         rw [hb16]
         refine ⟨⟨rfl,?_,?_⟩,rfl,rfl⟩
         · rw [if_pos rfl,List.take_length,QIz hv]
           simp [List.take_of_length_le]
         · intro e h j u lo n c q
           simp at h
           subst h
           cases q))
theorem QRa {p:Prg} {n:Int} {b:Bud} (h:¬Zh p=0):ZR p n b=3:=by
 unfold ZR
 rw [if_pos (show QN p=false from decide_eq_false h)]
theorem QRb {p:Prg} {n:Int} {b:Bud} (h:Zh p=0) (h2:256<n):ZR p n b=2:=by
 unfold ZR
 rw [if_neg (by rw [show QN p=true from decide_eq_true h];simp),if_pos h2]
theorem QMD {p:Prg} {n:Int} {b:Bud} (h:Zh p=0) (h2:¬256<n):ZR p n b=if Y1 b=false then 6 else 0:=by
 unfold ZR
 rw [if_neg (by rw [show QN p=true from decide_eq_true h];simp),if_neg h2]
def QTV:List (List Nat):=[[0,1],[4]]
theorem QDB (n m:Int):Ctr Go.Proofs.Tryz.prog tab 80 [3,3] [4] [.int n,.int m] [.bool (decide (0≤n)&&decide (n≤m))]:=by
 have hcode:True→True:=id
 have hsl:True→True:=id
 refine Ctr.body ok Go.Proofs.Tryz.func80 rfl rfl 12 rfl [.tmp 4] rfl (by simp [QF]) ?_
 simp only [go_sem,Nat.reduceAdd]
 repeat' first
  | ((with_reducible refine Q5 fun R1 hR1=>?_);(simp only [go_sem,seval,-List.reduceReplicate,Bool.cond_false_right,Bool.cond_true_left]);(repeat' with_reducible refine And.intro ?_ ?_);all_goals first|(refine hR1 _ ?_;clear hR1 R1)|(intro hgf;simp only [hgf];refine hR1 _ ?_;clear hR1 R1)|exact Zp)
  | ((with_reducible refine Q4 ?_);refine hR _ ?_;clear hR R;try simp only [go_sem,QTV,Nat.reduceBEq])
  | (with_reducible first|refine J1 ?_|refine J2 ?_|refine Q2 ?_|refine Q1 ?_)
  | ((with_reducible refine rg QTV fun R hR=>?_);simp only [go_sem,QC])
  | ((with_reducible first|refine ZQ ?_|refine ZP ?_)
     simp only [go_sem,QL,QM,QH,seval]
     first
      | (exact ⟨rfl,rfl⟩)
      | (rfl)
      | (refine ⟨rfl,?_⟩
         by_cases h:0≤n<;>simp [h]))
def QTh:List (List Nat):=[[1,3,5],[1,5,7],[1,5,16],[6],[5,18],[6],[5,9],[37],[6],[6]]
theorem qJ (p:Prg) (n:Int) (b:Bud) (hp:p.Fit):Ctr Go.Proofs.Tryz.prog tab 38 [26,3,28] [30] [p.v,.int n,b.v] [.int (ZR p n b)]:=by
 have hpp:=hp
 have hcode:True→True:=id
 have hsl:True→True:=id
 refine Ctr.body ok Go.Proofs.Tryz.func38 rfl rfl 38 rfl [.tmp 6] rfl (by simp [QF]) ?_
 simp only [go_sem,Nat.reduceAdd]
 repeat' first
  | ((with_reducible refine Q5 fun R1 hR1=>?_);(simp only [go_sem,seval,-List.reduceReplicate,Bool.cond_false_right,Bool.cond_true_left]);(repeat' with_reducible refine And.intro ?_ ?_);all_goals first|(refine hR1 _ ?_;clear hR1 R1)|(intro hgf;simp only [hgf];refine hR1 _ ?_;clear hR1 R1)|((first|refine ce (cf (Vx p hpp) ?_ (by first|rfl|(simp [go_sem,List.take_of_length_le,List.length_map];done)|fail))|refine ⟨_,_,rfl,.inr ⟨fun _=>CallE.ctr ok (Vx p hpp) (by first|rfl|(simp [go_sem,List.take_of_length_le,List.length_map];done)|fail) ?_,?_⟩⟩|refine cq (cc (QDB _ _) (by first|rfl|(simp [go_sem,List.take_of_length_le,List.length_map];done)|fail)) ?_|refine Y4 (fun hg=>cc (QDB _ _) (by first|rfl|(simp [go_sem,List.take_of_length_le,List.length_map];done)|fail)) ?_);all_goals ((try simp only [go_sem,seval,-List.reduceReplicate,Bool.cond_false_right,Bool.cond_true_left]);(repeat' with_reducible refine And.intro ?_ ?_);all_goals first|(refine hR1 _ ?_;clear hR1 R1)|(intro hgf;simp only [hgf];refine hR1 _ ?_;clear hR1 R1)|exact Zp))|exact Zp)
  | ((with_reducible refine Q4 ?_);refine hR _ ?_;clear hR R;try simp only [go_sem,QTh,Nat.reduceBEq])
  | (with_reducible first|refine J1 ?_|refine J2 ?_|refine J3 ?_|refine Q2 ?_|refine Q1 ?_)
  | ((with_reducible refine rg QTh fun R hR=>?_);simp only [go_sem,QC])
  | ((with_reducible refine QI 16 rfl (fun hb16=>?_) fun hb16=>?_);all_goals (try simp [-List.getD_eq_getElem?_getD] at hb16))
  | ((with_reducible refine QI 18 rfl (fun hb18=>?_) fun hb18=>?_);all_goals (try simp [-List.getD_eq_getElem?_getD] at hb18))
  | ((with_reducible refine QI 37 rfl (fun hb37=>?_) fun hb37=>?_);all_goals (try simp [-List.getD_eq_getElem?_getD] at hb37))
  | ((with_reducible first|refine ZQ ?_|refine ZP ?_)
     simp only [go_sem,QL,QM,QH,seval]
     first
      | (have q:¬_:=hb16
         refine ⟨rfl,?_⟩
         rw [QRa hb16])
      | (have q:=hb18
         refine ⟨rfl,?_⟩
         rw [QRb hb16 hb18])
      | (have q:=hb37
         refine ⟨rfl,?_⟩
         rw [QMD hb16 (by omega)]
         first|(rw [if_pos (by simp only [Y1];simp;omega)];done)|(rw [if_neg (by simp only [Y1];simp;omega)];done)))
def QTf:List (List Nat):=[[2,3],[5],[4]]
theorem Xn (p:Prg) (s:Stt) (hp:p.Fit) (hr:QN p=true) (hv:Vld p s):Ctr Go.Proofs.Tryz.prog tab 44 [26,47] [4] [p.v,s.v] [.bool (decide (0<(ready p s).length))]:=by
 have hpp:=hp
 have hcode:True→True:=id
 have hsl:True→True:=id
 have hmx:256≤maxLen:=by decide
 have hw:=hv.wf (Prg.ok hr) hr
 have hrl:=Yj (Prg.ok hr) hw s.count.toNat
 have hct:=hv.count
 have hrl2:(ready p s).length≤384:=by unfold ready;omega
 have hmx2:384≤maxLen:=by decide
 have hrl3:(ready p s).length≤maxLen:=by omega
 have hrc:=y9 p s hpp hv.shape
 rw [yZ hr hv,if_pos rfl] at hrc
 refine Ctr.body ok Go.Proofs.Tryz.func44 rfl rfl 16 rfl [.tmp 4] rfl (by simp [QF]) ?_
 simp only [go_sem,Nat.reduceAdd]
 repeat' first
  | ((with_reducible refine Q5 fun R1 hR1=>?_);(simp only [go_sem,seval,-List.reduceReplicate,Bool.cond_false_right,Bool.cond_true_left]);(repeat' with_reducible refine And.intro ?_ ?_);all_goals first|(refine hR1 _ ?_;clear hR1 R1)|((first|refine ce (cf (hrc) ?_ (by first|rfl|(simp [go_sem,List.take_of_length_le,List.length_map];done)|fail)));all_goals ((try simp only [go_sem,seval,-List.reduceReplicate,Bool.cond_false_right,Bool.cond_true_left]);(repeat' with_reducible refine And.intro ?_ ?_);all_goals first|(refine hR1 _ ?_;clear hR1 R1)|exact Zp))|exact Zp)
  | ((with_reducible refine Q4 ?_);refine hR _ ?_;clear hR R;try simp only [go_sem,QTf,Nat.reduceBEq])
  | (with_reducible first|refine J1 ?_|refine J2 ?_|refine Q2 ?_|refine Q1 ?_)
  | ((with_reducible refine rg QTf fun R hR=>?_);simp only [go_sem,QC])
  | ((with_reducible first|refine ZQ ?_|refine ZP ?_)
     simp only [go_sem,QL,QM,QH,seval]
     first
      | (exact ⟨rfl,rfl⟩)
      | (rfl)
      | (refine ⟨rfl,?_⟩
         simp))
structure DInv (p:Prg) (s:Stt) (l:List Int) (i j:Nat) (R:List Int):Prop where
 lt:i<j
 len:R.length=l.length
 num:i=(QKM p s (l.take j)).length
 tk:R.take i=QKM p s (l.take j)
 dr:R.drop j=l.drop j
theorem QHQ {j:Nat} (h:j≤1000):(IntKind.i64.wrap ((j:Int)-1)).toNat=j-1:=by rw [Qc (by omega) (by omega)];omega
theorem QGD {j:Nat} (h:j≤1000) (h0:0<j):IntKind.i64.wrap ((j:Int)-1)=((j-1:Nat):Int):=by rw [Qc (by omega) (by omega)];omega
theorem Xs {R:List Access} {k:Nat} (h:k<R.length) (d:V):(R.map Access.v).getD k d=(XB R k).v:=by
 unfold XB
 simp [List.getD_eq_getElem?_getD,h]
theorem QRG:∀ n:Fin 8,QRH n.1=(Zw n.1:Int):=by decide +kernel
theorem QJK (n:Nat) (hn:n≤7):Ctr Go.Proofs.Tryz.prog tab 213 [266] [3] [.int n] [.int (QRH n)]:=by
 rw [QRG ⟨n,by omega⟩]
 exact QFa n (by omega)
def QOj:List (List Nat):=[[2,3],[2,3,9],[4],[4]]
theorem yJ (a b:Access) (ha:Wk a) (hb:Wk b):Ctr Go.Proofs.Tryz.prog tab 154 [60,60] [3] [a.v,b.v] [.int (QNj a b)]:=by
 refine Ctr.body ok Go.Proofs.Tryz.func154 rfl rfl 20 rfl [.tmp 4] rfl (by simp [QF]) ?_
 simp only [go_sem,Nat.reduceAdd]
 repeat' first
  | ((with_reducible refine Q5 fun R1 hR1=>?_);(simp only [go_sem,seval,-List.reduceReplicate,Bool.cond_false_right,Bool.cond_true_left]);(repeat' with_reducible refine And.intro ?_ ?_);all_goals first|(refine hR1 _ ?_;clear hR1 R1)|exact Zp)
  | ((with_reducible refine Q4 ?_);refine hR _ ?_;clear hR R;try simp only [go_sem,QOj,Nat.reduceBEq])
  | (with_reducible first|refine J1 ?_|refine J2 ?_|refine J3 ?_|refine Q2 ?_|refine Q1 ?_)
  | ((with_reducible refine rg QOj fun R hR=>?_);simp only [go_sem,QC])
  | ((with_reducible refine QI 9 rfl (fun hb9=>?_) fun hb9=>?_);all_goals (try simp [-List.getD_eq_getElem?_getD] at hb9;try (exfalso;omega)))
  | ((with_reducible first|refine ZQ ?_|refine ZP ?_)
     simp only [go_sem,QL,QM,QH,seval]
     have q:=hb9
     refine ⟨rfl,congrArg (fun e=>some (V.int e)) ?_⟩
     unfold Wk at ha hb
     unfold QNj
     rw [Qc (by omega) (by omega)]
     first|rw [if_pos hb9]|rw [if_neg hb9])
def QOW:List (List Nat):=[[0],[2],[2]]
theorem QNO (n:Nat) (hn:n≤7):Ctr Go.Proofs.Tryz.prog tab 184 [258] [3] [.int n] [.int (QRH n)]:=by
 refine Ctr.body ok Go.Proofs.Tryz.func184 rfl rfl 8 rfl [.tmp 2] rfl (by simp [QF]) ?_
 simp only [go_sem,Nat.reduceAdd]
 repeat' first
  | ((with_reducible refine Q5 fun R1 hR1=>?_);(simp only [go_sem,seval,-List.reduceReplicate,Bool.cond_false_right,Bool.cond_true_left]);(repeat' with_reducible refine And.intro ?_ ?_);all_goals first|(refine hR1 _ ?_;clear hR1 R1)|((first|refine cq (cc (QJK n hn)) ?_);all_goals ((try simp only [go_sem,seval,-List.reduceReplicate,Bool.cond_false_right,Bool.cond_true_left]);(repeat' with_reducible refine And.intro ?_ ?_);all_goals first|(refine hR1 _ ?_;clear hR1 R1)|exact Zp))|exact Zp)
  | ((with_reducible refine Q4 ?_);refine hR _ ?_;clear hR R;try simp only [go_sem,QOW,Nat.reduceBEq])
  | (with_reducible first|refine J1 ?_|refine J2 ?_|refine J3 ?_|refine Q2 ?_|refine Q1 ?_)
  | ((with_reducible refine rg QOW fun R hR=>?_);simp only [go_sem,QC])
  | ((with_reducible first|refine SA.condF ?_|refine SA.condT ?_))
  | ((with_reducible first|refine ZQ ?_|refine ZP ?_)
     simp only [go_sem,QL,QM,QH,seval]
     exact rfl)
def QCw:List (List Nat):=[[0,1,2,3,8],[0,1,2,3,8,14],[0,1,2,3,8],[0,1,2,3,8,9],[0,1,2,3,8,9,34],[0,1,2,3,8,9],[0,1,2,3,8,9]]
theorem QEE (l:List Access) (hs:∀ a∈l,Wk a) (hn:l.length≤7) {o0 o1 o2:Obj} {tm:Tm} {out:List Tm} {nt:Nat} {xs:List Obj} {K:St→E→Prop} (h:∀ R:List Access,R.Perm l→R.Pairwise (fun a b=>Xy a≤Xy b)→K { tm:=tm,ob:=o0::o1::o2::.row 60 (R.map Access.v)::xs,out:=out,nt:=nt } (.tup [])):CallE Go.Proofs.Tryz.prog tab { tm:=tm,ob:=o0::o1::o2::.row 60 (l.map Access.v)::xs,out:=out,nt:=nt } 204 [.sl 3 60 0 l.length false,.int .i64 0,.int .i64 l.length,.fn 154 []] K:=by
 refine CallE.body ok Go.Proofs.Tryz.func204 rfl rfl 53 rfl [] rfl (by simp) ?_
 simp only [enter,Zf,Nat.zero_add,Nat.reduceAdd]
 repeat' first
  | ((with_reducible refine SARQ.told 4 9 ?_)
     rw [Xs (by omega)])
  | ((with_reducible refine SARQ.told 4 13 ?_)
     rw [QHQ (by omega)])
  | ((with_reducible refine SARQ.told 4 14 ?_)
     rw [Xs (by omega)])
  | ((with_reducible first|refine Q5 fun R1 hR1=>?_|refine yb fun R1 hR1=>?_|refine qz fun R1 hR1=>?_|refine qy fun R1 hR1=>?_|refine qx fun R1 hR1=>?_);(simp only [go_sem,seval,-List.reduceReplicate,Bool.cond_false_right,Bool.cond_true_left]);(repeat' with_reducible refine And.intro ?_ ?_);all_goals first|(refine hR1 _ ?_;clear hR1 R1)|(intro hgf;simp only [hgf];refine hR1 _ ?_;clear hR1 R1)|((first|refine V4 (cc (yJ (XB Y j) (XB Y (j-1)) (hI.all hs (by omega)) (hI.all hs (by omega)))) ?_|refine wB (fun hg=>cc (yJ (XB Y j) (XB Y (j-1)) (hI.all hs (by omega)) (hI.all hs (by omega)))) ?_|refine cq (cc (yJ (XB Y j) (XB Y (j-1)) (hI.all hs (by omega)) (hI.all hs (by omega)))) ?_|refine Y4 (fun hg=>cc (yJ (XB Y j) (XB Y (j-1)) (hI.all hs (by omega)) (hI.all hs (by omega)))) ?_);all_goals ((try simp only [go_sem,seval,-List.reduceReplicate,Bool.cond_false_right,Bool.cond_true_left]);(repeat' with_reducible refine And.intro ?_ ?_);all_goals first|(refine hR1 _ ?_;clear hR1 R1)|(intro hgf;simp only [hgf];refine hR1 _ ?_;clear hR1 R1)|omega|rfl|decide|assumption|(intro _;omega)|(simp;done)|(simp [-List.getD_eq_getElem?_getD];omega)|exact hcode _|(intro _;exact hcode _)|exact hsl _|(intro _;exact hsl _)|(intro q;rw [hwj (by simpa using q)];have q:=of_decide_eq_true q;omega)))|omega|rfl|decide|assumption|(intro _;omega)|(simp;done)|(simp [-List.getD_eq_getElem?_getD];omega)|exact hcode _|(intro _;exact hcode _)|exact hsl _|(intro _;exact hsl _)|(intro q;rw [hwj (by simpa using q)];have q:=of_decide_eq_true q;omega))
  | ((with_reducible refine SART.doneAt 6 ?_);refine hR _ ?_;clear hR R;try simp only [go_sem,QCw,Nat.reduceBEq]
     exact Qo (by simp only [St.keep,List.filterMap_cons,List.filterMap_nil,List.lookup_cons,List.lookup_nil,Option.map_some,Option.map_none,beq_self_eq_true,Nat.reduceBEq,swp,List.map_set,hwp,he1,he2]<;>first|rfl|rw [List.set_comm _ _ (show j-1≠j by omega)]))
  | ((with_reducible first|refine qw ?_|refine Q4 ?_|refine ya ?_);refine hR _ ?_;clear hR R;try simp only [go_sem,QCw,Nat.reduceBEq])
  | (with_reducible first|refine qv ?_ ?_|exact qu|refine qt ?_ ?_)
  | (with_reducible first|refine J1 ?_|refine J2 ?_|refine J3 ?_|refine J4 ?_|refine J5 ?_|refine J6 ?_|refine J7 ?_|refine J8 (by decide) ?_|refine J9 ?_|refine Xu ?_|refine Q2 ?_|refine Q1 ?_|refine Yc ?_|refine Xt ?_)
  | ((with_reducible refine Qe 4 ?_)
     have hwj:0<j→IntKind.i64.wrap ((j:Int)-1)=((j-1:Nat):Int):=fun h0=>QGD (by have:=hI.lt;have:=hI.le;omega) h0
     have hwp:=QHQ (j:=j) (by have:=hI.lt;have:=hI.le;omega)
     have he1:=Xs (R:=Y) (k:=j) (by have:=hI.lt;have:=hI.le;have:=hI.len;omega) default
     have he2:=Xs (R:=Y) (k:=j-1) (by have:=hI.lt;have:=hI.le;have:=hI.len;omega) default
     have hjn:=hI.lt
     have hjl:=hI.len
     have hjle:=hI.le
     (with_reducible refine Ve ok QQ (by kernel_rfl) (by kernel_rfl) QCw ?_);intro R hR;simp only [go_sem,QC])
  | ((with_reducible refine Qe 6 ?_)
     have hjn:=hI.lt
     have hjl:=hI.len
     have hjle:=hI.le
     refine J35 ok QQ (.take 0 (.take 1 (.take 5 (.take 6 (.take 7 (.take 8 (.take 9 (.take 10 (.take 11 (.take 12 (.take 13 (.take 14 (.br 2 (.br 3 (.br 4 (.br 15 (.take 16 (.br 17 .done .nil)) .nil) (.br 15 (.take 4 (.take 16 (.br 17 .done .nil))) .nil)) (.br 15 (.take 3 (.take 4 (.take 16 (.br 17 .done .nil)))) .nil)) (.br 3 (.br 2 (.br 4 (.br 15 (.take 16 (.br 17 .done .nil)) .nil) (.br 15 (.take 4 (.take 16 (.br 17 .done .nil))) .nil)) (.br 4 (.br 2 (.br 15 (.take 16 (.br 17 .done .nil)) .nil) (.br 15 (.take 2 (.take 16 (.br 17 .done .nil))) .nil)) (.br 15 (.take 2 (.take 4 (.take 16 (.br 17 .done .nil)))) .nil))) (.br 15 (.take 2 (.take 3 (.take 4 (.take 16 (.br 17 .done .nil))))) .nil))))))))))))))) [15,17] QCw (by kernel_rfl) ({ tm:=[(0,true,.sl 3 60 0 l.length false),(1,true,.int .i64 0),(2,true,.int .i64 l.length),(3,true,.fn 154 []),(8,true,.int .i64 i),(9,true,.int .i64 j)],ob:=o0::o1::o2::.row 60 ((swp Y j).map Access.v)::xs,out:=tm::out,nt:=53 }) (fun R hR=>?_) ?_;simp only [go_sem,QC])
  | ((with_reducible refine rg QCw fun R hR=>?_);simp only [go_sem,QC])
  | ((with_reducible refine Ve ok QQ (by kernel_rfl) (by kernel_rfl) QCw ?_);intro R hR;simp only [go_sem,QC])
  | ((with_reducible refine QI 14 rfl (fun hb14=>?_) fun hb14=>?_);all_goals (try simp [-List.getD_eq_getElem?_getD] at hb14;try (exfalso;omega)))
  | ((with_reducible refine QI 34 rfl (fun hb34=>?_) fun hb34=>?_);all_goals (try simp [-List.getD_eq_getElem?_getD] at hb34;try (exfalso;omega)))
  | ((with_reducible refine Ya ?_)
     refine Zv (Qo (by first|rfl|(simp;done)|fail)) (Yb (fun n τ=>∃ (i:Nat) (Y:List Access),n=l.length-i∧((1≤i∧(i≤l.length∨i=1))∧SInvO l Y i)∧τ={ tm:=[(0,true,.sl 3 60 0 l.length false),(1,true,.int .i64 0),(2,true,.int .i64 l.length),(3,true,.fn 154 []),(8,true,.int .i64 i)],ob:=o0::o1::o2::.row 60 (Y.map Access.v)::xs,out:=tm::out,nt:=53 }) (l.length-1) ⟨1,l,rfl,⟨by omega,SInvO.first l⟩,rfl⟩ ?_)
     rintro n τ ⟨i,Y,hn,⟨hi,hO⟩,rfl⟩)
  | ((with_reducible refine Ya ?_)
     refine Zv (Qo (by first|rfl|(simp;done)|fail)) (Yb (fun n τ=>∃ (j:Nat) (Y:List Access),n=j∧(SInvI l Y i j)∧τ={ tm:=[(0,true,.sl 3 60 0 l.length false),(1,true,.int .i64 0),(2,true,.int .i64 l.length),(3,true,.fn 154 []),(8,true,.int .i64 i),(9,true,.int .i64 j)],ob:=o0::o1::o2::.row 60 (Y.map Access.v)::xs,out:=tm::out,nt:=53 }) (i) ⟨i,Y,rfl,hO.inner (by omega),rfl⟩ ?_)
     rintro n τ ⟨j,Y,hn,hI,rfl⟩)
  | ((with_reducible refine WC ?_)
     first
      | (have hl9:i<l.length:=by omega
         have hw:=QD (n:=i) (m:=256) (by omega) (by decide)
         have hle:=hI.done (by rcases Nat.eq_zero_or_pos j with h0|h0;exact .inl h0;right;have h1:=hb34 (by omega);have h2:=QIP (hI.all hs (k:=j) (by omega)) (hI.all hs (k:=j-1) (by omega));omega)
         refine Z0 (l.length-(i+1)) _ (by omega) (Qo (by simp only [hw])) ⟨i+1,Y,rfl,⟨by omega,hle⟩,rfl⟩)
      | (have q:_∧_:=hb34
         have h0:0<j:=by omega
         have h2:=QIP (hI.all hs (k:=j) (by omega)) (hI.all hs (k:=j-1) (by omega))
         refine Z0 (j-1) _ (by omega) (Qo (by simp only [hwj h0])) ⟨j-1,swp Y j,rfl,hI.swap h0 (h2.1 q.2),rfl⟩))
  | ((with_reducible first|refine xQ ?_|refine xP ?_)
     simp only [go_sem,QL,QM,QH,seval]
     exact h Y hO.perm (hO.sorted (by omega)))
def QLG:List (List Nat):=[[0,1,2,3,4,10],[0,1,2,3,4,10,11],[0,1,2,3,4,10,11,12],[0,1,2,3,4,10,11,12,25],[],[0,1,2,3,4,10,11,12,32],[],[0,1,2,3,4,10,11,12,39],[0,1,2,3,4,10,11,12],[0,1,2,3,4,10,11,12],[0,1,2,3,4,10,11,12,13,14],[0,1,2,3,4,10,11,12,13,14,56],[0,1,2,3,4,10,11,12,13],[0,1,2,3,4,10,11,12,13],[0,1,2,3,4,10,11,12,13,14],[0,1,2,3,4,10,11,12,13,75],[0,1,2,3,4,10,11,12,13,80],[0,1,2,3,4,10,11,12,13,97],[0,2,3,4,10,11,15],[0,1,2,3,4,10,11],[0,1,2,3,4,12,16,17],[0,1,2,3,4,11,12,16],[0,1,2,3,4,11,12,16,18,19],[0,1,2,3,4,11,16,18,19,20],[0,1,2,3,4,11,16,18,19,20,125],[0,1,2,3,4,10,11,16],[0,2,3,4,10,11,16],[0,1,2,3,4,10,11],[0,1,2,3,4,10,11,16],[0,1,3,4,10,11,16],[0,1,2,3,4,10,11]]
theorem QI0 (l:List Access) (hs:∀ a∈l,Wk a) (hl7:l.length≤7) (lim:Int) {o0 o1 o2:Obj} {tm:Tm} {out:List Tm} {nt:Nat} {xs:List Obj} {K:St→E→Prop} (h:∀ R:List Access,R.Perm l→R.Pairwise (fun a b=>Xy a≤Xy b)→K { tm:=tm,ob:=o0::o1::o2::.row 60 (R.map Access.v)::xs,out:=out,nt:=nt } (.tup [])):CallE Go.Proofs.Tryz.prog tab { tm:=tm,ob:=o0::o1::o2::.row 60 (l.map Access.v)::xs,out:=out,nt:=nt } 183 [.sl 3 60 0 l.length false,.int .i64 0,.int .i64 l.length,.int .i64 lim,.fn 154 []] K:=by
 have hw0:IntKind.i64.wrap ((l.length:Int)-0)=l.length:=by rw [Qc (by omega) (by omega)];omega
 refine CallE.body ok Go.Proofs.Tryz.func183 rfl rfl 148 rfl [] rfl (by simp) ?_
 simp only [enter,Zf,Nat.zero_add,Nat.reduceAdd]
 repeat' first
  | ((with_reducible first|refine Q5 fun R1 hR1=>?_|refine qz fun R1 hR1=>?_|refine qy fun R1 hR1=>?_|refine qx fun R1 hR1=>?_);(simp only [go_sem,seval,-List.reduceReplicate,Bool.cond_false_right,Bool.cond_true_left,hw0]);(repeat' with_reducible refine And.intro ?_ ?_);all_goals first|(refine hR1 _ ?_;clear hR1 R1)|((first|refine ⟨_,_,rfl,.inr (QEE l hs hl7 fun Y hY1 hY2=>?_)⟩);all_goals ((try simp only [go_sem,seval,-List.reduceReplicate,Bool.cond_false_right,Bool.cond_true_left,hw0]);(repeat' with_reducible refine And.intro ?_ ?_);all_goals first|(refine hR1 _ ?_;clear hR1 R1)|exact Zp))|exact Zp)
  | ((with_reducible first|refine qw ?_|refine Q4 ?_);refine hR _ ?_;clear hR R;try simp only [go_sem,QLG,Nat.reduceBEq])
  | (with_reducible first|refine qv ?_ ?_|exact qu|refine qt ?_ ?_)
  | (with_reducible first|refine J1 ?_|refine J2 ?_|refine J3 ?_|refine J4 ?_|refine J5 ?_|refine J6 ?_|refine J7 ?_|refine J8 (by decide) ?_|refine J9 ?_|refine Xu ?_|refine Q2 ?_|refine Q1 ?_|refine Yc ?_|refine Xt ?_)
  | ((with_reducible refine Qe 17 ?_)
     refine WT ok QQ (.take 0 (.take 1 (.take 2 (.take 3 (.take 4 (.take 5 (.take 6 (.take 7 (.take 8 (.take 9 (.take 10 (.take 11 (.take 12 (.br 13 (.take 14 (.take 15 (.take 16 .done))) .nil)))))))))))))) [] QLG (by kernel_rfl) (fun R hR=>?_);simp only [go_sem,QC])
  | ((with_reducible refine rg QLG fun R hR=>?_);simp only [go_sem,QC])
  | ((with_reducible refine QI 25 rfl (fun hb25=>?_) fun hb25=>?_);all_goals (try simp [-List.getD_eq_getElem?_getD] at hb25;try (exfalso;omega)))
  | ((with_reducible refine SA.cond rfl ?_ ?_)
     all_goals
      intro hb
      try simp [-List.getD_eq_getElem?_getD] at hb
      try (exfalso;omega))
  | ((with_reducible refine Ya ?_)
     refine Zv (Qo (by first|rfl|(simp;done)|fail)) (Yb (fun n τ=>∃ (z:Nat),n=z∧(z=0)∧τ={ tm:=[(0,true,.sl 3 60 0 l.length false),(1,true,.int .i64 0),(2,true,.int .i64 l.length),(3,true,.int .i64 lim),(4,true,.fn 154 []),(10,true,.bool true),(11,true,.bool true)],ob:=o0::o1::o2::.row 60 (l.map Access.v)::xs,out:=tm::out,nt:=148 }) (0) ⟨0,rfl,rfl,rfl⟩ ?_)
     rintro n τ ⟨z,hn,hz,rfl⟩)
  | ((with_reducible first|refine xQ ?_|refine xP ?_)
     simp only [go_sem,QL,QM,QH,seval]
     exact h Y hY1 hY2)
def QOk:List (List Nat):=[[0,1,4],[]]
theorem QGb (l:List Access) (hs:∀ a∈l,Wk a) (hn:l.length≤7) {o0 o1 o2:Obj} {tm:Tm} {out:List Tm} {nt:Nat} {xs:List Obj} {K:St→E→Prop} (h:∀ R:List Access,R.Perm l→R.Pairwise (fun a b=>Xy a≤Xy b)→K { tm:=tm,ob:=o0::o1::o2::.row 60 (R.map Access.v)::xs,out:=out,nt:=nt } (.tup [])):CallE Go.Proofs.Tryz.prog tab { tm:=tm,ob:=o0::o1::o2::.row 60 (l.map Access.v)::xs,out:=out,nt:=nt } 153 [.sl 3 60 0 l.length false,.fn 154 []] K:=by
 have hmx:256≤maxLen:=by decide
 have hu64:IntKind.u64.wrap (l.length:Int)=l.length:=by simp [IntKind.wrap,IntKind.signed,IntKind.bits];omega
 refine CallE.body ok Go.Proofs.Tryz.func153 rfl rfl 14 rfl [] rfl (by simp) ?_
 simp only [enter,Zf,Nat.zero_add,Nat.reduceAdd]
 repeat' first
  | ((with_reducible refine Q5 fun R1 hR1=>?_);(simp only [go_sem,seval,-List.reduceReplicate,Bool.cond_false_right,Bool.cond_true_left,hu64]);(repeat' with_reducible refine And.intro ?_ ?_);all_goals first|(refine hR1 _ ?_;clear hR1 R1)|((first|refine cq (cc (QNO l.length (by omega))) ?_|refine ⟨_,_,rfl,.inr (QI0 l hs hn _ fun Y hY1 hY2=>?_)⟩);all_goals ((try simp only [go_sem,seval,-List.reduceReplicate,Bool.cond_false_right,Bool.cond_true_left,hu64]);(repeat' with_reducible refine And.intro ?_ ?_);all_goals first|(refine hR1 _ ?_;clear hR1 R1)|exact Zp))|exact Zp)
  | ((with_reducible refine Q4 ?_);refine hR _ ?_;clear hR R;try simp only [go_sem,QOk,Nat.reduceBEq])
  | (with_reducible first|refine J1 ?_|refine J2 ?_|refine Q2 ?_|refine Q1 ?_)
  | ((with_reducible refine rg QOk fun R hR=>?_);simp only [go_sem,QC])
  | ((with_reducible first|refine xQ ?_|refine xP ?_)
     simp only [go_sem,QL,QM,QH,seval]
     exact h Y hY1 hY2)
theorem QDK {l:List Access} (h:l.length<2):Vk l=l:=by
 match l,h with
 | [],_=>rfl
 | [_],_=>rfl
 | a::b::l,h=>simp at h;omega
theorem QLy {l:List Access} {k:Nat} (h0:0<k) (hk:k<l.length) (hc:Vk (l.take k)=l.take k) (he:¬XB l k=XB l (k-1)):Vk (l.take (k+1))=l.take (k+1):=by
 rw [wC h0 hk,if_neg he,hc,← QAV hk]
theorem U8 (a b:Access):a.v.beq b.v=decide (a=b):=by
 obtain ⟨k,n,w⟩:=a
 obtain ⟨k',n',w'⟩:=b
 by_cases h1:k=k'<;>by_cases h2:n=n'<;>cases w<;>cases w'<;>simp [Access.v,V.beq,V.beqL,h1,h2]
theorem QJl (l:List Access):Vk (l.take 1)=l.take 1:=QDK (by rw [List.length_take];omega)
def QBJ:List (List Nat):=[[0],[0,8],[2],[0,3],[0,3,13],[0,3],[0,3,25],[0,3,4],[0,3,4,5],[0,3,4,5,32],[0,3,4,5],[0,3,4,5,44],[0,3,4,5],[0,3,4,5],[0,3],[2],[2]]
end Go.Eng.Tryz
