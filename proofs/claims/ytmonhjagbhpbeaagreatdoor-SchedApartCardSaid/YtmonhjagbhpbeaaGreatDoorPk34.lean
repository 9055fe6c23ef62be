/- A part of the proof: walks through the program's functions, and what they compute. -/
import Derived.Test.YtmonhjagbhpbeaaGreatDoorPk33
set_option linter.unusedSimpArgs false
set_option linter.unusedVariables false
namespace Go.Eng.Tryz
open Go.RowKit Go.Eng
set_option maxHeartbeats 0
set_option maxRecDepth 20000
theorem QEn (b:Bool):Ctr Go.Proofs.Tryz.prog tab 200 [4] [2] [.bool b] [.int (XY b)]:=by
 refine Ctr.body ok Go.Proofs.Tryz.func200 rfl rfl 4 rfl [.tmp 2] rfl (by simp [QF]) ?_
 simp only [go_sem,Nat.reduceAdd]
 repeat' first
  | ((with_reducible refine Q5 fun R1 hR1=>?_);(simp only [go_sem,seval,-List.reduceReplicate]);(repeat' with_reducible refine And.intro ?_ ?_);all_goals first|(refine hR1 _ ?_;clear hR1 R1)|exact ob3)
  | ((with_reducible refine Q4 ?_);refine hR _ ?_;clear hR R;try simp only [go_sem,QOG,Nat.reduceBEq])
  | (with_reducible first|refine J1 ?_|refine J2 ?_|refine J3 ?_|refine Q2 ?_|refine Q1 ?_)
  | ((with_reducible refine rg QOG fun R hR=>?_);simp only [go_sem,QC])
  | ((with_reducible refine SA.cond rfl ?_ ?_)
     all_goals
      intro hb
      try simp only [decide_eq_true_eq,decide_eq_false_iff_not] at hb)
  | ((with_reducible first|refine ZQ ?_|refine ZP ?_)
     simp only [go_sem,QL,QM,QH,seval]
     subst hb
     exact ⟨rfl,rfl⟩)
def QLJ:List (List Nat):=[[2,3,4,5,6,10],[2,3,4,5,6,10,11],[2,3,4,5,6,10,11,18],[6,10],[10],[2,3,4,6,10,11,26],[3,4,6,10,11],[3,4,6,10,11],[2,3,4,6,10,11],[2,3,4,6,10,11],[2,3,4,6,10,11],[3,4,6,10,11],[3,4,6,10,11],[4,6,10],[6,10],[10]]
theorem QE3 (p:Prg) (d:Did) (g c v:Int) (hp:p.Fit) (hs:d.s.Shape) (hg:0≤g∧g<6) (hc:0≤c∧c<p.chans.length∧c<4) (hl:(d.s.chans.getD c.toNat default).closed=false→0<p.chans.getD c.toNat 0→0≤(d.s.chans.getD c.toNat default).len∧(d.s.chans.getD c.toNat default).len<4):Ctr Go.Proofs.Tryz.prog tab 175 [26,223,3,3,2] [223] [p.v,d.v,.int g,.int c,.int v] [(YD p d g c v).v]:=by
 have hcode:=p.code_len hp
 have hsl:=p.sels_len hp
 obtain ⟨hp1,hp2,hp3,hp4⟩:=hp
 have hs1:=hs.vars
 have hs2:=hs.owner
 have hs3:=hs.chans
 have hs4:=hs.bufs
 have hs5:=hs.gos
 have hs6:=hs.regs
 refine Ctr.body ok Go.Proofs.Tryz.func175 rfl rfl 55 rfl [.cell 10 223] rfl (by simp [QF]) ?_
 simp only [go_sem,Nat.reduceAdd]
 repeat' first
  | ((with_reducible refine SARA.told 1 5 ?_)
     rw [Zl (by omega)])
  | ((with_reducible refine SARA.told 7 3 ?_)
     rw [Qc (n:=(d.s.chans.getD c.toNat default).len+1) (by omega) (by omega)])
  | ((with_reducible refine Q5 fun R1 hR1=>?_);(simp only [go_sem,seval,-List.reduceReplicate]);(repeat' with_reducible refine And.intro ?_ ?_);all_goals first|(refine hR1 _ ?_;clear hR1 R1)|exact VL)
  | ((with_reducible refine Q4 ?_);refine hR _ ?_;clear hR R;try simp only [go_sem,QLJ,Nat.reduceBEq])
  | (with_reducible first|refine J1 ?_|refine J2 ?_|refine J3 ?_|refine Q2 ?_|refine Q1 ?_)
  | ((with_reducible refine Qe 6 ?_)
     have hL:=hl hb18 hb26
     (with_reducible refine rg QLJ fun R hR=>?_);simp only [go_sem,QC])
  | ((with_reducible refine rg QLJ fun R hR=>?_);simp only [go_sem,QC])
  | ((with_reducible refine QI 18 rfl (fun hb18=>?_) fun hb18=>?_);all_goals (try simp only [decide_eq_true_eq,decide_eq_false_iff_not] at hb18))
  | ((with_reducible refine QI 26 rfl (fun hb26=>?_) fun hb26=>?_);all_goals (try simp only [decide_eq_true_eq,decide_eq_false_iff_not] at hb26))
  | ((with_reducible first|refine ZQ ?_|refine ZP ?_)
     simp only [go_sem,QL,QM,QH,seval]
     first
      | (have q:¬_:=hb26
         exact ⟨rfl,congrArg (fun d:Did=>some d.v) (show _=YD p d g c v from Eq.symm ((if_neg (fun q=>Bool.noConfusion (hb18.symm.trans q))).trans (if_neg hb26)))⟩)
      | (have q:=hb26
         exact ⟨rfl,congrArg (fun d:Did=>some d.v) (show _=YD p d g c v from Eq.symm ((if_neg (fun q=>Bool.noConfusion (hb18.symm.trans q))).trans (if_pos hb26)))⟩)
      | (exact ⟨rfl,congrArg (fun d:Did=>some d.v) (show _=YD p d g c v from Eq.symm (if_pos hb18))⟩))
def QOY:List (List Nat):=[[1,2,4],[1,2,4,5],[1,2,4,5,12],[2,4],[4],[1,2,4,5],[1,2,4,5,18],[1,2,4,5],[1,2,4,5],[2,4],[4]]
theorem QG7 (d:Did) (c:Int) (hs:d.s.Shape) (hc:0≤c∧c<4):Ctr Go.Proofs.Tryz.prog tab 177 [223,3] [223] [d.v,.int c] [(Zu d c).v]:=by
 have hs1:=hs.vars
 have hs2:=hs.owner
 have hs3:=hs.chans
 have hs4:=hs.bufs
 have hs5:=hs.gos
 have hs6:=hs.regs
 refine Ctr.body ok Go.Proofs.Tryz.func177 rfl rfl 27 rfl [.cell 4 223] rfl (by simp [QF]) ?_
 simp only [go_sem,Nat.reduceAdd]
 repeat' first
  | ((with_reducible refine SARA.told 1 5 ?_)
     rw [Zl (by omega)])
  | ((with_reducible refine Q5 fun R1 hR1=>?_);(simp only [go_sem,seval,-List.reduceReplicate]);(repeat' with_reducible refine And.intro ?_ ?_);all_goals first|(refine hR1 _ ?_;clear hR1 R1)|exact VL)
  | ((with_reducible refine Q4 ?_);refine hR _ ?_;clear hR R;try simp only [go_sem,QOY,Nat.reduceBEq])
  | (with_reducible first|refine J1 ?_|refine J2 ?_|refine J3 ?_|refine Q2 ?_|refine Q1 ?_)
  | ((with_reducible refine rg QOY fun R hR=>?_);simp only [go_sem,QC])
  | ((with_reducible refine QI 12 rfl (fun hb12=>?_) fun hb12=>?_);all_goals (try simp only [decide_eq_true_eq,decide_eq_false_iff_not] at hb12))
  | ((with_reducible refine QI 18 rfl (fun hb18=>?_) fun hb18=>?_);all_goals (try simp only [decide_eq_true_eq,decide_eq_false_iff_not] at hb18))
  | ((with_reducible first|refine ZQ ?_|refine ZP ?_)
     simp only [go_sem,QL,QM,QH,seval]
     first
      | (have q:¬_:=hb18
         exact ⟨rfl,congrArg (fun d:Did=>some d.v) (show _=Zu d c from Eq.symm ((if_neg (fun q=>Bool.noConfusion (hb12.symm.trans q))).trans (if_neg hb18)))⟩)
      | (have q:=hb18
         exact ⟨rfl,congrArg (fun d:Did=>some d.v) (show _=Zu d c from Eq.symm ((if_neg (fun q=>Bool.noConfusion (hb12.symm.trans q))).trans (if_pos hb18)))⟩)
      | (exact ⟨rfl,congrArg (fun d:Did=>some d.v) (show _=Zu d c from Eq.symm (if_pos hb12))⟩))
def QOZ:List (List Nat):=[[1,2,3,6],[1,2,3,6,7],[1,2,3,6,7,15],[1,2,3,6,7],[1,2,3,6,7],[1,2,3,6,7],[1,2,3,6,7],[1,3,6],[3,6],[6]]
theorem QIj (d:Did) (g c:Int) (hs:d.s.Shape) (hg:0≤g∧g<6) (hc:0≤c∧c<4):Ctr Go.Proofs.Tryz.prog tab 174 [223,3,3] [223] [d.v,.int g,.int c] [(YN d g c).v]:=by
 have hs1:=hs.vars
 have hs2:=hs.owner
 have hs3:=hs.chans
 have hs4:=hs.bufs
 have hs5:=hs.gos
 have hs6:=hs.regs
 refine Ctr.body ok Go.Proofs.Tryz.func174 rfl rfl 31 rfl [.cell 6 223] rfl (by simp [QF]) ?_
 simp only [go_sem,Nat.reduceAdd]
 repeat' first
  | ((with_reducible refine SARA.told 1 5 ?_)
     rw [Zl (by omega)])
  | ((with_reducible refine Q5 fun R1 hR1=>?_);(simp only [go_sem,seval,-List.reduceReplicate]);(repeat' with_reducible refine And.intro ?_ ?_);all_goals first|(refine hR1 _ ?_;clear hR1 R1)|exact VL)
  | ((with_reducible refine Q4 ?_);refine hR _ ?_;clear hR R;try simp only [go_sem,QOZ,Nat.reduceBEq])
  | (with_reducible first|refine J1 ?_|refine J2 ?_|refine J3 ?_|refine Q2 ?_|refine Q1 ?_)
  | ((with_reducible refine rg QOZ fun R hR=>?_);simp only [go_sem,QC])
  | ((with_reducible refine QI 15 rfl (fun hb15=>?_) fun hb15=>?_);all_goals (try simp only [decide_eq_true_eq,decide_eq_false_iff_not] at hb15))
  | ((with_reducible first|refine ZQ ?_|refine ZP ?_)
     simp only [go_sem,QL,QM,QH,seval]
     first
      | (have q:¬_:=hb15
         refine ⟨rfl,congrArg (fun d:Did=>some d.v) ?_⟩
         have e:(if (d.s.chn c).offer=3 then 4 else d.why)=d.why:=if_neg hb15
         unfold YN
         simp only
         rw [e]
         rfl)
      | (refine ⟨rfl,congrArg (fun d:Did=>some d.v) ?_⟩
         have e:(if (d.s.chn c).offer=3 then 4 else d.why)=4:=if_pos hb15
         unfold YN
         simp only
         rw [e]
         rfl))
def QLI:List (List Nat):=[[1,2,3,4,5,10],[1,2,3,4,5,10,11],[1,2,3,4,5,10,11,12],[1,2,3,4,5,10,11,12,13],[1,2,3,4,5,10,11,12,13,22],[1,2,3,4,5,10,11,12,13],[1,2,3,4,5,10,11,12,13,14],[1,2,3,4,5,10,11,12,13,14,30],[1,2,3,4,5,10,11,12,13,14],[1,2,3,4,5,10,11,12,13,14],[1,2,3,4,5,10,11,12,13],[1,2,3,4,5,10,11,12,13],[1,2,3,4,5,10,11,12,13,52],[1,2,3,4,5,10,11,12,13],[1,2,3,4,5,10,11,12,13],[1,2,3,4,5,10,11,12,13],[1,2,3,4,5,10,11,12,13],[1,3,4,5,10,12,13],[1,4,5,10,12,13],[5,10,12],[5,10],[10]]
theorem QFD (d:Did) (g c r k:Int) (hs:d.s.Shape) (hg:0≤g∧g<6) (hc:0≤c∧c<4) (hr:r<8) (hk:k<8) (hl:0≤(d.s.chans.getD c.toNat default).len∧(d.s.chans.getD c.toNat default).len≤4):Ctr Go.Proofs.Tryz.prog tab 176 [223,3,3,3,3] [223] [d.v,.int g,.int c,.int r,.int k] [(YX d g c r k).v]:=by
 have hs1:=hs.vars
 have hs2:=hs.owner
 have hs3:=hs.chans
 have hs4:=hs.bufs
 have hs5:=hs.gos
 have hs6:=hs.regs
 have h8:(d.s.gos.getD g.toNat default).regs.length=8:=hs6 _ (Qj _ (by omega))
 have hbl:(d.s.chans.getD c.toNat default).buf.length=4:=hs4 _ (Qj _ (by omega))
 refine Ctr.body ok Go.Proofs.Tryz.func176 rfl rfl 80 rfl [.cell 10 223] rfl (by simp [QF]) ?_
 simp only [go_sem,Nat.reduceAdd]
 repeat' first
  | ((with_reducible refine SARA.told 1 5 ?_)
     rw [Zl (by omega)])
  | ((with_reducible refine SARA.told 7 2 ?_)
     rw [QD (n:=i) (m:=256) (by omega) (by decide)])
  | ((with_reducible refine SARA.told 9 3 ?_)
     rw [QD (n:=i) (m:=256) (by omega) (by decide)])
  | ((with_reducible refine SARA.told 10 3 ?_)
     rw [Qc (n:=(d.s.chans.getD c.toNat default).len-1) (by omega) (by omega)])
  | ((with_reducible refine SARA.told 11 3 ?_)
     rw [Qc (n:=(d.s.chans.getD c.toNat default).len-1) (by omega) (by omega)])
  | ((with_reducible first|refine Q5 fun R1 hR1=>?_|refine qz fun R1 hR1=>?_|refine qy fun R1 hR1=>?_|refine qx fun R1 hR1=>?_);(simp only [go_sem,seval,-List.reduceReplicate]);(repeat' with_reducible refine And.intro ?_ ?_);all_goals first|(refine hR1 _ ?_;clear hR1 R1)|((first|refine cq (cc (v9 _ g _ _ ?_ hg hr)) ?_|refine cq (cc (QEn _)) ?_|refine cq (cc (v9 _ g _ _ ?_ hg hk)) ?_);all_goals ((try simp only [go_sem,seval,-List.reduceReplicate]);(repeat' with_reducible refine And.intro ?_ ?_);all_goals first|(refine hR1 _ ?_;clear hR1 R1)|omega|rfl|decide|assumption|(intro _;omega)|(simp;done)|(simp [-List.getD_eq_getElem?_getD];omega)|exact hcode _|(intro _;exact hcode _)|exact hsl _|(intro _;exact hsl _)|(simp [-List.getD_eq_getElem?_getD,Q3,maxLen,by3,VS,V5,Uf,Ug];omega)|(simp [-List.getD_eq_getElem?_getD,Q3,maxLen,by3,VS,V5,Uf,Ug];done)|(simp [Yg];omega)|exact Ye hs _ hbl|exact Ye hs _ (by simpa [Yg] using hbl)|exact yB (Ye hs _ hbl) hg _ _|exact yB (Ye hs _ (by simpa [Yg] using hbl)) hg _ _))|omega|rfl|decide|assumption|(intro _;omega)|(simp;done)|(simp [-List.getD_eq_getElem?_getD];omega)|exact hcode _|(intro _;exact hcode _)|exact hsl _|(intro _;exact hsl _)|(simp [-List.getD_eq_getElem?_getD,Q3,maxLen,by3,VS,V5,Uf,Ug];omega)|(simp [-List.getD_eq_getElem?_getD,Q3,maxLen,by3,VS,V5,Uf,Ug];done)|(simp [Yg];omega)|exact Ye hs _ hbl|exact Ye hs _ (by simpa [Yg] using hbl)|exact yB (Ye hs _ hbl) hg _ _|exact yB (Ye hs _ (by simpa [Yg] using hbl)) hg _ _)
  | ((with_reducible first|refine qw ?_|refine Q4 ?_);refine hR _ ?_;clear hR R;try simp only [go_sem,QLI,Nat.reduceBEq])
  | (with_reducible first|refine qv ?_ ?_|exact qu|refine qt ?_ ?_)
  | (with_reducible first|refine J1 ?_|refine J2 ?_|refine J3 ?_|refine J4 ?_|refine J5 ?_|refine J6 ?_|refine J7 ?_|refine J8 (by decide) ?_|refine J9 ?_|refine Xu ?_|refine Q2 ?_|refine Q1 ?_|refine Yc ?_|refine Xt ?_)
  | ((with_reducible refine Qe 19 ?_)
     refine WT ok QQ (.take 0 (.take 1 (.take 2 (.take 3 (.take 4 (.br 5 (.br 6 (.take 7 (.br 8 .done .nil)) .nil) .nil)))))) [8] QLI (by kernel_rfl) (fun R hR=>?_);simp only [go_sem,QC])
  | ((with_reducible refine rg QLI fun R hR=>?_);simp only [go_sem,QC])
  | ((with_reducible refine QI 22 rfl (fun hb22=>?_) fun hb22=>?_);all_goals (try simp only [decide_eq_true_eq,decide_eq_false_iff_not] at hb22))
  | ((with_reducible refine QI 30 rfl (fun hb30=>?_) fun hb30=>?_);all_goals (try simp only [decide_eq_true_eq,decide_eq_false_iff_not] at hb30))
  | ((with_reducible refine QI 52 rfl (fun hb52=>?_) fun hb52=>?_);all_goals (try simp only [decide_eq_true_eq,decide_eq_false_iff_not] at hb52))
  | ((with_reducible refine Ya ?_)
     refine Zv (Qo (by simp only [QDy];rfl)) (Yb (fun n τ=>∃ (i:Nat),n=(d.s.chans.getD c.toNat default).len.toNat-i∧((i:Int)+1≤(d.s.chans.getD c.toNat default).len)∧τ={ tm:=[(1,true,.int .i64 g),(2,true,.int .i64 c),(3,true,.int .i64 r),(4,true,.int .i64 k),(5,true,.ptr 0 [] 223),(10,true,.ptr 1 [] 223),(11,true,.ptr 2 [] 41),(12,true,.int .i64 ((d.s.chans.getD c.toNat default).buf.getD 0 0)),(13,true,.bool true),(14,true,.int .i64 i)],ob:=[.var 223 (.data 223 d.v),.var 223 (.data 223 (tab.zero 223)),.var 41 (.data 41 (Chn.v ⟨YF (d.s.chans.getD c.toNat default).buf i,(d.s.chans.getD c.toNat default).len,(d.s.chans.getD c.toNat default).closed,(d.s.chans.getD c.toNat default).offer,(d.s.chans.getD c.toNat default).from_,(d.s.chans.getD c.toNat default).val⟩))],out:=[],nt:=80 }) ((d.s.chans.getD c.toNat default).len.toNat) ⟨0,rfl,by omega,rfl⟩ ?_)
     rintro n τ ⟨i,hn,hi,rfl⟩)
  | ((with_reducible refine WC ?_)
     first
      | (have hw:=QD (n:=i) (m:=256) (by omega) (by decide)
         refine Z0 ((d.s.chans.getD c.toNat default).len.toNat-(i+1)) _ (by omega) (Qo (by simp only [hw,QAo (d.s.chans.getD c.toNat default).buf (n:=i) (i:=i+1) (by omega) (by omega),QDz (d.s.chans.getD c.toNat default).buf (n:=i) (by omega)])) ⟨i+1,rfl,by omega,rfl⟩))
  | ((with_reducible first|refine ZQ ?_|refine ZP ?_)
     simp only [go_sem,QL,QM,QH,seval]
     first
      | (have q:_=_:=hb52
         exact ⟨rfl,congrArg (fun d:Did=>some d.v) (show _=YX d g c r k from Eq.symm ((if_neg hb22).trans (if_pos hb52)))⟩)
      | (have q:¬_:=hb52
         exact ⟨rfl,congrArg (fun d:Did=>some d.v) (show _=YX d g c r k from Eq.symm ((if_neg hb22).trans (if_neg hb52)))⟩)
      | (have e:i=((d.s.chans.getD c.toNat default).len-1).toNat:=by omega
         subst e
         exact ⟨rfl,congrArg (fun d:Did=>some d.v) (show _=YX d g c r k from Eq.symm (if_pos hb22))⟩))
def Uy:List (List Nat):=[[1,3,5,6],[1,3,5,6,7],[1,3,5,6,7,15],[1,3,5,6,7,15,16],[1,3,5,6],[3,6],[1,3,5,6,7,15,34],[3,5,6],[3,6],[1,3,5,6,7,15,48],[1,3,5,6],[3,5,6],[3,6],[1,3,5,6,7,15,82],[1,3,5,6,7],[1,3,5,6,7,99],[1,3,5,6],[3,6],[1,3,5,6,7,15,118],[3,6],[1,3,5,6,15,125],[3,6],[1,3,5,6,15,134],[3,5,6,144],[3,6],[6],[3,6],[1,3,5,6,152],[1,3,5,6],[1,3,5,6,165],[1,3,5,6],[3,6],[6]]
theorem QB5 (p:Prg) (f:Fnc) (d:Did) (g:Int) (x:Instr) (hs:d.s.Shape) (hg:0≤g∧g<6) (hin:Qb p f x=0) (hrg:f.regs≤8) (hsz:p.vars.length≤8∧p.locks≤4):Ctr Go.Proofs.Tryz.prog tab 179 [223,3,104] [223] [d.v,.int g,x.v] [(ZB d g x).v]:=by
 have hs1:=hs.vars
 have hs2:=hs.owner
 have hs3:=hs.chans
 have hs4:=hs.bufs
 have hs5:=hs.gos
 have hs6:=hs.regs
 have h8:(d.s.gos.getD g.toNat default).regs.length=8:=hs6 _ (Qj _ (by omega))
 refine Ctr.body ok Go.Proofs.Tryz.func179 rfl rfl 183 rfl [.cell 6 223] rfl (by simp [QF]) ?_
 simp only [go_sem,Nat.reduceAdd]
 repeat' first
  | ((with_reducible refine SARA.told 21 4 ?_)
     rw [Qc (n:=g+1) (by omega) (by omega)])
  | ((with_reducible refine SARA.told 23 8 ?_)
     rw [Qc (n:=g+1) (by omega) (by omega)])
  | ((with_reducible refine SARA.told 30 4 ?_)
     rw [Qc (n:=g+1) (by omega) (by omega)])
  | ((with_reducible first|refine Q5 fun R1 hR1=>?_|refine qz fun R1 hR1=>?_|refine qy fun R1 hR1=>?_|refine qx fun R1 hR1=>?_);(simp only [go_sem,seval,-List.reduceReplicate]);(repeat' with_reducible refine And.intro ?_ ?_);all_goals first|(refine hR1 _ ?_;clear hR1 R1)|((first|refine cq (cc (v9 _ g _ _ ?_ hg ?_)) ?_|refine cq (cc (QEn _)) ?_);all_goals ((try simp only [go_sem,seval,-List.reduceReplicate]);(repeat' with_reducible refine And.intro ?_ ?_);all_goals first|(refine hR1 _ ?_;clear hR1 R1)|omega|rfl|decide|assumption|(intro _;omega)|(simp;done)|(simp [-List.getD_eq_getElem?_getD];omega)|exact hcode _|(intro _;exact hcode _)|exact hsl _|(intro _;exact hsl _)|(simp [-List.getD_eq_getElem?_getD,Q3,maxLen,by3,VS,V5,Uf,Ug];omega)|(simp [-List.getD_eq_getElem?_getD,Q3,maxLen,by3,VS,V5,Uf,Ug];done)|exact hs|exact qH hs _ _|exact yC hs _ _))|omega|rfl|decide|assumption|(intro _;omega)|(simp;done)|(simp [-List.getD_eq_getElem?_getD];omega)|exact hcode _|(intro _;exact hcode _)|exact hsl _|(intro _;exact hsl _)|(simp [-List.getD_eq_getElem?_getD,Q3,maxLen,by3,VS,V5,Uf,Ug];omega)|(simp [-List.getD_eq_getElem?_getD,Q3,maxLen,by3,VS,V5,Uf,Ug];done)|exact hs|exact qH hs _ _|exact yC hs _ _)
  | ((with_reducible first|refine qw ?_|refine Q4 ?_);refine hR _ ?_;clear hR R;try simp only [go_sem,Uy,Nat.reduceBEq])
  | (with_reducible first|refine qv ?_ ?_|exact qu|refine qt ?_ ?_)
  | (with_reducible first|refine J1 ?_|refine J2 ?_|refine J3 ?_|refine J4 ?_|refine J5 ?_|refine J6 ?_|refine J7 ?_|refine J8 (by decide) ?_|refine J9 ?_|refine Q2 ?_|refine Q1 ?_|refine Yc ?_)
  | ((with_reducible refine Qe 4 ?_)
     have hI:=QCY hin hb16
     (with_reducible refine rg Uy fun R hR=>?_);simp only [go_sem,QC])
  | ((with_reducible refine Qe 7 ?_)
     have hI:=QCX hin hb34
     (with_reducible refine rg Uy fun R hR=>?_);simp only [go_sem,QC])
  | ((with_reducible refine Qe 10 ?_)
     have hI:=QCW hin hb48
     (with_reducible refine rg Uy fun R hR=>?_);simp only [go_sem,QC])
  | ((with_reducible refine Qe 19 ?_)
     have hI:=QAP hin hb118
     (with_reducible refine rg Uy fun R hR=>?_);simp only [go_sem,QC])
  | ((with_reducible refine Qe 21 ?_)
     have hI:=yd hin (.inl hb125)
     (with_reducible refine rg Uy fun R hR=>?_);simp only [go_sem,QC])
  | ((with_reducible refine Qe 23 ?_)
     have hI:=yd hin (.inr hb134)
     (with_reducible refine rg Uy fun R hR=>?_);simp only [go_sem,QC])
  | ((with_reducible refine Qe 28 ?_)
     have hI:=QCU hin hb152
     (with_reducible refine rg Uy fun R hR=>?_);simp only [go_sem,QC])
  | ((with_reducible refine Qe 11 ?_)
     refine WT ok QQ (.take 0 (.take 1 (.take 2 (.take 3 (.take 4 (.take 5 (.take 6 (.take 7 (.take 8 (.take 9 (.take 10 (.br 11 (.take 12 (.br 13 .done .nil)) .nil)))))))))))) [13] Uy (by kernel_rfl) (fun R hR=>?_);simp only [go_sem,QC])
  | ((with_reducible refine Qe 12 ?_)
     refine WT ok QQ (.take 0 (.take 1 (.take 2 (.take 3 (.take 4 (.take 5 (.take 6 (.take 7 (.take 8 (.take 9 (.take 10 (.take 11 (.take 12 (.take 13 (.br 14 .done .nil))))))))))))))) [14] Uy (by kernel_rfl) (fun R hR=>?_);simp only [go_sem,QC])
  | ((with_reducible refine Qe 14 ?_)
     have hI:=QCV hin hb82
     refine WT ok QQ (.take 0 (.take 1 (.take 2 (.take 3 (.take 4 (.take 5 (.take 6 (.take 7 (.take 8 (.take 9 (.take 10 (.br 11 (.take 12 (.br 13 .done .nil)) .nil)))))))))))) [13] Uy (by kernel_rfl) (fun R hR=>?_);simp only [go_sem,QC])
  | ((with_reducible refine Qe 16 ?_)
     refine WT ok QQ (.take 0 (.take 1 (.take 2 (.take 3 (.take 4 (.take 5 (.take 6 (.take 7 (.take 8 (.br 9 .done .nil)))))))))) [9] Uy (by kernel_rfl) (fun R hR=>?_);simp only [go_sem,QC])
  | ((with_reducible refine rg Uy fun R hR=>?_);simp only [go_sem,QC])
  | ((with_reducible refine QI 16 rfl (fun hb16=>?_) fun hb16=>?_);all_goals (try simp only [decide_eq_true_eq,decide_eq_false_iff_not,Bool.not_eq_eq_eq_not,Bool.not_true,Bool.not_false,ne_eq,decide_not,Bool.not_eq_true'] at hb16))
  | ((with_reducible refine QI 34 rfl (fun hb34=>?_) fun hb34=>?_);all_goals (try simp only [decide_eq_true_eq,decide_eq_false_iff_not,Bool.not_eq_eq_eq_not,Bool.not_true,Bool.not_false,ne_eq,decide_not,Bool.not_eq_true'] at hb34))
  | ((with_reducible refine QI 48 rfl (fun hb48=>?_) fun hb48=>?_);all_goals (try simp only [decide_eq_true_eq,decide_eq_false_iff_not,Bool.not_eq_eq_eq_not,Bool.not_true,Bool.not_false,ne_eq,decide_not,Bool.not_eq_true'] at hb48))
  | ((with_reducible refine QI 82 rfl (fun hb82=>?_) fun hb82=>?_);all_goals (try simp only [decide_eq_true_eq,decide_eq_false_iff_not,Bool.not_eq_eq_eq_not,Bool.not_true,Bool.not_false,ne_eq,decide_not,Bool.not_eq_true'] at hb82))
  | ((with_reducible refine QI 99 rfl (fun hb99=>?_) fun hb99=>?_);all_goals (try simp only [decide_eq_true_eq,decide_eq_false_iff_not,Bool.not_eq_eq_eq_not,Bool.not_true,Bool.not_false,ne_eq,decide_not,Bool.not_eq_true'] at hb99))
  | ((with_reducible refine QI 118 rfl (fun hb118=>?_) fun hb118=>?_);all_goals (try simp only [decide_eq_true_eq,decide_eq_false_iff_not,Bool.not_eq_eq_eq_not,Bool.not_true,Bool.not_false,ne_eq,decide_not,Bool.not_eq_true'] at hb118))
  | ((with_reducible refine QI 125 rfl (fun hb125=>?_) fun hb125=>?_);all_goals (try simp only [decide_eq_true_eq,decide_eq_false_iff_not,Bool.not_eq_eq_eq_not,Bool.not_true,Bool.not_false,ne_eq,decide_not,Bool.not_eq_true'] at hb125))
  | ((with_reducible refine QI 134 rfl (fun hb134=>?_) fun hb134=>?_);all_goals (try simp only [decide_eq_true_eq,decide_eq_false_iff_not,Bool.not_eq_eq_eq_not,Bool.not_true,Bool.not_false,ne_eq,decide_not,Bool.not_eq_true'] at hb134))
  | ((with_reducible refine QI 144 rfl (fun hb144=>?_) fun hb144=>?_);all_goals (try simp only [decide_eq_true_eq,decide_eq_false_iff_not,Bool.not_eq_eq_eq_not,Bool.not_true,Bool.not_false,ne_eq,decide_not,Bool.not_eq_true'] at hb144))
  | ((with_reducible refine QI 152 rfl (fun hb152=>?_) fun hb152=>?_);all_goals (try simp only [decide_eq_true_eq,decide_eq_false_iff_not,Bool.not_eq_eq_eq_not,Bool.not_true,Bool.not_false,ne_eq,decide_not,Bool.not_eq_true'] at hb152))
  | ((with_reducible refine QI 165 rfl (fun hb165=>?_) fun hb165=>?_);all_goals (try simp only [decide_eq_true_eq,decide_eq_false_iff_not,Bool.not_eq_eq_eq_not,Bool.not_true,Bool.not_false,ne_eq,decide_not,Bool.not_eq_true'] at hb165))
  | ((with_reducible first|refine ZQ ?_|refine ZP ?_)
     simp only [go_sem,QL,QM,QH,seval]
     first
      | (have q:_=_:=hb165
         refine ⟨rfl,congrArg (fun d:Did=>some d.v) ?_⟩
         rw [QBW hb16 hb34 hb48 hb82 hb118 hb125 hb134 hb152]
         exact (if_pos hb165).symm)
      | (have q:¬_:=hb165
         refine ⟨rfl,congrArg (fun d:Did=>some d.v) ?_⟩
         rw [QBW hb16 hb34 hb48 hb82 hb118 hb125 hb134 hb152]
         exact (if_neg hb165).symm)
      | (have q:_=_:=hb99
         refine ⟨rfl,congrArg (fun d:Did=>some d.v) ?_⟩
         rw [QBX hb16 hb34 hb48 hb82]
         exact (if_pos hb99).symm)
      | (have q:¬_:=hb99
         refine ⟨rfl,congrArg (fun d:Did=>some d.v) ?_⟩
         rw [QBX hb16 hb34 hb48 hb82]
         exact (if_neg hb99).symm)
      | (have q:¬_:=hb144
         exact ⟨rfl,congrArg (fun d:Did=>some d.v) (show _=ZB d g x from Eq.symm ((if_neg hb16).trans ((if_neg hb34).trans ((if_neg hb48).trans ((if_neg hb82).trans ((if_neg hb118).trans ((if_neg hb125).trans ((if_pos hb134).trans (if_pos hb144)))))))))⟩)
      | (have q:=hb144
         exact ⟨rfl,congrArg (fun d:Did=>some d.v) (show _=ZB d g x from Eq.symm ((if_neg hb16).trans ((if_neg hb34).trans ((if_neg hb48).trans ((if_neg hb82).trans ((if_neg hb118).trans ((if_neg hb125).trans ((if_pos hb134).trans (if_neg (fun q=>q hb144))))))))))⟩)
      | (exact ⟨rfl,congrArg (fun d:Did=>some d.v) (show _=ZB d g x from Eq.symm (if_pos hb16))⟩)
      | (exact ⟨rfl,congrArg (fun d:Did=>some d.v) (show _=ZB d g x from Eq.symm ((if_neg hb16).trans (if_pos hb34)))⟩)
      | (exact ⟨rfl,congrArg (fun d:Did=>some d.v) (show _=ZB d g x from Eq.symm ((if_neg hb16).trans ((if_neg hb34).trans (if_pos hb48))))⟩)
      | (exact ⟨rfl,congrArg (fun d:Did=>some d.v) (show _=ZB d g x from Eq.symm ((if_neg hb16).trans ((if_neg hb34).trans ((if_neg hb48).trans ((if_neg hb82).trans (if_pos hb118))))))⟩)
      | (exact ⟨rfl,congrArg (fun d:Did=>some d.v) (show _=ZB d g x from Eq.symm ((if_neg hb16).trans ((if_neg hb34).trans ((if_neg hb48).trans ((if_neg hb82).trans ((if_neg hb118).trans (if_pos hb125)))))))⟩)
      | (exact ⟨rfl,congrArg (fun d:Did=>some d.v) (show _=ZB d g x from Eq.symm ((if_neg hb16).trans ((if_neg hb34).trans ((if_neg hb48).trans ((if_neg hb82).trans ((if_neg hb118).trans ((if_neg hb125).trans ((if_neg hb134).trans (if_neg hb152)))))))))⟩))
def QLH:List (List Nat):=[[2,4,5,7,8],[2,4,5,7,8,16],[5,8],[8],[2,4,5,7,8,9],[2,5,7,8,9,10],[2,5,7,8,9,10,11],[2,5,7,8,9,10,11,12],[2,5,7,8,9,10,11,12,34],[2,5,7,8,9,10,11,12],[2,5,7,8,9,10,11,12],[2,5,7,8,9],[2,5,7,8,9],[5,8,9],[5,8],[8]]
theorem QIo (p:Prg) (d:Did) (g:Int) (x:Instr) (hs:d.s.Shape) (hg:0≤g∧g<6) (hc0:0≤d.s.count) (ha:x.a<8) (hb:0≤x.b∧x.b<p.funcs.length) (hpm:0≤(p.funcs.getD x.b.toNat default).params∧(p.funcs.getD x.b.toNat default).params≤8) (hx:0<(p.funcs.getD x.b.toNat default).params→0≤x.c∧x.c+(p.funcs.getD x.b.toNat default).params≤8):Ctr Go.Proofs.Tryz.prog tab 178 [26,223,3,104] [223] [p.v,d.v,.int g,x.v] [(Zo p d g x).v]:=by
 have hs1:=hs.vars
 have hs2:=hs.owner
 have hs3:=hs.chans
 have hs4:=hs.bufs
 have hs5:=hs.gos
 have hs6:=hs.regs
 have h8:(d.s.gos.getD g.toNat default).regs.length=8:=hs6 _ (Qj _ (by omega))
 refine Ctr.body ok Go.Proofs.Tryz.func178 rfl rfl 71 rfl [.cell 8 223] rfl (by simp [QF]) ?_
 simp only [go_sem,Nat.reduceAdd]
 repeat' first
  | ((with_reducible refine SARA.told 5 6 ?_)
     rw [XM (by omega)])
  | ((with_reducible refine SART.told 10 5 ?_)
     rw [Qc (n:=x.c+(i:Int)) (by omega) (by omega)])
  | ((with_reducible refine SARA.told 12 2 ?_)
     rw [Qc (n:=d.s.count+1) (by omega) (by omega)])
  | ((with_reducible first|refine Q5 fun R1 hR1=>?_|refine qz fun R1 hR1=>?_|refine qy fun R1 hR1=>?_|refine qx fun R1 hR1=>?_);(simp only [go_sem,seval,-List.reduceReplicate,Q6]);(repeat' with_reducible refine And.intro ?_ ?_);all_goals first|(refine hR1 _ ?_;clear hR1 R1)|((first|refine cq (cc (v9 _ g _ _ ?_ hg ha)) ?_);all_goals ((try simp only [go_sem,seval,-List.reduceReplicate,Q6]);(repeat' with_reducible refine And.intro ?_ ?_);all_goals first|(refine hR1 _ ?_;clear hR1 R1)|omega|rfl|decide|assumption|(intro _;omega)|(simp;done)|(simp [-List.getD_eq_getElem?_getD];omega)|exact hcode _|(intro _;exact hcode _)|exact hsl _|(intro _;exact hsl _)|(simp [-List.getD_eq_getElem?_getD,Q3,maxLen,by3,VS,V5,Uf,Ug];omega)|(simp [-List.getD_eq_getElem?_getD,Q3,maxLen,by3,VS,V5,Uf,Ug];done)|exact Yr hs _ _ (by simp [Q7])))|omega|rfl|decide|assumption|(intro _;omega)|(simp;done)|(simp [-List.getD_eq_getElem?_getD];omega)|exact hcode _|(intro _;exact hcode _)|exact hsl _|(intro _;exact hsl _)|(simp [-List.getD_eq_getElem?_getD,Q3,maxLen,by3,VS,V5,Uf,Ug];omega)|(simp [-List.getD_eq_getElem?_getD,Q3,maxLen,by3,VS,V5,Uf,Ug];done)|exact Yr hs _ _ (by simp [Q7]))
  | ((with_reducible first|refine qw ?_|refine Q4 ?_);refine hR _ ?_;clear hR R;try simp only [go_sem,QLH,Nat.reduceBEq])
  | (with_reducible first|refine qv ?_ ?_|exact qu|refine qt ?_ ?_)
  | (with_reducible first|refine J1 ?_|refine J2 ?_|refine J3 ?_|refine J4 ?_|refine J5 ?_|refine J6 ?_|refine J7 ?_|refine J8 (by decide) ?_|refine J9 ?_|refine Xu ?_|refine Q2 ?_|refine Q1 ?_|refine Yc ?_|refine Xt ?_)
  | ((with_reducible refine Qe 10 ?_)
     have hxx:=hx (by omega)
     refine WT ok QQ (.take 0 (.take 1 (.take 2 (.take 3 (.take 4 (.take 5 (.take 6 (.take 7 (.take 8 (.take 9 (.take 10 (.take 11 (.take 12 (.take 13 (.br 14 .done .nil))))))))))))))) [14] QLH (by kernel_rfl) (fun R hR=>?_);simp only [go_sem,QC])
  | ((with_reducible refine rg QLH fun R hR=>?_);simp only [go_sem,QC])
  | ((with_reducible refine QI 16 rfl (fun hb16=>?_) fun hb16=>?_);all_goals (try simp only [decide_eq_true_eq,decide_eq_false_iff_not] at hb16))
  | ((with_reducible refine QI 34 rfl (fun hb34=>?_) fun hb34=>?_);all_goals (try simp only [decide_eq_true_eq,decide_eq_false_iff_not] at hb34))
  | ((with_reducible refine Ya ?_)
     refine Zv (Qo (by simp only [QAg];rfl)) (Yb (fun n τ=>∃ (i:Nat),n=(p.funcs.getD x.b.toNat default).params.toNat-i∧((i:Int)≤(p.funcs.getD x.b.toNat default).params)∧τ={ tm:=[(2,true,.int .i64 g),(5,true,.ptr 1 [] 223),(7,true,.ptr 2 [] 104),(8,true,.ptr 3 [] 223),(9,true,.int .i64 d.s.count),(10,true,.ptr 4 [] 108),(11,true,.ptr 5 [] 44),(12,true,.int .i64 i)],ob:=[.var 26 (.data 26 p.v),.var 223 (.data 223 d.v),.var 104 (.data 104 x.v),.var 223 (.data 223 (tab.zero 223)),.var 108 (.data 108 (p.funcs.getD x.b.toNat default).v),.var 44 (.data 44 (Gor.v ⟨1,x.b,0,0,Q7 d.s g x.c i⟩))],out:=[],nt:=71 }) ((p.funcs.getD x.b.toNat default).params.toNat) ⟨0,rfl,by omega,rfl⟩ ?_)
     rintro n τ ⟨i,hn,hi,rfl⟩)
  | ((with_reducible refine WC ?_)
     first
      | (have hw:=QD (n:=i) (m:=256) (by omega) (by decide)
         have hsp:(Q7 d.s g x.c i).set i ((d.s.gos.getD g.toNat default).regs.getD (x.c+(i:Int)).toNat 0)=Q7 d.s g x.c (i+1):=QAh d.s g x.c (by omega)
         refine Z0 ((p.funcs.getD x.b.toNat default).params.toNat-(i+1)) _ (by omega) (Qo (by simp only [hw,hsp])) ⟨i+1,rfl,by omega,rfl⟩))
  | ((with_reducible first|refine ZQ ?_|refine ZP ?_)
     simp only [go_sem,QL,QM,QH,seval]
     first
      | (have q:=hb16
         exact ⟨rfl,congrArg (fun d:Did=>some d.v) (show _=Zo p d g x from Eq.symm (if_pos hb16))⟩)
      | (have e:(i:Int)=(p.funcs.getD x.b.toNat default).params:=by omega
         have e2:i=(p.funcs.getD x.b.toNat default).params.toNat:=by omega
         subst e2
         exact ⟨rfl,congrArg (fun d:Did=>some d.v) (show _=Zo p d g x from Eq.symm (if_neg (show ¬6≤d.s.count by omega)))⟩))
theorem QAL:tab.zero 223=Did.v ⟨zeroStt,0,0,0⟩:=rfl
def UI:List (List Nat):=[[2,3,4,5,8],[2,3,4,5,8,9],[2,3,4,5,8,9,10],[2,3,4,5,8,9,10,11],[2,3,4,5,8,9,10,11,35],[2,3,4,5,8,9,10,11,35,36],[8],[2,3,4,5,8,9,10,11,35,43],[8],[2,3,4,5,8,9,10,11,35,55],[8],[2,3,4,5,8,9,10,11,35,66],[8],[2,3,4,5,8,9,10,11,35,72],[8],[2,3,4,5,8,9,10,11,35,79],[2,5,8,10,12],[8,10,12,97],[8,10],[8],[8,10],[8],[2,3,4,5,8,9,10,11,35,103],[8,10],[8],[2,3,4,5,8,9,10,11,111],[2,3,4,8,10,11,13],[2,3,4,8,10,11,13,131],[8,10],[8],[2,4,8,10,11,14],[2,4,8,10,11,14],[2,4,8,10,11,14,145],[8],[8],[8]]
end Go.Eng.Tryz
