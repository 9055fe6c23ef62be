/- A part of the proof: walks through the program's functions, and what they compute. -/
import Derived.Test.YtedceinkpkoncaaGreatDoorPk27
import Derived.Test.YtedceinkpkoncaaGreatDoorPk34
import Derived.Test.YtedceinkpkoncaaGreatDoorPk36
set_option linter.unusedSimpArgs false
set_option linter.unusedVariables false
namespace Go.Eng.Tryz
open Go.RowKit Go.Eng
set_option maxHeartbeats 0
set_option maxRecDepth 20000
theorem QLH (p:Prg) (s:Stt) (x:Pck) (hp:p.Fit) (hr:QP p=true) (hw:Wf p s):Ctr Go.Proofs.Tryz.prog tab 22 [26,37,39] [4] [p.v,s.v,x.v] [.bool (has p s x)]:=by
 have hpp:=hp
 have hok:=Prg.ok hr
 have hs:=hw.shape
 have hcnt:=hw.count
 have hcode:=p.code_len hp
 have hsl:=p.sels_len hp
 obtain ⟨hp1,hp2,hp3,hp4⟩:=hp
 have hs1:=hs.vars
 have hs2:=hs.owner
 have hs3:=hs.chans
 have hs5:=hs.gos
 have hsz:=hok.sizes
 unfold Ze at hsz
 have hmx:256≤maxLen:=by decide
 refine Ctr.body ok Go.Proofs.Tryz.func22 rfl rfl 27 rfl [.tmp 6] rfl (by simp [QE]) ?_
 simp only [go_sem,Nat.reduceAdd]
 repeat' first
  | ((with_reducible first|refine Q2 fun R1 hR1=>?_|refine xP fun R1 hR1=>?_);(simp only [go_sem,seval,-List.reduceReplicate]);(repeat' with_reducible refine And.intro ?_ ?_);all_goals first|(refine hR1 _ ?_;clear hR1 R1)|((first|refine ce (cf (Vu p s _ hpp hr hw) ?_));all_goals ((try simp only [go_sem,seval,-List.reduceReplicate]);(repeat' with_reducible refine And.intro ?_ ?_);all_goals first|(refine hR1 _ ?_;clear hR1 R1)|exact Xk))|exact Xk)
  | ((with_reducible first|refine Q1 ?_|refine xO ?_);refine hR _ ?_;clear hR R;try simp only [go_sem,QK1,Nat.reduceBEq])
  | (with_reducible first|refine J1 ?_|refine J2 ?_|refine J3 ?_|refine J4 ?_|refine J5 ?_|refine J6 ?_|refine J7 ?_|refine J8 (by decide) ?_|refine J9 ?_|refine WL ?_|refine Q0 ?_|refine Qz ?_|refine YZ ?_|refine WK ?_)
  | ((with_reducible refine QZ 3 ?_)
     have hal:=Vs hok hw x.go
     (with_reducible refine rg QK1 fun R hR=>?_);simp only [go_sem,QC])
  | ((with_reducible refine rg QK1 fun R hR=>?_);simp only [go_sem,QC])
  | ((with_reducible refine Vv ok QN (by kernel_rfl) (by kernel_rfl) QK1 ?_);intro R hR;simp only [go_sem,QC])
  | ((with_reducible refine QH 17 rfl (fun hb17=>?_) fun hb17=>?_);all_goals (try simp [-List.getD_eq_getElem?_getD] at hb17;try (exfalso;omega)))
  | ((with_reducible refine QH 26 rfl (fun hb26=>?_) fun hb26=>?_);all_goals (try simp [-List.getD_eq_getElem?_getD] at hb26;try (exfalso;omega)))
  | ((with_reducible refine YQ ?_)
     refine Zo (Qq (by first|rfl|(simp;done)|fail)) (YR (fun n τ=>∃ (j:Nat),n=(Qj p s x.go).length-j∧(j≤(Qj p s x.go).length∧∀ k:Nat,k<j→¬(Qj p s x.go).getD k 0=x.alt)∧τ={ tm:=[(5,true,.ptr 2 [] 39),(7,true,.sl 3 3 0 (Qj p s x.go).length false),(8,true,.int .i64 j)],ob:=[.var 26 (.data 26 p.v),.var 37 (.data 37 s.v),.var 39 (.data 39 x.v),.row 3 ((Qj p s x.go).map V.int)],out:=[],nt:=27 }) ((Qj p s x.go).length) ⟨0,rfl,⟨by omega,fun k h=>by omega⟩,rfl⟩ ?_)
     rintro n τ ⟨j,hn,⟨hj,hz⟩,rfl⟩)
  | ((with_reducible refine WM ?_)
     first
      | (have hlt:j<(Qj p s x.go).length:=by omega
         have hw:=QD (n:=j) (m:=256) (by omega) (by decide)
         refine Zt ((Qj p s x.go).length-(j+1)) _ (by omega) (Qq (by simp only [hw])) ⟨j+1,rfl,⟨hlt,fun k h=>?_⟩,rfl⟩
         by_cases h2:k<j
         · exact hz k h2
         · have h3:k=j:=by omega
           rw [h3];exact hb26))
  | ((with_reducible first|refine ZH ?_|refine ZG ?_)
     simp only [go_sem,QJ,QK,QG,seval]
     first
      | (have q:_=_:=hb26
         refine ⟨rfl,?_⟩
         have hlt:j<(Qj p s x.go).length:=by omega
         rw [show has p s x=true from decide_eq_true (by rw [← hb26,List.getD_eq_getElem?_getD,List.getElem?_eq_getElem hlt];exact List.getElem_mem hlt)])
      | (have hlt:j=(Qj p s x.go).length:=by omega
         subst hlt
         refine ⟨rfl,?_⟩
         rw [show has p s x=false from decide_eq_false (fun q=>by
          obtain ⟨k,hk,e⟩:=List.mem_iff_getElem.1 q
          exact hz k hk (by rw [List.getD_eq_getElem?_getD,List.getElem?_eq_getElem hk];exact e))]))
end Go.Eng.Tryz
namespace Go.Eng.Tryz
open Go.RowKit Go.Eng
set_option maxHeartbeats 0
set_option maxRecDepth 20000
def QME:List (List Nat):=[[1,2,3,4,8],[1,2,3,4,8,10],[4,8],[8]]
theorem wh (s:Stt) (g r v:Int) (hs:s.Shape) (hg:0≤g∧g<6) (hr:r<8):Ctr Go.Proofs.Tryz.prog tab 177 [37,3,3,2] [37] [s.v,.int g,.int r,.int v] [(s.setReg g r v).v]:=by
 have hs1:=hs.vars
 have hs2:=hs.owner
 have hs3:=hs.chans
 have hs4:=hs.bufs
 have hs5:=hs.gos
 have hs6:=hs.regs
 have h8:(s.gos.getD g.toNat default).regs.length=8:=hs6 _ (Qn _ (by omega))
 refine Ctr.body ok Go.Proofs.Tryz.func177 rfl rfl 19 rfl [.cell 8 37] rfl (by simp [QE]) ?_
 simp only [go_sem,Nat.reduceAdd]
 repeat' first
  | ((with_reducible refine Q2 fun R1 hR1=>?_);(simp only [go_sem,seval,-List.reduceReplicate]);(repeat' with_reducible refine And.intro ?_ ?_);all_goals first|(refine hR1 _ ?_;clear hR1 R1)|exact Xk)
  | ((with_reducible refine Q1 ?_);refine hR _ ?_;clear hR R;try simp only [go_sem,QME,Nat.reduceBEq])
  | (with_reducible first|refine J1 ?_|refine J2 ?_|refine J3 ?_|refine Q0 ?_|refine Qz ?_)
  | ((with_reducible refine rg QME fun R hR=>?_);simp only [go_sem,QC])
  | ((with_reducible refine QH 10 rfl (fun hb10=>?_) fun hb10=>?_);all_goals (try simp only [decide_eq_true_eq,decide_eq_false_iff_not] at hb10))
  | ((with_reducible first|refine ZH ?_|refine ZG ?_)
     simp only [go_sem,QJ,QK,QG,seval]
     first
      | (have q:¬_:=hb10
         exact ⟨rfl,congrArg (fun s:Stt=>some s.v) (show _=s.setReg g r v from Eq.symm (if_neg hb10))⟩)
      | (exact ⟨rfl,congrArg (fun s:Stt=>some s.v) (show _=s.setReg g r v from Eq.symm (if_pos hb10))⟩))
def QMD:List (List Nat):=[[0],[3],[2],[2]]
theorem QDN (b:Bool):Ctr Go.Proofs.Tryz.prog tab 178 [4] [2] [.bool b] [.int (XL b)]:=by
 refine Ctr.body ok Go.Proofs.Tryz.func178 rfl rfl 4 rfl [.tmp 2] rfl (by simp [QE]) ?_
 simp only [go_sem,Nat.reduceAdd]
 repeat' first
  | ((with_reducible refine Q2 fun R1 hR1=>?_);(simp only [go_sem,seval,-List.reduceReplicate]);(repeat' with_reducible refine And.intro ?_ ?_);all_goals first|(refine hR1 _ ?_;clear hR1 R1)|omega|rfl|decide|assumption|(intro _;omega)|(simp;done)|(simp;omega))
  | ((with_reducible refine Q1 ?_);refine hR _ ?_;clear hR R;try simp only [go_sem,QMD,Nat.reduceBEq])
  | (with_reducible first|refine J1 ?_|refine J2 ?_|refine J3 ?_|refine Q0 ?_|refine Qz ?_)
  | ((with_reducible refine rg QMD fun R hR=>?_);simp only [go_sem,QC])
  | ((with_reducible refine SA.cond rfl ?_ ?_)
     all_goals
      intro hb
      try simp only [decide_eq_true_eq,decide_eq_false_iff_not] at hb)
  | ((with_reducible first|refine ZH ?_|refine ZG ?_)
     simp only [go_sem,QJ,QK,QG,seval]
     subst hb
     exact ⟨rfl,rfl⟩)
def QI5:List (List Nat):=[[2,3,4,5,6,10],[2,3,4,5,6,10,11],[2,3,4,5,6,10,11,18],[6,10],[10],[2,3,4,6,10,11,26],[3,4,6,10,11],[3,4,6,10,11],[2,3,4,6,10,11],[2,3,4,6,10,11],[2,3,4,6,10,11],[3,4,6,10,11],[3,4,6,10,11],[4,6,10],[6,10],[10]]
theorem QDn (p:Prg) (d:Did) (g c v:Int) (hp:p.Fit) (hs:d.s.Shape) (hg:0≤g∧g<6) (hc:0≤c∧c<p.chans.length∧c<4) (hl:(d.s.chans.getD c.toNat default).closed=false→0<p.chans.getD c.toNat 0→0≤(d.s.chans.getD c.toNat default).len∧(d.s.chans.getD c.toNat default).len<4):Ctr Go.Proofs.Tryz.prog tab 152 [26,189,3,3,2] [189] [p.v,d.v,.int g,.int c,.int v] [(YW p d g c v).v]:=by
 have hcode:=p.code_len hp
 have hsl:=p.sels_len hp
 obtain ⟨hp1,hp2,hp3,hp4⟩:=hp
 have hs1:=hs.vars
 have hs2:=hs.owner
 have hs3:=hs.chans
 have hs4:=hs.bufs
 have hs5:=hs.gos
 have hs6:=hs.regs
 refine Ctr.body ok Go.Proofs.Tryz.func152 rfl rfl 55 rfl [.cell 10 189] rfl (by simp [QE]) ?_
 simp only [go_sem,Nat.reduceAdd]
 repeat' first
  | ((with_reducible refine SARA.told 1 5 ?_)
     rw [ZU (by omega)])
  | ((with_reducible refine SARA.told 7 3 ?_)
     rw [QU (n:=(d.s.chans.getD c.toNat default).len+1) (by omega) (by omega)])
  | ((with_reducible refine Q2 fun R1 hR1=>?_);(simp only [go_sem,seval,-List.reduceReplicate]);(repeat' with_reducible refine And.intro ?_ ?_);all_goals first|(refine hR1 _ ?_;clear hR1 R1)|exact Xk)
  | ((with_reducible refine Q1 ?_);refine hR _ ?_;clear hR R;try simp only [go_sem,QI5,Nat.reduceBEq])
  | (with_reducible first|refine J1 ?_|refine J2 ?_|refine J3 ?_|refine Q0 ?_|refine Qz ?_)
  | ((with_reducible refine QZ 6 ?_)
     have hL:=hl hb18 hb26
     (with_reducible refine rg QI5 fun R hR=>?_);simp only [go_sem,QC])
  | ((with_reducible refine rg QI5 fun R hR=>?_);simp only [go_sem,QC])
  | ((with_reducible refine QH 18 rfl (fun hb18=>?_) fun hb18=>?_);all_goals (try simp only [decide_eq_true_eq,decide_eq_false_iff_not] at hb18))
  | ((with_reducible refine QH 26 rfl (fun hb26=>?_) fun hb26=>?_);all_goals (try simp only [decide_eq_true_eq,decide_eq_false_iff_not] at hb26))
  | ((with_reducible first|refine ZH ?_|refine ZG ?_)
     simp only [go_sem,QJ,QK,QG,seval]
     first
      | (have q:¬_:=hb26
         exact ⟨rfl,congrArg (fun d:Did=>some d.v) (show _=YW p d g c v from Eq.symm ((if_neg (fun q=>Bool.noConfusion (hb18.symm.trans q))).trans (if_neg hb26)))⟩)
      | (have q:=hb26
         exact ⟨rfl,congrArg (fun d:Did=>some d.v) (show _=YW p d g c v from Eq.symm ((if_neg (fun q=>Bool.noConfusion (hb18.symm.trans q))).trans (if_pos hb26)))⟩)
      | (exact ⟨rfl,congrArg (fun d:Did=>some d.v) (show _=YW p d g c v from Eq.symm (if_pos hb18))⟩))
def QMN:List (List Nat):=[[1,2,4],[1,2,4,5],[1,2,4,5,12],[2,4],[4],[1,2,4,5],[1,2,4,5,18],[1,2,4,5],[1,2,4,5],[2,4],[4]]
theorem QFY (d:Did) (c:Int) (hs:d.s.Shape) (hc:0≤c∧c<4):Ctr Go.Proofs.Tryz.prog tab 154 [189,3] [189] [d.v,.int c] [(YH d c).v]:=by
 have hs1:=hs.vars
 have hs2:=hs.owner
 have hs3:=hs.chans
 have hs4:=hs.bufs
 have hs5:=hs.gos
 have hs6:=hs.regs
 refine Ctr.body ok Go.Proofs.Tryz.func154 rfl rfl 27 rfl [.cell 4 189] rfl (by simp [QE]) ?_
 simp only [go_sem,Nat.reduceAdd]
 repeat' first
  | ((with_reducible refine SARA.told 1 5 ?_)
     rw [ZU (by omega)])
  | ((with_reducible refine Q2 fun R1 hR1=>?_);(simp only [go_sem,seval,-List.reduceReplicate]);(repeat' with_reducible refine And.intro ?_ ?_);all_goals first|(refine hR1 _ ?_;clear hR1 R1)|exact Xk)
  | ((with_reducible refine Q1 ?_);refine hR _ ?_;clear hR R;try simp only [go_sem,QMN,Nat.reduceBEq])
  | (with_reducible first|refine J1 ?_|refine J2 ?_|refine J3 ?_|refine Q0 ?_|refine Qz ?_)
  | ((with_reducible refine rg QMN fun R hR=>?_);simp only [go_sem,QC])
  | ((with_reducible refine QH 12 rfl (fun hb12=>?_) fun hb12=>?_);all_goals (try simp only [decide_eq_true_eq,decide_eq_false_iff_not] at hb12))
  | ((with_reducible refine QH 18 rfl (fun hb18=>?_) fun hb18=>?_);all_goals (try simp only [decide_eq_true_eq,decide_eq_false_iff_not] at hb18))
  | ((with_reducible first|refine ZH ?_|refine ZG ?_)
     simp only [go_sem,QJ,QK,QG,seval]
     first
      | (have q:¬_:=hb18
         exact ⟨rfl,congrArg (fun d:Did=>some d.v) (show _=YH d c from Eq.symm ((if_neg (fun q=>Bool.noConfusion (hb12.symm.trans q))).trans (if_neg hb18)))⟩)
      | (have q:=hb18
         exact ⟨rfl,congrArg (fun d:Did=>some d.v) (show _=YH d c from Eq.symm ((if_neg (fun q=>Bool.noConfusion (hb12.symm.trans q))).trans (if_pos hb18)))⟩)
      | (exact ⟨rfl,congrArg (fun d:Did=>some d.v) (show _=YH d c from Eq.symm (if_pos hb12))⟩))
def QMO:List (List Nat):=[[1,2,3,6],[1,2,3,6,7],[1,2,3,6,7,15],[1,2,3,6,7],[1,2,3,6,7],[1,2,3,6,7],[1,2,3,6,7],[1,3,6],[3,6],[6]]
theorem QGq (d:Did) (g c:Int) (hs:d.s.Shape) (hg:0≤g∧g<6) (hc:0≤c∧c<4):Ctr Go.Proofs.Tryz.prog tab 151 [189,3,3] [189] [d.v,.int g,.int c] [(Yw d g c).v]:=by
 have hs1:=hs.vars
 have hs2:=hs.owner
 have hs3:=hs.chans
 have hs4:=hs.bufs
 have hs5:=hs.gos
 have hs6:=hs.regs
 refine Ctr.body ok Go.Proofs.Tryz.func151 rfl rfl 31 rfl [.cell 6 189] rfl (by simp [QE]) ?_
 simp only [go_sem,Nat.reduceAdd]
 repeat' first
  | ((with_reducible refine SARA.told 1 5 ?_)
     rw [ZU (by omega)])
  | ((with_reducible refine Q2 fun R1 hR1=>?_);(simp only [go_sem,seval,-List.reduceReplicate]);(repeat' with_reducible refine And.intro ?_ ?_);all_goals first|(refine hR1 _ ?_;clear hR1 R1)|exact Xk)
  | ((with_reducible refine Q1 ?_);refine hR _ ?_;clear hR R;try simp only [go_sem,QMO,Nat.reduceBEq])
  | (with_reducible first|refine J1 ?_|refine J2 ?_|refine J3 ?_|refine Q0 ?_|refine Qz ?_)
  | ((with_reducible refine rg QMO fun R hR=>?_);simp only [go_sem,QC])
  | ((with_reducible refine QH 15 rfl (fun hb15=>?_) fun hb15=>?_);all_goals (try simp only [decide_eq_true_eq,decide_eq_false_iff_not] at hb15))
  | ((with_reducible first|refine ZH ?_|refine ZG ?_)
     simp only [go_sem,QJ,QK,QG,seval]
     first
      | (have q:¬_:=hb15
         refine ⟨rfl,congrArg (fun d:Did=>some d.v) ?_⟩
         have e:(if (d.s.chn c).offer=3 then 4 else d.why)=d.why:=if_neg hb15
         unfold Yw
         simp only
         rw [e]
         rfl)
      | (refine ⟨rfl,congrArg (fun d:Did=>some d.v) ?_⟩
         have e:(if (d.s.chn c).offer=3 then 4 else d.why)=4:=if_pos hb15
         unfold Yw
         simp only
         rw [e]
         rfl))
end Go.Eng.Tryz
namespace Go.Eng.Tryz
open Go.RowKit Go.Eng
set_option maxHeartbeats 0
set_option maxRecDepth 20000
def QI4:List (List Nat):=[[1,2,3,4,5,10],[1,2,3,4,5,10,11],[1,2,3,4,5,10,11,12],[1,2,3,4,5,10,11,12,13],[1,2,3,4,5,10,11,12,13,22],[1,2,3,4,5,10,11,12,13],[1,2,3,4,5,10,11,12,13,14],[1,2,3,4,5,10,11,12,13,14,30],[1,2,3,4,5,10,11,12,13,14],[1,2,3,4,5,10,11,12,13,14],[1,2,3,4,5,10,11,12,13],[1,2,3,4,5,10,11,12,13],[1,2,3,4,5,10,11,12,13,52],[1,2,3,4,5,10,11,12,13],[1,2,3,4,5,10,11,12,13],[1,2,3,4,5,10,11,12,13],[1,2,3,4,5,10,11,12,13],[1,3,4,5,10,12,13],[1,4,5,10,12,13],[5,10,12],[5,10],[10]]
theorem QDu (d:Did) (g c r k:Int) (hs:d.s.Shape) (hg:0≤g∧g<6) (hc:0≤c∧c<4) (hr:r<8) (hk:k<8) (hl:0≤(d.s.chans.getD c.toNat default).len∧(d.s.chans.getD c.toNat default).len≤4):Ctr Go.Proofs.Tryz.prog tab 153 [189,3,3,3,3] [189] [d.v,.int g,.int c,.int r,.int k] [(XE d g c r k).v]:=by
 have hs1:=hs.vars
 have hs2:=hs.owner
 have hs3:=hs.chans
 have hs4:=hs.bufs
 have hs5:=hs.gos
 have hs6:=hs.regs
 have h8:(d.s.gos.getD g.toNat default).regs.length=8:=hs6 _ (Qn _ (by omega))
 have hbl:(d.s.chans.getD c.toNat default).buf.length=4:=hs4 _ (Qn _ (by omega))
 refine Ctr.body ok Go.Proofs.Tryz.func153 rfl rfl 80 rfl [.cell 10 189] rfl (by simp [QE]) ?_
 simp only [go_sem,Nat.reduceAdd]
 repeat' first
  | ((with_reducible refine SARA.told 1 5 ?_)
     rw [ZU (by omega)])
  | ((with_reducible refine SARA.told 7 2 ?_)
     rw [QD (n:=i) (m:=256) (by omega) (by decide)])
  | ((with_reducible refine SARA.told 9 3 ?_)
     rw [QD (n:=i) (m:=256) (by omega) (by decide)])
  | ((with_reducible refine SARA.told 10 3 ?_)
     rw [QU (n:=(d.s.chans.getD c.toNat default).len-1) (by omega) (by omega)])
  | ((with_reducible refine SARA.told 11 3 ?_)
     rw [QU (n:=(d.s.chans.getD c.toNat default).len-1) (by omega) (by omega)])
  | ((with_reducible first|refine Q2 fun R1 hR1=>?_|refine qR fun R1 hR1=>?_|refine qQ fun R1 hR1=>?_|refine qP fun R1 hR1=>?_);(simp only [go_sem,seval,-List.reduceReplicate]);(repeat' with_reducible refine And.intro ?_ ?_);all_goals first|(refine hR1 _ ?_;clear hR1 R1)|((first|refine cq (cc (wh _ g _ _ ?_ hg hr)) ?_|refine cq (cc (QDN _)) ?_|refine cq (cc (wh _ g _ _ ?_ hg hk)) ?_);all_goals ((try simp only [go_sem,seval,-List.reduceReplicate]);(repeat' with_reducible refine And.intro ?_ ?_);all_goals first|(refine hR1 _ ?_;clear hR1 R1)|omega|rfl|decide|assumption|(intro _;omega)|(simp;done)|(simp [-List.getD_eq_getElem?_getD];omega)|exact hcode _|(intro _;exact hcode _)|exact hsl _|(intro _;exact hsl _)|(simp [-List.getD_eq_getElem?_getD,QQ,maxLen,by3,QDH,QFc,QJo,QJp];omega)|(simp [-List.getD_eq_getElem?_getD,QQ,maxLen,by3,QDH,QFc,QJo,QJp];done)|(simp [YN];omega)|exact YJ hs _ hbl|exact YJ hs _ (by simpa [YN] using hbl)|exact zG (YJ hs _ hbl) hg _ _|exact zG (YJ hs _ (by simpa [YN] using hbl)) hg _ _))|omega|rfl|decide|assumption|(intro _;omega)|(simp;done)|(simp [-List.getD_eq_getElem?_getD];omega)|exact hcode _|(intro _;exact hcode _)|exact hsl _|(intro _;exact hsl _)|(simp [-List.getD_eq_getElem?_getD,QQ,maxLen,by3,QDH,QFc,QJo,QJp];omega)|(simp [-List.getD_eq_getElem?_getD,QQ,maxLen,by3,QDH,QFc,QJo,QJp];done)|(simp [YN];omega)|exact YJ hs _ hbl|exact YJ hs _ (by simpa [YN] using hbl)|exact zG (YJ hs _ hbl) hg _ _|exact zG (YJ hs _ (by simpa [YN] using hbl)) hg _ _)
  | ((with_reducible first|refine qO ?_|refine Q1 ?_);refine hR _ ?_;clear hR R;try simp only [go_sem,QI4,Nat.reduceBEq])
  | (with_reducible first|refine qN ?_ ?_|exact qM|refine qL ?_ ?_)
  | (with_reducible first|refine J1 ?_|refine J2 ?_|refine J3 ?_|refine J4 ?_|refine J5 ?_|refine J6 ?_|refine J7 ?_|refine J8 (by decide) ?_|refine J9 ?_|refine WL ?_|refine Q0 ?_|refine Qz ?_|refine YZ ?_|refine WK ?_)
  | ((with_reducible refine QZ 19 ?_)
     refine WJ ok QN (.take 0 (.take 1 (.take 2 (.take 3 (.take 4 (.br 5 (.br 6 (.take 7 (.br 8 .done .nil)) .nil) .nil)))))) [8] QI4 (by kernel_rfl) (fun R hR=>?_);simp only [go_sem,QC])
  | ((with_reducible refine rg QI4 fun R hR=>?_);simp only [go_sem,QC])
  | ((with_reducible refine QH 22 rfl (fun hb22=>?_) fun hb22=>?_);all_goals (try simp only [decide_eq_true_eq,decide_eq_false_iff_not] at hb22))
  | ((with_reducible refine QH 30 rfl (fun hb30=>?_) fun hb30=>?_);all_goals (try simp only [decide_eq_true_eq,decide_eq_false_iff_not] at hb30))
  | ((with_reducible refine QH 52 rfl (fun hb52=>?_) fun hb52=>?_);all_goals (try simp only [decide_eq_true_eq,decide_eq_false_iff_not] at hb52))
  | ((with_reducible refine YQ ?_)
     refine Zo (Qq (by simp only [QCW];rfl)) (YR (fun n τ=>∃ (i:Nat),n=(d.s.chans.getD c.toNat default).len.toNat-i∧((i:Int)+1≤(d.s.chans.getD c.toNat default).len)∧τ={ tm:=[(1,true,.int .i64 g),(2,true,.int .i64 c),(3,true,.int .i64 r),(4,true,.int .i64 k),(5,true,.ptr 0 [] 189),(10,true,.ptr 1 [] 189),(11,true,.ptr 2 [] 31),(12,true,.int .i64 ((d.s.chans.getD c.toNat default).buf.getD 0 0)),(13,true,.bool true),(14,true,.int .i64 i)],ob:=[.var 189 (.data 189 d.v),.var 189 (.data 189 (tab.zero 189)),.var 31 (.data 31 (Chn.v ⟨Zz (d.s.chans.getD c.toNat default).buf i,(d.s.chans.getD c.toNat default).len,(d.s.chans.getD c.toNat default).closed,(d.s.chans.getD c.toNat default).offer,(d.s.chans.getD c.toNat default).from_,(d.s.chans.getD c.toNat default).val⟩))],out:=[],nt:=80 }) ((d.s.chans.getD c.toNat default).len.toNat) ⟨0,rfl,by omega,rfl⟩ ?_)
     rintro n τ ⟨i,hn,hi,rfl⟩)
  | ((with_reducible refine WM ?_)
     first
      | (have hw:=QD (n:=i) (m:=256) (by omega) (by decide)
         refine Zt ((d.s.chans.getD c.toNat default).len.toNat-(i+1)) _ (by omega) (Qq (by simp only [hw,vJ (d.s.chans.getD c.toNat default).buf (n:=i) (i:=i+1) (by omega) (by omega),QCX (d.s.chans.getD c.toNat default).buf (n:=i) (by omega)])) ⟨i+1,rfl,by omega,rfl⟩))
  | ((with_reducible first|refine ZH ?_|refine ZG ?_)
     simp only [go_sem,QJ,QK,QG,seval]
     first
      | (have q:_=_:=hb52
         exact ⟨rfl,congrArg (fun d:Did=>some d.v) (show _=XE d g c r k from Eq.symm ((if_neg hb22).trans (if_pos hb52)))⟩)
      | (have q:¬_:=hb52
         exact ⟨rfl,congrArg (fun d:Did=>some d.v) (show _=XE d g c r k from Eq.symm ((if_neg hb22).trans (if_neg hb52)))⟩)
      | (have e:i=((d.s.chans.getD c.toNat default).len-1).toNat:=by omega
         subst e
         exact ⟨rfl,congrArg (fun d:Did=>some d.v) (show _=XE d g c r k from Eq.symm (if_pos hb22))⟩))
end Go.Eng.Tryz
namespace Go.Eng.Tryz
open Go.RowKit Go.Eng
set_option maxHeartbeats 0
set_option maxRecDepth 20000
def UX:List (List Nat):=[[1,3,5,6],[1,3,5,6,7],[1,3,5,6,7,15],[1,3,5,6,7,15,16],[1,3,5,6],[3,6],[1,3,5,6,7,15,34],[3,5,6],[3,6],[1,3,5,6,7,15,48],[1,3,5,6],[3,5,6],[3,6],[1,3,5,6,7,15,82],[1,3,5,6,7],[1,3,5,6,7,99],[1,3,5,6],[3,6],[1,3,5,6,7,15,118],[3,6],[1,3,5,6,15,125],[3,6],[1,3,5,6,15,134],[3,5,6,144],[3,6],[6],[3,6],[1,3,5,6,152],[1,3,5,6],[1,3,5,6,165],[1,3,5,6],[3,6],[6]]
theorem QAi (p:Prg) (f:Fnc) (d:Did) (g:Int) (x:Instr) (hs:d.s.Shape) (hg:0≤g∧g<6) (hin:QV p f x=0) (hrg:f.regs≤8) (hsz:p.vars.length≤8∧p.locks≤4):Ctr Go.Proofs.Tryz.prog tab 156 [189,3,129] [189] [d.v,.int g,x.v] [(ZK d g x).v]:=by
 have hs1:=hs.vars
 have hs2:=hs.owner
 have hs3:=hs.chans
 have hs4:=hs.bufs
 have hs5:=hs.gos
 have hs6:=hs.regs
 have h8:(d.s.gos.getD g.toNat default).regs.length=8:=hs6 _ (Qn _ (by omega))
 refine Ctr.body ok Go.Proofs.Tryz.func156 rfl rfl 183 rfl [.cell 6 189] rfl (by simp [QE]) ?_
 simp only [go_sem,Nat.reduceAdd]
 repeat' first
  | ((with_reducible refine SARA.told 21 4 ?_)
     rw [QU (n:=g+1) (by omega) (by omega)])
  | ((with_reducible refine SARA.told 23 8 ?_)
     rw [QU (n:=g+1) (by omega) (by omega)])
  | ((with_reducible refine SARA.told 30 4 ?_)
     rw [QU (n:=g+1) (by omega) (by omega)])
  | ((with_reducible first|refine Q2 fun R1 hR1=>?_|refine qR fun R1 hR1=>?_|refine qQ fun R1 hR1=>?_|refine qP fun R1 hR1=>?_);(simp only [go_sem,seval,-List.reduceReplicate]);(repeat' with_reducible refine And.intro ?_ ?_);all_goals first|(refine hR1 _ ?_;clear hR1 R1)|((first|refine cq (cc (wh _ g _ _ ?_ hg ?_)) ?_|refine cq (cc (QDN _)) ?_);all_goals ((try simp only [go_sem,seval,-List.reduceReplicate]);(repeat' with_reducible refine And.intro ?_ ?_);all_goals first|(refine hR1 _ ?_;clear hR1 R1)|omega|rfl|decide|assumption|(intro _;omega)|(simp;done)|(simp [-List.getD_eq_getElem?_getD];omega)|exact hcode _|(intro _;exact hcode _)|exact hsl _|(intro _;exact hsl _)|(simp [-List.getD_eq_getElem?_getD,QQ,maxLen,by3,QDH,QFc,QJo,QJp];omega)|(simp [-List.getD_eq_getElem?_getD,QQ,maxLen,by3,QDH,QFc,QJo,QJp];done)|exact hs|exact Ut hs _ _|exact zH hs _ _))|omega|rfl|decide|assumption|(intro _;omega)|(simp;done)|(simp [-List.getD_eq_getElem?_getD];omega)|exact hcode _|(intro _;exact hcode _)|exact hsl _|(intro _;exact hsl _)|(simp [-List.getD_eq_getElem?_getD,QQ,maxLen,by3,QDH,QFc,QJo,QJp];omega)|(simp [-List.getD_eq_getElem?_getD,QQ,maxLen,by3,QDH,QFc,QJo,QJp];done)|exact hs|exact Ut hs _ _|exact zH hs _ _)
  | ((with_reducible first|refine qO ?_|refine Q1 ?_);refine hR _ ?_;clear hR R;try simp only [go_sem,UX,Nat.reduceBEq])
  | (with_reducible first|refine qN ?_ ?_|exact qM|refine qL ?_ ?_)
  | (with_reducible first|refine J1 ?_|refine J2 ?_|refine J3 ?_|refine J4 ?_|refine J5 ?_|refine J6 ?_|refine J7 ?_|refine J8 (by decide) ?_|refine J9 ?_|refine Q0 ?_|refine Qz ?_|refine YZ ?_)
  | ((with_reducible refine QZ 4 ?_)
     have hI:=QDZ hin hb16
     (with_reducible refine rg UX fun R hR=>?_);simp only [go_sem,QC])
  | ((with_reducible refine QZ 7 ?_)
     have hI:=QDY hin hb34
     (with_reducible refine rg UX fun R hR=>?_);simp only [go_sem,QC])
  | ((with_reducible refine QZ 10 ?_)
     have hI:=QDX hin hb48
     (with_reducible refine rg UX fun R hR=>?_);simp only [go_sem,QC])
  | ((with_reducible refine QZ 19 ?_)
     have hI:=QA5 hin hb118
     (with_reducible refine rg UX fun R hR=>?_);simp only [go_sem,QC])
  | ((with_reducible refine QZ 21 ?_)
     have hI:=qY hin (.inl hb125)
     (with_reducible refine rg UX fun R hR=>?_);simp only [go_sem,QC])
  | ((with_reducible refine QZ 23 ?_)
     have hI:=qY hin (.inr hb134)
     (with_reducible refine rg UX fun R hR=>?_);simp only [go_sem,QC])
  | ((with_reducible refine QZ 28 ?_)
     have hI:=QDV hin hb152
     (with_reducible refine rg UX fun R hR=>?_);simp only [go_sem,QC])
  | ((with_reducible refine QZ 11 ?_)
     refine WJ ok QN (.take 0 (.take 1 (.take 2 (.take 3 (.take 4 (.take 5 (.take 6 (.take 7 (.take 8 (.take 9 (.take 10 (.br 11 (.take 12 (.br 13 .done .nil)) .nil)))))))))))) [13] UX (by kernel_rfl) (fun R hR=>?_);simp only [go_sem,QC])
  | ((with_reducible refine QZ 12 ?_)
     refine WJ ok QN (.take 0 (.take 1 (.take 2 (.take 3 (.take 4 (.take 5 (.take 6 (.take 7 (.take 8 (.take 9 (.take 10 (.take 11 (.take 12 (.take 13 (.br 14 .done .nil))))))))))))))) [14] UX (by kernel_rfl) (fun R hR=>?_);simp only [go_sem,QC])
  | ((with_reducible refine QZ 14 ?_)
     have hI:=QDW hin hb82
     refine WJ ok QN (.take 0 (.take 1 (.take 2 (.take 3 (.take 4 (.take 5 (.take 6 (.take 7 (.take 8 (.take 9 (.take 10 (.br 11 (.take 12 (.br 13 .done .nil)) .nil)))))))))))) [13] UX (by kernel_rfl) (fun R hR=>?_);simp only [go_sem,QC])
  | ((with_reducible refine QZ 16 ?_)
     refine WJ ok QN (.take 0 (.take 1 (.take 2 (.take 3 (.take 4 (.take 5 (.take 6 (.take 7 (.take 8 (.br 9 .done .nil)))))))))) [9] UX (by kernel_rfl) (fun R hR=>?_);simp only [go_sem,QC])
  | ((with_reducible refine rg UX fun R hR=>?_);simp only [go_sem,QC])
  | ((with_reducible refine QH 16 rfl (fun hb16=>?_) fun hb16=>?_);all_goals (try simp only [decide_eq_true_eq,decide_eq_false_iff_not,Bool.not_eq_eq_eq_not,Bool.not_true,Bool.not_false,ne_eq,decide_not,Bool.not_eq_true'] at hb16))
  | ((with_reducible refine QH 34 rfl (fun hb34=>?_) fun hb34=>?_);all_goals (try simp only [decide_eq_true_eq,decide_eq_false_iff_not,Bool.not_eq_eq_eq_not,Bool.not_true,Bool.not_false,ne_eq,decide_not,Bool.not_eq_true'] at hb34))
  | ((with_reducible refine QH 48 rfl (fun hb48=>?_) fun hb48=>?_);all_goals (try simp only [decide_eq_true_eq,decide_eq_false_iff_not,Bool.not_eq_eq_eq_not,Bool.not_true,Bool.not_false,ne_eq,decide_not,Bool.not_eq_true'] at hb48))
  | ((with_reducible refine QH 82 rfl (fun hb82=>?_) fun hb82=>?_);all_goals (try simp only [decide_eq_true_eq,decide_eq_false_iff_not,Bool.not_eq_eq_eq_not,Bool.not_true,Bool.not_false,ne_eq,decide_not,Bool.not_eq_true'] at hb82))
  | ((with_reducible refine QH 99 rfl (fun hb99=>?_) fun hb99=>?_);all_goals (try simp only [decide_eq_true_eq,decide_eq_false_iff_not,Bool.not_eq_eq_eq_not,Bool.not_true,Bool.not_false,ne_eq,decide_not,Bool.not_eq_true'] at hb99))
  | ((with_reducible refine QH 118 rfl (fun hb118=>?_) fun hb118=>?_);all_goals (try simp only [decide_eq_true_eq,decide_eq_false_iff_not,Bool.not_eq_eq_eq_not,Bool.not_true,Bool.not_false,ne_eq,decide_not,Bool.not_eq_true'] at hb118))
  | ((with_reducible refine QH 125 rfl (fun hb125=>?_) fun hb125=>?_);all_goals (try simp only [decide_eq_true_eq,decide_eq_false_iff_not,Bool.not_eq_eq_eq_not,Bool.not_true,Bool.not_false,ne_eq,decide_not,Bool.not_eq_true'] at hb125))
  | ((with_reducible refine QH 134 rfl (fun hb134=>?_) fun hb134=>?_);all_goals (try simp only [decide_eq_true_eq,decide_eq_false_iff_not,Bool.not_eq_eq_eq_not,Bool.not_true,Bool.not_false,ne_eq,decide_not,Bool.not_eq_true'] at hb134))
  | ((with_reducible refine QH 144 rfl (fun hb144=>?_) fun hb144=>?_);all_goals (try simp only [decide_eq_true_eq,decide_eq_false_iff_not,Bool.not_eq_eq_eq_not,Bool.not_true,Bool.not_false,ne_eq,decide_not,Bool.not_eq_true'] at hb144))
  | ((with_reducible refine QH 152 rfl (fun hb152=>?_) fun hb152=>?_);all_goals (try simp only [decide_eq_true_eq,decide_eq_false_iff_not,Bool.not_eq_eq_eq_not,Bool.not_true,Bool.not_false,ne_eq,decide_not,Bool.not_eq_true'] at hb152))
  | ((with_reducible refine QH 165 rfl (fun hb165=>?_) fun hb165=>?_);all_goals (try simp only [decide_eq_true_eq,decide_eq_false_iff_not,Bool.not_eq_eq_eq_not,Bool.not_true,Bool.not_false,ne_eq,decide_not,Bool.not_eq_true'] at hb165))
  | ((with_reducible first|refine ZH ?_|refine ZG ?_)
     simp only [go_sem,QJ,QK,QG,seval]
     first
      | (have q:_=_:=hb165
         refine ⟨rfl,congrArg (fun d:Did=>some d.v) ?_⟩
         rw [QAF hb16 hb34 hb48 hb82 hb118 hb125 hb134 hb152]
         exact (if_pos hb165).symm)
      | (have q:¬_:=hb165
         refine ⟨rfl,congrArg (fun d:Did=>some d.v) ?_⟩
         rw [QAF hb16 hb34 hb48 hb82 hb118 hb125 hb134 hb152]
         exact (if_neg hb165).symm)
      | (have q:_=_:=hb99
         refine ⟨rfl,congrArg (fun d:Did=>some d.v) ?_⟩
         rw [QAG hb16 hb34 hb48 hb82]
         exact (if_pos hb99).symm)
      | (have q:¬_:=hb99
         refine ⟨rfl,congrArg (fun d:Did=>some d.v) ?_⟩
         rw [QAG hb16 hb34 hb48 hb82]
         exact (if_neg hb99).symm)
      | (have q:¬_:=hb144
         exact ⟨rfl,congrArg (fun d:Did=>some d.v) (show _=ZK d g x from Eq.symm ((if_neg hb16).trans ((if_neg hb34).trans ((if_neg hb48).trans ((if_neg hb82).trans ((if_neg hb118).trans ((if_neg hb125).trans ((if_pos hb134).trans (if_pos hb144)))))))))⟩)
      | (have q:=hb144
         exact ⟨rfl,congrArg (fun d:Did=>some d.v) (show _=ZK d g x from Eq.symm ((if_neg hb16).trans ((if_neg hb34).trans ((if_neg hb48).trans ((if_neg hb82).trans ((if_neg hb118).trans ((if_neg hb125).trans ((if_pos hb134).trans (if_neg (fun q=>q hb144))))))))))⟩)
      | (exact ⟨rfl,congrArg (fun d:Did=>some d.v) (show _=ZK d g x from Eq.symm (if_pos hb16))⟩)
      | (exact ⟨rfl,congrArg (fun d:Did=>some d.v) (show _=ZK d g x from Eq.symm ((if_neg hb16).trans (if_pos hb34)))⟩)
      | (exact ⟨rfl,congrArg (fun d:Did=>some d.v) (show _=ZK d g x from Eq.symm ((if_neg hb16).trans ((if_neg hb34).trans (if_pos hb48))))⟩)
      | (exact ⟨rfl,congrArg (fun d:Did=>some d.v) (show _=ZK d g x from Eq.symm ((if_neg hb16).trans ((if_neg hb34).trans ((if_neg hb48).trans ((if_neg hb82).trans (if_pos hb118))))))⟩)
      | (exact ⟨rfl,congrArg (fun d:Did=>some d.v) (show _=ZK d g x from Eq.symm ((if_neg hb16).trans ((if_neg hb34).trans ((if_neg hb48).trans ((if_neg hb82).trans ((if_neg hb118).trans (if_pos hb125)))))))⟩)
      | (exact ⟨rfl,congrArg (fun d:Did=>some d.v) (show _=ZK d g x from Eq.symm ((if_neg hb16).trans ((if_neg hb34).trans ((if_neg hb48).trans ((if_neg hb82).trans ((if_neg hb118).trans ((if_neg hb125).trans ((if_neg hb134).trans (if_neg hb152)))))))))⟩))
end Go.Eng.Tryz
namespace Go.Eng.Tryz
open Go.RowKit Go.Eng
set_option maxHeartbeats 0
set_option maxRecDepth 20000
def QI3:List (List Nat):=[[2,4,5,7,8],[2,4,5,7,8,16],[5,8],[8],[2,4,5,7,8,9],[2,5,7,8,9,10],[2,5,7,8,9,10,11],[2,5,7,8,9,10,11,12],[2,5,7,8,9,10,11,12,34],[2,5,7,8,9,10,11,12],[2,5,7,8,9,10,11,12],[2,5,7,8,9],[2,5,7,8,9],[5,8,9],[5,8],[8]]
end Go.Eng.Tryz
