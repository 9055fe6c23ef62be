/- A part of the proof: walks through the program's functions, and what they compute. -/
import Derived.Test.YtmonhjagbhpbeaaGreatDoorPk13
set_option linter.unusedSimpArgs false
set_option linter.unusedVariables false
namespace Go.Eng.Tryz
open Go.RowKit Go.Eng
set_option maxHeartbeats 0
set_option maxRecDepth 20000
theorem y8 (p:Prg) (s:Stt) (hp:p.Fit) (hs:s.Shape):Ctr Go.Proofs.Tryz.prog tab 47 [26,47] [30] [p.v,s.v] [.int (Wh p s)]:=by
 have hpp:=hp
 have hfit:=hp
 have hcode:=p.code_len hp
 have hsl:=p.sels_len hp
 obtain ⟨hp1,hp2,hp3,hp4⟩:=hp
 refine Ctr.body ok Go.Proofs.Tryz.func47 rfl rfl 18 rfl [.tmp 4] rfl (by simp [QF]) ?_
 simp only [go_sem,Nat.reduceAdd]
 repeat' first
  | ((with_reducible refine Q5 fun R1 hR1=>?_);(simp only [go_sem,seval,-List.reduceReplicate,Q6,QE,Xv,z93,z3,Bool.cond_false_right,Bool.cond_true_left]);(repeat' with_reducible refine And.intro ?_ ?_);all_goals first|(refine hR1 _ ?_;clear hR1 R1)|((first|refine ce (cf (Vx p hpp) ?_)|refine cq (cc (y6 p s hpp hs)) ?_);all_goals ((try simp only [go_sem,seval,-List.reduceReplicate,Q6,QE,Xv,z93,z3,Bool.cond_false_right,Bool.cond_true_left]);(repeat' with_reducible refine And.intro ?_ ?_);all_goals first|(refine hR1 _ ?_;clear hR1 R1)|exact Zp))|exact Zp)
  | ((with_reducible refine Q4 ?_);refine hR _ ?_;clear hR R;try simp only [go_sem,QTd,Nat.reduceBEq])
  | (with_reducible first|refine J1 ?_|refine J2 ?_|refine J3 ?_|refine Q2 ?_|refine Q1 ?_)
  | ((with_reducible refine rg QTd fun R hR=>?_);simp only [go_sem,QC])
  | ((with_reducible refine QI 13 rfl (fun hb13=>?_) fun hb13=>?_);all_goals (try simp [-List.getD_eq_getElem?_getD] at hb13;try (exfalso;omega)))
  | ((with_reducible refine QI 17 rfl (fun hb17=>?_) fun hb17=>?_);all_goals (try simp [-List.getD_eq_getElem?_getD] at hb17;try (exfalso;omega)))
  | ((with_reducible first|refine ZQ ?_|refine ZP ?_)
     simp only [go_sem,QL,QM,QH,seval]
     first
      | (have q:=hb17
         exact ⟨rfl,congrArg (fun e=>some (V.int e)) (Eq.symm ((if_neg (by unfold QN;simp [hb13])).trans (if_pos hb17)))⟩)
      | (have q:=hb17
         exact ⟨rfl,congrArg (fun e=>some (V.int e)) (Eq.symm ((if_neg (by unfold QN;simp [hb13])).trans (if_neg (by simp [hb17]))))⟩)
      | (exact ⟨rfl,congrArg (fun e=>some (V.int e)) (Eq.symm (if_pos (by unfold QN;simp [hb13])))⟩))
def QPC:List (List Nat):=[[1,2],[4]]
theorem Xm (s:Stt) (g:Int) (hs:s.Shape) (hg:0≤g∧g<6):Ctr Go.Proofs.Tryz.prog tab 105 [47,3] [4] [s.v,.int g] [.bool (V1 s g)]:=by
 have hcode:True→True:=id
 have hsl:True→True:=id
 have hs5:=hs.gos
 refine Ctr.body ok Go.Proofs.Tryz.func105 rfl rfl 19 rfl [.tmp 4] rfl (by simp [QF]) ?_
 simp only [go_sem,Nat.reduceAdd]
 repeat' first
  | ((with_reducible refine Q5 fun R1 hR1=>?_);(simp only [go_sem,seval,-List.reduceReplicate,Q6,QE,Xv,z93,z3,Bool.cond_false_right,Bool.cond_true_left]);(repeat' with_reducible refine And.intro ?_ ?_);all_goals first|(refine hR1 _ ?_;clear hR1 R1)|exact Zp)
  | ((with_reducible refine Q4 ?_);refine hR _ ?_;clear hR R;try simp only [go_sem,QPC,Nat.reduceBEq])
  | (with_reducible first|refine J1 ?_|refine J2 ?_|refine Q2 ?_|refine Q1 ?_)
  | ((with_reducible refine rg QPC fun R hR=>?_);simp only [go_sem,QC])
  | ((with_reducible first|refine ZQ ?_|refine ZP ?_)
     simp only [go_sem,QL,QM,QH,seval]
     exact ⟨rfl,rfl⟩)
theorem Ui (p:Prg) (s:Stt) (g:Int):(atI p s g).op=QK p s g:=rfl
theorem yn (p:Prg) (s:Stt) (g:Int):(atI p s g).a=(QA p s g).a:=rfl
theorem ve (p:Prg) (s:Stt) (g:Int):(atI p s g).b=(QA p s g).b:=rfl
theorem QPO (p:Prg) (s:Stt) (g:Int):(atI p s g).c=(QA p s g).c:=rfl
theorem QIL (p:Prg) (s:Stt) (g:Int):(atI p s g).n=(QA p s g).n:=rfl
theorem zG {s:Stt} {g k:Int} (hc:s.count≤6) (h:Xw s g k=true):0≤k∧k<6:=by
 unfold Xw at h
 simp at h
 omega
theorem QKe {p:Prg} {s:Stt} {g:Int} (hok:p.Ok) (hr:QN p=true) (hv:Vld p s) (hg:0≤g∧g<s.count) (h:QK p s g=66):plain p s g=!decide ((s.chans.getD (QA p s g).a.toNat default).offer=1):=by
 rw [QMs h]
 have h2:(s.gos.getD g.toNat default).status=2:=by
  rcases qP h with h|h
  · exact h.1
  · have:=QHg ((hv.wf hok hr).right hok hg.1 hg.2)
    exact absurd h.2 (by omega)
 obtain ⟨c,hc,ho,hf,hw⟩:=hv.waiting (g:=g.toNat) (by omega) h2
 have ha:(QA p s g).a=(c:Int):=hw.2.2
 rw [ha]
 have ho3:=(hv.chans c hc).off
 rw [Int.toNat_natCast]
 by_cases h1:(s.chans.getD c default).offer=1
 · rw [decide_eq_true h1,h1];rfl
 · by_cases h2:(s.chans.getD c default).offer=2
   · rw [decide_eq_true h2,decide_eq_false h1];rfl
   · rw [decide_eq_true (show (s.chans.getD c default).offer=3 by omega),decide_eq_false h1];simp
theorem QI2 {p:Prg} {s:Stt} {g:Int} (hok:p.Ok) (hw:Wf p s) (hg:0≤g∧g<s.count) (h1:¬QK p s g=54) (h2:¬QK p s g=55) (h3:¬QK p s g=58) (h4:¬QK p s g=59) (h5:¬QK p s g=66) (h6:¬QK p s g=63) (h7:¬QK p s g=61):plain p s g=ZG (QK p s g):=by
 rw [QGc ⟨h1,h2,h3,h4,h5,h6⟩]
 have e:=hw.op_at hok hg.1 hg.2 rfl h5
 have:=QHg (hw.right hok hg.1 hg.2)
 unfold ZG
 rw [decide_eq_true (show QK p s g≤65 by omega),Bool.and_true]
def QQw:List (List Nat):=[[2,3,4,6],[2,4,6,7],[6,7,30],[6,7],[6]]
theorem W0 (p:Prg) (s:Stt) (g:Int) (hp:p.Fit) (hr:QN p=true) (hw:Wf p s) (hg:0≤g∧g<s.count):Ctr Go.Proofs.Tryz.prog tab 90 [26,47,3] [104] [p.v,s.v,.int g] [(atI p s g).v]:=by
 have hpp:=hp
 have hok:=Prg.ok hr
 have hs:=hw.shape
 have hcnt:=hw.count
 have hcode:=p.code_len hp
 have hsl:=p.sels_len hp
 obtain ⟨hp1,hp2,hp3,hp4⟩:=hp
 have hs1:=hs.vars
 have hs2:=hs.owner
 have hs3:=hs.chans
 have hs5:=hs.gos
 have hsz:=hok.sizes
 unfold Zz at hsz
 have hmx:256≤maxLen:=by decide
 have hgi:=hw.gos g (by omega) (by omega)
 have hgf:=hgi.f0
 have hgf1:=hgi.f1
 have hgp:=hgi.p0
 have hgp1:=hgi.p1
 have h8:=hgi.regs
 refine Ctr.body ok Go.Proofs.Tryz.func90 rfl rfl 33 rfl [.cell 6 104] rfl (by simp [QF]) ?_
 simp only [go_sem,Nat.reduceAdd]
 repeat' first
  | ((with_reducible refine SART.told 1 16 ?_)
     rw [Zx (by omega)])
  | ((with_reducible first|refine Q5 fun R1 hR1=>?_|refine qz fun R1 hR1=>?_|refine qy fun R1 hR1=>?_|refine qx fun R1 hR1=>?_);(simp only [go_sem,seval,-List.reduceReplicate,Bool.cond_false_right,Bool.cond_true_left]);(repeat' with_reducible refine And.intro ?_ ?_);all_goals first|(refine hR1 _ ?_;clear hR1 R1)|exact Zp)
  | ((with_reducible first|refine qw ?_|refine Q4 ?_);refine hR _ ?_;clear hR R;try simp only [go_sem,QQw,Nat.reduceBEq])
  | (with_reducible first|refine qv ?_ ?_|exact qu|refine qt ?_ ?_)
  | (with_reducible first|refine J1 ?_|refine J2 ?_|refine J3 ?_|refine Q2 ?_|refine Q1 ?_)
  | ((with_reducible refine Qe 1 ?_)
     refine WT ok QQ (.take 0 (.take 1 (.take 2 (.take 3 (.take 4 (.take 5 (.take 6 (.take 7 (.take 8 (.take 9 (.take 10 (.take 11 (.take 12 (.take 13 (.take 14 (.take 15 (.take 16 (.br 17 (.br 18 .done .nil) .nil)))))))))))))))))) [18] QQw (by kernel_rfl) (fun R hR=>?_);simp only [go_sem,QC])
  | ((with_reducible refine rg QQw fun R hR=>?_);simp only [go_sem,QC])
  | ((with_reducible refine QI 30 rfl (fun hb30=>?_) fun hb30=>?_);all_goals (try simp [-List.getD_eq_getElem?_getD] at hb30;try (exfalso;omega)))
  | ((with_reducible first|refine ZQ ?_|refine ZP ?_)
     simp only [go_sem,QL,QM,QH,seval]
     first
      | (have q:¬_:=hb30
         have e:QK p s g=(QA p s g).op:=if_neg hb30
         exact ⟨rfl,congrArg (fun e=>some (Instr.v { QA p s g with op:=e })) e.symm⟩)
      | (have e:QK p s g=66:=if_pos hb30
         exact ⟨rfl,congrArg (fun e=>some (Instr.v { QA p s g with op:=e })) e.symm⟩))
def QQv:List (List Nat):=[[2,3,4],[2,3,7],[6]]
theorem Wn (p:Prg) (s:Stt) (c:Int) (hp:p.Fit) (hr:QN p=true) (hw:Wf p s) (hc:0≤c∧c<p.chans.length):Ctr Go.Proofs.Tryz.prog tab 93 [26,47,3] [4] [p.v,s.v,.int c] [.bool (Ys p s c)]:=by
 have hpp:=hp
 have hok:=Prg.ok hr
 have hs:=hw.shape
 have hcnt:=hw.count
 have hcode:=p.code_len hp
 have hsl:=p.sels_len hp
 obtain ⟨hp1,hp2,hp3,hp4⟩:=hp
 have hs1:=hs.vars
 have hs2:=hs.owner
 have hs3:=hs.chans
 have hs5:=hs.gos
 have hsz:=hok.sizes
 unfold Zz at hsz
 have hmx:256≤maxLen:=by decide
 refine Ctr.body ok Go.Proofs.Tryz.func93 rfl rfl 45 rfl [.tmp 6] rfl (by simp [QF]) ?_
 simp only [go_sem,Nat.reduceAdd]
 repeat' first
  | ((with_reducible refine SARA.told 1 4 ?_)
     rw [Zl (by omega)])
  | ((with_reducible first|refine Q5 fun R1 hR1=>?_|refine yb fun R1 hR1=>?_);(simp only [go_sem,seval,-List.reduceReplicate,Bool.cond_false_right,Bool.cond_true_left]);(repeat' with_reducible refine And.intro ?_ ?_);all_goals first|(refine hR1 _ ?_;clear hR1 R1)|exact Zp)
  | ((with_reducible first|refine Q4 ?_|refine ya ?_);refine hR _ ?_;clear hR R;try simp only [go_sem,QQv,Nat.reduceBEq])
  | (with_reducible first|refine J1 ?_|refine J2 ?_|refine Q2 ?_|refine Q1 ?_)
  | ((with_reducible refine rg QQv fun R hR=>?_);simp only [go_sem,QC])
  | ((with_reducible refine Ve ok QQ (by kernel_rfl) (by kernel_rfl) QQv ?_);intro R hR;simp only [go_sem,QC])
  | ((with_reducible first|refine ZQ ?_|refine ZP ?_)
     simp only [go_sem,QL,QM,QH,seval]
     have hcp:0≤p.chans.getD c.toNat 0:=(hok.caps _).1
     refine ⟨rfl,?_⟩
     rw [QKU hcp])
def QTR:List (List Nat):=[[1,2],[5],[4]]
theorem XK (s:Stt) (c:Int) (hs:s.Shape) (hc:0≤c∧c<4):Ctr Go.Proofs.Tryz.prog tab 94 [47,3] [4] [s.v,.int c] [.bool (XG s c)]:=by
 have hs3:=hs.chans
 refine Ctr.body ok Go.Proofs.Tryz.func94 rfl rfl 22 rfl [.tmp 4] rfl (by simp [QF]) ?_
 simp only [go_sem,Nat.reduceAdd]
 repeat' first
  | ((with_reducible refine SARA.told 1 4 ?_)
     rw [Zl (by omega)])
  | ((with_reducible refine Q5 fun R1 hR1=>?_);(simp only [go_sem,seval,-List.reduceReplicate,Bool.cond_false_right,Bool.cond_true_left]);(repeat' with_reducible refine And.intro ?_ ?_);all_goals first|(refine hR1 _ ?_;clear hR1 R1)|exact Zp)
  | ((with_reducible refine Q4 ?_);refine hR _ ?_;clear hR R;try simp only [go_sem,QTR,Nat.reduceBEq])
  | (with_reducible first|refine J1 ?_|refine J2 ?_|refine Q2 ?_|refine Q1 ?_)
  | ((with_reducible refine rg QTR fun R hR=>?_);simp only [go_sem,QC])
  | ((with_reducible first|refine ZQ ?_|refine ZP ?_)
     simp only [go_sem,QL,QM,QH,seval]
     refine ⟨rfl,?_⟩
     unfold XG Stt.chn
     cases decide (0<(s.chans.getD c.toNat default).len)<;>cases (s.chans.getD c.toNat default).closed<;>rfl)
def QO2:List (List Nat):=[[1,2,3],[6]]
theorem Xd (s:Stt) (g k:Int) (hs:s.Shape):Ctr Go.Proofs.Tryz.prog tab 127 [47,3,2] [4] [s.v,.int g,.int k] [.bool (Xw s g k)]:=by
 refine Ctr.body ok Go.Proofs.Tryz.func127 rfl rfl 20 rfl [.tmp 6] rfl (by simp [QF]) ?_
 simp only [go_sem,Nat.reduceAdd]
 repeat' first
  | ((with_reducible refine Q5 fun R1 hR1=>?_);(simp only [go_sem,seval,-List.reduceReplicate,Bool.cond_false_right,Bool.cond_true_left]);(repeat' with_reducible refine And.intro ?_ ?_);all_goals first|(refine hR1 _ ?_;clear hR1 R1)|exact Zp)
  | ((with_reducible refine Q4 ?_);refine hR _ ?_;clear hR R;try simp only [go_sem,QO2,Nat.reduceBEq])
  | (with_reducible first|refine J1 ?_|refine J2 ?_|refine Q2 ?_|refine Q1 ?_)
  | ((with_reducible refine rg QO2 fun R hR=>?_);simp only [go_sem,QC])
  | ((with_reducible first|refine ZQ ?_|refine ZP ?_)
     simp only [go_sem,QL,QM,QH,seval]
     refine ⟨rfl,?_⟩
     unfold Xw
     cases decide (0≤k)<;>cases decide (k<s.count)<;>rfl)
def QEO:List (List Nat):=[[2,3,4],[2,3,4,7],[2,3,4,7,8],[2,3,4,7,8,19],[2,3,4,7,8,19,20],[6],[2,3,4,7,8,19,32],[6],[2,3,4,7,8,19,40],[6],[2,4,7,8,19,47],[6],[2,4,7,8,19,53],[6],[2,4,7,8,62],[6],[6]]
theorem QA5 (p:Prg) (s:Stt) (g:Int) (hp:p.Fit) (hr:QN p=true) (hv:Vld p s) (hg:0≤g∧g<s.count) (h61:¬QK p s g=61):Ctr Go.Proofs.Tryz.prog tab 91 [26,47,3] [4] [p.v,s.v,.int g] [.bool (plain p s g)]:=by
 have hw:=hv.wf (Prg.ok hr) hr
 have hpp:=hp
 have hok:=Prg.ok hr
 have hs:=hw.shape
 have hcnt:=hw.count
 have hcode:=p.code_len hp
 have hsl:=p.sels_len hp
 obtain ⟨hp1,hp2,hp3,hp4⟩:=hp
 have hs1:=hs.vars
 have hs2:=hs.owner
 have hs3:=hs.chans
 have hs5:=hs.gos
 have hsz:=hok.sizes
 unfold Zz at hsz
 have hmx:256≤maxLen:=by decide
 have hgi:=hw.gos g (by omega) (by omega)
 have hgf:=hgi.f0
 have hgf1:=hgi.f1
 have hgp:=hgi.p0
 have hgp1:=hgi.p1
 have h8:=hgi.regs
 have hrt:Qb p (p.funcs.getD (s.gos.getD g.toNat default).func.toNat default) (QA p s g)=0:=hw.right hok hg.1 hg.2
 have hrg:=hok.regs (s.gos.getD g.toNat default).func.toNat
 refine Ctr.body ok Go.Proofs.Tryz.func91 rfl rfl 84 rfl [.tmp 6] rfl (by simp [QF]) ?_
 simp only [go_sem,Nat.reduceAdd]
 repeat' first
  | ((with_reducible first|refine Q5 fun R1 hR1=>?_|refine yb fun R1 hR1=>?_);(simp only [go_sem,seval,-List.reduceReplicate,Bool.cond_false_right,Bool.cond_true_left,Ui,yn,ve]);(repeat' with_reducible refine And.intro ?_ ?_);all_goals first|(refine hR1 _ ?_;clear hR1 R1)|(intro hgf;simp only [hgf];refine hR1 _ ?_;clear hR1 R1)|((first|refine V4 (cc (W0 p s g hpp hr hw hg)) ?_|refine wB (fun hg=>cc (W0 p s g hpp hr hw hg)) ?_|refine cq (cc (W0 p s g hpp hr hw hg)) ?_|refine Y4 (fun hg=>cc (W0 p s g hpp hr hw hg)) ?_|refine V4 (cc (Wn p s _ hpp hr hw hI.1)) ?_|refine wB (fun hg=>cc (Wn p s _ hpp hr hw hI.1)) ?_|refine cq (cc (Wn p s _ hpp hr hw hI.1)) ?_|refine Y4 (fun hg=>cc (Wn p s _ hpp hr hw hI.1)) ?_|refine V4 (cc (XK s _ hs hc4)) ?_|refine wB (fun hg=>cc (XK s _ hs hc4)) ?_|refine cq (cc (XK s _ hs hc4)) ?_|refine Y4 (fun hg=>cc (XK s _ hs hc4)) ?_|refine V4 (cc (Xd s g _ hs)) ?_|refine wB (fun hg=>cc (Xd s g _ hs)) ?_|refine cq (cc (Xd s g _ hs)) ?_|refine Y4 (fun hg=>cc (Xd s g _ hs)) ?_|refine V4 (cc (VY _)) ?_|refine wB (fun hg=>cc (VY _)) ?_|refine cq (cc (VY _)) ?_|refine Y4 (fun hg=>cc (VY _)) ?_|refine V4 (cc (Xm s _ hs (zG hcnt.2 (by simpa using hg)))) ?_|refine wB (fun hg=>cc (Xm s _ hs (zG hcnt.2 (by simpa using hg)))) ?_|refine cq (cc (Xm s _ hs (zG hcnt.2 (by simpa using hg)))) ?_|refine Y4 (fun hg=>cc (Xm s _ hs (zG hcnt.2 (by simpa using hg)))) ?_);all_goals ((try simp only [go_sem,seval,-List.reduceReplicate,Bool.cond_false_right,Bool.cond_true_left,Ui,yn,ve]);(repeat' with_reducible refine And.intro ?_ ?_);all_goals first|(refine hR1 _ ?_;clear hR1 R1)|(intro hgf;simp only [hgf];refine hR1 _ ?_;clear hR1 R1)|exact Zp))|exact Zp)
  | ((with_reducible first|refine Q4 ?_|refine ya ?_);refine hR _ ?_;clear hR R;try simp only [go_sem,QEO,Nat.reduceBEq])
  | (with_reducible first|refine J1 ?_|refine J2 ?_|refine J3 ?_|refine J4 ?_|refine J5 ?_|refine J6 ?_|refine J7 ?_|refine J8 (by decide) ?_|refine J9 ?_|refine Q2 ?_|refine Q1 ?_|refine Yc ?_)
  | ((with_reducible refine Qe 5 ?_)
     have hI:=QAP hrt (hw.op_at hok hg.1 hg.2 hb20 (by decide))
     (with_reducible refine Ve ok QQ (by kernel_rfl) (by kernel_rfl) QEO ?_);intro R hR;simp only [go_sem,QC])
  | ((with_reducible refine Qe 7 ?_)
     have hI:=yd hrt (.inl (hw.op_at hok hg.1 hg.2 hb32 (by decide)))
     (with_reducible refine rg QEO fun R hR=>?_);simp only [go_sem,QC])
  | ((with_reducible refine Qe 9 ?_)
     have hI:=Vm hrt (hw.op_at hok hg.1 hg.2 hb40 (by decide))
     (with_reducible refine rg QEO fun R hR=>?_);simp only [go_sem,QC])
  | ((with_reducible refine Qe 11 ?_)
     have hI:=yc hrt (hw.op_at hok hg.1 hg.2 hb47 (by decide))
     have hc4:0≤(QA p s g).b∧(QA p s g).b<4:=by omega
     (with_reducible refine rg QEO fun R hR=>?_);simp only [go_sem,QC])
  | ((with_reducible refine Qe 13 ?_)
     have hI:=Vm hrt (hw.op66 hok hg.1 hg.2 hb53)
     (with_reducible refine rg QEO fun R hR=>?_);simp only [go_sem,QC])
  | ((with_reducible refine Qe 15 ?_)
     have hI:=w7 hrt (.inl (hw.op_at hok hg.1 hg.2 hb62 (by decide)))
     (with_reducible refine Ve ok QQ (by kernel_rfl) (by kernel_rfl) QEO ?_);intro R hR;simp only [go_sem,QC])
  | ((with_reducible refine rg QEO fun R hR=>?_);simp only [go_sem,QC])
  | ((with_reducible refine Ve ok QQ (by kernel_rfl) (by kernel_rfl) QEO ?_);intro R hR;simp only [go_sem,QC])
  | ((with_reducible refine QI 20 rfl (fun hb20=>?_) fun hb20=>?_);all_goals (try simp [-List.getD_eq_getElem?_getD] at hb20;try (exfalso;omega)))
  | ((with_reducible refine QI 32 rfl (fun hb32=>?_) fun hb32=>?_);all_goals (try simp [-List.getD_eq_getElem?_getD] at hb32;try (exfalso;omega)))
  | ((with_reducible refine QI 40 rfl (fun hb40=>?_) fun hb40=>?_);all_goals (try simp [-List.getD_eq_getElem?_getD] at hb40;try (exfalso;omega)))
  | ((with_reducible refine QI 47 rfl (fun hb47=>?_) fun hb47=>?_);all_goals (try simp [-List.getD_eq_getElem?_getD] at hb47;try (exfalso;omega)))
  | ((with_reducible refine QI 53 rfl (fun hb53=>?_) fun hb53=>?_);all_goals (try simp [-List.getD_eq_getElem?_getD] at hb53;try (exfalso;omega)))
  | ((with_reducible refine QI 62 rfl (fun hb62=>?_) fun hb62=>?_);all_goals (try simp [-List.getD_eq_getElem?_getD] at hb62;try (exfalso;omega)))
  | ((with_reducible first|refine ZQ ?_|refine ZP ?_)
     simp only [go_sem,QL,QM,QH,seval]
     first
      | (have q:=hb20
         exact ⟨rfl,congrArg (fun b=>some (V.bool b)) (QMw hb20).symm⟩)
      | (have q:=hb32
         exact ⟨rfl,congrArg (fun b=>some (V.bool b)) (QMv hb32).symm⟩)
      | (have q:=hb40
         exact ⟨rfl,congrArg (fun b=>some (V.bool b)) (QHc hb40).symm⟩)
      | (have q:=hb47
         exact ⟨rfl,congrArg (fun b=>some (V.bool b)) (QMu hb47).symm⟩)
      | (have q:=hb53
         exact ⟨rfl,congrArg (fun b=>some (V.bool b)) (QKe hok hr hv hg hb53).symm⟩)
      | (have q:=hb62
         refine ⟨rfl,?_⟩
         simp only [← List.getD_eq_getElem?_getD]
         exact congrArg (fun b=>some (V.bool b)) (QMt hb62).symm)
      | (exact ⟨rfl,congrArg (fun b=>some (V.bool b)) (QI2 hok hw hg hb20 hb32 hb40 hb47 hb53 hb62 h61).symm⟩))
def QDa (L:List Int) (b:Bool) (k:Int):List Int:=if b then L++[k] else L
theorem QMF {p:Prg} {s:Stt} {g:Int} (hl:YB s g=true) (h:QK p s g=61) {q:Sel} (hq:Qw p s g=q) {i:Nat} (hi:i=q.cases.length) :
 Qn p s g=QDa (ZO p s q i) (decide (((ZO p s q i).length:Int)=0)&&!decide (q.els = -1)) (q.cases.length:Int):=by
 subst hq
 subst hi
 have e:Qn p s g=if (ZO p s (Qw p s g) (Qw p s g).cases.length).length=0∧(Qw p s g).els ≠ -1 then ZO p s (Qw p s g) (Qw p s g).cases.length++[((Qw p s g).cases.length:Int)] else ZO p s (Qw p s g) (Qw p s g).cases.length:=(if_pos hl).trans (if_pos h)
 rw [e]
 by_cases h1:(ZO p s (Qw p s g) (Qw p s g).cases.length).length=0
 · by_cases h2:(Qw p s g).els = -1
   · rw [if_neg (fun q=>q.2 h2),decide_eq_true h2,Bool.not_true,Bool.and_false];rfl
   · rw [if_pos ⟨h1,h2⟩,decide_eq_false h2,decide_eq_true (show ((ZO p s (Qw p s g) (Qw p s g).cases.length).length:Int)=0 by omega)];rfl
 · rw [if_neg (fun q=>h1 q.1),decide_eq_false (show ¬((ZO p s (Qw p s g) (Qw p s g).cases.length).length:Int)=0 by omega)];rfl
def QTS:List (List Nat):=[[0,2,5],[]]
theorem QHJ (P S X C:V) (L:List Int) (k:Int) (b:Bool) {tm:Tm} {out:List Tm} {nt:Nat} {xs:List Obj} {K:St→E→Prop} (hL:L.length≤1000) (hx:xs.map (Obj.kill 5)=xs) (hk1:Tm.kill 5 tm=tm) (hk2:out.map (Tm.kill 5)=out) (h:∀ ys,K { tm:=tm,ob:=.var 26 (.data 26 P)::.var 47 (.data 47 S)::.var 104 (.data 104 X)::.var 23 (.sl 5 3 0 (QDa L b k).length false)::.var 173 (.data 173 C)::.row 3 ((QDa L b k).map V.int)::(xs++ys),out:=out,nt:=nt } (.tup [])):CallE Go.Proofs.Tryz.prog tab { tm:=tm,ob:=.var 26 (.data 26 P)::.var 47 (.data 47 S)::.var 104 (.data 104 X)::.var 23 (.sl 5 3 0 L.length false)::.var 173 (.data 173 C)::.row 3 (L.map V.int)::xs,out:=out,nt:=nt } 92 [.int .i64 k,.bool b,.ptr 3 [] 23] K:=by
 have hk1':(tm.map fun x=>(x.1,x.2.1,E.kill 5 x.2.2))=tm:=hk1
 refine CallE.body ok Go.Proofs.Tryz.func92 rfl rfl 10 rfl [] rfl (by simp) ?_
 simp only [enter,Zf,Nat.zero_add,Nat.reduceAdd]
 repeat' first
  | ((with_reducible refine Q5 fun R1 hR1=>?_);(simp only [go_sem,seval,-List.reduceReplicate,hk1',hk2,hx,List.getElem?_cons_succ,List.set_cons_succ,List.set_cons_zero,U4]);(repeat' with_reducible refine And.intro ?_ ?_);all_goals first|(refine hR1 _ ?_;clear hR1 R1)|exact VL)
  | ((with_reducible refine Q4 ?_);refine hR _ ?_;clear hR R;try simp only [go_sem,QTS,Nat.reduceBEq])
  | (with_reducible first|refine J1 ?_|refine J2 ?_|refine J3 ?_|refine Q2 ?_|refine Q1 ?_)
  | ((with_reducible refine rg QTS fun R hR=>?_);simp only [go_sem,QC])
  | ((with_reducible refine QI 5 rfl (fun hb5=>?_) (fun hb5=>?_))
     all_goals
      try simp at hb5
      try subst hb5)
  | ((with_reducible first|refine xQ ?_|refine xP ?_)
     simp only [go_sem,QL,QM,QH,seval]
     first
      | (have q:=h [Obj.row 3 [V.int k]]
         simpa [QDa,hx,Obj.kill,List.take_of_length_le] using q)
      | (have q:=h []
         simpa [QDa] using q))
def QLA:List (List Nat):=[[2,3,4],[2,3,4,7],[2,3,4,7,19],[23],[6],[6],[2,3,4,7,8],[3,4,8,9],[3,4,8,9,10],[3,4,8,9,10,41,42,43],[3,4,8,9,10,41,42,43,44],[3,4,8,9,10,11,12,41,42,43],[3,4,8,9,10,41,42,43],[3,4,8,9,10,41,42,43],[8],[6]]
theorem Uw (p:Prg) (s:Stt) (g:Int) (hp:p.Fit) (hr:QN p=true) (hv:Vld p s) (hg:0≤g∧g<s.count) (hl:YB s g=true):Ctr Go.Proofs.Tryz.prog tab 49 [26,47,3] [23] [p.v,s.v,.int g] [.list ((Qn p s g).map V.int)]:=by
 have hw:=hv.wf (Prg.ok hr) hr
 have hpp:=hp
 have hok:=Prg.ok hr
 have hs:=hw.shape
 have hcnt:=hw.count
 have hcode:=p.code_len hp
 have hsl:=p.sels_len hp
 obtain ⟨hp1,hp2,hp3,hp4⟩:=hp
 have hs1:=hs.vars
 have hs2:=hs.owner
 have hs3:=hs.chans
 have hs5:=hs.gos
 have hsz:=hok.sizes
 unfold Zz at hsz
 have hmx:256≤maxLen:=by decide
 have hgi:=hw.gos g (by omega) (by omega)
 have hgf:=hgi.f0
 have hgf1:=hgi.f1
 have hgp:=hgi.p0
 have hgp1:=hgi.p1
 have h8:=hgi.regs
 have hrt:Qb p (p.funcs.getD (s.gos.getD g.toNat default).func.toNat default) (QA p s g)=0:=hw.right hok hg.1 hg.2
 have hrg:=hok.regs (s.gos.getD g.toNat default).func.toNat
 refine Ctr.body ok Go.Proofs.Tryz.func49 rfl rfl 86 rfl [.tmp 6] rfl (by simp [QF]) ?_
 simp only [go_sem,Nat.reduceAdd]
 repeat' first
  | ((with_reducible refine SARW.told 14 12 ?_)
     refine J48 (St.le.keep [8,72,75,83]) ?_
     simp only [St.keep,List.filterMap_cons,List.filterMap_nil,List.lookup_cons,List.lookup_nil,Option.map_some,Option.map_none,beq_self_eq_true,Nat.reduceBEq])
  | ((with_reducible refine SARA.told 11 3 ?_)
     rw [Wq (by omega)])
  | ((with_reducible refine SART.told 7 7 ?_)
     rw [XM (by omega)])
  | ((with_reducible refine SART.told 7 12 ?_)
     rw [XL (by omega)])
  | ((with_reducible first|refine Q5 fun R1 hR1=>?_|refine SARW.do fun R1 hR1=>?_|refine qz fun R1 hR1=>?_|refine qy fun R1 hR1=>?_|refine qx fun R1 hR1=>?_);(simp only [go_sem,seval,-List.reduceReplicate,Bool.cond_false_right,Bool.cond_true_left,Ui,yn,ve,z3]);(repeat' with_reducible refine And.intro ?_ ?_);all_goals first|(refine hR1 _ ?_;clear hR1 R1)|((first|refine cq (cc (W0 p s g hpp hr hw hg)) ?_|refine Y4 (fun hg=>cc (W0 p s g hpp hr hw hg)) ?_|refine cq (cc (QA5 p s g hpp hr hv hg hb19)) ?_|refine Y4 (fun hg=>cc (QA5 p s g hpp hr hv hg hb19)) ?_|refine cq (cc (Wn p s _ hpp hr hw hC.chan)) ?_|refine Y4 (fun hg=>cc (Wn p s _ hpp hr hw hC.chan)) ?_|refine cq (cc (XK s _ hs hC4)) ?_|refine Y4 (fun hg=>cc (XK s _ hs hC4)) ?_|refine ⟨_,_,rfl,.inr (QHJ _ _ _ _ _ _ _ (by omega) rfl rfl rfl fun ys=>?_)⟩);all_goals ((try simp only [go_sem,seval,-List.reduceReplicate,Bool.cond_false_right,Bool.cond_true_left,Ui,yn,ve,z3]);(repeat' with_reducible refine And.intro ?_ ?_);all_goals first|(refine hR1 _ ?_;clear hR1 R1)|exact VL))|exact VL)
  | ((with_reducible first|refine qw ?_|refine Q4 ?_|refine SARW.nil ?_);refine hR _ ?_;clear hR R;try simp only [go_sem,QLA,Nat.reduceBEq])
  | (with_reducible first|refine qv ?_ ?_|exact qu|refine qt ?_ ?_)
  | (with_reducible first|refine J1 ?_|refine J2 ?_|refine J3 ?_|refine J4 ?_|refine J5 ?_|refine J6 ?_|refine J7 ?_|refine J8 (by decide) ?_|refine J9 ?_|refine Xu ?_|refine Q2 ?_|refine Q1 ?_|refine Yc ?_|refine Xt ?_)
  | ((with_reducible refine Qe 12 ?_)
     have hC:=Vb hok (i:=(s.gos.getD g.toNat default).func.toNat) (j:=(QA p s g).a.toNat) (k:=i) (by omega) (by omega) (by omega)
     have hC4:0≤(((p.funcs.getD (s.gos.getD g.toNat default).func.toNat default).sels.getD (QA p s g).a.toNat default).cases.getD i default).chan∧(((p.funcs.getD (s.gos.getD g.toNat default).func.toNat default).sels.getD (QA p s g).a.toNat default).cases.getD i default).chan<4:=⟨hC.chan.1,by have:=hC.chan.2;omega⟩
     have hq:=WR p s ((p.funcs.getD (s.gos.getD g.toNat default).func.toNat default).sels.getD (QA p s g).a.toNat default) i
     (with_reducible refine rg QLA fun R hR=>?_);simp only [go_sem,QC])
  | ((with_reducible refine Qe 14 ?_)
     have hq:=WR p s ((p.funcs.getD (s.gos.getD g.toNat default).func.toNat default).sels.getD (QA p s g).a.toNat default) i
     (with_reducible refine SA.regionWN ok (by kernel_rfl) QLA ?_);intro R hR;simp only [go_sem,QC])
  | ((with_reducible refine Qe 7 ?_)
     have hop:=hw.op_at hok hg.1 hg.2 hb19 (by decide)
     have hI:0≤(QA p s g).a∧(QA p s g).a<((p.funcs.getD (s.gos.getD g.toNat default).func.toNat default).sels.length:Int):=UB hrt hop
     have hsh:=hok.short (s.gos.getD g.toNat default).func.toNat (QA p s g).a.toNat (by omega)
     refine WT ok QQ (.take 0 (.take 1 (.take 2 (.take 3 (.take 4 (.take 5 (.take 6 (.take 7 (.take 8 (.take 9 (.take 10 (.take 11 (.take 12 (.take 13 (.br 14 (.br 15 .done .nil) .nil))))))))))))))) [15] QLA (by kernel_rfl) (fun R hR=>?_);simp only [go_sem,QC])
  | ((with_reducible refine rg QLA fun R hR=>?_);simp only [go_sem,QC])
  | ((with_reducible refine QI 19 rfl (fun hb19=>?_) fun hb19=>?_);all_goals (try simp [-List.getD_eq_getElem?_getD] at hb19;try (exfalso;omega)))
  | ((with_reducible refine QI 23 rfl (fun hb23=>?_) fun hb23=>?_);all_goals (try simp [-List.getD_eq_getElem?_getD] at hb23;try (exfalso;omega)))
  | ((with_reducible refine SA.cond rfl ?_ ?_)
     all_goals
      intro hb
      try simp [-List.getD_eq_getElem?_getD] at hb
      try (exfalso;omega))
  | ((with_reducible refine Ya ?_)
     refine Zv ((St.le.ownVar 3 (e:=3) rfl).trans (Qo rfl)) (Yb (fun n τ=>∃ (i:Nat),n=((p.funcs.getD (s.gos.getD g.toNat default).func.toNat default).sels.getD (QA p s g).a.toNat default).cases.length-i∧(i≤((p.funcs.getD (s.gos.getD g.toNat default).func.toNat default).sels.getD (QA p s g).a.toNat default).cases.length)∧τ={ tm:=[(3,true,.ptr 0 [] 26),(4,true,.ptr 1 [] 47),(8,true,.ptr 3 [] 23),(9,true,.ptr 4 [] 173),(10,true,.fn 92 [.ptr 3 [] 23]),(41,true,.fs 176 (((p.funcs.getD (s.gos.getD g.toNat default).func.toNat default).sels.getD (QA p s g).a.toNat default).cases.map Cas.v) false),(42,true,.int .i64 ((p.funcs.getD (s.gos.getD g.toNat default).func.toNat default).sels.getD (QA p s g).a.toNat default).cases.length),(43,true,.int .i64 i)],ob:=[.var 26 (.data 26 p.v),.var 47 (.data 47 s.v),.var 104 (.data 104 (atI p s g).v),.var 23 (.sl 5 3 0 (ZO p s ((p.funcs.getD (s.gos.getD g.toNat default).func.toNat default).sels.getD (QA p s g).a.toNat default) i).length false),.var 173 (.data 173 ((p.funcs.getD (s.gos.getD g.toNat default).func.toNat default).sels.getD (QA p s g).a.toNat default).v),.row 3 ((ZO p s ((p.funcs.getD (s.gos.getD g.toNat default).func.toNat default).sels.getD (QA p s g).a.toNat default) i).map V.int)],out:=[],nt:=86 }) (((p.funcs.getD (s.gos.getD g.toNat default).func.toNat default).sels.getD (QA p s g).a.toNat default).cases.length) ⟨0,rfl,by omega,rfl⟩ ?_)
     rintro n τ ⟨i,hn,hi,rfl⟩)
  | ((with_reducible refine WC ?_)
     first
      | (have hlt:i<((p.funcs.getD (s.gos.getD g.toNat default).func.toNat default).sels.getD (QA p s g).a.toNat default).cases.length:=by omega
         have hw:=QD (n:=i) (m:=256) (by omega) (by decide)
         have e:∀ x,x=XQ p s (((p.funcs.getD (s.gos.getD g.toNat default).func.toNat default).sels.getD (QA p s g).a.toNat default).cases.getD i default)→QDa (ZO p s ((p.funcs.getD (s.gos.getD g.toNat default).func.toNat default).sels.getD (QA p s g).a.toNat default) i) x i=ZO p s ((p.funcs.getD (s.gos.getD g.toNat default).func.toNat default).sels.getD (QA p s g).a.toNat default) (i+1):=by
          intro x hx
          subst hx
          cases hc:XQ p s (((p.funcs.getD (s.gos.getD g.toNat default).func.toNat default).sels.getD (QA p s g).a.toNat default).cases.getD i default)
          · exact (wH hc).symm
          · exact (vZ hc).symm
         refine Z0 (((p.funcs.getD (s.gos.getD g.toNat default).func.toNat default).sels.getD (QA p s g).a.toNat default).cases.length-(i+1)) _ (by omega) ((WS 6 rfl).trans (Qo (by rw [e _ (by unfold XQ;cases (((p.funcs.getD (s.gos.getD g.toNat default).func.toNat default).sels.getD (QA p s g).a.toNat default).cases.getD i default).send<;>simp)];simp only [hw,List.take_succ_cons,List.take_zero]))) ⟨i+1,rfl,hlt,rfl⟩))
  | ((with_reducible first|refine ZQ ?_|refine ZP ?_)
     simp only [go_sem,QL,QM,QH,seval]
     first
      | (have q:=hb23
         refine ⟨rfl,?_⟩
         rw [show Qn p s g=[0] from (if_pos hl).trans ((if_neg hb19).trans (if_pos hb23))]
         simp)
      | (have q:=hb23
         refine ⟨rfl,?_⟩
         rw [show Qn p s g=[] from (if_pos hl).trans ((if_neg hb19).trans (if_neg (by rw [hb23];simp)))]
         rfl)
      | (have hi':i=((p.funcs.getD (s.gos.getD g.toNat default).func.toNat default).sels.getD (QA p s g).a.toNat default).cases.length:=by omega
         refine ⟨rfl,?_,fun _ h=>absurd h (by simp)⟩
         rw [QMF hl hb19 (q:=((p.funcs.getD (s.gos.getD g.toNat default).func.toNat default).sels.getD (QA p s g).a.toNat default)) rfl hi']
         simp [-List.getD_eq_getElem?_getD,List.take_of_length_le]))
def QND:List (List Nat):=[[2,3],[2,3,6],[2,3,6,16],[4,5],[2,3,7],[2,3,7,19,20,21],[2,3,7,19,20,21,22],[2,3,7,9,19,20,21],[2,3,7,9,19,20,21,28,29,30],[2,3,7,9,19,20,21,28,29,30,31],[2,3,7,9,11,19,20,21,28,29,30],[2,3,7,9,19,20,21,28,29,30],[2,3,7,9,19,20,21,28,29,30],[2,3,7,19,20,21],[4,5]]
end Go.Eng.Tryz
