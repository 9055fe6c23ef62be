/- A part of the proof: walks through the program's functions, and what they compute. -/
import Derived.Test.YtedceinkpkoncaaGreatDoorPk13
set_option linter.unusedSimpArgs false
set_option linter.unusedVariables false
namespace Go.Eng.Tryz
open Go.RowKit Go.Eng
set_option maxHeartbeats 0
set_option maxRecDepth 20000
theorem Xt (p:Prg) (s:Stt) (g:Int) (hp:p.Fit) (hr:QP p=true) (hw:Wf p s) (hg:0≤g∧g<s.count):Ctr Go.Proofs.Tryz.prog tab 64 [26,37,3] [129] [p.v,s.v,.int g] [(atI p s g).v]:=by
 have hpp:=hp
 have hok:=Prg.ok hr
 have hs:=hw.shape
 have hcnt:=hw.count
 have hcode:=p.code_len hp
 have hsl:=p.sels_len hp
 obtain ⟨hp1,hp2,hp3,hp4⟩:=hp
 have hs1:=hs.vars
 have hs2:=hs.owner
 have hs3:=hs.chans
 have hs5:=hs.gos
 have hsz:=hok.sizes
 unfold Ze at hsz
 have hmx:256≤maxLen:=by decide
 have hgi:=hw.gos g (by omega) (by omega)
 have hgf:=hgi.f0
 have hgf1:=hgi.f1
 have hgp:=hgi.p0
 have hgp1:=hgi.p1
 have h8:=hgi.regs
 refine Ctr.body ok Go.Proofs.Tryz.func64 rfl rfl 33 rfl [.cell 6 129] rfl (by simp [QE]) ?_
 simp only [go_sem,Nat.reduceAdd]
 repeat' first
  | ((with_reducible refine SART.told 1 16 ?_)
     rw [Zn (by omega)])
  | ((with_reducible first|refine Q2 fun R1 hR1=>?_|refine qR fun R1 hR1=>?_|refine qQ fun R1 hR1=>?_|refine qP fun R1 hR1=>?_);(simp only [go_sem,seval,-List.reduceReplicate,Bool.cond_false_right,Bool.cond_true_left]);(repeat' with_reducible refine And.intro ?_ ?_);all_goals first|(refine hR1 _ ?_;clear hR1 R1)|exact ZQ)
  | ((with_reducible first|refine qO ?_|refine Q1 ?_);refine hR _ ?_;clear hR R;try simp only [go_sem,QOE,Nat.reduceBEq])
  | (with_reducible first|refine qN ?_ ?_|exact qM|refine qL ?_ ?_)
  | (with_reducible first|refine J1 ?_|refine J2 ?_|refine J3 ?_|refine Q0 ?_|refine Qz ?_)
  | ((with_reducible refine QZ 1 ?_)
     refine WJ ok QN (.take 0 (.take 1 (.take 2 (.take 3 (.take 4 (.take 5 (.take 6 (.take 7 (.take 8 (.take 9 (.take 10 (.take 11 (.take 12 (.take 13 (.take 14 (.take 15 (.take 16 (.br 17 (.br 18 .done .nil) .nil)))))))))))))))))) [18] QOE (by kernel_rfl) (fun R hR=>?_);simp only [go_sem,QC])
  | ((with_reducible refine rg QOE fun R hR=>?_);simp only [go_sem,QC])
  | ((with_reducible refine QH 30 rfl (fun hb30=>?_) fun hb30=>?_);all_goals (try simp [-List.getD_eq_getElem?_getD] at hb30;try (exfalso;omega)))
  | ((with_reducible first|refine ZH ?_|refine ZG ?_)
     simp only [go_sem,QJ,QK,QG,seval]
     first
      | (have q:¬_:=hb30
         have e:QL p s g=(QA p s g).op:=if_neg hb30
         exact ⟨rfl,congrArg (fun e=>some (Instr.v { QA p s g with op:=e })) e.symm⟩)
      | (have e:QL p s g=66:=if_pos hb30
         exact ⟨rfl,congrArg (fun e=>some (Instr.v { QA p s g with op:=e })) e.symm⟩))
def QJF:List (List Nat):=[[2,3,4],[2,3,7],[6]]
theorem Wg (p:Prg) (s:Stt) (c:Int) (hp:p.Fit) (hr:QP p=true) (hw:Wf p s) (hc:0≤c∧c<p.chans.length):Ctr Go.Proofs.Tryz.prog tab 105 [26,37,3] [4] [p.v,s.v,.int c] [.bool (XF p s c)]:=by
 have hpp:=hp
 have hok:=Prg.ok hr
 have hs:=hw.shape
 have hcnt:=hw.count
 have hcode:=p.code_len hp
 have hsl:=p.sels_len hp
 obtain ⟨hp1,hp2,hp3,hp4⟩:=hp
 have hs1:=hs.vars
 have hs2:=hs.owner
 have hs3:=hs.chans
 have hs5:=hs.gos
 have hsz:=hok.sizes
 unfold Ze at hsz
 have hmx:256≤maxLen:=by decide
 refine Ctr.body ok Go.Proofs.Tryz.func105 rfl rfl 45 rfl [.tmp 6] rfl (by simp [QE]) ?_
 simp only [go_sem,Nat.reduceAdd]
 repeat' first
  | ((with_reducible refine SARA.told 1 4 ?_)
     rw [ZU (by omega)])
  | ((with_reducible first|refine Q2 fun R1 hR1=>?_|refine xP fun R1 hR1=>?_);(simp only [go_sem,seval,-List.reduceReplicate,Bool.cond_false_right,Bool.cond_true_left]);(repeat' with_reducible refine And.intro ?_ ?_);all_goals first|(refine hR1 _ ?_;clear hR1 R1)|exact ZQ)
  | ((with_reducible first|refine Q1 ?_|refine xO ?_);refine hR _ ?_;clear hR R;try simp only [go_sem,QJF,Nat.reduceBEq])
  | (with_reducible first|refine J1 ?_|refine J2 ?_|refine Q0 ?_|refine Qz ?_)
  | ((with_reducible refine rg QJF fun R hR=>?_);simp only [go_sem,QC])
  | ((with_reducible refine Vv ok QN (by kernel_rfl) (by kernel_rfl) QJF ?_);intro R hR;simp only [go_sem,QC])
  | ((with_reducible first|refine ZH ?_|refine ZG ?_)
     simp only [go_sem,QJ,QK,QG,seval]
     have hcp:0≤p.chans.getD c.toNat 0:=(hok.caps _).1
     refine ⟨rfl,?_⟩
     rw [QIH hcp])
def QMl:List (List Nat):=[[1,2],[5],[4]]
theorem Y9 (s:Stt) (c:Int) (hs:s.Shape) (hc:0≤c∧c<4):Ctr Go.Proofs.Tryz.prog tab 106 [37,3] [4] [s.v,.int c] [.bool (WU s c)]:=by
 have hs3:=hs.chans
 refine Ctr.body ok Go.Proofs.Tryz.func106 rfl rfl 22 rfl [.tmp 4] rfl (by simp [QE]) ?_
 simp only [go_sem,Nat.reduceAdd]
 repeat' first
  | ((with_reducible refine SARA.told 1 4 ?_)
     rw [ZU (by omega)])
  | ((with_reducible refine Q2 fun R1 hR1=>?_);(simp only [go_sem,seval,-List.reduceReplicate,Bool.cond_false_right,Bool.cond_true_left]);(repeat' with_reducible refine And.intro ?_ ?_);all_goals first|(refine hR1 _ ?_;clear hR1 R1)|exact ZQ)
  | ((with_reducible refine Q1 ?_);refine hR _ ?_;clear hR R;try simp only [go_sem,QMl,Nat.reduceBEq])
  | (with_reducible first|refine J1 ?_|refine J2 ?_|refine Q0 ?_|refine Qz ?_)
  | ((with_reducible refine rg QMl fun R hR=>?_);simp only [go_sem,QC])
  | ((with_reducible first|refine ZH ?_|refine ZG ?_)
     simp only [go_sem,QJ,QK,QG,seval]
     refine ⟨rfl,?_⟩
     unfold WU Stt.chn
     cases decide (0<(s.chans.getD c.toNat default).len)<;>cases (s.chans.getD c.toNat default).closed<;>rfl)
def QMj:List (List Nat):=[[1,2,3],[6]]
theorem XP (s:Stt) (g k:Int) (hs:s.Shape):Ctr Go.Proofs.Tryz.prog tab 108 [37,3,2] [4] [s.v,.int g,.int k] [.bool (Xj s g k)]:=by
 refine Ctr.body ok Go.Proofs.Tryz.func108 rfl rfl 20 rfl [.tmp 6] rfl (by simp [QE]) ?_
 simp only [go_sem,Nat.reduceAdd]
 repeat' first
  | ((with_reducible refine Q2 fun R1 hR1=>?_);(simp only [go_sem,seval,-List.reduceReplicate,Bool.cond_false_right,Bool.cond_true_left]);(repeat' with_reducible refine And.intro ?_ ?_);all_goals first|(refine hR1 _ ?_;clear hR1 R1)|exact ZQ)
  | ((with_reducible refine Q1 ?_);refine hR _ ?_;clear hR R;try simp only [go_sem,QMj,Nat.reduceBEq])
  | (with_reducible first|refine J1 ?_|refine J2 ?_|refine Q0 ?_|refine Qz ?_)
  | ((with_reducible refine rg QMj fun R hR=>?_);simp only [go_sem,QC])
  | ((with_reducible first|refine ZH ?_|refine ZG ?_)
     simp only [go_sem,QJ,QK,QG,seval]
     refine ⟨rfl,?_⟩
     unfold Xj
     cases decide (0≤k)<;>cases decide (k<s.count)<;>rfl)
def yt:List (List Nat):=[[2,3,4],[2,3,4,7],[2,3,4,7,8],[2,3,4,7,8,19],[2,3,4,7,8,19,20],[6],[2,3,4,7,8,19,32],[6],[2,3,4,7,8,19,40],[6],[2,4,7,8,19,47],[6],[2,4,7,8,19,53],[6],[2,4,7,8,62],[6],[6]]
theorem vW (p:Prg) (s:Stt) (g:Int) (hp:p.Fit) (hr:QP p=true) (hv:Vld p s) (hg:0≤g∧g<s.count) (h61:¬QL p s g=61):Ctr Go.Proofs.Tryz.prog tab 103 [26,37,3] [4] [p.v,s.v,.int g] [.bool (plain p s g)]:=by
 have hw:=hv.wf (Prg.ok hr) hr
 have hpp:=hp
 have hok:=Prg.ok hr
 have hs:=hw.shape
 have hcnt:=hw.count
 have hcode:=p.code_len hp
 have hsl:=p.sels_len hp
 obtain ⟨hp1,hp2,hp3,hp4⟩:=hp
 have hs1:=hs.vars
 have hs2:=hs.owner
 have hs3:=hs.chans
 have hs5:=hs.gos
 have hsz:=hok.sizes
 unfold Ze at hsz
 have hmx:256≤maxLen:=by decide
 have hgi:=hw.gos g (by omega) (by omega)
 have hgf:=hgi.f0
 have hgf1:=hgi.f1
 have hgp:=hgi.p0
 have hgp1:=hgi.p1
 have h8:=hgi.regs
 have hrt:QV p (p.funcs.getD (s.gos.getD g.toNat default).func.toNat default) (QA p s g)=0:=hw.right hok hg.1 hg.2
 have hrg:=hok.regs (s.gos.getD g.toNat default).func.toNat
 refine Ctr.body ok Go.Proofs.Tryz.func103 rfl rfl 84 rfl [.tmp 6] rfl (by simp [QE]) ?_
 simp only [go_sem,Nat.reduceAdd]
 repeat' first
  | ((with_reducible first|refine Q2 fun R1 hR1=>?_|refine xP fun R1 hR1=>?_);(simp only [go_sem,seval,-List.reduceReplicate,Bool.cond_false_right,Bool.cond_true_left,VA,qK,zo]);(repeat' with_reducible refine And.intro ?_ ?_);all_goals first|(refine hR1 _ ?_;clear hR1 R1)|(intro hgf;simp only [hgf];refine hR1 _ ?_;clear hR1 R1)|((first|refine ⟨_,_,rfl,_,CallQ.ctr ok (Xt p s g hpp hr hw hg) (by first|rfl|(simp [go_sem];done)|fail) rfl,?_⟩|refine ⟨_,_,rfl,_,fun hg=>CallQ.ctr ok (Xt p s g hpp hr hw hg) (by first|rfl|(simp [go_sem];done)|fail) rfl,?_⟩|refine cq (cc (Xt p s g hpp hr hw hg)) ?_|refine ⟨_,_,rfl,.inl ⟨_,fun hg=>CallQ.ctr ok (Xt p s g hpp hr hw hg) (by first|rfl|(simp [go_sem];done)|fail) rfl,?_⟩⟩|refine ⟨_,_,rfl,_,CallQ.ctr ok (Wg p s _ hpp hr hw hI.1) (by first|rfl|(simp [go_sem];done)|fail) rfl,?_⟩|refine ⟨_,_,rfl,_,fun hg=>CallQ.ctr ok (Wg p s _ hpp hr hw hI.1) (by first|rfl|(simp [go_sem];done)|fail) rfl,?_⟩|refine cq (cc (Wg p s _ hpp hr hw hI.1)) ?_|refine ⟨_,_,rfl,.inl ⟨_,fun hg=>CallQ.ctr ok (Wg p s _ hpp hr hw hI.1) (by first|rfl|(simp [go_sem];done)|fail) rfl,?_⟩⟩|refine ⟨_,_,rfl,_,CallQ.ctr ok (Y9 s _ hs hc4) (by first|rfl|(simp [go_sem];done)|fail) rfl,?_⟩|refine ⟨_,_,rfl,_,fun hg=>CallQ.ctr ok (Y9 s _ hs hc4) (by first|rfl|(simp [go_sem];done)|fail) rfl,?_⟩|refine cq (cc (Y9 s _ hs hc4)) ?_|refine ⟨_,_,rfl,.inl ⟨_,fun hg=>CallQ.ctr ok (Y9 s _ hs hc4) (by first|rfl|(simp [go_sem];done)|fail) rfl,?_⟩⟩|refine ⟨_,_,rfl,_,CallQ.ctr ok (XP s g _ hs) (by first|rfl|(simp [go_sem];done)|fail) rfl,?_⟩|refine ⟨_,_,rfl,_,fun hg=>CallQ.ctr ok (XP s g _ hs) (by first|rfl|(simp [go_sem];done)|fail) rfl,?_⟩|refine cq (cc (XP s g _ hs)) ?_|refine ⟨_,_,rfl,.inl ⟨_,fun hg=>CallQ.ctr ok (XP s g _ hs) (by first|rfl|(simp [go_sem];done)|fail) rfl,?_⟩⟩|refine ⟨_,_,rfl,_,CallQ.ctr ok (VH _) (by first|rfl|(simp [go_sem];done)|fail) rfl,?_⟩|refine ⟨_,_,rfl,_,fun hg=>CallQ.ctr ok (VH _) (by first|rfl|(simp [go_sem];done)|fail) rfl,?_⟩|refine cq (cc (VH _)) ?_|refine ⟨_,_,rfl,.inl ⟨_,fun hg=>CallQ.ctr ok (VH _) (by first|rfl|(simp [go_sem];done)|fail) rfl,?_⟩⟩|refine ⟨_,_,rfl,_,CallQ.ctr ok (Yt s _ hs (qb hcnt.2 (by simpa using hg))) (by first|rfl|(simp [go_sem];done)|fail) rfl,?_⟩|refine ⟨_,_,rfl,_,fun hg=>CallQ.ctr ok (Yt s _ hs (qb hcnt.2 (by simpa using hg))) (by first|rfl|(simp [go_sem];done)|fail) rfl,?_⟩|refine cq (cc (Yt s _ hs (qb hcnt.2 (by simpa using hg)))) ?_|refine ⟨_,_,rfl,.inl ⟨_,fun hg=>CallQ.ctr ok (Yt s _ hs (qb hcnt.2 (by simpa using hg))) (by first|rfl|(simp [go_sem];done)|fail) rfl,?_⟩⟩);all_goals ((try simp only [go_sem,seval,-List.reduceReplicate,Bool.cond_false_right,Bool.cond_true_left,VA,qK,zo]);(repeat' with_reducible refine And.intro ?_ ?_);all_goals first|(refine hR1 _ ?_;clear hR1 R1)|(intro hgf;simp only [hgf];refine hR1 _ ?_;clear hR1 R1)|exact ZQ))|exact ZQ)
  | ((with_reducible first|refine Q1 ?_|refine xO ?_);refine hR _ ?_;clear hR R;try simp only [go_sem,yt,Nat.reduceBEq])
  | (with_reducible first|refine J1 ?_|refine J2 ?_|refine J3 ?_|refine J4 ?_|refine J5 ?_|refine J6 ?_|refine J7 ?_|refine J8 (by decide) ?_|refine J9 ?_|refine Q0 ?_|refine Qz ?_|refine YZ ?_)
  | ((with_reducible refine QZ 5 ?_)
     have hI:=QA5 hrt (hw.op_at hok hg.1 hg.2 hb20 (by decide))
     (with_reducible refine Vv ok QN (by kernel_rfl) (by kernel_rfl) yt ?_);intro R hR;simp only [go_sem,QC])
  | ((with_reducible refine QZ 7 ?_)
     have hI:=qY hrt (.inl (hw.op_at hok hg.1 hg.2 hb32 (by decide)))
     (with_reducible refine rg yt fun R hR=>?_);simp only [go_sem,QC])
  | ((with_reducible refine QZ 9 ?_)
     have hI:=VU hrt (hw.op_at hok hg.1 hg.2 hb40 (by decide))
     (with_reducible refine rg yt fun R hR=>?_);simp only [go_sem,QC])
  | ((with_reducible refine QZ 11 ?_)
     have hI:=yU hrt (hw.op_at hok hg.1 hg.2 hb47 (by decide))
     have hc4:0≤(QA p s g).b∧(QA p s g).b<4:=by omega
     (with_reducible refine rg yt fun R hR=>?_);simp only [go_sem,QC])
  | ((with_reducible refine QZ 13 ?_)
     have hI:=VU hrt (hw.op66 hok hg.1 hg.2 hb53)
     (with_reducible refine rg yt fun R hR=>?_);simp only [go_sem,QC])
  | ((with_reducible refine QZ 15 ?_)
     have hI:=zc hrt (.inl (hw.op_at hok hg.1 hg.2 hb62 (by decide)))
     (with_reducible refine Vv ok QN (by kernel_rfl) (by kernel_rfl) yt ?_);intro R hR;simp only [go_sem,QC])
  | ((with_reducible refine rg yt fun R hR=>?_);simp only [go_sem,QC])
  | ((with_reducible refine Vv ok QN (by kernel_rfl) (by kernel_rfl) yt ?_);intro R hR;simp only [go_sem,QC])
  | ((with_reducible refine QH 20 rfl (fun hb20=>?_) fun hb20=>?_);all_goals (try simp [-List.getD_eq_getElem?_getD] at hb20;try (exfalso;omega)))
  | ((with_reducible refine QH 32 rfl (fun hb32=>?_) fun hb32=>?_);all_goals (try simp [-List.getD_eq_getElem?_getD] at hb32;try (exfalso;omega)))
  | ((with_reducible refine QH 40 rfl (fun hb40=>?_) fun hb40=>?_);all_goals (try simp [-List.getD_eq_getElem?_getD] at hb40;try (exfalso;omega)))
  | ((with_reducible refine QH 47 rfl (fun hb47=>?_) fun hb47=>?_);all_goals (try simp [-List.getD_eq_getElem?_getD] at hb47;try (exfalso;omega)))
  | ((with_reducible refine QH 53 rfl (fun hb53=>?_) fun hb53=>?_);all_goals (try simp [-List.getD_eq_getElem?_getD] at hb53;try (exfalso;omega)))
  | ((with_reducible refine QH 62 rfl (fun hb62=>?_) fun hb62=>?_);all_goals (try simp [-List.getD_eq_getElem?_getD] at hb62;try (exfalso;omega)))
  | ((with_reducible first|refine ZH ?_|refine ZG ?_)
     simp only [go_sem,QJ,QK,QG,seval]
     first
      | (have q:=hb20
         exact ⟨rfl,congrArg (fun b=>some (V.bool b)) (QKf hb20).symm⟩)
      | (have q:=hb32
         exact ⟨rfl,congrArg (fun b=>some (V.bool b)) (QKe hb32).symm⟩)
      | (have q:=hb40
         exact ⟨rfl,congrArg (fun b=>some (V.bool b)) (QFw hb40).symm⟩)
      | (have q:=hb47
         exact ⟨rfl,congrArg (fun b=>some (V.bool b)) (QKd hb47).symm⟩)
      | (have q:=hb53
         exact ⟨rfl,congrArg (fun b=>some (V.bool b)) (QIQ hok hr hv hg hb53).symm⟩)
      | (have q:=hb62
         refine ⟨rfl,?_⟩
         simp only [← List.getD_eq_getElem?_getD]
         exact congrArg (fun b=>some (V.bool b)) (QKc hb62).symm)
      | (exact ⟨rfl,congrArg (fun b=>some (V.bool b)) (QG2 hok hw hg hb20 hb32 hb40 hb47 hb53 hb62 h61).symm⟩))
end Go.Eng.Tryz
namespace Go.Eng.Tryz
open Go.RowKit Go.Eng
set_option maxHeartbeats 0
set_option maxRecDepth 20000
def QCD (L:List Int) (b:Bool) (k:Int):List Int:=if b then L++[k] else L
theorem QJ2 {p:Prg} {s:Stt} {g:Int} (hl:ZE s g=true) (h:QL p s g=61) {q:Sel} (hq:Qx p s g=q) {i:Nat} (hi:i=q.cases.length) :
 Qj p s g=QCD (ZV p s q i) (decide (((ZV p s q i).length:Int)=0)&&!decide (q.els = -1)) (q.cases.length:Int):=by
 subst hq
 subst hi
 have e:Qj p s g=if (ZV p s (Qx p s g) (Qx p s g).cases.length).length=0∧(Qx p s g).els ≠ -1 then ZV p s (Qx p s g) (Qx p s g).cases.length++[((Qx p s g).cases.length:Int)] else ZV p s (Qx p s g) (Qx p s g).cases.length:=(if_pos hl).trans (if_pos h)
 rw [e]
 by_cases h1:(ZV p s (Qx p s g) (Qx p s g).cases.length).length=0
 · by_cases h2:(Qx p s g).els = -1
   · rw [if_neg (fun q=>q.2 h2),decide_eq_true h2,Bool.not_true,Bool.and_false];rfl
   · rw [if_pos ⟨h1,h2⟩,decide_eq_false h2,decide_eq_true (show ((ZV p s (Qx p s g) (Qx p s g).cases.length).length:Int)=0 by omega)];rfl
 · rw [if_neg (fun q=>h1 q.1),decide_eq_false (show ¬((ZV p s (Qx p s g) (Qx p s g).cases.length).length:Int)=0 by omega)];rfl
def QMm:List (List Nat):=[[0,2,5],[]]
theorem QFi (P S X C:V) (L:List Int) (k:Int) (b:Bool) {tm:Tm} {out:List Tm} {nt:Nat} {xs:List Obj} {K:St→E→Prop} (hL:L.length≤1000) (hx:xs.map (Obj.kill 5)=xs) (hk1:Tm.kill 5 tm=tm) (hk2:out.map (Tm.kill 5)=out) (h:∀ ys,K { tm:=tm,ob:=.var 26 (.data 26 P)::.var 37 (.data 37 S)::.var 129 (.data 129 X)::.var 23 (.sl 5 3 0 (QCD L b k).length false)::.var 124 (.data 124 C)::.row 3 ((QCD L b k).map V.int)::(xs++ys),out:=out,nt:=nt } (.tup [])):CallE Go.Proofs.Tryz.prog tab { tm:=tm,ob:=.var 26 (.data 26 P)::.var 37 (.data 37 S)::.var 129 (.data 129 X)::.var 23 (.sl 5 3 0 L.length false)::.var 124 (.data 124 C)::.row 3 (L.map V.int)::xs,out:=out,nt:=nt } 104 [.int .i64 k,.bool b,.ptr 3 [] 23] K:=by
 have hk1':(tm.map fun x=>(x.1,x.2.1,E.kill 5 x.2.2))=tm:=hk1
 refine CallE.body ok Go.Proofs.Tryz.func104 rfl rfl 10 rfl [] rfl (by simp) ?_
 simp only [enter,Zl,Nat.zero_add,Nat.reduceAdd]
 repeat' first
  | ((with_reducible refine Q2 fun R1 hR1=>?_);(simp only [go_sem,seval,-List.reduceReplicate,hk1',hk2,hx,List.getElem?_cons_succ,List.set_cons_succ,List.set_cons_zero,Ue]);(repeat' with_reducible refine And.intro ?_ ?_);all_goals first|(refine hR1 _ ?_;clear hR1 R1)|exact Xk)
  | ((with_reducible refine Q1 ?_);refine hR _ ?_;clear hR R;try simp only [go_sem,QMm,Nat.reduceBEq])
  | (with_reducible first|refine J1 ?_|refine J2 ?_|refine J3 ?_|refine Q0 ?_|refine Qz ?_)
  | ((with_reducible refine rg QMm fun R hR=>?_);simp only [go_sem,QC])
  | ((with_reducible refine QH 5 rfl (fun hb5=>?_) (fun hb5=>?_))
     all_goals
      try simp at hb5
      try subst hb5)
  | ((with_reducible first|refine xS ?_|refine xR ?_)
     simp only [go_sem,QJ,QK,QG,seval]
     first
      | (have q:=h [Obj.row 3 [V.int k]]
         simpa [QCD,hx,Obj.kill,List.take_of_length_le] using q)
      | (have q:=h []
         simpa [QCD] using q))
def QIu:List (List Nat):=[[2,3,4],[2,3,4,7],[2,3,4,7,19],[23],[6],[6],[2,3,4,7,8],[3,4,8,9],[3,4,8,9,10],[3,4,8,9,10,41,42,43],[3,4,8,9,10,41,42,43,44],[3,4,8,9,10,11,12,41,42,43],[3,4,8,9,10,41,42,43],[3,4,8,9,10,41,42,43],[8],[6]]
theorem WA (p:Prg) (s:Stt) (g:Int) (hp:p.Fit) (hr:QP p=true) (hv:Vld p s) (hg:0≤g∧g<s.count) (hl:ZE s g=true):Ctr Go.Proofs.Tryz.prog tab 63 [26,37,3] [23] [p.v,s.v,.int g] [.list ((Qj p s g).map V.int)]:=by
 have hw:=hv.wf (Prg.ok hr) hr
 have hpp:=hp
 have hok:=Prg.ok hr
 have hs:=hw.shape
 have hcnt:=hw.count
 have hcode:=p.code_len hp
 have hsl:=p.sels_len hp
 obtain ⟨hp1,hp2,hp3,hp4⟩:=hp
 have hs1:=hs.vars
 have hs2:=hs.owner
 have hs3:=hs.chans
 have hs5:=hs.gos
 have hsz:=hok.sizes
 unfold Ze at hsz
 have hmx:256≤maxLen:=by decide
 have hgi:=hw.gos g (by omega) (by omega)
 have hgf:=hgi.f0
 have hgf1:=hgi.f1
 have hgp:=hgi.p0
 have hgp1:=hgi.p1
 have h8:=hgi.regs
 have hrt:QV p (p.funcs.getD (s.gos.getD g.toNat default).func.toNat default) (QA p s g)=0:=hw.right hok hg.1 hg.2
 have hrg:=hok.regs (s.gos.getD g.toNat default).func.toNat
 refine Ctr.body ok Go.Proofs.Tryz.func63 rfl rfl 86 rfl [.tmp 6] rfl (by simp [QE]) ?_
 simp only [go_sem,Nat.reduceAdd]
 repeat' first
  | ((with_reducible refine SARW.told 14 12 ?_)
     refine J48 (St.le.keep [8,72,75,83]) ?_
     simp only [St.keep,List.filterMap_cons,List.filterMap_nil,List.lookup_cons,List.lookup_nil,Option.map_some,Option.map_none,beq_self_eq_true,Nat.reduceBEq])
  | ((with_reducible refine SARA.told 11 3 ?_)
     rw [Wj (by omega)])
  | ((with_reducible refine SART.told 7 7 ?_)
     rw [XB (by omega)])
  | ((with_reducible refine SART.told 7 12 ?_)
     rw [XA (by omega)])
  | ((with_reducible first|refine Q2 fun R1 hR1=>?_|refine SARW.do fun R1 hR1=>?_|refine qR fun R1 hR1=>?_|refine qQ fun R1 hR1=>?_|refine qP fun R1 hR1=>?_);(simp only [go_sem,seval,-List.reduceReplicate,Bool.cond_false_right,Bool.cond_true_left,VA,qK,zo,z3]);(repeat' with_reducible refine And.intro ?_ ?_);all_goals first|(refine hR1 _ ?_;clear hR1 R1)|((first|refine cq (cc (Xt p s g hpp hr hw hg)) ?_|refine ⟨_,_,rfl,.inl ⟨_,fun hg=>CallQ.ctr ok (Xt p s g hpp hr hw hg) (by first|rfl|(simp [go_sem];done)|fail) rfl,?_⟩⟩|refine cq (cc (vW p s g hpp hr hv hg hb19)) ?_|refine ⟨_,_,rfl,.inl ⟨_,fun hg=>CallQ.ctr ok (vW p s g hpp hr hv hg hb19) (by first|rfl|(simp [go_sem];done)|fail) rfl,?_⟩⟩|refine cq (cc (Wg p s _ hpp hr hw hC.chan)) ?_|refine ⟨_,_,rfl,.inl ⟨_,fun hg=>CallQ.ctr ok (Wg p s _ hpp hr hw hC.chan) (by first|rfl|(simp [go_sem];done)|fail) rfl,?_⟩⟩|refine cq (cc (Y9 s _ hs hC4)) ?_|refine ⟨_,_,rfl,.inl ⟨_,fun hg=>CallQ.ctr ok (Y9 s _ hs hC4) (by first|rfl|(simp [go_sem];done)|fail) rfl,?_⟩⟩|refine ⟨_,_,rfl,.inr (QFi _ _ _ _ _ _ _ (by omega) rfl rfl rfl fun ys=>?_)⟩);all_goals ((try simp only [go_sem,seval,-List.reduceReplicate,Bool.cond_false_right,Bool.cond_true_left,VA,qK,zo,z3]);(repeat' with_reducible refine And.intro ?_ ?_);all_goals first|(refine hR1 _ ?_;clear hR1 R1)|exact Xk))|exact Xk)
  | ((with_reducible first|refine qO ?_|refine Q1 ?_|refine SARW.nil ?_);refine hR _ ?_;clear hR R;try simp only [go_sem,QIu,Nat.reduceBEq])
  | (with_reducible first|refine qN ?_ ?_|exact qM|refine qL ?_ ?_)
  | (with_reducible first|refine J1 ?_|refine J2 ?_|refine J3 ?_|refine J4 ?_|refine J5 ?_|refine J6 ?_|refine J7 ?_|refine J8 (by decide) ?_|refine J9 ?_|refine WL ?_|refine Q0 ?_|refine Qz ?_|refine YZ ?_|refine WK ?_)
  | ((with_reducible refine QZ 12 ?_)
     have hC:=UC hok (i:=(s.gos.getD g.toNat default).func.toNat) (j:=(QA p s g).a.toNat) (k:=i) (by omega) (by omega) (by omega)
     have hC4:0≤(((p.funcs.getD (s.gos.getD g.toNat default).func.toNat default).sels.getD (QA p s g).a.toNat default).cases.getD i default).chan∧(((p.funcs.getD (s.gos.getD g.toNat default).func.toNat default).sels.getD (QA p s g).a.toNat default).cases.getD i default).chan<4:=⟨hC.chan.1,by have:=hC.chan.2;omega⟩
     have hq:=WI p s ((p.funcs.getD (s.gos.getD g.toNat default).func.toNat default).sels.getD (QA p s g).a.toNat default) i
     (with_reducible refine rg QIu fun R hR=>?_);simp only [go_sem,QC])
  | ((with_reducible refine QZ 14 ?_)
     have hq:=WI p s ((p.funcs.getD (s.gos.getD g.toNat default).func.toNat default).sels.getD (QA p s g).a.toNat default) i
     (with_reducible refine SA.regionWN ok (by kernel_rfl) QIu ?_);intro R hR;simp only [go_sem,QC])
  | ((with_reducible refine QZ 7 ?_)
     have hop:=hw.op_at hok hg.1 hg.2 hb19 (by decide)
     have hI:0≤(QA p s g).a∧(QA p s g).a<((p.funcs.getD (s.gos.getD g.toNat default).func.toNat default).sels.length:Int):=V0 hrt hop
     have hsh:=hok.short (s.gos.getD g.toNat default).func.toNat (QA p s g).a.toNat (by omega)
     refine WJ ok QN (.take 0 (.take 1 (.take 2 (.take 3 (.take 4 (.take 5 (.take 6 (.take 7 (.take 8 (.take 9 (.take 10 (.take 11 (.take 12 (.take 13 (.br 14 (.br 15 .done .nil) .nil))))))))))))))) [15] QIu (by kernel_rfl) (fun R hR=>?_);simp only [go_sem,QC])
  | ((with_reducible refine rg QIu fun R hR=>?_);simp only [go_sem,QC])
  | ((with_reducible refine QH 19 rfl (fun hb19=>?_) fun hb19=>?_);all_goals (try simp [-List.getD_eq_getElem?_getD] at hb19;try (exfalso;omega)))
  | ((with_reducible refine QH 23 rfl (fun hb23=>?_) fun hb23=>?_);all_goals (try simp [-List.getD_eq_getElem?_getD] at hb23;try (exfalso;omega)))
  | ((with_reducible refine SA.cond rfl ?_ ?_)
     all_goals
      intro hb
      try simp [-List.getD_eq_getElem?_getD] at hb
      try (exfalso;omega))
  | ((with_reducible refine YQ ?_)
     refine Zo ((St.le.ownVar 3 (e:=3) rfl).trans (Qq rfl)) (YR (fun n τ=>∃ (i:Nat),n=((p.funcs.getD (s.gos.getD g.toNat default).func.toNat default).sels.getD (QA p s g).a.toNat default).cases.length-i∧(i≤((p.funcs.getD (s.gos.getD g.toNat default).func.toNat default).sels.getD (QA p s g).a.toNat default).cases.length)∧τ={ tm:=[(3,true,.ptr 0 [] 26),(4,true,.ptr 1 [] 37),(8,true,.ptr 3 [] 23),(9,true,.ptr 4 [] 124),(10,true,.fn 104 [.ptr 3 [] 23]),(41,true,.fs 156 (((p.funcs.getD (s.gos.getD g.toNat default).func.toNat default).sels.getD (QA p s g).a.toNat default).cases.map Cas.v) false),(42,true,.int .i64 ((p.funcs.getD (s.gos.getD g.toNat default).func.toNat default).sels.getD (QA p s g).a.toNat default).cases.length),(43,true,.int .i64 i)],ob:=[.var 26 (.data 26 p.v),.var 37 (.data 37 s.v),.var 129 (.data 129 (atI p s g).v),.var 23 (.sl 5 3 0 (ZV p s ((p.funcs.getD (s.gos.getD g.toNat default).func.toNat default).sels.getD (QA p s g).a.toNat default) i).length false),.var 124 (.data 124 ((p.funcs.getD (s.gos.getD g.toNat default).func.toNat default).sels.getD (QA p s g).a.toNat default).v),.row 3 ((ZV p s ((p.funcs.getD (s.gos.getD g.toNat default).func.toNat default).sels.getD (QA p s g).a.toNat default) i).map V.int)],out:=[],nt:=86 }) (((p.funcs.getD (s.gos.getD g.toNat default).func.toNat default).sels.getD (QA p s g).a.toNat default).cases.length) ⟨0,rfl,by omega,rfl⟩ ?_)
     rintro n τ ⟨i,hn,hi,rfl⟩)
  | ((with_reducible refine WM ?_)
     first
      | (have hlt:i<((p.funcs.getD (s.gos.getD g.toNat default).func.toNat default).sels.getD (QA p s g).a.toNat default).cases.length:=by omega
         have hw:=QD (n:=i) (m:=256) (by omega) (by decide)
         have e:∀ x,x=XX p s (((p.funcs.getD (s.gos.getD g.toNat default).func.toNat default).sels.getD (QA p s g).a.toNat default).cases.getD i default)→QCD (ZV p s ((p.funcs.getD (s.gos.getD g.toNat default).func.toNat default).sels.getD (QA p s g).a.toNat default) i) x i=ZV p s ((p.funcs.getD (s.gos.getD g.toNat default).func.toNat default).sels.getD (QA p s g).a.toNat default) (i+1):=by
          intro x hx
          subst hx
          cases hc:XX p s (((p.funcs.getD (s.gos.getD g.toNat default).func.toNat default).sels.getD (QA p s g).a.toNat default).cases.getD i default)
          · exact (xI hc).symm
          · exact (wU hc).symm
         refine Zt (((p.funcs.getD (s.gos.getD g.toNat default).func.toNat default).sels.getD (QA p s g).a.toNat default).cases.length-(i+1)) _ (by omega) ((WN 6 rfl).trans (Qq (by rw [e _ (by unfold XX;cases (((p.funcs.getD (s.gos.getD g.toNat default).func.toNat default).sels.getD (QA p s g).a.toNat default).cases.getD i default).send<;>simp)];simp only [hw,List.take_succ_cons,List.take_zero]))) ⟨i+1,rfl,hlt,rfl⟩))
  | ((with_reducible first|refine ZH ?_|refine ZG ?_)
     simp only [go_sem,QJ,QK,QG,seval]
     first
      | (have q:=hb23
         refine ⟨rfl,?_⟩
         rw [show Qj p s g=[0] from (if_pos hl).trans ((if_neg hb19).trans (if_pos hb23))]
         simp)
      | (have q:=hb23
         refine ⟨rfl,?_⟩
         rw [show Qj p s g=[] from (if_pos hl).trans ((if_neg hb19).trans (if_neg (by rw [hb23];simp)))]
         rfl)
      | (have hi':i=((p.funcs.getD (s.gos.getD g.toNat default).func.toNat default).sels.getD (QA p s g).a.toNat default).cases.length:=by omega
         refine ⟨rfl,?_,fun _ h=>absurd h (by simp)⟩
         rw [QJ2 hl hb19 (q:=((p.funcs.getD (s.gos.getD g.toNat default).func.toNat default).sels.getD (QA p s g).a.toNat default)) rfl hi']
         simp [-List.getD_eq_getElem?_getD,List.take_of_length_le]))
end Go.Eng.Tryz
namespace Go.Eng.Tryz
open Go.RowKit Go.Eng
set_option maxHeartbeats 0
set_option maxRecDepth 20000
def QK0:List (List Nat):=[[2,3],[2,3,6],[2,3,6,16],[4,5],[2,3,7],[2,3,7,19,20,21],[2,3,7,19,20,21,22],[2,3,7,9,19,20,21],[2,3,7,9,19,20,21,28,29,30],[2,3,7,9,19,20,21,28,29,30,31],[2,3,7,9,11,19,20,21,28,29,30],[2,3,7,9,19,20,21,28,29,30],[2,3,7,9,19,20,21,28,29,30],[2,3,7,19,20,21],[4,5]]
end Go.Eng.Tryz
