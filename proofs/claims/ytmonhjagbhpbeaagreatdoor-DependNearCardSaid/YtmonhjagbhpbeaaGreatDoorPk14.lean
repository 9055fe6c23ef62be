/- A part of the proof: walks through the program's functions, and what they compute. -/
import Derived.Test.YtmonhjagbhpbeaaGreatDoorPk13
set_option linter.unusedSimpArgs false
set_option linter.unusedVariables false
namespace Go.Eng.Tryz
open Go.RowKit Go.Eng
set_option maxHeartbeats 0
set_option maxRecDepth 20000
theorem UI (p:Prg) (s:Stt) (hp:p.Fit) (hs:s.Shape):Ctr Go.Proofs.Tryz.prog tab 47 [26,47] [30] [p.v,s.v] [.int (XI p s)]:=by
 have hpp:=hp
 have hfit:=hp
 have hcode:=p.code_len hp
 have hsl:=p.sels_len hp
 obtain ⟨hp1,hp2,hp3,hp4⟩:=hp
 refine Ctr.body ok Go.Proofs.Tryz.func47 rfl rfl 18 rfl [.tmp 4] rfl (by simp [QL]) ?_
 simp only [go_sem,Nat.reduceAdd]
 repeat' first
  | ((with_reducible refine Zx fun R1 hR1=>?_);(simp only [go_sem,seval,-List.reduceReplicate,Zd,QK,Yu,vq,z3,Bool.cond_false_right,Bool.cond_true_left]);(repeat' with_reducible refine And.intro ?_ ?_);all_goals first|(refine hR1 _ ?_;clear hR1 R1)|((first|refine ce (cf (VG p hpp) ?_)|refine cq (cc (zP p s hpp hs)) ?_);all_goals ((try simp only [go_sem,seval,-List.reduceReplicate,Zd,QK,Yu,vq,z3,Bool.cond_false_right,Bool.cond_true_left]);(repeat' with_reducible refine And.intro ?_ ?_);all_goals first|(refine hR1 _ ?_;clear hR1 R1)|exact YJ))|exact YJ)
  | ((with_reducible refine Zw ?_);refine hR _ ?_;clear hR R;try simp only [go_sem,QPm,Nat.reduceBEq])
  | (with_reducible first|refine J1 ?_|refine J2 ?_|refine J3 ?_|refine ZL ?_|refine ZS ?_)
  | ((with_reducible refine rg QPm fun R hR=>?_);simp only [go_sem,QC])
  | ((with_reducible refine QR 13 rfl (fun hb13=>?_) fun hb13=>?_);all_goals (try simp [-List.getD_eq_getElem?_getD] at hb13;try (exfalso;omega)))
  | ((with_reducible refine QR 17 rfl (fun hb17=>?_) fun hb17=>?_);all_goals (try simp [-List.getD_eq_getElem?_getD] at hb17;try (exfalso;omega)))
  | ((with_reducible first|refine YQ ?_|refine Zv ?_)
     simp only [go_sem,QS,QW,QM,seval]
     first
      | (have q:=hb17
         exact ⟨rfl,congrArg (fun e=>some (V.int e)) (Eq.symm ((if_neg (by unfold QT;simp [hb13])).trans (if_pos hb17)))⟩)
      | (have q:=hb17
         exact ⟨rfl,congrArg (fun e=>some (V.int e)) (Eq.symm ((if_neg (by unfold QT;simp [hb13])).trans (if_neg (by simp [hb17]))))⟩)
      | (exact ⟨rfl,congrArg (fun e=>some (V.int e)) (Eq.symm (if_pos (by unfold QT;simp [hb13])))⟩))
def QLX:List (List Nat):=[[1,2],[4]]
theorem Ye (s:Stt) (g:Int) (hs:s.Shape) (hg:0≤g∧g<6):Ctr Go.Proofs.Tryz.prog tab 105 [47,3] [4] [s.v,.int g] [.bool (Wi s g)]:=by
 have hcode:True→True:=id
 have hsl:True→True:=id
 have hs5:=hs.gos
 refine Ctr.body ok Go.Proofs.Tryz.func105 rfl rfl 19 rfl [.tmp 4] rfl (by simp [QL]) ?_
 simp only [go_sem,Nat.reduceAdd]
 repeat' first
  | ((with_reducible refine Zx fun R1 hR1=>?_);(simp only [go_sem,seval,-List.reduceReplicate,Zd,QK,Yu,vq,z3,Bool.cond_false_right,Bool.cond_true_left]);(repeat' with_reducible refine And.intro ?_ ?_);all_goals first|(refine hR1 _ ?_;clear hR1 R1)|exact YJ)
  | ((with_reducible refine Zw ?_);refine hR _ ?_;clear hR R;try simp only [go_sem,QLX,Nat.reduceBEq])
  | (with_reducible first|refine J1 ?_|refine J2 ?_|refine ZL ?_|refine ZS ?_)
  | ((with_reducible refine rg QLX fun R hR=>?_);simp only [go_sem,QC])
  | ((with_reducible first|refine YQ ?_|refine Zv ?_)
     simp only [go_sem,QS,QW,QM,seval]
     exact ⟨rfl,rfl⟩)
end Go.Eng.Tryz
namespace Go.Eng.Tryz
open Go.RowKit Go.Eng
set_option maxHeartbeats 0
set_option maxRecDepth 20000
theorem Vi (p:Prg) (s:Stt) (g:Int):(atI p s g).op=QO p s g:=rfl
theorem zC (p:Prg) (s:Stt) (g:Int):(atI p s g).a=(QB p s g).a:=rfl
theorem xb (p:Prg) (s:Stt) (g:Int):(atI p s g).b=(QB p s g).b:=rfl
theorem QLk (p:Prg) (s:Stt) (g:Int):(atI p s g).c=(QB p s g).c:=rfl
theorem QFX (p:Prg) (s:Stt) (g:Int):(atI p s g).n=(QB p s g).n:=rfl
theorem Ur {s:Stt} {g k:Int} (hc:s.count≤6) (h:XU s g k=true):0≤k∧k<6:=by
 unfold XU at h
 simp at h
 omega
theorem QHk {p:Prg} {s:Stt} {g:Int} (hok:p.Ok) (hr:QT p=true) (hv:Vld p s) (hg:0≤g∧g<s.count) (h:QO p s g=66):plain p s g=!decide ((s.chans.getD (QB p s g).a.toNat default).offer=1):=by
 rw [QJs h]
 have h2:(s.gos.getD g.toNat default).status=2:=by
  rcases UJ h with h|h
  · exact h.1
  · have:=QE3 ((hv.wf hok hr).right hok hg.1 hg.2)
    exact absurd h.2 (by omega)
 obtain ⟨c,hc,ho,hf,hw⟩:=hv.waiting (g:=g.toNat) (by omega) h2
 have ha:(QB p s g).a=(c:Int):=hw.2.2
 rw [ha]
 have ho3:=(hv.chans c hc).off
 rw [Int.toNat_natCast]
 by_cases h1:(s.chans.getD c default).offer=1
 · rw [decide_eq_true h1,h1];rfl
 · by_cases h2:(s.chans.getD c default).offer=2
   · rw [decide_eq_true h2,decide_eq_false h1];rfl
   · rw [decide_eq_true (show (s.chans.getD c default).offer=3 by omega),decide_eq_false h1];simp
theorem QF5 {p:Prg} {s:Stt} {g:Int} (hok:p.Ok) (hw:Wf p s) (hg:0≤g∧g<s.count) (h1:¬QO p s g=54) (h2:¬QO p s g=55) (h3:¬QO p s g=58) (h4:¬QO p s g=59) (h5:¬QO p s g=66) (h6:¬QO p s g=63) (h7:¬QO p s g=61):plain p s g=Q4 (QO p s g):=by
 rw [QEA ⟨h1,h2,h3,h4,h5,h6⟩]
 have e:=hw.op_at hok hg.1 hg.2 rfl h5
 have:=QE3 (hw.right hok hg.1 hg.2)
 unfold Q4
 rw [decide_eq_true (show QO p s g≤65 by omega),Bool.and_true]
def QM5:List (List Nat):=[[2,3,4,6],[2,4,6,7],[6,7,30],[6,7],[6]]
theorem WV (p:Prg) (s:Stt) (g:Int) (hp:p.Fit) (hr:QT p=true) (hw:Wf p s) (hg:0≤g∧g<s.count):Ctr Go.Proofs.Tryz.prog tab 90 [26,47,3] [104] [p.v,s.v,.int g] [(atI p s g).v]:=by
 have hpp:=hp
 have hok:=Prg.ok hr
 have hs:=hw.shape
 have hcnt:=hw.count
 have hcode:=p.code_len hp
 have hsl:=p.sels_len hp
 obtain ⟨hp1,hp2,hp3,hp4⟩:=hp
 have hs1:=hs.vars
 have hs2:=hs.owner
 have hs3:=hs.chans
 have hs5:=hs.gos
 have hsz:=hok.sizes
 unfold Yc at hsz
 have hmx:256≤maxLen:=by decide
 have hgi:=hw.gos g (by omega) (by omega)
 have hgf:=hgi.f0
 have hgf1:=hgi.f1
 have hgp:=hgi.p0
 have hgp1:=hgi.p1
 have h8:=hgi.regs
 refine Ctr.body ok Go.Proofs.Tryz.func90 rfl rfl 33 rfl [.cell 6 104] rfl (by simp [QL]) ?_
 simp only [go_sem,Nat.reduceAdd]
 repeat' first
  | ((with_reducible refine SART.told 1 16 ?_)
     rw [YK (by omega)])
  | ((with_reducible first|refine Zx fun R1 hR1=>?_|refine vp fun R1 hR1=>?_|refine vo fun R1 hR1=>?_|refine vn fun R1 hR1=>?_);(simp only [go_sem,seval,-List.reduceReplicate,Bool.cond_false_right,Bool.cond_true_left]);(repeat' with_reducible refine And.intro ?_ ?_);all_goals first|(refine hR1 _ ?_;clear hR1 R1)|exact YJ)
  | ((with_reducible first|refine vm ?_|refine Zw ?_);refine hR _ ?_;clear hR R;try simp only [go_sem,QM5,Nat.reduceBEq])
  | (with_reducible first|refine vk ?_ ?_|exact vj|refine vi ?_ ?_)
  | (with_reducible first|refine J1 ?_|refine J2 ?_|refine J3 ?_|refine ZL ?_|refine ZS ?_)
  | ((with_reducible refine Qy 1 ?_)
     refine V6 ok Qc (.take 0 (.take 1 (.take 2 (.take 3 (.take 4 (.take 5 (.take 6 (.take 7 (.take 8 (.take 9 (.take 10 (.take 11 (.take 12 (.take 13 (.take 14 (.take 15 (.take 16 (.br 17 (.br 18 .done .nil) .nil)))))))))))))))))) [18] QM5 (by kernel_rfl) (fun R hR=>?_);simp only [go_sem,QC])
  | ((with_reducible refine rg QM5 fun R hR=>?_);simp only [go_sem,QC])
  | ((with_reducible refine QR 30 rfl (fun hb30=>?_) fun hb30=>?_);all_goals (try simp [-List.getD_eq_getElem?_getD] at hb30;try (exfalso;omega)))
  | ((with_reducible first|refine YQ ?_|refine Zv ?_)
     simp only [go_sem,QS,QW,QM,seval]
     first
      | (have q:¬_:=hb30
         have e:QO p s g=(QB p s g).op:=if_neg hb30
         exact ⟨rfl,congrArg (fun e=>some (Instr.v { QB p s g with op:=e })) e.symm⟩)
      | (have e:QO p s g=66:=if_pos hb30
         exact ⟨rfl,congrArg (fun e=>some (Instr.v { QB p s g with op:=e })) e.symm⟩))
def QM4:List (List Nat):=[[2,3,4],[2,3,7],[6]]
theorem WL (p:Prg) (s:Stt) (c:Int) (hp:p.Fit) (hr:QT p=true) (hw:Wf p s) (hc:0≤c∧c<p.chans.length):Ctr Go.Proofs.Tryz.prog tab 93 [26,47,3] [4] [p.v,s.v,.int c] [.bool (WI p s c)]:=by
 have hpp:=hp
 have hok:=Prg.ok hr
 have hs:=hw.shape
 have hcnt:=hw.count
 have hcode:=p.code_len hp
 have hsl:=p.sels_len hp
 obtain ⟨hp1,hp2,hp3,hp4⟩:=hp
 have hs1:=hs.vars
 have hs2:=hs.owner
 have hs3:=hs.chans
 have hs5:=hs.gos
 have hsz:=hok.sizes
 unfold Yc at hsz
 have hmx:256≤maxLen:=by decide
 refine Ctr.body ok Go.Proofs.Tryz.func93 rfl rfl 45 rfl [.tmp 6] rfl (by simp [QL]) ?_
 simp only [go_sem,Nat.reduceAdd]
 repeat' first
  | ((with_reducible refine SARA.told 1 4 ?_)
     rw [XO (by omega)])
  | ((with_reducible first|refine Zx fun R1 hR1=>?_|refine J23 fun R1 hR1=>?_);(simp only [go_sem,seval,-List.reduceReplicate,Bool.cond_false_right,Bool.cond_true_left]);(repeat' with_reducible refine And.intro ?_ ?_);all_goals first|(refine hR1 _ ?_;clear hR1 R1)|exact YJ)
  | ((with_reducible first|refine Zw ?_|refine J29 ?_);refine hR _ ?_;clear hR R;try simp only [go_sem,QM4,Nat.reduceBEq])
  | (with_reducible first|refine J1 ?_|refine J2 ?_|refine ZL ?_|refine ZS ?_)
  | ((with_reducible refine rg QM4 fun R hR=>?_);simp only [go_sem,QC])
  | ((with_reducible refine qq ok Qc (by kernel_rfl) (by kernel_rfl) QM4 ?_);intro R hR;simp only [go_sem,QC])
  | ((with_reducible first|refine YQ ?_|refine Zv ?_)
     simp only [go_sem,QS,QW,QM,seval]
     have hcp:0≤p.chans.getD c.toNat 0:=(hok.caps _).1
     refine ⟨rfl,?_⟩
     rw [QHZ hcp])
def QPe:List (List Nat):=[[1,2],[5],[4]]
theorem Yr (s:Stt) (c:Int) (hs:s.Shape) (hc:0≤c∧c<4):Ctr Go.Proofs.Tryz.prog tab 94 [47,3] [4] [s.v,.int c] [.bool (We s c)]:=by
 have hs3:=hs.chans
 refine Ctr.body ok Go.Proofs.Tryz.func94 rfl rfl 22 rfl [.tmp 4] rfl (by simp [QL]) ?_
 simp only [go_sem,Nat.reduceAdd]
 repeat' first
  | ((with_reducible refine SARA.told 1 4 ?_)
     rw [XO (by omega)])
  | ((with_reducible refine Zx fun R1 hR1=>?_);(simp only [go_sem,seval,-List.reduceReplicate,Bool.cond_false_right,Bool.cond_true_left]);(repeat' with_reducible refine And.intro ?_ ?_);all_goals first|(refine hR1 _ ?_;clear hR1 R1)|exact YJ)
  | ((with_reducible refine Zw ?_);refine hR _ ?_;clear hR R;try simp only [go_sem,QPe,Nat.reduceBEq])
  | (with_reducible first|refine J1 ?_|refine J2 ?_|refine ZL ?_|refine ZS ?_)
  | ((with_reducible refine rg QPe fun R hR=>?_);simp only [go_sem,QC])
  | ((with_reducible first|refine YQ ?_|refine Zv ?_)
     simp only [go_sem,QS,QW,QM,seval]
     refine ⟨rfl,?_⟩
     unfold We Stt.chn
     cases decide (0<(s.chans.getD c.toNat default).len)<;>cases (s.chans.getD c.toNat default).closed<;>rfl)
def QLN:List (List Nat):=[[1,2,3],[6]]
theorem Y7 (s:Stt) (g k:Int) (hs:s.Shape):Ctr Go.Proofs.Tryz.prog tab 127 [47,3,2] [4] [s.v,.int g,.int k] [.bool (XU s g k)]:=by
 refine Ctr.body ok Go.Proofs.Tryz.func127 rfl rfl 20 rfl [.tmp 6] rfl (by simp [QL]) ?_
 simp only [go_sem,Nat.reduceAdd]
 repeat' first
  | ((with_reducible refine Zx fun R1 hR1=>?_);(simp only [go_sem,seval,-List.reduceReplicate,Bool.cond_false_right,Bool.cond_true_left]);(repeat' with_reducible refine And.intro ?_ ?_);all_goals first|(refine hR1 _ ?_;clear hR1 R1)|exact YJ)
  | ((with_reducible refine Zw ?_);refine hR _ ?_;clear hR R;try simp only [go_sem,QLN,Nat.reduceBEq])
  | (with_reducible first|refine J1 ?_|refine J2 ?_|refine ZL ?_|refine ZS ?_)
  | ((with_reducible refine rg QLN fun R hR=>?_);simp only [go_sem,QC])
  | ((with_reducible first|refine YQ ?_|refine Zv ?_)
     simp only [go_sem,QS,QW,QM,seval]
     refine ⟨rfl,?_⟩
     unfold XU
     cases decide (0≤k)<;>cases decide (k<s.count)<;>rfl)
def QBt:List (List Nat):=[[2,3,4],[2,3,4,7],[2,3,4,7,8],[2,3,4,7,8,19],[2,3,4,7,8,19,20],[6],[2,3,4,7,8,19,32],[6],[2,3,4,7,8,19,40],[6],[2,4,7,8,19,47],[6],[2,4,7,8,19,53],[6],[2,4,7,8,62],[6],[6]]
theorem wZ (p:Prg) (s:Stt) (g:Int) (hp:p.Fit) (hr:QT p=true) (hv:Vld p s) (hg:0≤g∧g<s.count) (h61:¬QO p s g=61):Ctr Go.Proofs.Tryz.prog tab 91 [26,47,3] [4] [p.v,s.v,.int g] [.bool (plain p s g)]:=by
 have hw:=hv.wf (Prg.ok hr) hr
 have hpp:=hp
 have hok:=Prg.ok hr
 have hs:=hw.shape
 have hcnt:=hw.count
 have hcode:=p.code_len hp
 have hsl:=p.sels_len hp
 obtain ⟨hp1,hp2,hp3,hp4⟩:=hp
 have hs1:=hs.vars
 have hs2:=hs.owner
 have hs3:=hs.chans
 have hs5:=hs.gos
 have hsz:=hok.sizes
 unfold Yc at hsz
 have hmx:256≤maxLen:=by decide
 have hgi:=hw.gos g (by omega) (by omega)
 have hgf:=hgi.f0
 have hgf1:=hgi.f1
 have hgp:=hgi.p0
 have hgp1:=hgi.p1
 have h8:=hgi.regs
 have hrt:Qa p (p.funcs.getD (s.gos.getD g.toNat default).func.toNat default) (QB p s g)=0:=hw.right hok hg.1 hg.2
 have hrg:=hok.regs (s.gos.getD g.toNat default).func.toNat
 refine Ctr.body ok Go.Proofs.Tryz.func91 rfl rfl 84 rfl [.tmp 6] rfl (by simp [QL]) ?_
 simp only [go_sem,Nat.reduceAdd]
 repeat' first
  | ((with_reducible first|refine Zx fun R1 hR1=>?_|refine J23 fun R1 hR1=>?_);(simp only [go_sem,seval,-List.reduceReplicate,Bool.cond_false_right,Bool.cond_true_left,Vi,zC,xb]);(repeat' with_reducible refine And.intro ?_ ?_);all_goals first|(refine hR1 _ ?_;clear hR1 R1)|(intro hgf;simp only [hgf];refine hR1 _ ?_;clear hR1 R1)|((first|refine ⟨_,_,rfl,_,CallQ.ctr ok (WV p s g hpp hr hw hg) (by first|rfl|(simp [go_sem];done)|fail) rfl,?_⟩|refine ⟨_,_,rfl,_,fun hg=>CallQ.ctr ok (WV p s g hpp hr hw hg) (by first|rfl|(simp [go_sem];done)|fail) rfl,?_⟩|refine cq (cc (WV p s g hpp hr hw hg)) ?_|refine ⟨_,_,rfl,.inl ⟨_,fun hg=>CallQ.ctr ok (WV p s g hpp hr hw hg) (by first|rfl|(simp [go_sem];done)|fail) rfl,?_⟩⟩|refine ⟨_,_,rfl,_,CallQ.ctr ok (WL p s _ hpp hr hw hI.1) (by first|rfl|(simp [go_sem];done)|fail) rfl,?_⟩|refine ⟨_,_,rfl,_,fun hg=>CallQ.ctr ok (WL p s _ hpp hr hw hI.1) (by first|rfl|(simp [go_sem];done)|fail) rfl,?_⟩|refine cq (cc (WL p s _ hpp hr hw hI.1)) ?_|refine ⟨_,_,rfl,.inl ⟨_,fun hg=>CallQ.ctr ok (WL p s _ hpp hr hw hI.1) (by first|rfl|(simp [go_sem];done)|fail) rfl,?_⟩⟩|refine ⟨_,_,rfl,_,CallQ.ctr ok (Yr s _ hs hc4) (by first|rfl|(simp [go_sem];done)|fail) rfl,?_⟩|refine ⟨_,_,rfl,_,fun hg=>CallQ.ctr ok (Yr s _ hs hc4) (by first|rfl|(simp [go_sem];done)|fail) rfl,?_⟩|refine cq (cc (Yr s _ hs hc4)) ?_|refine ⟨_,_,rfl,.inl ⟨_,fun hg=>CallQ.ctr ok (Yr s _ hs hc4) (by first|rfl|(simp [go_sem];done)|fail) rfl,?_⟩⟩|refine ⟨_,_,rfl,_,CallQ.ctr ok (Y7 s g _ hs) (by first|rfl|(simp [go_sem];done)|fail) rfl,?_⟩|refine ⟨_,_,rfl,_,fun hg=>CallQ.ctr ok (Y7 s g _ hs) (by first|rfl|(simp [go_sem];done)|fail) rfl,?_⟩|refine cq (cc (Y7 s g _ hs)) ?_|refine ⟨_,_,rfl,.inl ⟨_,fun hg=>CallQ.ctr ok (Y7 s g _ hs) (by first|rfl|(simp [go_sem];done)|fail) rfl,?_⟩⟩|refine ⟨_,_,rfl,_,CallQ.ctr ok (Wz _) (by first|rfl|(simp [go_sem];done)|fail) rfl,?_⟩|refine ⟨_,_,rfl,_,fun hg=>CallQ.ctr ok (Wz _) (by first|rfl|(simp [go_sem];done)|fail) rfl,?_⟩|refine cq (cc (Wz _)) ?_|refine ⟨_,_,rfl,.inl ⟨_,fun hg=>CallQ.ctr ok (Wz _) (by first|rfl|(simp [go_sem];done)|fail) rfl,?_⟩⟩|refine ⟨_,_,rfl,_,CallQ.ctr ok (Ye s _ hs (Ur hcnt.2 (by simpa using hg))) (by first|rfl|(simp [go_sem];done)|fail) rfl,?_⟩|refine ⟨_,_,rfl,_,fun hg=>CallQ.ctr ok (Ye s _ hs (Ur hcnt.2 (by simpa using hg))) (by first|rfl|(simp [go_sem];done)|fail) rfl,?_⟩|refine cq (cc (Ye s _ hs (Ur hcnt.2 (by simpa using hg)))) ?_|refine ⟨_,_,rfl,.inl ⟨_,fun hg=>CallQ.ctr ok (Ye s _ hs (Ur hcnt.2 (by simpa using hg))) (by first|rfl|(simp [go_sem];done)|fail) rfl,?_⟩⟩);all_goals ((try simp only [go_sem,seval,-List.reduceReplicate,Bool.cond_false_right,Bool.cond_true_left,Vi,zC,xb]);(repeat' with_reducible refine And.intro ?_ ?_);all_goals first|(refine hR1 _ ?_;clear hR1 R1)|(intro hgf;simp only [hgf];refine hR1 _ ?_;clear hR1 R1)|exact YJ))|exact YJ)
  | ((with_reducible first|refine Zw ?_|refine J29 ?_);refine hR _ ?_;clear hR R;try simp only [go_sem,QBt,Nat.reduceBEq])
  | (with_reducible first|refine J1 ?_|refine J2 ?_|refine J3 ?_|refine J4 ?_|refine J5 ?_|refine J6 ?_|refine J7 ?_|refine J8 (by decide) ?_|refine J9 ?_|refine ZL ?_|refine ZS ?_|refine Y3 ?_)
  | ((with_reducible refine Qy 5 ?_)
     have hI:=QCX hrt (hw.op_at hok hg.1 hg.2 hb20 (by decide))
     (with_reducible refine qq ok Qc (by kernel_rfl) (by kernel_rfl) QBt ?_);intro R hR;simp only [go_sem,QC])
  | ((with_reducible refine Qy 7 ?_)
     have hI:=xy hrt (.inl (hw.op_at hok hg.1 hg.2 hb32 (by decide)))
     (with_reducible refine rg QBt fun R hR=>?_);simp only [go_sem,QC])
  | ((with_reducible refine Qy 9 ?_)
     have hI:=Uo hrt (hw.op_at hok hg.1 hg.2 hb40 (by decide))
     (with_reducible refine rg QBt fun R hR=>?_);simp only [go_sem,QC])
  | ((with_reducible refine Qy 11 ?_)
     have hI:=xD hrt (hw.op_at hok hg.1 hg.2 hb47 (by decide))
     have hc4:0≤(QB p s g).b∧(QB p s g).b<4:=by omega
     (with_reducible refine rg QBt fun R hR=>?_);simp only [go_sem,QC])
  | ((with_reducible refine Qy 13 ?_)
     have hI:=Uo hrt (hw.op66 hok hg.1 hg.2 hb53)
     (with_reducible refine rg QBt fun R hR=>?_);simp only [go_sem,QC])
  | ((with_reducible refine Qy 15 ?_)
     have hI:=QEt hrt (.inl (hw.op_at hok hg.1 hg.2 hb62 (by decide)))
     (with_reducible refine qq ok Qc (by kernel_rfl) (by kernel_rfl) QBt ?_);intro R hR;simp only [go_sem,QC])
  | ((with_reducible refine rg QBt fun R hR=>?_);simp only [go_sem,QC])
  | ((with_reducible refine qq ok Qc (by kernel_rfl) (by kernel_rfl) QBt ?_);intro R hR;simp only [go_sem,QC])
  | ((with_reducible refine QR 20 rfl (fun hb20=>?_) fun hb20=>?_);all_goals (try simp [-List.getD_eq_getElem?_getD] at hb20;try (exfalso;omega)))
  | ((with_reducible refine QR 32 rfl (fun hb32=>?_) fun hb32=>?_);all_goals (try simp [-List.getD_eq_getElem?_getD] at hb32;try (exfalso;omega)))
  | ((with_reducible refine QR 40 rfl (fun hb40=>?_) fun hb40=>?_);all_goals (try simp [-List.getD_eq_getElem?_getD] at hb40;try (exfalso;omega)))
  | ((with_reducible refine QR 47 rfl (fun hb47=>?_) fun hb47=>?_);all_goals (try simp [-List.getD_eq_getElem?_getD] at hb47;try (exfalso;omega)))
  | ((with_reducible refine QR 53 rfl (fun hb53=>?_) fun hb53=>?_);all_goals (try simp [-List.getD_eq_getElem?_getD] at hb53;try (exfalso;omega)))
  | ((with_reducible refine QR 62 rfl (fun hb62=>?_) fun hb62=>?_);all_goals (try simp [-List.getD_eq_getElem?_getD] at hb62;try (exfalso;omega)))
  | ((with_reducible first|refine YQ ?_|refine Zv ?_)
     simp only [go_sem,QS,QW,QM,seval]
     first
      | (have q:=hb20
         exact ⟨rfl,congrArg (fun b=>some (V.bool b)) (QJw hb20).symm⟩)
      | (have q:=hb32
         exact ⟨rfl,congrArg (fun b=>some (V.bool b)) (QJv hb32).symm⟩)
      | (have q:=hb40
         exact ⟨rfl,congrArg (fun b=>some (V.bool b)) (QEz hb40).symm⟩)
      | (have q:=hb47
         exact ⟨rfl,congrArg (fun b=>some (V.bool b)) (QJu hb47).symm⟩)
      | (have q:=hb53
         exact ⟨rfl,congrArg (fun b=>some (V.bool b)) (QHk hok hr hv hg hb53).symm⟩)
      | (have q:=hb62
         refine ⟨rfl,?_⟩
         simp only [← List.getD_eq_getElem?_getD]
         exact congrArg (fun b=>some (V.bool b)) (QJt hb62).symm)
      | (exact ⟨rfl,congrArg (fun b=>some (V.bool b)) (QF5 hok hw hg hb20 hb32 hb40 hb47 hb53 hb62 h61).symm⟩))
end Go.Eng.Tryz
namespace Go.Eng.Tryz
open Go.RowKit Go.Eng
set_option maxHeartbeats 0
set_option maxRecDepth 20000
def QBH (L:List Int) (b:Bool) (k:Int):List Int:=if b then L++[k] else L
theorem QJH {p:Prg} {s:Stt} {g:Int} (hl:Z8 s g=true) (h:QO p s g=61) {q:Sel} (hq:Qu p s g=q) {i:Nat} (hi:i=q.cases.length) :
 Qr p s g=QBH (ZT p s q i) (decide (((ZT p s q i).length:Int)=0)&&!decide (q.els = -1)) (q.cases.length:Int):=by
 subst hq
 subst hi
 have e:Qr p s g=if (ZT p s (Qu p s g) (Qu p s g).cases.length).length=0∧(Qu p s g).els ≠ -1 then ZT p s (Qu p s g) (Qu p s g).cases.length++[((Qu p s g).cases.length:Int)] else ZT p s (Qu p s g) (Qu p s g).cases.length:=(if_pos hl).trans (if_pos h)
 rw [e]
 by_cases h1:(ZT p s (Qu p s g) (Qu p s g).cases.length).length=0
 · by_cases h2:(Qu p s g).els = -1
   · rw [if_neg (fun q=>q.2 h2),decide_eq_true h2,Bool.not_true,Bool.and_false];rfl
   · rw [if_pos ⟨h1,h2⟩,decide_eq_false h2,decide_eq_true (show ((ZT p s (Qu p s g) (Qu p s g).cases.length).length:Int)=0 by omega)];rfl
 · rw [if_neg (fun q=>h1 q.1),decide_eq_false (show ¬((ZT p s (Qu p s g) (Qu p s g).cases.length).length:Int)=0 by omega)];rfl
def QPf:List (List Nat):=[[0,2,5],[]]
theorem QEk (P S X C:V) (L:List Int) (k:Int) (b:Bool) {tm:Tm} {out:List Tm} {nt:Nat} {xs:List Obj} {K:St→E→Prop} (hL:L.length≤1000) (hx:xs.map (Obj.kill 5)=xs) (hk1:Tm.kill 5 tm=tm) (hk2:out.map (Tm.kill 5)=out) (h:∀ ys,K { tm:=tm,ob:=.var 26 (.data 26 P)::.var 47 (.data 47 S)::.var 104 (.data 104 X)::.var 23 (.sl 5 3 0 (QBH L b k).length false)::.var 173 (.data 173 C)::.row 3 ((QBH L b k).map V.int)::(xs++ys),out:=out,nt:=nt } (.tup [])):CallE Go.Proofs.Tryz.prog tab { tm:=tm,ob:=.var 26 (.data 26 P)::.var 47 (.data 47 S)::.var 104 (.data 104 X)::.var 23 (.sl 5 3 0 L.length false)::.var 173 (.data 173 C)::.row 3 (L.map V.int)::xs,out:=out,nt:=nt } 92 [.int .i64 k,.bool b,.ptr 3 [] 23] K:=by
 have hk1':(tm.map fun x=>(x.1,x.2.1,E.kill 5 x.2.2))=tm:=hk1
 refine CallE.body ok Go.Proofs.Tryz.func92 rfl rfl 10 rfl [] rfl (by simp) ?_
 simp only [enter,Zr,Nat.zero_add,Nat.reduceAdd]
 repeat' first
  | ((with_reducible refine Zx fun R1 hR1=>?_);(simp only [go_sem,seval,-List.reduceReplicate,hk1',hk2,hx,List.getElem?_cons_succ,List.set_cons_succ,List.set_cons_zero,V0]);(repeat' with_reducible refine And.intro ?_ ?_);all_goals first|(refine hR1 _ ?_;clear hR1 R1)|omega|rfl|decide|assumption|(intro _;omega)|(simp;done)|(simp [-List.getD_eq_getElem?_getD];omega)|exact hcode _|(intro _;exact hcode _)|exact hsl _|(intro _;exact hsl _)|(simp [-List.getD_eq_getElem?_getD,QF,maxLen,YN,Q0,Qz,Qw,Qx];omega)|(simp [-List.getD_eq_getElem?_getD,QF,maxLen,YN,Q0,Qz,Qw,Qx];done))
  | ((with_reducible refine Zw ?_);refine hR _ ?_;clear hR R;try simp only [go_sem,QPf,Nat.reduceBEq])
  | (with_reducible first|refine J1 ?_|refine J2 ?_|refine J3 ?_|refine ZL ?_|refine ZS ?_)
  | ((with_reducible refine rg QPf fun R hR=>?_);simp only [go_sem,QC])
  | ((with_reducible refine QR 5 rfl (fun hb5=>?_) (fun hb5=>?_))
     all_goals
      try simp at hb5
      try subst hb5)
  | ((with_reducible first|refine vd ?_|refine xA ?_)
     simp only [go_sem,QS,QW,QM,seval]
     first
      | (have q:=h [Obj.row 3 [V.int k]]
         simpa [QBH,hx,Obj.kill,List.take_of_length_le] using q)
      | (have q:=h []
         simpa [QBH] using q))
def QIH:List (List Nat):=[[2,3,4],[2,3,4,7],[2,3,4,7,19],[23],[6],[6],[2,3,4,7,8],[3,4,8,9],[3,4,8,9,10],[3,4,8,9,10,41,42,43],[3,4,8,9,10,41,42,43,44],[3,4,8,9,10,11,12,41,42,43],[3,4,8,9,10,41,42,43],[3,4,8,9,10,41,42,43],[8],[6]]
end Go.Eng.Tryz
