/- A part of the proof: walks through the program's functions, and what they compute. -/
import Derived.Test.YtmonhjagbhpbeaaGreatDoorPk5
import Derived.Test.YtmonhjagbhpbeaaGreatDoorPk28
set_option linter.unusedSimpArgs false
set_option linter.unusedVariables false
namespace Go.Eng.Tryz
open Go.RowKit Go.Eng
set_option maxHeartbeats 0
set_option maxRecDepth 20000
theorem QJn (p:Prg) (hp:p.Fit):Ctr Go.Proofs.Tryz.prog tab 41 [26] [3,93] [p.v] [.int (Zh p),.agg [.int (W9 p).1,.int (W9 p).2]]:=by
 have hpf:=hp
 obtain ⟨hp1,hp2,hp3,hp4⟩:=hp
 refine Ctr.body ok Go.Proofs.Tryz.func41 rfl rfl 128 rfl [.tmp 2,.cell 3 93] rfl (by simp [QF]) ?_
 simp only [go_sem,Nat.reduceAdd]
 repeat' first
  | ((with_reducible refine SARA.told 11 2 ?_)
     rw [XM (by omega)])
  | ((with_reducible refine SARA.told 19 2 ?_)
     rw [Zx (by omega)])
  | ((with_reducible refine SARA.told 24 6 ?_)
     have e1:IntKind.i64.wrap (((p.funcs.getD i default).code.length:Int)-1)=(((p.funcs.getD i default).code.length-1:Nat):Int):=by rw [Qc (by unfold maxLen at hcl;omega) (by unfold maxLen at hcl;omega)];omega
     rw [e1])
  | ((with_reducible refine SARA.told 24 7 ?_)
     rw [Zx (by omega)])
  | ((with_reducible refine SART.told 26 4 ?_)
     have e1:IntKind.i64.wrap (((p.funcs.getD i default).code.length:Int)-1)=((p.funcs.getD i default).code.length:Int)-1:=Qc (by unfold maxLen at hcl;omega) (by unfold maxLen at hcl;omega)
     rw [e1])
  | ((with_reducible first|refine Q5 fun R1 hR1=>?_|refine qz fun R1 hR1=>?_|refine qy fun R1 hR1=>?_|refine qx fun R1 hR1=>?_);(simp only [go_sem,seval,-List.reduceReplicate,Xv,z93,z3,Xv,z93,z3]);(repeat' with_reducible refine And.intro ?_ ?_);all_goals first|(refine hR1 _ ?_;clear hR1 R1)|((first|refine cq (cc (QGp _ _ hfi)) ?_|refine cq (cc (QE4 p _ hpf hfi)) ?_|refine cq (cc (QJO p _ _ hpf hfi)) ?_);all_goals ((try simp only [go_sem,seval,-List.reduceReplicate,Xv,z93,z3,Xv,z93,z3]);(repeat' with_reducible refine And.intro ?_ ?_);all_goals first|(refine hR1 _ ?_;clear hR1 R1)|exact Vz))|exact Vz)
  | ((with_reducible first|refine qw ?_|refine Q4 ?_);refine hR _ ?_;clear hR R;try simp only [go_sem,QJF,Nat.reduceBEq])
  | (with_reducible first|refine qv ?_ ?_|exact qu|refine qt ?_ ?_)
  | (with_reducible first|refine J1 ?_|refine J2 ?_|refine J3 ?_|refine J4 ?_|refine J5 ?_|refine J6 ?_|refine J7 ?_|refine J8 (by decide) ?_|refine J9 ?_|refine Xu ?_|refine Q2 ?_|refine Q1 ?_|refine Yc ?_|refine Xt ?_)
  | ((with_reducible refine Qe 11 ?_)
     have hfi:=hp4 (p.funcs.getD i default) (Qj _ (by omega))
     (with_reducible refine rg QJF fun R hR=>?_);simp only [go_sem,QC])
  | ((with_reducible refine Qe 17 ?_)
     have hcl:=hfi.1
     (with_reducible refine rg QJF fun R hR=>?_);simp only [go_sem,QC])
  | ((with_reducible refine Qe 24 ?_)
     obtain ⟨hl0,hl1,hl2,hl3⟩:=WJ hb71
     (with_reducible refine rg QJF fun R hR=>?_);simp only [go_sem,QC])
  | ((with_reducible refine Qe 26 ?_)
     refine WT ok QQ (.take 0 (.take 1 (.take 2 (.take 3 (.take 4 (.take 5 (.take 6 (.br 7 .done .nil)))))))) [7] QJF (by kernel_rfl) (fun R hR=>?_);simp only [go_sem,QC])
  | ((with_reducible refine rg QJF fun R hR=>?_);simp only [go_sem,QC])
  | ((with_reducible refine QI 43 rfl (fun hb43=>?_) fun hb43=>?_);all_goals (try simp [-List.getD_eq_getElem?_getD] at hb43;try (exfalso;omega)))
  | ((with_reducible refine QI 49 rfl (fun hb49=>?_) fun hb49=>?_);all_goals (try simp [-List.getD_eq_getElem?_getD] at hb49;try (exfalso;omega)))
  | ((with_reducible refine QI 57 rfl (fun hb57=>?_) fun hb57=>?_);all_goals (try simp [-List.getD_eq_getElem?_getD] at hb57;try (exfalso;omega)))
  | ((with_reducible refine QI 64 rfl (fun hb64=>?_) fun hb64=>?_);all_goals (try simp [-List.getD_eq_getElem?_getD] at hb64;try (exfalso;omega)))
  | ((with_reducible refine QI 71 rfl (fun hb71=>?_) fun hb71=>?_);all_goals (try simp [-List.getD_eq_getElem?_getD] at hb71;try (exfalso;omega)))
  | ((with_reducible refine QI 78 rfl (fun hb78=>?_) fun hb78=>?_);all_goals (try simp [-List.getD_eq_getElem?_getD] at hb78;try (exfalso;omega)))
  | ((with_reducible refine QI 86 rfl (fun hb86=>?_) fun hb86=>?_);all_goals (try simp [-List.getD_eq_getElem?_getD] at hb86;try (exfalso;omega)))
  | ((with_reducible refine QI 95 rfl (fun hb95=>?_) fun hb95=>?_);all_goals (try simp [-List.getD_eq_getElem?_getD] at hb95;try (exfalso;omega)))
  | ((with_reducible refine QI 119 rfl (fun hb119=>?_) fun hb119=>?_);all_goals (try simp [-List.getD_eq_getElem?_getD] at hb119;try (exfalso;omega)))
  | ((with_reducible refine Ya ?_)
     refine Zv (Qo (by first|rfl|(simp;done)|fail)) (Yb (fun n τ=>∃ (i:Nat),n=p.chans.length-i∧(i≤p.chans.length∧Zz p∧Z4 p i=true)∧τ={ tm:=[(1,true,.ptr 0 [] 26),(3,true,.ptr 1 [] 93),(46,true,.fs 3 (p.chans.map V.int) false),(47,true,.int .i64 p.chans.length),(48,true,.int .i64 i)],ob:=[.var 26 (.data 26 p.v),.var 93 (.data 93 (.agg [.int 0,.int 0]))],out:=[],nt:=128 }) (p.chans.length) ⟨0,rfl,⟨by omega,by unfold Zz;omega,rfl⟩,rfl⟩ ?_)
     rintro n τ ⟨i,hn,⟨hi,hs,hc⟩,rfl⟩)
  | ((with_reducible refine Ya ?_)
     refine Zv (Qo (by first|rfl|(simp;done)|fail)) (Yb (fun n τ=>∃ (i:Nat),n=p.funcs.length-i∧(i≤p.funcs.length∧Zz p∧Z4 p p.chans.length=true∧YC p i=0)∧τ={ tm:=[(1,true,.ptr 0 [] 26),(3,true,.ptr 1 [] 93),(61,true,.fs 108 (p.funcs.map Fnc.v) false),(62,true,.int .i64 p.funcs.length),(63,true,.int .i64 i)],ob:=[.var 26 (.data 26 p.v),.var 93 (.data 93 (.agg [.int 0,.int 0]))],out:=[],nt:=128 }) (p.funcs.length) ⟨0,rfl,⟨by omega,hs,(show i=p.chans.length by omega)▸hc,rfl⟩,rfl⟩ ?_)
     rintro n τ ⟨i,hn,⟨hi,hs,hc,hz⟩,rfl⟩)
  | ((with_reducible refine Ya ?_)
     refine Zv (Qo (by first|rfl|(simp;done)|fail)) (Yb (fun n τ=>∃ (j:Nat),n=(p.funcs.getD i default).code.length-j∧(j≤(p.funcs.getD i default).code.length∧Y8 p (p.funcs.getD i default) j=0)∧τ={ tm:=[(1,true,.ptr 0 [] 26),(3,true,.ptr 1 [] 93),(6,true,.int .i64 i),(7,true,.ptr 2 [] 108),(61,true,.fs 108 (p.funcs.map Fnc.v) false),(62,true,.int .i64 p.funcs.length),(63,true,.int .i64 i),(83,true,.fs 104 ((p.funcs.getD i default).code.map Instr.v) false),(84,true,.int .i64 (p.funcs.getD i default).code.length),(85,true,.int .i64 j)],ob:=[.var 26 (.data 26 p.v),.var 93 (.data 93 (.agg [.int 0,.int 0])),.var 108 (.data 108 (p.funcs.getD i default).v)],out:=[],nt:=128 }) ((p.funcs.getD i default).code.length) ⟨0,rfl,⟨by omega,rfl⟩,rfl⟩ ?_)
     rintro n τ ⟨j,hn,⟨hj,hk⟩,rfl⟩)
  | ((with_reducible refine WC ?_)
     first
      | (have hlt:i<p.chans.length:=by omega
         refine Z0 (p.chans.length-(i+1)) _ (by omega) (Qo (by simp only [QD hlt hp2])) ⟨i+1,rfl,⟨hlt,hs,?_⟩,rfl⟩
         unfold Z4 at hc ⊢
         rw [wL _ _ hlt,hc]
         simp only [Bool.true_and,Bool.and_eq_true,decide_eq_true_eq]
         exact hb57)
      | (have hlt:i<p.funcs.length:=by omega
         refine Z0 (p.funcs.length-(i+1)) _ (by omega) ((WS 2 rfl).trans (Qo (by simp only [QD hlt hp3,List.take_succ_cons,List.take_zero]))) ⟨i+1,rfl,⟨hlt,hs,hc,?_⟩,rfl⟩
         have hjc:j=(p.funcs.getD i default).code.length:=by omega
         subst hjc
         rw [W4,if_neg (fun q=>q hz),V3]
         unfold Y7
         rw [if_neg (by rw [hb71];simp),if_neg (fun q=>q hb78),if_neg (fun q=>q hk)]
         exact if_pos (QC2 hl1 hb119))
      | (have hlt:j<(p.funcs.getD i default).code.length:=by omega
         refine Z0 ((p.funcs.getD i default).code.length-(j+1)) _ (by omega) ((WS 3 rfl).trans (Qo (by simp only [QD hlt hcl,List.take_succ_cons,List.take_zero]))) ⟨j+1,rfl,⟨hlt,?_⟩,rfl⟩
         rw [wD p _ hlt,if_neg (fun q=>q hk)]
         exact hb95))
  | ((with_reducible first|refine ZQ ?_|refine ZP ?_)
     simp only [go_sem,QL,QM,QH,seval]
     first
      | (obtain ⟨e1,e2⟩:=QBf hs hc (by omega) hz hb71 hb78 ((show j=(p.funcs.getD i default).code.length by omega)▸hk) (QFc hl1 hb119)
         exact ⟨⟨rfl,congrArg (fun e=>some (V.int e)) e1.symm⟩,⟨rfl,by rw [e2]⟩⟩)
      | (obtain ⟨e1,e2⟩:=QBg hs hc (by omega) hz hb71 hb78 (by omega) hk hb95
         exact ⟨⟨rfl,congrArg (fun e=>some (V.int e)) e1.symm⟩,⟨rfl,by rw [e2]⟩⟩)
      | (obtain ⟨e1,e2⟩:=QBe hs hc (by omega) hz hb71 hb78
         exact ⟨⟨rfl,congrArg (fun e=>some (V.int e)) e1.symm⟩,⟨rfl,by rw [e2]⟩⟩)
      | (obtain ⟨e1,e2⟩:=wF hs hc (by omega) hz hb71
         exact ⟨⟨rfl,congrArg (fun e=>some (V.int e)) e1.symm⟩,⟨rfl,by rw [e2]⟩⟩)
      | (obtain ⟨e1,e2⟩:=QF0 hs hc ((show i=p.funcs.length by omega)▸hz)
         exact ⟨⟨rfl,congrArg (fun e=>some (V.int e)) e1.symm⟩,⟨rfl,by rw [e2]⟩⟩)
      | (obtain ⟨e1,e2⟩:=QBh hs (QDR (i:=i) (by omega) hb57)
         exact ⟨⟨rfl,congrArg (fun e=>some (V.int e)) e1.symm⟩,⟨rfl,by rw [e2]⟩⟩)
      | (obtain ⟨e1,e2⟩:=vY (p:=p) (by omega)
         exact ⟨⟨rfl,congrArg (fun e=>some (V.int e)) e1.symm⟩,⟨rfl,by rw [e2]⟩⟩))
def QTn:List (List Nat):=[[1],[3],[2]]
theorem Wm (p:Prg) (hp:p.Fit):Ctr Go.Proofs.Tryz.prog tab 13 [26] [4] [p.v] [.bool (QN p)]:=by
 refine Ctr.body ok Go.Proofs.Tryz.func13 rfl rfl 12 rfl [.tmp 2] rfl (by simp [QF]) ?_
 simp only [go_sem,Nat.reduceAdd]
 repeat' first
  | ((with_reducible refine Q5 fun R1 hR1=>?_);(simp only [go_sem,seval,-List.reduceReplicate,Xv,z93,z3,Xv,z93,z3]);(repeat' with_reducible refine And.intro ?_ ?_);all_goals first|(refine hR1 _ ?_;clear hR1 R1)|((first|refine ce (cf (QJn p hp) ?_));all_goals ((try simp only [go_sem,seval,-List.reduceReplicate,Xv,z93,z3,Xv,z93,z3]);(repeat' with_reducible refine And.intro ?_ ?_);all_goals first|(refine hR1 _ ?_;clear hR1 R1)|exact Vz))|exact Vz)
  | ((with_reducible refine Q4 ?_);refine hR _ ?_;clear hR R;try simp only [go_sem,QTn,Nat.reduceBEq])
  | (with_reducible first|refine J1 ?_|refine J2 ?_|refine Q2 ?_|refine Q1 ?_)
  | ((with_reducible refine rg QTn fun R hR=>?_);simp only [go_sem,QC])
  | ((with_reducible first|refine ZQ ?_|refine ZP ?_)
     simp only [go_sem,QL,QM,QH,seval]
     exact ⟨rfl,rfl⟩)
def QN9:List (List Nat):=[[0,1],[0,5],[0,5,6],[4],[0,5,10],[4],[0,5,18],[4],[0,5,26],[4],[0,5,34],[4],[0,5,38],[4],[0,5,42],[4],[0,46],[4],[4]]
theorem UO (op why:Int):Ctr Go.Proofs.Tryz.prog tab 221 [3,3] [4] [.int op,.int why] [.bool (ZV op why)]:=by
 refine Ctr.body ok Go.Proofs.Tryz.func221 rfl rfl 50 rfl [.tmp 4] rfl (by simp [QF]) ?_
 simp only [go_sem,Nat.reduceAdd]
 repeat' first
  | ((with_reducible refine Q5 fun R1 hR1=>?_);(simp only [go_sem,seval,-List.reduceReplicate]);(repeat' with_reducible refine And.intro ?_ ?_);all_goals first|(refine hR1 _ ?_;clear hR1 R1)|exact ob3)
  | ((with_reducible refine Q4 ?_);refine hR _ ?_;clear hR R;try simp only [go_sem,QN9,Nat.reduceBEq])
  | (with_reducible first|refine J1 ?_|refine J2 ?_|refine J3 ?_|refine J4 ?_|refine J5 ?_|refine J6 ?_|refine J7 ?_|refine J8 (by decide) ?_|refine J9 ?_|refine Q2 ?_|refine Q1 ?_|refine Yc ?_)
  | ((with_reducible refine rg QN9 fun R hR=>?_);simp only [go_sem,QC])
  | ((with_reducible refine QI 6 rfl (fun hb6=>?_) fun hb6=>?_);all_goals (try simp only [decide_eq_true_eq,decide_eq_false_iff_not] at hb6))
  | ((with_reducible refine QI 10 rfl (fun hb10=>?_) fun hb10=>?_);all_goals (try simp only [decide_eq_true_eq,decide_eq_false_iff_not] at hb10))
  | ((with_reducible refine QI 18 rfl (fun hb18=>?_) fun hb18=>?_);all_goals (try simp only [decide_eq_true_eq,decide_eq_false_iff_not] at hb18))
  | ((with_reducible refine QI 26 rfl (fun hb26=>?_) fun hb26=>?_);all_goals (try simp only [decide_eq_true_eq,decide_eq_false_iff_not] at hb26))
  | ((with_reducible refine QI 34 rfl (fun hb34=>?_) fun hb34=>?_);all_goals (try simp only [decide_eq_true_eq,decide_eq_false_iff_not] at hb34))
  | ((with_reducible refine QI 38 rfl (fun hb38=>?_) fun hb38=>?_);all_goals (try simp only [decide_eq_true_eq,decide_eq_false_iff_not] at hb38))
  | ((with_reducible refine QI 42 rfl (fun hb42=>?_) fun hb42=>?_);all_goals (try simp only [decide_eq_true_eq,decide_eq_false_iff_not] at hb42))
  | ((with_reducible refine QI 46 rfl (fun hb46=>?_) fun hb46=>?_);all_goals (try simp only [decide_eq_true_eq,decide_eq_false_iff_not] at hb46))
  | ((with_reducible first|refine ZQ ?_|refine ZP ?_)
     simp only [go_sem,QL,QM,QH,seval]
     refine ⟨rfl,?_⟩
     first|rfl|(simp [ZV, *];done)|(simp only [ZV, *];simp;cases decide (op=19)<;>rfl))
def QHl:List (List Nat):=[[2,3],[2,3,46],[4],[2,3,5],[2,3,5,61],[2,3,5],[2,3,6],[2,3,6,64],[2,3,6],[2,3,6,71],[4],[3,7],[3,7,86],[4],[4]]
theorem W2 (p:Prg) (g:Gor) (hp:p.Fit) (hr:QN p=true) (hg:g.regs.length=8):Ctr Go.Proofs.Tryz.prog tab 202 [26,44] [4] [p.v,g.v] [.bool (U0 p g)]:=by
 have hfit:=hp
 have hcode:=p.code_len hp
 have hsl:=p.sels_len hp
 obtain ⟨hp1,hp2,hp3,hp4⟩:=hp
 have hok:=Prg.ok hr
 have hM0:0≤U1 p g:=by
  unfold U1
  split
  · exact Int.le_refl _
  · exact (hok.regs _).1
 refine Ctr.body ok Go.Proofs.Tryz.func202 rfl rfl 112 rfl [.tmp 4] rfl (by simp [QF]) ?_
 simp only [go_sem,Nat.reduceAdd]
 repeat' first
  | ((with_reducible first|refine Q5 fun R1 hR1=>?_|refine yb fun R1 hR1=>?_);(simp only [go_sem,seval,-List.reduceReplicate]);(repeat' with_reducible refine And.intro ?_ ?_);all_goals first|(refine hR1 _ ?_;clear hR1 R1)|((first|refine V4 (cc (UO _ _)) ?_|refine wB (fun hg=>cc (UO _ _)) ?_|refine cq (cc (UO _ _)) ?_|refine Y4 (fun hg=>cc (UO _ _)) ?_|refine V4 (cc (Xr _)) ?_|refine wB (fun hg=>cc (Xr _)) ?_|refine cq (cc (Xr _)) ?_|refine Y4 (fun hg=>cc (Xr _)) ?_);all_goals ((try simp only [go_sem,seval,-List.reduceReplicate]);(repeat' with_reducible refine And.intro ?_ ?_);all_goals first|(refine hR1 _ ?_;clear hR1 R1)|exact Zp))|exact Zp)
  | ((with_reducible first|refine Q4 ?_|refine ya ?_);refine hR _ ?_;clear hR R;try simp only [go_sem,QHl,Nat.reduceBEq])
  | (with_reducible first|refine J1 ?_|refine J2 ?_|refine J3 ?_|refine J4 ?_|refine J5 ?_|refine J6 ?_|refine J7 ?_|refine J8 (by decide) ?_|refine J9 ?_|refine Xu ?_|refine Q2 ?_|refine Q1 ?_|refine Yc ?_|refine Xt ?_)
  | ((with_reducible refine Qe 6 ?_)
     first|have hM:U1 p g=0:=if_pos hb61|have hM:U1 p g=(p.funcs.getD g.func.toNat default).regs:=if_neg (by omega)
     (with_reducible refine rg QHl fun R hR=>?_);simp only [go_sem,QC])
  | ((with_reducible refine rg QHl fun R hR=>?_);simp only [go_sem,QC])
  | ((with_reducible refine Ve ok QQ (by kernel_rfl) (by kernel_rfl) QHl ?_);intro R hR;simp only [go_sem,QC])
  | ((with_reducible refine QI 46 rfl (fun hb46=>?_) fun hb46=>?_);all_goals (try simp [-List.getD_eq_getElem?_getD] at hb46;try (exfalso;omega)))
  | ((with_reducible refine QI 61 rfl (fun hb61=>?_) fun hb61=>?_);all_goals (try simp [-List.getD_eq_getElem?_getD] at hb61;try (exfalso;omega)))
  | ((with_reducible refine QI 64 rfl (fun hb64=>?_) fun hb64=>?_);all_goals (try simp [-List.getD_eq_getElem?_getD] at hb64;try (exfalso;omega)))
  | ((with_reducible refine QI 71 rfl (fun hb71=>?_) fun hb71=>?_);all_goals (try simp [-List.getD_eq_getElem?_getD] at hb71;try (exfalso;omega)))
  | ((with_reducible refine QI 86 rfl (fun hb86=>?_) fun hb86=>?_);all_goals (try simp [-List.getD_eq_getElem?_getD] at hb86;try (exfalso;omega)))
  | ((with_reducible refine Ya ?_)
     refine Zv (Qo (by first|rfl|(simp;done)|fail)) (Yb (fun n τ=>∃ (i:Int),n=(8-i).toNat∧(U1 p g≤i∧∀ k:Nat,U1 p g≤k→(k:Int)<i→g.regs.getD k 0=0)∧τ={ tm:=[(2,true,.ptr 0 [] 26),(3,true,.ptr 1 [] 44),(6,true,.int .i64 i)],ob:=[.var 26 (.data 26 p.v),.var 44 (.data 44 g.v)],out:=[],nt:=112 }) (_) ⟨_,rfl,⟨by rw [hM];exact Int.le_refl _,fun k h1 h2=>by rw [hM] at h1;omega⟩,rfl⟩ ?_)
     rintro n τ ⟨i,hn,⟨hi,hz⟩,rfl⟩)
  | ((with_reducible refine WC ?_)
     first
      | (have hw:IntKind.i64.wrap (i+1)=i+1:=Qc (by omega) (by omega)
         refine Z0 (8-(i+1)).toNat _ (by omega) (Qo (by rw [hw])) ⟨i+1,rfl,⟨by omega,fun k h1 h2=>?_⟩,rfl⟩
         by_cases h3:(k:Int)<i
         · exact hz k h1 h3
         · have:k=i.toNat:=by omega
           rw [this];exact hb71))
  | ((with_reducible first|refine ZQ ?_|refine ZP ?_)
     simp only [go_sem,QL,QM,QH,seval]
     first
      | (refine ⟨rfl,?_⟩
         rw [VE hb46,QE9 hi (by omega) hb64 hb71]
         rfl)
      | (refine ⟨rfl,?_⟩
         rw [VE hb46,Ut (fun k h1 h2=>hz k h1 (by omega)),if_neg (by simp),if_pos hb86])
      | (refine ⟨rfl,?_⟩
         rw [VE hb46,Ut (fun k h1 h2=>hz k h1 (by omega)),if_neg (by simp),if_neg hb86]
         cases decide (g.why=0)<;>by_cases h3:g.status=3<;>by_cases h5:g.status=5<;>simp [-List.getD_eq_getElem?_getD,h3,h5])
      | (refine ⟨rfl,?_⟩
         rw [UM (by unfold qs;omega)]))
def QHk:List (List Nat):=[[2,3,4],[2,3,4,7],[2,3,4,7,49],[6],[2,3,4,7,8],[2,3,4,7,8,53],[2,3,4,7,8],[2,3,4,7,8,60],[6],[2,3,4,7,63],[6],[2,3,4,7,98],[6],[2,3,4,7,117],[6],[2,9],[6]]
theorem UR (p:Prg) (s:Stt) (m:Int) (hp:p.Fit) (hr:QN p=true) (hm:0≤m∧m<p.chans.length) (hc4:s.chans.length=4) (hcnt:s.count≤6) (hgs:Yx p s 6=true):Ctr Go.Proofs.Tryz.prog tab 203 [26,47,3] [4] [p.v,s.v,.int m] [.bool (Wv p s m)]:=by
 have hfit:=hp
 have hcode:=p.code_len hp
 have hsl:=p.sels_len hp
 obtain ⟨hp1,hp2,hp3,hp4⟩:=hp
 have hok:=Prg.ok hr
 have hcap:=hok.caps m.toNat
 have hsz:=hok.sizes
 unfold Zz at hsz
 refine Ctr.body ok Go.Proofs.Tryz.func203 rfl rfl 146 rfl [.tmp 6] rfl (by simp [QF]) ?_
 simp only [go_sem,Nat.reduceAdd]
 repeat' first
  | ((with_reducible refine SARA.told 1 4 ?_)
     rw [Zl (by omega)])
  | ((with_reducible refine SART.told 15 18 ?_)
     rw [Zx (by omega)])
  | ((with_reducible first|refine Q5 fun R1 hR1=>?_|refine yb fun R1 hR1=>?_|refine qz fun R1 hR1=>?_|refine qy fun R1 hR1=>?_|refine qx fun R1 hR1=>?_);(simp only [go_sem,seval,-List.reduceReplicate]);(repeat' with_reducible refine And.intro ?_ ?_);all_goals first|(refine hR1 _ ?_;clear hR1 R1)|exact Zp)
  | ((with_reducible first|refine qw ?_|refine Q4 ?_|refine ya ?_);refine hR _ ?_;clear hR R;try simp only [go_sem,QHk,Nat.reduceBEq])
  | (with_reducible first|refine qv ?_ ?_|exact qu|refine qt ?_ ?_)
  | (with_reducible first|refine J1 ?_|refine J2 ?_|refine J3 ?_|refine J4 ?_|refine J5 ?_|refine J6 ?_|refine J7 ?_|refine J8 (by decide) ?_|refine J9 ?_|refine Xu ?_|refine Q2 ?_|refine Q1 ?_|refine Yc ?_|refine Xt ?_)
  | ((with_reducible refine Qe 15 ?_)
     have hG:=QAE (yQ hgs (i:=(s.chans.getD m.toNat default).from_) (by omega) (by omega) (by omega))
     unfold qs at hG
     refine WT ok QQ (.take 0 (.take 1 (.take 2 (.take 3 (.take 4 (.take 5 (.take 6 (.take 7 (.take 8 (.take 9 (.take 10 (.take 11 (.take 12 (.take 13 (.take 14 (.take 15 (.take 16 (.take 17 (.take 18 (.br 19 (.br 20 .done .nil) .nil)))))))))))))))))))) [20] QHk (by kernel_rfl) (fun R hR=>?_);simp only [go_sem,QC])
  | ((with_reducible refine rg QHk fun R hR=>?_);simp only [go_sem,QC])
  | ((with_reducible refine Ve ok QQ (by kernel_rfl) (by kernel_rfl) QHk ?_);intro R hR;simp only [go_sem,QC])
  | ((with_reducible refine QI 49 rfl (fun hb49=>?_) fun hb49=>?_);all_goals (try simp [-List.getD_eq_getElem?_getD] at hb49;try (exfalso;omega)))
  | ((with_reducible refine QI 53 rfl (fun hb53=>?_) fun hb53=>?_);all_goals (try simp [-List.getD_eq_getElem?_getD] at hb53;try (exfalso;omega)))
  | ((with_reducible refine QI 60 rfl (fun hb60=>?_) fun hb60=>?_);all_goals (try simp [-List.getD_eq_getElem?_getD] at hb60;try (exfalso;omega)))
  | ((with_reducible refine QI 63 rfl (fun hb63=>?_) fun hb63=>?_);all_goals (try simp [-List.getD_eq_getElem?_getD] at hb63;try (exfalso;omega)))
  | ((with_reducible refine QI 98 rfl (fun hb98=>?_) fun hb98=>?_);all_goals (try simp [-List.getD_eq_getElem?_getD] at hb98;try (exfalso;omega)))
  | ((with_reducible refine QI 117 rfl (fun hb117=>?_) fun hb117=>?_);all_goals (try simp [-List.getD_eq_getElem?_getD] at hb117;try (exfalso;omega)))
  | ((with_reducible refine Ya ?_)
     refine Zv (Qo (by first|rfl|(simp;done)|fail)) (Yb (fun n τ=>∃ (i:Int),n=(4-i).toNat∧((s.chans.getD m.toNat default).len≤i∧∀ k:Nat,(s.chans.getD m.toNat default).len≤k→(k:Int)<i→(s.chans.getD m.toNat default).buf.getD k 0=0)∧τ={ tm:=[(2,true,.int .i64 m),(3,true,.ptr 0 [] 26),(4,true,.ptr 1 [] 47),(7,true,.ptr 2 [] 41),(8,true,.int .i64 i)],ob:=[.var 26 (.data 26 p.v),.var 47 (.data 47 s.v),.var 41 (.data 41 (s.chans.getD m.toNat default).v)],out:=[],nt:=146 }) (_) ⟨_,rfl,⟨Int.le_refl _,fun k h1 h2=>by omega⟩,rfl⟩ ?_)
     rintro n τ ⟨i,hn,⟨hi,hz⟩,rfl⟩)
  | ((with_reducible refine WC ?_)
     first
      | (have hw:IntKind.i64.wrap (i+1)=i+1:=Qc (by omega) (by omega)
         refine Z0 (4-(i+1)).toNat _ (by omega) (Qo (by rw [hw])) ⟨i+1,rfl,⟨by omega,fun k h1 h2=>?_⟩,rfl⟩
         by_cases h3:(k:Int)<i
         · exact hz k h1 h3
         · have:k=i.toNat:=by omega
           rw [this];exact hb60))
  | ((with_reducible first|refine ZQ ?_|refine ZP ?_)
     simp only [go_sem,QL,QM,QH,seval]
     first
      | (have q:(_∧_)∧_:=hb117
         refine ⟨rfl,?_⟩
         rw [Y0,if_neg (by omega),Wg (fun k h1 h2=>hz k h1 (by omega)),if_neg (by simp),if_neg hb63,if_neg (by rintro (⟨q1,q2⟩|⟨q1,q2⟩|⟨q1,q2⟩)<;>first|exact q2 (hb98.1.1 q1)|(rw [hb98.1.2 q1] at q2;cases q2)|(rw [hb98.2 q1] at q2;cases q2)),if_neg (by omega)]
         first|rfl|(simp;done))
      | (have q:(_∨_)∨_:=hb117
         refine ⟨rfl,?_⟩
         rw [Y0,if_neg (by omega),Wg (fun k h1 h2=>hz k h1 (by omega)),if_neg (by simp),if_neg hb63,if_neg (by rintro (⟨q1,q2⟩|⟨q1,q2⟩|⟨q1,q2⟩)<;>first|exact q2 (hb98.1.1 q1)|(rw [hb98.1.2 q1] at q2;cases q2)|(rw [hb98.2 q1] at q2;cases q2)),if_pos (by omega)])
      | (have q:(_∨_)∨_:=hb98
         refine ⟨rfl,?_⟩
         rw [Y0,if_neg (by omega),Wg (fun k h1 h2=>hz k h1 (by omega)),if_neg (by simp),if_neg hb63,if_pos (or_assoc.1 hb98)])
      | (have q:_=_:=hb63
         refine ⟨rfl,?_⟩
         rw [Y0,if_neg (by omega),Wg (fun k h1 h2=>hz k h1 (by omega)),if_neg (by simp),if_pos hb63]
         first|rfl|(simp;done))
      | (have q:¬ _:=hb60
         refine ⟨rfl,?_⟩
         rw [Y0,if_neg (by omega),QIH hi (by omega) (by omega) hb60,if_pos rfl])
      | (have q:_∨_:=hb49
         refine ⟨rfl,?_⟩
         rw [Y0,if_pos (by omega)]))
def vM:List (List Nat):=[[2,3],[2,3,24],[4],[2,3,25],[2,3,25,26],[2,3,5,25],[2,3,25,54],[4],[2,3,25],[2,3,6],[2,3,6,60],[2,3,6],[2,3,6,67],[4],[2,3,68],[2,3,68,69],[2,3,7,68],[2,3,68,97],[4],[2,3,68],[2,3,99],[2,3,99,100],[2,3,8,99],[2,3,99,128],[4],[2,3,99],[3,9],[3,9,133],[3,9],[3,9,10],[3,9,10,136],[3,9,10,136,137],[3,9,10,11,136],[3,9,10,136,153],[3,9,10,136],[3,9,10,136],[3,9,166],[4],[4]]
end Go.Eng.Tryz
