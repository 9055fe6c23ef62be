/- A part of the proof: walks through the program's functions, and what they compute. -/
import Derived.Test.YtmonhjagbhpbeaaGreatDoorPk9
set_option linter.unusedSimpArgs false
set_option linter.unusedVariables false
namespace Go.Eng.Tryz
open Go.RowKit Go.Eng
set_option maxHeartbeats 0
set_option maxRecDepth 20000
theorem QIq (m:Int) (f:Fnc) (hf:f.Fit):Ctr Go.Proofs.Tryz.prog tab 110 [108,4] [30] [f.v,.bool (decide (m=0))] [.int (WZ m f)]:=by
 obtain ⟨hf1,hf2,hf3⟩:=hf
 refine Ctr.body ok Go.Proofs.Tryz.func110 rfl rfl 79 rfl [.tmp 4] rfl (by simp [QF]) ?_
 simp only [go_sem,Nat.reduceAdd]
 repeat' first
  | ((with_reducible refine SARA.told 5 1 ?_)
     rw [XL (by omega)])
  | ((with_reducible refine Q5 fun R1 hR1=>?_);(simp only [go_sem,seval,-List.reduceReplicate,Bool.cond_false_right]);(repeat' with_reducible refine And.intro ?_ ?_);all_goals first|(refine hR1 _ ?_;clear hR1 R1)|exact Vz)
  | ((with_reducible refine Q4 ?_);refine hR _ ?_;clear hR R;try simp only [go_sem,QLT,Nat.reduceBEq])
  | (with_reducible first|refine J1 ?_|refine J2 ?_|refine J3 ?_|refine J4 ?_|refine J5 ?_|refine J6 ?_|refine J7 ?_|refine J8 (by decide) ?_|refine J9 ?_|refine Xu ?_|refine Q2 ?_|refine Q1 ?_|refine Yc ?_|refine Xt ?_)
  | ((with_reducible refine Qe 6 ?_)
     have hc3:=hf3 _ (W3 (i:=j) (by omega))
     (with_reducible refine rg QLT fun R hR=>?_);simp only [go_sem,QC])
  | ((with_reducible refine rg QLT fun R hR=>?_);simp only [go_sem,QC])
  | ((with_reducible refine QI 60 rfl (fun hb60=>?_) fun hb60=>?_);all_goals (try simp [-List.getD_eq_getElem?_getD] at hb60;try (exfalso;omega)))
  | ((with_reducible refine QI 78 rfl (fun hb78=>?_) (fun hb78=>?_))
     all_goals
      skip)
  | ((with_reducible refine Ya ?_)
     refine Zv (Qo (by first|rfl|(simp [sz0,YR];done))) (Yb (fun n τ=>∃ (j:Nat),n=f.sels.length-j∧(j≤f.sels.length)∧τ={ tm:=[(5,true,.bool (sz0 m f&&YR f j)),(57,true,.fs 173 (f.sels.map Sel.v) false),(58,true,.int .i64 f.sels.length),(59,true,.int .i64 j)],ob:=[.var 108 (.data 108 f.v)],out:=[],nt:=79 }) (f.sels.length) ⟨0,rfl,by omega,rfl⟩ ?_)
     rintro n τ ⟨j,hn,hj,rfl⟩)
  | ((with_reducible refine WC ?_)
     first
      | (have hlt:j<f.sels.length:=by omega
         refine Z0 (f.sels.length-(j+1)) _ (by omega) ((WS 1 rfl).trans (Qo (by simp only [QD hlt hf2,List.take_succ_cons,List.take_zero,QGX f hlt,QLw,QLv,Bool.and_assoc]))) ⟨j+1,rfl,hlt,rfl⟩))
  | ((with_reducible first|refine ZQ ?_|refine ZP ?_)
     simp only [go_sem,QL,QM,QH,seval]
     have e:j=f.sels.length:=by omega
     subst e
     refine ⟨rfl,?_⟩
     unfold WZ
     rw [QJV]
     generalize (sz0 m f&&YR f f.sels.length)=b at hb78 ⊢
     cases b<;>simp_all)
def QJE:List (List Nat):=[[1,3],[1,3,4],[1,3,4,17],[2,3],[1,3,21,22,23],[1,3,21,22,23,24],[1,3,5,6,21,22,23],[1,3,5,6,7,21,22,23],[1,3,5,6,7,21,22,23,33],[2,3],[1,3,5,6,8,21,22,23],[1,3,5,6,8,9,21,22,23],[1,3,5,6,8,9,21,22,23,44],[2,3],[1,3,5,6,8,21,22,23,49,50,51],[1,3,5,6,8,21,22,23,49,50,51,52],[1,3,5,6,8,10,11,21,22,23,49,50,51],[1,3,5,6,8,10,12,21,22,23,49,50,51],[1,3,5,6,8,10,12,21,22,23,49,50,51,60],[2,3],[1,3,5,6,8,21,22,23,49,50,51],[1,3,5,6,13,21,22,23],[1,3,5,13,21,22,23,75],[2,3],[1,3,5,13,21,22,23,75,79],[1,3,5,13,21,22,23,75,79],[1,3,5,13,21,22,23,79],[1,3,21,22,23],[2,3]]
theorem Vx (p:Prg) (hp:p.Fit):Ctr Go.Proofs.Tryz.prog tab 79 [26] [30,93] [p.v] [.int (Zh p),.agg [.int (W9 p).1,.int (W9 p).2]]:=by
 have hpf:=hp
 obtain ⟨hp1,hp2,hp3,hp4⟩:=hp
 refine Ctr.body ok Go.Proofs.Tryz.func79 rfl rfl 85 rfl [.tmp 2,.cell 3 93] rfl (by simp [QF]) ?_
 simp only [go_sem,Nat.reduceAdd]
 repeat' first
  | ((with_reducible refine SARA.told 6 2 ?_)
     rw [XM (by omega)])
  | ((with_reducible refine SARA.told 16 2 ?_)
     rw [Zx (by omega)])
  | ((with_reducible refine SARA.told 21 4 ?_)
     have e1:IntKind.i64.wrap (((p.funcs.getD i default).code.length:Int)-1)=(((p.funcs.getD i default).code.length-1:Nat):Int):=by rw [Qc (by unfold maxLen at hcl;omega) (by unfold maxLen at hcl;omega)];omega
     rw [e1])
  | ((with_reducible refine SARA.told 22 4 ?_)
     rw [Zx (by omega)])
  | ((with_reducible refine Q5 fun R1 hR1=>?_);(simp only [go_sem,seval,-List.reduceReplicate,Xv,z93,z3]);(repeat' with_reducible refine And.intro ?_ ?_);all_goals first|(refine hR1 _ ?_;clear hR1 R1)|((first|refine cq (cc (QIW p hpf)) ?_|refine cq (cc (QIq (i:Int) _ hfi)) ?_|refine cq (cc (QEB p (p.funcs.getD i default) hpf hfi)) ?_|refine cq (cc (QGd p (p.funcs.getD i default) _ hpf hfi)) ?_);all_goals ((try simp only [go_sem,seval,-List.reduceReplicate,Xv,z93,z3]);(repeat' with_reducible refine And.intro ?_ ?_);all_goals first|(refine hR1 _ ?_;clear hR1 R1)|exact Vz))|exact Vz)
  | ((with_reducible refine Q4 ?_);refine hR _ ?_;clear hR R;try simp only [go_sem,QJE,Nat.reduceBEq])
  | (with_reducible first|refine J1 ?_|refine J2 ?_|refine J3 ?_|refine J4 ?_|refine J5 ?_|refine J6 ?_|refine J7 ?_|refine J8 (by decide) ?_|refine J9 ?_|refine Xu ?_|refine Q2 ?_|refine Q1 ?_|refine Yc ?_|refine Xt ?_)
  | ((with_reducible refine Qe 4 ?_)
     obtain ⟨hs,hc⟩:=QGF hb17
     (with_reducible refine rg QJE fun R hR=>?_);simp only [go_sem,QC])
  | ((with_reducible refine Qe 6 ?_)
     have hfi:=hp4 (p.funcs.getD i default) (Qj _ (by omega))
     (with_reducible refine rg QJE fun R hR=>?_);simp only [go_sem,QC])
  | ((with_reducible refine Qe 14 ?_)
     have hcl:=hfi.1
     (with_reducible refine rg QJE fun R hR=>?_);simp only [go_sem,QC])
  | ((with_reducible refine Qe 21 ?_)
     obtain ⟨hl0,hl1,hl2,hl3⟩:=WJ (U2 hb33)
     (with_reducible refine rg QJE fun R hR=>?_);simp only [go_sem,QC])
  | ((with_reducible refine rg QJE fun R hR=>?_);simp only [go_sem,QC])
  | ((with_reducible refine QI 17 rfl (fun hb17=>?_) fun hb17=>?_);all_goals (try simp [-List.getD_eq_getElem?_getD] at hb17;try (exfalso;omega)))
  | ((with_reducible refine QI 24 rfl (fun hb24=>?_) fun hb24=>?_);all_goals (try simp [-List.getD_eq_getElem?_getD] at hb24;try (exfalso;omega)))
  | ((with_reducible refine QI 33 rfl (fun hb33=>?_) fun hb33=>?_);all_goals (try simp [-List.getD_eq_getElem?_getD] at hb33;try (exfalso;omega)))
  | ((with_reducible refine QI 44 rfl (fun hb44=>?_) fun hb44=>?_);all_goals (try simp [-List.getD_eq_getElem?_getD] at hb44;try (exfalso;omega)))
  | ((with_reducible refine QI 52 rfl (fun hb52=>?_) fun hb52=>?_);all_goals (try simp [-List.getD_eq_getElem?_getD] at hb52;try (exfalso;omega)))
  | ((with_reducible refine QI 60 rfl (fun hb60=>?_) fun hb60=>?_);all_goals (try simp [-List.getD_eq_getElem?_getD] at hb60;try (exfalso;omega)))
  | ((with_reducible refine QI 79 rfl (fun hb79=>?_) fun hb79=>?_);all_goals (try simp [-List.getD_eq_getElem?_getD] at hb79;try (exfalso;omega)))
  | ((with_reducible refine Ya ?_)
     refine Zv (Qo (by first|rfl|(simp;done)|fail)) (Yb (fun n τ=>∃ (i:Nat),n=p.funcs.length-i∧(i≤p.funcs.length∧YC p i=0)∧τ={ tm:=[(1,true,.ptr 0 [] 26),(3,true,.ptr 1 [] 93),(21,true,.fs 108 (p.funcs.map Fnc.v) false),(22,true,.int .i64 p.funcs.length),(23,true,.int .i64 i)],ob:=[.var 26 (.data 26 p.v),.var 93 (.data 93 (.agg [.int 0,.int 0]))],out:=[],nt:=85 }) (p.funcs.length) ⟨0,rfl,⟨by omega,rfl⟩,rfl⟩ ?_)
     rintro n τ ⟨i,hn,⟨hi,hz⟩,rfl⟩)
  | ((with_reducible refine Ya ?_)
     refine Zv (Qo (by first|rfl|(simp;done)|fail)) (Yb (fun n τ=>∃ (j:Nat),n=(p.funcs.getD i default).code.length-j∧(j≤(p.funcs.getD i default).code.length∧Y8 p (p.funcs.getD i default) j=0)∧τ={ tm:=[(1,true,.ptr 0 [] 26),(3,true,.ptr 1 [] 93),(5,true,.int .i64 i),(6,true,.ptr 2 [] 108),(8,true,.ptr 3 [] 196),(21,true,.fs 108 (p.funcs.map Fnc.v) false),(22,true,.int .i64 p.funcs.length),(23,true,.int .i64 i),(49,true,.fs 104 ((p.funcs.getD i default).code.map Instr.v) false),(50,true,.int .i64 (p.funcs.getD i default).code.length),(51,true,.int .i64 j)],ob:=[.var 26 (.data 26 p.v),.var 93 (.data 93 (.agg [.int 0,.int 0])),.var 108 (.data 108 (p.funcs.getD i default).v),.var 196 (.data 196 (ckV p (p.funcs.getD i default)))],out:=[],nt:=85 }) ((p.funcs.getD i default).code.length) ⟨0,rfl,⟨by omega,rfl⟩,rfl⟩ ?_)
     rintro n τ ⟨j,hn,⟨hj,hk⟩,rfl⟩)
  | ((with_reducible refine WC ?_)
     first
      | (have hlt:i<p.funcs.length:=by omega
         refine Z0 (p.funcs.length-(i+1)) _ (by omega) ((WS 2 rfl).trans (Qo (by simp only [QD hlt hp3,List.take_succ_cons,List.take_zero]))) ⟨i+1,rfl,⟨hlt,?_⟩,rfl⟩
         have hjc:j=(p.funcs.getD i default).code.length:=by omega
         subst hjc
         rw [W4,if_neg (fun q=>q hz),V3]
         unfold Y7
         rw [if_neg (by rw [U2 hb33];simp),if_neg (fun q=>q hb44),if_neg (fun q=>q hk)]
         exact if_pos (QC2 hl1 (by intro q1 q2;first|exact hb79|(simp_all;done))))
      | (have hlt:j<(p.funcs.getD i default).code.length:=by omega
         refine Z0 ((p.funcs.getD i default).code.length-(j+1)) _ (by omega) ((WS 4 rfl).trans (Qo (by simp only [QD hlt hcl,List.take_succ_cons,List.take_zero]))) ⟨j+1,rfl,⟨hlt,?_⟩,rfl⟩
         rw [wD p _ hlt,if_neg (fun q=>q hk)]
         exact hb60))
  | ((with_reducible first|refine ZQ ?_|refine ZP ?_)
     simp only [go_sem,QL,QM,QH,seval]
     first
      | (obtain ⟨e1,e2⟩:=QBg hs hc (by omega) hz (U2 hb33) hb44 (by omega) hk hb60
         exact ⟨⟨rfl,congrArg (fun e=>some (V.int e)) e1.symm⟩,⟨rfl,by rw [e2]⟩⟩)
      | (obtain ⟨e1,e2⟩:=QBe hs hc (by omega) hz (U2 hb33) hb44
         exact ⟨⟨rfl,congrArg (fun e=>some (V.int e)) e1.symm⟩,⟨rfl,by rw [e2]⟩⟩)
      | (obtain ⟨e1,e2⟩:=wF hs hc (by omega) hz (QBP hb33)
         exact ⟨⟨rfl,congrArg (fun e=>some (V.int e)) ((QDw hb33).trans e1.symm)⟩,⟨rfl,by rw [e2]⟩⟩)
      | (obtain ⟨e1,e2⟩:=QIV hb17
         exact ⟨⟨rfl,congrArg (fun e=>some (V.int e)) e1.symm⟩,⟨rfl,by rw [e2]⟩⟩)
      | (obtain ⟨e1,e2⟩:=QBf hs hc (by omega) hz (U2 hb33) hb44 ((show j=(p.funcs.getD i default).code.length by omega)▸hk) (QFc hl1 (by simp_all))
         exact ⟨⟨rfl,congrArg (fun e=>some (V.int e)) e1.symm⟩,⟨rfl,by rw [e2,show (((p.funcs.getD i default).code.length-1:Nat):Int)=((p.funcs.getD i default).code.length:Int)-1 by omega]⟩⟩)
      | (obtain ⟨e1,e2⟩:=QF0 hs hc ((show i=p.funcs.length by omega)▸hz)
         exact ⟨⟨rfl,congrArg (fun e=>some (V.int e)) e1.symm⟩,⟨rfl,by rw [e2]⟩⟩))
def QTU:List (List Nat):=[[1],[3],[2]]
theorem Vt (p:Prg) (hp:p.Fit):Ctr Go.Proofs.Tryz.prog tab 86 [26] [4] [p.v] [.bool (QN p)]:=by
 refine Ctr.body ok Go.Proofs.Tryz.func86 rfl rfl 12 rfl [.tmp 2] rfl (by simp [QF]) ?_
 simp only [go_sem,Nat.reduceAdd]
 repeat' first
  | ((with_reducible refine Q5 fun R1 hR1=>?_);(simp only [go_sem,seval,-List.reduceReplicate,Xv,z93,z3]);(repeat' with_reducible refine And.intro ?_ ?_);all_goals first|(refine hR1 _ ?_;clear hR1 R1)|((first|refine ce (cf (Vx p hp) ?_));all_goals ((try simp only [go_sem,seval,-List.reduceReplicate,Xv,z93,z3]);(repeat' with_reducible refine And.intro ?_ ?_);all_goals first|(refine hR1 _ ?_;clear hR1 R1)|exact Vz))|exact Vz)
  | ((with_reducible refine Q4 ?_);refine hR _ ?_;clear hR R;try simp only [go_sem,QTU,Nat.reduceBEq])
  | (with_reducible first|refine J1 ?_|refine J2 ?_|refine Q2 ?_|refine Q1 ?_)
  | ((with_reducible refine rg QTU fun R hR=>?_);simp only [go_sem,QC])
  | ((with_reducible first|refine ZQ ?_|refine ZP ?_)
     simp only [go_sem,QL,QM,QH,seval]
     exact ⟨rfl,rfl⟩)
def QOd:List (List Nat):=[[0,1],[1,5],[1,5,6],[4],[1,5,10],[4],[1,5,18],[4],[1,5,26],[4],[1,5,34],[4],[1,5,38],[4],[1,5,42],[4],[1,46],[4],[4]]
theorem QHj (why op:Int):Ctr Go.Proofs.Tryz.prog tab 169 [3,58] [4] [.int why,.int op] [.bool (ZV op why)]:=by
 refine Ctr.body ok Go.Proofs.Tryz.func169 rfl rfl 50 rfl [.tmp 4] rfl (by simp [QF]) ?_
 simp only [go_sem,Nat.reduceAdd]
 repeat' first
  | ((with_reducible refine Q5 fun R1 hR1=>?_);(simp only [go_sem,seval,-List.reduceReplicate,Bool.cond_false_right,Bool.cond_true_left]);(repeat' with_reducible refine And.intro ?_ ?_);all_goals first|(refine hR1 _ ?_;clear hR1 R1)|exact ob3)
  | ((with_reducible refine Q4 ?_);refine hR _ ?_;clear hR R;try simp only [go_sem,QOd,Nat.reduceBEq])
  | (with_reducible first|refine J1 ?_|refine J2 ?_|refine J3 ?_|refine J4 ?_|refine J5 ?_|refine J6 ?_|refine J7 ?_|refine J8 (by decide) ?_|refine J9 ?_|refine Q2 ?_|refine Q1 ?_|refine Yc ?_)
  | ((with_reducible refine rg QOd fun R hR=>?_);simp only [go_sem,QC])
  | ((with_reducible refine SA.cond rfl ?_ ?_)
     all_goals
      intro hb
      try simp [-List.getD_eq_getElem?_getD] at hb
      try (exfalso;omega))
  | ((with_reducible first|refine ZQ ?_|refine ZP ?_)
     simp only [go_sem,QL,QM,QH,seval]
     refine ⟨rfl,?_⟩
     first|(subst_vars;rfl)|(subst_vars;simp [ZV];done)|(simp_all [ZV];done))
def QO3:List (List Nat):=[[2,3],[2,3,30],[4],[3,5],[3,5,47],[4],[3,5,6],[3,5,6,57,58],[3,5,6,57,58,59],[3,5,6,7,8,57,58],[3,5,6,57,58,72],[4],[3,5,6,57,58],[3,9],[3,9,82],[3,9,82,83],[4],[3,9,82,89],[4],[3,9,98],[4],[4]]
theorem QFj (p:Prg) (g:Gor) (hp:p.Fit) (h8:g.regs.length=8):Ctr Go.Proofs.Tryz.prog tab 125 [26,44] [4] [p.v,g.v] [.bool (U0 p g)]:=by
 have hfit:=hp
 have hcode:=p.code_len hp
 have hsl:=p.sels_len hp
 obtain ⟨hp1,hp2,hp3,hp4⟩:=hp
 refine Ctr.body ok Go.Proofs.Tryz.func125 rfl rfl 110 rfl [.tmp 4] rfl (by simp [QF]) ?_
 simp only [go_sem,Nat.reduceAdd]
 repeat' first
  | ((with_reducible refine SARA.told 3 5 ?_)
     rw [XM (by omega)])
  | ((with_reducible refine SARA.told 13 5 ?_)
     rw [Zx (by omega)])
  | ((with_reducible refine Q5 fun R1 hR1=>?_);(simp only [go_sem,seval,-List.reduceReplicate,Bool.cond_false_right,Bool.cond_true_left]);(repeat' with_reducible refine And.intro ?_ ?_);all_goals first|(refine hR1 _ ?_;clear hR1 R1)|((first|refine cq (cc (QHj _ _)) ?_|refine Y4 (fun hg=>cc (QHj _ _)) ?_|refine cq (cc (qO _)) ?_|refine Y4 (fun hg=>cc (qO _)) ?_);all_goals ((try simp only [go_sem,seval,-List.reduceReplicate,Bool.cond_false_right,Bool.cond_true_left]);(repeat' with_reducible refine And.intro ?_ ?_);all_goals first|(refine hR1 _ ?_;clear hR1 R1)|exact Zp))|exact Zp)
  | ((with_reducible refine Q4 ?_);refine hR _ ?_;clear hR R;try simp only [go_sem,QO3,Nat.reduceBEq])
  | (with_reducible first|refine J1 ?_|refine J2 ?_|refine J3 ?_|refine J4 ?_|refine J5 ?_|refine J6 ?_|refine J7 ?_|refine J8 (by decide) ?_|refine J9 ?_|refine Xu ?_|refine Q2 ?_|refine Q1 ?_|refine Yc ?_|refine Xt ?_)
  | ((with_reducible refine rg QO3 fun R hR=>?_);simp only [go_sem,QC])
  | ((with_reducible refine QI 30 rfl (fun hb30=>?_) fun hb30=>?_);all_goals (try simp [-List.getD_eq_getElem?_getD] at hb30;try (exfalso;omega)))
  | ((with_reducible refine QI 47 rfl (fun hb47=>?_) fun hb47=>?_);all_goals (try simp [-List.getD_eq_getElem?_getD] at hb47;try (exfalso;omega)))
  | ((with_reducible refine QI 59 rfl (fun hb59=>?_) fun hb59=>?_);all_goals (try simp [-List.getD_eq_getElem?_getD] at hb59;try (exfalso;omega)))
  | ((with_reducible refine QI 72 rfl (fun hb72=>?_) fun hb72=>?_);all_goals (try simp [-List.getD_eq_getElem?_getD] at hb72;try (exfalso;omega)))
  | ((with_reducible refine QI 83 rfl (fun hb83=>?_) fun hb83=>?_);all_goals (try simp [-List.getD_eq_getElem?_getD] at hb83;try (exfalso;omega)))
  | ((with_reducible refine QI 89 rfl (fun hb89=>?_) fun hb89=>?_);all_goals (try simp [-List.getD_eq_getElem?_getD] at hb89;try (exfalso;omega)))
  | ((with_reducible refine QI 98 rfl (fun hb98=>?_) fun hb98=>?_);all_goals (try simp [-List.getD_eq_getElem?_getD] at hb98;try (exfalso;omega)))
  | ((with_reducible refine Ya ?_)
     refine Zv (Qo (by first|rfl|(simp;done)|fail)) (Yb (fun n τ=>∃ (j:Nat),n=8-j∧(j≤8∧∀ k:Nat,k<j→U1 p g≤(k:Int)→g.regs.getD k 0=0)∧τ={ tm:=[(3,true,.ptr 1 [] 44),(5,true,.ptr 2 [] 108),(6,true,.bool (decide (g.status=3)||decide (g.status=4))),(57,true,.data 37 (.agg (g.regs.map V.int))),(58,true,.int .i64 j)],ob:=[.var 26 (.data 26 p.v),.var 44 (.data 44 g.v),.var 108 (.data 108 (p.funcs.getD g.func.toNat default).v)],out:=[],nt:=110 }) (8) ⟨0,rfl,⟨by omega,fun k h=>by omega⟩,rfl⟩ ?_)
     rintro n τ ⟨j,hn,⟨hj,hz⟩,rfl⟩)
  | ((with_reducible refine WC ?_)
     first
      | (have hlt:j<8:=by omega
         have hw:=QD (n:=j) (m:=8) hlt (by decide)
         refine Z0 (8-(j+1)) _ (by omega) (Qo (by simp only [hw])) ⟨j+1,rfl,⟨hlt,fun k h1 h2=>?_⟩,rfl⟩
         by_cases h3:k<j
         · exact hz k h3 h2
         · have h4:k=j:=by omega
           subst h4
           rw [QH4] at h2
           by_cases q:g.regs.getD k 0=0
           · exact q
           · have:=hb72 q
             split at h2<;>omega))
  | ((with_reducible first|refine ZQ ?_|refine ZP ?_)
     simp only [go_sem,QL,QM,QH,seval]
     first
      | (have q:((_∨_)∨_)∨_:=hb30
         refine ⟨rfl,?_⟩
         rw [UM (by unfold qs;omega)])
      | (have q:_∨_:=hb47
         refine ⟨rfl,?_⟩
         rw [UM (by unfold qs;omega)])
      | (have q:_∧_:=hb72
         refine ⟨rfl,?_⟩
         rw [VE (by unfold qs;omega),QE9 (i:=(j:Int)) (by rw [QH4];split<;>omega) (by omega) (by omega) (by simpa using hb72.1),if_pos rfl])
      | (have hj8:j=8:=by omega
         subst hj8
         refine ⟨rfl,?_⟩
         rw [VE (by unfold qs;omega),Ut (fun k q1 q2=>hz k (by omega) q1),if_neg (by simp)]
         rw [if_pos hb83])
      | (have hj8:j=8:=by omega
         subst hj8
         refine ⟨rfl,?_⟩
         rw [VE (by unfold qs;omega),Ut (fun k q1 q2=>hz k (by omega) q1),if_neg (by simp)]
         rw [if_neg hb83]
         first|(simp [-List.getD_eq_getElem?_getD,hb89];done)|(simp [-List.getD_eq_getElem?_getD,hb89,hb98];done)))
def QLK:List (List Nat):=[[2,3,4,5],[2,3,4,5,25],[8],[3,9],[8]]
theorem zz (p:Prg) (s:Stt) (g c:Int) (hp:p.Fit) (hs:s.Shape) (hcnt:s.count≤6) (hgs:Yx p s 6=true):Ctr Go.Proofs.Tryz.prog tab 170 [26,47,3,3] [4] [p.v,s.v,.int g,.int c] [.bool (yu p s g c)]:=by
 have hfit:=hp
 have hcode:=p.code_len hp
 have hsl:=p.sels_len hp
 obtain ⟨hp1,hp2,hp3,hp4⟩:=hp
 have hs5:=hs.gos
 refine Ctr.body ok Go.Proofs.Tryz.func170 rfl rfl 52 rfl [.tmp 8] rfl (by simp [QF]) ?_
 simp only [go_sem,Nat.reduceAdd]
 repeat' first
  | ((with_reducible refine SART.told 3 16 ?_)
     rw [Zx (by omega)])
  | ((with_reducible first|refine Q5 fun R1 hR1=>?_|refine qz fun R1 hR1=>?_|refine qy fun R1 hR1=>?_|refine qx fun R1 hR1=>?_);(simp only [go_sem,seval,-List.reduceReplicate,Bool.cond_false_right,Bool.cond_true_left]);(repeat' with_reducible refine And.intro ?_ ?_);all_goals first|(refine hR1 _ ?_;clear hR1 R1)|(intro hgf;simp only [hgf];refine hR1 _ ?_;clear hR1 R1)|exact Zp)
  | ((with_reducible first|refine qw ?_|refine Q4 ?_);refine hR _ ?_;clear hR R;try simp only [go_sem,QLK,Nat.reduceBEq])
  | (with_reducible first|refine qv ?_ ?_|exact qu|refine qt ?_ ?_)
  | (with_reducible first|refine J1 ?_|refine J2 ?_|refine J3 ?_|refine Q2 ?_|refine Q1 ?_)
  | ((with_reducible refine Qe 3 ?_)
     have hG:=QAE (yQ hgs (i:=g) (by omega) (by omega) (by omega))
     unfold qs at hG
     refine WT ok QQ (.take 0 (.take 1 (.take 2 (.take 3 (.take 4 (.take 5 (.take 6 (.take 7 (.take 8 (.take 9 (.take 10 (.take 11 (.take 12 (.take 13 (.take 14 (.take 15 (.take 16 (.br 17 (.br 18 .done .nil) .nil)))))))))))))))))) [18] QLK (by kernel_rfl) (fun R hR=>?_);simp only [go_sem,QC])
  | ((with_reducible refine rg QLK fun R hR=>?_);simp only [go_sem,QC])
  | ((with_reducible refine QI 25 rfl (fun hb25=>?_) fun hb25=>?_);all_goals (try simp [-List.getD_eq_getElem?_getD] at hb25;try (exfalso;omega)))
  | ((with_reducible first|refine ZQ ?_|refine ZP ?_)
     simp only [go_sem,QL,QM,QH,seval]
     first
      | (have q:_∨_:=hb25
         refine ⟨rfl,?_⟩
         unfold yu
         rw [if_pos (or_assoc.1 hb25)])
      | (refine ⟨rfl,?_⟩
         unfold yu
         rw [if_neg (by omega)]))
def QHt:List (List Nat):=[[2,3,4],[2,3,4,7],[2,3,4,7,49],[6],[2,3,4,7,53,54,55],[2,3,4,7,53,54,55,56],[2,3,4,7,9,53,54,55],[2,3,4,7,53,54,55,60],[6],[2,3,4,7,53,54,55],[2,3,4,7,63],[2,3,4,7,63,64],[6],[2,3,4,7,63,74],[6],[2,3,4,7,87],[6],[6]]
theorem xk (p:Prg) (s:Stt) (m:Int) (hp:p.Fit) (hr:QN p=true) (hm:0≤m∧m<p.chans.length) (hs:s.Shape) (hcnt:s.count≤6) (hgs:Yx p s 6=true):Ctr Go.Proofs.Tryz.prog tab 126 [26,47,3] [4] [p.v,s.v,.int m] [.bool (Wv p s m)]:=by
 have hpp:=hp
 have hfit:=hp
 have hcode:=p.code_len hp
 have hsl:=p.sels_len hp
 obtain ⟨hp1,hp2,hp3,hp4⟩:=hp
 have hok:=Prg.ok hr
 have hcap:=hok.caps m.toNat
 have h4:p.chans.length≤4:=by
  have:=hok.sizes
  unfold Zz at this
  omega
 have hs3:=hs.chans
 have hb4:(s.chans.getD m.toNat default).buf.length=4:=hs.bufs _ (Qj _ (by omega))
 refine Ctr.body ok Go.Proofs.Tryz.func126 rfl rfl 115 rfl [.tmp 6] rfl (by simp [QF]) ?_
 simp only [go_sem,Nat.reduceAdd]
 repeat' first
  | ((with_reducible refine SARA.told 1 4 ?_)
     rw [Zl (by omega)])
  | ((with_reducible refine SARA.told 4 4 ?_)
     rw [QL8 _ hb4]
     have hdl:((s.chans.getD m.toNat default).buf.drop (s.chans.getD m.toNat default).len.toNat).length≤maxLen:=by rw [List.length_drop,hb4];unfold maxLen;omega
     have hd4:((s.chans.getD m.toNat default).buf.drop (s.chans.getD m.toNat default).len.toNat).length=4-(s.chans.getD m.toNat default).len.toNat:=by rw [List.length_drop,hb4])
  | ((with_reducible first|refine Q5 fun R1 hR1=>?_|refine yb fun R1 hR1=>?_);(simp only [go_sem,seval,-List.reduceReplicate,Bool.cond_false_right,Bool.cond_true_left]);(repeat' with_reducible refine And.intro ?_ ?_);all_goals first|(refine hR1 _ ?_;clear hR1 R1)|(intro hgf;simp only [hgf];refine hR1 _ ?_;clear hR1 R1)|((first|refine V4 (cc (zz p s _ _ hpp hs hcnt hgs)) ?_|refine wB (fun hg=>cc (zz p s _ _ hpp hs hcnt hgs)) ?_|refine cq (cc (zz p s _ _ hpp hs hcnt hgs)) ?_|refine Y4 (fun hg=>cc (zz p s _ _ hpp hs hcnt hgs)) ?_);all_goals ((try simp only [go_sem,seval,-List.reduceReplicate,Bool.cond_false_right,Bool.cond_true_left]);(repeat' with_reducible refine And.intro ?_ ?_);all_goals first|(refine hR1 _ ?_;clear hR1 R1)|(intro hgf;simp only [hgf];refine hR1 _ ?_;clear hR1 R1)|exact Zp))|exact Zp)
  | ((with_reducible first|refine Q4 ?_|refine ya ?_);refine hR _ ?_;clear hR R;try simp only [go_sem,QHt,Nat.reduceBEq])
  | (with_reducible first|refine J1 ?_|refine J2 ?_|refine J3 ?_|refine J4 ?_|refine J5 ?_|refine J6 ?_|refine J7 ?_|refine J8 (by decide) ?_|refine J9 ?_|refine Xu ?_|refine Q2 ?_|refine Q1 ?_|refine Yc ?_|refine Xt ?_)
  | ((with_reducible refine Qe 4 ?_)
     refine Zv (St.le.frz ok.sized 2 rfl) ?_
     simp only [St.frz,Tm.frz,E.frz,E.frzL,Obj.frz,List.map_cons,List.map_nil,List.set_cons_zero,List.set_cons_succ,Nat.reduceBEq,Nat.beq_refl,if_true,if_false,Nat.beq_eq_true_eq,reduceCtorEq,Bool.false_eq_true,V.get,Nat.reduceEqDiff]
     (with_reducible refine rg QHt fun R hR=>?_);simp only [go_sem,QC])
  | ((with_reducible refine rg QHt fun R hR=>?_);simp only [go_sem,QC])
  | ((with_reducible refine Ve ok QQ (by kernel_rfl) (by kernel_rfl) QHt ?_);intro R hR;simp only [go_sem,QC])
  | ((with_reducible refine QI 49 rfl (fun hb49=>?_) fun hb49=>?_);all_goals (try simp [-List.getD_eq_getElem?_getD] at hb49;try (exfalso;omega)))
  | ((with_reducible refine QI 56 rfl (fun hb56=>?_) fun hb56=>?_);all_goals (try simp [-List.getD_eq_getElem?_getD] at hb56;try (exfalso;omega)))
  | ((with_reducible refine QI 60 rfl (fun hb60=>?_) fun hb60=>?_);all_goals (try simp [-List.getD_eq_getElem?_getD] at hb60;try (exfalso;omega)))
  | ((with_reducible refine QI 64 rfl (fun hb64=>?_) fun hb64=>?_);all_goals (try simp [-List.getD_eq_getElem?_getD] at hb64;try (exfalso;omega)))
  | ((with_reducible refine QI 74 rfl (fun hb74=>?_) fun hb74=>?_);all_goals (try simp [-List.getD_eq_getElem?_getD] at hb74;try (exfalso;omega)))
  | ((with_reducible refine QI 87 rfl (fun hb87=>?_) fun hb87=>?_);all_goals (try simp [-List.getD_eq_getElem?_getD] at hb87;try (exfalso;omega)))
  | ((with_reducible refine Ya ?_)
     refine Zv (Qo (by first|rfl|(simp;done))) (Yb (fun n τ=>∃ (j:Nat),n=((s.chans.getD m.toNat default).buf.drop (s.chans.getD m.toNat default).len.toNat).length-j∧(j≤((s.chans.getD m.toNat default).buf.drop (s.chans.getD m.toNat default).len.toNat).length∧∀ k:Nat,k<j→((s.chans.getD m.toNat default).buf.drop (s.chans.getD m.toNat default).len.toNat).getD k 0=0)∧τ={ tm:=[(2,true,.int .i64 m),(3,true,.ptr 0 [] 26),(4,true,.ptr 1 [] 47),(7,true,.fptr 41 (s.chans.getD m.toNat default).v),(53,true,.fs 2 (((s.chans.getD m.toNat default).buf.drop (s.chans.getD m.toNat default).len.toNat).map V.int) true),(54,true,.int .i64 ((s.chans.getD m.toNat default).buf.drop (s.chans.getD m.toNat default).len.toNat).length),(55,true,.int .i64 j)],ob:=[.var 26 (.data 26 p.v),.var 47 (.data 47 s.v),.dead],out:=[],nt:=115 }) (((s.chans.getD m.toNat default).buf.drop (s.chans.getD m.toNat default).len.toNat).length) ⟨0,rfl,⟨by omega,fun k h=>by omega⟩,rfl⟩ ?_)
     rintro n τ ⟨j,hn,⟨hj,hz⟩,rfl⟩)
  | ((with_reducible refine WC ?_)
     first
      | (have hlt:j<((s.chans.getD m.toNat default).buf.drop (s.chans.getD m.toNat default).len.toNat).length:=by omega
         have hw:=QD (n:=j) (m:=256) (by omega) (by decide)
         refine Z0 (((s.chans.getD m.toNat default).buf.drop (s.chans.getD m.toNat default).len.toNat).length-(j+1)) _ (by omega) (Qo (by simp only [hw])) ⟨j+1,rfl,⟨hlt,fun k h1=>?_⟩,rfl⟩
         by_cases h3:k<j
         · exact hz k h3
         · have h4:k=j:=by omega
           rw [h4];exact hb60))
  | ((with_reducible first|refine ZQ ?_|refine ZP ?_)
     simp only [go_sem,QL,QM,QH,seval]
     first
      | (have q:(((_∨_)∨_)∨_)∨_:=hb49
         refine ⟨rfl,?_⟩
         rw [Y0,if_pos (by omega)])
      | (have q:¬_:=hb60
         refine ⟨rfl,?_⟩
         rw [x9] at hb60
         rw [Y0,if_neg (by omega),QIH (i:=(((s.chans.getD m.toNat default).len.toNat+j:Nat):Int)) (by omega) (by omega) (by omega) (by rw [Int.toNat_natCast];exact hb60),if_pos rfl])
      | (have hj4:((s.chans.getD m.toNat default).buf.drop (s.chans.getD m.toNat default).len.toNat).length=j:=by omega
         refine ⟨rfl,?_⟩
         rw [yX (by omega) (Wg (fun k q1 q2=>by
          have:=hz (k-(s.chans.getD m.toNat default).len.toNat) (by omega)
          rw [x9,show (s.chans.getD m.toNat default).len.toNat+(k-(s.chans.getD m.toNat default).len.toNat)=k by omega] at this
          exact this))]
         rw [if_pos hb64])
      | (have hj4:((s.chans.getD m.toNat default).buf.drop (s.chans.getD m.toNat default).len.toNat).length=j:=by omega
         refine ⟨rfl,?_⟩
         rw [yX (by omega) (Wg (fun k q1 q2=>by
          have:=hz (k-(s.chans.getD m.toNat default).len.toNat) (by omega)
          rw [x9,show (s.chans.getD m.toNat default).len.toNat+(k-(s.chans.getD m.toNat default).len.toNat)=k by omega] at this
          exact this))]
         rw [if_neg hb64,if_pos hb74])
      | (have hj4:((s.chans.getD m.toNat default).buf.drop (s.chans.getD m.toNat default).len.toNat).length=j:=by omega
         refine ⟨rfl,?_⟩
         rw [yX (by omega) (Wg (fun k q1 q2=>by
          have:=hz (k-(s.chans.getD m.toNat default).len.toNat) (by omega)
          rw [x9,show (s.chans.getD m.toNat default).len.toNat+(k-(s.chans.getD m.toNat default).len.toNat)=k by omega] at this
          exact this))]
         rw [if_neg hb64,if_neg hb74,if_pos hb87])
      | (have hj4:((s.chans.getD m.toNat default).buf.drop (s.chans.getD m.toNat default).len.toNat).length=j:=by omega
         refine ⟨rfl,?_⟩
         rw [yX (by omega) (Wg (fun k q1 q2=>by
          have:=hz (k-(s.chans.getD m.toNat default).len.toNat) (by omega)
          rw [x9,show (s.chans.getD m.toNat default).len.toNat+(k-(s.chans.getD m.toNat default).len.toNat)=k by omega] at this
          exact this))]
         rw [if_neg hb64,if_neg hb74,if_neg hb87]))
def QK7:List (List Nat):=[[2,3],[2,3,28],[4],[2,3,30,31],[2,3,30,31,32],[2,3,5,6,30,31],[2,3,30,31,43],[4],[2,3,30,31],[2,3,46,47],[2,3,46,47,48],[2,3,7,8,46,47],[2,3,46,47,68],[4],[2,3,46,47],[2,3,71,72],[2,3,71,72,73],[2,3,9,10,71,72],[2,3,71,72,96],[4],[2,3,71,72],[2,3,11],[2,3,11,100,101],[2,3,11,100,101,102],[2,3,11,12,13,100,101],[2,3,11,12,13,100,101,109],[2,3,11,100,101,112],[4],[2,3,11,13,100,101,117],[4],[2,3,11,13,100,101,120],[2,3,11,100,101],[2,3,11,100,101],[11,129,130],[11,129,130,131],[11,14,15,129,130],[11,129,130,142],[4],[11,129,130],[4]]
end Go.Eng.Tryz
