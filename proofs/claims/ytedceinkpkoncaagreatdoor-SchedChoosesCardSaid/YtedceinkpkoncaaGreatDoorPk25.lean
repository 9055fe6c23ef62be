/- A part of the proof: walks through the program's functions, and what they compute. -/
import Derived.Test.YtedceinkpkoncaaGreatDoorPk24
set_option linter.unusedSimpArgs false
set_option linter.unusedVariables false
namespace Go.Eng.Tryz
open Go.RowKit Go.Eng
set_option maxHeartbeats 0
set_option maxRecDepth 20000
theorem QHd (p:Prg) (hp:p.Fit):Ctr Go.Proofs.Tryz.prog tab 70 [26] [3,142] [p.v] [.int (Yk p),.agg [.int (Wx p).1,.int (Wx p).2]]:=by
 have hpf:=hp
 obtain ⟨hp1,hp2,hp3,hp4⟩:=hp
 refine Ctr.body ok Go.Proofs.Tryz.func70 rfl rfl 128 rfl [.tmp 2,.cell 3 142] rfl (by simp [QE]) ?_
 simp only [go_sem,Nat.reduceAdd]
 repeat' first
  | ((with_reducible refine SARA.told 11 2 ?_)
     rw [XB (by omega)])
  | ((with_reducible refine SARA.told 19 2 ?_)
     rw [Zn (by omega)])
  | ((with_reducible refine SARA.told 24 6 ?_)
     have e1:IntKind.i64.wrap (((p.funcs.getD i default).code.length:Int)-1)=(((p.funcs.getD i default).code.length-1:Nat):Int):=by rw [QU (by unfold maxLen at hcl;omega) (by unfold maxLen at hcl;omega)];omega
     rw [e1])
  | ((with_reducible refine SARA.told 24 7 ?_)
     rw [Zn (by omega)])
  | ((with_reducible refine SART.told 26 4 ?_)
     have e1:IntKind.i64.wrap (((p.funcs.getD i default).code.length:Int)-1)=((p.funcs.getD i default).code.length:Int)-1:=QU (by unfold maxLen at hcl;omega) (by unfold maxLen at hcl;omega)
     rw [e1])
  | ((with_reducible first|refine Q2 fun R1 hR1=>?_|refine qR fun R1 hR1=>?_|refine qQ fun R1 hR1=>?_|refine qP fun R1 hR1=>?_);(simp only [go_sem,seval,-List.reduceReplicate,YG,UF,z3,YG,UF,z3]);(repeat' with_reducible refine And.intro ?_ ?_);all_goals first|(refine hR1 _ ?_;clear hR1 R1)|((first|refine cq (cc (QFI _ _ hfi)) ?_|refine cq (cc (QDo p _ hpf hfi)) ?_|refine cq (cc (QHN p _ _ hpf hfi)) ?_);all_goals ((try simp only [go_sem,seval,-List.reduceReplicate,YG,UF,z3,YG,UF,z3]);(repeat' with_reducible refine And.intro ?_ ?_);all_goals first|(refine hR1 _ ?_;clear hR1 R1)|omega|rfl|decide|assumption|(intro _;omega)|(simp;done)|(simp;omega)|(simp [QQ,maxLen]<;>omega)))|omega|rfl|decide|assumption|(intro _;omega)|(simp;done)|(simp;omega)|(simp [QQ,maxLen]<;>omega))
  | ((with_reducible first|refine qO ?_|refine Q1 ?_);refine hR _ ?_;clear hR R;try simp only [go_sem,QHD,Nat.reduceBEq])
  | (with_reducible first|refine qN ?_ ?_|exact qM|refine qL ?_ ?_)
  | (with_reducible first|refine J1 ?_|refine J2 ?_|refine J3 ?_|refine J4 ?_|refine J5 ?_|refine J6 ?_|refine J7 ?_|refine J8 (by decide) ?_|refine J9 ?_|refine WL ?_|refine Q0 ?_|refine Qz ?_|refine YZ ?_|refine WK ?_)
  | ((with_reducible refine QZ 11 ?_)
     have hfi:=hp4 (p.funcs.getD i default) (Qn _ (by omega))
     (with_reducible refine rg QHD fun R hR=>?_);simp only [go_sem,QC])
  | ((with_reducible refine QZ 17 ?_)
     have hcl:=hfi.1
     (with_reducible refine rg QHD fun R hR=>?_);simp only [go_sem,QC])
  | ((with_reducible refine QZ 24 ?_)
     obtain ⟨hl0,hl1,hl2,hl3⟩:=Xz hb71
     (with_reducible refine rg QHD fun R hR=>?_);simp only [go_sem,QC])
  | ((with_reducible refine QZ 26 ?_)
     refine WJ ok QN (.take 0 (.take 1 (.take 2 (.take 3 (.take 4 (.take 5 (.take 6 (.br 7 .done .nil)))))))) [7] QHD (by kernel_rfl) (fun R hR=>?_);simp only [go_sem,QC])
  | ((with_reducible refine rg QHD fun R hR=>?_);simp only [go_sem,QC])
  | ((with_reducible refine QH 43 rfl (fun hb43=>?_) fun hb43=>?_);all_goals (try simp [-List.getD_eq_getElem?_getD] at hb43;try (exfalso;omega)))
  | ((with_reducible refine QH 49 rfl (fun hb49=>?_) fun hb49=>?_);all_goals (try simp [-List.getD_eq_getElem?_getD] at hb49;try (exfalso;omega)))
  | ((with_reducible refine QH 57 rfl (fun hb57=>?_) fun hb57=>?_);all_goals (try simp [-List.getD_eq_getElem?_getD] at hb57;try (exfalso;omega)))
  | ((with_reducible refine QH 64 rfl (fun hb64=>?_) fun hb64=>?_);all_goals (try simp [-List.getD_eq_getElem?_getD] at hb64;try (exfalso;omega)))
  | ((with_reducible refine QH 71 rfl (fun hb71=>?_) fun hb71=>?_);all_goals (try simp [-List.getD_eq_getElem?_getD] at hb71;try (exfalso;omega)))
  | ((with_reducible refine QH 78 rfl (fun hb78=>?_) fun hb78=>?_);all_goals (try simp [-List.getD_eq_getElem?_getD] at hb78;try (exfalso;omega)))
  | ((with_reducible refine QH 86 rfl (fun hb86=>?_) fun hb86=>?_);all_goals (try simp [-List.getD_eq_getElem?_getD] at hb86;try (exfalso;omega)))
  | ((with_reducible refine QH 95 rfl (fun hb95=>?_) fun hb95=>?_);all_goals (try simp [-List.getD_eq_getElem?_getD] at hb95;try (exfalso;omega)))
  | ((with_reducible refine QH 119 rfl (fun hb119=>?_) fun hb119=>?_);all_goals (try simp [-List.getD_eq_getElem?_getD] at hb119;try (exfalso;omega)))
  | ((with_reducible refine YQ ?_)
     refine Zo (Qq (by first|rfl|(simp;done)|fail)) (YR (fun n τ=>∃ (i:Nat),n=p.chans.length-i∧(i≤p.chans.length∧Ze p∧Zr p i=true)∧τ={ tm:=[(1,true,.ptr 0 [] 26),(3,true,.ptr 1 [] 142),(46,true,.fs 3 (p.chans.map V.int) false),(47,true,.int .i64 p.chans.length),(48,true,.int .i64 i)],ob:=[.var 26 (.data 26 p.v),.var 142 (.data 142 (.agg [.int 0,.int 0]))],out:=[],nt:=128 }) (p.chans.length) ⟨0,rfl,⟨by omega,by unfold Ze;omega,rfl⟩,rfl⟩ ?_)
     rintro n τ ⟨i,hn,⟨hi,hs,hc⟩,rfl⟩)
  | ((with_reducible refine YQ ?_)
     refine Zo (Qq (by first|rfl|(simp;done)|fail)) (YR (fun n τ=>∃ (i:Nat),n=p.funcs.length-i∧(i≤p.funcs.length∧Ze p∧Zr p p.chans.length=true∧Zw p i=0)∧τ={ tm:=[(1,true,.ptr 0 [] 26),(3,true,.ptr 1 [] 142),(61,true,.fs 121 (p.funcs.map Fnc.v) false),(62,true,.int .i64 p.funcs.length),(63,true,.int .i64 i)],ob:=[.var 26 (.data 26 p.v),.var 142 (.data 142 (.agg [.int 0,.int 0]))],out:=[],nt:=128 }) (p.funcs.length) ⟨0,rfl,⟨by omega,hs,(show i=p.chans.length by omega)▸hc,rfl⟩,rfl⟩ ?_)
     rintro n τ ⟨i,hn,⟨hi,hs,hc,hz⟩,rfl⟩)
  | ((with_reducible refine YQ ?_)
     refine Zo (Qq (by first|rfl|(simp;done)|fail)) (YR (fun n τ=>∃ (j:Nat),n=(p.funcs.getD i default).code.length-j∧(j≤(p.funcs.getD i default).code.length∧Yx p (p.funcs.getD i default) j=0)∧τ={ tm:=[(1,true,.ptr 0 [] 26),(3,true,.ptr 1 [] 142),(6,true,.int .i64 i),(7,true,.ptr 2 [] 121),(61,true,.fs 121 (p.funcs.map Fnc.v) false),(62,true,.int .i64 p.funcs.length),(63,true,.int .i64 i),(83,true,.fs 129 ((p.funcs.getD i default).code.map Instr.v) false),(84,true,.int .i64 (p.funcs.getD i default).code.length),(85,true,.int .i64 j)],ob:=[.var 26 (.data 26 p.v),.var 142 (.data 142 (.agg [.int 0,.int 0])),.var 121 (.data 121 (p.funcs.getD i default).v)],out:=[],nt:=128 }) ((p.funcs.getD i default).code.length) ⟨0,rfl,⟨by omega,rfl⟩,rfl⟩ ?_)
     rintro n τ ⟨j,hn,⟨hj,hk⟩,rfl⟩)
  | ((with_reducible refine WM ?_)
     first
      | (have hlt:i<p.chans.length:=by omega
         refine Zt (p.chans.length-(i+1)) _ (by omega) (Qq (by simp only [QD hlt hp2])) ⟨i+1,rfl,⟨hlt,hs,?_⟩,rfl⟩
         unfold Zr at hc ⊢
         rw [xM _ _ hlt,hc]
         simp only [Bool.true_and,Bool.and_eq_true,decide_eq_true_eq]
         exact hb57)
      | (have hlt:i<p.funcs.length:=by omega
         refine Zt (p.funcs.length-(i+1)) _ (by omega) ((WN 2 rfl).trans (Qq (by simp only [QD hlt hp3,List.take_succ_cons,List.take_zero]))) ⟨i+1,rfl,⟨hlt,hs,hc,?_⟩,rfl⟩
         have hjc:j=(p.funcs.getD i default).code.length:=by omega
         subst hjc
         rw [Wt,if_neg (fun q=>q hz),Vl]
         unfold Yv
         rw [if_neg (by rw [hb71];simp),if_neg (fun q=>q hb78),if_neg (fun q=>q hk)]
         exact if_pos (QBd hl1 hb119))
      | (have hlt:j<(p.funcs.getD i default).code.length:=by omega
         refine Zt ((p.funcs.getD i default).code.length-(j+1)) _ (by omega) ((WN 3 rfl).trans (Qq (by simp only [QD hlt hcl,List.take_succ_cons,List.take_zero]))) ⟨j+1,rfl,⟨hlt,?_⟩,rfl⟩
         rw [xE p _ hlt,if_neg (fun q=>q hk)]
         exact hb95))
  | ((with_reducible first|refine ZH ?_|refine ZG ?_)
     simp only [go_sem,QJ,QK,QG,seval]
     first
      | (obtain ⟨e1,e2⟩:=QAK hs hc (by omega) hz hb71 hb78 ((show j=(p.funcs.getD i default).code.length by omega)▸hk) (QEK hl1 hb119)
         exact ⟨⟨rfl,congrArg (fun e=>some (V.int e)) e1.symm⟩,⟨rfl,by rw [e2]⟩⟩)
      | (obtain ⟨e1,e2⟩:=QAL hs hc (by omega) hz hb71 hb78 (by omega) hk hb95
         exact ⟨⟨rfl,congrArg (fun e=>some (V.int e)) e1.symm⟩,⟨rfl,by rw [e2]⟩⟩)
      | (obtain ⟨e1,e2⟩:=QAJ hs hc (by omega) hz hb71 hb78
         exact ⟨⟨rfl,congrArg (fun e=>some (V.int e)) e1.symm⟩,⟨rfl,by rw [e2]⟩⟩)
      | (obtain ⟨e1,e2⟩:=xG hs hc (by omega) hz hb71
         exact ⟨⟨rfl,congrArg (fun e=>some (V.int e)) e1.symm⟩,⟨rfl,by rw [e2]⟩⟩)
      | (obtain ⟨e1,e2⟩:=QEY hs hc ((show i=p.funcs.length by omega)▸hz)
         exact ⟨⟨rfl,congrArg (fun e=>some (V.int e)) e1.symm⟩,⟨rfl,by rw [e2]⟩⟩)
      | (obtain ⟨e1,e2⟩:=QAM hs (QB3 (i:=i) (by omega) hb57)
         exact ⟨⟨rfl,congrArg (fun e=>some (V.int e)) e1.symm⟩,⟨rfl,by rw [e2]⟩⟩)
      | (obtain ⟨e1,e2⟩:=wT (p:=p) (by omega)
         exact ⟨⟨rfl,congrArg (fun e=>some (V.int e)) e1.symm⟩,⟨rfl,by rw [e2]⟩⟩))
def QQi:List (List Nat):=[[1],[3],[2]]
theorem YK (p:Prg) (hp:p.Fit):Ctr Go.Proofs.Tryz.prog tab 18 [26] [4] [p.v] [.bool (QP p)]:=by
 refine Ctr.body ok Go.Proofs.Tryz.func18 rfl rfl 12 rfl [.tmp 2] rfl (by simp [QE]) ?_
 simp only [go_sem,Nat.reduceAdd]
 repeat' first
  | ((with_reducible refine Q2 fun R1 hR1=>?_);(simp only [go_sem,seval,-List.reduceReplicate,YG,UF,z3,YG,UF,z3]);(repeat' with_reducible refine And.intro ?_ ?_);all_goals first|(refine hR1 _ ?_;clear hR1 R1)|((first|refine ce (cf (QHd p hp) ?_));all_goals ((try simp only [go_sem,seval,-List.reduceReplicate,YG,UF,z3,YG,UF,z3]);(repeat' with_reducible refine And.intro ?_ ?_);all_goals first|(refine hR1 _ ?_;clear hR1 R1)|omega|rfl|decide|assumption|(intro _;omega)|(simp;done)|(simp;omega)|(simp [QQ,maxLen]<;>omega)))|omega|rfl|decide|assumption|(intro _;omega)|(simp;done)|(simp;omega)|(simp [QQ,maxLen]<;>omega))
  | ((with_reducible refine Q1 ?_);refine hR _ ?_;clear hR R;try simp only [go_sem,QQi,Nat.reduceBEq])
  | (with_reducible first|refine J1 ?_|refine J2 ?_|refine Q0 ?_|refine Qz ?_)
  | ((with_reducible refine rg QQi fun R hR=>?_);simp only [go_sem,QC])
  | ((with_reducible first|refine ZH ?_|refine ZG ?_)
     simp only [go_sem,QJ,QK,QG,seval]
     exact ⟨rfl,rfl⟩)
end Go.Eng.Tryz
namespace Go.Eng.Tryz
open Go.RowKit Go.Eng
set_option maxHeartbeats 0
set_option maxRecDepth 20000
def QMc:List (List Nat):=[[0,1],[0,5],[0,5,6],[4],[0,5,10],[4],[0,5,18],[4],[0,5,26],[4],[0,5,34],[4],[0,5,38],[4],[0,5,42],[4],[0,46],[4],[4]]
theorem V9 (op why:Int):Ctr Go.Proofs.Tryz.prog tab 126 [3,3] [4] [.int op,.int why] [.bool (ZP op why)]:=by
 refine Ctr.body ok Go.Proofs.Tryz.func126 rfl rfl 50 rfl [.tmp 4] rfl (by simp [QE]) ?_
 simp only [go_sem,Nat.reduceAdd]
 repeat' first
  | ((with_reducible refine Q2 fun R1 hR1=>?_);(simp only [go_sem,seval,-List.reduceReplicate]);(repeat' with_reducible refine And.intro ?_ ?_);all_goals first|(refine hR1 _ ?_;clear hR1 R1)|omega|rfl|decide|assumption|(intro _;omega)|(simp;done)|(simp;omega))
  | ((with_reducible refine Q1 ?_);refine hR _ ?_;clear hR R;try simp only [go_sem,QMc,Nat.reduceBEq])
  | (with_reducible first|refine J1 ?_|refine J2 ?_|refine J3 ?_|refine J4 ?_|refine J5 ?_|refine J6 ?_|refine J7 ?_|refine J8 (by decide) ?_|refine J9 ?_|refine Q0 ?_|refine Qz ?_|refine YZ ?_)
  | ((with_reducible refine rg QMc fun R hR=>?_);simp only [go_sem,QC])
  | ((with_reducible refine QH 6 rfl (fun hb6=>?_) fun hb6=>?_);all_goals (try simp only [decide_eq_true_eq,decide_eq_false_iff_not] at hb6))
  | ((with_reducible refine QH 10 rfl (fun hb10=>?_) fun hb10=>?_);all_goals (try simp only [decide_eq_true_eq,decide_eq_false_iff_not] at hb10))
  | ((with_reducible refine QH 18 rfl (fun hb18=>?_) fun hb18=>?_);all_goals (try simp only [decide_eq_true_eq,decide_eq_false_iff_not] at hb18))
  | ((with_reducible refine QH 26 rfl (fun hb26=>?_) fun hb26=>?_);all_goals (try simp only [decide_eq_true_eq,decide_eq_false_iff_not] at hb26))
  | ((with_reducible refine QH 34 rfl (fun hb34=>?_) fun hb34=>?_);all_goals (try simp only [decide_eq_true_eq,decide_eq_false_iff_not] at hb34))
  | ((with_reducible refine QH 38 rfl (fun hb38=>?_) fun hb38=>?_);all_goals (try simp only [decide_eq_true_eq,decide_eq_false_iff_not] at hb38))
  | ((with_reducible refine QH 42 rfl (fun hb42=>?_) fun hb42=>?_);all_goals (try simp only [decide_eq_true_eq,decide_eq_false_iff_not] at hb42))
  | ((with_reducible refine QH 46 rfl (fun hb46=>?_) fun hb46=>?_);all_goals (try simp only [decide_eq_true_eq,decide_eq_false_iff_not] at hb46))
  | ((with_reducible first|refine ZH ?_|refine ZG ?_)
     simp only [go_sem,QJ,QK,QG,seval]
     refine ⟨rfl,?_⟩
     first|rfl|(simp [ZP, *];done)|(simp only [ZP, *];simp;cases decide (op=19)<;>rfl))
def QKs:List (List Nat):=[[2,3],[2,3,46],[4],[2,3,5],[2,3,5,61],[2,3,5],[2,3,6],[2,3,6,64],[2,3,6],[2,3,6,71],[4],[3,7],[3,7,86],[4],[4]]
theorem Wr (p:Prg) (g:Gor) (hp:p.Fit) (hr:QP p=true) (hg:g.regs.length=8):Ctr Go.Proofs.Tryz.prog tab 71 [26,34] [4] [p.v,g.v] [.bool (Ua p g)]:=by
 have hfit:=hp
 have hcode:=p.code_len hp
 have hsl:=p.sels_len hp
 obtain ⟨hp1,hp2,hp3,hp4⟩:=hp
 have hok:=Prg.ok hr
 have hM0:0≤Ub p g:=by
  unfold Ub
  split
  · exact Int.le_refl _
  · exact (hok.regs _).1
 refine Ctr.body ok Go.Proofs.Tryz.func71 rfl rfl 112 rfl [.tmp 4] rfl (by simp [QE]) ?_
 simp only [go_sem,Nat.reduceAdd]
 repeat' first
  | ((with_reducible first|refine Q2 fun R1 hR1=>?_|refine xP fun R1 hR1=>?_);(simp only [go_sem,seval,-List.reduceReplicate]);(repeat' with_reducible refine And.intro ?_ ?_);all_goals first|(refine hR1 _ ?_;clear hR1 R1)|((first|refine ⟨_,_,rfl,_,CallQ.ctr ok (V9 _ _) (by first|rfl|(simp [go_sem];done)|fail) rfl,?_⟩|refine ⟨_,_,rfl,_,fun hg=>CallQ.ctr ok (V9 _ _) (by first|rfl|(simp [go_sem];done)|fail) rfl,?_⟩|refine cq (cc (V9 _ _)) ?_|refine ⟨_,_,rfl,.inl ⟨_,fun hg=>CallQ.ctr ok (V9 _ _) (by first|rfl|(simp [go_sem];done)|fail) rfl,?_⟩⟩|refine ⟨_,_,rfl,_,CallQ.ctr ok (Xg _) (by first|rfl|(simp [go_sem];done)|fail) rfl,?_⟩|refine ⟨_,_,rfl,_,fun hg=>CallQ.ctr ok (Xg _) (by first|rfl|(simp [go_sem];done)|fail) rfl,?_⟩|refine cq (cc (Xg _)) ?_|refine ⟨_,_,rfl,.inl ⟨_,fun hg=>CallQ.ctr ok (Xg _) (by first|rfl|(simp [go_sem];done)|fail) rfl,?_⟩⟩);all_goals ((try simp only [go_sem,seval,-List.reduceReplicate]);(repeat' with_reducible refine And.intro ?_ ?_);all_goals first|(refine hR1 _ ?_;clear hR1 R1)|exact ZQ))|exact ZQ)
  | ((with_reducible first|refine Q1 ?_|refine xO ?_);refine hR _ ?_;clear hR R;try simp only [go_sem,QKs,Nat.reduceBEq])
  | (with_reducible first|refine J1 ?_|refine J2 ?_|refine J3 ?_|refine J4 ?_|refine J5 ?_|refine J6 ?_|refine J7 ?_|refine J8 (by decide) ?_|refine J9 ?_|refine WL ?_|refine Q0 ?_|refine Qz ?_|refine YZ ?_|refine WK ?_)
  | ((with_reducible refine QZ 6 ?_)
     first|have hM:Ub p g=0:=if_pos hb61|have hM:Ub p g=(p.funcs.getD g.func.toNat default).regs:=if_neg (by omega)
     (with_reducible refine rg QKs fun R hR=>?_);simp only [go_sem,QC])
  | ((with_reducible refine rg QKs fun R hR=>?_);simp only [go_sem,QC])
  | ((with_reducible refine Vv ok QN (by kernel_rfl) (by kernel_rfl) QKs ?_);intro R hR;simp only [go_sem,QC])
  | ((with_reducible refine QH 46 rfl (fun hb46=>?_) fun hb46=>?_);all_goals (try simp [-List.getD_eq_getElem?_getD] at hb46;try (exfalso;omega)))
  | ((with_reducible refine QH 61 rfl (fun hb61=>?_) fun hb61=>?_);all_goals (try simp [-List.getD_eq_getElem?_getD] at hb61;try (exfalso;omega)))
  | ((with_reducible refine QH 64 rfl (fun hb64=>?_) fun hb64=>?_);all_goals (try simp [-List.getD_eq_getElem?_getD] at hb64;try (exfalso;omega)))
  | ((with_reducible refine QH 71 rfl (fun hb71=>?_) fun hb71=>?_);all_goals (try simp [-List.getD_eq_getElem?_getD] at hb71;try (exfalso;omega)))
  | ((with_reducible refine QH 86 rfl (fun hb86=>?_) fun hb86=>?_);all_goals (try simp [-List.getD_eq_getElem?_getD] at hb86;try (exfalso;omega)))
  | ((with_reducible refine YQ ?_)
     refine Zo (Qq (by first|rfl|(simp;done)|fail)) (YR (fun n τ=>∃ (i:Int),n=(8-i).toNat∧(Ub p g≤i∧∀ k:Nat,Ub p g≤k→(k:Int)<i→g.regs.getD k 0=0)∧τ={ tm:=[(2,true,.ptr 0 [] 26),(3,true,.ptr 1 [] 34),(6,true,.int .i64 i)],ob:=[.var 26 (.data 26 p.v),.var 34 (.data 34 g.v)],out:=[],nt:=112 }) (_) ⟨_,rfl,⟨by rw [hM];exact Int.le_refl _,fun k h1 h2=>by rw [hM] at h1;omega⟩,rfl⟩ ?_)
     rintro n τ ⟨i,hn,⟨hi,hz⟩,rfl⟩)
  | ((with_reducible refine WM ?_)
     first
      | (have hw:IntKind.i64.wrap (i+1)=i+1:=QU (by omega) (by omega)
         refine Zt (8-(i+1)).toNat _ (by omega) (Qq (by rw [hw])) ⟨i+1,rfl,⟨by omega,fun k h1 h2=>?_⟩,rfl⟩
         by_cases h3:(k:Int)<i
         · exact hz k h1 h3
         · have:k=i.toNat:=by omega
           rw [this];exact hb71))
  | ((with_reducible first|refine ZH ?_|refine ZG ?_)
     simp only [go_sem,QJ,QK,QG,seval]
     first
      | (refine ⟨rfl,?_⟩
         rw [W1 hb46,QDs hi (by omega) hb64 hb71]
         rfl)
      | (refine ⟨rfl,?_⟩
         rw [W1 hb46,UT (fun k h1 h2=>hz k h1 (by omega)),if_neg (by simp),if_pos hb86])
      | (refine ⟨rfl,?_⟩
         rw [W1 hb46,UT (fun k h1 h2=>hz k h1 (by omega)),if_neg (by simp),if_neg hb86]
         cases decide (g.why=0)<;>by_cases h3:g.status=3<;>by_cases h5:g.status=5<;>simp [-List.getD_eq_getElem?_getD,h3,h5])
      | (refine ⟨rfl,?_⟩
         rw [V7 (by unfold qU;omega)]))
end Go.Eng.Tryz
namespace Go.Eng.Tryz
open Go.RowKit Go.Eng
set_option maxHeartbeats 0
set_option maxRecDepth 20000
def QKr:List (List Nat):=[[2,3,4],[2,3,4,7],[2,3,4,7,49],[6],[2,3,4,7,8],[2,3,4,7,8,53],[2,3,4,7,8],[2,3,4,7,8,60],[6],[2,3,4,7,63],[6],[2,3,4,7,98],[6],[2,3,4,7,117],[6],[2,9],[6]]
theorem UA (p:Prg) (s:Stt) (m:Int) (hp:p.Fit) (hr:QP p=true) (hm:0≤m∧m<p.chans.length) (hc4:s.chans.length=4) (hcnt:s.count≤6) (hgs:Yh p s 6=true):Ctr Go.Proofs.Tryz.prog tab 72 [26,37,3] [4] [p.v,s.v,.int m] [.bool (Wm p s m)]:=by
 have hfit:=hp
 have hcode:=p.code_len hp
 have hsl:=p.sels_len hp
 obtain ⟨hp1,hp2,hp3,hp4⟩:=hp
 have hok:=Prg.ok hr
 have hcap:=hok.caps m.toNat
 have hsz:=hok.sizes
 unfold Ze at hsz
 refine Ctr.body ok Go.Proofs.Tryz.func72 rfl rfl 146 rfl [.tmp 6] rfl (by simp [QE]) ?_
 simp only [go_sem,Nat.reduceAdd]
 repeat' first
  | ((with_reducible refine SARA.told 1 4 ?_)
     rw [ZU (by omega)])
  | ((with_reducible refine SART.told 15 18 ?_)
     rw [Zn (by omega)])
  | ((with_reducible first|refine Q2 fun R1 hR1=>?_|refine xP fun R1 hR1=>?_|refine qR fun R1 hR1=>?_|refine qQ fun R1 hR1=>?_|refine qP fun R1 hR1=>?_);(simp only [go_sem,seval,-List.reduceReplicate]);(repeat' with_reducible refine And.intro ?_ ?_);all_goals first|(refine hR1 _ ?_;clear hR1 R1)|exact ZQ)
  | ((with_reducible first|refine qO ?_|refine Q1 ?_|refine xO ?_);refine hR _ ?_;clear hR R;try simp only [go_sem,QKr,Nat.reduceBEq])
  | (with_reducible first|refine qN ?_ ?_|exact qM|refine qL ?_ ?_)
  | (with_reducible first|refine J1 ?_|refine J2 ?_|refine J3 ?_|refine J4 ?_|refine J5 ?_|refine J6 ?_|refine J7 ?_|refine J8 (by decide) ?_|refine J9 ?_|refine WL ?_|refine Q0 ?_|refine Qz ?_|refine YZ ?_|refine WK ?_)
  | ((with_reducible refine QZ 15 ?_)
     have hG:=wm (zQ hgs (i:=(s.chans.getD m.toNat default).from_) (by omega) (by omega) (by omega))
     unfold qU at hG
     refine WJ ok QN (.take 0 (.take 1 (.take 2 (.take 3 (.take 4 (.take 5 (.take 6 (.take 7 (.take 8 (.take 9 (.take 10 (.take 11 (.take 12 (.take 13 (.take 14 (.take 15 (.take 16 (.take 17 (.take 18 (.br 19 (.br 20 .done .nil) .nil)))))))))))))))))))) [20] QKr (by kernel_rfl) (fun R hR=>?_);simp only [go_sem,QC])
  | ((with_reducible refine rg QKr fun R hR=>?_);simp only [go_sem,QC])
  | ((with_reducible refine Vv ok QN (by kernel_rfl) (by kernel_rfl) QKr ?_);intro R hR;simp only [go_sem,QC])
  | ((with_reducible refine QH 49 rfl (fun hb49=>?_) fun hb49=>?_);all_goals (try simp [-List.getD_eq_getElem?_getD] at hb49;try (exfalso;omega)))
  | ((with_reducible refine QH 53 rfl (fun hb53=>?_) fun hb53=>?_);all_goals (try simp [-List.getD_eq_getElem?_getD] at hb53;try (exfalso;omega)))
  | ((with_reducible refine QH 60 rfl (fun hb60=>?_) fun hb60=>?_);all_goals (try simp [-List.getD_eq_getElem?_getD] at hb60;try (exfalso;omega)))
  | ((with_reducible refine QH 63 rfl (fun hb63=>?_) fun hb63=>?_);all_goals (try simp [-List.getD_eq_getElem?_getD] at hb63;try (exfalso;omega)))
  | ((with_reducible refine QH 98 rfl (fun hb98=>?_) fun hb98=>?_);all_goals (try simp [-List.getD_eq_getElem?_getD] at hb98;try (exfalso;omega)))
  | ((with_reducible refine QH 117 rfl (fun hb117=>?_) fun hb117=>?_);all_goals (try simp [-List.getD_eq_getElem?_getD] at hb117;try (exfalso;omega)))
  | ((with_reducible refine YQ ?_)
     refine Zo (Qq (by first|rfl|(simp;done)|fail)) (YR (fun n τ=>∃ (i:Int),n=(4-i).toNat∧((s.chans.getD m.toNat default).len≤i∧∀ k:Nat,(s.chans.getD m.toNat default).len≤k→(k:Int)<i→(s.chans.getD m.toNat default).buf.getD k 0=0)∧τ={ tm:=[(2,true,.int .i64 m),(3,true,.ptr 0 [] 26),(4,true,.ptr 1 [] 37),(7,true,.ptr 2 [] 31),(8,true,.int .i64 i)],ob:=[.var 26 (.data 26 p.v),.var 37 (.data 37 s.v),.var 31 (.data 31 (s.chans.getD m.toNat default).v)],out:=[],nt:=146 }) (_) ⟨_,rfl,⟨Int.le_refl _,fun k h1 h2=>by omega⟩,rfl⟩ ?_)
     rintro n τ ⟨i,hn,⟨hi,hz⟩,rfl⟩)
  | ((with_reducible refine WM ?_)
     first
      | (have hw:IntKind.i64.wrap (i+1)=i+1:=QU (by omega) (by omega)
         refine Zt (4-(i+1)).toNat _ (by omega) (Qq (by rw [hw])) ⟨i+1,rfl,⟨by omega,fun k h1 h2=>?_⟩,rfl⟩
         by_cases h3:(k:Int)<i
         · exact hz k h1 h3
         · have:k=i.toNat:=by omega
           rw [this];exact hb60))
  | ((with_reducible first|refine ZH ?_|refine ZG ?_)
     simp only [go_sem,QJ,QK,QG,seval]
     first
      | (have q:(_∧_)∧_:=hb117
         refine ⟨rfl,?_⟩
         rw [Yl,if_neg (by omega),WZ (fun k h1 h2=>hz k h1 (by omega)),if_neg (by simp),if_neg hb63,if_neg (by rintro (⟨q1,q2⟩|⟨q1,q2⟩|⟨q1,q2⟩)<;>first|exact q2 (hb98.1.1 q1)|(rw [hb98.1.2 q1] at q2;cases q2)|(rw [hb98.2 q1] at q2;cases q2)),if_neg (by omega)]
         first|rfl|(simp;done))
      | (have q:(_∨_)∨_:=hb117
         refine ⟨rfl,?_⟩
         rw [Yl,if_neg (by omega),WZ (fun k h1 h2=>hz k h1 (by omega)),if_neg (by simp),if_neg hb63,if_neg (by rintro (⟨q1,q2⟩|⟨q1,q2⟩|⟨q1,q2⟩)<;>first|exact q2 (hb98.1.1 q1)|(rw [hb98.1.2 q1] at q2;cases q2)|(rw [hb98.2 q1] at q2;cases q2)),if_pos (by omega)])
      | (have q:(_∨_)∨_:=hb98
         refine ⟨rfl,?_⟩
         rw [Yl,if_neg (by omega),WZ (fun k h1 h2=>hz k h1 (by omega)),if_neg (by simp),if_neg hb63,if_pos (or_assoc.1 hb98)])
      | (have q:_=_:=hb63
         refine ⟨rfl,?_⟩
         rw [Yl,if_neg (by omega),WZ (fun k h1 h2=>hz k h1 (by omega)),if_neg (by simp),if_pos hb63]
         first|rfl|(simp;done))
      | (have q:¬ _:=hb60
         refine ⟨rfl,?_⟩
         rw [Yl,if_neg (by omega),QGS hi (by omega) (by omega) hb60,if_pos rfl])
      | (have q:_∨_:=hb49
         refine ⟨rfl,?_⟩
         rw [Yl,if_pos (by omega)]))
end Go.Eng.Tryz
namespace Go.Eng.Tryz
open Go.RowKit Go.Eng
set_option maxHeartbeats 0
set_option maxRecDepth 20000
def QED:List (List Nat):=[[2,3],[2,3,24],[4],[2,3,25],[2,3,25,26],[2,3,5,25],[2,3,25,54],[4],[2,3,25],[2,3,6],[2,3,6,60],[2,3,6],[2,3,6,67],[4],[2,3,68],[2,3,68,69],[2,3,7,68],[2,3,68,97],[4],[2,3,68],[2,3,99],[2,3,99,100],[2,3,8,99],[2,3,99,128],[4],[2,3,99],[3,9],[3,9,133],[3,9],[3,9,10],[3,9,10,136],[3,9,10,136,137],[3,9,10,11,136],[3,9,10,136,153],[3,9,10,136],[3,9,10,136],[3,9,166],[4],[4]]
end Go.Eng.Tryz
