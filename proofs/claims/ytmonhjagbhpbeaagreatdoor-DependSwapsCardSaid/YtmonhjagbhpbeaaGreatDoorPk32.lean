/- A part of the proof: walks through the program's functions, and what they compute. -/
import Derived.Test.YtmonhjagbhpbeaaGreatDoorPk27
import Derived.Test.YtmonhjagbhpbeaaGreatDoorPk31
set_option linter.unusedSimpArgs false
set_option linter.unusedVariables false
namespace Go.Eng.Tryz
open Go.RowKit Go.Eng
set_option maxHeartbeats 0
set_option maxRecDepth 20000
theorem QE1 (p:Prg) (g:Gor) (m0:Nat) (hp:p.Fit) (hr:QN p=true) (hg:gorIn p g) (hm0:m0≤4096):Ctr Go.Proofs.Tryz.prog tab 97 [26,44,3] [44] [p.v,g.v,.int m0] [(Yh QB p g m0).v]:=by
 have hfit:=hp
 have hcode:=p.code_len hp
 have hsl:=p.sels_len hp
 obtain ⟨hp1,hp2,hp3,hp4⟩:=hp
 have hok:=Prg.ok hr
 refine Ctr.body ok Go.Proofs.Tryz.func97 rfl rfl 149 rfl [.cell 6 44] rfl (by simp [QF]) ?_
 simp only [go_sem,Nat.reduceAdd]
 repeat' first
  | ((with_reducible refine SART.told 2 10 ?_)
     rw [Zx (by omega)])
  | ((with_reducible refine SARA.told 32 3 ?_)
     rw [Qc (n:=h.pc+1) (by omega) (by omega)])
  | ((with_reducible first|refine Q5 fun R1 hR1=>?_|refine qz fun R1 hR1=>?_|refine qy fun R1 hR1=>?_|refine qx fun R1 hR1=>?_);(simp only [go_sem,seval,-List.reduceReplicate,Q6]);(repeat' with_reducible refine And.intro ?_ ?_);all_goals first|(refine hR1 _ ?_;clear hR1 R1)|((first|refine cq (cc (Xr _)) ?_|refine cq (cc (QJa _ _ _)) ?_|refine ce (cf (QDW _ _ _) ?_)|refine ⟨_,_,rfl,.inr (CallB.ctr ok (QDW _ _ _) (by first|rfl|(simp [go_sem];done)|fail) ?_)⟩);all_goals ((try simp only [go_sem,seval,-List.reduceReplicate,Q6]);(repeat' with_reducible refine And.intro ?_ ?_);all_goals first|(refine hR1 _ ?_;clear hR1 R1)|exact Zp))|exact Zp)
  | ((with_reducible first|refine qw ?_|refine Q4 ?_);refine hR _ ?_;clear hR R;try simp only [go_sem,QCF,Nat.reduceBEq])
  | (with_reducible first|refine qv ?_ ?_|exact qu|refine qt ?_ ?_)
  | (with_reducible first|refine J1 ?_|refine J2 ?_|refine J3 ?_|refine J4 ?_|refine J5 ?_|refine J6 ?_|refine J7 ?_|refine J8 (by decide) ?_|refine J9 ?_|refine Xu ?_|refine Q2 ?_|refine Q1 ?_|refine Yc ?_|refine Xt ?_)
  | ((with_reducible refine Qe 10 ?_)
     have hlr:=UK hb27
     (with_reducible refine rg QCF fun R hR=>?_);simp only [go_sem,QC])
  | ((with_reducible refine Qe 21 ?_)
     have hI:=QLW hin hb90
     (with_reducible refine rg QCF fun R hR=>?_);simp only [go_sem,QC])
  | ((with_reducible refine Qe 27 ?_)
     have hI:=QHz hin hb120
     (with_reducible refine rg QCF fun R hR=>?_);simp only [go_sem,QC])
  | ((with_reducible refine Qe 30 ?_)
     have hI:=QPH hin hb133
     (with_reducible refine rg QCF fun R hR=>?_);simp only [go_sem,QC])
  | ((with_reducible refine Qe 2 ?_)
     obtain ⟨hf0,hf1,hpc0,hpc1,h8⟩:=hgi
     have hgi:gorIn p h:=⟨hf0,hf1,hpc0,hpc1,h8⟩
     have hcl:=hok.code h.func.toNat (by omega)
     have hrg:=hok.regs h.func.toNat
     have hin:=Xg hok hgi
     simp only [Prg.instr] at hin
     refine WT ok QQ (.take 0 (.take 1 (.take 2 (.take 3 (.take 4 (.take 5 (.take 6 (.take 7 (.take 8 (.take 9 (.take 10 (.br 11 (.br 12 .done .nil) .nil)))))))))))) [12] QCF (by kernel_rfl) (fun R hR=>?_);simp only [go_sem,QC])
  | ((with_reducible refine Qe 11 ?_)
     have hI:=QRF hin (by omega) (by omega)
     refine WT ok QQ (.take 0 (.take 1 (.take 2 (.take 3 (.take 4 (.take 5 (.take 6 (.br 7 (.take 8 (.take 9 (.take 10 (.take 11 (.take 12 .done))))) .nil)))))))) [] QCF (by kernel_rfl) (fun R hR=>?_);simp only [go_sem,QC])
  | ((with_reducible refine Qe 14 ?_)
     have hI:=QNN hin (by omega) (by omega)
     refine WT ok QQ (.take 0 (.take 1 (.take 2 (.take 3 (.take 4 (.take 5 (.take 6 (.take 7 (.take 8 (.take 9 (.take 10 (.take 11 (.br 12 (.take 13 (.take 14 (.take 15 (.take 16 (.take 17 .done))))) .nil))))))))))))) [] QCF (by kernel_rfl) (fun R hR=>?_);simp only [go_sem,QC])
  | ((with_reducible refine Qe 23 ?_)
     have hI:=QLV hin hb100
     refine WT ok QQ (.take 0 (.take 1 (.take 2 (.take 3 (.take 4 (.take 5 (.take 6 (.take 7 (.take 8 (.br 9 .done .nil)))))))))) [9] QCF (by kernel_rfl) (fun R hR=>?_);simp only [go_sem,QC])
  | ((with_reducible refine rg QCF fun R hR=>?_);simp only [go_sem,QC])
  | ((with_reducible refine QI 27 rfl (fun hb27=>?_) fun hb27=>?_);all_goals (try simp only [Bool.not_eq_true',decide_eq_true_eq,decide_eq_false_iff_not,Bool.not_eq_eq_eq_not,Bool.not_true,Bool.not_false,decide_not,Bool.not_eq_true] at hb27;try (exfalso;omega)))
  | ((with_reducible refine QI 30 rfl (fun hb30=>?_) fun hb30=>?_);all_goals (try simp only [Bool.not_eq_true',decide_eq_true_eq,decide_eq_false_iff_not,Bool.not_eq_eq_eq_not,Bool.not_true,Bool.not_false,decide_not,Bool.not_eq_true] at hb30;try (exfalso;omega)))
  | ((with_reducible refine QI 37 rfl (fun hb37=>?_) fun hb37=>?_);all_goals (try simp only [Bool.not_eq_true',decide_eq_true_eq,decide_eq_false_iff_not,Bool.not_eq_eq_eq_not,Bool.not_true,Bool.not_false,decide_not,Bool.not_eq_true] at hb37;try (exfalso;omega)))
  | ((with_reducible refine QI 57 rfl (fun hb57=>?_) fun hb57=>?_);all_goals (try simp only [Bool.not_eq_true',decide_eq_true_eq,decide_eq_false_iff_not,Bool.not_eq_eq_eq_not,Bool.not_true,Bool.not_false,decide_not,Bool.not_eq_true] at hb57;try (exfalso;omega)))
  | ((with_reducible refine QI 78 rfl (fun hb78=>?_) fun hb78=>?_);all_goals (try simp only [Bool.not_eq_true',decide_eq_true_eq,decide_eq_false_iff_not,Bool.not_eq_eq_eq_not,Bool.not_true,Bool.not_false,decide_not,Bool.not_eq_true] at hb78;try (exfalso;omega)))
  | ((with_reducible refine QI 82 rfl (fun hb82=>?_) fun hb82=>?_);all_goals (try simp only [Bool.not_eq_true',decide_eq_true_eq,decide_eq_false_iff_not,Bool.not_eq_eq_eq_not,Bool.not_true,Bool.not_false,decide_not,Bool.not_eq_true] at hb82;try (exfalso;omega)))
  | ((with_reducible refine QI 90 rfl (fun hb90=>?_) fun hb90=>?_);all_goals (try simp only [Bool.not_eq_true',decide_eq_true_eq,decide_eq_false_iff_not,Bool.not_eq_eq_eq_not,Bool.not_true,Bool.not_false,decide_not,Bool.not_eq_true] at hb90;try (exfalso;omega)))
  | ((with_reducible refine QI 100 rfl (fun hb100=>?_) fun hb100=>?_);all_goals (try simp only [Bool.not_eq_true',decide_eq_true_eq,decide_eq_false_iff_not,Bool.not_eq_eq_eq_not,Bool.not_true,Bool.not_false,decide_not,Bool.not_eq_true] at hb100;try (exfalso;omega)))
  | ((with_reducible refine QI 113 rfl (fun hb113=>?_) fun hb113=>?_);all_goals (try simp only [Bool.not_eq_true',decide_eq_true_eq,decide_eq_false_iff_not,Bool.not_eq_eq_eq_not,Bool.not_true,Bool.not_false,decide_not,Bool.not_eq_true] at hb113;try (exfalso;omega)))
  | ((with_reducible refine QI 120 rfl (fun hb120=>?_) fun hb120=>?_);all_goals (try simp only [Bool.not_eq_true',decide_eq_true_eq,decide_eq_false_iff_not,Bool.not_eq_eq_eq_not,Bool.not_true,Bool.not_false,decide_not,Bool.not_eq_true] at hb120;try (exfalso;omega)))
  | ((with_reducible refine QI 129 rfl (fun hb129=>?_) fun hb129=>?_);all_goals (try simp only [Bool.not_eq_true',decide_eq_true_eq,decide_eq_false_iff_not,Bool.not_eq_eq_eq_not,Bool.not_true,Bool.not_false,decide_not,Bool.not_eq_true] at hb129;try (exfalso;omega)))
  | ((with_reducible refine QI 133 rfl (fun hb133=>?_) fun hb133=>?_);all_goals (try simp only [Bool.not_eq_true',decide_eq_true_eq,decide_eq_false_iff_not,Bool.not_eq_eq_eq_not,Bool.not_true,Bool.not_false,decide_not,Bool.not_eq_true] at hb133;try (exfalso;omega)))
  | ((with_reducible refine QI 142 rfl (fun hb142=>?_) fun hb142=>?_);all_goals (try simp only [Bool.not_eq_true',decide_eq_true_eq,decide_eq_false_iff_not,Bool.not_eq_eq_eq_not,Bool.not_true,Bool.not_false,decide_not,Bool.not_eq_true] at hb142;try (exfalso;omega)))
  | ((with_reducible refine Ya ?_)
     refine Zv (Qo (by first|rfl|(simp;done)|fail)) (Yb (fun n τ=>∃ (m:Nat) (h:Gor),n=m∧(m≤4096∧gorIn p h∧Zr QB p m h=Yh QB p g m0)∧τ={ tm:=[(2,true,.int .i64 m),(3,true,.ptr 0 [] 26),(4,true,.ptr 1 [] 44),(6,true,.ptr 2 [] 44)],ob:=[.var 26 (.data 26 p.v),.var 44 (.data 44 h.v),.var 44 (.data 44 zeroGor.v)],out:=[],nt:=149 }) (m0) ⟨m0,⟨1,g.func,g.pc,g.why,g.regs⟩,rfl,⟨hm0,⟨hg.f0,hg.f1,hg.p0,hg.p1,hg.regs⟩,rfl⟩,rfl⟩ ?_)
     rintro n τ ⟨m,h,hn,⟨hm,hgi,hset⟩,rfl⟩)
  | ((with_reducible refine WC ?_)
     first
      | (have hl:=ls1 QB hb37
         obtain ⟨m',rfl⟩:∃ m',m=m'+1:=⟨m-1,by omega⟩
         have hw:IntKind.i64.wrap (((m'+1:Nat):Int)-1)=(m':Int):=by rw [Qc (by omega) (by omega)];omega
         have hin':=Zs QB hok hgi hb27
         have hset':=hset
         rw [Q8 QB hb27,hl,if_pos rfl] at hset'
         rw [hl] at hin'
         refine Z0 m' _ (by omega) ((WS 3 rfl).trans (Qo (by simp only [hw,List.take_succ_cons,List.take_zero]))) ⟨m',_,rfl,⟨by omega,hin',hset'⟩,rfl⟩)
      | (have hl:=ls2 QB hb37 hb57 hb78 hb82
         obtain ⟨m',rfl⟩:∃ m',m=m'+1:=⟨m-1,by omega⟩
         have hw:IntKind.i64.wrap (((m'+1:Nat):Int)-1)=(m':Int):=by rw [Qc (by omega) (by omega)];omega
         have hin':=Zs QB hok hgi hb27
         have hset':=hset
         rw [Q8 QB hb27,hl,if_pos rfl] at hset'
         rw [hl] at hin'
         refine Z0 m' _ (by omega) ((WS 3 rfl).trans (Qo (by simp only [hw,List.take_succ_cons,List.take_zero]))) ⟨m',_,rfl,⟨by omega,hin',hset'⟩,rfl⟩)
      | (have hl:=QNJ QB hb37 hb57 hb90
         obtain ⟨m',rfl⟩:∃ m',m=m'+1:=⟨m-1,by omega⟩
         have hw:IntKind.i64.wrap (((m'+1:Nat):Int)-1)=(m':Int):=by rw [Qc (by omega) (by omega)];omega
         have hin':=Zs QB hok hgi hb27
         have hset':=hset
         rw [Q8 QB hb27,hl,if_pos rfl] at hset'
         rw [hl] at hin'
         refine Z0 m' _ (by omega) ((WS 3 rfl).trans (Qo (by simp only [hw,List.take_succ_cons,List.take_zero]))) ⟨m',_,rfl,⟨by omega,hin',hset'⟩,rfl⟩)
      | (have hl:=QNI QB hb37 hb57 hb90 hb100
         obtain ⟨m',rfl⟩:∃ m',m=m'+1:=⟨m-1,by omega⟩
         have hw:IntKind.i64.wrap (((m'+1:Nat):Int)-1)=(m':Int):=by rw [Qc (by omega) (by omega)];omega
         have hin':=Zs QB hok hgi hb27
         have hset':=hset
         rw [Q8 QB hb27,hl,if_pos rfl] at hset'
         rw [hl] at hin'
         refine Z0 m' _ (by omega) ((WS 3 rfl).trans (Qo (by simp only [hw,List.take_succ_cons,List.take_zero]))) ⟨m',_,rfl,⟨by omega,hin',hset'⟩,rfl⟩)
      | (have hl:=QNH QB hb37 hb57 hb90 hb100 hb113
         obtain ⟨m',rfl⟩:∃ m',m=m'+1:=⟨m-1,by omega⟩
         have hw:IntKind.i64.wrap (((m'+1:Nat):Int)-1)=(m':Int):=by rw [Qc (by omega) (by omega)];omega
         have hin':=Zs QB hok hgi hb27
         have hset':=hset
         rw [Q8 QB hb27,hl,if_pos rfl] at hset'
         rw [hl] at hin'
         refine Z0 m' _ (by omega) ((WS 3 rfl).trans (Qo (by simp only [hw,List.take_succ_cons,List.take_zero]))) ⟨m',_,rfl,⟨by omega,hin',hset'⟩,rfl⟩)
      | (have hl:=QNG QB hb37 hb57 hb90 hb100 hb113 hb120 hb129
         obtain ⟨m',rfl⟩:∃ m',m=m'+1:=⟨m-1,by omega⟩
         have hw:IntKind.i64.wrap (((m'+1:Nat):Int)-1)=(m':Int):=by rw [Qc (by omega) (by omega)];omega
         have hin':=Zs QB hok hgi hb27
         have hset':=hset
         rw [Q8 QB hb27,hl,if_pos rfl] at hset'
         rw [hl] at hin'
         refine Z0 m' _ (by omega) ((WS 3 rfl).trans (Qo (by simp only [hw,List.take_succ_cons,List.take_zero]))) ⟨m',_,rfl,⟨by omega,hin',hset'⟩,rfl⟩)
      | (have hl:=QHy QB hb37 hb57 hb90 hb100 hb113 hb120 hb129
         obtain ⟨m',rfl⟩:∃ m',m=m'+1:=⟨m-1,by omega⟩
         have hw:IntKind.i64.wrap (((m'+1:Nat):Int)-1)=(m':Int):=by rw [Qc (by omega) (by omega)];omega
         have hin':=Zs QB hok hgi hb27
         have hset':=hset
         rw [Q8 QB hb27,hl,if_pos rfl] at hset'
         rw [hl] at hin'
         refine Z0 m' _ (by omega) ((WS 3 rfl).trans (Qo (by simp only [hw,List.take_succ_cons,List.take_zero]))) ⟨m',_,rfl,⟨by omega,hin',hset'⟩,rfl⟩)
      | (have hl:=QNF QB hb37 hb57 hb90 hb100 hb113 hb120 hb133 hb142
         obtain ⟨m',rfl⟩:∃ m',m=m'+1:=⟨m-1,by omega⟩
         have hw:IntKind.i64.wrap (((m'+1:Nat):Int)-1)=(m':Int):=by rw [Qc (by omega) (by omega)];omega
         have hin':=Zs QB hok hgi hb27
         have hset':=hset
         rw [Q8 QB hb27,hl,if_pos rfl] at hset'
         rw [hl] at hin'
         refine Z0 m' _ (by omega) ((WS 3 rfl).trans (Qo (by simp only [hw,List.take_succ_cons,List.take_zero]))) ⟨m',_,rfl,⟨by omega,hin',hset'⟩,rfl⟩))
  | ((with_reducible first|refine ZQ ?_|refine ZP ?_)
     simp only [go_sem,QL,QM,QH,seval]
     first
      | (have hl:=QNK QB hb37 hb57 hb78
         obtain ⟨m',rfl⟩:∃ m',m=m'+1:=⟨m-1,by omega⟩
         have hset':=hset
         rw [Q8 QB hb27,hl,if_neg (by simp)] at hset'
         refine ⟨rfl,?_⟩
         exact congrArg (fun g:Gor=>some g.v) hset')
      | (have hl:=QNL QB hb37 hb57 hb78 hb82
         obtain ⟨m',rfl⟩:∃ m',m=m'+1:=⟨m-1,by omega⟩
         have hset':=hset
         rw [Q8 QB hb27,hl,if_neg (by simp)] at hset'
         refine ⟨rfl,?_⟩
         exact congrArg (fun g:Gor=>some g.v) hset')
      | (have hl:=QHx QB hb37 hb57 hb90 hb100 hb113 hb120 hb133 hb142
         obtain ⟨m',rfl⟩:∃ m',m=m'+1:=⟨m-1,by omega⟩
         have hset':=hset
         rw [Q8 QB hb27,hl,if_neg (by simp)] at hset'
         refine ⟨rfl,?_⟩
         exact congrArg (fun g:Gor=>some g.v) hset')
      | (have hl:=QNE QB hb37 hb57 hb90 hb100 hb113 hb120 hb133
         obtain ⟨m',rfl⟩:∃ m',m=m'+1:=⟨m-1,by omega⟩
         have hset':=hset
         rw [Q8 QB hb27,hl,if_neg (by simp)] at hset'
         refine ⟨rfl,?_⟩
         exact congrArg (fun g:Gor=>some g.v) hset')
      | (refine ⟨rfl,?_⟩
         rw [XI QB hb27] at hset
         exact congrArg (fun g:Gor=>some g.v) hset)
      | (have hm1:m=0:=by omega
         subst hm1
         refine ⟨rfl,?_⟩
         rw [Wy QB hb27] at hset
         exact congrArg (fun g:Gor=>some g.v) hset))
theorem xc (p:Prg) (g:Gor) (fuel:Int) (hp:p.Fit) (hr:QN p=true) (hg:gorIn p g) (hf:0≤fuel∧fuel≤4096):Ctr Go.Proofs.Tryz.prog tab 97 [26,44,3] [44] [p.v,g.v,.int fuel] [(Yh QB p g fuel).v]:=by
 obtain ⟨m,rfl⟩:=Int.eq_ofNat_of_zero_le hf.1
 exact QE1 p g m hp hr hg (by omega)
def QQ4:List (List Nat):=[[1,2,4],[1,2,4,11],[4,5],[1,2,4,18],[4,5],[1,2,4,6],[1,2,4,6,22,23,24],[1,2,4,6,22,23,24,25],[1,2,4,6,7,8,22,23,24],[1,2,4,6,22,23,24],[1,2,4,6,22,23,24],[4,6],[4,5]]
theorem QCe (p:Prg) (fuel:Int) (hp:p.Fit):Ctr Go.Proofs.Tryz.prog tab 57 [26,3] [47,3] [p.v,.int fuel] [(start QB p fuel).1.v,.int (start QB p fuel).2]:=by
 have hfit:=hp
 have hcode:=p.code_len hp
 have hsl:=p.sels_len hp
 obtain ⟨hp1,hp2,hp3,hp4⟩:=hp
 refine Ctr.body ok Go.Proofs.Tryz.func57 rfl rfl 42 rfl [.cell 4 47,.tmp 5] rfl (by simp [QF]) ?_
 simp only [go_sem,Nat.reduceAdd]
 repeat' first
  | ((with_reducible refine SARA.told 8 3 ?_)
     rw [xw (by omega)])
  | ((with_reducible refine Q5 fun R1 hR1=>?_);(simp only [go_sem,seval,-List.reduceReplicate,Q6,QE]);(repeat' with_reducible refine And.intro ?_ ?_);all_goals first|(refine hR1 _ ?_;clear hR1 R1)|((first|refine cq (cc (Wm p hfit)) ?_|refine cq (cc (xc p _ _ hfit hr (Vs hok) hf)) ?_);all_goals ((try simp only [go_sem,seval,-List.reduceReplicate,Q6,QE]);(repeat' with_reducible refine And.intro ?_ ?_);all_goals first|(refine hR1 _ ?_;clear hR1 R1)|exact Zp))|exact Zp)
  | ((with_reducible refine Q4 ?_);refine hR _ ?_;clear hR R;try simp only [go_sem,QQ4,Nat.reduceBEq])
  | (with_reducible first|refine J1 ?_|refine J2 ?_|refine J3 ?_|refine J4 ?_|refine J5 ?_|refine J6 ?_|refine J7 ?_|refine J8 (by decide) ?_|refine J9 ?_|refine Xu ?_|refine Q2 ?_|refine Q1 ?_|refine Yc ?_|refine Xt ?_)
  | ((with_reducible refine Qe 5 ?_)
     have hr:QN p=true:=hb11
     have hok:=Prg.ok hr
     have hsz:=hok.sizes
     unfold Zz at hsz
     have hf:0≤fuel∧fuel≤4096:=by omega
     (with_reducible refine rg QQ4 fun R hR=>?_);simp only [go_sem,QC])
  | ((with_reducible refine rg QQ4 fun R hR=>?_);simp only [go_sem,QC])
  | ((with_reducible refine QI 11 rfl (fun hb11=>?_) fun hb11=>?_);all_goals (try simp [-List.getD_eq_getElem?_getD] at hb11;try (exfalso;omega)))
  | ((with_reducible refine QI 18 rfl (fun hb18=>?_) fun hb18=>?_);all_goals (try simp [-List.getD_eq_getElem?_getD] at hb18;try (exfalso;omega)))
  | ((with_reducible refine QI 25 rfl (fun hb25=>?_) fun hb25=>?_);all_goals (try simp [-List.getD_eq_getElem?_getD] at hb25;try (exfalso;omega)))
  | ((with_reducible refine Ya ?_)
     refine Zv (Qo (by (simp only [zL];rfl))) (Yb (fun n τ=>∃ (i:Nat),n=p.vars.length-i∧(i≤p.vars.length)∧τ={ tm:=[(1,true,.int .i64 fuel),(2,true,.ptr 0 [] 26),(4,true,.ptr 1 [] 47),(6,true,.ptr 2 [] 47),(22,true,.fs 167 (p.vars.map Vr.v) false),(23,true,.int .i64 p.vars.length),(24,true,.int .i64 i)],ob:=[.var 26 (.data 26 p.v),.var 47 (.data 47 zeroStt.v),.var 47 (.data 47 (Stt.v ⟨YE p i,zeroStt.owner,zeroStt.chans,zeroStt.gos,1⟩))],out:=[],nt:=42 }) (p.vars.length) ⟨0,rfl,by omega,rfl⟩ ?_)
     rintro n τ ⟨i,hn,hi,rfl⟩)
  | ((with_reducible refine WC ?_)
     first
      | (have hlt:i<p.vars.length:=by omega
         refine Z0 (p.vars.length-(i+1)) _ (by omega) ((WS 3 rfl).trans (Qo (by simp only [QD hlt hp1,zM p (show i<8 by omega),List.take_succ_cons,List.take_zero]))) ⟨i+1,rfl,hlt,rfl⟩))
  | ((with_reducible first|refine ZQ ?_|refine ZP ?_)
     simp only [go_sem,QL,QM,QH,seval]
     first
      | (have hi':i=p.vars.length:=by omega
         subst hi'
         have e:start QB p fuel=(⟨YE p p.vars.length,zeroStt.owner,zeroStt.chans,zeroStt.gos.set 0 (Yh QB p zeroGor fuel),1⟩,0):=(if_neg (by rw [hr];simp)).trans (if_neg (by omega))
         rw [e]
         exact ⟨⟨rfl,rfl⟩,⟨rfl,rfl⟩⟩)
      | (have q:_∨_:=hb18
         have e:start QB p fuel=(zeroStt,1):=(if_neg (by rw [hb11];simp)).trans (if_pos hb18)
         rw [e]
         exact ⟨⟨rfl,rfl⟩,⟨rfl,rfl⟩⟩)
      | (have e:start QB p fuel=(zeroStt,3):=if_pos hb11
         rw [e]
         exact ⟨⟨rfl,rfl⟩,⟨rfl,rfl⟩⟩))
def QHs:List (List Nat):=[[2,3,4,5,8],[2,3,4,5,8,12],[8,9],[2,3,4,5,8,17],[8,9],[2,3,4,5,8,32],[8,9],[2,3,4,5,8,37],[8,9],[2,3,4,5,8,52],[5,8],[8,9]]
theorem QAr (p:Prg) (s:Stt) (g fuel:Int) (hp:p.Fit) (hs:s.Shape):Ctr Go.Proofs.Tryz.prog tab 140 [26,47,3,3] [47,3] [p.v,s.v,.int g,.int fuel] [(QZ QB p s g fuel).1.v,.int (QZ QB p s g fuel).2]:=by
 have hfit:=hp
 have hcode:=p.code_len hp
 have hsl:=p.sels_len hp
 obtain ⟨hp1,hp2,hp3,hp4⟩:=hp
 have hs5:=hs.gos
 refine Ctr.body ok Go.Proofs.Tryz.func140 rfl rfl 64 rfl [.cell 8 47,.tmp 9] rfl (by simp [QF]) ?_
 simp only [go_sem,Nat.reduceAdd]
 repeat' first
  | ((with_reducible refine SART.told 10 5 ?_)
     rw [Yf (by omega)])
  | ((with_reducible first|refine Q5 fun R1 hR1=>?_|refine qz fun R1 hR1=>?_|refine qy fun R1 hR1=>?_|refine qx fun R1 hR1=>?_);(simp only [go_sem,seval,-List.reduceReplicate,Q6,QE]);(repeat' with_reducible refine And.intro ?_ ?_);all_goals first|(refine hR1 _ ?_;clear hR1 R1)|((first|refine cq (cc (Wm p hfit)) ?_|refine cq (cc (QIc p s hfit hs)) ?_|refine cq (cc (xc p _ _ hfit hb12 hgi hf)) ?_);all_goals ((try simp only [go_sem,seval,-List.reduceReplicate,Q6,QE]);(repeat' with_reducible refine And.intro ?_ ?_);all_goals first|(refine hR1 _ ?_;clear hR1 R1)|exact Zp))|exact Zp)
  | ((with_reducible first|refine qw ?_|refine Q4 ?_);refine hR _ ?_;clear hR R;try simp only [go_sem,QHs,Nat.reduceBEq])
  | (with_reducible first|refine qv ?_ ?_|exact qu|refine qt ?_ ?_)
  | (with_reducible first|refine J1 ?_|refine J2 ?_|refine J3 ?_|refine Q2 ?_|refine Q1 ?_)
  | ((with_reducible refine Qe 5 ?_)
     obtain ⟨hv1,hv2,hv3,hv4⟩:=W8 hb17
     (with_reducible refine rg QHs fun R hR=>?_);simp only [go_sem,QC])
  | ((with_reducible refine Qe 10 ?_)
     have hgi:=QGo hs hv3 (g:=g) (by omega) (by omega) (by omega)
     have hf:0≤fuel∧fuel≤4096:=by omega
     refine WT ok QQ (.take 0 (.take 1 (.take 2 (.take 3 (.take 4 (.take 5 (.take 6 (.take 8 (.br 7 (.take 9 (.br 10 .done .nil)) .nil))))))))) [10] QHs (by kernel_rfl) (fun R hR=>?_);simp only [go_sem,QC])
  | ((with_reducible refine rg QHs fun R hR=>?_);simp only [go_sem,QC])
  | ((with_reducible refine QI 12 rfl (fun hb12=>?_) fun hb12=>?_);all_goals (try simp [-List.getD_eq_getElem?_getD] at hb12;try (exfalso;omega)))
  | ((with_reducible refine QI 17 rfl (fun hb17=>?_) fun hb17=>?_);all_goals (try simp [-List.getD_eq_getElem?_getD] at hb17;try (exfalso;omega)))
  | ((with_reducible refine QI 32 rfl (fun hb32=>?_) fun hb32=>?_);all_goals (try simp [-List.getD_eq_getElem?_getD] at hb32;try (exfalso;omega)))
  | ((with_reducible refine QI 37 rfl (fun hb37=>?_) fun hb37=>?_);all_goals (try simp [-List.getD_eq_getElem?_getD] at hb37;try (exfalso;omega)))
  | ((with_reducible refine QI 52 rfl (fun hb52=>?_) fun hb52=>?_);all_goals (try simp [-List.getD_eq_getElem?_getD] at hb52;try (exfalso;omega)))
  | ((with_reducible first|refine ZQ ?_|refine ZP ?_)
     simp only [go_sem,QL,QM,QH,seval]
     first
      | (have q:_∨_:=hb52
         have e:QZ QB p s g fuel=(⟨s.vars,s.owner,s.chans,s.gos.set g.toNat (Yh QB p (s.gor g) fuel),s.count⟩,0):=(if_neg (by rw [hb12];simp)).trans ((if_neg (by rw [hb17];simp)).trans ((if_neg (by omega)).trans ((if_neg (by omega)).trans (if_pos hb52))))
         rw [e]
         exact ⟨⟨rfl,rfl⟩,⟨rfl,rfl⟩⟩)
      | (have q:_∧_:=hb52
         have e:QZ QB p s g fuel=(s,0):=(if_neg (by rw [hb12];simp)).trans ((if_neg (by rw [hb17];simp)).trans ((if_neg (by omega)).trans ((if_neg (by omega)).trans (if_neg (fun q=>q.elim hb52.1 hb52.2)))))
         rw [e]
         exact ⟨⟨rfl,rfl⟩,⟨rfl,rfl⟩⟩)
      | (have q:=hb37
         have e:QZ QB p s g fuel=(zeroStt,9):=(if_neg (by rw [hb12];simp)).trans ((if_neg (by rw [hb17];simp)).trans ((if_neg (by omega)).trans (if_pos hb37)))
         rw [e]
         exact ⟨⟨rfl,rfl⟩,⟨rfl,rfl⟩⟩)
      | (have q:=hb32
         have e:QZ QB p s g fuel=(zeroStt,1):=(if_neg (by rw [hb12];simp)).trans ((if_neg (by rw [hb17];simp)).trans (if_pos (by omega)))
         rw [e]
         exact ⟨⟨rfl,rfl⟩,⟨rfl,rfl⟩⟩)
      | (have q:=hb17
         have e:QZ QB p s g fuel=(zeroStt,4):=(if_neg (by rw [hb12];simp)).trans (if_pos hb17)
         rw [e]
         exact ⟨⟨rfl,rfl⟩,⟨rfl,rfl⟩⟩)
      | (have e:QZ QB p s g fuel=(zeroStt,3):=if_pos hb12
         rw [e]
         exact ⟨⟨rfl,rfl⟩,⟨rfl,rfl⟩⟩))
def QOz:List (List Nat):=[[1,2],[4]]
theorem Uz (s:Stt) (g:Int) (hs:s.Shape) (hc6:s.count≤6):Ctr Go.Proofs.Tryz.prog tab 130 [47,3] [4] [s.v,.int g] [.bool (YB s g)]:=by
 have hs1:=hs.vars
 have hs2:=hs.owner
 have hs3:=hs.chans
 have hs5:=hs.gos
 refine Ctr.body ok Go.Proofs.Tryz.func130 rfl rfl 29 rfl [.tmp 4] rfl (by simp [QF]) ?_
 simp only [go_sem,Nat.reduceAdd]
 repeat' first
  | ((with_reducible refine Q5 fun R1 hR1=>?_);(simp only [go_sem,seval,-List.reduceReplicate]);(repeat' with_reducible refine And.intro ?_ ?_);all_goals first|(refine hR1 _ ?_;clear hR1 R1)|exact Zp)
  | ((with_reducible refine Q4 ?_);refine hR _ ?_;clear hR R;try simp only [go_sem,QOz,Nat.reduceBEq])
  | (with_reducible first|refine J1 ?_|refine J2 ?_|refine Q2 ?_|refine Q1 ?_)
  | ((with_reducible refine rg QOz fun R hR=>?_);simp only [go_sem,QC])
  | ((with_reducible first|refine ZQ ?_|refine ZP ?_)
     simp only [go_sem,QL,QM,QH,seval]
     refine ⟨rfl,?_⟩
     rw [QJN]
     cases decide (0≤g)<;>cases decide (g<s.count)<;>cases decide ((s.gos.getD g.toNat default).status=1)<;>rfl)
def QLP:List (List Nat):=[[2,3,4,6],[6]]
theorem YV (p:Prg) (s:Stt) (g:Int) (hp:p.Fit) (hs:s.Shape) (hg:0≤g∧g<6) (hgi:gorIn p (s.gos.getD g.toNat default)):Ctr Go.Proofs.Tryz.prog tab 133 [26,47,3] [104] [p.v,s.v,.int g] [(QA p s g).v]:=by
 have hfit:=hp
 have hcode:=p.code_len hp
 have hsl:=p.sels_len hp
 obtain ⟨hp1,hp2,hp3,hp4⟩:=hp
 have hs1:=hs.vars
 have hs2:=hs.owner
 have hs3:=hs.chans
 have hs5:=hs.gos
 obtain ⟨hf0,hf1,hpc0,hpc1,h8⟩:=hgi
 have hgi:gorIn p (s.gos.getD g.toNat default):=⟨hf0,hf1,hpc0,hpc1,h8⟩
 refine Ctr.body ok Go.Proofs.Tryz.func133 rfl rfl 24 rfl [.cell 6 104] rfl (by simp [QF]) ?_
 simp only [go_sem,Nat.reduceAdd]
 repeat' first
  | ((with_reducible refine SART.told 1 16 ?_)
     rw [Zx (by omega)])
  | ((with_reducible first|refine Q5 fun R1 hR1=>?_|refine qz fun R1 hR1=>?_|refine qy fun R1 hR1=>?_|refine qx fun R1 hR1=>?_);(simp only [go_sem,seval,-List.reduceReplicate]);(repeat' with_reducible refine And.intro ?_ ?_);all_goals first|(refine hR1 _ ?_;clear hR1 R1)|exact Zp)
  | ((with_reducible first|refine qw ?_|refine Q4 ?_);refine hR _ ?_;clear hR R;try simp only [go_sem,QLP,Nat.reduceBEq])
  | (with_reducible first|refine qv ?_ ?_|exact qu|refine qt ?_ ?_)
  | (with_reducible first|refine J1 ?_|refine J2 ?_|refine Q2 ?_|refine Q1 ?_)
  | ((with_reducible refine Qe 1 ?_)
     refine WT ok QQ (.take 0 (.take 1 (.take 2 (.take 3 (.take 4 (.take 5 (.take 6 (.take 7 (.take 8 (.take 9 (.take 10 (.take 11 (.take 12 (.take 13 (.take 14 (.take 15 (.take 16 (.br 17 .done .nil)))))))))))))))))) [17] QLP (by kernel_rfl) (fun R hR=>?_);simp only [go_sem,QC])
  | ((with_reducible refine rg QLP fun R hR=>?_);simp only [go_sem,QC])
  | ((with_reducible first|refine ZQ ?_|refine ZP ?_)
     simp only [go_sem,QL,QM,QH,seval]
     exact ⟨rfl,rfl⟩)
def QOy:List (List Nat):=[[2,3,4],[2,3,4,12],[6],[6]]
theorem Uh (p:Prg) (s:Stt) (g:Int) (hp:p.Fit) (hs:s.Shape) (hg:0≤g∧g<6) (hgi:gorIn p (s.gos.getD g.toNat default)):Ctr Go.Proofs.Tryz.prog tab 131 [26,47,3] [58] [p.v,s.v,.int g] [.int (QK p s g)]:=by
 have hpp:=hp
 have hfit:=hp
 have hcode:=p.code_len hp
 have hsl:=p.sels_len hp
 obtain ⟨hp1,hp2,hp3,hp4⟩:=hp
 have hs1:=hs.vars
 have hs2:=hs.owner
 have hs3:=hs.chans
 have hs5:=hs.gos
 obtain ⟨hf0,hf1,hpc0,hpc1,h8⟩:=hgi
 have hgi:gorIn p (s.gos.getD g.toNat default):=⟨hf0,hf1,hpc0,hpc1,h8⟩
 refine Ctr.body ok Go.Proofs.Tryz.func131 rfl rfl 18 rfl [.tmp 6] rfl (by simp [QF]) ?_
 simp only [go_sem,Nat.reduceAdd]
 repeat' first
  | ((with_reducible refine Q5 fun R1 hR1=>?_);(simp only [go_sem,seval,-List.reduceReplicate]);(repeat' with_reducible refine And.intro ?_ ?_);all_goals first|(refine hR1 _ ?_;clear hR1 R1)|((first|refine cq (cc (YV p s g hpp hs hg hgi)) ?_);all_goals ((try simp only [go_sem,seval,-List.reduceReplicate]);(repeat' with_reducible refine And.intro ?_ ?_);all_goals first|(refine hR1 _ ?_;clear hR1 R1)|exact Zp))|exact Zp)
  | ((with_reducible refine Q4 ?_);refine hR _ ?_;clear hR R;try simp only [go_sem,QOy,Nat.reduceBEq])
  | (with_reducible first|refine J1 ?_|refine J2 ?_|refine J3 ?_|refine Q2 ?_|refine Q1 ?_)
  | ((with_reducible refine rg QOy fun R hR=>?_);simp only [go_sem,QC])
  | ((with_reducible refine QI 12 rfl (fun hb12=>?_) fun hb12=>?_);all_goals (try simp [-List.getD_eq_getElem?_getD] at hb12;try (exfalso;omega)))
  | ((with_reducible first|refine ZQ ?_|refine ZP ?_)
     simp only [go_sem,QL,QM,QH,seval]
     first
      | (have q:¬_:=hb12
         refine ⟨rfl,?_⟩
         unfold QK
         rw [if_neg (show ¬(s.gor g).status=2 from hb12)])
      | (refine ⟨rfl,?_⟩
         unfold QK
         rw [if_pos (show (s.gor g).status=2 from hb12)]))
def QLO:List (List Nat):=[[2,3,4],[2,3,7],[2,3,7,13],[6],[2,3,7,19],[6],[6]]
theorem Vg (p:Prg) (s:Stt) (c:Int) (hp:p.Fit) (hs:s.Shape) (hc:0≤c∧c<p.chans.length) (hc4:p.chans.length≤4):Ctr Go.Proofs.Tryz.prog tab 134 [26,47,3] [4] [p.v,s.v,.int c] [.bool (Ys p s c)]:=by
 have hfit:=hp
 have hcode:=p.code_len hp
 have hsl:=p.sels_len hp
 obtain ⟨hp1,hp2,hp3,hp4⟩:=hp
 have hs1:=hs.vars
 have hs2:=hs.owner
 have hs3:=hs.chans
 have hs5:=hs.gos
 refine Ctr.body ok Go.Proofs.Tryz.func134 rfl rfl 31 rfl [.tmp 6] rfl (by simp [QF]) ?_
 simp only [go_sem,Nat.reduceAdd]
 repeat' first
  | ((with_reducible refine SARA.told 1 4 ?_)
     rw [Zl (by omega)])
  | ((with_reducible first|refine Q5 fun R1 hR1=>?_|refine yb fun R1 hR1=>?_);(simp only [go_sem,seval,-List.reduceReplicate]);(repeat' with_reducible refine And.intro ?_ ?_);all_goals first|(refine hR1 _ ?_;clear hR1 R1)|exact Zp)
  | ((with_reducible first|refine Q4 ?_|refine ya ?_);refine hR _ ?_;clear hR R;try simp only [go_sem,QLO,Nat.reduceBEq])
  | (with_reducible first|refine J1 ?_|refine J2 ?_|refine J3 ?_|refine Q2 ?_|refine Q1 ?_)
  | ((with_reducible refine rg QLO fun R hR=>?_);simp only [go_sem,QC])
  | ((with_reducible refine Ve ok QQ (by kernel_rfl) (by kernel_rfl) QLO ?_);intro R hR;simp only [go_sem,QC])
  | ((with_reducible refine QI 13 rfl (fun hb13=>?_) fun hb13=>?_);all_goals (try simp [-List.getD_eq_getElem?_getD] at hb13;try (exfalso;omega)))
  | ((with_reducible refine QI 19 rfl (fun hb19=>?_) fun hb19=>?_);all_goals (try simp [-List.getD_eq_getElem?_getD] at hb19;try (exfalso;omega)))
  | ((with_reducible first|refine ZQ ?_|refine ZP ?_)
     simp only [go_sem,QL,QM,QH,seval]
     first
      | (have q:=hb19
         refine ⟨rfl,?_⟩
         have e:Ys p s c=if 0<p.chans.getD c.toNat 0 then decide ((s.chans.getD c.toNat default).len<p.chans.getD c.toNat 0) else decide ((s.chans.getD c.toNat default).offer=0):=if_neg (by rw [show (s.chn c).closed=false from hb13];simp)
         first|rw [e,if_pos hb19]|rw [e,if_neg (by omega)])
      | (refine ⟨rfl,?_⟩
         have e:Ys p s c=true:=if_pos hb13
         rw [e]))
def QOx:List (List Nat):=[[1,2],[5],[4]]
end Go.Eng.Tryz
