/- A part of the proof: walks through the program's functions, and what they compute. -/
import Derived.Test.YtmonhjagbhpbeaaGreatDoorPk12
set_option linter.unusedSimpArgs false
set_option linter.unusedVariables false
namespace Go.Eng.Tryz
open Go.RowKit Go.Eng
set_option maxHeartbeats 0
set_option maxRecDepth 20000
theorem QA8 (op a b:Int):Ctr Go.Proofs.Tryz.prog tab 168 [58,2,2] [2,30] [.int op,.int a,.int b] [.int (QB op a b).1,.int (QB op a b).2] :=
 Ctr.ranged (Wt Go.Proofs.Tryz.func168 rfl rfl) fun h=>QGH op a b (IntKind.i64_has (h 1 rfl rfl rfl)) (IntKind.i64_has (h 2 rfl rfl rfl))
def QOe:List (List Nat):=[[1,2,3,6],[3,6],[6]]
theorem QLo (g:Gor) (status why:Int):Ctr Go.Proofs.Tryz.prog tab 167 [44,3,3] [44] [g.v,.int status,.int why] [(ended g status why).v]:=by
 refine Ctr.body ok Go.Proofs.Tryz.func167 rfl rfl 14 rfl [.cell 6 44] rfl (by simp [QF]) ?_
 simp only [go_sem,Nat.reduceAdd]
 repeat' first
  | ((with_reducible refine Q5 fun R1 hR1=>?_);(simp only [go_sem,seval,-List.reduceReplicate,Q6]);(repeat' with_reducible refine And.intro ?_ ?_);all_goals first|(refine hR1 _ ?_;clear hR1 R1)|exact ob5)
  | ((with_reducible refine Q4 ?_);refine hR _ ?_;clear hR R;try simp only [go_sem,QOe,Nat.reduceBEq])
  | (with_reducible first|refine J1 ?_|refine J2 ?_|refine Q2 ?_|refine Q1 ?_)
  | ((with_reducible refine rg QOe fun R hR=>?_);simp only [go_sem,QC])
  | ((with_reducible first|refine ZQ ?_|refine ZP ?_)
     simp only [go_sem,QL,QM,QH,seval]
     exact ⟨rfl,rfl⟩)
def vN:List (List Nat):=[[2,3,4],[2,3,4],[2,3,4,13],[2,3,4,5],[2,3,4,5,16],[2,3,4,5],[2,3,4,6,7],[2,3,4,6,34],[2,3,4,6,34,35],[2,4],[4],[2,3,4,6,43],[2,4],[4],[2,4],[2,3,4,13,56],[2,4],[2,3,4,13,64],[2,4],[2,3,4,13,75],[2,4],[2,3,4,13,80],[2,3,4,87],[2,4],[2,3,4,13,91],[2,4,98],[2,4],[4],[2,3,4,105],[2,4],[4],[4]]
theorem QGS (p:Prg) (g:Gor) (hok:p.Ok) (hgi:gorIn p g) (hl:Qp (p.instr g).op=true):Ctr Go.Proofs.Tryz.prog tab 124 [44,104] [44] [g.v,(p.instr g).v] [(Qi QB p g).1.v]:=by
 obtain ⟨hf0,hf1,hpc0,hpc1,h8⟩:=hgi
 have hgi:gorIn p g:=⟨hf0,hf1,hpc0,hpc1,h8⟩
 have hcl:=hok.code g.func.toNat (by omega)
 have hrg:=hok.regs g.func.toNat
 have hin:=Xg hok hgi
 have hlr:=UK hl
 refine Ctr.body ok Go.Proofs.Tryz.func124 rfl rfl 114 rfl [.cell 4 44] rfl (by simp [QF]) ?_
 simp only [go_sem,Nat.reduceAdd]
 repeat' first
  | ((with_reducible refine SARA.told 1 3 ?_)
     rw [Qc (n:=g.pc+1) (by omega) (by omega)])
  | ((with_reducible refine SARA.told 26 3 ?_)
     rw [Qc (n:=g.pc+1-1) (by omega) (by omega),show g.pc+1-1=g.pc by omega])
  | ((with_reducible refine SARA.told 29 3 ?_)
     rw [Qc (n:=g.pc+1-1) (by omega) (by omega),show g.pc+1-1=g.pc by omega])
  | ((with_reducible refine SARA.told 9 3 ?_)
     rw [Qc (n:=g.pc+1-1) (by omega) (by omega),show g.pc+1-1=g.pc by omega])
  | ((with_reducible refine SARA.told 12 3 ?_)
     rw [Qc (n:=g.pc+1-1) (by omega) (by omega),show g.pc+1-1=g.pc by omega])
  | ((with_reducible first|refine Q5 fun R1 hR1=>?_|refine qz fun R1 hR1=>?_|refine qy fun R1 hR1=>?_|refine qx fun R1 hR1=>?_);(simp only [go_sem,seval,-List.reduceReplicate,Q6]);(repeat' with_reducible refine And.intro ?_ ?_);all_goals first|(refine hR1 _ ?_;clear hR1 R1)|((first|refine cq (cc (QLo _ _ _)) ?_|refine ce (cf (QA8 _ _ _) ?_)|refine ⟨_,_,rfl,.inr (CallB.ctr ok (QA8 _ _ _) (by first|rfl|(simp [go_sem];done)|fail) ?_)⟩);all_goals ((try simp only [go_sem,seval,-List.reduceReplicate,Q6]);(repeat' with_reducible refine And.intro ?_ ?_);all_goals first|(refine hR1 _ ?_;clear hR1 R1)|omega|rfl|decide|assumption|(intro _;omega)|(simp;done)|(simp [-List.getD_eq_getElem?_getD];omega)))|omega|rfl|decide|assumption|(intro _;omega)|(simp;done)|(simp [-List.getD_eq_getElem?_getD];omega))
  | ((with_reducible first|refine qw ?_|refine Q4 ?_);refine hR _ ?_;clear hR R;try simp only [go_sem,vN,Nat.reduceBEq])
  | (with_reducible first|refine qv ?_ ?_|exact qu|refine qt ?_ ?_)
  | (with_reducible first|refine J1 ?_|refine J2 ?_|refine J3 ?_|refine J4 ?_|refine J5 ?_|refine J6 ?_|refine J7 ?_|refine J8 (by decide) ?_|refine J9 ?_|refine Q2 ?_|refine Q1 ?_|refine Yc ?_)
  | ((with_reducible refine Qe 16 ?_)
     have hI:=QLW hin hb56
     (with_reducible refine rg vN fun R hR=>?_);simp only [go_sem,QC])
  | ((with_reducible refine Qe 22 ?_)
     have hI:=(QHz hin hb80).1
     (with_reducible refine rg vN fun R hR=>?_);simp only [go_sem,QC])
  | ((with_reducible refine Qe 25 ?_)
     have hI:=QPH hin hb91
     (with_reducible refine rg vN fun R hR=>?_);simp only [go_sem,QC])
  | ((with_reducible refine Qe 5 ?_)
     have hI:=QNN hin (by omega) (by omega)
     (with_reducible refine rg vN fun R hR=>?_);simp only [go_sem,QC])
  | ((with_reducible refine Qe 18 ?_)
     have hI:=QLV hin hb64
     refine WT ok QQ (.take 0 (.take 1 (.take 2 (.take 3 (.take 4 (.take 5 (.take 6 (.take 7 (.take 8 (.br 9 .done .nil)))))))))) [9] vN (by kernel_rfl) (fun R hR=>?_);simp only [go_sem,QC])
  | ((with_reducible refine Qe 6 ?_)
     have hI:(0≤(p.instr g).a∧(p.instr g).a<8)∧(0≤(p.instr g).b∧(p.instr g).b<8):=by
      by_cases h:(p.instr g).op≤15
      · have:=QRF hin (by omega) h;omega
      · have:=QNN hin (by omega) (by omega);omega
     refine WT ok QQ (.take 0 (.take 1 (.take 2 (.take 3 (.take 4 (.take 5 (.take 6 (.take 7 (.br 8 (.take 9 (.take 10 (.take 11 (.take 12 (.take 13 .done))))) .nil))))))))) [] vN (by kernel_rfl) (fun R hR=>?_);simp only [go_sem,QC])
  | ((with_reducible refine rg vN fun R hR=>?_);simp only [go_sem,QC])
  | ((with_reducible refine QI 16 rfl (fun hb16=>?_) fun hb16=>?_);all_goals (try simp [-List.getD_eq_getElem?_getD] at hb16;try (exfalso;omega)))
  | ((with_reducible refine QI 35 rfl (fun hb35=>?_) fun hb35=>?_);all_goals (try simp [-List.getD_eq_getElem?_getD] at hb35;try (exfalso;omega)))
  | ((with_reducible refine QI 43 rfl (fun hb43=>?_) fun hb43=>?_);all_goals (try simp [-List.getD_eq_getElem?_getD] at hb43;try (exfalso;omega)))
  | ((with_reducible refine QI 56 rfl (fun hb56=>?_) fun hb56=>?_);all_goals (try simp [-List.getD_eq_getElem?_getD] at hb56;try (exfalso;omega)))
  | ((with_reducible refine QI 64 rfl (fun hb64=>?_) fun hb64=>?_);all_goals (try simp [-List.getD_eq_getElem?_getD] at hb64;try (exfalso;omega)))
  | ((with_reducible refine QI 75 rfl (fun hb75=>?_) fun hb75=>?_);all_goals (try simp [-List.getD_eq_getElem?_getD] at hb75;try (exfalso;omega)))
  | ((with_reducible refine QI 80 rfl (fun hb80=>?_) fun hb80=>?_);all_goals (try simp [-List.getD_eq_getElem?_getD] at hb80;try (exfalso;omega)))
  | ((with_reducible refine QI 87 rfl (fun hb87=>?_) fun hb87=>?_);all_goals (try simp [-List.getD_eq_getElem?_getD] at hb87;try (exfalso;omega)))
  | ((with_reducible refine QI 91 rfl (fun hb91=>?_) fun hb91=>?_);all_goals (try simp [-List.getD_eq_getElem?_getD] at hb91;try (exfalso;omega)))
  | ((with_reducible refine QI 98 rfl (fun hb98=>?_) fun hb98=>?_);all_goals (try simp [-List.getD_eq_getElem?_getD] at hb98;try (exfalso;omega)))
  | ((with_reducible refine QI 105 rfl (fun hb105=>?_) fun hb105=>?_);all_goals (try simp [-List.getD_eq_getElem?_getD] at hb105;try (exfalso;omega)))
  | ((with_reducible first|refine ZQ ?_|refine ZP ?_)
     simp only [go_sem,QL,QM,QH,seval]
     first
      | (have q:(p.instr g).op=40:=hb56
         exact ⟨rfl,congrArg (fun r:Gor × Bool=>some r.1.v) (QNJ QB (by omega) (by omega) hb56).symm⟩)
      | (have q:(p.instr g).op=41:=hb64
         exact ⟨rfl,congrArg (fun r:Gor × Bool=>some r.1.v) (QNI QB (by omega) (by omega) (by omega) hb64).symm⟩)
      | (have q:(p.instr g).op=42:=hb75
         exact ⟨rfl,congrArg (fun r:Gor × Bool=>some r.1.v) (QNH QB (by omega) (by omega) (by omega) (by omega) hb75).symm⟩)
      | (have q:¬_=_:=hb87
         exact ⟨rfl,congrArg (fun r:Gor × Bool=>some r.1.v) (QNG QB (by omega) (by omega) (by omega) (by omega) (by omega) hb80 hb87).symm⟩)
      | (have q:_=_:=hb87
         exact ⟨rfl,congrArg (fun r:Gor × Bool=>some r.1.v) (QHy QB (by omega) (by omega) (by omega) (by omega) (by omega) hb80 hb87).symm⟩)
      | (have q:_=_:=hb98
         exact ⟨rfl,congrArg (fun r:Gor × Bool=>some r.1.v) (QHx QB (by omega) (by omega) (by omega) (by omega) (by omega) (by omega) hb91 hb98).symm⟩)
      | (have q:¬_=_:=hb98
         exact ⟨rfl,congrArg (fun r:Gor × Bool=>some r.1.v) (QNF QB (by omega) (by omega) (by omega) (by omega) (by omega) (by omega) hb91 hb98).symm⟩)
      | (have q:(p.instr g).op=45:=hb105
         exact ⟨rfl,congrArg (fun r:Gor × Bool=>some r.1.v) (QNE (p:=p) (g:=g) QB (by omega) (by omega) (by omega) (by omega) (by omega) (by omega) (by omega) ).symm⟩)
      | (have q:15<(p.instr g).op:=hb16
         have q:_=_:=hb35
         exact ⟨rfl,congrArg (fun r:Gor × Bool=>some r.1.v) (QNK QB (by omega) (by omega) hb35).symm⟩)
      | (have q:15<(p.instr g).op:=hb16
         have q:_=_:=hb43
         exact ⟨rfl,congrArg (fun r:Gor × Bool=>some r.1.v) (QNL QB (by omega) (by omega) hb35 hb43).symm⟩)
      | (have q:15<(p.instr g).op:=hb16
         have q:¬_=_:=hb43
         exact ⟨rfl,congrArg (fun r:Gor × Bool=>some r.1.v) (ls2 QB (by omega) (by omega) hb35 hb43).symm⟩)
      | (have q:(p.instr g).op≤15:=hb16
         have q:_=_:=hb35
         have q2:=(Zd _ _ _).1 hb35
         exfalso
         omega)
      | (have q:(p.instr g).op≤15:=hb16
         have q:_=_:=hb43
         have q2:=(Zd _ _ _).2 hb43
         exfalso
         omega)
      | (have q:(p.instr g).op≤15:=hb16
         exact ⟨rfl,congrArg (fun r:Gor × Bool=>some r.1.v) (ls1 QB (by omega) ).symm⟩))
theorem vE (p:Prg) (g:Gor) (x:Instr) (hx:x=p.instr g) (hok:p.Ok) (hgi:gorIn p g) (hl:Qp (p.instr g).op=true):Ctr Go.Proofs.Tryz.prog tab 124 [44,104] [44] [g.v,x.v] [(Qi QB p g).1.v]:=by subst hx;exact QGS p g hok hgi hl
def QK8:List (List Nat):=[[2,3,4,6],[2,4,6,7],[2,4,6,7,26],[2,4,6,7,28],[4,6],[6],[2,4,6,7],[2,4,6,7],[6]]
theorem QDs (p:Prg) (g:Gor) (m0:Nat) (hp:p.Fit) (hr:QN p=true) (hg:gorIn p g) (hm0:m0≤4096) (h1:g.status=1):Ctr Go.Proofs.Tryz.prog tab 88 [26,44,3] [44] [p.v,g.v,.int m0] [(Zr QB p m0 g).v]:=by
 have hfit:=hp
 have hcode:=p.code_len hp
 have hsl:=p.sels_len hp
 obtain ⟨hp1,hp2,hp3,hp4⟩:=hp
 have hok:=Prg.ok hr
 have hg0:=hg.f0
 have hg1:=hg.f1
 refine Ctr.body ok Go.Proofs.Tryz.func88 rfl rfl 41 rfl [.cell 6 44] rfl (by simp [QF]) ?_
 simp only [go_sem,Nat.reduceAdd]
 repeat' first
  | ((with_reducible refine SARA.told 1 5 ?_)
     rw [XM (by omega)])
  | ((with_reducible refine SARA.told 2 8 ?_)
     rw [Zx (by omega)])
  | ((with_reducible refine SART.told 7 4 ?_)
     rw [Zx (by omega)])
  | ((with_reducible first|refine Q5 fun R1 hR1=>?_|refine qz fun R1 hR1=>?_|refine qy fun R1 hR1=>?_|refine qx fun R1 hR1=>?_);(simp only [go_sem,seval,-List.reduceReplicate,Q6,Bool.cond_false_right,Bool.cond_true_left,Gor.put0,Gor.put2,Gor.put3,Gor.put4,ZK]);(repeat' with_reducible refine And.intro ?_ ?_);all_goals first|(refine hR1 _ ?_;clear hR1 R1)|(intro hgf;simp only [hgf];refine hR1 _ ?_;clear hR1 R1)|((first|refine cq (cc (qO _)) ?_|refine Y4 (fun hg=>cc (qO _)) ?_|refine cq (cc (vE p h ((p.funcs.getD g.func.toNat default).code.getD h.pc.toNat default) (by unfold Prg.instr;rw [hfn]) hok hgi hlc)) ?_|refine Y4 (fun hg=>cc (vE p h ((p.funcs.getD g.func.toNat default).code.getD h.pc.toNat default) (by unfold Prg.instr;rw [hfn]) hok hgi hlc)) ?_);all_goals ((try simp only [go_sem,seval,-List.reduceReplicate,Q6,Bool.cond_false_right,Bool.cond_true_left,Gor.put0,Gor.put2,Gor.put3,Gor.put4,ZK]);(repeat' with_reducible refine And.intro ?_ ?_);all_goals first|(refine hR1 _ ?_;clear hR1 R1)|(intro hgf;simp only [hgf];refine hR1 _ ?_;clear hR1 R1)|exact Zp))|exact Zp)
  | ((with_reducible first|refine qw ?_|refine Q4 ?_);refine hR _ ?_;clear hR R;try simp only [go_sem,QK8,Nat.reduceBEq])
  | (with_reducible first|refine qv ?_ ?_|exact qu|refine qt ?_ ?_)
  | (with_reducible first|refine J1 ?_|refine J2 ?_|refine J3 ?_|refine J4 ?_|refine J5 ?_|refine J6 ?_|refine J7 ?_|refine J8 (by decide) ?_|refine J9 ?_|refine Xu ?_|refine Q2 ?_|refine Q1 ?_|refine Yc ?_|refine Xt ?_)
  | ((with_reducible refine Qe 2 ?_)
     obtain ⟨hf0,hf1,hpc0,hpc1,h8⟩:=hgi
     have hgi:gorIn p h:=⟨hf0,hf1,hpc0,hpc1,h8⟩
     rw [hfn] at hpc1
     have hcl:=hok.code g.func.toNat (by omega)
     (with_reducible refine rg QK8 fun R hR=>?_);simp only [go_sem,QC])
  | ((with_reducible refine Qe 3 ?_)
     have hlc:Qp (p.instr h).op=true:=by
      unfold Prg.instr
      rw [hfn]
      exact hb26.2
     (with_reducible refine rg QK8 fun R hR=>?_);simp only [go_sem,QC])
  | ((with_reducible refine Qe 7 ?_)
     refine WT ok QQ (.take 0 (.take 1 (.take 2 (.take 3 (.take 4 (.take 5 (.br 6 (.br 7 .done .nil) .nil))))))) [7] QK8 (by kernel_rfl) (fun R hR=>?_);simp only [go_sem,QC])
  | ((with_reducible refine rg QK8 fun R hR=>?_);simp only [go_sem,QC])
  | ((with_reducible refine QI 26 rfl (fun hb26=>?_) fun hb26=>?_);all_goals (try simp [-List.getD_eq_getElem?_getD] at hb26;try (exfalso;omega)))
  | ((with_reducible refine QI 28 rfl (fun hb28=>?_) fun hb28=>?_);all_goals (try simp [-List.getD_eq_getElem?_getD] at hb28;try (exfalso;omega)))
  | ((with_reducible refine Ya ?_)
     refine Zv (Qo (by first|rfl|(simp;done)|fail)) (Yb (fun n τ=>∃ (m:Nat) (h:Gor),n=m∧(m≤4096∧gorIn p h∧h.func=g.func∧onN QB p m h=Zr QB p m0 g)∧τ={ tm:=[(2,true,.int .i64 m),(4,true,.ptr 1 [] 44),(6,true,.ptr 2 [] 44),(7,true,.fs 104 ((p.funcs.getD g.func.toNat default).code.map Instr.v) false)],ob:=[.var 26 (.data 26 p.v),.var 44 (.data 44 h.v),.var 44 (.data 44 zeroGor.v)],out:=[],nt:=41 }) (m0) ⟨m0,g,rfl,⟨hm0,hg,rfl,QK0 QB h1⟩,rfl⟩ ?_)
     rintro n τ ⟨m,h,hn,⟨hm,hgi,hfn,hset⟩,rfl⟩)
  | ((with_reducible refine WC ?_)
     first
      | (obtain ⟨m',rfl⟩:∃ m',m=m'+1:=⟨m-1,by omega⟩
         have hw:IntKind.i64.wrap (((m'+1:Nat):Int)-1)=(m':Int):=by rw [Qc (by omega) (by omega)];omega
         have hin':=Zs QB hok hgi hlc
         have hst:=QKy QB (m:=m') hb26.1 hlc
         refine Z0 m' _ (by omega) (Qo (by simp only [hw])) ⟨m',_,rfl,⟨by omega,hin',(QBK QB h).trans hfn,by rw [← hst];exact hset⟩,rfl⟩))
  | ((with_reducible first|refine ZQ ?_|refine ZP ?_)
     simp only [go_sem,QL,QM,QH,seval]
     first
      | (have q:m=0:=hb28
         subst hb28
         rw [QKw QB hb26.1 hlc] at hset
         exact ⟨rfl,congrArg (fun g:Gor=>some g.v) hset⟩)
      | (have hs:onN QB p m h=h:=by
          by_cases q:h.status=1
          · exact QKx QB (by unfold Prg.instr;rw [hfn];exact hb26 q)
          · exact QKz QB q
         rw [hs] at hset
         exact ⟨rfl,congrArg (fun g:Gor=>some g.v) hset⟩))
def QTT:List (List Nat):=[[0],[2]]
theorem zh (fuel:Int):Ctr Go.Proofs.Tryz.prog tab 87 [3] [4] [.int fuel] [.bool (decide (0≤fuel)&&decide (fuel≤4096))]:=by
 refine Ctr.body ok Go.Proofs.Tryz.func87 rfl rfl 9 rfl [.tmp 2] rfl (by simp [QF]) ?_
 simp only [go_sem,Nat.reduceAdd]
 repeat' first
  | ((with_reducible refine Q5 fun R1 hR1=>?_);(simp only [go_sem,seval,-List.reduceReplicate,Bool.cond_false_right,Bool.cond_true_left]);(repeat' with_reducible refine And.intro ?_ ?_);all_goals first|(refine hR1 _ ?_;clear hR1 R1)|exact ob3)
  | ((with_reducible refine Q4 ?_);refine hR _ ?_;clear hR R;try simp only [go_sem,QTT,Nat.reduceBEq])
  | (with_reducible first|refine J1 ?_|refine J2 ?_|refine Q2 ?_|refine Q1 ?_)
  | ((with_reducible refine rg QTT fun R hR=>?_);simp only [go_sem,QC])
  | ((with_reducible first|refine ZQ ?_|refine ZP ?_)
     simp only [go_sem,QL,QM,QH,seval]
     first|exact ⟨rfl,rfl⟩|rfl)
theorem UZ (p:Prg) (g:Gor) (fuel:Int) (hp:p.Fit) (hr:QN p=true) (hg:gorIn p g) (hf:0≤fuel∧fuel≤4096) (h1:g.status=1):Ctr Go.Proofs.Tryz.prog tab 88 [26,44,3] [44] [p.v,g.v,.int fuel] [(Zr QB p fuel.toNat g).v]:=by
 obtain ⟨m,rfl⟩:=Int.eq_ofNat_of_zero_le hf.1
 exact QDs p g m hp hr hg (by omega) h1
def QHo:List (List Nat):=[[2,3,4,5,8],[2,3,4,5,8,13],[8,9],[2,3,4,5,8,18],[8,9],[2,3,4,5,8,30],[8,9],[2,3,4,5,8,35],[8,9],[2,3,4,5,8,10],[2,3,4,5,8,10,48],[2,3,4,5,8,10],[5,8],[8,9]]
theorem QFH (p:Prg) (s:Stt) (g fuel:Int) (hp:p.Fit) (hs:s.Shape):Ctr Go.Proofs.Tryz.prog tab 166 [26,47,3,3] [47,30] [p.v,s.v,.int g,.int fuel] [(QZ QB p s g fuel).1.v,.int (QZ QB p s g fuel).2]:=by
 have hpp:=hp
 have hfit:=hp
 have hcode:=p.code_len hp
 have hsl:=p.sels_len hp
 obtain ⟨hp1,hp2,hp3,hp4⟩:=hp
 have hs5:=hs.gos
 refine Ctr.body ok Go.Proofs.Tryz.func166 rfl rfl 58 rfl [.cell 8 47,.tmp 9] rfl (by simp [QF]) ?_
 simp only [go_sem,Nat.reduceAdd]
 repeat' first
  | ((with_reducible refine SARA.told 9 4 ?_)
     rw [Yf (by omega)])
  | ((with_reducible refine Q5 fun R1 hR1=>?_);(simp only [go_sem,seval,-List.reduceReplicate,Q6,QE,Bool.cond_false_right,Bool.cond_true_left,Gor.put0,Gor.put2,Gor.put3,Gor.put4,ZK]);(repeat' with_reducible refine And.intro ?_ ?_);all_goals first|(refine hR1 _ ?_;clear hR1 R1)|(intro hgf;simp only [hgf];refine hR1 _ ?_;clear hR1 R1)|((first|refine cq (cc (Vt p hpp)) ?_|refine Y4 (fun hg=>cc (Vt p hpp)) ?_|refine cq (cc (y6 p s hpp hs)) ?_|refine Y4 (fun hg=>cc (y6 p s hpp hs)) ?_|refine cq (cc (zh _)) ?_|refine Y4 (fun hg=>cc (zh _)) ?_|refine cq (cc (UZ p ⟨1,(s.gos.getD g.toNat default).func,(s.gos.getD g.toNat default).pc,(s.gos.getD g.toNat default).why,(s.gos.getD g.toNat default).regs⟩ fuel hpp hb13 hgi1 hf rfl)) ?_|refine Y4 (fun hg=>cc (UZ p ⟨1,(s.gos.getD g.toNat default).func,(s.gos.getD g.toNat default).pc,(s.gos.getD g.toNat default).why,(s.gos.getD g.toNat default).regs⟩ fuel hpp hb13 hgi1 hf rfl)) ?_);all_goals ((try simp only [go_sem,seval,-List.reduceReplicate,Q6,QE,Bool.cond_false_right,Bool.cond_true_left,Gor.put0,Gor.put2,Gor.put3,Gor.put4,ZK]);(repeat' with_reducible refine And.intro ?_ ?_);all_goals first|(refine hR1 _ ?_;clear hR1 R1)|(intro hgf;simp only [hgf];refine hR1 _ ?_;clear hR1 R1)|exact Zp))|exact Zp)
  | ((with_reducible refine Q4 ?_);refine hR _ ?_;clear hR R;try simp only [go_sem,QHo,Nat.reduceBEq])
  | (with_reducible first|refine J1 ?_|refine J2 ?_|refine J3 ?_|refine Q2 ?_|refine Q1 ?_)
  | ((with_reducible refine Qe 5 ?_)
     obtain ⟨hv1,hv2,hv3,hv4⟩:=W8 hb18
     (with_reducible refine rg QHo fun R hR=>?_);simp only [go_sem,QC])
  | ((with_reducible refine Qe 9 ?_)
     have hgi:=QGo hs hv3 (g:=g) (by omega) (by omega) (by omega)
     have hf:0≤fuel∧fuel≤4096:=by omega
     have hgi1:gorIn p ⟨1,(s.gos.getD g.toNat default).func,(s.gos.getD g.toNat default).pc,(s.gos.getD g.toNat default).why,(s.gos.getD g.toNat default).regs⟩:=⟨hgi.f0,hgi.f1,hgi.p0,hgi.p1,hgi.regs⟩
     (with_reducible refine rg QHo fun R hR=>?_);simp only [go_sem,QC])
  | ((with_reducible refine rg QHo fun R hR=>?_);simp only [go_sem,QC])
  | ((with_reducible refine QI 13 rfl (fun hb13=>?_) fun hb13=>?_);all_goals (try simp [-List.getD_eq_getElem?_getD] at hb13;try (exfalso;omega)))
  | ((with_reducible refine QI 18 rfl (fun hb18=>?_) fun hb18=>?_);all_goals (try simp [-List.getD_eq_getElem?_getD] at hb18;try (exfalso;omega)))
  | ((with_reducible refine QI 30 rfl (fun hb30=>?_) fun hb30=>?_);all_goals (try simp [-List.getD_eq_getElem?_getD] at hb30;try (exfalso;omega)))
  | ((with_reducible refine QI 35 rfl (fun hb35=>?_) fun hb35=>?_);all_goals (try simp [-List.getD_eq_getElem?_getD] at hb35;try (exfalso;omega)))
  | ((with_reducible refine QI 48 rfl (fun hb48=>?_) fun hb48=>?_);all_goals (try simp [-List.getD_eq_getElem?_getD] at hb48;try (exfalso;omega)))
  | ((with_reducible first|refine ZQ ?_|refine ZP ?_)
     simp only [go_sem,QL,QM,QH,seval]
     first
      | (have q:_∨_:=hb48
         have e:QZ QB p s g fuel=(⟨s.vars,s.owner,s.chans,s.gos.set g.toNat (Yh QB p (s.gor g) fuel),s.count⟩,0):=(if_neg (by rw [hb13];simp)).trans ((if_neg (by rw [hb18];simp)).trans ((if_neg (by omega)).trans ((if_neg (by omega)).trans (if_pos hb48))))
         rw [e]
         exact ⟨⟨rfl,rfl⟩,⟨rfl,rfl⟩⟩)
      | (have q:_∧_:=hb48
         have e:QZ QB p s g fuel=(s,0):=(if_neg (by rw [hb13];simp)).trans ((if_neg (by rw [hb18];simp)).trans ((if_neg (by omega)).trans ((if_neg (by omega)).trans (if_neg (fun q=>q.elim hb48.1 hb48.2)))))
         rw [e]
         exact ⟨⟨rfl,rfl⟩,⟨rfl,rfl⟩⟩)
      | (have q:=hb35
         have e:QZ QB p s g fuel=(zeroStt,9):=(if_neg (by rw [hb13];simp)).trans ((if_neg (by rw [hb18];simp)).trans ((if_neg (by omega)).trans (if_pos hb35)))
         rw [e]
         exact ⟨⟨rfl,rfl⟩,⟨rfl,rfl⟩⟩)
      | (have q:=hb30
         have e:QZ QB p s g fuel=(zeroStt,1):=(if_neg (by rw [hb13];simp)).trans ((if_neg (by rw [hb18];simp)).trans (if_pos (by omega)))
         rw [e]
         exact ⟨⟨rfl,rfl⟩,⟨rfl,rfl⟩⟩)
      | (have q:=hb18
         have e:QZ QB p s g fuel=(zeroStt,4):=(if_neg (by rw [hb13];simp)).trans (if_pos hb18)
         rw [e]
         exact ⟨⟨rfl,rfl⟩,⟨rfl,rfl⟩⟩)
      | (have e:QZ QB p s g fuel=(zeroStt,3):=if_pos hb13
         rw [e]
         exact ⟨⟨rfl,rfl⟩,⟨rfl,rfl⟩⟩))
def QQ8:List (List Nat):=[[1,2,4],[1,2,4,11],[4,5],[1,2,4,15],[4,5],[1,2,4,6],[1,2,4,6,19,20,21],[1,2,4,6,19,20,21,22],[1,2,4,6,7,8,19,20,21],[1,2,4,6,19,20,21],[1,2,4,6,19,20,21],[4,6],[4,5]]
theorem qN (p:Prg) (fuel:Int) (hp:p.Fit):Ctr Go.Proofs.Tryz.prog tab 45 [26,3] [47,30] [p.v,.int fuel] [(start QB p fuel).1.v,.int (start QB p fuel).2]:=by
 have hpp:=hp
 have hfit:=hp
 have hcode:=p.code_len hp
 have hsl:=p.sels_len hp
 obtain ⟨hp1,hp2,hp3,hp4⟩:=hp
 refine Ctr.body ok Go.Proofs.Tryz.func45 rfl rfl 39 rfl [.cell 4 47,.tmp 5] rfl (by simp [QF]) ?_
 simp only [go_sem,Nat.reduceAdd]
 repeat' first
  | ((with_reducible refine SARA.told 8 3 ?_)
     rw [xw (by omega)])
  | ((with_reducible refine Q5 fun R1 hR1=>?_);(simp only [go_sem,seval,-List.reduceReplicate,Q6,QE,Stt.put4,Stt.put0,Stt.put3,Bool.cond_false_right,Bool.cond_true_left,Gor.put0,Gor.put2,Gor.put3,Gor.put4,ZK]);(repeat' with_reducible refine And.intro ?_ ?_);all_goals first|(refine hR1 _ ?_;clear hR1 R1)|((first|refine cq (cc (Vt p hpp)) ?_|refine cq (cc (zh _)) ?_|refine cq (cc (UZ p (⟨1,0,0,0,List.replicate 8 0⟩:Gor) fuel hpp hr hgi hf rfl)) ?_);all_goals ((try simp only [go_sem,seval,-List.reduceReplicate,Q6,QE,Stt.put4,Stt.put0,Stt.put3,Bool.cond_false_right,Bool.cond_true_left,Gor.put0,Gor.put2,Gor.put3,Gor.put4,ZK]);(repeat' with_reducible refine And.intro ?_ ?_);all_goals first|(refine hR1 _ ?_;clear hR1 R1)|exact Zp))|exact Zp)
  | ((with_reducible refine Q4 ?_);refine hR _ ?_;clear hR R;try simp only [go_sem,QQ8,Nat.reduceBEq])
  | (with_reducible first|refine J1 ?_|refine J2 ?_|refine J3 ?_|refine J4 ?_|refine J5 ?_|refine J6 ?_|refine J7 ?_|refine J8 (by decide) ?_|refine J9 ?_|refine Xu ?_|refine Q2 ?_|refine Q1 ?_|refine Yc ?_|refine Xt ?_)
  | ((with_reducible refine Qe 5 ?_)
     have hr:QN p=true:=hb11
     have hok:=Prg.ok hr
     have hsz:=hok.sizes
     unfold Zz at hsz
     have hf:0≤fuel∧fuel≤4096:=by omega
     have hgi:gorIn p (⟨1,0,0,0,List.replicate 8 0⟩:Gor):=⟨(Vs hok).f0,(Vs hok).f1,(Vs hok).p0,(Vs hok).p1,rfl⟩
     (with_reducible refine rg QQ8 fun R hR=>?_);simp only [go_sem,QC])
  | ((with_reducible refine rg QQ8 fun R hR=>?_);simp only [go_sem,QC])
  | ((with_reducible refine QI 11 rfl (fun hb11=>?_) fun hb11=>?_);all_goals (try simp [-List.getD_eq_getElem?_getD] at hb11;try (exfalso;omega)))
  | ((with_reducible refine QI 15 rfl (fun hb15=>?_) fun hb15=>?_);all_goals (try simp [-List.getD_eq_getElem?_getD] at hb15;try (exfalso;omega)))
  | ((with_reducible refine QI 22 rfl (fun hb22=>?_) fun hb22=>?_);all_goals (try simp [-List.getD_eq_getElem?_getD] at hb22;try (exfalso;omega)))
  | ((with_reducible refine Ya ?_)
     refine Zv (Qo (by (simp only [zL];rfl))) (Yb (fun n τ=>∃ (i:Nat),n=p.vars.length-i∧(i≤p.vars.length)∧τ={ tm:=[(1,true,.int .i64 fuel),(2,true,.ptr 0 [] 26),(4,true,.ptr 1 [] 47),(6,true,.ptr 2 [] 47),(19,true,.fs 167 (p.vars.map Vr.v) false),(20,true,.int .i64 p.vars.length),(21,true,.int .i64 i)],ob:=[.var 26 (.data 26 p.v),.var 47 (.data 47 zeroStt.v),.var 47 (.data 47 (Stt.v ⟨YE p i,zeroStt.owner,zeroStt.chans,zeroStt.gos,1⟩))],out:=[],nt:=39 }) (p.vars.length) ⟨0,rfl,by omega,rfl⟩ ?_)
     rintro n τ ⟨i,hn,hi,rfl⟩)
  | ((with_reducible refine WC ?_)
     first
      | (have hlt:i<p.vars.length:=by omega
         refine Z0 (p.vars.length-(i+1)) _ (by omega) ((WS 3 rfl).trans (Qo (by simp only [QD hlt hp1,zM p (show i<8 by omega),List.take_succ_cons,List.take_zero]))) ⟨i+1,rfl,hlt,rfl⟩))
  | ((with_reducible first|refine ZQ ?_|refine ZP ?_)
     simp only [go_sem,QL,QM,QH,seval]
     first
      | (have hi':i=p.vars.length:=by omega
         subst hi'
         have e:start QB p fuel=(⟨YE p p.vars.length,zeroStt.owner,zeroStt.chans,zeroStt.gos.set 0 (Yh QB p zeroGor fuel),1⟩,0):=(if_neg (by rw [hr];simp)).trans (if_neg (by omega))
         rw [e]
         exact ⟨⟨rfl,rfl⟩,⟨rfl,rfl⟩⟩)
      | (have q:=hb15
         have e:start QB p fuel=(zeroStt,1):=(if_neg (by rw [hb11];simp)).trans (if_pos (by omega))
         rw [e]
         exact ⟨⟨rfl,rfl⟩,⟨rfl,rfl⟩⟩)
      | (have e:start QB p fuel=(zeroStt,3):=if_pos hb11
         rw [e]
         exact ⟨⟨rfl,rfl⟩,⟨rfl,rfl⟩⟩))
def QQ7:List (List Nat):=[[1],[1,3],[3,7,8],[3,7,8,9],[3,4,5,7,8],[3,4,7,8,19],[3,7,8],[3,7,8],[2]]
theorem QI1 (s:Stt) (hs:s.Shape):Ctr Go.Proofs.Tryz.prog tab 48 [47] [23] [s.v] [.list ((Ql s 6).map V.int)]:=by
 have hcode:True→True:=id
 have hsl:True→True:=id
 have hs5:=hs.gos
 refine Ctr.body ok Go.Proofs.Tryz.func48 rfl rfl 26 rfl [.tmp 2] rfl (by simp [QF]) ?_
 simp only [go_sem,Nat.reduceAdd]
 repeat' first
  | ((with_reducible refine SARA.told 4 2 ?_)
     rw [Yf (by omega)])
  | ((with_reducible refine Q5 fun R1 hR1=>?_);(simp only [go_sem,seval,-List.reduceReplicate,Q6,QE,Xv,z93,z3,Bool.cond_false_right,Bool.cond_true_left]);(repeat' with_reducible refine And.intro ?_ ?_);all_goals first|(refine hR1 _ ?_;clear hR1 R1)|exact VL)
  | ((with_reducible refine Q4 ?_);refine hR _ ?_;clear hR R;try simp only [go_sem,QQ7,Nat.reduceBEq])
  | (with_reducible first|refine J1 ?_|refine J2 ?_|refine J3 ?_|refine J4 ?_|refine J5 ?_|refine J6 ?_|refine J7 ?_|refine J8 (by decide) ?_|refine J9 ?_|refine Xu ?_|refine Q2 ?_|refine Q1 ?_|refine Yc ?_|refine Xt ?_)
  | ((with_reducible refine Qe 6 ?_)
     have hll:=QBL s i
     (with_reducible refine rg QQ7 fun R hR=>?_);simp only [go_sem,QC])
  | ((with_reducible refine rg QQ7 fun R hR=>?_);simp only [go_sem,QC])
  | ((with_reducible refine QI 9 rfl (fun hb9=>?_) fun hb9=>?_);all_goals (try simp [-List.getD_eq_getElem?_getD] at hb9;try (exfalso;omega)))
  | ((with_reducible refine QI 19 rfl (fun hb19=>?_) fun hb19=>?_);all_goals (try simp [-List.getD_eq_getElem?_getD] at hb19;try (exfalso;omega)))
  | ((with_reducible refine Ya ?_)
     refine Zv ((St.le.own (t:=3) 3 rfl).trans ((St.le.keep [3,7,8]).trans (Qo (by first|rfl|(simp [Ql];done))))) (Yb (fun n τ=>∃ (i:Nat),n=6-i∧(i≤6)∧τ={ tm:=[(3,true,.sl 1 3 0 (Ql s i).length false),(7,true,.data 45 (.agg (s.gos.map Gor.v))),(8,true,.int .i64 i)],ob:=[.var 47 (.data 47 s.v),.row 3 ((Ql s i).map V.int)],out:=[],nt:=26 }) (6) ⟨0,rfl,by omega,rfl⟩ ?_)
     rintro n τ ⟨i,hn,hi,rfl⟩)
  | ((with_reducible refine WC ?_)
     first
      | (have q:_∨_:=hb19
         have hlt:i<6:=by omega
         have hw:=QD (n:=i) (m:=256) (by omega) (by decide)
         have e:=zf s i
         rw [if_pos (by unfold V1;simpa using hb19)] at e
         refine Z0 (6-(i+1)) _ (by omega) ((WS 2 rfl).trans (Qo (by simp [-List.getD_eq_getElem?_getD,hw,e,List.take_of_length_le]))) ⟨i+1,rfl,hlt,rfl⟩)
      | (have q:_∧_:=hb19
         have hlt:i<6:=by omega
         have hw:=QD (n:=i) (m:=256) (by omega) (by decide)
         have e:=zf s i
         rw [if_neg (by unfold V1;simpa using hb19),List.append_nil] at e
         refine Z0 (6-(i+1)) _ (by omega) ((WS 2 rfl).trans (Qo (by simp [-List.getD_eq_getElem?_getD,hw,e,List.take_of_length_le]))) ⟨i+1,rfl,hlt,rfl⟩))
  | ((with_reducible first|refine ZQ ?_|refine ZP ?_)
     simp only [go_sem,QL,QM,QH,seval]
     have e:i=6:=by omega
     subst e
     refine ⟨rfl,?_⟩
     simp [List.take_of_length_le])
def QTd:List (List Nat):=[[2,3],[2,3,5],[2,3,13],[4],[17],[4],[4]]
end Go.Eng.Tryz
