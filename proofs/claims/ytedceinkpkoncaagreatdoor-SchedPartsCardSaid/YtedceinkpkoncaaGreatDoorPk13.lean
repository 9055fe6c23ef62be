/- A part of the proof: walks through the program's functions, and what they compute. -/
import Derived.Test.YtedceinkpkoncaaGreatDoorPk12
set_option linter.unusedSimpArgs false
set_option linter.unusedVariables false
namespace Go.Eng.Tryz
open Go.RowKit Go.Eng
set_option maxHeartbeats 0
set_option maxRecDepth 20000
theorem vZ (op a b:Int):Ctr Go.Proofs.Tryz.prog tab 160 [43,2,2] [2,49] [.int op,.int a,.int b] [.int (QB op a b).1,.int (QB op a b).2] :=
 Ctr.ranged (VR Go.Proofs.Tryz.func160 rfl rfl) fun h=>QEq op a b (IntKind.i64_has (h 1 rfl rfl rfl)) (IntKind.i64_has (h 2 rfl rfl rfl))
end Go.Eng.Tryz
namespace Go.Eng.Tryz
open Go.RowKit Go.Eng
set_option maxHeartbeats 0
set_option maxRecDepth 20000
def QMK:List (List Nat):=[[1,2,3,6],[3,6],[6]]
theorem QJY (g:Gor) (status why:Int):Ctr Go.Proofs.Tryz.prog tab 159 [34,3,3] [34] [g.v,.int status,.int why] [(ended g status why).v]:=by
 refine Ctr.body ok Go.Proofs.Tryz.func159 rfl rfl 14 rfl [.cell 6 34] rfl (by simp [QE]) ?_
 simp only [go_sem,Nat.reduceAdd]
 repeat' first
  | ((with_reducible refine Q2 fun R1 hR1=>?_);(simp only [go_sem,seval,-List.reduceReplicate,Qv]);(repeat' with_reducible refine And.intro ?_ ?_);all_goals first|(refine hR1 _ ?_;clear hR1 R1)|omega|rfl|decide|assumption|(intro _;omega)|(simp;done)|(simp;omega)|(simp [QQ,maxLen,by3,QDH,QFc,QJo,QJp]<;>omega))
  | ((with_reducible refine Q1 ?_);refine hR _ ?_;clear hR R;try simp only [go_sem,QMK,Nat.reduceBEq])
  | (with_reducible first|refine J1 ?_|refine J2 ?_|refine Q0 ?_|refine Qz ?_)
  | ((with_reducible refine rg QMK fun R hR=>?_);simp only [go_sem,QC])
  | ((with_reducible first|refine ZH ?_|refine ZG ?_)
     simp only [go_sem,QJ,QK,QG,seval]
     exact ⟨rfl,rfl⟩)
def wK:List (List Nat):=[[2,3,4],[2,3,4],[2,3,4,13],[2,3,4,5],[2,3,4,5,16],[2,3,4,5],[2,3,4,6,7],[2,3,4,6,34],[2,3,4,6,34,35],[2,4],[4],[2,3,4,6,43],[2,4],[4],[2,4],[2,3,4,13,56],[2,4],[2,3,4,13,64],[2,4],[2,3,4,13,75],[2,4],[2,3,4,13,80],[2,3,4,87],[2,4],[2,3,4,13,91],[2,4,98],[2,4],[4],[2,3,4,105],[2,4],[4],[4]]
theorem QEw (p:Prg) (g:Gor) (hok:p.Ok) (hgi:gorIn p g) (hl:Ql (p.instr g).op=true):Ctr Go.Proofs.Tryz.prog tab 139 [34,129] [34] [g.v,(p.instr g).v] [(Qg QB p g).1.v]:=by
 obtain ⟨hf0,hf1,hpc0,hpc1,h8⟩:=hgi
 have hgi:gorIn p g:=⟨hf0,hf1,hpc0,hpc1,h8⟩
 have hcl:=hok.code g.func.toNat (by omega)
 have hrg:=hok.regs g.func.toNat
 have hin:=XU hok hgi
 have hlr:=V6 hl
 refine Ctr.body ok Go.Proofs.Tryz.func139 rfl rfl 114 rfl [.cell 4 34] rfl (by simp [QE]) ?_
 simp only [go_sem,Nat.reduceAdd]
 repeat' first
  | ((with_reducible refine SARA.told 1 3 ?_)
     rw [QU (n:=g.pc+1) (by omega) (by omega)])
  | ((with_reducible refine SARA.told 26 3 ?_)
     rw [QU (n:=g.pc+1-1) (by omega) (by omega),show g.pc+1-1=g.pc by omega])
  | ((with_reducible refine SARA.told 29 3 ?_)
     rw [QU (n:=g.pc+1-1) (by omega) (by omega),show g.pc+1-1=g.pc by omega])
  | ((with_reducible refine SARA.told 9 3 ?_)
     rw [QU (n:=g.pc+1-1) (by omega) (by omega),show g.pc+1-1=g.pc by omega])
  | ((with_reducible refine SARA.told 12 3 ?_)
     rw [QU (n:=g.pc+1-1) (by omega) (by omega),show g.pc+1-1=g.pc by omega])
  | ((with_reducible first|refine Q2 fun R1 hR1=>?_|refine qR fun R1 hR1=>?_|refine qQ fun R1 hR1=>?_|refine qP fun R1 hR1=>?_);(simp only [go_sem,seval,-List.reduceReplicate,Qv]);(repeat' with_reducible refine And.intro ?_ ?_);all_goals first|(refine hR1 _ ?_;clear hR1 R1)|((first|refine cq (cc (QJY _ _ _)) ?_|refine ce (cf (vZ _ _ _) ?_)|refine ⟨_,_,rfl,.inr (CallB.ctr ok (vZ _ _ _) (by first|rfl|(simp [go_sem];done)|fail) ?_)⟩);all_goals ((try simp only [go_sem,seval,-List.reduceReplicate,Qv]);(repeat' with_reducible refine And.intro ?_ ?_);all_goals first|(refine hR1 _ ?_;clear hR1 R1)|omega|rfl|decide|assumption|(intro _;omega)|(simp;done)|(simp [-List.getD_eq_getElem?_getD];omega)))|omega|rfl|decide|assumption|(intro _;omega)|(simp;done)|(simp [-List.getD_eq_getElem?_getD];omega))
  | ((with_reducible first|refine qO ?_|refine Q1 ?_);refine hR _ ?_;clear hR R;try simp only [go_sem,wK,Nat.reduceBEq])
  | (with_reducible first|refine qN ?_ ?_|exact qM|refine qL ?_ ?_)
  | (with_reducible first|refine J1 ?_|refine J2 ?_|refine J3 ?_|refine J4 ?_|refine J5 ?_|refine J6 ?_|refine J7 ?_|refine J8 (by decide) ?_|refine J9 ?_|refine Q0 ?_|refine Qz ?_|refine YZ ?_)
  | ((with_reducible refine QZ 16 ?_)
     have hI:=QJI hin hb56
     (with_reducible refine rg wK fun R hR=>?_);simp only [go_sem,QC])
  | ((with_reducible refine QZ 22 ?_)
     have hI:=(QGC hin hb80).1
     (with_reducible refine rg wK fun R hR=>?_);simp only [go_sem,QC])
  | ((with_reducible refine QZ 25 ?_)
     have hI:=QMp hin hb91
     (with_reducible refine rg wK fun R hR=>?_);simp only [go_sem,QC])
  | ((with_reducible refine QZ 5 ?_)
     have hI:=QLC hin (by omega) (by omega)
     (with_reducible refine rg wK fun R hR=>?_);simp only [go_sem,QC])
  | ((with_reducible refine QZ 18 ?_)
     have hI:=QJH hin hb64
     refine WJ ok QN (.take 0 (.take 1 (.take 2 (.take 3 (.take 4 (.take 5 (.take 6 (.take 7 (.take 8 (.br 9 .done .nil)))))))))) [9] wK (by kernel_rfl) (fun R hR=>?_);simp only [go_sem,QC])
  | ((with_reducible refine QZ 6 ?_)
     have hI:(0≤(p.instr g).a∧(p.instr g).a<8)∧(0≤(p.instr g).b∧(p.instr g).b<8):=by
      by_cases h:(p.instr g).op≤15
      · have:=QOS hin (by omega) h;omega
      · have:=QLC hin (by omega) (by omega);omega
     refine WJ ok QN (.take 0 (.take 1 (.take 2 (.take 3 (.take 4 (.take 5 (.take 6 (.take 7 (.br 8 (.take 9 (.take 10 (.take 11 (.take 12 (.take 13 .done))))) .nil))))))))) [] wK (by kernel_rfl) (fun R hR=>?_);simp only [go_sem,QC])
  | ((with_reducible refine rg wK fun R hR=>?_);simp only [go_sem,QC])
  | ((with_reducible refine QH 16 rfl (fun hb16=>?_) fun hb16=>?_);all_goals (try simp [-List.getD_eq_getElem?_getD] at hb16;try (exfalso;omega)))
  | ((with_reducible refine QH 35 rfl (fun hb35=>?_) fun hb35=>?_);all_goals (try simp [-List.getD_eq_getElem?_getD] at hb35;try (exfalso;omega)))
  | ((with_reducible refine QH 43 rfl (fun hb43=>?_) fun hb43=>?_);all_goals (try simp [-List.getD_eq_getElem?_getD] at hb43;try (exfalso;omega)))
  | ((with_reducible refine QH 56 rfl (fun hb56=>?_) fun hb56=>?_);all_goals (try simp [-List.getD_eq_getElem?_getD] at hb56;try (exfalso;omega)))
  | ((with_reducible refine QH 64 rfl (fun hb64=>?_) fun hb64=>?_);all_goals (try simp [-List.getD_eq_getElem?_getD] at hb64;try (exfalso;omega)))
  | ((with_reducible refine QH 75 rfl (fun hb75=>?_) fun hb75=>?_);all_goals (try simp [-List.getD_eq_getElem?_getD] at hb75;try (exfalso;omega)))
  | ((with_reducible refine QH 80 rfl (fun hb80=>?_) fun hb80=>?_);all_goals (try simp [-List.getD_eq_getElem?_getD] at hb80;try (exfalso;omega)))
  | ((with_reducible refine QH 87 rfl (fun hb87=>?_) fun hb87=>?_);all_goals (try simp [-List.getD_eq_getElem?_getD] at hb87;try (exfalso;omega)))
  | ((with_reducible refine QH 91 rfl (fun hb91=>?_) fun hb91=>?_);all_goals (try simp [-List.getD_eq_getElem?_getD] at hb91;try (exfalso;omega)))
  | ((with_reducible refine QH 98 rfl (fun hb98=>?_) fun hb98=>?_);all_goals (try simp [-List.getD_eq_getElem?_getD] at hb98;try (exfalso;omega)))
  | ((with_reducible refine QH 105 rfl (fun hb105=>?_) fun hb105=>?_);all_goals (try simp [-List.getD_eq_getElem?_getD] at hb105;try (exfalso;omega)))
  | ((with_reducible first|refine ZH ?_|refine ZG ?_)
     simp only [go_sem,QJ,QK,QG,seval]
     first
      | (have q:(p.instr g).op=40:=hb56
         exact ⟨rfl,congrArg (fun r:Gor × Bool=>some r.1.v) (QK8 QB (by omega) (by omega) hb56).symm⟩)
      | (have q:(p.instr g).op=41:=hb64
         exact ⟨rfl,congrArg (fun r:Gor × Bool=>some r.1.v) (QK7 QB (by omega) (by omega) (by omega) hb64).symm⟩)
      | (have q:(p.instr g).op=42:=hb75
         exact ⟨rfl,congrArg (fun r:Gor × Bool=>some r.1.v) (QK6 QB (by omega) (by omega) (by omega) (by omega) hb75).symm⟩)
      | (have q:¬_=_:=hb87
         exact ⟨rfl,congrArg (fun r:Gor × Bool=>some r.1.v) (QK5 QB (by omega) (by omega) (by omega) (by omega) (by omega) hb80 hb87).symm⟩)
      | (have q:_=_:=hb87
         exact ⟨rfl,congrArg (fun r:Gor × Bool=>some r.1.v) (QGB QB (by omega) (by omega) (by omega) (by omega) (by omega) hb80 hb87).symm⟩)
      | (have q:_=_:=hb98
         exact ⟨rfl,congrArg (fun r:Gor × Bool=>some r.1.v) (QGA QB (by omega) (by omega) (by omega) (by omega) (by omega) (by omega) hb91 hb98).symm⟩)
      | (have q:¬_=_:=hb98
         exact ⟨rfl,congrArg (fun r:Gor × Bool=>some r.1.v) (QK4 QB (by omega) (by omega) (by omega) (by omega) (by omega) (by omega) hb91 hb98).symm⟩)
      | (have q:(p.instr g).op=45:=hb105
         exact ⟨rfl,congrArg (fun r:Gor × Bool=>some r.1.v) (QK3 (p:=p) (g:=g) QB (by omega) (by omega) (by omega) (by omega) (by omega) (by omega) (by omega) ).symm⟩)
      | (have q:15<(p.instr g).op:=hb16
         have q:_=_:=hb35
         exact ⟨rfl,congrArg (fun r:Gor × Bool=>some r.1.v) (QK9 QB (by omega) (by omega) hb35).symm⟩)
      | (have q:15<(p.instr g).op:=hb16
         have q:_=_:=hb43
         exact ⟨rfl,congrArg (fun r:Gor × Bool=>some r.1.v) (QLA QB (by omega) (by omega) hb35 hb43).symm⟩)
      | (have q:15<(p.instr g).op:=hb16
         have q:¬_=_:=hb43
         exact ⟨rfl,congrArg (fun r:Gor × Bool=>some r.1.v) (ls2 QB (by omega) (by omega) hb35 hb43).symm⟩)
      | (have q:(p.instr g).op≤15:=hb16
         have q:_=_:=hb35
         have q2:=(Yp _ _ _).1 hb35
         exfalso
         omega)
      | (have q:(p.instr g).op≤15:=hb16
         have q:_=_:=hb43
         have q2:=(Yp _ _ _).2 hb43
         exfalso
         omega)
      | (have q:(p.instr g).op≤15:=hb16
         exact ⟨rfl,congrArg (fun r:Gor × Bool=>some r.1.v) (ls1 QB (by omega) ).symm⟩))
end Go.Eng.Tryz
namespace Go.Eng.Tryz
open Go.RowKit Go.Eng
set_option maxHeartbeats 0
set_option maxRecDepth 20000
theorem wD (p:Prg) (g:Gor) (x:Instr) (hx:x=p.instr g) (hok:p.Ok) (hgi:gorIn p g) (hl:Ql (p.instr g).op=true):Ctr Go.Proofs.Tryz.prog tab 139 [34,129] [34] [g.v,x.v] [(Qg QB p g).1.v]:=by subst hx;exact QEw p g hok hgi hl
def QEF:List (List Nat):=[[2,3,4,6],[2,4,6,7],[2,4,6,7,26],[2,4,6,7,28],[4,6],[6],[2,4,6,7],[2,4,6,7],[6]]
theorem QCQ (p:Prg) (g:Gor) (m0:Nat) (hp:p.Fit) (hr:QP p=true) (hg:gorIn p g) (hm0:m0≤4096) (h1:g.status=1):Ctr Go.Proofs.Tryz.prog tab 100 [26,34,3] [34] [p.v,g.v,.int m0] [(Zh QB p m0 g).v]:=by
 have hfit:=hp
 have hcode:=p.code_len hp
 have hsl:=p.sels_len hp
 obtain ⟨hp1,hp2,hp3,hp4⟩:=hp
 have hok:=Prg.ok hr
 have hg0:=hg.f0
 have hg1:=hg.f1
 refine Ctr.body ok Go.Proofs.Tryz.func100 rfl rfl 41 rfl [.cell 6 34] rfl (by simp [QE]) ?_
 simp only [go_sem,Nat.reduceAdd]
 repeat' first
  | ((with_reducible refine SARA.told 1 5 ?_)
     rw [XB (by omega)])
  | ((with_reducible refine SARA.told 2 8 ?_)
     rw [Zn (by omega)])
  | ((with_reducible refine SART.told 7 4 ?_)
     rw [Zn (by omega)])
  | ((with_reducible first|refine Q2 fun R1 hR1=>?_|refine qR fun R1 hR1=>?_|refine qQ fun R1 hR1=>?_|refine qP fun R1 hR1=>?_);(simp only [go_sem,seval,-List.reduceReplicate,Qv,Bool.cond_false_right,Bool.cond_true_left,Gor.put0,Gor.put2,Gor.put3,Gor.put4,ZC]);(repeat' with_reducible refine And.intro ?_ ?_);all_goals first|(refine hR1 _ ?_;clear hR1 R1)|(intro hgf;simp only [hgf];refine hR1 _ ?_;clear hR1 R1)|((first|refine cq (cc (Uy _)) ?_|refine ⟨_,_,rfl,.inl ⟨_,fun hg=>CallQ.ctr ok (Uy _) (by first|rfl|(simp [go_sem];done)|fail) rfl,?_⟩⟩|refine cq (cc (wD p h ((p.funcs.getD g.func.toNat default).code.getD h.pc.toNat default) (by unfold Prg.instr;rw [hfn]) hok hgi hlc)) ?_|refine ⟨_,_,rfl,.inl ⟨_,fun hg=>CallQ.ctr ok (wD p h ((p.funcs.getD g.func.toNat default).code.getD h.pc.toNat default) (by unfold Prg.instr;rw [hfn]) hok hgi hlc) (by first|rfl|(simp [go_sem];done)|fail) rfl,?_⟩⟩);all_goals ((try simp only [go_sem,seval,-List.reduceReplicate,Qv,Bool.cond_false_right,Bool.cond_true_left,Gor.put0,Gor.put2,Gor.put3,Gor.put4,ZC]);(repeat' with_reducible refine And.intro ?_ ?_);all_goals first|(refine hR1 _ ?_;clear hR1 R1)|(intro hgf;simp only [hgf];refine hR1 _ ?_;clear hR1 R1)|exact ZQ))|exact ZQ)
  | ((with_reducible first|refine qO ?_|refine Q1 ?_);refine hR _ ?_;clear hR R;try simp only [go_sem,QEF,Nat.reduceBEq])
  | (with_reducible first|refine qN ?_ ?_|exact qM|refine qL ?_ ?_)
  | (with_reducible first|refine J1 ?_|refine J2 ?_|refine J3 ?_|refine J4 ?_|refine J5 ?_|refine J6 ?_|refine J7 ?_|refine J8 (by decide) ?_|refine J9 ?_|refine WL ?_|refine Q0 ?_|refine Qz ?_|refine YZ ?_|refine WK ?_)
  | ((with_reducible refine QZ 2 ?_)
     obtain ⟨hf0,hf1,hpc0,hpc1,h8⟩:=hgi
     have hgi:gorIn p h:=⟨hf0,hf1,hpc0,hpc1,h8⟩
     rw [hfn] at hpc1
     have hcl:=hok.code g.func.toNat (by omega)
     (with_reducible refine rg QEF fun R hR=>?_);simp only [go_sem,QC])
  | ((with_reducible refine QZ 3 ?_)
     have hlc:Ql (p.instr h).op=true:=by
      unfold Prg.instr
      rw [hfn]
      exact hb26.2
     (with_reducible refine rg QEF fun R hR=>?_);simp only [go_sem,QC])
  | ((with_reducible refine QZ 7 ?_)
     refine WJ ok QN (.take 0 (.take 1 (.take 2 (.take 3 (.take 4 (.take 5 (.br 6 (.br 7 .done .nil) .nil))))))) [7] QEF (by kernel_rfl) (fun R hR=>?_);simp only [go_sem,QC])
  | ((with_reducible refine rg QEF fun R hR=>?_);simp only [go_sem,QC])
  | ((with_reducible refine QH 26 rfl (fun hb26=>?_) fun hb26=>?_);all_goals (try simp [-List.getD_eq_getElem?_getD] at hb26;try (exfalso;omega)))
  | ((with_reducible refine QH 28 rfl (fun hb28=>?_) fun hb28=>?_);all_goals (try simp [-List.getD_eq_getElem?_getD] at hb28;try (exfalso;omega)))
  | ((with_reducible refine YQ ?_)
     refine Zo (Qq (by first|rfl|(simp;done)|fail)) (YR (fun n τ=>∃ (m:Nat) (h:Gor),n=m∧(m≤4096∧gorIn p h∧h.func=g.func∧onN QB p m h=Zh QB p m0 g)∧τ={ tm:=[(2,true,.int .i64 m),(4,true,.ptr 1 [] 34),(6,true,.ptr 2 [] 34),(7,true,.fs 129 ((p.funcs.getD g.func.toNat default).code.map Instr.v) false)],ob:=[.var 26 (.data 26 p.v),.var 34 (.data 34 h.v),.var 34 (.data 34 zeroGor.v)],out:=[],nt:=41 }) (m0) ⟨m0,g,rfl,⟨hm0,hg,rfl,QIl QB h1⟩,rfl⟩ ?_)
     rintro n τ ⟨m,h,hn,⟨hm,hgi,hfn,hset⟩,rfl⟩)
  | ((with_reducible refine WM ?_)
     first
      | (obtain ⟨m',rfl⟩:∃ m',m=m'+1:=⟨m-1,by omega⟩
         have hw:IntKind.i64.wrap (((m'+1:Nat):Int)-1)=(m':Int):=by rw [QU (by omega) (by omega)];omega
         have hin':=Zi QB hok hgi hlc
         have hst:=QIj QB (m:=m') hb26.1 hlc
         refine Zt m' _ (by omega) (Qq (by simp only [hw])) ⟨m',_,rfl,⟨by omega,hin',(vr QB h).trans hfn,by rw [← hst];exact hset⟩,rfl⟩))
  | ((with_reducible first|refine ZH ?_|refine ZG ?_)
     simp only [go_sem,QJ,QK,QG,seval]
     first
      | (have q:m=0:=hb28
         subst hb28
         rw [QIh QB hb26.1 hlc] at hset
         exact ⟨rfl,congrArg (fun g:Gor=>some g.v) hset⟩)
      | (have hs:onN QB p m h=h:=by
          by_cases q:h.status=1
          · exact QIi QB (by unfold Prg.instr;rw [hfn];exact hb26 q)
          · exact QIk QB q
         rw [hs] at hset
         exact ⟨rfl,congrArg (fun g:Gor=>some g.v) hset⟩))
def QQL:List (List Nat):=[[0],[2]]
theorem qr (fuel:Int):Ctr Go.Proofs.Tryz.prog tab 99 [3] [4] [.int fuel] [.bool (decide (0≤fuel)&&decide (fuel≤4096))]:=by
 refine Ctr.body ok Go.Proofs.Tryz.func99 rfl rfl 9 rfl [.tmp 2] rfl (by simp [QE]) ?_
 simp only [go_sem,Nat.reduceAdd]
 repeat' first
  | ((with_reducible refine Q2 fun R1 hR1=>?_);(simp only [go_sem,seval,-List.reduceReplicate,Bool.cond_false_right,Bool.cond_true_left]);(repeat' with_reducible refine And.intro ?_ ?_);all_goals first|(refine hR1 _ ?_;clear hR1 R1)|omega|rfl|decide|assumption|(intro _;omega)|(simp;done)|(simp;omega))
  | ((with_reducible refine Q1 ?_);refine hR _ ?_;clear hR R;try simp only [go_sem,QQL,Nat.reduceBEq])
  | (with_reducible first|refine J1 ?_|refine J2 ?_|refine Q0 ?_|refine Qz ?_)
  | ((with_reducible refine rg QQL fun R hR=>?_);simp only [go_sem,QC])
  | ((with_reducible first|refine ZH ?_|refine ZG ?_)
     simp only [go_sem,QJ,QK,QG,seval]
     first|exact ⟨rfl,rfl⟩|rfl)
end Go.Eng.Tryz
namespace Go.Eng.Tryz
open Go.RowKit Go.Eng
set_option maxHeartbeats 0
set_option maxRecDepth 20000
theorem UG (p:Prg) (g:Gor) (fuel:Int) (hp:p.Fit) (hr:QP p=true) (hg:gorIn p g) (hf:0≤fuel∧fuel≤4096) (h1:g.status=1):Ctr Go.Proofs.Tryz.prog tab 100 [26,34,3] [34] [p.v,g.v,.int fuel] [(Zh QB p fuel.toNat g).v]:=by
 obtain ⟨m,rfl⟩:=Int.eq_ofNat_of_zero_le hf.1
 exact QCQ p g m hp hr hg (by omega) h1
def QF7:List (List Nat):=[[2,3,4,5,8],[2,3,4,5,8,13],[8,9],[2,3,4,5,8,18],[8,9],[2,3,4,5,8,30],[8,9],[2,3,4,5,8,35],[8,9],[2,3,4,5,8,10],[2,3,4,5,8,10,48],[2,3,4,5,8,10],[5,8],[8,9]]
theorem QDy (p:Prg) (s:Stt) (g fuel:Int) (hp:p.Fit) (hs:s.Shape):Ctr Go.Proofs.Tryz.prog tab 122 [26,37,3,3] [37,49] [p.v,s.v,.int g,.int fuel] [(Qd QB p s g fuel).1.v,.int (Qd QB p s g fuel).2]:=by
 have hpp:=hp
 have hfit:=hp
 have hcode:=p.code_len hp
 have hsl:=p.sels_len hp
 obtain ⟨hp1,hp2,hp3,hp4⟩:=hp
 have hs5:=hs.gos
 refine Ctr.body ok Go.Proofs.Tryz.func122 rfl rfl 58 rfl [.cell 8 37,.tmp 9] rfl (by simp [QE]) ?_
 simp only [go_sem,Nat.reduceAdd]
 repeat' first
  | ((with_reducible refine SARA.told 9 4 ?_)
     rw [YL (by omega)])
  | ((with_reducible refine Q2 fun R1 hR1=>?_);(simp only [go_sem,seval,-List.reduceReplicate,Qv,QF,Bool.cond_false_right,Bool.cond_true_left,Gor.put0,Gor.put2,Gor.put3,Gor.put4,ZC]);(repeat' with_reducible refine And.intro ?_ ?_);all_goals first|(refine hR1 _ ?_;clear hR1 R1)|(intro hgf;simp only [hgf];refine hR1 _ ?_;clear hR1 R1)|((first|refine cq (cc (VZ p hpp)) ?_|refine ⟨_,_,rfl,.inl ⟨_,fun hg=>CallQ.ctr ok (VZ p hpp) (by first|rfl|(simp [go_sem];done)|fail) rfl,?_⟩⟩|refine cq (cc (z7 p s hpp hs)) ?_|refine ⟨_,_,rfl,.inl ⟨_,fun hg=>CallQ.ctr ok (z7 p s hpp hs) (by first|rfl|(simp [go_sem];done)|fail) rfl,?_⟩⟩|refine cq (cc (qr _)) ?_|refine ⟨_,_,rfl,.inl ⟨_,fun hg=>CallQ.ctr ok (qr _) (by first|rfl|(simp [go_sem];done)|fail) rfl,?_⟩⟩|refine cq (cc (UG p ⟨1,(s.gos.getD g.toNat default).func,(s.gos.getD g.toNat default).pc,(s.gos.getD g.toNat default).why,(s.gos.getD g.toNat default).regs⟩ fuel hpp hb13 hgi1 hf rfl)) ?_|refine ⟨_,_,rfl,.inl ⟨_,fun hg=>CallQ.ctr ok (UG p ⟨1,(s.gos.getD g.toNat default).func,(s.gos.getD g.toNat default).pc,(s.gos.getD g.toNat default).why,(s.gos.getD g.toNat default).regs⟩ fuel hpp hb13 hgi1 hf rfl) (by first|rfl|(simp [go_sem];done)|fail) rfl,?_⟩⟩);all_goals ((try simp only [go_sem,seval,-List.reduceReplicate,Qv,QF,Bool.cond_false_right,Bool.cond_true_left,Gor.put0,Gor.put2,Gor.put3,Gor.put4,ZC]);(repeat' with_reducible refine And.intro ?_ ?_);all_goals first|(refine hR1 _ ?_;clear hR1 R1)|(intro hgf;simp only [hgf];refine hR1 _ ?_;clear hR1 R1)|exact ZQ))|exact ZQ)
  | ((with_reducible refine Q1 ?_);refine hR _ ?_;clear hR R;try simp only [go_sem,QF7,Nat.reduceBEq])
  | (with_reducible first|refine J1 ?_|refine J2 ?_|refine J3 ?_|refine Q0 ?_|refine Qz ?_)
  | ((with_reducible refine QZ 5 ?_)
     obtain ⟨hv1,hv2,hv3,hv4⟩:=Wv hb18
     (with_reducible refine rg QF7 fun R hR=>?_);simp only [go_sem,QC])
  | ((with_reducible refine QZ 9 ?_)
     have hgi:=QFH hs hv3 (g:=g) (by omega) (by omega) (by omega)
     have hf:0≤fuel∧fuel≤4096:=by omega
     have hgi1:gorIn p ⟨1,(s.gos.getD g.toNat default).func,(s.gos.getD g.toNat default).pc,(s.gos.getD g.toNat default).why,(s.gos.getD g.toNat default).regs⟩:=⟨hgi.f0,hgi.f1,hgi.p0,hgi.p1,hgi.regs⟩
     (with_reducible refine rg QF7 fun R hR=>?_);simp only [go_sem,QC])
  | ((with_reducible refine rg QF7 fun R hR=>?_);simp only [go_sem,QC])
  | ((with_reducible refine QH 13 rfl (fun hb13=>?_) fun hb13=>?_);all_goals (try simp [-List.getD_eq_getElem?_getD] at hb13;try (exfalso;omega)))
  | ((with_reducible refine QH 18 rfl (fun hb18=>?_) fun hb18=>?_);all_goals (try simp [-List.getD_eq_getElem?_getD] at hb18;try (exfalso;omega)))
  | ((with_reducible refine QH 30 rfl (fun hb30=>?_) fun hb30=>?_);all_goals (try simp [-List.getD_eq_getElem?_getD] at hb30;try (exfalso;omega)))
  | ((with_reducible refine QH 35 rfl (fun hb35=>?_) fun hb35=>?_);all_goals (try simp [-List.getD_eq_getElem?_getD] at hb35;try (exfalso;omega)))
  | ((with_reducible refine QH 48 rfl (fun hb48=>?_) fun hb48=>?_);all_goals (try simp [-List.getD_eq_getElem?_getD] at hb48;try (exfalso;omega)))
  | ((with_reducible first|refine ZH ?_|refine ZG ?_)
     simp only [go_sem,QJ,QK,QG,seval]
     first
      | (have q:_∨_:=hb48
         have e:Qd QB p s g fuel=(⟨s.vars,s.owner,s.chans,s.gos.set g.toNat (Yb QB p (s.gor g) fuel),s.count⟩,0):=(if_neg (by rw [hb13];simp)).trans ((if_neg (by rw [hb18];simp)).trans ((if_neg (by omega)).trans ((if_neg (by omega)).trans (if_pos hb48))))
         rw [e]
         exact ⟨⟨rfl,rfl⟩,⟨rfl,rfl⟩⟩)
      | (have q:_∧_:=hb48
         have e:Qd QB p s g fuel=(s,0):=(if_neg (by rw [hb13];simp)).trans ((if_neg (by rw [hb18];simp)).trans ((if_neg (by omega)).trans ((if_neg (by omega)).trans (if_neg (fun q=>q.elim hb48.1 hb48.2)))))
         rw [e]
         exact ⟨⟨rfl,rfl⟩,⟨rfl,rfl⟩⟩)
      | (have q:=hb35
         have e:Qd QB p s g fuel=(zeroStt,9):=(if_neg (by rw [hb13];simp)).trans ((if_neg (by rw [hb18];simp)).trans ((if_neg (by omega)).trans (if_pos hb35)))
         rw [e]
         exact ⟨⟨rfl,rfl⟩,⟨rfl,rfl⟩⟩)
      | (have q:=hb30
         have e:Qd QB p s g fuel=(zeroStt,1):=(if_neg (by rw [hb13];simp)).trans ((if_neg (by rw [hb18];simp)).trans (if_pos (by omega)))
         rw [e]
         exact ⟨⟨rfl,rfl⟩,⟨rfl,rfl⟩⟩)
      | (have q:=hb18
         have e:Qd QB p s g fuel=(zeroStt,4):=(if_neg (by rw [hb13];simp)).trans (if_pos hb18)
         rw [e]
         exact ⟨⟨rfl,rfl⟩,⟨rfl,rfl⟩⟩)
      | (have e:Qd QB p s g fuel=(zeroStt,3):=if_pos hb13
         rw [e]
         exact ⟨⟨rfl,rfl⟩,⟨rfl,rfl⟩⟩))
end Go.Eng.Tryz
namespace Go.Eng.Tryz
open Go.RowKit Go.Eng
set_option maxHeartbeats 0
set_option maxRecDepth 20000
def QON:List (List Nat):=[[1],[1,3],[3,7,8],[3,7,8,9],[3,4,5,7,8],[3,4,7,8,19],[3,7,8],[3,7,8],[2]]
theorem QBL (s:Stt) (hs:s.Shape):Ctr Go.Proofs.Tryz.prog tab 39 [37] [23] [s.v] [.list ((Qi s 6).map V.int)]:=by
 have hcode:True→True:=id
 have hsl:True→True:=id
 have hs5:=hs.gos
 refine Ctr.body ok Go.Proofs.Tryz.func39 rfl rfl 26 rfl [.tmp 2] rfl (by simp [QE]) ?_
 simp only [go_sem,Nat.reduceAdd]
 repeat' first
  | ((with_reducible refine SARA.told 4 2 ?_)
     rw [YL (by omega)])
  | ((with_reducible refine Q2 fun R1 hR1=>?_);(simp only [go_sem,seval,-List.reduceReplicate,Qv,QF,YG,UF,z3,Bool.cond_false_right,Bool.cond_true_left]);(repeat' with_reducible refine And.intro ?_ ?_);all_goals first|(refine hR1 _ ?_;clear hR1 R1)|exact Xk)
  | ((with_reducible refine Q1 ?_);refine hR _ ?_;clear hR R;try simp only [go_sem,QON,Nat.reduceBEq])
  | (with_reducible first|refine J1 ?_|refine J2 ?_|refine J3 ?_|refine J4 ?_|refine J5 ?_|refine J6 ?_|refine J7 ?_|refine J8 (by decide) ?_|refine J9 ?_|refine WL ?_|refine Q0 ?_|refine Qz ?_|refine YZ ?_|refine WK ?_)
  | ((with_reducible refine QZ 6 ?_)
     have hll:=yF s i
     (with_reducible refine rg QON fun R hR=>?_);simp only [go_sem,QC])
  | ((with_reducible refine rg QON fun R hR=>?_);simp only [go_sem,QC])
  | ((with_reducible refine QH 9 rfl (fun hb9=>?_) fun hb9=>?_);all_goals (try simp [-List.getD_eq_getElem?_getD] at hb9;try (exfalso;omega)))
  | ((with_reducible refine QH 19 rfl (fun hb19=>?_) fun hb19=>?_);all_goals (try simp [-List.getD_eq_getElem?_getD] at hb19;try (exfalso;omega)))
  | ((with_reducible refine YQ ?_)
     refine Zo ((St.le.own (t:=3) 3 rfl).trans ((St.le.keep [3,7,8]).trans (Qq (by first|rfl|(simp [Qi];done))))) (YR (fun n τ=>∃ (i:Nat),n=6-i∧(i≤6)∧τ={ tm:=[(3,true,.sl 1 3 0 (Qi s i).length false),(7,true,.data 35 (.agg (s.gos.map Gor.v))),(8,true,.int .i64 i)],ob:=[.var 37 (.data 37 s.v),.row 3 ((Qi s i).map V.int)],out:=[],nt:=26 }) (6) ⟨0,rfl,by omega,rfl⟩ ?_)
     rintro n τ ⟨i,hn,hi,rfl⟩)
  | ((with_reducible refine WM ?_)
     first
      | (have q:_∨_:=hb19
         have hlt:i<6:=by omega
         have hw:=QD (n:=i) (m:=256) (by omega) (by decide)
         have e:=qo s i
         rw [if_pos (by unfold WE;simpa using hb19)] at e
         refine Zt (6-(i+1)) _ (by omega) ((WN 2 rfl).trans (Qq (by simp [-List.getD_eq_getElem?_getD,hw,e,List.take_of_length_le]))) ⟨i+1,rfl,hlt,rfl⟩)
      | (have q:_∧_:=hb19
         have hlt:i<6:=by omega
         have hw:=QD (n:=i) (m:=256) (by omega) (by decide)
         have e:=qo s i
         rw [if_neg (by unfold WE;simpa using hb19),List.append_nil] at e
         refine Zt (6-(i+1)) _ (by omega) ((WN 2 rfl).trans (Qq (by simp [-List.getD_eq_getElem?_getD,hw,e,List.take_of_length_le]))) ⟨i+1,rfl,hlt,rfl⟩))
  | ((with_reducible first|refine ZH ?_|refine ZG ?_)
     simp only [go_sem,QJ,QK,QG,seval]
     have e:i=6:=by omega
     subst e
     refine ⟨rfl,?_⟩
     simp [List.take_of_length_le])
def QQc:List (List Nat):=[[2,3],[2,3,5],[2,3,13],[4],[17],[4],[4]]
theorem Vg (p:Prg) (s:Stt) (hp:p.Fit) (hs:s.Shape):Ctr Go.Proofs.Tryz.prog tab 60 [26,37] [49] [p.v,s.v] [.int (ZO p s)]:=by
 have hpp:=hp
 have hfit:=hp
 have hcode:=p.code_len hp
 have hsl:=p.sels_len hp
 obtain ⟨hp1,hp2,hp3,hp4⟩:=hp
 refine Ctr.body ok Go.Proofs.Tryz.func60 rfl rfl 18 rfl [.tmp 4] rfl (by simp [QE]) ?_
 simp only [go_sem,Nat.reduceAdd]
 repeat' first
  | ((with_reducible refine Q2 fun R1 hR1=>?_);(simp only [go_sem,seval,-List.reduceReplicate,Qv,QF,YG,UF,z3,Bool.cond_false_right,Bool.cond_true_left]);(repeat' with_reducible refine And.intro ?_ ?_);all_goals first|(refine hR1 _ ?_;clear hR1 R1)|((first|refine ce (cf (U0 p hpp) ?_)|refine cq (cc (z7 p s hpp hs)) ?_);all_goals ((try simp only [go_sem,seval,-List.reduceReplicate,Qv,QF,YG,UF,z3,Bool.cond_false_right,Bool.cond_true_left]);(repeat' with_reducible refine And.intro ?_ ?_);all_goals first|(refine hR1 _ ?_;clear hR1 R1)|exact ZQ))|exact ZQ)
  | ((with_reducible refine Q1 ?_);refine hR _ ?_;clear hR R;try simp only [go_sem,QQc,Nat.reduceBEq])
  | (with_reducible first|refine J1 ?_|refine J2 ?_|refine J3 ?_|refine Q0 ?_|refine Qz ?_)
  | ((with_reducible refine rg QQc fun R hR=>?_);simp only [go_sem,QC])
  | ((with_reducible refine QH 13 rfl (fun hb13=>?_) fun hb13=>?_);all_goals (try simp [-List.getD_eq_getElem?_getD] at hb13;try (exfalso;omega)))
  | ((with_reducible refine QH 17 rfl (fun hb17=>?_) fun hb17=>?_);all_goals (try simp [-List.getD_eq_getElem?_getD] at hb17;try (exfalso;omega)))
  | ((with_reducible first|refine ZH ?_|refine ZG ?_)
     simp only [go_sem,QJ,QK,QG,seval]
     first
      | (have q:=hb17
         exact ⟨rfl,congrArg (fun e=>some (V.int e)) (Eq.symm ((if_neg (by unfold QP;simp [hb13])).trans (if_pos hb17)))⟩)
      | (have q:=hb17
         exact ⟨rfl,congrArg (fun e=>some (V.int e)) (Eq.symm ((if_neg (by unfold QP;simp [hb13])).trans (if_neg (by simp [hb17]))))⟩)
      | (exact ⟨rfl,congrArg (fun e=>some (V.int e)) (Eq.symm (if_pos (by unfold QP;simp [hb13])))⟩))
def QQb:List (List Nat):=[[1,2],[4]]
theorem Yt (s:Stt) (g:Int) (hs:s.Shape) (hg:0≤g∧g<6):Ctr Go.Proofs.Tryz.prog tab 61 [37,3] [4] [s.v,.int g] [.bool (WE s g)]:=by
 have hcode:True→True:=id
 have hsl:True→True:=id
 have hs5:=hs.gos
 refine Ctr.body ok Go.Proofs.Tryz.func61 rfl rfl 19 rfl [.tmp 4] rfl (by simp [QE]) ?_
 simp only [go_sem,Nat.reduceAdd]
 repeat' first
  | ((with_reducible refine Q2 fun R1 hR1=>?_);(simp only [go_sem,seval,-List.reduceReplicate,Qv,QF,YG,UF,z3,Bool.cond_false_right,Bool.cond_true_left]);(repeat' with_reducible refine And.intro ?_ ?_);all_goals first|(refine hR1 _ ?_;clear hR1 R1)|exact ZQ)
  | ((with_reducible refine Q1 ?_);refine hR _ ?_;clear hR R;try simp only [go_sem,QQb,Nat.reduceBEq])
  | (with_reducible first|refine J1 ?_|refine J2 ?_|refine Q0 ?_|refine Qz ?_)
  | ((with_reducible refine rg QQb fun R hR=>?_);simp only [go_sem,QC])
  | ((with_reducible first|refine ZH ?_|refine ZG ?_)
     simp only [go_sem,QJ,QK,QG,seval]
     exact ⟨rfl,rfl⟩)
end Go.Eng.Tryz
namespace Go.Eng.Tryz
open Go.RowKit Go.Eng
set_option maxHeartbeats 0
set_option maxRecDepth 20000
theorem VA (p:Prg) (s:Stt) (g:Int):(atI p s g).op=QL p s g:=rfl
theorem qK (p:Prg) (s:Stt) (g:Int):(atI p s g).a=(QA p s g).a:=rfl
theorem zo (p:Prg) (s:Stt) (g:Int):(atI p s g).b=(QA p s g).b:=rfl
theorem QMv (p:Prg) (s:Stt) (g:Int):(atI p s g).c=(QA p s g).c:=rfl
theorem QGW (p:Prg) (s:Stt) (g:Int):(atI p s g).n=(QA p s g).n:=rfl
theorem qb {s:Stt} {g k:Int} (hc:s.count≤6) (h:Xj s g k=true):0≤k∧k<6:=by
 unfold Xj at h
 simp at h
 omega
theorem QIQ {p:Prg} {s:Stt} {g:Int} (hok:p.Ok) (hr:QP p=true) (hv:Vld p s) (hg:0≤g∧g<s.count) (h:QL p s g=66):plain p s g=!decide ((s.chans.getD (QA p s g).a.toNat default).offer=1):=by
 rw [QKb h]
 have h2:(s.gos.getD g.toNat default).status=2:=by
  rcases U1 h with h|h
  · exact h.1
  · have:=QFz ((hv.wf hok hr).right hok hg.1 hg.2)
    exact absurd h.2 (by omega)
 obtain ⟨c,hc,ho,hf,hw⟩:=hv.waiting (g:=g.toNat) (by omega) h2
 have ha:(QA p s g).a=(c:Int):=hw.2.2
 rw [ha]
 have ho3:=(hv.chans c hc).off
 rw [Int.toNat_natCast]
 by_cases h1:(s.chans.getD c default).offer=1
 · rw [decide_eq_true h1,h1];rfl
 · by_cases h2:(s.chans.getD c default).offer=2
   · rw [decide_eq_true h2,decide_eq_false h1];rfl
   · rw [decide_eq_true (show (s.chans.getD c default).offer=3 by omega),decide_eq_false h1];simp
theorem QG2 {p:Prg} {s:Stt} {g:Int} (hok:p.Ok) (hw:Wf p s) (hg:0≤g∧g<s.count) (h1:¬QL p s g=54) (h2:¬QL p s g=55) (h3:¬QL p s g=58) (h4:¬QL p s g=59) (h5:¬QL p s g=66) (h6:¬QL p s g=63) (h7:¬QL p s g=61):plain p s g=ZA (QL p s g):=by
 rw [QE3 ⟨h1,h2,h3,h4,h5,h6⟩]
 have e:=hw.op_at hok hg.1 hg.2 rfl h5
 have:=QFz (hw.right hok hg.1 hg.2)
 unfold ZA
 rw [decide_eq_true (show QL p s g≤65 by omega),Bool.and_true]
def QOE:List (List Nat):=[[2,3,4,6],[2,4,6,7],[6,7,30],[6,7],[6]]
end Go.Eng.Tryz
