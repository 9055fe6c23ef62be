/- A part of the proof: walks through the program's functions, and what they compute. -/
import Derived.Test.YtmonhjagbhpbeaaGreatDoorPk12
set_option linter.unusedSimpArgs false
set_option linter.unusedVariables false
namespace Go.Eng.Tryz
open Go.RowKit Go.Eng
set_option maxHeartbeats 0
set_option maxRecDepth 20000
theorem wc (op a b:Int):Ctr Go.Proofs.Tryz.prog tab 168 [58,2,2] [2,30] [.int op,.int a,.int b] [.int (QA op a b).1,.int (QA op a b).2] :=
 Ctr.ranged (W5 Go.Proofs.Tryz.func168 rfl rfl) fun h=>QDq op a b (IntKind.i64_has (h 1 rfl rfl rfl)) (IntKind.i64_has (h 2 rfl rfl rfl))
end Go.Eng.Tryz
namespace Go.Eng.Tryz
open Go.RowKit Go.Eng
set_option maxHeartbeats 0
set_option maxRecDepth 20000
def QK8:List (List Nat):=[[1,2,3,6],[3,6],[6]]
theorem QIq (g:Gor) (status why:Int):Ctr Go.Proofs.Tryz.prog tab 167 [44,3,3] [44] [g.v,.int status,.int why] [(ended g status why).v]:=by
 refine Ctr.body ok Go.Proofs.Tryz.func167 rfl rfl 14 rfl [.cell 6 44] rfl (by simp [QL]) ?_
 simp only [go_sem,Nat.reduceAdd]
 repeat' first
  | ((with_reducible refine Zx fun R1 hR1=>?_);(simp only [go_sem,seval,-List.reduceReplicate,Zd]);(repeat' with_reducible refine And.intro ?_ ?_);all_goals first|(refine hR1 _ ?_;clear hR1 R1)|omega|rfl|decide|assumption|(intro _;omega)|(simp;done)|(simp;omega)|(simp [QF,maxLen,YN,Q0,Qz,Qw,Qx]<;>omega))
  | ((with_reducible refine Zw ?_);refine hR _ ?_;clear hR R;try simp only [go_sem,QK8,Nat.reduceBEq])
  | (with_reducible first|refine J1 ?_|refine J2 ?_|refine ZL ?_|refine ZS ?_)
  | ((with_reducible refine rg QK8 fun R hR=>?_);simp only [go_sem,QC])
  | ((with_reducible first|refine YQ ?_|refine Zv ?_)
     simp only [go_sem,QS,QW,QM,seval]
     exact ⟨rfl,rfl⟩)
def xP:List (List Nat):=[[2,3,4],[2,3,4],[2,3,4,13],[2,3,4,5],[2,3,4,5,16],[2,3,4,5],[2,3,4,6,7],[2,3,4,6,34],[2,3,4,6,34,35],[2,4],[4],[2,3,4,6,43],[2,4],[4],[2,4],[2,3,4,13,56],[2,4],[2,3,4,13,64],[2,4],[2,3,4,13,75],[2,4],[2,3,4,13,80],[2,3,4,87],[2,4],[2,3,4,13,91],[2,4,98],[2,4],[4],[2,3,4,105],[2,4],[4],[4]]
theorem QD0 (p:Prg) (g:Gor) (hok:p.Ok) (hgi:gorIn p g) (hl:Qk (p.instr g).op=true):Ctr Go.Proofs.Tryz.prog tab 124 [44,104] [44] [g.v,(p.instr g).v] [(Qg QA p g).1.v]:=by
 obtain ⟨hf0,hf1,hpc0,hpc1,h8⟩:=hgi
 have hgi:gorIn p g:=⟨hf0,hf1,hpc0,hpc1,h8⟩
 have hcl:=hok.code g.func.toNat (by omega)
 have hrg:=hok.regs g.func.toNat
 have hin:=Xo hok hgi
 have hlr:=U7 hl
 refine Ctr.body ok Go.Proofs.Tryz.func124 rfl rfl 114 rfl [.cell 4 44] rfl (by simp [QL]) ?_
 simp only [go_sem,Nat.reduceAdd]
 repeat' first
  | ((with_reducible refine SARA.told 1 3 ?_)
     rw [Zj (n:=g.pc+1) (by omega) (by omega)])
  | ((with_reducible refine SARA.told 26 3 ?_)
     rw [Zj (n:=g.pc+1-1) (by omega) (by omega),show g.pc+1-1=g.pc by omega])
  | ((with_reducible refine SARA.told 29 3 ?_)
     rw [Zj (n:=g.pc+1-1) (by omega) (by omega),show g.pc+1-1=g.pc by omega])
  | ((with_reducible refine SARA.told 9 3 ?_)
     rw [Zj (n:=g.pc+1-1) (by omega) (by omega),show g.pc+1-1=g.pc by omega])
  | ((with_reducible refine SARA.told 12 3 ?_)
     rw [Zj (n:=g.pc+1-1) (by omega) (by omega),show g.pc+1-1=g.pc by omega])
  | ((with_reducible first|refine Zx fun R1 hR1=>?_|refine vp fun R1 hR1=>?_|refine vo fun R1 hR1=>?_|refine vn fun R1 hR1=>?_);(simp only [go_sem,seval,-List.reduceReplicate,Zd]);(repeat' with_reducible refine And.intro ?_ ?_);all_goals first|(refine hR1 _ ?_;clear hR1 R1)|((first|refine cq (cc (QIq _ _ _)) ?_|refine ce (cf (wc _ _ _) ?_)|refine ⟨_,_,rfl,.inr (CallB.ctr ok (wc _ _ _) (by first|rfl|(simp [go_sem];done)|fail) ?_)⟩);all_goals ((try simp only [go_sem,seval,-List.reduceReplicate,Zd]);(repeat' with_reducible refine And.intro ?_ ?_);all_goals first|(refine hR1 _ ?_;clear hR1 R1)|omega|rfl|decide|assumption|(intro _;omega)|(simp;done)|(simp [-List.getD_eq_getElem?_getD];omega)))|omega|rfl|decide|assumption|(intro _;omega)|(simp;done)|(simp [-List.getD_eq_getElem?_getD];omega))
  | ((with_reducible first|refine vm ?_|refine Zw ?_);refine hR _ ?_;clear hR R;try simp only [go_sem,xP,Nat.reduceBEq])
  | (with_reducible first|refine vk ?_ ?_|exact vj|refine vi ?_ ?_)
  | (with_reducible first|refine J1 ?_|refine J2 ?_|refine J3 ?_|refine J4 ?_|refine J5 ?_|refine J6 ?_|refine J7 ?_|refine J8 (by decide) ?_|refine J9 ?_|refine ZL ?_|refine ZS ?_|refine Y3 ?_)
  | ((with_reducible refine Qy 16 ?_)
     have hI:=QLb hin hb56
     (with_reducible refine rg xP fun R hR=>?_);simp only [go_sem,QC])
  | ((with_reducible refine Qy 22 ?_)
     have hI:=(QIY hin hb80).1
     (with_reducible refine rg xP fun R hR=>?_);simp only [go_sem,QC])
  | ((with_reducible refine Qy 25 ?_)
     have hI:=QPu hin hb91
     (with_reducible refine rg xP fun R hR=>?_);simp only [go_sem,QC])
  | ((with_reducible refine Qy 5 ?_)
     have hI:=QNO hin (by omega) (by omega)
     (with_reducible refine rg xP fun R hR=>?_);simp only [go_sem,QC])
  | ((with_reducible refine Qy 18 ?_)
     have hI:=QLa hin hb64
     refine V6 ok Qc (.take 0 (.take 1 (.take 2 (.take 3 (.take 4 (.take 5 (.take 6 (.take 7 (.take 8 (.br 9 .done .nil)))))))))) [9] xP (by kernel_rfl) (fun R hR=>?_);simp only [go_sem,QC])
  | ((with_reducible refine Qy 6 ?_)
     have hI:(0≤(p.instr g).a∧(p.instr g).a<8)∧(0≤(p.instr g).b∧(p.instr g).b<8):=by
      by_cases h:(p.instr g).op≤15
      · have:=QPv hin (by omega) h;omega
      · have:=QNO hin (by omega) (by omega);omega
     refine V6 ok Qc (.take 0 (.take 1 (.take 2 (.take 3 (.take 4 (.take 5 (.take 6 (.take 7 (.br 8 (.take 9 (.take 10 (.take 11 (.take 12 (.take 13 .done))))) .nil))))))))) [] xP (by kernel_rfl) (fun R hR=>?_);simp only [go_sem,QC])
  | ((with_reducible refine rg xP fun R hR=>?_);simp only [go_sem,QC])
  | ((with_reducible refine QR 16 rfl (fun hb16=>?_) fun hb16=>?_);all_goals (try simp [-List.getD_eq_getElem?_getD] at hb16;try (exfalso;omega)))
  | ((with_reducible refine QR 35 rfl (fun hb35=>?_) fun hb35=>?_);all_goals (try simp [-List.getD_eq_getElem?_getD] at hb35;try (exfalso;omega)))
  | ((with_reducible refine QR 43 rfl (fun hb43=>?_) fun hb43=>?_);all_goals (try simp [-List.getD_eq_getElem?_getD] at hb43;try (exfalso;omega)))
  | ((with_reducible refine QR 56 rfl (fun hb56=>?_) fun hb56=>?_);all_goals (try simp [-List.getD_eq_getElem?_getD] at hb56;try (exfalso;omega)))
  | ((with_reducible refine QR 64 rfl (fun hb64=>?_) fun hb64=>?_);all_goals (try simp [-List.getD_eq_getElem?_getD] at hb64;try (exfalso;omega)))
  | ((with_reducible refine QR 75 rfl (fun hb75=>?_) fun hb75=>?_);all_goals (try simp [-List.getD_eq_getElem?_getD] at hb75;try (exfalso;omega)))
  | ((with_reducible refine QR 80 rfl (fun hb80=>?_) fun hb80=>?_);all_goals (try simp [-List.getD_eq_getElem?_getD] at hb80;try (exfalso;omega)))
  | ((with_reducible refine QR 87 rfl (fun hb87=>?_) fun hb87=>?_);all_goals (try simp [-List.getD_eq_getElem?_getD] at hb87;try (exfalso;omega)))
  | ((with_reducible refine QR 91 rfl (fun hb91=>?_) fun hb91=>?_);all_goals (try simp [-List.getD_eq_getElem?_getD] at hb91;try (exfalso;omega)))
  | ((with_reducible refine QR 98 rfl (fun hb98=>?_) fun hb98=>?_);all_goals (try simp [-List.getD_eq_getElem?_getD] at hb98;try (exfalso;omega)))
  | ((with_reducible refine QR 105 rfl (fun hb105=>?_) fun hb105=>?_);all_goals (try simp [-List.getD_eq_getElem?_getD] at hb105;try (exfalso;omega)))
  | ((with_reducible first|refine YQ ?_|refine Zv ?_)
     simp only [go_sem,QS,QW,QM,seval]
     first
      | (have q:(p.instr g).op=40:=hb56
         exact ⟨rfl,congrArg (fun r:Gor × Bool=>some r.1.v) (QNL QA (by omega) (by omega) hb56).symm⟩)
      | (have q:(p.instr g).op=41:=hb64
         exact ⟨rfl,congrArg (fun r:Gor × Bool=>some r.1.v) (QNK QA (by omega) (by omega) (by omega) hb64).symm⟩)
      | (have q:(p.instr g).op=42:=hb75
         exact ⟨rfl,congrArg (fun r:Gor × Bool=>some r.1.v) (QNJ QA (by omega) (by omega) (by omega) (by omega) hb75).symm⟩)
      | (have q:¬_=_:=hb87
         exact ⟨rfl,congrArg (fun r:Gor × Bool=>some r.1.v) (QNI QA (by omega) (by omega) (by omega) (by omega) (by omega) hb80 hb87).symm⟩)
      | (have q:_=_:=hb87
         exact ⟨rfl,congrArg (fun r:Gor × Bool=>some r.1.v) (QIW QA (by omega) (by omega) (by omega) (by omega) (by omega) hb80 hb87).symm⟩)
      | (have q:_=_:=hb98
         exact ⟨rfl,congrArg (fun r:Gor × Bool=>some r.1.v) (QIV QA (by omega) (by omega) (by omega) (by omega) (by omega) (by omega) hb91 hb98).symm⟩)
      | (have q:¬_=_:=hb98
         exact ⟨rfl,congrArg (fun r:Gor × Bool=>some r.1.v) (QNH QA (by omega) (by omega) (by omega) (by omega) (by omega) (by omega) hb91 hb98).symm⟩)
      | (have q:(p.instr g).op=45:=hb105
         exact ⟨rfl,congrArg (fun r:Gor × Bool=>some r.1.v) (QNG (p:=p) (g:=g) QA (by omega) (by omega) (by omega) (by omega) (by omega) (by omega) (by omega) ).symm⟩)
      | (have q:15<(p.instr g).op:=hb16
         have q:_=_:=hb35
         exact ⟨rfl,congrArg (fun r:Gor × Bool=>some r.1.v) (QNM QA (by omega) (by omega) hb35).symm⟩)
      | (have q:15<(p.instr g).op:=hb16
         have q:_=_:=hb43
         exact ⟨rfl,congrArg (fun r:Gor × Bool=>some r.1.v) (QNN QA (by omega) (by omega) hb35 hb43).symm⟩)
      | (have q:15<(p.instr g).op:=hb16
         have q:¬_=_:=hb43
         exact ⟨rfl,congrArg (fun r:Gor × Bool=>some r.1.v) (ls2 QA (by omega) (by omega) hb35 hb43).symm⟩)
      | (have q:(p.instr g).op≤15:=hb16
         have q:_=_:=hb35
         have q2:=(ZO _ _ _).1 hb35
         exfalso
         omega)
      | (have q:(p.instr g).op≤15:=hb16
         have q:_=_:=hb43
         have q2:=(ZO _ _ _).2 hb43
         exfalso
         omega)
      | (have q:(p.instr g).op≤15:=hb16
         exact ⟨rfl,congrArg (fun r:Gor × Bool=>some r.1.v) (ls1 QA (by omega) ).symm⟩))
end Go.Eng.Tryz
namespace Go.Eng.Tryz
open Go.RowKit Go.Eng
set_option maxHeartbeats 0
set_option maxRecDepth 20000
theorem xI (p:Prg) (g:Gor) (x:Instr) (hx:x=p.instr g) (hok:p.Ok) (hgi:gorIn p g) (hl:Qk (p.instr g).op=true):Ctr Go.Proofs.Tryz.prog tab 124 [44,104] [44] [g.v,x.v] [(Qg QA p g).1.v]:=by subst hx;exact QD0 p g hok hgi hl
def QIG:List (List Nat):=[[2,3,4,6],[2,4,6,7],[2,4,6,7,26],[2,4,6,7,28],[4,6],[6],[2,4,6,7],[2,4,6,7],[6]]
theorem QBW (p:Prg) (g:Gor) (m0:Nat) (hp:p.Fit) (hr:QT p=true) (hg:gorIn p g) (hm0:m0≤4096) (h1:g.status=1):Ctr Go.Proofs.Tryz.prog tab 88 [26,44,3] [44] [p.v,g.v,.int m0] [(YH QA p m0 g).v]:=by
 have hfit:=hp
 have hcode:=p.code_len hp
 have hsl:=p.sels_len hp
 obtain ⟨hp1,hp2,hp3,hp4⟩:=hp
 have hok:=Prg.ok hr
 have hg0:=hg.f0
 have hg1:=hg.f1
 refine Ctr.body ok Go.Proofs.Tryz.func88 rfl rfl 41 rfl [.cell 6 44] rfl (by simp [QL]) ?_
 simp only [go_sem,Nat.reduceAdd]
 repeat' first
  | ((with_reducible refine SARA.told 1 5 ?_)
     rw [Xp (by omega)])
  | ((with_reducible refine SARA.told 2 8 ?_)
     rw [YK (by omega)])
  | ((with_reducible refine SART.told 7 4 ?_)
     rw [YK (by omega)])
  | ((with_reducible first|refine Zx fun R1 hR1=>?_|refine vp fun R1 hR1=>?_|refine vo fun R1 hR1=>?_|refine vn fun R1 hR1=>?_);(simp only [go_sem,seval,-List.reduceReplicate,Zd,Bool.cond_false_right,Bool.cond_true_left,Gor.put0,Gor.put2,Gor.put3,Gor.put4,Q7]);(repeat' with_reducible refine And.intro ?_ ?_);all_goals first|(refine hR1 _ ?_;clear hR1 R1)|(intro hgf;simp only [hgf];refine hR1 _ ?_;clear hR1 R1)|((first|refine cq (cc (UH _)) ?_|refine ⟨_,_,rfl,.inl ⟨_,fun hg=>CallQ.ctr ok (UH _) (by first|rfl|(simp [go_sem];done)|fail) rfl,?_⟩⟩|refine cq (cc (xI p h ((p.funcs.getD g.func.toNat default).code.getD h.pc.toNat default) (by unfold Prg.instr;rw [hfn]) hok hgi hlc)) ?_|refine ⟨_,_,rfl,.inl ⟨_,fun hg=>CallQ.ctr ok (xI p h ((p.funcs.getD g.func.toNat default).code.getD h.pc.toNat default) (by unfold Prg.instr;rw [hfn]) hok hgi hlc) (by first|rfl|(simp [go_sem];done)|fail) rfl,?_⟩⟩);all_goals ((try simp only [go_sem,seval,-List.reduceReplicate,Zd,Bool.cond_false_right,Bool.cond_true_left,Gor.put0,Gor.put2,Gor.put3,Gor.put4,Q7]);(repeat' with_reducible refine And.intro ?_ ?_);all_goals first|(refine hR1 _ ?_;clear hR1 R1)|(intro hgf;simp only [hgf];refine hR1 _ ?_;clear hR1 R1)|exact YJ))|exact YJ)
  | ((with_reducible first|refine vm ?_|refine Zw ?_);refine hR _ ?_;clear hR R;try simp only [go_sem,QIG,Nat.reduceBEq])
  | (with_reducible first|refine vk ?_ ?_|exact vj|refine vi ?_ ?_)
  | (with_reducible first|refine J1 ?_|refine J2 ?_|refine J3 ?_|refine J4 ?_|refine J5 ?_|refine J6 ?_|refine J7 ?_|refine J8 (by decide) ?_|refine J9 ?_|refine Uf ?_|refine ZL ?_|refine ZS ?_|refine Y3 ?_|refine V7 ?_)
  | ((with_reducible refine Qy 2 ?_)
     obtain ⟨hf0,hf1,hpc0,hpc1,h8⟩:=hgi
     have hgi:gorIn p h:=⟨hf0,hf1,hpc0,hpc1,h8⟩
     rw [hfn] at hpc1
     have hcl:=hok.code g.func.toNat (by omega)
     (with_reducible refine rg QIG fun R hR=>?_);simp only [go_sem,QC])
  | ((with_reducible refine Qy 3 ?_)
     have hlc:Qk (p.instr h).op=true:=by
      unfold Prg.instr
      rw [hfn]
      exact hb26.2
     (with_reducible refine rg QIG fun R hR=>?_);simp only [go_sem,QC])
  | ((with_reducible refine Qy 7 ?_)
     refine V6 ok Qc (.take 0 (.take 1 (.take 2 (.take 3 (.take 4 (.take 5 (.br 6 (.br 7 .done .nil) .nil))))))) [7] QIG (by kernel_rfl) (fun R hR=>?_);simp only [go_sem,QC])
  | ((with_reducible refine rg QIG fun R hR=>?_);simp only [go_sem,QC])
  | ((with_reducible refine QR 26 rfl (fun hb26=>?_) fun hb26=>?_);all_goals (try simp [-List.getD_eq_getElem?_getD] at hb26;try (exfalso;omega)))
  | ((with_reducible refine QR 28 rfl (fun hb28=>?_) fun hb28=>?_);all_goals (try simp [-List.getD_eq_getElem?_getD] at hb28;try (exfalso;omega)))
  | ((with_reducible refine W1 ?_)
     refine Yx (ZZ (by first|rfl|(simp;done)|fail)) (Wo (fun n τ=>∃ (m:Nat) (h:Gor),n=m∧(m≤4096∧gorIn p h∧h.func=g.func∧onN QA p m h=YH QA p m0 g)∧τ={ tm:=[(2,true,.int .i64 m),(4,true,.ptr 1 [] 44),(6,true,.ptr 2 [] 44),(7,true,.fs 104 ((p.funcs.getD g.func.toNat default).code.map Instr.v) false)],ob:=[.var 26 (.data 26 p.v),.var 44 (.data 44 h.v),.var 44 (.data 44 zeroGor.v)],out:=[],nt:=41 }) (m0) ⟨m0,g,rfl,⟨hm0,hg,rfl,QH8 QA h1⟩,rfl⟩ ?_)
     rintro n τ ⟨m,h,hn,⟨hm,hgi,hfn,hset⟩,rfl⟩)
  | ((with_reducible refine zF ?_)
     first
      | (obtain ⟨m',rfl⟩:∃ m',m=m'+1:=⟨m-1,by omega⟩
         have hw:IntKind.i64.wrap (((m'+1:Nat):Int)-1)=(m':Int):=by rw [Zj (by omega) (by omega)];omega
         have hin':=QBv QA hok hgi hlc
         have hst:=QH6 QA (m:=m') hb26.1 hlc
         refine WE m' _ (by omega) (ZZ (by simp only [hw])) ⟨m',_,rfl,⟨by omega,hin',(wo QA h).trans hfn,by rw [← hst];exact hset⟩,rfl⟩))
  | ((with_reducible first|refine YQ ?_|refine Zv ?_)
     simp only [go_sem,QS,QW,QM,seval]
     first
      | (have q:m=0:=hb28
         subst hb28
         rw [QH4 QA hb26.1 hlc] at hset
         exact ⟨rfl,congrArg (fun g:Gor=>some g.v) hset⟩)
      | (have hs:onN QA p m h=h:=by
          by_cases q:h.status=1
          · exact QH5 QA (by unfold Prg.instr;rw [hfn];exact hb26 q)
          · exact QH7 QA q
         rw [hs] at hset
         exact ⟨rfl,congrArg (fun g:Gor=>some g.v) hset⟩))
def QPg:List (List Nat):=[[0],[2]]
theorem qC (fuel:Int):Ctr Go.Proofs.Tryz.prog tab 87 [3] [4] [.int fuel] [.bool (decide (0≤fuel)&&decide (fuel≤4096))]:=by
 refine Ctr.body ok Go.Proofs.Tryz.func87 rfl rfl 9 rfl [.tmp 2] rfl (by simp [QL]) ?_
 simp only [go_sem,Nat.reduceAdd]
 repeat' first
  | ((with_reducible refine Zx fun R1 hR1=>?_);(simp only [go_sem,seval,-List.reduceReplicate,Bool.cond_false_right,Bool.cond_true_left]);(repeat' with_reducible refine And.intro ?_ ?_);all_goals first|(refine hR1 _ ?_;clear hR1 R1)|omega|rfl|decide|assumption|(intro _;omega)|(simp;done)|(simp;omega))
  | ((with_reducible refine Zw ?_);refine hR _ ?_;clear hR R;try simp only [go_sem,QPg,Nat.reduceBEq])
  | (with_reducible first|refine J1 ?_|refine J2 ?_|refine ZL ?_|refine ZS ?_)
  | ((with_reducible refine rg QPg fun R hR=>?_);simp only [go_sem,QC])
  | ((with_reducible first|refine YQ ?_|refine Zv ?_)
     simp only [go_sem,QS,QW,QM,seval]
     first|exact ⟨rfl,rfl⟩|rfl)
end Go.Eng.Tryz
namespace Go.Eng.Tryz
open Go.RowKit Go.Eng
set_option maxHeartbeats 0
set_option maxRecDepth 20000
theorem Ve (p:Prg) (g:Gor) (fuel:Int) (hp:p.Fit) (hr:QT p=true) (hg:gorIn p g) (hf:0≤fuel∧fuel≤4096) (h1:g.status=1):Ctr Go.Proofs.Tryz.prog tab 88 [26,44,3] [44] [p.v,g.v,.int fuel] [(YH QA p fuel.toNat g).v]:=by
 obtain ⟨m,rfl⟩:=Int.eq_ofNat_of_zero_le hf.1
 exact QBW p g m hp hr hg (by omega) h1
def QE8:List (List Nat):=[[2,3,4,5,8],[2,3,4,5,8,13],[8,9],[2,3,4,5,8,18],[8,9],[2,3,4,5,8,30],[8,9],[2,3,4,5,8,35],[8,9],[2,3,4,5,8,10],[2,3,4,5,8,10,48],[2,3,4,5,8,10],[5,8],[8,9]]
theorem QCv (p:Prg) (s:Stt) (g fuel:Int) (hp:p.Fit) (hs:s.Shape):Ctr Go.Proofs.Tryz.prog tab 166 [26,47,3,3] [47,30] [p.v,s.v,.int g,.int fuel] [(Q6 QA p s g fuel).1.v,.int (Q6 QA p s g fuel).2]:=by
 have hpp:=hp
 have hfit:=hp
 have hcode:=p.code_len hp
 have hsl:=p.sels_len hp
 obtain ⟨hp1,hp2,hp3,hp4⟩:=hp
 have hs5:=hs.gos
 refine Ctr.body ok Go.Proofs.Tryz.func166 rfl rfl 58 rfl [.cell 8 47,.tmp 9] rfl (by simp [QL]) ?_
 simp only [go_sem,Nat.reduceAdd]
 repeat' first
  | ((with_reducible refine SARA.told 9 4 ?_)
     rw [XN (by omega)])
  | ((with_reducible refine Zx fun R1 hR1=>?_);(simp only [go_sem,seval,-List.reduceReplicate,Zd,QK,Bool.cond_false_right,Bool.cond_true_left,Gor.put0,Gor.put2,Gor.put3,Gor.put4,Q7]);(repeat' with_reducible refine And.intro ?_ ?_);all_goals first|(refine hR1 _ ?_;clear hR1 R1)|(intro hgf;simp only [hgf];refine hR1 _ ?_;clear hR1 R1)|((first|refine cq (cc (VD p hpp)) ?_|refine ⟨_,_,rfl,.inl ⟨_,fun hg=>CallQ.ctr ok (VD p hpp) (by first|rfl|(simp [go_sem];done)|fail) rfl,?_⟩⟩|refine cq (cc (zP p s hpp hs)) ?_|refine ⟨_,_,rfl,.inl ⟨_,fun hg=>CallQ.ctr ok (zP p s hpp hs) (by first|rfl|(simp [go_sem];done)|fail) rfl,?_⟩⟩|refine cq (cc (qC _)) ?_|refine ⟨_,_,rfl,.inl ⟨_,fun hg=>CallQ.ctr ok (qC _) (by first|rfl|(simp [go_sem];done)|fail) rfl,?_⟩⟩|refine cq (cc (Ve p ⟨1,(s.gos.getD g.toNat default).func,(s.gos.getD g.toNat default).pc,(s.gos.getD g.toNat default).why,(s.gos.getD g.toNat default).regs⟩ fuel hpp hb13 hgi1 hf rfl)) ?_|refine ⟨_,_,rfl,.inl ⟨_,fun hg=>CallQ.ctr ok (Ve p ⟨1,(s.gos.getD g.toNat default).func,(s.gos.getD g.toNat default).pc,(s.gos.getD g.toNat default).why,(s.gos.getD g.toNat default).regs⟩ fuel hpp hb13 hgi1 hf rfl) (by first|rfl|(simp [go_sem];done)|fail) rfl,?_⟩⟩);all_goals ((try simp only [go_sem,seval,-List.reduceReplicate,Zd,QK,Bool.cond_false_right,Bool.cond_true_left,Gor.put0,Gor.put2,Gor.put3,Gor.put4,Q7]);(repeat' with_reducible refine And.intro ?_ ?_);all_goals first|(refine hR1 _ ?_;clear hR1 R1)|(intro hgf;simp only [hgf];refine hR1 _ ?_;clear hR1 R1)|exact YJ))|exact YJ)
  | ((with_reducible refine Zw ?_);refine hR _ ?_;clear hR R;try simp only [go_sem,QE8,Nat.reduceBEq])
  | (with_reducible first|refine J1 ?_|refine J2 ?_|refine J3 ?_|refine ZL ?_|refine ZS ?_)
  | ((with_reducible refine Qy 5 ?_)
     obtain ⟨hv1,hv2,hv3,hv4⟩:=VQ hb18
     (with_reducible refine rg QE8 fun R hR=>?_);simp only [go_sem,QC])
  | ((with_reducible refine Qy 9 ?_)
     have hgi:=QIh hs hv3 (g:=g) (by omega) (by omega) (by omega)
     have hf:0≤fuel∧fuel≤4096:=by omega
     have hgi1:gorIn p ⟨1,(s.gos.getD g.toNat default).func,(s.gos.getD g.toNat default).pc,(s.gos.getD g.toNat default).why,(s.gos.getD g.toNat default).regs⟩:=⟨hgi.f0,hgi.f1,hgi.p0,hgi.p1,hgi.regs⟩
     (with_reducible refine rg QE8 fun R hR=>?_);simp only [go_sem,QC])
  | ((with_reducible refine rg QE8 fun R hR=>?_);simp only [go_sem,QC])
  | ((with_reducible refine QR 13 rfl (fun hb13=>?_) fun hb13=>?_);all_goals (try simp [-List.getD_eq_getElem?_getD] at hb13;try (exfalso;omega)))
  | ((with_reducible refine QR 18 rfl (fun hb18=>?_) fun hb18=>?_);all_goals (try simp [-List.getD_eq_getElem?_getD] at hb18;try (exfalso;omega)))
  | ((with_reducible refine QR 30 rfl (fun hb30=>?_) fun hb30=>?_);all_goals (try simp [-List.getD_eq_getElem?_getD] at hb30;try (exfalso;omega)))
  | ((with_reducible refine QR 35 rfl (fun hb35=>?_) fun hb35=>?_);all_goals (try simp [-List.getD_eq_getElem?_getD] at hb35;try (exfalso;omega)))
  | ((with_reducible refine QR 48 rfl (fun hb48=>?_) fun hb48=>?_);all_goals (try simp [-List.getD_eq_getElem?_getD] at hb48;try (exfalso;omega)))
  | ((with_reducible first|refine YQ ?_|refine Zv ?_)
     simp only [go_sem,QS,QW,QM,seval]
     first
      | (have q:_∨_:=hb48
         have e:Q6 QA p s g fuel=(⟨s.vars,s.owner,s.chans,s.gos.set g.toNat (X8 QA p (s.gor g) fuel),s.count⟩,0):=(if_neg (by rw [hb13];simp)).trans ((if_neg (by rw [hb18];simp)).trans ((if_neg (by omega)).trans ((if_neg (by omega)).trans (if_pos hb48))))
         rw [e]
         exact ⟨⟨rfl,rfl⟩,⟨rfl,rfl⟩⟩)
      | (have q:_∧_:=hb48
         have e:Q6 QA p s g fuel=(s,0):=(if_neg (by rw [hb13];simp)).trans ((if_neg (by rw [hb18];simp)).trans ((if_neg (by omega)).trans ((if_neg (by omega)).trans (if_neg (fun q=>q.elim hb48.1 hb48.2)))))
         rw [e]
         exact ⟨⟨rfl,rfl⟩,⟨rfl,rfl⟩⟩)
      | (have q:=hb35
         have e:Q6 QA p s g fuel=(zeroStt,9):=(if_neg (by rw [hb13];simp)).trans ((if_neg (by rw [hb18];simp)).trans ((if_neg (by omega)).trans (if_pos hb35)))
         rw [e]
         exact ⟨⟨rfl,rfl⟩,⟨rfl,rfl⟩⟩)
      | (have q:=hb30
         have e:Q6 QA p s g fuel=(zeroStt,1):=(if_neg (by rw [hb13];simp)).trans ((if_neg (by rw [hb18];simp)).trans (if_pos (by omega)))
         rw [e]
         exact ⟨⟨rfl,rfl⟩,⟨rfl,rfl⟩⟩)
      | (have q:=hb18
         have e:Q6 QA p s g fuel=(zeroStt,4):=(if_neg (by rw [hb13];simp)).trans (if_pos hb18)
         rw [e]
         exact ⟨⟨rfl,rfl⟩,⟨rfl,rfl⟩⟩)
      | (have e:Q6 QA p s g fuel=(zeroStt,3):=if_pos hb13
         rw [e]
         exact ⟨⟨rfl,rfl⟩,⟨rfl,rfl⟩⟩))
end Go.Eng.Tryz
namespace Go.Eng.Tryz
open Go.RowKit Go.Eng
set_option maxHeartbeats 0
set_option maxRecDepth 20000
def QNC:List (List Nat):=[[1,2,4],[1,2,4,11],[4,5],[1,2,4,15],[4,5],[1,2,4,6],[1,2,4,6,19,20,21],[1,2,4,6,19,20,21,22],[1,2,4,6,7,8,19,20,21],[1,2,4,6,19,20,21],[1,2,4,6,19,20,21],[4,6],[4,5]]
theorem zQ (p:Prg) (fuel:Int) (hp:p.Fit):Ctr Go.Proofs.Tryz.prog tab 45 [26,3] [47,30] [p.v,.int fuel] [(start QA p fuel).1.v,.int (start QA p fuel).2]:=by
 have hpp:=hp
 have hfit:=hp
 have hcode:=p.code_len hp
 have hsl:=p.sels_len hp
 obtain ⟨hp1,hp2,hp3,hp4⟩:=hp
 refine Ctr.body ok Go.Proofs.Tryz.func45 rfl rfl 39 rfl [.cell 4 47,.tmp 5] rfl (by simp [QL]) ?_
 simp only [go_sem,Nat.reduceAdd]
 repeat' first
  | ((with_reducible refine SARA.told 8 3 ?_)
     rw [wu (by omega)])
  | ((with_reducible refine Zx fun R1 hR1=>?_);(simp only [go_sem,seval,-List.reduceReplicate,Zd,QK,Stt.put4,Stt.put0,Stt.put3,Bool.cond_false_right,Bool.cond_true_left,Gor.put0,Gor.put2,Gor.put3,Gor.put4,Q7]);(repeat' with_reducible refine And.intro ?_ ?_);all_goals first|(refine hR1 _ ?_;clear hR1 R1)|((first|refine cq (cc (VD p hpp)) ?_|refine cq (cc (qC _)) ?_|refine cq (cc (Ve p (⟨1,0,0,0,List.replicate 8 0⟩:Gor) fuel hpp hr hgi hf rfl)) ?_);all_goals ((try simp only [go_sem,seval,-List.reduceReplicate,Zd,QK,Stt.put4,Stt.put0,Stt.put3,Bool.cond_false_right,Bool.cond_true_left,Gor.put0,Gor.put2,Gor.put3,Gor.put4,Q7]);(repeat' with_reducible refine And.intro ?_ ?_);all_goals first|(refine hR1 _ ?_;clear hR1 R1)|exact YJ))|exact YJ)
  | ((with_reducible refine Zw ?_);refine hR _ ?_;clear hR R;try simp only [go_sem,QNC,Nat.reduceBEq])
  | (with_reducible first|refine J1 ?_|refine J2 ?_|refine J3 ?_|refine J4 ?_|refine J5 ?_|refine J6 ?_|refine J7 ?_|refine J8 (by decide) ?_|refine J9 ?_|refine Uf ?_|refine ZL ?_|refine ZS ?_|refine Y3 ?_|refine V7 ?_)
  | ((with_reducible refine Qy 5 ?_)
     have hr:QT p=true:=hb11
     have hok:=Prg.ok hr
     have hsz:=hok.sizes
     unfold Yc at hsz
     have hf:0≤fuel∧fuel≤4096:=by omega
     have hgi:gorIn p (⟨1,0,0,0,List.replicate 8 0⟩:Gor):=⟨(Uu hok).f0,(Uu hok).f1,(Uu hok).p0,(Uu hok).p1,rfl⟩
     (with_reducible refine rg QNC fun R hR=>?_);simp only [go_sem,QC])
  | ((with_reducible refine rg QNC fun R hR=>?_);simp only [go_sem,QC])
  | ((with_reducible refine QR 11 rfl (fun hb11=>?_) fun hb11=>?_);all_goals (try simp [-List.getD_eq_getElem?_getD] at hb11;try (exfalso;omega)))
  | ((with_reducible refine QR 15 rfl (fun hb15=>?_) fun hb15=>?_);all_goals (try simp [-List.getD_eq_getElem?_getD] at hb15;try (exfalso;omega)))
  | ((with_reducible refine QR 22 rfl (fun hb22=>?_) fun hb22=>?_);all_goals (try simp [-List.getD_eq_getElem?_getD] at hb22;try (exfalso;omega)))
  | ((with_reducible refine W1 ?_)
     refine Yx (ZZ (by (simp only [wG];rfl))) (Wo (fun n τ=>∃ (i:Nat),n=p.vars.length-i∧(i≤p.vars.length)∧τ={ tm:=[(1,true,.int .i64 fuel),(2,true,.ptr 0 [] 26),(4,true,.ptr 1 [] 47),(6,true,.ptr 2 [] 47),(19,true,.fs 167 (p.vars.map Vr.v) false),(20,true,.int .i64 p.vars.length),(21,true,.int .i64 i)],ob:=[.var 26 (.data 26 p.v),.var 47 (.data 47 zeroStt.v),.var 47 (.data 47 (Stt.v ⟨YT p i,zeroStt.owner,zeroStt.chans,zeroStt.gos,1⟩))],out:=[],nt:=39 }) (p.vars.length) ⟨0,rfl,by omega,rfl⟩ ?_)
     rintro n τ ⟨i,hn,hi,rfl⟩)
  | ((with_reducible refine zF ?_)
     first
      | (have hlt:i<p.vars.length:=by omega
         refine WE (p.vars.length-(i+1)) _ (by omega) ((Vk 3 rfl).trans (ZZ (by simp only [QN hlt hp1,wH p (show i<8 by omega),List.take_succ_cons,List.take_zero]))) ⟨i+1,rfl,hlt,rfl⟩))
  | ((with_reducible first|refine YQ ?_|refine Zv ?_)
     simp only [go_sem,QS,QW,QM,seval]
     first
      | (have hi':i=p.vars.length:=by omega
         subst hi'
         have e:start QA p fuel=(⟨YT p p.vars.length,zeroStt.owner,zeroStt.chans,zeroStt.gos.set 0 (X8 QA p zeroGor fuel),1⟩,0):=(if_neg (by rw [hr];simp)).trans (if_neg (by omega))
         rw [e]
         exact ⟨⟨rfl,rfl⟩,⟨rfl,rfl⟩⟩)
      | (have q:=hb15
         have e:start QA p fuel=(zeroStt,1):=(if_neg (by rw [hb11];simp)).trans (if_pos (by omega))
         rw [e]
         exact ⟨⟨rfl,rfl⟩,⟨rfl,rfl⟩⟩)
      | (have e:start QA p fuel=(zeroStt,3):=if_pos hb11
         rw [e]
         exact ⟨⟨rfl,rfl⟩,⟨rfl,rfl⟩⟩))
def QNB:List (List Nat):=[[1],[1,3],[3,7,8],[3,7,8,9],[3,4,5,7,8],[3,4,7,8,19],[3,7,8],[3,7,8],[2]]
theorem QF4 (s:Stt) (hs:s.Shape):Ctr Go.Proofs.Tryz.prog tab 48 [47] [23] [s.v] [.list ((Qh s 6).map V.int)]:=by
 have hcode:True→True:=id
 have hsl:True→True:=id
 have hs5:=hs.gos
 refine Ctr.body ok Go.Proofs.Tryz.func48 rfl rfl 26 rfl [.tmp 2] rfl (by simp [QL]) ?_
 simp only [go_sem,Nat.reduceAdd]
 repeat' first
  | ((with_reducible refine SARA.told 4 2 ?_)
     rw [XN (by omega)])
  | ((with_reducible refine Zx fun R1 hR1=>?_);(simp only [go_sem,seval,-List.reduceReplicate,Zd,QK,Yu,vq,z3,Bool.cond_false_right,Bool.cond_true_left]);(repeat' with_reducible refine And.intro ?_ ?_);all_goals first|(refine hR1 _ ?_;clear hR1 R1)|omega|rfl|decide|assumption|(intro _;omega)|(simp;done)|(simp [-List.getD_eq_getElem?_getD];omega)|exact hcode _|(intro _;exact hcode _)|exact hsl _|(intro _;exact hsl _)|(simp [-List.getD_eq_getElem?_getD,QF,maxLen,YN,Q0,Qz,Qw,Qx];omega)|(simp [-List.getD_eq_getElem?_getD,QF,maxLen,YN,Q0,Qz,Qw,Qx];done))
  | ((with_reducible refine Zw ?_);refine hR _ ?_;clear hR R;try simp only [go_sem,QNB,Nat.reduceBEq])
  | (with_reducible first|refine J1 ?_|refine J2 ?_|refine J3 ?_|refine J4 ?_|refine J5 ?_|refine J6 ?_|refine J7 ?_|refine J8 (by decide) ?_|refine J9 ?_|refine Uf ?_|refine ZL ?_|refine ZS ?_|refine Y3 ?_|refine V7 ?_)
  | ((with_reducible refine Qy 6 ?_)
     have hll:=wq s i
     (with_reducible refine rg QNB fun R hR=>?_);simp only [go_sem,QC])
  | ((with_reducible refine rg QNB fun R hR=>?_);simp only [go_sem,QC])
  | ((with_reducible refine QR 9 rfl (fun hb9=>?_) fun hb9=>?_);all_goals (try simp [-List.getD_eq_getElem?_getD] at hb9;try (exfalso;omega)))
  | ((with_reducible refine QR 19 rfl (fun hb19=>?_) fun hb19=>?_);all_goals (try simp [-List.getD_eq_getElem?_getD] at hb19;try (exfalso;omega)))
  | ((with_reducible refine W1 ?_)
     refine Yx ((St.le.own (t:=3) 3 rfl).trans ((St.le.keep [3,7,8]).trans (ZZ (by first|rfl|(simp [Qh];done))))) (Wo (fun n τ=>∃ (i:Nat),n=6-i∧(i≤6)∧τ={ tm:=[(3,true,.sl 1 3 0 (Qh s i).length false),(7,true,.data 45 (.agg (s.gos.map Gor.v))),(8,true,.int .i64 i)],ob:=[.var 47 (.data 47 s.v),.row 3 ((Qh s i).map V.int)],out:=[],nt:=26 }) (6) ⟨0,rfl,by omega,rfl⟩ ?_)
     rintro n τ ⟨i,hn,hi,rfl⟩)
  | ((with_reducible refine zF ?_)
     first
      | (have q:_∨_:=hb19
         have hlt:i<6:=by omega
         have hw:=QN (n:=i) (m:=256) (by omega) (by decide)
         have e:=U8 s i
         rw [if_pos (by unfold Wi;simpa using hb19)] at e
         refine WE (6-(i+1)) _ (by omega) ((Vk 2 rfl).trans (ZZ (by simp [-List.getD_eq_getElem?_getD,hw,e,List.take_of_length_le]))) ⟨i+1,rfl,hlt,rfl⟩)
      | (have q:_∧_:=hb19
         have hlt:i<6:=by omega
         have hw:=QN (n:=i) (m:=256) (by omega) (by decide)
         have e:=U8 s i
         rw [if_neg (by unfold Wi;simpa using hb19),List.append_nil] at e
         refine WE (6-(i+1)) _ (by omega) ((Vk 2 rfl).trans (ZZ (by simp [-List.getD_eq_getElem?_getD,hw,e,List.take_of_length_le]))) ⟨i+1,rfl,hlt,rfl⟩))
  | ((with_reducible first|refine YQ ?_|refine Zv ?_)
     simp only [go_sem,QS,QW,QM,seval]
     have e:i=6:=by omega
     subst e
     refine ⟨rfl,?_⟩
     simp [List.take_of_length_le])
def QPm:List (List Nat):=[[2,3],[2,3,5],[2,3,13],[4],[17],[4],[4]]
end Go.Eng.Tryz
