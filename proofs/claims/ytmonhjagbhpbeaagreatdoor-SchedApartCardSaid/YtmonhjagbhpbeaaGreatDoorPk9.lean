/- A part of the proof: walks through the program's functions, and what they compute. -/
import Derived.Test.YtmonhjagbhpbeaaGreatDoorPk5
set_option linter.unusedSimpArgs false
set_option linter.unusedVariables false
namespace Go.Eng.Tryz
open Go.RowKit Go.Eng
set_option maxHeartbeats 0
set_option maxRecDepth 20000
attribute [go_sem] QVa QVZ
def QOX:List (List Nat):=[[0,1],[4]]
theorem zT (x n:Int):Ctr Go.Proofs.Tryz.prog tab 182 [2,3] [4] [.int x,.int n] [.bool (Qk x n)]:=by
 refine Ctr.body ok Go.Proofs.Tryz.func182 rfl rfl 12 rfl [.tmp 4] rfl (by simp [QF]) ?_
 simp only [go_sem,Nat.reduceAdd]
 repeat' first
  | ((with_reducible refine Q5 fun R1 hR1=>?_);(simp only [go_sem,seval,-List.reduceReplicate]);(repeat' with_reducible refine And.intro ?_ ?_);all_goals first|(refine hR1 _ ?_;clear hR1 R1)|exact ob3)
  | ((with_reducible refine Q4 ?_);refine hR _ ?_;clear hR R;try simp only [go_sem,QOX,Nat.reduceBEq])
  | (with_reducible first|refine J1 ?_|refine J2 ?_|refine Q2 ?_|refine Q1 ?_)
  | ((with_reducible refine rg QOX fun R hR=>?_);simp only [go_sem,QC])
  | ((with_reducible first|refine ZQ ?_|refine ZP ?_)
     simp only [go_sem,QL,QM,QH,seval]
     refine ⟨rfl,?_⟩
     simp only [Qk]
     cases decide (0≤x)<;>rfl)
def QO4:List (List Nat):=[[0],[2]]
theorem qO (x:Int):Ctr Go.Proofs.Tryz.prog tab 123 [58] [4] [.int x] [.bool (Qp x)]:=by
 refine Ctr.body ok Go.Proofs.Tryz.func123 rfl rfl 17 rfl [.tmp 2] rfl (by simp [QF]) ?_
 simp only [go_sem,Nat.reduceAdd]
 repeat' first
  | ((with_reducible refine Q5 fun R1 hR1=>?_);(simp only [go_sem,seval,-List.reduceReplicate]);(repeat' with_reducible refine And.intro ?_ ?_);all_goals first|(refine hR1 _ ?_;clear hR1 R1)|exact ob3)
  | ((with_reducible refine Q4 ?_);refine hR _ ?_;clear hR R;try simp only [go_sem,QO4,Nat.reduceBEq])
  | (with_reducible first|refine J1 ?_|refine J2 ?_|refine Q2 ?_|refine Q1 ?_)
  | ((with_reducible refine rg QO4 fun R hR=>?_);simp only [go_sem,QC])
  | ((with_reducible first|refine ZQ ?_|refine ZP ?_)
     simp only [go_sem,QL,QM,QH,seval]
     refine ⟨rfl,?_⟩
     simp only [Qp]
     cases decide (1≤x)<;>cases decide (x≤36)<;>cases decide (40≤x)<;>rfl)
def QO1:List (List Nat):=[[0],[2]]
theorem VY (x:Int):Ctr Go.Proofs.Tryz.prog tab 128 [58] [4] [.int x] [.bool (ZG x)]:=by
 refine Ctr.body ok Go.Proofs.Tryz.func128 rfl rfl 9 rfl [.tmp 2] rfl (by simp [QF]) ?_
 simp only [go_sem,Nat.reduceAdd]
 repeat' first
  | ((with_reducible refine Q5 fun R1 hR1=>?_);(simp only [go_sem,seval,-List.reduceReplicate]);(repeat' with_reducible refine And.intro ?_ ?_);all_goals first|(refine hR1 _ ?_;clear hR1 R1)|exact ob3)
  | ((with_reducible refine Q4 ?_);refine hR _ ?_;clear hR R;try simp only [go_sem,QO1,Nat.reduceBEq])
  | (with_reducible first|refine J1 ?_|refine J2 ?_|refine Q2 ?_|refine Q1 ?_)
  | ((with_reducible refine rg QO1 fun R hR=>?_);simp only [go_sem,QC])
  | ((with_reducible first|refine ZQ ?_|refine ZP ?_)
     simp only [go_sem,QL,QM,QH,seval]
     refine ⟨rfl,?_⟩
     simp only [ZG]
     cases decide (50≤x)<;>rfl)
def QOo:List (List Nat):=[[0],[0,3],[2],[0,10],[2],[17],[17,18],[17,18],[17,18],[2],[17,22],[2],[17,24],[2],[17,26],[2],[17,28],[17,28],[2],[17,31],[2],[17,33],[2],[17,35],[2],[17,37],[2],[17,39],[2],[17,41],[17,41],[2],[17,44],[2],[17,46],[2],[17,48],[2],[17,50],[2],[17,52],[2],[17,54],[2],[56],[2],[2]]
theorem QCq (op:Int):Ctr Go.Proofs.Tryz.prog tab 148 [58] [9] [.int op] [.str (VU op)]:=by
 refine Ctr.body ok Go.Proofs.Tryz.func148 rfl rfl 58 rfl [.tmp 2] rfl (by simp [QF]) ?_
 simp only [go_sem,Nat.reduceAdd]
 repeat' first
  | ((with_reducible refine Q5 fun R1 hR1=>?_);(simp only [go_sem,seval,-List.reduceReplicate]);(repeat' with_reducible refine And.intro ?_ ?_);all_goals first|(refine hR1 _ ?_;clear hR1 R1)|exact ob3)
  | ((with_reducible refine Q4 ?_);refine hR _ ?_;clear hR R;try simp only [go_sem,QOo,Nat.reduceBEq])
  | (with_reducible first|refine J1 ?_|refine J2 ?_|refine J3 ?_|refine J4 ?_|refine J5 ?_|refine J6 ?_|refine J7 ?_|refine J8 (by decide) ?_|refine J9 ?_|refine Q2 ?_|refine Q1 ?_|refine Yc ?_)
  | ((with_reducible refine rg QOo fun R hR=>?_);simp only [go_sem,QC])
  | ((with_reducible refine SA.cond rfl ?_ ?_)
     all_goals
      intro hb
      try simp at hb
      try (exfalso;omega))
  | ((with_reducible first|refine ZQ ?_|refine ZP ?_)
     simp only [go_sem,QL,QM,QH,seval]
     refine ⟨rfl,?_⟩
     first|(subst_vars;rfl)|(unfold VU ZC;(repeat (rw [if_neg (by omega)]));(try rw [if_pos (by omega)]);rfl))
def QOr:List (List Nat):=[[0,1],[8],[4],[4]]
theorem qR (x n:Int):Ctr Go.Proofs.Tryz.prog tab 145 [2,3] [30] [.int x,.int n] [.int (YQ 36 x n)]:=by
 refine Ctr.body ok Go.Proofs.Tryz.func145 rfl rfl 9 rfl [.tmp 4] rfl (by simp [QF]) ?_
 simp only [go_sem,Nat.reduceAdd]
 repeat' first
  | ((with_reducible refine Q5 fun R1 hR1=>?_);(simp only [go_sem,seval,-List.reduceReplicate]);(repeat' with_reducible refine And.intro ?_ ?_);all_goals first|(refine hR1 _ ?_;clear hR1 R1)|((first|refine cq (cc (zT _ _)) ?_);all_goals ((try simp only [go_sem,seval,-List.reduceReplicate]);(repeat' with_reducible refine And.intro ?_ ?_);all_goals first|(refine hR1 _ ?_;clear hR1 R1)|exact Vz))|exact Vz)
  | ((with_reducible refine Q4 ?_);refine hR _ ?_;clear hR R;try simp only [go_sem,QOr,Nat.reduceBEq])
  | (with_reducible first|refine J1 ?_|refine J2 ?_|refine J3 ?_|refine Q2 ?_|refine Q1 ?_)
  | ((with_reducible refine rg QOr fun R hR=>?_);simp only [go_sem,QC])
  | ((with_reducible refine QI 8 rfl (fun hb8=>?_) fun hb8=>?_);all_goals (try simp at hb8;try (exfalso;omega)))
  | ((with_reducible first|refine ZQ ?_|refine ZP ?_)
     simp only [go_sem,QL,QM,QH,seval]
     refine ⟨rfl,?_⟩
     simp [YQ,hb8])
def QOq:List (List Nat):=[[0,1],[12],[4],[4]]
theorem VX (p:Prg) (f:Fnc) (x:Int):Ctr Go.Proofs.Tryz.prog tab 146 [194,2] [30] [.ref (ckV p f),.int x] [.int (YQ 35 x f.regs)]:=by
 refine Ctr.body ok Go.Proofs.Tryz.func146 rfl rfl 13 rfl [.tmp 4] rfl (by simp [QF]) ?_
 simp only [go_sem,Nat.reduceAdd]
 repeat' first
  | ((with_reducible refine Q5 fun R1 hR1=>?_);(simp only [go_sem,seval,-List.reduceReplicate]);(repeat' with_reducible refine And.intro ?_ ?_);all_goals first|(refine hR1 _ ?_;clear hR1 R1)|((first|refine cq (cc (zT _ _)) ?_);all_goals ((try simp only [go_sem,seval,-List.reduceReplicate]);(repeat' with_reducible refine And.intro ?_ ?_);all_goals first|(refine hR1 _ ?_;clear hR1 R1)|exact Vz))|exact Vz)
  | ((with_reducible refine Q4 ?_);refine hR _ ?_;clear hR R;try simp only [go_sem,QOq,Nat.reduceBEq])
  | (with_reducible first|refine J1 ?_|refine J2 ?_|refine J3 ?_|refine Q2 ?_|refine Q1 ?_)
  | ((with_reducible refine rg QOq fun R hR=>?_);simp only [go_sem,QC])
  | ((with_reducible refine QI 12 rfl (fun hb12=>?_) fun hb12=>?_);all_goals (try simp at hb12;try (exfalso;omega)))
  | ((with_reducible first|refine ZQ ?_|refine ZP ?_)
     simp only [go_sem,QL,QM,QH,seval]
     refine ⟨rfl,?_⟩
     simp [YQ,hb12])
def QOp:List (List Nat):=[[0,1],[13],[4],[4]]
theorem qE (p:Prg) (f:Fnc) (x:Int) (hf:f.Fit):Ctr Go.Proofs.Tryz.prog tab 147 [194,2] [30] [.ref (ckV p f),.int x] [.int (YQ 38 x f.code.length)]:=by
 have hf1:=hf.1
 refine Ctr.body ok Go.Proofs.Tryz.func147 rfl rfl 14 rfl [.tmp 4] rfl (by simp [QF]) ?_
 simp only [go_sem,Nat.reduceAdd]
 repeat' first
  | ((with_reducible refine Q5 fun R1 hR1=>?_);(simp only [go_sem,seval,-List.reduceReplicate]);(repeat' with_reducible refine And.intro ?_ ?_);all_goals first|(refine hR1 _ ?_;clear hR1 R1)|((first|refine cq (cc (zT _ _)) ?_);all_goals ((try simp only [go_sem,seval,-List.reduceReplicate]);(repeat' with_reducible refine And.intro ?_ ?_);all_goals first|(refine hR1 _ ?_;clear hR1 R1)|exact Vz))|exact Vz)
  | ((with_reducible refine Q4 ?_);refine hR _ ?_;clear hR R;try simp only [go_sem,QOp,Nat.reduceBEq])
  | (with_reducible first|refine J1 ?_|refine J2 ?_|refine J3 ?_|refine Q2 ?_|refine Q1 ?_)
  | ((with_reducible refine rg QOp fun R hR=>?_);simp only [go_sem,QC])
  | ((with_reducible refine QI 13 rfl (fun hb13=>?_) fun hb13=>?_);all_goals (try simp at hb13;try (exfalso;omega)))
  | ((with_reducible first|refine ZQ ?_|refine ZP ?_)
     simp only [go_sem,QL,QM,QH,seval]
     refine ⟨rfl,?_⟩
     simp [YQ,hb13])
def QOn:List (List Nat):=[[1,2],[2]]
theorem xn (i:Instr):Ctr Go.Proofs.Tryz.prog tab 149 [104] [39] [i.v] [.agg [.int i.a,.int i.b,.int i.c,.int i.n]]:=by
 refine Ctr.body ok Go.Proofs.Tryz.func149 rfl rfl 12 rfl [.cell 2 39] rfl (by simp [QF]) ?_
 simp only [go_sem,Nat.reduceAdd]
 repeat' first
  | ((with_reducible refine Q5 fun R1 hR1=>?_);(simp only [go_sem,seval,-List.reduceReplicate,QPR,z39,z2]);(repeat' with_reducible refine And.intro ?_ ?_);all_goals first|(refine hR1 _ ?_;clear hR1 R1)|exact Vz)
  | ((with_reducible refine Q4 ?_);refine hR _ ?_;clear hR R;try simp only [go_sem,QOn,Nat.reduceBEq])
  | (with_reducible first|refine J1 ?_|refine J2 ?_|refine Q2 ?_|refine Q1 ?_)
  | ((with_reducible refine rg QOn fun R hR=>?_);simp only [go_sem,QC])
  | ((with_reducible first|refine ZQ ?_|refine ZP ?_)
     simp only [go_sem,QL,QM,QH,seval]
     rfl)
def QHr:List (List Nat):=[[0,1,2,7],[0,2,7,12],[0,2,7,12,13],[0,2,16],[8],[8],[0,2,7,12,20],[0,2,7,12,20],[8],[0,2,7,12,26],[9],[9,37],[8],[8],[0,2,7,12,39],[0,2,10],[0,2,10,50],[8],[61],[8],[0,2,7,12,62],[8],[0,2,7,12,71],[8],[0,2,7,12,81],[8],[0,2,7,12,91],[8],[0,2,7,12,101],[8],[0,2,7,106],[0,2,11],[142],[8],[8]]
theorem xj (p:Prg) (f:Fnc) (letter x:Int) (i:Instr) (hp:p.Fit) (hf:f.Fit) (h112:letter=112→0≤i.b∧i.b<p.funcs.length):Ctr Go.Proofs.Tryz.prog tab 150 [194,5,2,104] [30] [.ref (ckV p f),.int letter,.int x,i.v] [.int (Qd p f letter x i)]:=by
 obtain ⟨hp1,hp2,hp3,hp4⟩:=hp
 have hff:=hf
 obtain ⟨hf1,hf2,hf3⟩:=hf
 refine Ctr.body ok Go.Proofs.Tryz.func150 rfl rfl 143 rfl [.tmp 8] rfl (by simp [QF]) ?_
 simp only [go_sem,Nat.reduceAdd]
 repeat' first
  | ((with_reducible refine SARA.told 18 7 ?_)
     rw [xw (by omega)])
  | ((with_reducible first|refine Q5 fun R1 hR1=>?_|refine yb fun R1 hR1=>?_);(simp only [go_sem,seval,-List.reduceReplicate]);(repeat' with_reducible refine And.intro ?_ ?_);all_goals first|(refine hR1 _ ?_;clear hR1 R1)|((first|refine V4 (cc (qR _ _)) ?_|refine cq (cc (qR _ _)) ?_|refine V4 (cc (VX p f _)) ?_|refine cq (cc (VX p f _)) ?_|refine V4 (cc (qE p f _ hff)) ?_|refine cq (cc (qE p f _ hff)) ?_);all_goals ((try simp only [go_sem,seval,-List.reduceReplicate]);(repeat' with_reducible refine And.intro ?_ ?_);all_goals first|(refine hR1 _ ?_;clear hR1 R1)|exact Vz))|exact Vz)
  | ((with_reducible first|refine Q4 ?_|refine ya ?_);refine hR _ ?_;clear hR R;try simp only [go_sem,QHr,Nat.reduceBEq])
  | (with_reducible first|refine J1 ?_|refine J2 ?_|refine J3 ?_|refine J4 ?_|refine J5 ?_|refine J6 ?_|refine J7 ?_|refine J8 (by decide) ?_|refine J9 ?_|refine Q2 ?_|refine Q1 ?_|refine Yc ?_)
  | ((with_reducible refine Qe 18 ?_)
     have hx:=Y6 hb50 (by decide)
     (with_reducible refine rg QHr fun R hR=>?_);simp only [go_sem,QC])
  | ((with_reducible refine rg QHr fun R hR=>?_);simp only [go_sem,QC])
  | ((with_reducible refine Ve ok QQ (by kernel_rfl) (by kernel_rfl) QHr ?_);intro R hR;simp only [go_sem,QC])
  | ((with_reducible refine QI 50 rfl (fun hb50=>?_) fun hb50=>?_);all_goals (try simp at hb50;try (exfalso;omega)))
  | ((with_reducible refine SA.cond rfl ?_ ?_)
     all_goals
      intro hb
      try simp at hb
      try (exfalso;omega))
  | ((with_reducible first|refine ZQ ?_|refine ZP ?_)
     simp only [go_sem,QL,QM,QH,seval]
     refine ⟨rfl,?_⟩
     first|(subst_vars;simp [Qd,YQ,Qk,Prg.fn,w64, *];done)|(subst_vars;simp only [Qd,YQ,Qk,Prg.fn,w64];simp [*];omega)|(simp_all [Qd,YQ,Qk];done)|(simp_all [Qd,YQ,Qk,Prg.fn,w64];omega))
def QLS:List (List Nat):=[[0,3],[0,3,5],[0,3,5,16],[4],[0,3,5,6],[0,3,5,6,19,20],[0,3,5,6,19,20,21],[0,3,5,6,7,8,19,20],[0,3,5,6,19,20,31],[4],[0,3,5,6,19,20],[0,3,5,33,34],[0,3,5,33,34,35],[0,3,5,9,10,33,34],[0,3,5,11,33,34],[0,3,5,11,33,34,46],[4],[0,3,5,33,34],[4]]
theorem QGd (p:Prg) (f:Fnc) (i:Instr) (hp:p.Fit) (hf:f.Fit):Ctr Go.Proofs.Tryz.prog tab 112 [194,104] [30] [.ref (ckV p f),i.v] [.int (Qb p f i)]:=by
 refine Ctr.body ok Go.Proofs.Tryz.func112 rfl rfl 49 rfl [.tmp 4] rfl (by simp [QF]) ?_
 simp only [go_sem,Nat.reduceAdd]
 repeat' first
  | ((with_reducible first|refine Q5 fun R1 hR1=>?_|refine yb fun R1 hR1=>?_);(simp only [go_sem,seval,-List.reduceReplicate,xy,qV]);(repeat' with_reducible refine And.intro ?_ ?_);all_goals first|(refine hR1 _ ?_;clear hR1 R1)|((first|refine V4 (cc (QCq _)) ?_|refine cq (cc (QCq _)) ?_|refine V4 (cc (xn i)) ?_|refine cq (cc (xn i)) ?_|refine V4 (cc (xj p f _ _ i hp hf (fun h=>Ux hz h))) ?_|refine cq (cc (xj p f _ _ i hp hf (fun h=>Ux hz h))) ?_);all_goals ((try simp only [go_sem,seval,-List.reduceReplicate,xy,qV]);(repeat' with_reducible refine And.intro ?_ ?_);all_goals first|(refine hR1 _ ?_;clear hR1 R1)|exact Vz))|exact Vz)
  | ((with_reducible first|refine Q4 ?_|refine ya ?_);refine hR _ ?_;clear hR R;try simp only [go_sem,QLS,Nat.reduceBEq])
  | (with_reducible first|refine J1 ?_|refine J2 ?_|refine J3 ?_|refine J4 ?_|refine J5 ?_|refine J6 ?_|refine J7 ?_|refine J8 (by decide) ?_|refine J9 ?_|refine Xu ?_|refine Q2 ?_|refine Q1 ?_|refine Yc ?_|refine Xt ?_)
  | ((with_reducible refine rg QLS fun R hR=>?_);simp only [go_sem,QC])
  | ((with_reducible refine Ve ok QQ (by kernel_rfl) (by kernel_rfl) QLS ?_);intro R hR;simp only [go_sem,QC])
  | ((with_reducible refine QI 16 rfl (fun hb16=>?_) (fun hb16=>?_))
     all_goals
      rw [QGq] at hb16
      simp at hb16)
  | ((with_reducible refine QI 31 rfl (fun hb31=>?_) fun hb31=>?_);all_goals (try simp at hb31;try (exfalso;omega)))
  | ((with_reducible refine QI 46 rfl (fun hb46=>?_) fun hb46=>?_);all_goals (try simp at hb46;try (exfalso;omega)))
  | ((with_reducible refine SA.cond rfl ?_ ?_)
     all_goals
      intro hb
      try simp at hb
      try (exfalso;omega))
  | ((with_reducible refine Ya ?_)
     refine Zv (Qo (by first|rfl|(simp;done)|fail)) (Yb (fun n τ=>∃ (j:Nat),n=4-j∧(j≤4∧(Qp i.op=true∨ZG i.op=true)∧XZ i j=false)∧τ={ tm:=[(0,true,.fptr 196 (ckV p f)),(3,true,.ptr 0 [] 104),(5,true,.str (VU i.op)),(6,true,.ptr 1 [] 39),(19,true,.data 39 (.agg [.int i.a,.int i.b,.int i.c,.int i.n])),(20,true,.int .i64 j)],ob:=[.var 104 (.data 104 i.v),.var 39 (.data 39 (.agg [.int i.a,.int i.b,.int i.c,.int i.n]))],out:=[],nt:=49 }) (4) ⟨0,rfl,⟨by omega,by cases h1:Qp i.op<;>simp_all,rfl⟩,rfl⟩ ?_)
     rintro n τ ⟨j,hn,⟨hj,hv,hu⟩,rfl⟩
     have h4:=V2 hv)
  | ((with_reducible refine Ya ?_)
     refine Zv (Qo (by first|rfl|(simp;done)|fail)) (Yb (fun n τ=>∃ (j:Nat),n=4-j∧(j≤4∧(Qp i.op=true∨ZG i.op=true)∧XZ i 4=false∧VR p f i j=0)∧τ={ tm:=[(0,true,.fptr 196 (ckV p f)),(3,true,.ptr 0 [] 104),(5,true,.str (VU i.op)),(33,true,.data 39 (.agg [.int i.a,.int i.b,.int i.c,.int i.n])),(34,true,.int .i64 j)],ob:=[.var 104 (.data 104 i.v),.var 39 (.data 39 (.agg [.int i.a,.int i.b,.int i.c,.int i.n]))],out:=[],nt:=49 }) (4) ⟨0,rfl,⟨by omega,hv,(show j=4 by omega)▸hu,rfl⟩,rfl⟩ ?_)
     rintro n τ ⟨j,hn,⟨hj,hv,hu,hz⟩,rfl⟩
     have h4:=V2 hv)
  | ((with_reducible refine WC ?_)
     first
      | (have hlt:j<4:=by omega
         refine Z0 (4-(j+1)) _ (by omega) (Qo (by simp only [QD hlt (by decide:4≤maxLen)])) ⟨j+1,rfl,⟨hlt,hv,?_⟩,rfl⟩
         have e:QS i j=45→i.field j=0:=by simpa only [QS,List.getD_eq_getElem?_getD] using hb31
         rw [X8,hu]
         simpa using e)
      | (have hlt:j<4:=by omega
         refine Z0 (4-(j+1)) _ (by omega) (Qo (by simp only [QD hlt (by decide:4≤maxLen)])) ⟨j+1,rfl,⟨hlt,hv,hu,?_⟩,rfl⟩
         rw [WN,hz,if_neg (by simp)]
         exact hb46))
  | ((with_reducible first|refine ZQ ?_|refine ZP ?_)
     simp only [go_sem,QL,QM,QH,seval]
     first
      | (refine ⟨rfl,?_⟩
         have e:QS i j=45∧¬i.field j=0:=by simpa only [QS,List.getD_eq_getElem?_getD] using hb31
         have h1:XZ i (j+1)=true:=by rw [X8,hu];simp [e]
         have h2:=qC h1 (4-(j+1))
         rw [show j+1+(4-(j+1))=4 by omega] at h2
         simp only [Qb,h2,if_true]
         rw [if_neg (by intro h;rcases hv with hv|hv<;>simp [hv] at h)])
      | (refine ⟨rfl,?_⟩
         have h1:VR p f i (j+1)=Qd p f (QS i j) (i.field j) i:=by rw [WN,hz,if_neg (by simp)]
         have h2:=xA (n:=j+1) (by rw [h1];exact hb46) (4-(j+1))
         rw [show j+1+(4-(j+1))=4 by omega,h1] at h2
         simp only [Qb,h2,hu]
         rw [if_neg (by intro h;rcases hv with hv|hv<;>simp [hv] at h)]
         rfl)
      | (refine ⟨rfl,?_⟩
         have hj4:j=4:=by omega
         subst hj4
         simp only [Qb,hz,hu]
         rw [if_neg (by intro h;rcases hv with hv|hv<;>simp [hv] at h)]
         rfl)
      | (refine ⟨rfl,?_⟩
         simp [Qb,hb16]))
def QHu:List (List Nat):=[[0],[0,15,16,17],[0,15,16,17,18],[0,4,15,16,17],[0,4,15,16,17,22,23,24],[0,4,15,16,17,22,23,24,25],[0,4,6,15,16,17,22,23,24],[0,4,6,7,15,16,17,22,23,24],[0,4,6,7,15,16,17,22,23,24,38],[2],[0,4,6,15,16,17,22,23,24,46],[0,4,6,8,15,16,17,22,23,24],[0,4,6,8,15,16,17,22,23,24,52],[2],[0,4,6,15,16,17,22,23,24,67],[2],[0,4,9,15,16,17,22,23,24],[0,4,9,15,16,17,22,23,24,73],[2],[0,4,15,16,17,22,23,24],[0,4,15,16,17,78],[0,10,15,16,17],[0,10,15,16,17,84],[2],[0,15,16,17],[2]]
theorem QEB (p:Prg) (f:Fnc) (hp:p.Fit) (hf:f.Fit):Ctr Go.Proofs.Tryz.prog tab 111 [194] [30] [.ref (ckV p f)] [.int (Z3 p f f.sels.length)]:=by
 obtain ⟨hp1,hp2,hp3,hp4⟩:=hp
 have hff:=hf
 obtain ⟨hf1,hf2,hf3⟩:=hf
 refine Ctr.body ok Go.Proofs.Tryz.func111 rfl rfl 87 rfl [.tmp 2] rfl (by simp [QF]) ?_
 simp only [go_sem,Nat.reduceAdd]
 repeat' first
  | ((with_reducible refine SARA.told 3 1 ?_)
     rw [XL (by omega)])
  | ((with_reducible refine SARA.told 6 1 ?_)
     rw [Wq (by omega)])
  | ((with_reducible first|refine Q5 fun R1 hR1=>?_|refine yb fun R1 hR1=>?_);(simp only [go_sem,seval,-List.reduceReplicate]);(repeat' with_reducible refine And.intro ?_ ?_);all_goals first|(refine hR1 _ ?_;clear hR1 R1)|((first|refine V4 (cc (qR _ _)) ?_|refine cq (cc (qR _ _)) ?_|refine V4 (cc (VX p f _)) ?_|refine cq (cc (VX p f _)) ?_|refine V4 (cc (qE p f _ hff)) ?_|refine cq (cc (qE p f _ hff)) ?_);all_goals ((try simp only [go_sem,seval,-List.reduceReplicate]);(repeat' with_reducible refine And.intro ?_ ?_);all_goals first|(refine hR1 _ ?_;clear hR1 R1)|exact Vz))|exact Vz)
  | ((with_reducible first|refine Q4 ?_|refine ya ?_);refine hR _ ?_;clear hR R;try simp only [go_sem,QHu,Nat.reduceBEq])
  | (with_reducible first|refine J1 ?_|refine J2 ?_|refine J3 ?_|refine J4 ?_|refine J5 ?_|refine J6 ?_|refine J7 ?_|refine J8 (by decide) ?_|refine J9 ?_|refine Xu ?_|refine Q2 ?_|refine Q1 ?_|refine Yc ?_|refine Xt ?_)
  | ((with_reducible refine Qe 4 ?_)
     have hc3:=hf3 _ (W3 (i:=i) (by omega))
     (with_reducible refine rg QHu fun R hR=>?_);simp only [go_sem,QC])
  | ((with_reducible refine rg QHu fun R hR=>?_);simp only [go_sem,QC])
  | ((with_reducible refine Ve ok QQ (by kernel_rfl) (by kernel_rfl) QHu ?_);intro R hR;simp only [go_sem,QC])
  | ((with_reducible refine QI 18 rfl (fun hb18=>?_) fun hb18=>?_);all_goals (try simp [-List.getD_eq_getElem?_getD] at hb18;try (exfalso;omega)))
  | ((with_reducible refine QI 25 rfl (fun hb25=>?_) fun hb25=>?_);all_goals (try simp [-List.getD_eq_getElem?_getD] at hb25;try (exfalso;omega)))
  | ((with_reducible refine QI 38 rfl (fun hb38=>?tt38) (fun hb38=>?ff38))
     case' tt38 =>
      try simp [-List.getD_eq_getElem?_getD] at hb38
      try (exfalso;omega)
     case' ff38 =>
      simp [-List.getD_eq_getElem?_getD] at hb38
      have hx:=Y6 hb38 (by decide))
  | ((with_reducible refine QI 46 rfl (fun hb46=>?_) fun hb46=>?_);all_goals (try simp [-List.getD_eq_getElem?_getD] at hb46;try (exfalso;omega)))
  | ((with_reducible refine QI 52 rfl (fun hb52=>?_) fun hb52=>?_);all_goals (try simp [-List.getD_eq_getElem?_getD] at hb52;try (exfalso;omega)))
  | ((with_reducible refine QI 67 rfl (fun hb67=>?_) fun hb67=>?_);all_goals (try simp [-List.getD_eq_getElem?_getD] at hb67;try (exfalso;omega)))
  | ((with_reducible refine QI 73 rfl (fun hb73=>?_) fun hb73=>?_);all_goals (try simp [-List.getD_eq_getElem?_getD] at hb73;try (exfalso;omega)))
  | ((with_reducible refine QI 78 rfl (fun hb78=>?_) fun hb78=>?_);all_goals (try simp [-List.getD_eq_getElem?_getD] at hb78;try (exfalso;omega)))
  | ((with_reducible refine QI 84 rfl (fun hb84=>?_) fun hb84=>?_);all_goals (try simp [-List.getD_eq_getElem?_getD] at hb84;try (exfalso;omega)))
  | ((with_reducible refine Ya ?_)
     refine Zv (Qo (by first|rfl|(simp;done)|fail)) (Yb (fun n τ=>∃ (i:Nat),n=f.sels.length-i∧(i≤f.sels.length∧Z3 p f i=0)∧τ={ tm:=[(0,true,.fptr 196 (ckV p f)),(15,true,.fs 173 (f.sels.map Sel.v) false),(16,true,.int .i64 f.sels.length),(17,true,.int .i64 i)],ob:=[],out:=[],nt:=87 }) (f.sels.length) ⟨0,rfl,⟨by omega,rfl⟩,rfl⟩ ?_)
     rintro n τ ⟨i,hn,⟨hi,hz⟩,rfl⟩)
  | ((with_reducible refine Ya ?_)
     refine Zv (Qo (by first|rfl|(simp;done)|fail)) (Yb (fun n τ=>∃ (j:Nat),n=(f.sels.getD i default).cases.length-j∧(j≤(f.sels.getD i default).cases.length∧Xj p f (f.sels.getD i default) j=0)∧τ={ tm:=[(0,true,.fptr 196 (ckV p f)),(4,true,.ptr 0 [] 173),(15,true,.fs 173 (f.sels.map Sel.v) false),(16,true,.int .i64 f.sels.length),(17,true,.int .i64 i),(22,true,.fs 176 ((f.sels.getD i default).cases.map Cas.v) false),(23,true,.int .i64 (f.sels.getD i default).cases.length),(24,true,.int .i64 j)],ob:=[.var 173 (.data 173 (f.sels.getD i default).v)],out:=[],nt:=87 }) ((f.sels.getD i default).cases.length) ⟨0,rfl,⟨by omega,rfl⟩,rfl⟩ ?_)
     rintro n τ ⟨j,hn,⟨hj,hc⟩,rfl⟩)
  | ((with_reducible refine WC ?_)
     first
      | (have hlt:i<f.sels.length:=by omega
         refine Z0 (f.sels.length-(i+1)) _ (by omega) ((WS 0 rfl).trans (Qo (by simp only [QD hlt hf2,List.take_zero]))) ⟨i+1,rfl,⟨hlt,?_⟩,rfl⟩
         have hjc:j=(f.sels.getD i default).cases.length:=by omega
         subst hjc
         rw [xf p f hlt,if_neg (fun q=>q hz)]
         simp only [Vu,hc]
         rw [if_neg (fun q=>q rfl),if_neg (by
          rintro ⟨q1,q2⟩
          first
           | exact q1 hb78
           | (have:=Y6 hb84 (by decide);rw [within_false] at q2;omega))])
      | (have hlt:j<(f.sels.getD i default).cases.length:=by omega
         refine Z0 ((f.sels.getD i default).cases.length-(j+1)) _ (by omega) ((WS 1 rfl).trans (Qo (by simp only [QD hlt hc3,List.take_succ_cons,List.take_zero]))) ⟨j+1,rfl,⟨hlt,?_⟩,rfl⟩
         rw [ym p f _ hlt,if_neg (fun q=>q hc)]
         exact QTx hb38 (by first|exact .inr hb52|exact .inl hb46) hb67 hb73))
  | ((with_reducible first|refine ZQ ?_|refine ZP ?_)
     simp only [go_sem,QL,QM,QH,seval]
     first
      | (exact ⟨rfl,congrArg (fun e=>some (V.int e)) (Y3 (by omega) hz (by omega) hc (QRW hb38 (by first|exact .inr hb52|exact .inl hb46) hb67 hb73) (by first|decide|assumption)).symm⟩)
      | (exact ⟨rfl,congrArg (fun e=>some (V.int e)) (Y3 (by omega) hz (by omega) hc (QRX hb38 (by first|exact .inr hb52|exact .inl hb46) hb67) (by first|decide|assumption)).symm⟩)
      | (exact ⟨rfl,congrArg (fun e=>some (V.int e)) (Y3 (by omega) hz (by omega) hc (QRZ hb38 hb46 hb52) (by first|decide|assumption)).symm⟩)
      | (exact ⟨rfl,congrArg (fun e=>some (V.int e)) (Y3 (by omega) hz (by omega) hc (QRY hb38) (by first|decide|assumption)).symm⟩)
      | (have hjc:j=(f.sels.getD i default).cases.length:=by omega
         subst hjc
         refine ⟨rfl,congrArg (fun e=>some (V.int e)) (QAv (by omega) hz ?_ hb84).symm⟩
         simp only [Vu,hc]
         rw [if_neg (fun q=>q rfl),if_pos ⟨hb78,zb hb84⟩]
         exact (yL hb84).symm)
      | (have e:i=f.sels.length:=by omega
         subst e
         exact ⟨rfl,congrArg (fun e=>some (V.int e)) hz.symm⟩))
def QPB:List (List Nat):=[[1],[1,36],[2],[38,39,40],[38,39,40,41],[4,38,39,40],[38,39,40,49],[2],[38,39,40],[2]]
theorem QIW (p:Prg) (hp:p.Fit):Ctr Go.Proofs.Tryz.prog tab 109 [26] [30] [p.v] [.int (Uk p)]:=by
 obtain ⟨hp1,hp2,hp3,hp4⟩:=hp
 refine Ctr.body ok Go.Proofs.Tryz.func109 rfl rfl 51 rfl [.tmp 2] rfl (by simp [QF]) ?_
 simp only [go_sem,Nat.reduceAdd]
 repeat' first
  | ((with_reducible refine Q5 fun R1 hR1=>?_);(simp only [go_sem,seval,-List.reduceReplicate]);(repeat' with_reducible refine And.intro ?_ ?_);all_goals first|(refine hR1 _ ?_;clear hR1 R1)|exact Vz)
  | ((with_reducible refine Q4 ?_);refine hR _ ?_;clear hR R;try simp only [go_sem,QPB,Nat.reduceBEq])
  | (with_reducible first|refine J1 ?_|refine J2 ?_|refine J3 ?_|refine J4 ?_|refine J5 ?_|refine J6 ?_|refine J7 ?_|refine J8 (by decide) ?_|refine J9 ?_|refine Xu ?_|refine Q2 ?_|refine Q1 ?_|refine Yc ?_|refine Xt ?_)
  | ((with_reducible refine rg QPB fun R hR=>?_);simp only [go_sem,QC])
  | ((with_reducible refine QI 36 rfl (fun hb36=>?_) fun hb36=>?_);all_goals (try simp [-List.getD_eq_getElem?_getD] at hb36;try (exfalso;omega)))
  | ((with_reducible refine QI 41 rfl (fun hb41=>?_) fun hb41=>?_);all_goals (try simp [-List.getD_eq_getElem?_getD] at hb41;try (exfalso;omega)))
  | ((with_reducible refine QI 49 rfl (fun hb49=>?_) fun hb49=>?_);all_goals (try simp [-List.getD_eq_getElem?_getD] at hb49;try (exfalso;omega)))
  | ((with_reducible refine Ya ?_)
     refine Zv (Qo (by first|rfl|(simp;done)|fail)) (Yb (fun n τ=>∃ (i:Nat),n=p.chans.length-i∧(i≤p.chans.length∧Zz p∧Z4 p i=true)∧τ={ tm:=[(38,true,.fs 3 (p.chans.map V.int) false),(39,true,.int .i64 p.chans.length),(40,true,.int .i64 i)],ob:=[.var 26 (.data 26 p.v)],out:=[],nt:=51 }) (p.chans.length) ⟨0,rfl,⟨by omega,by unfold Zz;omega,rfl⟩,rfl⟩ ?_)
     rintro n τ ⟨i,hn,⟨hi,hs,hc⟩,rfl⟩)
  | ((with_reducible refine WC ?_)
     first
      | (have hlt:i<p.chans.length:=by omega
         refine Z0 (p.chans.length-(i+1)) _ (by omega) (Qo (by simp only [QD hlt hp2])) ⟨i+1,rfl,⟨hlt,hs,?_⟩,rfl⟩
         unfold Z4 at hc ⊢
         rw [wL _ _ hlt,hc]
         simp only [Bool.true_and,Bool.and_eq_true,decide_eq_true_eq]
         exact hb49))
  | ((with_reducible first|refine ZQ ?_|refine ZP ?_)
     simp only [go_sem,QL,QM,QH,seval]
     first
      | (have q:_∨_:=hb49
         exact ⟨rfl,congrArg (fun e=>some (V.int e)) (Eq.symm ((if_neg hs).trans (if_pos (QDR (i:=i) (by omega) hb49))))⟩)
      | (exact ⟨rfl,congrArg (fun e=>some (V.int e)) (Eq.symm ((if_neg hs).trans (if_neg (by rw [show p.chans.length=i by omega,hc];simp))))⟩)
      | (exact ⟨rfl,congrArg (fun e=>some (V.int e)) (Eq.symm (if_pos (by omega)))⟩))
def sz0 (m:Int) (f:Fnc):Bool:=decide (0≤f.regs)&&decide (f.regs≤8)&&decide (0≤f.params)&&decide (f.params≤f.regs)&&!(decide (m=0)&&decide (0<f.params))&&decide (1≤(f.code.length:Int))&&decide ((f.code.length:Int)≤64)&&decide ((f.sels.length:Int)≤4)
theorem U2 {m:Int} {f:Fnc} (h:WZ m f=0):Yz m f=true:=by
 unfold WZ at h
 split at h
 · assumption
 · cases h
theorem QBP {m:Int} {f:Fnc} (h:¬WZ m f=0):Yz m f=false:=by
 unfold WZ at h
 split at h
 · exact absurd rfl h
 · rename_i q;simpa using q
theorem QDw {m:Int} {f:Fnc} (h:¬WZ m f=0):WZ m f=32:=by
 unfold WZ at *
 rw [QBP h];rfl
theorem sz0_iff {m:Int} {f:Fnc}:sz0 m f=true↔¬(f.regs<0∨8<f.regs∨f.params<0∨f.regs<f.params∨(m=0∧f.params≠0))∧¬(f.code.length<1∨64<f.code.length∨4<f.sels.length):=by
 unfold sz0
 simp only [Bool.and_eq_true,Bool.not_eq_true',Bool.and_eq_false_iff,decide_eq_true_eq,decide_eq_false_iff_not]
 omega
theorem QJV (m:Int) (f:Fnc):Yz m f=(sz0 m f&&YR f f.sels.length):=by
 by_cases h:sz0 m f=true
 · rw [h,Bool.true_and]
   have:=sz0_iff.1 h
   unfold Yz
   rw [if_neg this.1,if_neg this.2]
 · have h2:sz0 m f=false:=by simpa using h
   rw [h2,Bool.false_and]
   rw [sz0_iff] at h
   unfold Yz
   by_cases h3:f.regs<0∨8<f.regs∨f.params<0∨f.regs<f.params∨(m=0∧f.params≠0)
   · rw [if_pos h3]
   · rw [if_neg h3]
     by_cases h4:f.code.length<1∨64<f.code.length∨4<f.sels.length
     · rw [if_pos h4]
     · exact absurd ⟨h3,h4⟩ h
theorem QGX (f:Fnc) {j:Nat} (h:j<f.sels.length):YR f (j+1)=(YR f j&&(decide (1≤(f.sels.getD j default).cases.length)&&decide ((f.sels.getD j default).cases.length≤4))):=by
 unfold YR
 rw [wL _ _ h]
theorem QLw (n:Nat):decide (1≤(n:Int))=decide (1≤n):=by by_cases h:1≤n;rw [decide_eq_true h,decide_eq_true (by omega)];rw [decide_eq_false h,decide_eq_false (by omega)]
theorem QLv (n:Nat):decide ((n:Int)≤4)=decide (n≤4):=by by_cases h:n≤4;rw [decide_eq_true h,decide_eq_true (by omega)];rw [decide_eq_false h,decide_eq_false (by omega)]
def QLT:List (List Nat):=[[1,2],[2,5],[2,5],[5,57,58,59],[5,57,58,59,60],[5,7,57,58,59],[5,57,58,59],[5,57,58,59],[78],[4],[4]]
end Go.Eng.Tryz
