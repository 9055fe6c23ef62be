/- A part of the proof: walks through the program's functions, and what they compute. -/
import Derived.Test.YtedceinkpkoncaaGreatDoorPk5
set_option linter.unusedSimpArgs false
set_option linter.unusedVariables false
namespace Go.Eng.Tryz
open Go.RowKit Go.Eng
set_option maxHeartbeats 0
set_option maxRecDepth 20000
attribute [go_sem] QSK QSJ
def QL4:List (List Nat):=[[0,1],[4]]
theorem qi (x n:Int):Ctr Go.Proofs.Tryz.prog tab 187 [2,3] [4] [.int x,.int n] [.bool (Qh x n)]:=by
 refine Ctr.body ok Go.Proofs.Tryz.func187 rfl rfl 12 rfl [.tmp 4] rfl (by simp [QE]) ?_
 simp only [go_sem,Nat.reduceAdd]
 repeat' first
  | ((with_reducible refine Q2 fun R1 hR1=>?_);(simp only [go_sem,seval,-List.reduceReplicate]);(repeat' with_reducible refine And.intro ?_ ?_);all_goals first|(refine hR1 _ ?_;clear hR1 R1)|omega|rfl|decide|assumption|(intro _;omega)|(simp;done)|(simp;omega))
  | ((with_reducible refine Q1 ?_);refine hR _ ?_;clear hR R;try simp only [go_sem,QL4,Nat.reduceBEq])
  | (with_reducible first|refine J1 ?_|refine J2 ?_|refine Q0 ?_|refine Qz ?_)
  | ((with_reducible refine rg QL4 fun R hR=>?_);simp only [go_sem,QC])
  | ((with_reducible first|refine ZH ?_|refine ZG ?_)
     simp only [go_sem,QJ,QK,QG,seval]
     refine ⟨rfl,?_⟩
     simp only [Qh]
     cases decide (0≤x)<;>rfl)
def QMZ:List (List Nat):=[[0],[2]]
theorem Uy (x:Int):Ctr Go.Proofs.Tryz.prog tab 132 [43] [4] [.int x] [.bool (Ql x)]:=by
 refine Ctr.body ok Go.Proofs.Tryz.func132 rfl rfl 17 rfl [.tmp 2] rfl (by simp [QE]) ?_
 simp only [go_sem,Nat.reduceAdd]
 repeat' first
  | ((with_reducible refine Q2 fun R1 hR1=>?_);(simp only [go_sem,seval,-List.reduceReplicate]);(repeat' with_reducible refine And.intro ?_ ?_);all_goals first|(refine hR1 _ ?_;clear hR1 R1)|omega|rfl|decide|assumption|(intro _;omega)|(simp;done)|(simp;omega))
  | ((with_reducible refine Q1 ?_);refine hR _ ?_;clear hR R;try simp only [go_sem,QMZ,Nat.reduceBEq])
  | (with_reducible first|refine J1 ?_|refine J2 ?_|refine Q0 ?_|refine Qz ?_)
  | ((with_reducible refine rg QMZ fun R hR=>?_);simp only [go_sem,QC])
  | ((with_reducible first|refine ZH ?_|refine ZG ?_)
     simp only [go_sem,QJ,QK,QG,seval]
     refine ⟨rfl,?_⟩
     simp only [Ql]
     cases decide (1≤x)<;>cases decide (x≤36)<;>cases decide (40≤x)<;>rfl)
def QMU:List (List Nat):=[[0],[2]]
theorem VH (x:Int):Ctr Go.Proofs.Tryz.prog tab 144 [43] [4] [.int x] [.bool (ZA x)]:=by
 refine Ctr.body ok Go.Proofs.Tryz.func144 rfl rfl 9 rfl [.tmp 2] rfl (by simp [QE]) ?_
 simp only [go_sem,Nat.reduceAdd]
 repeat' first
  | ((with_reducible refine Q2 fun R1 hR1=>?_);(simp only [go_sem,seval,-List.reduceReplicate]);(repeat' with_reducible refine And.intro ?_ ?_);all_goals first|(refine hR1 _ ?_;clear hR1 R1)|omega|rfl|decide|assumption|(intro _;omega)|(simp;done)|(simp;omega))
  | ((with_reducible refine Q1 ?_);refine hR _ ?_;clear hR R;try simp only [go_sem,QMU,Nat.reduceBEq])
  | (with_reducible first|refine J1 ?_|refine J2 ?_|refine Q0 ?_|refine Qz ?_)
  | ((with_reducible refine rg QMU fun R hR=>?_);simp only [go_sem,QC])
  | ((with_reducible first|refine ZH ?_|refine ZG ?_)
     simp only [go_sem,QJ,QK,QG,seval]
     refine ⟨rfl,?_⟩
     simp only [ZA]
     cases decide (50≤x)<;>rfl)
def QMG:List (List Nat):=[[0],[0,3],[2],[0,10],[2],[17],[17,18],[17,18],[17,18],[2],[17,22],[2],[17,24],[2],[17,26],[2],[17,28],[17,28],[2],[17,31],[2],[17,33],[2],[17,35],[2],[17,37],[2],[17,39],[2],[17,41],[17,41],[2],[17,44],[2],[17,46],[2],[17,48],[2],[17,50],[2],[17,52],[2],[17,54],[2],[56],[2],[2]]
theorem QBO (op:Int):Ctr Go.Proofs.Tryz.prog tab 164 [43] [9] [.int op] [.str (VC op)]:=by
 refine Ctr.body ok Go.Proofs.Tryz.func164 rfl rfl 58 rfl [.tmp 2] rfl (by simp [QE]) ?_
 simp only [go_sem,Nat.reduceAdd]
 repeat' first
  | ((with_reducible refine Q2 fun R1 hR1=>?_);(simp only [go_sem,seval,-List.reduceReplicate]);(repeat' with_reducible refine And.intro ?_ ?_);all_goals first|(refine hR1 _ ?_;clear hR1 R1)|omega|rfl|decide|assumption|(intro _;omega)|(simp;done)|(simp;omega))
  | ((with_reducible refine Q1 ?_);refine hR _ ?_;clear hR R;try simp only [go_sem,QMG,Nat.reduceBEq])
  | (with_reducible first|refine J1 ?_|refine J2 ?_|refine J3 ?_|refine J4 ?_|refine J5 ?_|refine J6 ?_|refine J7 ?_|refine J8 (by decide) ?_|refine J9 ?_|refine Q0 ?_|refine Qz ?_|refine YZ ?_)
  | ((with_reducible refine rg QMG fun R hR=>?_);simp only [go_sem,QC])
  | ((with_reducible refine SA.cond rfl ?_ ?_)
     all_goals
      intro hb
      try simp at hb
      try (exfalso;omega))
  | ((with_reducible first|refine ZH ?_|refine ZG ?_)
     simp only [go_sem,QJ,QK,QG,seval]
     refine ⟨rfl,?_⟩
     first|(subst_vars;rfl)|(unfold VC Q8;(repeat (rw [if_neg (by omega)]));(try rw [if_pos (by omega)]);rfl))
def QMJ:List (List Nat):=[[0,1],[8],[4],[4]]
theorem U4 (x n:Int):Ctr Go.Proofs.Tryz.prog tab 161 [2,3] [49] [.int x,.int n] [.int (Z9 36 x n)]:=by
 refine Ctr.body ok Go.Proofs.Tryz.func161 rfl rfl 9 rfl [.tmp 4] rfl (by simp [QE]) ?_
 simp only [go_sem,Nat.reduceAdd]
 repeat' first
  | ((with_reducible refine Q2 fun R1 hR1=>?_);(simp only [go_sem,seval,-List.reduceReplicate]);(repeat' with_reducible refine And.intro ?_ ?_);all_goals first|(refine hR1 _ ?_;clear hR1 R1)|((first|refine cq (cc (qi _ _)) ?_);all_goals ((try simp only [go_sem,seval,-List.reduceReplicate]);(repeat' with_reducible refine And.intro ?_ ?_);all_goals first|(refine hR1 _ ?_;clear hR1 R1)|omega|rfl|decide|assumption|(intro _;omega)|(simp;done)|(simp;omega)|(simp [QQ,maxLen]<;>omega)))|omega|rfl|decide|assumption|(intro _;omega)|(simp;done)|(simp;omega)|(simp [QQ,maxLen]<;>omega))
  | ((with_reducible refine Q1 ?_);refine hR _ ?_;clear hR R;try simp only [go_sem,QMJ,Nat.reduceBEq])
  | (with_reducible first|refine J1 ?_|refine J2 ?_|refine J3 ?_|refine Q0 ?_|refine Qz ?_)
  | ((with_reducible refine rg QMJ fun R hR=>?_);simp only [go_sem,QC])
  | ((with_reducible refine QH 8 rfl (fun hb8=>?_) fun hb8=>?_);all_goals (try simp at hb8;try (exfalso;omega)))
  | ((with_reducible first|refine ZH ?_|refine ZG ?_)
     simp only [go_sem,QJ,QK,QG,seval]
     refine ⟨rfl,?_⟩
     simp [Z9,hb8])
def QMI:List (List Nat):=[[0,1],[12],[4],[4]]
theorem VG (p:Prg) (f:Fnc) (x:Int):Ctr Go.Proofs.Tryz.prog tab 162 [202,2] [49] [.ref (ckV p f),.int x] [.int (Z9 35 x f.regs)]:=by
 refine Ctr.body ok Go.Proofs.Tryz.func162 rfl rfl 13 rfl [.tmp 4] rfl (by simp [QE]) ?_
 simp only [go_sem,Nat.reduceAdd]
 repeat' first
  | ((with_reducible refine Q2 fun R1 hR1=>?_);(simp only [go_sem,seval,-List.reduceReplicate]);(repeat' with_reducible refine And.intro ?_ ?_);all_goals first|(refine hR1 _ ?_;clear hR1 R1)|((first|refine cq (cc (qi _ _)) ?_);all_goals ((try simp only [go_sem,seval,-List.reduceReplicate]);(repeat' with_reducible refine And.intro ?_ ?_);all_goals first|(refine hR1 _ ?_;clear hR1 R1)|omega|rfl|decide|assumption|(intro _;omega)|(simp;done)|(simp;omega)|(simp [QQ,maxLen]<;>omega)))|omega|rfl|decide|assumption|(intro _;omega)|(simp;done)|(simp;omega)|(simp [QQ,maxLen]<;>omega))
  | ((with_reducible refine Q1 ?_);refine hR _ ?_;clear hR R;try simp only [go_sem,QMI,Nat.reduceBEq])
  | (with_reducible first|refine J1 ?_|refine J2 ?_|refine J3 ?_|refine Q0 ?_|refine Qz ?_)
  | ((with_reducible refine rg QMI fun R hR=>?_);simp only [go_sem,QC])
  | ((with_reducible refine QH 12 rfl (fun hb12=>?_) fun hb12=>?_);all_goals (try simp at hb12;try (exfalso;omega)))
  | ((with_reducible first|refine ZH ?_|refine ZG ?_)
     simp only [go_sem,QJ,QK,QG,seval]
     refine ⟨rfl,?_⟩
     simp [Z9,hb12])
def QMH:List (List Nat):=[[0,1],[13],[4],[4]]
theorem Uo (p:Prg) (f:Fnc) (x:Int) (hf:f.Fit):Ctr Go.Proofs.Tryz.prog tab 163 [202,2] [49] [.ref (ckV p f),.int x] [.int (Z9 38 x f.code.length)]:=by
 have hf1:=hf.1
 refine Ctr.body ok Go.Proofs.Tryz.func163 rfl rfl 14 rfl [.tmp 4] rfl (by simp [QE]) ?_
 simp only [go_sem,Nat.reduceAdd]
 repeat' first
  | ((with_reducible refine Q2 fun R1 hR1=>?_);(simp only [go_sem,seval,-List.reduceReplicate]);(repeat' with_reducible refine And.intro ?_ ?_);all_goals first|(refine hR1 _ ?_;clear hR1 R1)|((first|refine cq (cc (qi _ _)) ?_);all_goals ((try simp only [go_sem,seval,-List.reduceReplicate]);(repeat' with_reducible refine And.intro ?_ ?_);all_goals first|(refine hR1 _ ?_;clear hR1 R1)|omega|rfl|decide|assumption|(intro _;omega)|(simp;done)|(simp;omega)|(simp [QQ,maxLen]<;>omega)))|omega|rfl|decide|assumption|(intro _;omega)|(simp;done)|(simp;omega)|(simp [QQ,maxLen]<;>omega))
  | ((with_reducible refine Q1 ?_);refine hR _ ?_;clear hR R;try simp only [go_sem,QMH,Nat.reduceBEq])
  | (with_reducible first|refine J1 ?_|refine J2 ?_|refine J3 ?_|refine Q0 ?_|refine Qz ?_)
  | ((with_reducible refine rg QMH fun R hR=>?_);simp only [go_sem,QC])
  | ((with_reducible refine QH 13 rfl (fun hb13=>?_) fun hb13=>?_);all_goals (try simp at hb13;try (exfalso;omega)))
  | ((with_reducible first|refine ZH ?_|refine ZG ?_)
     simp only [go_sem,QJ,QK,QG,seval]
     refine ⟨rfl,?_⟩
     simp [Z9,hb13])
def QMF:List (List Nat):=[[1,2],[2]]
theorem ym (i:Instr):Ctr Go.Proofs.Tryz.prog tab 165 [129] [29] [i.v] [.agg [.int i.a,.int i.b,.int i.c,.int i.n]]:=by
 refine Ctr.body ok Go.Proofs.Tryz.func165 rfl rfl 12 rfl [.cell 2 29] rfl (by simp [QE]) ?_
 simp only [go_sem,Nat.reduceAdd]
 repeat' first
  | ((with_reducible refine Q2 fun R1 hR1=>?_);(simp only [go_sem,seval,-List.reduceReplicate,QM0,z29,z2]);(repeat' with_reducible refine And.intro ?_ ?_);all_goals first|(refine hR1 _ ?_;clear hR1 R1)|omega|rfl|decide|assumption|(intro _;omega)|(simp;done)|(simp;omega)|(simp [QQ,maxLen]<;>omega))
  | ((with_reducible refine Q1 ?_);refine hR _ ?_;clear hR R;try simp only [go_sem,QMF,Nat.reduceBEq])
  | (with_reducible first|refine J1 ?_|refine J2 ?_|refine Q0 ?_|refine Qz ?_)
  | ((with_reducible refine rg QMF fun R hR=>?_);simp only [go_sem,QC])
  | ((with_reducible first|refine ZH ?_|refine ZG ?_)
     simp only [go_sem,QJ,QK,QG,seval]
     rfl)
def QF4:List (List Nat):=[[0,1,2,7],[0,2,7,12],[0,2,7,12,13],[0,2,16],[8],[8],[0,2,7,12,20],[0,2,7,12,20],[8],[0,2,7,12,26],[9],[9,37],[8],[8],[0,2,7,12,39],[0,2,10],[0,2,10,50],[8],[61],[8],[0,2,7,12,62],[8],[0,2,7,12,71],[8],[0,2,7,12,81],[8],[0,2,7,12,91],[8],[0,2,7,12,101],[8],[0,2,7,106],[0,2,11],[142],[8],[8]]
theorem yg (p:Prg) (f:Fnc) (letter x:Int) (i:Instr) (hp:p.Fit) (hf:f.Fit) (h112:letter=112→0≤i.b∧i.b<p.funcs.length):Ctr Go.Proofs.Tryz.prog tab 166 [202,5,2,129] [49] [.ref (ckV p f),.int letter,.int x,i.v] [.int (Qa p f letter x i)]:=by
 obtain ⟨hp1,hp2,hp3,hp4⟩:=hp
 have hff:=hf
 obtain ⟨hf1,hf2,hf3⟩:=hf
 refine Ctr.body ok Go.Proofs.Tryz.func166 rfl rfl 143 rfl [.tmp 8] rfl (by simp [QE]) ?_
 simp only [go_sem,Nat.reduceAdd]
 repeat' first
  | ((with_reducible refine SARA.told 18 7 ?_)
     rw [yw (by omega)])
  | ((with_reducible first|refine Q2 fun R1 hR1=>?_|refine xP fun R1 hR1=>?_);(simp only [go_sem,seval,-List.reduceReplicate]);(repeat' with_reducible refine And.intro ?_ ?_);all_goals first|(refine hR1 _ ?_;clear hR1 R1)|((first|refine ⟨_,_,rfl,_,CallQ.ctr ok (U4 _ _) (by first|rfl|(simp [go_sem];done)|fail) rfl,?_⟩|refine cq (cc (U4 _ _)) ?_|refine ⟨_,_,rfl,_,CallQ.ctr ok (VG p f _) (by first|rfl|(simp [go_sem];done)|fail) rfl,?_⟩|refine cq (cc (VG p f _)) ?_|refine ⟨_,_,rfl,_,CallQ.ctr ok (Uo p f _ hff) (by first|rfl|(simp [go_sem];done)|fail) rfl,?_⟩|refine cq (cc (Uo p f _ hff)) ?_);all_goals ((try simp only [go_sem,seval,-List.reduceReplicate]);(repeat' with_reducible refine And.intro ?_ ?_);all_goals first|(refine hR1 _ ?_;clear hR1 R1)|omega|rfl|decide|assumption|(intro _;omega)|(simp;done)|(simp;omega)|(simp [QQ,maxLen]<;>omega)))|omega|rfl|decide|assumption|(intro _;omega)|(simp;done)|(simp;omega)|(simp [QQ,maxLen]<;>omega))
  | ((with_reducible first|refine Q1 ?_|refine xO ?_);refine hR _ ?_;clear hR R;try simp only [go_sem,QF4,Nat.reduceBEq])
  | (with_reducible first|refine J1 ?_|refine J2 ?_|refine J3 ?_|refine J4 ?_|refine J5 ?_|refine J6 ?_|refine J7 ?_|refine J8 (by decide) ?_|refine J9 ?_|refine Q0 ?_|refine Qz ?_|refine YZ ?_)
  | ((with_reducible refine QZ 18 ?_)
     have hx:=Yu hb50 (by decide)
     (with_reducible refine rg QF4 fun R hR=>?_);simp only [go_sem,QC])
  | ((with_reducible refine rg QF4 fun R hR=>?_);simp only [go_sem,QC])
  | ((with_reducible refine Vv ok QN (by kernel_rfl) (by kernel_rfl) QF4 ?_);intro R hR;simp only [go_sem,QC])
  | ((with_reducible refine QH 50 rfl (fun hb50=>?_) fun hb50=>?_);all_goals (try simp at hb50;try (exfalso;omega)))
  | ((with_reducible refine SA.cond rfl ?_ ?_)
     all_goals
      intro hb
      try simp at hb
      try (exfalso;omega))
  | ((with_reducible first|refine ZH ?_|refine ZG ?_)
     simp only [go_sem,QJ,QK,QG,seval]
     refine ⟨rfl,?_⟩
     first|(subst_vars;simp [Qa,Z9,Qh,Prg.fn,w64, *];done)|(subst_vars;simp only [Qa,Z9,Qh,Prg.fn,w64];simp [*];omega)|(simp_all [Qa,Z9,Qh];done)|(simp_all [Qa,Z9,Qh,Prg.fn,w64];omega))
end Go.Eng.Tryz
namespace Go.Eng.Tryz
open Go.RowKit Go.Eng
set_option maxHeartbeats 0
set_option maxRecDepth 20000
def QI7:List (List Nat):=[[0,3],[0,3,5],[0,3,5,16],[4],[0,3,5,6],[0,3,5,6,19,20],[0,3,5,6,19,20,21],[0,3,5,6,7,8,19,20],[0,3,5,6,19,20,31],[4],[0,3,5,6,19,20],[0,3,5,33,34],[0,3,5,33,34,35],[0,3,5,9,10,33,34],[0,3,5,11,33,34],[0,3,5,11,33,34,46],[4],[0,3,5,33,34],[4]]
theorem QE4 (p:Prg) (f:Fnc) (i:Instr) (hp:p.Fit) (hf:f.Fit):Ctr Go.Proofs.Tryz.prog tab 143 [202,129] [49] [.ref (ckV p f),i.v] [.int (QV p f i)]:=by
 refine Ctr.body ok Go.Proofs.Tryz.func143 rfl rfl 49 rfl [.tmp 4] rfl (by simp [QE]) ?_
 simp only [go_sem,Nat.reduceAdd]
 repeat' first
  | ((with_reducible first|refine Q2 fun R1 hR1=>?_|refine xP fun R1 hR1=>?_);(simp only [go_sem,seval,-List.reduceReplicate,yy,U8]);(repeat' with_reducible refine And.intro ?_ ?_);all_goals first|(refine hR1 _ ?_;clear hR1 R1)|((first|refine ⟨_,_,rfl,_,CallQ.ctr ok (QBO _) (by first|rfl|(simp [go_sem];done)|fail) rfl,?_⟩|refine cq (cc (QBO _)) ?_|refine ⟨_,_,rfl,_,CallQ.ctr ok (ym i) (by first|rfl|(simp [go_sem];done)|fail) rfl,?_⟩|refine cq (cc (ym i)) ?_|refine ⟨_,_,rfl,_,CallQ.ctr ok (yg p f _ _ i hp hf (fun h=>UV hz h)) (by first|rfl|(simp [go_sem];done)|fail) rfl,?_⟩|refine cq (cc (yg p f _ _ i hp hf (fun h=>UV hz h))) ?_);all_goals ((try simp only [go_sem,seval,-List.reduceReplicate,yy,U8]);(repeat' with_reducible refine And.intro ?_ ?_);all_goals first|(refine hR1 _ ?_;clear hR1 R1)|omega|rfl|decide|assumption|(intro _;omega)|(simp;done)|(simp;omega)|(simp [QQ,maxLen]<;>omega)))|omega|rfl|decide|assumption|(intro _;omega)|(simp;done)|(simp;omega)|(simp [QQ,maxLen]<;>omega))
  | ((with_reducible first|refine Q1 ?_|refine xO ?_);refine hR _ ?_;clear hR R;try simp only [go_sem,QI7,Nat.reduceBEq])
  | (with_reducible first|refine J1 ?_|refine J2 ?_|refine J3 ?_|refine J4 ?_|refine J5 ?_|refine J6 ?_|refine J7 ?_|refine J8 (by decide) ?_|refine J9 ?_|refine WL ?_|refine Q0 ?_|refine Qz ?_|refine YZ ?_|refine WK ?_)
  | ((with_reducible refine rg QI7 fun R hR=>?_);simp only [go_sem,QC])
  | ((with_reducible refine Vv ok QN (by kernel_rfl) (by kernel_rfl) QI7 ?_);intro R hR;simp only [go_sem,QC])
  | ((with_reducible refine QH 16 rfl (fun hb16=>?_) (fun hb16=>?_))
     all_goals
      rw [QFJ] at hb16
      simp at hb16)
  | ((with_reducible refine QH 31 rfl (fun hb31=>?_) fun hb31=>?_);all_goals (try simp at hb31;try (exfalso;omega)))
  | ((with_reducible refine QH 46 rfl (fun hb46=>?_) fun hb46=>?_);all_goals (try simp at hb46;try (exfalso;omega)))
  | ((with_reducible refine SA.cond rfl ?_ ?_)
     all_goals
      intro hb
      try simp at hb
      try (exfalso;omega))
  | ((with_reducible refine YQ ?_)
     refine Zo (Qq (by first|rfl|(simp;done)|fail)) (YR (fun n τ=>∃ (j:Nat),n=4-j∧(j≤4∧(Ql i.op=true∨ZA i.op=true)∧XM i j=false)∧τ={ tm:=[(0,true,.fptr 204 (ckV p f)),(3,true,.ptr 0 [] 129),(5,true,.str (VC i.op)),(6,true,.ptr 1 [] 29),(19,true,.data 29 (.agg [.int i.a,.int i.b,.int i.c,.int i.n])),(20,true,.int .i64 j)],ob:=[.var 129 (.data 129 i.v),.var 29 (.data 29 (.agg [.int i.a,.int i.b,.int i.c,.int i.n]))],out:=[],nt:=49 }) (4) ⟨0,rfl,⟨by omega,by cases h1:Ql i.op<;>simp_all,rfl⟩,rfl⟩ ?_)
     rintro n τ ⟨j,hn,⟨hj,hv,hu⟩,rfl⟩
     have h4:=Vk hv)
  | ((with_reducible refine YQ ?_)
     refine Zo (Qq (by first|rfl|(simp;done)|fail)) (YR (fun n τ=>∃ (j:Nat),n=4-j∧(j≤4∧(Ql i.op=true∨ZA i.op=true)∧XM i 4=false∧W9 p f i j=0)∧τ={ tm:=[(0,true,.fptr 204 (ckV p f)),(3,true,.ptr 0 [] 129),(5,true,.str (VC i.op)),(33,true,.data 29 (.agg [.int i.a,.int i.b,.int i.c,.int i.n])),(34,true,.int .i64 j)],ob:=[.var 129 (.data 129 i.v),.var 29 (.data 29 (.agg [.int i.a,.int i.b,.int i.c,.int i.n]))],out:=[],nt:=49 }) (4) ⟨0,rfl,⟨by omega,hv,(show j=4 by omega)▸hu,rfl⟩,rfl⟩ ?_)
     rintro n τ ⟨j,hn,⟨hj,hv,hu,hz⟩,rfl⟩
     have h4:=Vk hv)
  | ((with_reducible refine WM ?_)
     first
      | (have hlt:j<4:=by omega
         refine Zt (4-(j+1)) _ (by omega) (Qq (by simp only [QD hlt (by decide:4≤maxLen)])) ⟨j+1,rfl,⟨hlt,hv,?_⟩,rfl⟩
         have e:QO i j=45→i.field j=0:=by simpa only [QO,List.getD_eq_getElem?_getD] using hb31
         rw [Xo,hu]
         simpa using e)
      | (have hlt:j<4:=by omega
         refine Zt (4-(j+1)) _ (by omega) (Qq (by simp only [QD hlt (by decide:4≤maxLen)])) ⟨j+1,rfl,⟨hlt,hv,hu,?_⟩,rfl⟩
         rw [WC,hz,if_neg (by simp)]
         exact hb46))
  | ((with_reducible first|refine ZH ?_|refine ZG ?_)
     simp only [go_sem,QJ,QK,QG,seval]
     first
      | (refine ⟨rfl,?_⟩
         have e:QO i j=45∧¬i.field j=0:=by simpa only [QO,List.getD_eq_getElem?_getD] using hb31
         have h1:XM i (j+1)=true:=by rw [Xo,hu];simp [e]
         have h2:=Um h1 (4-(j+1))
         rw [show j+1+(4-(j+1))=4 by omega] at h2
         simp only [QV,h2,if_true]
         rw [if_neg (by intro h;rcases hv with hv|hv<;>simp [hv] at h)])
      | (refine ⟨rfl,?_⟩
         have h1:W9 p f i (j+1)=Qa p f (QO i j) (i.field j) i:=by rw [WC,hz,if_neg (by simp)]
         have h2:=yC (n:=j+1) (by rw [h1];exact hb46) (4-(j+1))
         rw [show j+1+(4-(j+1))=4 by omega,h1] at h2
         simp only [QV,h2,hu]
         rw [if_neg (by intro h;rcases hv with hv|hv<;>simp [hv] at h)]
         rfl)
      | (refine ⟨rfl,?_⟩
         have hj4:j=4:=by omega
         subst hj4
         simp only [QV,hz,hu]
         rw [if_neg (by intro h;rcases hv with hv|hv<;>simp [hv] at h)]
         rfl)
      | (refine ⟨rfl,?_⟩
         simp [QV,hb16]))
def QF5:List (List Nat):=[[0],[0,15,16,17],[0,15,16,17,18],[0,4,15,16,17],[0,4,15,16,17,22,23,24],[0,4,15,16,17,22,23,24,25],[0,4,6,15,16,17,22,23,24],[0,4,6,7,15,16,17,22,23,24],[0,4,6,7,15,16,17,22,23,24,38],[2],[0,4,6,15,16,17,22,23,24,46],[0,4,6,8,15,16,17,22,23,24],[0,4,6,8,15,16,17,22,23,24,52],[2],[0,4,6,15,16,17,22,23,24,67],[2],[0,4,9,15,16,17,22,23,24],[0,4,9,15,16,17,22,23,24,73],[2],[0,4,15,16,17,22,23,24],[0,4,15,16,17,78],[0,10,15,16,17],[0,10,15,16,17,84],[2],[0,15,16,17],[2]]
theorem QCh (p:Prg) (f:Fnc) (hp:p.Fit) (hf:f.Fit):Ctr Go.Proofs.Tryz.prog tab 142 [202] [49] [.ref (ckV p f)] [.int (Zq p f f.sels.length)]:=by
 obtain ⟨hp1,hp2,hp3,hp4⟩:=hp
 have hff:=hf
 obtain ⟨hf1,hf2,hf3⟩:=hf
 refine Ctr.body ok Go.Proofs.Tryz.func142 rfl rfl 87 rfl [.tmp 2] rfl (by simp [QE]) ?_
 simp only [go_sem,Nat.reduceAdd]
 repeat' first
  | ((with_reducible refine SARA.told 3 1 ?_)
     rw [XA (by omega)])
  | ((with_reducible refine SARA.told 6 1 ?_)
     rw [Wj (by omega)])
  | ((with_reducible first|refine Q2 fun R1 hR1=>?_|refine xP fun R1 hR1=>?_);(simp only [go_sem,seval,-List.reduceReplicate]);(repeat' with_reducible refine And.intro ?_ ?_);all_goals first|(refine hR1 _ ?_;clear hR1 R1)|((first|refine ⟨_,_,rfl,_,CallQ.ctr ok (U4 _ _) (by first|rfl|(simp [go_sem];done)|fail) rfl,?_⟩|refine cq (cc (U4 _ _)) ?_|refine ⟨_,_,rfl,_,CallQ.ctr ok (VG p f _) (by first|rfl|(simp [go_sem];done)|fail) rfl,?_⟩|refine cq (cc (VG p f _)) ?_|refine ⟨_,_,rfl,_,CallQ.ctr ok (Uo p f _ hff) (by first|rfl|(simp [go_sem];done)|fail) rfl,?_⟩|refine cq (cc (Uo p f _ hff)) ?_);all_goals ((try simp only [go_sem,seval,-List.reduceReplicate]);(repeat' with_reducible refine And.intro ?_ ?_);all_goals first|(refine hR1 _ ?_;clear hR1 R1)|omega|rfl|decide|assumption|(intro _;omega)|(simp;done)|(simp;omega)|(simp [QQ,maxLen]<;>omega)))|omega|rfl|decide|assumption|(intro _;omega)|(simp;done)|(simp;omega)|(simp [QQ,maxLen]<;>omega))
  | ((with_reducible first|refine Q1 ?_|refine xO ?_);refine hR _ ?_;clear hR R;try simp only [go_sem,QF5,Nat.reduceBEq])
  | (with_reducible first|refine J1 ?_|refine J2 ?_|refine J3 ?_|refine J4 ?_|refine J5 ?_|refine J6 ?_|refine J7 ?_|refine J8 (by decide) ?_|refine J9 ?_|refine WL ?_|refine Q0 ?_|refine Qz ?_|refine YZ ?_|refine WK ?_)
  | ((with_reducible refine QZ 4 ?_)
     have hc3:=hf3 _ (Ws (i:=i) (by omega))
     (with_reducible refine rg QF5 fun R hR=>?_);simp only [go_sem,QC])
  | ((with_reducible refine rg QF5 fun R hR=>?_);simp only [go_sem,QC])
  | ((with_reducible refine Vv ok QN (by kernel_rfl) (by kernel_rfl) QF5 ?_);intro R hR;simp only [go_sem,QC])
  | ((with_reducible refine QH 18 rfl (fun hb18=>?_) fun hb18=>?_);all_goals (try simp [-List.getD_eq_getElem?_getD] at hb18;try (exfalso;omega)))
  | ((with_reducible refine QH 25 rfl (fun hb25=>?_) fun hb25=>?_);all_goals (try simp [-List.getD_eq_getElem?_getD] at hb25;try (exfalso;omega)))
  | ((with_reducible refine QH 38 rfl (fun hb38=>?tt38) (fun hb38=>?ff38))
     case' tt38 =>
      try simp [-List.getD_eq_getElem?_getD] at hb38
      try (exfalso;omega)
     case' ff38 =>
      simp [-List.getD_eq_getElem?_getD] at hb38
      have hx:=Yu hb38 (by decide))
  | ((with_reducible refine QH 46 rfl (fun hb46=>?_) fun hb46=>?_);all_goals (try simp [-List.getD_eq_getElem?_getD] at hb46;try (exfalso;omega)))
  | ((with_reducible refine QH 52 rfl (fun hb52=>?_) fun hb52=>?_);all_goals (try simp [-List.getD_eq_getElem?_getD] at hb52;try (exfalso;omega)))
  | ((with_reducible refine QH 67 rfl (fun hb67=>?_) fun hb67=>?_);all_goals (try simp [-List.getD_eq_getElem?_getD] at hb67;try (exfalso;omega)))
  | ((with_reducible refine QH 73 rfl (fun hb73=>?_) fun hb73=>?_);all_goals (try simp [-List.getD_eq_getElem?_getD] at hb73;try (exfalso;omega)))
  | ((with_reducible refine QH 78 rfl (fun hb78=>?_) fun hb78=>?_);all_goals (try simp [-List.getD_eq_getElem?_getD] at hb78;try (exfalso;omega)))
  | ((with_reducible refine QH 84 rfl (fun hb84=>?_) fun hb84=>?_);all_goals (try simp [-List.getD_eq_getElem?_getD] at hb84;try (exfalso;omega)))
  | ((with_reducible refine YQ ?_)
     refine Zo (Qq (by first|rfl|(simp;done)|fail)) (YR (fun n τ=>∃ (i:Nat),n=f.sels.length-i∧(i≤f.sels.length∧Zq p f i=0)∧τ={ tm:=[(0,true,.fptr 204 (ckV p f)),(15,true,.fs 124 (f.sels.map Sel.v) false),(16,true,.int .i64 f.sels.length),(17,true,.int .i64 i)],ob:=[],out:=[],nt:=87 }) (f.sels.length) ⟨0,rfl,⟨by omega,rfl⟩,rfl⟩ ?_)
     rintro n τ ⟨i,hn,⟨hi,hz⟩,rfl⟩)
  | ((with_reducible refine YQ ?_)
     refine Zo (Qq (by first|rfl|(simp;done)|fail)) (YR (fun n τ=>∃ (j:Nat),n=(f.sels.getD i default).cases.length-j∧(j≤(f.sels.getD i default).cases.length∧XW p f (f.sels.getD i default) j=0)∧τ={ tm:=[(0,true,.fptr 204 (ckV p f)),(4,true,.ptr 0 [] 124),(15,true,.fs 124 (f.sels.map Sel.v) false),(16,true,.int .i64 f.sels.length),(17,true,.int .i64 i),(22,true,.fs 156 ((f.sels.getD i default).cases.map Cas.v) false),(23,true,.int .i64 (f.sels.getD i default).cases.length),(24,true,.int .i64 j)],ob:=[.var 124 (.data 124 (f.sels.getD i default).v)],out:=[],nt:=87 }) ((f.sels.getD i default).cases.length) ⟨0,rfl,⟨by omega,rfl⟩,rfl⟩ ?_)
     rintro n τ ⟨j,hn,⟨hj,hc⟩,rfl⟩)
  | ((with_reducible refine WM ?_)
     first
      | (have hlt:i<f.sels.length:=by omega
         refine Zt (f.sels.length-(i+1)) _ (by omega) ((WN 0 rfl).trans (Qq (by simp only [QD hlt hf2,List.take_zero]))) ⟨i+1,rfl,⟨hlt,?_⟩,rfl⟩
         have hjc:j=(f.sels.getD i default).cases.length:=by omega
         subst hjc
         rw [yc p f hlt,if_neg (fun q=>q hz)]
         simp only [Va,hc]
         rw [if_neg (fun q=>q rfl),if_neg (by
          rintro ⟨q1,q2⟩
          first
           | exact q1 hb78
           | (have:=Yu hb84 (by decide);rw [within_false] at q2;omega))])
      | (have hlt:j<(f.sels.getD i default).cases.length:=by omega
         refine Zt ((f.sels.getD i default).cases.length-(j+1)) _ (by omega) ((WN 1 rfl).trans (Qq (by simp only [QD hlt hc3,List.take_succ_cons,List.take_zero]))) ⟨j+1,rfl,⟨hlt,?_⟩,rfl⟩
         rw [zn p f _ hlt,if_neg (fun q=>q hc)]
         exact QQu hb38 (by first|exact .inr hb52|exact .inl hb46) hb67 hb73))
  | ((with_reducible first|refine ZH ?_|refine ZG ?_)
     simp only [go_sem,QJ,QK,QG,seval]
     first
      | (exact ⟨rfl,congrArg (fun e=>some (V.int e)) (Yr (by omega) hz (by omega) hc (QOg hb38 (by first|exact .inr hb52|exact .inl hb46) hb67 hb73) (by first|decide|assumption)).symm⟩)
      | (exact ⟨rfl,congrArg (fun e=>some (V.int e)) (Yr (by omega) hz (by omega) hc (QOh hb38 (by first|exact .inr hb52|exact .inl hb46) hb67) (by first|decide|assumption)).symm⟩)
      | (exact ⟨rfl,congrArg (fun e=>some (V.int e)) (Yr (by omega) hz (by omega) hc (QOj hb38 hb46 hb52) (by first|decide|assumption)).symm⟩)
      | (exact ⟨rfl,congrArg (fun e=>some (V.int e)) (Yr (by omega) hz (by omega) hc (QOi hb38) (by first|decide|assumption)).symm⟩)
      | (have hjc:j=(f.sels.getD i default).cases.length:=by omega
         subst hjc
         refine ⟨rfl,congrArg (fun e=>some (V.int e)) (vQ (by omega) hz ?_ hb84).symm⟩
         simp only [Va,hc]
         rw [if_neg (fun q=>q rfl),if_pos ⟨hb78,qm hb84⟩]
         exact (zN hb84).symm)
      | (have e:i=f.sels.length:=by omega
         subst e
         exact ⟨rfl,congrArg (fun e=>some (V.int e)) hz.symm⟩))
def QMV:List (List Nat):=[[1],[1,36],[2],[38,39,40],[38,39,40,41],[4,38,39,40],[38,39,40,49],[2],[38,39,40],[2]]
theorem QGh (p:Prg) (hp:p.Fit):Ctr Go.Proofs.Tryz.prog tab 140 [26] [49] [p.v] [.int (UM p)]:=by
 obtain ⟨hp1,hp2,hp3,hp4⟩:=hp
 refine Ctr.body ok Go.Proofs.Tryz.func140 rfl rfl 51 rfl [.tmp 2] rfl (by simp [QE]) ?_
 simp only [go_sem,Nat.reduceAdd]
 repeat' first
  | ((with_reducible refine Q2 fun R1 hR1=>?_);(simp only [go_sem,seval,-List.reduceReplicate]);(repeat' with_reducible refine And.intro ?_ ?_);all_goals first|(refine hR1 _ ?_;clear hR1 R1)|omega|rfl|decide|assumption|(intro _;omega)|(simp;done)|(simp;omega)|(simp [QQ,maxLen]<;>omega))
  | ((with_reducible refine Q1 ?_);refine hR _ ?_;clear hR R;try simp only [go_sem,QMV,Nat.reduceBEq])
  | (with_reducible first|refine J1 ?_|refine J2 ?_|refine J3 ?_|refine J4 ?_|refine J5 ?_|refine J6 ?_|refine J7 ?_|refine J8 (by decide) ?_|refine J9 ?_|refine WL ?_|refine Q0 ?_|refine Qz ?_|refine YZ ?_|refine WK ?_)
  | ((with_reducible refine rg QMV fun R hR=>?_);simp only [go_sem,QC])
  | ((with_reducible refine QH 36 rfl (fun hb36=>?_) fun hb36=>?_);all_goals (try simp [-List.getD_eq_getElem?_getD] at hb36;try (exfalso;omega)))
  | ((with_reducible refine QH 41 rfl (fun hb41=>?_) fun hb41=>?_);all_goals (try simp [-List.getD_eq_getElem?_getD] at hb41;try (exfalso;omega)))
  | ((with_reducible refine QH 49 rfl (fun hb49=>?_) fun hb49=>?_);all_goals (try simp [-List.getD_eq_getElem?_getD] at hb49;try (exfalso;omega)))
  | ((with_reducible refine YQ ?_)
     refine Zo (Qq (by first|rfl|(simp;done)|fail)) (YR (fun n τ=>∃ (i:Nat),n=p.chans.length-i∧(i≤p.chans.length∧Ze p∧Zr p i=true)∧τ={ tm:=[(38,true,.fs 3 (p.chans.map V.int) false),(39,true,.int .i64 p.chans.length),(40,true,.int .i64 i)],ob:=[.var 26 (.data 26 p.v)],out:=[],nt:=51 }) (p.chans.length) ⟨0,rfl,⟨by omega,by unfold Ze;omega,rfl⟩,rfl⟩ ?_)
     rintro n τ ⟨i,hn,⟨hi,hs,hc⟩,rfl⟩)
  | ((with_reducible refine WM ?_)
     first
      | (have hlt:i<p.chans.length:=by omega
         refine Zt (p.chans.length-(i+1)) _ (by omega) (Qq (by simp only [QD hlt hp2])) ⟨i+1,rfl,⟨hlt,hs,?_⟩,rfl⟩
         unfold Zr at hc ⊢
         rw [xM _ _ hlt,hc]
         simp only [Bool.true_and,Bool.and_eq_true,decide_eq_true_eq]
         exact hb49))
  | ((with_reducible first|refine ZH ?_|refine ZG ?_)
     simp only [go_sem,QJ,QK,QG,seval]
     first
      | (have q:_∨_:=hb49
         exact ⟨rfl,congrArg (fun e=>some (V.int e)) (Eq.symm ((if_neg hs).trans (if_pos (QB3 (i:=i) (by omega) hb49))))⟩)
      | (exact ⟨rfl,congrArg (fun e=>some (V.int e)) (Eq.symm ((if_neg hs).trans (if_neg (by rw [show p.chans.length=i by omega,hc];simp))))⟩)
      | (exact ⟨rfl,congrArg (fun e=>some (V.int e)) (Eq.symm (if_pos (by omega)))⟩))
end Go.Eng.Tryz
namespace Go.Eng.Tryz
open Go.RowKit Go.Eng
set_option maxHeartbeats 0
set_option maxRecDepth 20000
def sz0 (m:Int) (f:Fnc):Bool:=decide (0≤f.regs)&&decide (f.regs≤8)&&decide (0≤f.params)&&decide (f.params≤f.regs)&&!(decide (m=0)&&decide (0<f.params))&&decide (1≤(f.code.length:Int))&&decide ((f.code.length:Int)≤64)&&decide ((f.sels.length:Int)≤4)
theorem Uc {m:Int} {f:Fnc} (h:WR m f=0):Yj m f=true:=by
 unfold WR at h
 split at h
 · assumption
 · cases h
theorem v6 {m:Int} {f:Fnc} (h:¬WR m f=0):Yj m f=false:=by
 unfold WR at h
 split at h
 · exact absurd rfl h
 · rename_i q;simpa using q
theorem QCU {m:Int} {f:Fnc} (h:¬WR m f=0):WR m f=32:=by
 unfold WR at *
 rw [v6 h];rfl
theorem sz0_iff {m:Int} {f:Fnc}:sz0 m f=true↔¬(f.regs<0∨8<f.regs∨f.params<0∨f.regs<f.params∨(m=0∧f.params≠0))∧¬(f.code.length<1∨64<f.code.length∨4<f.sels.length):=by
 unfold sz0
 simp only [Bool.and_eq_true,Bool.not_eq_true',Bool.and_eq_false_iff,decide_eq_true_eq,decide_eq_false_iff_not]
 omega
end Go.Eng.Tryz
