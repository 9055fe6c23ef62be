/- A part of the proof: walks through the program's functions, and what they compute. -/
import Derived.Test.YtmonhjagbhpbeaaGreatDoorPk5
set_option linter.unusedSimpArgs false
set_option linter.unusedVariables false
namespace Go.Eng.Tryz
open Go.RowKit Go.Eng
set_option maxHeartbeats 0
set_option maxRecDepth 20000
attribute [go_sem] QRr QRq
def QK6:List (List Nat):=[[0,1],[4]]
theorem U1 (x n:Int):Ctr Go.Proofs.Tryz.prog tab 182 [2,3] [4] [.int x,.int n] [.bool (Qe x n)]:=by
 refine Ctr.body ok Go.Proofs.Tryz.func182 rfl rfl 12 rfl [.tmp 4] rfl (by simp [QL]) ?_
 simp only [go_sem,Nat.reduceAdd]
 repeat' first
  | ((with_reducible refine Zx fun R1 hR1=>?_);(simp only [go_sem,seval,-List.reduceReplicate]);(repeat' with_reducible refine And.intro ?_ ?_);all_goals first|(refine hR1 _ ?_;clear hR1 R1)|omega|rfl|decide|assumption|(intro _;omega)|(simp;done)|(simp;omega))
  | ((with_reducible refine Zw ?_);refine hR _ ?_;clear hR R;try simp only [go_sem,QK6,Nat.reduceBEq])
  | (with_reducible first|refine J1 ?_|refine J2 ?_|refine ZL ?_|refine ZS ?_)
  | ((with_reducible refine rg QK6 fun R hR=>?_);simp only [go_sem,QC])
  | ((with_reducible first|refine YQ ?_|refine Zv ?_)
     simp only [go_sem,QS,QW,QM,seval]
     refine ⟨rfl,?_⟩
     simp only [Qe]
     cases decide (0≤x)<;>rfl)
def QLP:List (List Nat):=[[0],[2]]
theorem UH (x:Int):Ctr Go.Proofs.Tryz.prog tab 123 [58] [4] [.int x] [.bool (Qk x)]:=by
 refine Ctr.body ok Go.Proofs.Tryz.func123 rfl rfl 17 rfl [.tmp 2] rfl (by simp [QL]) ?_
 simp only [go_sem,Nat.reduceAdd]
 repeat' first
  | ((with_reducible refine Zx fun R1 hR1=>?_);(simp only [go_sem,seval,-List.reduceReplicate]);(repeat' with_reducible refine And.intro ?_ ?_);all_goals first|(refine hR1 _ ?_;clear hR1 R1)|omega|rfl|decide|assumption|(intro _;omega)|(simp;done)|(simp;omega))
  | ((with_reducible refine Zw ?_);refine hR _ ?_;clear hR R;try simp only [go_sem,QLP,Nat.reduceBEq])
  | (with_reducible first|refine J1 ?_|refine J2 ?_|refine ZL ?_|refine ZS ?_)
  | ((with_reducible refine rg QLP fun R hR=>?_);simp only [go_sem,QC])
  | ((with_reducible first|refine YQ ?_|refine Zv ?_)
     simp only [go_sem,QS,QW,QM,seval]
     refine ⟨rfl,?_⟩
     simp only [Qk]
     cases decide (1≤x)<;>cases decide (x≤36)<;>cases decide (40≤x)<;>rfl)
def QLM:List (List Nat):=[[0],[2]]
theorem Wz (x:Int):Ctr Go.Proofs.Tryz.prog tab 128 [58] [4] [.int x] [.bool (Q4 x)]:=by
 refine Ctr.body ok Go.Proofs.Tryz.func128 rfl rfl 9 rfl [.tmp 2] rfl (by simp [QL]) ?_
 simp only [go_sem,Nat.reduceAdd]
 repeat' first
  | ((with_reducible refine Zx fun R1 hR1=>?_);(simp only [go_sem,seval,-List.reduceReplicate]);(repeat' with_reducible refine And.intro ?_ ?_);all_goals first|(refine hR1 _ ?_;clear hR1 R1)|omega|rfl|decide|assumption|(intro _;omega)|(simp;done)|(simp;omega))
  | ((with_reducible refine Zw ?_);refine hR _ ?_;clear hR R;try simp only [go_sem,QLM,Nat.reduceBEq])
  | (with_reducible first|refine J1 ?_|refine J2 ?_|refine ZL ?_|refine ZS ?_)
  | ((with_reducible refine rg QLM fun R hR=>?_);simp only [go_sem,QC])
  | ((with_reducible first|refine YQ ?_|refine Zv ?_)
     simp only [go_sem,QS,QW,QM,seval]
     refine ⟨rfl,?_⟩
     simp only [Q4]
     cases decide (50≤x)<;>rfl)
def QLI:List (List Nat):=[[0],[0,3],[2],[0,10],[2],[17],[17,18],[17,18],[17,18],[2],[17,22],[2],[17,24],[2],[17,26],[2],[17,28],[17,28],[2],[17,31],[2],[17,33],[2],[17,35],[2],[17,37],[2],[17,39],[2],[17,41],[17,41],[2],[17,44],[2],[17,46],[2],[17,48],[2],[17,50],[2],[17,52],[2],[17,54],[2],[56],[2],[2]]
theorem QAg (op:Int):Ctr Go.Proofs.Tryz.prog tab 148 [58] [9] [.int op] [.str (Wv op)]:=by
 refine Ctr.body ok Go.Proofs.Tryz.func148 rfl rfl 58 rfl [.tmp 2] rfl (by simp [QL]) ?_
 simp only [go_sem,Nat.reduceAdd]
 repeat' first
  | ((with_reducible refine Zx fun R1 hR1=>?_);(simp only [go_sem,seval,-List.reduceReplicate]);(repeat' with_reducible refine And.intro ?_ ?_);all_goals first|(refine hR1 _ ?_;clear hR1 R1)|omega|rfl|decide|assumption|(intro _;omega)|(simp;done)|(simp;omega))
  | ((with_reducible refine Zw ?_);refine hR _ ?_;clear hR R;try simp only [go_sem,QLI,Nat.reduceBEq])
  | (with_reducible first|refine J1 ?_|refine J2 ?_|refine J3 ?_|refine J4 ?_|refine J5 ?_|refine J6 ?_|refine J7 ?_|refine J8 (by decide) ?_|refine J9 ?_|refine ZL ?_|refine ZS ?_|refine Y3 ?_)
  | ((with_reducible refine rg QLI fun R hR=>?_);simp only [go_sem,QC])
  | ((with_reducible refine SA.cond rfl ?_ ?_)
     all_goals
      intro hb
      try simp at hb
      try (exfalso;omega))
  | ((with_reducible first|refine YQ ?_|refine Zv ?_)
     simp only [go_sem,QS,QW,QM,seval]
     refine ⟨rfl,?_⟩
     first|(subst_vars;rfl)|(unfold Wv Q3;(repeat (rw [if_neg (by omega)]));(try rw [if_pos (by omega)]);rfl))
def QLL:List (List Nat):=[[0,1],[8],[4],[4]]
theorem UL (x n:Int):Ctr Go.Proofs.Tryz.prog tab 145 [2,3] [30] [.int x,.int n] [.int (YB 36 x n)]:=by
 refine Ctr.body ok Go.Proofs.Tryz.func145 rfl rfl 9 rfl [.tmp 4] rfl (by simp [QL]) ?_
 simp only [go_sem,Nat.reduceAdd]
 repeat' first
  | ((with_reducible refine Zx fun R1 hR1=>?_);(simp only [go_sem,seval,-List.reduceReplicate]);(repeat' with_reducible refine And.intro ?_ ?_);all_goals first|(refine hR1 _ ?_;clear hR1 R1)|((first|refine cq (cc (U1 _ _)) ?_);all_goals ((try simp only [go_sem,seval,-List.reduceReplicate]);(repeat' with_reducible refine And.intro ?_ ?_);all_goals first|(refine hR1 _ ?_;clear hR1 R1)|omega|rfl|decide|assumption|(intro _;omega)|(simp;done)|(simp;omega)|(simp [QF,maxLen]<;>omega)))|omega|rfl|decide|assumption|(intro _;omega)|(simp;done)|(simp;omega)|(simp [QF,maxLen]<;>omega))
  | ((with_reducible refine Zw ?_);refine hR _ ?_;clear hR R;try simp only [go_sem,QLL,Nat.reduceBEq])
  | (with_reducible first|refine J1 ?_|refine J2 ?_|refine J3 ?_|refine ZL ?_|refine ZS ?_)
  | ((with_reducible refine rg QLL fun R hR=>?_);simp only [go_sem,QC])
  | ((with_reducible refine QR 8 rfl (fun hb8=>?_) fun hb8=>?_);all_goals (try simp at hb8;try (exfalso;omega)))
  | ((with_reducible first|refine YQ ?_|refine Zv ?_)
     simp only [go_sem,QS,QW,QM,seval]
     refine ⟨rfl,?_⟩
     simp [YB,hb8])
def QLK:List (List Nat):=[[0,1],[12],[4],[4]]
theorem Wy (p:Prg) (f:Fnc) (x:Int):Ctr Go.Proofs.Tryz.prog tab 146 [194,2] [30] [.ref (ckV p f),.int x] [.int (YB 35 x f.regs)]:=by
 refine Ctr.body ok Go.Proofs.Tryz.func146 rfl rfl 13 rfl [.tmp 4] rfl (by simp [QL]) ?_
 simp only [go_sem,Nat.reduceAdd]
 repeat' first
  | ((with_reducible refine Zx fun R1 hR1=>?_);(simp only [go_sem,seval,-List.reduceReplicate]);(repeat' with_reducible refine And.intro ?_ ?_);all_goals first|(refine hR1 _ ?_;clear hR1 R1)|((first|refine cq (cc (U1 _ _)) ?_);all_goals ((try simp only [go_sem,seval,-List.reduceReplicate]);(repeat' with_reducible refine And.intro ?_ ?_);all_goals first|(refine hR1 _ ?_;clear hR1 R1)|omega|rfl|decide|assumption|(intro _;omega)|(simp;done)|(simp;omega)|(simp [QF,maxLen]<;>omega)))|omega|rfl|decide|assumption|(intro _;omega)|(simp;done)|(simp;omega)|(simp [QF,maxLen]<;>omega))
  | ((with_reducible refine Zw ?_);refine hR _ ?_;clear hR R;try simp only [go_sem,QLK,Nat.reduceBEq])
  | (with_reducible first|refine J1 ?_|refine J2 ?_|refine J3 ?_|refine ZL ?_|refine ZS ?_)
  | ((with_reducible refine rg QLK fun R hR=>?_);simp only [go_sem,QC])
  | ((with_reducible refine QR 12 rfl (fun hb12=>?_) fun hb12=>?_);all_goals (try simp at hb12;try (exfalso;omega)))
  | ((with_reducible first|refine YQ ?_|refine Zv ?_)
     simp only [go_sem,QS,QW,QM,seval]
     refine ⟨rfl,?_⟩
     simp [YB,hb12])
def QLJ:List (List Nat):=[[0,1],[13],[4],[4]]
theorem UD (p:Prg) (f:Fnc) (x:Int) (hf:f.Fit):Ctr Go.Proofs.Tryz.prog tab 147 [194,2] [30] [.ref (ckV p f),.int x] [.int (YB 38 x f.code.length)]:=by
 have hf1:=hf.1
 refine Ctr.body ok Go.Proofs.Tryz.func147 rfl rfl 14 rfl [.tmp 4] rfl (by simp [QL]) ?_
 simp only [go_sem,Nat.reduceAdd]
 repeat' first
  | ((with_reducible refine Zx fun R1 hR1=>?_);(simp only [go_sem,seval,-List.reduceReplicate]);(repeat' with_reducible refine And.intro ?_ ?_);all_goals first|(refine hR1 _ ?_;clear hR1 R1)|((first|refine cq (cc (U1 _ _)) ?_);all_goals ((try simp only [go_sem,seval,-List.reduceReplicate]);(repeat' with_reducible refine And.intro ?_ ?_);all_goals first|(refine hR1 _ ?_;clear hR1 R1)|omega|rfl|decide|assumption|(intro _;omega)|(simp;done)|(simp;omega)|(simp [QF,maxLen]<;>omega)))|omega|rfl|decide|assumption|(intro _;omega)|(simp;done)|(simp;omega)|(simp [QF,maxLen]<;>omega))
  | ((with_reducible refine Zw ?_);refine hR _ ?_;clear hR R;try simp only [go_sem,QLJ,Nat.reduceBEq])
  | (with_reducible first|refine J1 ?_|refine J2 ?_|refine J3 ?_|refine ZL ?_|refine ZS ?_)
  | ((with_reducible refine rg QLJ fun R hR=>?_);simp only [go_sem,QC])
  | ((with_reducible refine QR 13 rfl (fun hb13=>?_) fun hb13=>?_);all_goals (try simp at hb13;try (exfalso;omega)))
  | ((with_reducible first|refine YQ ?_|refine Zv ?_)
     simp only [go_sem,QS,QW,QM,seval]
     refine ⟨rfl,?_⟩
     simp [YB,hb13])
def QLH:List (List Nat):=[[1,2],[2]]
theorem yA (i:Instr):Ctr Go.Proofs.Tryz.prog tab 149 [104] [39] [i.v] [.agg [.int i.a,.int i.b,.int i.c,.int i.n]]:=by
 refine Ctr.body ok Go.Proofs.Tryz.func149 rfl rfl 12 rfl [.cell 2 39] rfl (by simp [QL]) ?_
 simp only [go_sem,Nat.reduceAdd]
 repeat' first
  | ((with_reducible refine Zx fun R1 hR1=>?_);(simp only [go_sem,seval,-List.reduceReplicate,QLn,z39,z2]);(repeat' with_reducible refine And.intro ?_ ?_);all_goals first|(refine hR1 _ ?_;clear hR1 R1)|omega|rfl|decide|assumption|(intro _;omega)|(simp;done)|(simp;omega)|(simp [QF,maxLen]<;>omega))
  | ((with_reducible refine Zw ?_);refine hR _ ?_;clear hR R;try simp only [go_sem,QLH,Nat.reduceBEq])
  | (with_reducible first|refine J1 ?_|refine J2 ?_|refine ZL ?_|refine ZS ?_)
  | ((with_reducible refine rg QLH fun R hR=>?_);simp only [go_sem,QC])
  | ((with_reducible first|refine YQ ?_|refine Zv ?_)
     simp only [go_sem,QS,QW,QM,seval]
     rfl)
def QFB:List (List Nat):=[[0,1,2,7],[0,2,7,12],[0,2,7,12,13],[0,2,16],[8],[8],[0,2,7,12,20],[0,2,7,12,20],[8],[0,2,7,12,26],[9],[9,37],[8],[8],[0,2,7,12,39],[0,2,10],[0,2,10,50],[8],[61],[8],[0,2,7,12,62],[8],[0,2,7,12,71],[8],[0,2,7,12,81],[8],[0,2,7,12,91],[8],[0,2,7,12,101],[8],[0,2,7,106],[0,2,11],[142],[8],[8]]
theorem zy (p:Prg) (f:Fnc) (letter x:Int) (i:Instr) (hp:p.Fit) (hf:f.Fit) (h112:letter=112→0≤i.b∧i.b<p.funcs.length):Ctr Go.Proofs.Tryz.prog tab 150 [194,5,2,104] [30] [.ref (ckV p f),.int letter,.int x,i.v] [.int (QY p f letter x i)]:=by
 obtain ⟨hp1,hp2,hp3,hp4⟩:=hp
 have hff:=hf
 obtain ⟨hf1,hf2,hf3⟩:=hf
 refine Ctr.body ok Go.Proofs.Tryz.func150 rfl rfl 143 rfl [.tmp 8] rfl (by simp [QL]) ?_
 simp only [go_sem,Nat.reduceAdd]
 repeat' first
  | ((with_reducible refine SARA.told 18 7 ?_)
     rw [wu (by omega)])
  | ((with_reducible first|refine Zx fun R1 hR1=>?_|refine J23 fun R1 hR1=>?_);(simp only [go_sem,seval,-List.reduceReplicate]);(repeat' with_reducible refine And.intro ?_ ?_);all_goals first|(refine hR1 _ ?_;clear hR1 R1)|((first|refine ⟨_,_,rfl,_,CallQ.ctr ok (UL _ _) (by first|rfl|(simp [go_sem];done)|fail) rfl,?_⟩|refine cq (cc (UL _ _)) ?_|refine ⟨_,_,rfl,_,CallQ.ctr ok (Wy p f _) (by first|rfl|(simp [go_sem];done)|fail) rfl,?_⟩|refine cq (cc (Wy p f _)) ?_|refine ⟨_,_,rfl,_,CallQ.ctr ok (UD p f _ hff) (by first|rfl|(simp [go_sem];done)|fail) rfl,?_⟩|refine cq (cc (UD p f _ hff)) ?_);all_goals ((try simp only [go_sem,seval,-List.reduceReplicate]);(repeat' with_reducible refine And.intro ?_ ?_);all_goals first|(refine hR1 _ ?_;clear hR1 R1)|omega|rfl|decide|assumption|(intro _;omega)|(simp;done)|(simp;omega)|(simp [QF,maxLen]<;>omega)))|omega|rfl|decide|assumption|(intro _;omega)|(simp;done)|(simp;omega)|(simp [QF,maxLen]<;>omega))
  | ((with_reducible first|refine Zw ?_|refine J29 ?_);refine hR _ ?_;clear hR R;try simp only [go_sem,QFB,Nat.reduceBEq])
  | (with_reducible first|refine J1 ?_|refine J2 ?_|refine J3 ?_|refine J4 ?_|refine J5 ?_|refine J6 ?_|refine J7 ?_|refine J8 (by decide) ?_|refine J9 ?_|refine ZL ?_|refine ZS ?_|refine Y3 ?_)
  | ((with_reducible refine Qy 18 ?_)
     have hx:=Yf hb50 (by decide)
     (with_reducible refine rg QFB fun R hR=>?_);simp only [go_sem,QC])
  | ((with_reducible refine rg QFB fun R hR=>?_);simp only [go_sem,QC])
  | ((with_reducible refine qq ok Qc (by kernel_rfl) (by kernel_rfl) QFB ?_);intro R hR;simp only [go_sem,QC])
  | ((with_reducible refine QR 50 rfl (fun hb50=>?_) fun hb50=>?_);all_goals (try simp at hb50;try (exfalso;omega)))
  | ((with_reducible refine SA.cond rfl ?_ ?_)
     all_goals
      intro hb
      try simp at hb
      try (exfalso;omega))
  | ((with_reducible first|refine YQ ?_|refine Zv ?_)
     simp only [go_sem,QS,QW,QM,seval]
     refine ⟨rfl,?_⟩
     first|(subst_vars;simp [QY,YB,Qe,Prg.fn,w64, *];done)|(subst_vars;simp only [QY,YB,Qe,Prg.fn,w64];simp [*];omega)|(simp_all [QY,YB,Qe];done)|(simp_all [QY,YB,Qe,Prg.fn,w64];omega))
end Go.Eng.Tryz
namespace Go.Eng.Tryz
open Go.RowKit Go.Eng
set_option maxHeartbeats 0
set_option maxRecDepth 20000
def QIT:List (List Nat):=[[0,3],[0,3,5],[0,3,5,16],[4],[0,3,5,6],[0,3,5,6,19,20],[0,3,5,6,19,20,21],[0,3,5,6,7,8,19,20],[0,3,5,6,19,20,31],[4],[0,3,5,6,19,20],[0,3,5,33,34],[0,3,5,33,34,35],[0,3,5,9,10,33,34],[0,3,5,11,33,34],[0,3,5,11,33,34,46],[4],[0,3,5,33,34],[4]]
theorem QEB (p:Prg) (f:Fnc) (i:Instr) (hp:p.Fit) (hf:f.Fit):Ctr Go.Proofs.Tryz.prog tab 112 [194,104] [30] [.ref (ckV p f),i.v] [.int (Qa p f i)]:=by
 refine Ctr.body ok Go.Proofs.Tryz.func112 rfl rfl 49 rfl [.tmp 4] rfl (by simp [QL]) ?_
 simp only [go_sem,Nat.reduceAdd]
 repeat' first
  | ((with_reducible first|refine Zx fun R1 hR1=>?_|refine J23 fun R1 hR1=>?_);(simp only [go_sem,seval,-List.reduceReplicate,yL,UQ]);(repeat' with_reducible refine And.intro ?_ ?_);all_goals first|(refine hR1 _ ?_;clear hR1 R1)|((first|refine ⟨_,_,rfl,_,CallQ.ctr ok (QAg _) (by first|rfl|(simp [go_sem];done)|fail) rfl,?_⟩|refine cq (cc (QAg _)) ?_|refine ⟨_,_,rfl,_,CallQ.ctr ok (yA i) (by first|rfl|(simp [go_sem];done)|fail) rfl,?_⟩|refine cq (cc (yA i)) ?_|refine ⟨_,_,rfl,_,CallQ.ctr ok (zy p f _ _ i hp hf (fun h=>Vu hz h)) (by first|rfl|(simp [go_sem];done)|fail) rfl,?_⟩|refine cq (cc (zy p f _ _ i hp hf (fun h=>Vu hz h))) ?_);all_goals ((try simp only [go_sem,seval,-List.reduceReplicate,yL,UQ]);(repeat' with_reducible refine And.intro ?_ ?_);all_goals first|(refine hR1 _ ?_;clear hR1 R1)|omega|rfl|decide|assumption|(intro _;omega)|(simp;done)|(simp;omega)|(simp [QF,maxLen]<;>omega)))|omega|rfl|decide|assumption|(intro _;omega)|(simp;done)|(simp;omega)|(simp [QF,maxLen]<;>omega))
  | ((with_reducible first|refine Zw ?_|refine J29 ?_);refine hR _ ?_;clear hR R;try simp only [go_sem,QIT,Nat.reduceBEq])
  | (with_reducible first|refine J1 ?_|refine J2 ?_|refine J3 ?_|refine J4 ?_|refine J5 ?_|refine J6 ?_|refine J7 ?_|refine J8 (by decide) ?_|refine J9 ?_|refine Uf ?_|refine ZL ?_|refine ZS ?_|refine Y3 ?_|refine V7 ?_)
  | ((with_reducible refine rg QIT fun R hR=>?_);simp only [go_sem,QC])
  | ((with_reducible refine qq ok Qc (by kernel_rfl) (by kernel_rfl) QIT ?_);intro R hR;simp only [go_sem,QC])
  | ((with_reducible refine QR 16 rfl (fun hb16=>?_) (fun hb16=>?_))
     all_goals
      rw [QEP] at hb16
      simp at hb16)
  | ((with_reducible refine QR 31 rfl (fun hb31=>?_) fun hb31=>?_);all_goals (try simp at hb31;try (exfalso;omega)))
  | ((with_reducible refine QR 46 rfl (fun hb46=>?_) fun hb46=>?_);all_goals (try simp at hb46;try (exfalso;omega)))
  | ((with_reducible refine SA.cond rfl ?_ ?_)
     all_goals
      intro hb
      try simp at hb
      try (exfalso;omega))
  | ((with_reducible refine W1 ?_)
     refine Yx (ZZ (by first|rfl|(simp;done)|fail)) (Wo (fun n τ=>∃ (j:Nat),n=4-j∧(j≤4∧(Qk i.op=true∨Q4 i.op=true)∧Y4 i j=false)∧τ={ tm:=[(0,true,.fptr 196 (ckV p f)),(3,true,.ptr 0 [] 104),(5,true,.str (Wv i.op)),(6,true,.ptr 1 [] 39),(19,true,.data 39 (.agg [.int i.a,.int i.b,.int i.c,.int i.n])),(20,true,.int .i64 j)],ob:=[.var 104 (.data 104 i.v),.var 39 (.data 39 (.agg [.int i.a,.int i.b,.int i.c,.int i.n]))],out:=[],nt:=49 }) (4) ⟨0,rfl,⟨by omega,by cases h1:Qk i.op<;>simp_all,rfl⟩,rfl⟩ ?_)
     rintro n τ ⟨j,hn,⟨hj,hv,hu⟩,rfl⟩
     have h4:=VK hv)
  | ((with_reducible refine W1 ?_)
     refine Yx (ZZ (by first|rfl|(simp;done)|fail)) (Wo (fun n τ=>∃ (j:Nat),n=4-j∧(j≤4∧(Qk i.op=true∨Q4 i.op=true)∧Y4 i 4=false∧Wr p f i j=0)∧τ={ tm:=[(0,true,.fptr 196 (ckV p f)),(3,true,.ptr 0 [] 104),(5,true,.str (Wv i.op)),(33,true,.data 39 (.agg [.int i.a,.int i.b,.int i.c,.int i.n])),(34,true,.int .i64 j)],ob:=[.var 104 (.data 104 i.v),.var 39 (.data 39 (.agg [.int i.a,.int i.b,.int i.c,.int i.n]))],out:=[],nt:=49 }) (4) ⟨0,rfl,⟨by omega,hv,(show j=4 by omega)▸hu,rfl⟩,rfl⟩ ?_)
     rintro n τ ⟨j,hn,⟨hj,hv,hu,hz⟩,rfl⟩
     have h4:=VK hv)
  | ((with_reducible refine zF ?_)
     first
      | (have hlt:j<4:=by omega
         refine WE (4-(j+1)) _ (by omega) (ZZ (by simp only [QN hlt (by decide:4≤maxLen)])) ⟨j+1,rfl,⟨hlt,hv,?_⟩,rfl⟩
         have e:QQ i j=45→i.field j=0:=by simpa only [QQ,List.getD_eq_getElem?_getD] using hb31
         rw [XY,hu]
         simpa using e)
      | (have hlt:j<4:=by omega
         refine WE (4-(j+1)) _ (by omega) (ZZ (by simp only [QN hlt (by decide:4≤maxLen)])) ⟨j+1,rfl,⟨hlt,hv,hu,?_⟩,rfl⟩
         rw [Xm,hz,if_neg (by simp)]
         exact hb46))
  | ((with_reducible first|refine YQ ?_|refine Zv ?_)
     simp only [go_sem,QS,QW,QM,seval]
     first
      | (refine ⟨rfl,?_⟩
         have e:QQ i j=45∧¬i.field j=0:=by simpa only [QQ,List.getD_eq_getElem?_getD] using hb31
         have h1:Y4 i (j+1)=true:=by rw [XY,hu];simp [e]
         have h2:=UA h1 (4-(j+1))
         rw [show j+1+(4-(j+1))=4 by omega] at h2
         simp only [Qa,h2,if_true]
         rw [if_neg (by intro h;rcases hv with hv|hv<;>simp [hv] at h)])
      | (refine ⟨rfl,?_⟩
         have h1:Wr p f i (j+1)=QY p f (QQ i j) (i.field j) i:=by rw [Xm,hz,if_neg (by simp)]
         have h2:=zS (n:=j+1) (by rw [h1];exact hb46) (4-(j+1))
         rw [show j+1+(4-(j+1))=4 by omega,h1] at h2
         simp only [Qa,h2,hu]
         rw [if_neg (by intro h;rcases hv with hv|hv<;>simp [hv] at h)]
         rfl)
      | (refine ⟨rfl,?_⟩
         have hj4:j=4:=by omega
         subst hj4
         simp only [Qa,hz,hu]
         rw [if_neg (by intro h;rcases hv with hv|hv<;>simp [hv] at h)]
         rfl)
      | (refine ⟨rfl,?_⟩
         simp [Qa,hb16]))
def QFD:List (List Nat):=[[0],[0,15,16,17],[0,15,16,17,18],[0,4,15,16,17],[0,4,15,16,17,22,23,24],[0,4,15,16,17,22,23,24,25],[0,4,6,15,16,17,22,23,24],[0,4,6,7,15,16,17,22,23,24],[0,4,6,7,15,16,17,22,23,24,38],[2],[0,4,6,15,16,17,22,23,24,46],[0,4,6,8,15,16,17,22,23,24],[0,4,6,8,15,16,17,22,23,24,52],[2],[0,4,6,15,16,17,22,23,24,67],[2],[0,4,9,15,16,17,22,23,24],[0,4,9,15,16,17,22,23,24,73],[2],[0,4,15,16,17,22,23,24],[0,4,15,16,17,78],[0,10,15,16,17],[0,10,15,16,17,84],[2],[0,15,16,17],[2]]
theorem QBi (p:Prg) (f:Fnc) (hp:p.Fit) (hf:f.Fit):Ctr Go.Proofs.Tryz.prog tab 111 [194] [30] [.ref (ckV p f)] [.int (Zn p f f.sels.length)]:=by
 obtain ⟨hp1,hp2,hp3,hp4⟩:=hp
 have hff:=hf
 obtain ⟨hf1,hf2,hf3⟩:=hf
 refine Ctr.body ok Go.Proofs.Tryz.func111 rfl rfl 87 rfl [.tmp 2] rfl (by simp [QL]) ?_
 simp only [go_sem,Nat.reduceAdd]
 repeat' first
  | ((with_reducible refine SARA.told 3 1 ?_)
     rw [WO (by omega)])
  | ((with_reducible refine SARA.told 6 1 ?_)
     rw [Vx (by omega)])
  | ((with_reducible first|refine Zx fun R1 hR1=>?_|refine J23 fun R1 hR1=>?_);(simp only [go_sem,seval,-List.reduceReplicate]);(repeat' with_reducible refine And.intro ?_ ?_);all_goals first|(refine hR1 _ ?_;clear hR1 R1)|((first|refine ⟨_,_,rfl,_,CallQ.ctr ok (UL _ _) (by first|rfl|(simp [go_sem];done)|fail) rfl,?_⟩|refine cq (cc (UL _ _)) ?_|refine ⟨_,_,rfl,_,CallQ.ctr ok (Wy p f _) (by first|rfl|(simp [go_sem];done)|fail) rfl,?_⟩|refine cq (cc (Wy p f _)) ?_|refine ⟨_,_,rfl,_,CallQ.ctr ok (UD p f _ hff) (by first|rfl|(simp [go_sem];done)|fail) rfl,?_⟩|refine cq (cc (UD p f _ hff)) ?_);all_goals ((try simp only [go_sem,seval,-List.reduceReplicate]);(repeat' with_reducible refine And.intro ?_ ?_);all_goals first|(refine hR1 _ ?_;clear hR1 R1)|omega|rfl|decide|assumption|(intro _;omega)|(simp;done)|(simp;omega)|(simp [QF,maxLen]<;>omega)))|omega|rfl|decide|assumption|(intro _;omega)|(simp;done)|(simp;omega)|(simp [QF,maxLen]<;>omega))
  | ((with_reducible first|refine Zw ?_|refine J29 ?_);refine hR _ ?_;clear hR R;try simp only [go_sem,QFD,Nat.reduceBEq])
  | (with_reducible first|refine J1 ?_|refine J2 ?_|refine J3 ?_|refine J4 ?_|refine J5 ?_|refine J6 ?_|refine J7 ?_|refine J8 (by decide) ?_|refine J9 ?_|refine Uf ?_|refine ZL ?_|refine ZS ?_|refine Y3 ?_|refine V7 ?_)
  | ((with_reducible refine Qy 4 ?_)
     have hc3:=hf3 _ (WX (i:=i) (by omega))
     (with_reducible refine rg QFD fun R hR=>?_);simp only [go_sem,QC])
  | ((with_reducible refine rg QFD fun R hR=>?_);simp only [go_sem,QC])
  | ((with_reducible refine qq ok Qc (by kernel_rfl) (by kernel_rfl) QFD ?_);intro R hR;simp only [go_sem,QC])
  | ((with_reducible refine QR 18 rfl (fun hb18=>?_) fun hb18=>?_);all_goals (try simp [-List.getD_eq_getElem?_getD] at hb18;try (exfalso;omega)))
  | ((with_reducible refine QR 25 rfl (fun hb25=>?_) fun hb25=>?_);all_goals (try simp [-List.getD_eq_getElem?_getD] at hb25;try (exfalso;omega)))
  | ((with_reducible refine QR 38 rfl (fun hb38=>?tt38) (fun hb38=>?ff38))
     case' tt38 =>
      try simp [-List.getD_eq_getElem?_getD] at hb38
      try (exfalso;omega)
     case' ff38 =>
      simp [-List.getD_eq_getElem?_getD] at hb38
      have hx:=Yf hb38 (by decide))
  | ((with_reducible refine QR 46 rfl (fun hb46=>?_) fun hb46=>?_);all_goals (try simp [-List.getD_eq_getElem?_getD] at hb46;try (exfalso;omega)))
  | ((with_reducible refine QR 52 rfl (fun hb52=>?_) fun hb52=>?_);all_goals (try simp [-List.getD_eq_getElem?_getD] at hb52;try (exfalso;omega)))
  | ((with_reducible refine QR 67 rfl (fun hb67=>?_) fun hb67=>?_);all_goals (try simp [-List.getD_eq_getElem?_getD] at hb67;try (exfalso;omega)))
  | ((with_reducible refine QR 73 rfl (fun hb73=>?_) fun hb73=>?_);all_goals (try simp [-List.getD_eq_getElem?_getD] at hb73;try (exfalso;omega)))
  | ((with_reducible refine QR 78 rfl (fun hb78=>?_) fun hb78=>?_);all_goals (try simp [-List.getD_eq_getElem?_getD] at hb78;try (exfalso;omega)))
  | ((with_reducible refine QR 84 rfl (fun hb84=>?_) fun hb84=>?_);all_goals (try simp [-List.getD_eq_getElem?_getD] at hb84;try (exfalso;omega)))
  | ((with_reducible refine W1 ?_)
     refine Yx (ZZ (by first|rfl|(simp;done)|fail)) (Wo (fun n τ=>∃ (i:Nat),n=f.sels.length-i∧(i≤f.sels.length∧Zn p f i=0)∧τ={ tm:=[(0,true,.fptr 196 (ckV p f)),(15,true,.fs 173 (f.sels.map Sel.v) false),(16,true,.int .i64 f.sels.length),(17,true,.int .i64 i)],ob:=[],out:=[],nt:=87 }) (f.sels.length) ⟨0,rfl,⟨by omega,rfl⟩,rfl⟩ ?_)
     rintro n τ ⟨i,hn,⟨hi,hz⟩,rfl⟩)
  | ((with_reducible refine W1 ?_)
     refine Yx (ZZ (by first|rfl|(simp;done)|fail)) (Wo (fun n τ=>∃ (j:Nat),n=(f.sels.getD i default).cases.length-j∧(j≤(f.sels.getD i default).cases.length∧XG p f (f.sels.getD i default) j=0)∧τ={ tm:=[(0,true,.fptr 196 (ckV p f)),(4,true,.ptr 0 [] 173),(15,true,.fs 173 (f.sels.map Sel.v) false),(16,true,.int .i64 f.sels.length),(17,true,.int .i64 i),(22,true,.fs 176 ((f.sels.getD i default).cases.map Cas.v) false),(23,true,.int .i64 (f.sels.getD i default).cases.length),(24,true,.int .i64 j)],ob:=[.var 173 (.data 173 (f.sels.getD i default).v)],out:=[],nt:=87 }) ((f.sels.getD i default).cases.length) ⟨0,rfl,⟨by omega,rfl⟩,rfl⟩ ?_)
     rintro n τ ⟨j,hn,⟨hj,hc⟩,rfl⟩)
  | ((with_reducible refine zF ?_)
     first
      | (have hlt:i<f.sels.length:=by omega
         refine WE (f.sels.length-(i+1)) _ (by omega) ((Vk 0 rfl).trans (ZZ (by simp only [QN hlt hf2,List.take_zero]))) ⟨i+1,rfl,⟨hlt,?_⟩,rfl⟩
         have hjc:j=(f.sels.getD i default).cases.length:=by omega
         subst hjc
         rw [zu p f hlt,if_neg (fun q=>q hz)]
         simp only [VE,hc]
         rw [if_neg (fun q=>q rfl),if_neg (by
          rintro ⟨q1,q2⟩
          first
           | exact q1 hb78
           | (have:=Yf hb84 (by decide);rw [within_false] at q2;omega))])
      | (have hlt:j<(f.sels.getD i default).cases.length:=by omega
         refine WE ((f.sels.getD i default).cases.length-(j+1)) _ (by omega) ((Vk 1 rfl).trans (ZZ (by simp only [QN hlt hc3,List.take_succ_cons,List.take_zero]))) ⟨j+1,rfl,⟨hlt,?_⟩,rfl⟩
         rw [zB p f _ hlt,if_neg (fun q=>q hc)]
         exact QQF hb38 (by first|exact .inr hb52|exact .inl hb46) hb67 hb73))
  | ((with_reducible first|refine YQ ?_|refine Zv ?_)
     simp only [go_sem,QS,QW,QM,seval]
     first
      | (exact ⟨rfl,congrArg (fun e=>some (V.int e)) (Yd (by omega) hz (by omega) hc (QNf hb38 (by first|exact .inr hb52|exact .inl hb46) hb67 hb73) (by first|decide|assumption)).symm⟩)
      | (exact ⟨rfl,congrArg (fun e=>some (V.int e)) (Yd (by omega) hz (by omega) hc (QNg hb38 (by first|exact .inr hb52|exact .inl hb46) hb67) (by first|decide|assumption)).symm⟩)
      | (exact ⟨rfl,congrArg (fun e=>some (V.int e)) (Yd (by omega) hz (by omega) hc (QNi hb38 hb46 hb52) (by first|decide|assumption)).symm⟩)
      | (exact ⟨rfl,congrArg (fun e=>some (V.int e)) (Yd (by omega) hz (by omega) hc (QNh hb38) (by first|decide|assumption)).symm⟩)
      | (have hjc:j=(f.sels.getD i default).cases.length:=by omega
         subst hjc
         refine ⟨rfl,congrArg (fun e=>some (V.int e)) (wQ (by omega) hz ?_ hb84).symm⟩
         simp only [VE,hc]
         rw [if_neg (fun q=>q rfl),if_pos ⟨hb78,U5 hb84⟩]
         exact (qb hb84).symm)
      | (have e:i=f.sels.length:=by omega
         subst e
         exact ⟨rfl,congrArg (fun e=>some (V.int e)) hz.symm⟩))
def QLW:List (List Nat):=[[1],[1,36],[2],[38,39,40],[38,39,40,41],[4,38,39,40],[38,39,40,49],[2],[38,39,40],[2]]
theorem QFh (p:Prg) (hp:p.Fit):Ctr Go.Proofs.Tryz.prog tab 109 [26] [30] [p.v] [.int (Vl p)]:=by
 obtain ⟨hp1,hp2,hp3,hp4⟩:=hp
 refine Ctr.body ok Go.Proofs.Tryz.func109 rfl rfl 51 rfl [.tmp 2] rfl (by simp [QL]) ?_
 simp only [go_sem,Nat.reduceAdd]
 repeat' first
  | ((with_reducible refine Zx fun R1 hR1=>?_);(simp only [go_sem,seval,-List.reduceReplicate]);(repeat' with_reducible refine And.intro ?_ ?_);all_goals first|(refine hR1 _ ?_;clear hR1 R1)|omega|rfl|decide|assumption|(intro _;omega)|(simp;done)|(simp;omega)|(simp [QF,maxLen]<;>omega))
  | ((with_reducible refine Zw ?_);refine hR _ ?_;clear hR R;try simp only [go_sem,QLW,Nat.reduceBEq])
  | (with_reducible first|refine J1 ?_|refine J2 ?_|refine J3 ?_|refine J4 ?_|refine J5 ?_|refine J6 ?_|refine J7 ?_|refine J8 (by decide) ?_|refine J9 ?_|refine Uf ?_|refine ZL ?_|refine ZS ?_|refine Y3 ?_|refine V7 ?_)
  | ((with_reducible refine rg QLW fun R hR=>?_);simp only [go_sem,QC])
  | ((with_reducible refine QR 36 rfl (fun hb36=>?_) fun hb36=>?_);all_goals (try simp [-List.getD_eq_getElem?_getD] at hb36;try (exfalso;omega)))
  | ((with_reducible refine QR 41 rfl (fun hb41=>?_) fun hb41=>?_);all_goals (try simp [-List.getD_eq_getElem?_getD] at hb41;try (exfalso;omega)))
  | ((with_reducible refine QR 49 rfl (fun hb49=>?_) fun hb49=>?_);all_goals (try simp [-List.getD_eq_getElem?_getD] at hb49;try (exfalso;omega)))
  | ((with_reducible refine W1 ?_)
     refine Yx (ZZ (by first|rfl|(simp;done)|fail)) (Wo (fun n τ=>∃ (i:Nat),n=p.chans.length-i∧(i≤p.chans.length∧Yc p∧Zo p i=true)∧τ={ tm:=[(38,true,.fs 3 (p.chans.map V.int) false),(39,true,.int .i64 p.chans.length),(40,true,.int .i64 i)],ob:=[.var 26 (.data 26 p.v)],out:=[],nt:=51 }) (p.chans.length) ⟨0,rfl,⟨by omega,by unfold Yc;omega,rfl⟩,rfl⟩ ?_)
     rintro n τ ⟨i,hn,⟨hi,hs,hc⟩,rfl⟩)
  | ((with_reducible refine zF ?_)
     first
      | (have hlt:i<p.chans.length:=by omega
         refine WE (p.chans.length-(i+1)) _ (by omega) (ZZ (by simp only [QN hlt hp2])) ⟨i+1,rfl,⟨hlt,hs,?_⟩,rfl⟩
         unfold Zo at hc ⊢
         rw [yf _ _ hlt,hc]
         simp only [Bool.true_and,Bool.and_eq_true,decide_eq_true_eq]
         exact hb49))
  | ((with_reducible first|refine YQ ?_|refine Zv ?_)
     simp only [go_sem,QS,QW,QM,seval]
     first
      | (have q:_∨_:=hb49
         exact ⟨rfl,congrArg (fun e=>some (V.int e)) (Eq.symm ((if_neg hs).trans (if_pos (QBB (i:=i) (by omega) hb49))))⟩)
      | (exact ⟨rfl,congrArg (fun e=>some (V.int e)) (Eq.symm ((if_neg hs).trans (if_neg (by rw [show p.chans.length=i by omega,hc];simp))))⟩)
      | (exact ⟨rfl,congrArg (fun e=>some (V.int e)) (Eq.symm (if_pos (by omega)))⟩))
end Go.Eng.Tryz
namespace Go.Eng.Tryz
open Go.RowKit Go.Eng
set_option maxHeartbeats 0
set_option maxRecDepth 20000
def sz0 (m:Int) (f:Fnc):Bool:=decide (0≤f.regs)&&decide (f.regs≤8)&&decide (0≤f.params)&&decide (f.params≤f.regs)&&!(decide (m=0)&&decide (0<f.params))&&decide (1≤(f.code.length:Int))&&decide ((f.code.length:Int)≤64)&&decide ((f.sels.length:Int)≤4)
theorem Vy {m:Int} {f:Fnc} (h:Xz m f=0):YY m f=true:=by
 unfold Xz at h
 split at h
 · assumption
 · cases h
theorem ww {m:Int} {f:Fnc} (h:¬Xz m f=0):YY m f=false:=by
 unfold Xz at h
 split at h
 · exact absurd rfl h
 · rename_i q;simpa using q
theorem QBa {m:Int} {f:Fnc} (h:¬Xz m f=0):Xz m f=32:=by
 unfold Xz at *
 rw [ww h];rfl
theorem sz0_iff {m:Int} {f:Fnc}:sz0 m f=true↔¬(f.regs<0∨8<f.regs∨f.params<0∨f.regs<f.params∨(m=0∧f.params≠0))∧¬(f.code.length<1∨64<f.code.length∨4<f.sels.length):=by
 unfold sz0
 simp only [Bool.and_eq_true,Bool.not_eq_true',Bool.and_eq_false_iff,decide_eq_true_eq,decide_eq_false_iff_not]
 omega
end Go.Eng.Tryz
