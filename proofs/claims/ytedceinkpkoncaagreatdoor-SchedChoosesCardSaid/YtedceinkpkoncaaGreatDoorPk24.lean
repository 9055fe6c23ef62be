/- A part of the proof: walks through the program's functions, and what they compute. -/
import Derived.Test.YtedceinkpkoncaaGreatDoorPk4
set_option linter.unusedSimpArgs false
set_option linter.unusedVariables false
namespace Go.Eng.Tryz
open Go.RowKit Go.Eng
set_option maxHeartbeats 0
set_option maxRecDepth 20000
def QMS:List (List Nat):=[[0,1],[4]]
theorem Uj (x n:Int):Ctr Go.Proofs.Tryz.prog tab 147 [2,3] [4] [.int x,.int n] [.bool (Qh x n)]:=by
 refine Ctr.body ok Go.Proofs.Tryz.func147 rfl rfl 12 rfl [.tmp 4] rfl (by simp [QE]) ?_
 simp only [go_sem,Nat.reduceAdd]
 repeat' first
  | ((with_reducible refine Q2 fun R1 hR1=>?_);(simp only [go_sem,seval,-List.reduceReplicate]);(repeat' with_reducible refine And.intro ?_ ?_);all_goals first|(refine hR1 _ ?_;clear hR1 R1)|omega|rfl|decide|assumption|(intro _;omega)|(simp;done)|(simp;omega))
  | ((with_reducible refine Q1 ?_);refine hR _ ?_;clear hR R;try simp only [go_sem,QMS,Nat.reduceBEq])
  | (with_reducible first|refine J1 ?_|refine J2 ?_|refine Q0 ?_|refine Qz ?_)
  | ((with_reducible refine rg QMS fun R hR=>?_);simp only [go_sem,QC])
  | ((with_reducible first|refine ZH ?_|refine ZG ?_)
     simp only [go_sem,QJ,QK,QG,seval]
     refine ⟨rfl,?_⟩
     simp only [Qh]
     cases decide (0≤x)<;>rfl)
def QMb:List (List Nat):=[[0],[2]]
theorem Xg (x:Int):Ctr Go.Proofs.Tryz.prog tab 127 [43] [4] [.int x] [.bool (Ql x)]:=by
 refine Ctr.body ok Go.Proofs.Tryz.func127 rfl rfl 17 rfl [.tmp 2] rfl (by simp [QE]) ?_
 simp only [go_sem,Nat.reduceAdd]
 repeat' first
  | ((with_reducible refine Q2 fun R1 hR1=>?_);(simp only [go_sem,seval,-List.reduceReplicate]);(repeat' with_reducible refine And.intro ?_ ?_);all_goals first|(refine hR1 _ ?_;clear hR1 R1)|omega|rfl|decide|assumption|(intro _;omega)|(simp;done)|(simp;omega))
  | ((with_reducible refine Q1 ?_);refine hR _ ?_;clear hR R;try simp only [go_sem,QMb,Nat.reduceBEq])
  | (with_reducible first|refine J1 ?_|refine J2 ?_|refine Q0 ?_|refine Qz ?_)
  | ((with_reducible refine rg QMb fun R hR=>?_);simp only [go_sem,QC])
  | ((with_reducible first|refine ZH ?_|refine ZG ?_)
     simp only [go_sem,QJ,QK,QG,seval]
     refine ⟨rfl,?_⟩
     simp only [Ql]
     cases decide (1≤x)<;>cases decide (x≤36)<;>cases decide (40≤x)<;>rfl)
def QMR:List (List Nat):=[[0],[2]]
theorem Vz (x:Int):Ctr Go.Proofs.Tryz.prog tab 148 [43] [4] [.int x] [.bool (ZA x)]:=by
 refine Ctr.body ok Go.Proofs.Tryz.func148 rfl rfl 9 rfl [.tmp 2] rfl (by simp [QE]) ?_
 simp only [go_sem,Nat.reduceAdd]
 repeat' first
  | ((with_reducible refine Q2 fun R1 hR1=>?_);(simp only [go_sem,seval,-List.reduceReplicate]);(repeat' with_reducible refine And.intro ?_ ?_);all_goals first|(refine hR1 _ ?_;clear hR1 R1)|omega|rfl|decide|assumption|(intro _;omega)|(simp;done)|(simp;omega))
  | ((with_reducible refine Q1 ?_);refine hR _ ?_;clear hR R;try simp only [go_sem,QMR,Nat.reduceBEq])
  | (with_reducible first|refine J1 ?_|refine J2 ?_|refine Q0 ?_|refine Qz ?_)
  | ((with_reducible refine rg QMR fun R hR=>?_);simp only [go_sem,QC])
  | ((with_reducible first|refine ZH ?_|refine ZG ?_)
     simp only [go_sem,QJ,QK,QG,seval]
     refine ⟨rfl,?_⟩
     simp only [ZA]
     cases decide (50≤x)<;>rfl)
def QMQ:List (List Nat):=[[0],[0,8],[2],[0,14],[2],[15],[15,16],[2],[15,18],[2],[15,20],[2],[15,22],[2],[15,24],[2],[15,26],[2],[15,28],[2],[15,30],[2],[15,32],[2],[15,34],[2],[15,36],[2],[15,38],[15,38],[2],[15,41],[2],[15,43],[2],[15,45],[2],[15,47],[2],[15,49],[2],[15,51],[2],[15,53],[2],[15,55],[2],[57],[2],[2]]
theorem yx (op:Int):Ctr Go.Proofs.Tryz.prog tab 149 [43] [9] [.int op] [.str (VC op)]:=by
 refine Ctr.body ok Go.Proofs.Tryz.func149 rfl rfl 59 rfl [.tmp 2] rfl (by simp [QE]) ?_
 simp only [go_sem,Nat.reduceAdd]
 repeat' first
  | ((with_reducible refine Q2 fun R1 hR1=>?_);(simp only [go_sem,seval,-List.reduceReplicate]);(repeat' with_reducible refine And.intro ?_ ?_);all_goals first|(refine hR1 _ ?_;clear hR1 R1)|omega|rfl|decide|assumption|(intro _;omega)|(simp;done)|(simp;omega))
  | ((with_reducible refine Q1 ?_);refine hR _ ?_;clear hR R;try simp only [go_sem,QMQ,Nat.reduceBEq])
  | (with_reducible first|refine J1 ?_|refine J2 ?_|refine J3 ?_|refine J4 ?_|refine J5 ?_|refine J6 ?_|refine J7 ?_|refine J8 (by decide) ?_|refine J9 ?_|refine Q0 ?_|refine Qz ?_|refine YZ ?_)
  | ((with_reducible refine rg QMQ fun R hR=>?_);simp only [go_sem,QC])
  | ((with_reducible refine QH 8 rfl (fun hb8=>?_) fun hb8=>?_);all_goals (try simp at hb8;try (exfalso;omega)))
  | ((with_reducible refine QH 14 rfl (fun hb14=>?_) fun hb14=>?_);all_goals (try simp at hb14;try (exfalso;omega)))
  | ((with_reducible refine QH 16 rfl (fun hb16=>?_) fun hb16=>?_);all_goals (try simp at hb16;try (exfalso;omega)))
  | ((with_reducible refine QH 18 rfl (fun hb18=>?_) fun hb18=>?_);all_goals (try simp at hb18;try (exfalso;omega)))
  | ((with_reducible refine QH 20 rfl (fun hb20=>?_) fun hb20=>?_);all_goals (try simp at hb20;try (exfalso;omega)))
  | ((with_reducible refine SA.cond rfl ?_ ?_)
     all_goals
      intro hb
      try simp at hb
      try (exfalso;omega))
  | ((with_reducible first|refine ZH ?_|refine ZG ?_)
     simp only [go_sem,QJ,QK,QG,seval]
     refine ⟨rfl,?_⟩
     first|(subst_vars;rfl)|(unfold VC Q8;(repeat (rw [if_neg (by omega)]));(try rw [if_pos (by omega)]);rfl))
def QMP:List (List Nat):=[[2,3,5,6,9],[3,5,6,9,12],[3,5,6,9,12,13],[3,5,6,9,12,13],[20],[10],[3,5,6,9,12,21],[31],[10],[3,5,6,9,12,32],[3,6,11],[62],[10],[3,5,6,12,63],[70],[10],[3,5,6,12,71],[3,5,78],[10],[85],[10],[3,5,6,12,86],[92],[10],[3,5,6,12,93],[100],[10],[3,5,6,12,101],[108],[10],[3,5,6,12,109],[116],[10],[3,6,117],[124],[10],[10]]
theorem V3 (p:Prg) (f:Fnc) (letter x:Int) (i:Instr) (hp:p.Fit) (hf:f.Fit) (h112:letter=112→0≤i.b∧i.b<p.funcs.length):Ctr Go.Proofs.Tryz.prog tab 150 [26,121,5,2,129] [3] [p.v,f.v,.int letter,.int x,i.v] [.int (Qa p f letter x i)]:=by
 obtain ⟨hp1,hp2,hp3,hp4⟩:=hp
 obtain ⟨hf1,hf2,hf3⟩:=hf
 refine Ctr.body ok Go.Proofs.Tryz.func150 rfl rfl 125 rfl [.tmp 10] rfl (by simp [QE]) ?_
 simp only [go_sem,Nat.reduceAdd]
 repeat' first
  | ((with_reducible refine SARA.told 19 4 ?_)
     rw [yw (by omega)])
  | ((with_reducible refine SARA.told 10 5 ?_)
     rw [XB (by omega)])
  | ((with_reducible refine Q2 fun R1 hR1=>?_);(simp only [go_sem,seval,-List.reduceReplicate]);(repeat' with_reducible refine And.intro ?_ ?_);all_goals first|(refine hR1 _ ?_;clear hR1 R1)|((first|refine cq (cc (Uj _ _)) ?_|refine ⟨_,_,rfl,.inl ⟨_,fun hg=>CallQ.ctr ok (Uj _ _) (by first|rfl|(simp [go_sem];done)|fail) rfl,?_⟩⟩);all_goals ((try simp only [go_sem,seval,-List.reduceReplicate]);(repeat' with_reducible refine And.intro ?_ ?_);all_goals first|(refine hR1 _ ?_;clear hR1 R1)|omega|rfl|decide|assumption|(intro _;omega)|(simp;done)|(simp;omega)|(simp [QQ,maxLen]<;>omega)))|omega|rfl|decide|assumption|(intro _;omega)|(simp;done)|(simp;omega)|(simp [QQ,maxLen]<;>omega))
  | ((with_reducible refine Q1 ?_);refine hR _ ?_;clear hR R;try simp only [go_sem,QMP,Nat.reduceBEq])
  | (with_reducible first|refine J1 ?_|refine J2 ?_|refine J3 ?_|refine J4 ?_|refine J5 ?_|refine J6 ?_|refine J7 ?_|refine J8 (by decide) ?_|refine J9 ?_|refine Q0 ?_|refine Qz ?_|refine YZ ?_)
  | ((with_reducible refine rg QMP fun R hR=>?_);simp only [go_sem,QC])
  | ((with_reducible refine QH 13 rfl (fun hb13=>?_) fun hb13=>?_);all_goals (try simp [Qh] at hb13;try (exfalso;omega)))
  | ((with_reducible refine QH 20 rfl (fun hb20=>?_) fun hb20=>?_);all_goals (try simp [Qh] at hb20;try (exfalso;omega)))
  | ((with_reducible refine QH 21 rfl (fun hb21=>?_) fun hb21=>?_);all_goals (try simp [Qh] at hb21;try (exfalso;omega)))
  | ((with_reducible refine QH 31 rfl (fun hb31=>?_) fun hb31=>?_);all_goals (try simp [Qh] at hb31;try (exfalso;omega)))
  | ((with_reducible refine QH 32 rfl (fun hb32=>?_) fun hb32=>?_);all_goals (try simp [Qh] at hb32;try (exfalso;omega)))
  | ((with_reducible refine QH 62 rfl (fun hb62=>?_) fun hb62=>?_);all_goals (try simp [Qh] at hb62;try (exfalso;omega)))
  | ((with_reducible refine QH 63 rfl (fun hb63=>?_) fun hb63=>?_);all_goals (try simp [Qh] at hb63;try (exfalso;omega)))
  | ((with_reducible refine QH 70 rfl (fun hb70=>?_) fun hb70=>?_);all_goals (try simp [Qh] at hb70;try (exfalso;omega)))
  | ((with_reducible refine QH 71 rfl (fun hb71=>?_) fun hb71=>?_);all_goals (try simp [Qh] at hb71;try (exfalso;omega)))
  | ((with_reducible refine QH 78 rfl (fun hb78=>?_) fun hb78=>?_);all_goals (try simp [Qh] at hb78;try (exfalso;omega)))
  | ((with_reducible refine QH 85 rfl (fun hb85=>?_) fun hb85=>?_);all_goals (try simp [Qh] at hb85;try (exfalso;omega)))
  | ((with_reducible refine QH 86 rfl (fun hb86=>?_) fun hb86=>?_);all_goals (try simp [Qh] at hb86;try (exfalso;omega)))
  | ((with_reducible refine QH 92 rfl (fun hb92=>?_) fun hb92=>?_);all_goals (try simp [Qh] at hb92;try (exfalso;omega)))
  | ((with_reducible refine QH 93 rfl (fun hb93=>?_) fun hb93=>?_);all_goals (try simp [Qh] at hb93;try (exfalso;omega)))
  | ((with_reducible refine QH 100 rfl (fun hb100=>?_) fun hb100=>?_);all_goals (try simp [Qh] at hb100;try (exfalso;omega)))
  | ((with_reducible refine QH 101 rfl (fun hb101=>?_) fun hb101=>?_);all_goals (try simp [Qh] at hb101;try (exfalso;omega)))
  | ((with_reducible refine QH 108 rfl (fun hb108=>?_) fun hb108=>?_);all_goals (try simp [Qh] at hb108;try (exfalso;omega)))
  | ((with_reducible refine QH 109 rfl (fun hb109=>?_) fun hb109=>?_);all_goals (try simp [Qh] at hb109;try (exfalso;omega)))
  | ((with_reducible refine QH 116 rfl (fun hb116=>?_) fun hb116=>?_);all_goals (try simp [Qh] at hb116;try (exfalso;omega)))
  | ((with_reducible refine QH 117 rfl (fun hb117=>?_) fun hb117=>?_);all_goals (try simp [Qh] at hb117;try (exfalso;omega)))
  | ((with_reducible refine QH 124 rfl (fun hb124=>?_) fun hb124=>?_);all_goals (try simp [Qh] at hb124;try (exfalso;omega)))
  | ((with_reducible first|refine ZH ?_|refine ZG ?_)
     simp only [go_sem,QJ,QK,QG,seval]
     refine ⟨rfl,?_⟩
     first|(subst_vars;simp [Qa,Qh,Prg.fn,w64, *];done)|(simp only [Qa,Qh,Prg.fn,w64];simp [*];done)|(simp only [Qa,Qh,Prg.fn,w64];simp [*];omega)|(simp_all [Qa,Qh];done))
end Go.Eng.Tryz
namespace Go.Eng.Tryz
open Go.RowKit Go.Eng
set_option maxHeartbeats 0
set_option maxRecDepth 20000
def QJB:List (List Nat):=[[3,4,5],[3,4,5,21],[6],[3,4,5,7],[3,4,5,7,8],[3,4,5,7,8,9],[3,4,5,7,8,9,35],[3,4,5,7,8,9],[3,4,5,7,8,9,47],[6],[3,4,5,7,8,10],[3,4,5,7,8,10,49],[3,4,5,7,8,10],[3,4,5,7,8,10,11],[3,4,5,7,8,10,11,63],[6],[6]]
theorem QHN (p:Prg) (f:Fnc) (i:Instr) (hp:p.Fit) (hf:f.Fit):Ctr Go.Proofs.Tryz.prog tab 125 [26,121,129] [3] [p.v,f.v,i.v] [.int (QV p f i)]:=by
 refine Ctr.body ok Go.Proofs.Tryz.func125 rfl rfl 65 rfl [.tmp 6] rfl (by simp [QE]) ?_
 simp only [go_sem,Nat.reduceAdd]
 repeat' first
  | ((with_reducible first|refine Q2 fun R1 hR1=>?_|refine xP fun R1 hR1=>?_);(simp only [go_sem,seval,-List.reduceReplicate,yy,U8]);(repeat' with_reducible refine And.intro ?_ ?_);all_goals first|(refine hR1 _ ?_;clear hR1 R1)|((first|refine ⟨_,_,rfl,_,CallQ.ctr ok (Xg _) (by first|rfl|(simp [go_sem];done)|fail) rfl,?_⟩|refine ⟨_,_,rfl,_,fun hg=>CallQ.ctr ok (Xg _) (by first|rfl|(simp [go_sem];done)|fail) rfl,?_⟩|refine cq (cc (Xg _)) ?_|refine ⟨_,_,rfl,.inl ⟨_,fun hg=>CallQ.ctr ok (Xg _) (by first|rfl|(simp [go_sem];done)|fail) rfl,?_⟩⟩|refine ⟨_,_,rfl,_,CallQ.ctr ok (Vz _) (by first|rfl|(simp [go_sem];done)|fail) rfl,?_⟩|refine ⟨_,_,rfl,_,fun hg=>CallQ.ctr ok (Vz _) (by first|rfl|(simp [go_sem];done)|fail) rfl,?_⟩|refine cq (cc (Vz _)) ?_|refine ⟨_,_,rfl,.inl ⟨_,fun hg=>CallQ.ctr ok (Vz _) (by first|rfl|(simp [go_sem];done)|fail) rfl,?_⟩⟩|refine ⟨_,_,rfl,_,CallQ.ctr ok (yx _) (by first|rfl|(simp [go_sem];done)|fail) rfl,?_⟩|refine ⟨_,_,rfl,_,fun hg=>CallQ.ctr ok (yx _) (by first|rfl|(simp [go_sem];done)|fail) rfl,?_⟩|refine cq (cc (yx _)) ?_|refine ⟨_,_,rfl,.inl ⟨_,fun hg=>CallQ.ctr ok (yx _) (by first|rfl|(simp [go_sem];done)|fail) rfl,?_⟩⟩|refine ⟨_,_,rfl,_,CallQ.ctr ok (V3 p f _ _ i hp hf (fun h=>UV hz h)) (by first|rfl|(simp [go_sem];done)|fail) rfl,?_⟩|refine ⟨_,_,rfl,_,fun hg=>CallQ.ctr ok (V3 p f _ _ i hp hf (fun h=>UV hz h)) (by first|rfl|(simp [go_sem];done)|fail) rfl,?_⟩|refine cq (cc (V3 p f _ _ i hp hf (fun h=>UV hz h))) ?_|refine ⟨_,_,rfl,.inl ⟨_,fun hg=>CallQ.ctr ok (V3 p f _ _ i hp hf (fun h=>UV hz h)) (by first|rfl|(simp [go_sem];done)|fail) rfl,?_⟩⟩);all_goals ((try simp only [go_sem,seval,-List.reduceReplicate,yy,U8]);(repeat' with_reducible refine And.intro ?_ ?_);all_goals first|(refine hR1 _ ?_;clear hR1 R1)|omega|rfl|decide|assumption|(intro _;omega)|(simp;done)|(simp;omega)|(simp [QQ,maxLen]<;>omega)))|omega|rfl|decide|assumption|(intro _;omega)|(simp;done)|(simp;omega)|(simp [QQ,maxLen]<;>omega))
  | ((with_reducible first|refine Q1 ?_|refine xO ?_);refine hR _ ?_;clear hR R;try simp only [go_sem,QJB,Nat.reduceBEq])
  | (with_reducible first|refine J1 ?_|refine J2 ?_|refine J3 ?_|refine J4 ?_|refine J5 ?_|refine J6 ?_|refine J7 ?_|refine J8 (by decide) ?_|refine J9 ?_|refine WL ?_|refine Q0 ?_|refine Qz ?_|refine YZ ?_|refine WK ?_)
  | ((with_reducible refine rg QJB fun R hR=>?_);simp only [go_sem,QC])
  | ((with_reducible refine Vv ok QN (by kernel_rfl) (by kernel_rfl) QJB ?_);intro R hR;simp only [go_sem,QC])
  | ((with_reducible refine QH 21 rfl (fun hb21=>?_) fun hb21=>?_);all_goals (try simp at hb21;try (exfalso;omega)))
  | ((with_reducible refine QH 35 rfl (fun hb35=>?_) fun hb35=>?_);all_goals (try simp at hb35;try (exfalso;omega)))
  | ((with_reducible refine QH 47 rfl (fun hb47=>?_) fun hb47=>?_);all_goals (try simp at hb47;try (exfalso;omega)))
  | ((with_reducible refine QH 49 rfl (fun hb49=>?_) fun hb49=>?_);all_goals (try simp at hb49;try (exfalso;omega)))
  | ((with_reducible refine QH 63 rfl (fun hb63=>?_) fun hb63=>?_);all_goals (try simp at hb63;try (exfalso;omega)))
  | ((with_reducible refine YQ ?_)
     refine Zo (Qq (by first|rfl|(simp;done)|fail)) (YR (fun n τ=>∃ (j:Nat),n=4-j∧(j≤4∧(Ql i.op=true∨ZA i.op=true)∧XM i j=false)∧τ={ tm:=[(3,true,.ptr 0 [] 26),(4,true,.ptr 1 [] 121),(5,true,.ptr 2 [] 129),(7,true,.str (VC i.op)),(8,true,.ptr 3 [] 29),(9,true,.int .i64 j)],ob:=[.var 26 (.data 26 p.v),.var 121 (.data 121 f.v),.var 129 (.data 129 i.v),.var 29 (.data 29 (.agg [.int i.a,.int i.b,.int i.c,.int i.n]))],out:=[],nt:=65 }) (4) ⟨0,rfl,⟨by omega,by cases h1:Ql i.op<;>simp_all,rfl⟩,rfl⟩ ?_)
     rintro n τ ⟨j,hn,⟨hj,hv,hu⟩,rfl⟩
     have h4:=Vk hv)
  | ((with_reducible refine YQ ?_)
     refine Zo (Qq (by first|rfl|(simp;done)|fail)) (YR (fun n τ=>∃ (j:Nat),n=4-j∧(j≤4∧(Ql i.op=true∨ZA i.op=true)∧XM i 4=false∧W9 p f i j=0)∧τ={ tm:=[(3,true,.ptr 0 [] 26),(4,true,.ptr 1 [] 121),(5,true,.ptr 2 [] 129),(7,true,.str (VC i.op)),(8,true,.ptr 3 [] 29),(10,true,.int .i64 j)],ob:=[.var 26 (.data 26 p.v),.var 121 (.data 121 f.v),.var 129 (.data 129 i.v),.var 29 (.data 29 (.agg [.int i.a,.int i.b,.int i.c,.int i.n]))],out:=[],nt:=65 }) (4) ⟨0,rfl,⟨by omega,hv,(show j=4 by omega)▸hu,rfl⟩,rfl⟩ ?_)
     rintro n τ ⟨j,hn,⟨hj,hv,hu,hz⟩,rfl⟩
     have h4:=Vk hv)
  | ((with_reducible refine WM ?_)
     first
      | (have hlt:j<4:=by omega
         refine Zt (4-(j+1)) _ (by omega) (Qq (by simp only [QD hlt (by decide:4≤maxLen)])) ⟨j+1,rfl,⟨hlt,hv,?_⟩,rfl⟩
         have e:QO i j=45→i.field j=0:=by simpa only [QO,List.getD_eq_getElem?_getD] using hb47
         rw [Xo,hu]
         simpa using e)
      | (have hlt:j<4:=by omega
         refine Zt (4-(j+1)) _ (by omega) (Qq (by simp only [QD hlt (by decide:4≤maxLen)])) ⟨j+1,rfl,⟨hlt,hv,hu,?_⟩,rfl⟩
         rw [WC,hz,if_neg (by simp)]
         exact hb63))
  | ((with_reducible first|refine ZH ?_|refine ZG ?_)
     simp only [go_sem,QJ,QK,QG,seval]
     first
      | (refine ⟨rfl,?_⟩
         have e:QO i j=45∧¬i.field j=0:=by simpa only [QO,List.getD_eq_getElem?_getD] using hb47
         have h1:XM i (j+1)=true:=by rw [Xo,hu];simp [e]
         have h2:=Um h1 (4-(j+1))
         rw [show j+1+(4-(j+1))=4 by omega] at h2
         simp only [QV,h2,if_true]
         rw [if_neg (by intro h;rcases hv with hv|hv<;>simp [hv] at h)])
      | (refine ⟨rfl,?_⟩
         have h1:W9 p f i (j+1)=Qa p f (QO i j) (i.field j) i:=by rw [WC,hz,if_neg (by simp)]
         have h2:=yC (n:=j+1) (by rw [h1];exact hb63) (4-(j+1))
         rw [show j+1+(4-(j+1))=4 by omega,h1] at h2
         simp only [QV,h2,hu]
         rw [if_neg (by intro h;rcases hv with hv|hv<;>simp [hv] at h)]
         rfl)
      | (refine ⟨rfl,?_⟩
         have hj4:j=4:=by omega
         subst hj4
         simp only [QV,hz,hu]
         rw [if_neg (by intro h;rcases hv with hv|hv<;>simp [hv] at h)]
         rfl)
      | (refine ⟨rfl,?_⟩
         simp [QV,hb21]))
def QJD:List (List Nat):=[[0,3],[3,35],[4],[3,51],[4],[53,54,55],[53,54,55,56],[6,53,54,55],[53,54,55,68],[4],[53,54,55],[4]]
theorem QFI (m:Int) (f:Fnc) (hf:f.Fit):Ctr Go.Proofs.Tryz.prog tab 123 [3,121] [4] [.int m,f.v] [.bool (Yj m f)]:=by
 obtain ⟨hf1,hf2,hf3⟩:=hf
 refine Ctr.body ok Go.Proofs.Tryz.func123 rfl rfl 70 rfl [.tmp 4] rfl (by simp [QE]) ?_
 simp only [go_sem,Nat.reduceAdd]
 repeat' first
  | ((with_reducible refine SARA.told 7 1 ?_)
     rw [XA (by omega)])
  | ((with_reducible refine Q2 fun R1 hR1=>?_);(simp only [go_sem,seval,-List.reduceReplicate]);(repeat' with_reducible refine And.intro ?_ ?_);all_goals first|(refine hR1 _ ?_;clear hR1 R1)|omega|rfl|decide|assumption|(intro _;omega)|(simp;done)|(simp;omega)|(simp [QQ,maxLen]<;>omega))
  | ((with_reducible refine Q1 ?_);refine hR _ ?_;clear hR R;try simp only [go_sem,QJD,Nat.reduceBEq])
  | (with_reducible first|refine J1 ?_|refine J2 ?_|refine J3 ?_|refine J4 ?_|refine J5 ?_|refine J6 ?_|refine J7 ?_|refine J8 (by decide) ?_|refine J9 ?_|refine WL ?_|refine Q0 ?_|refine Qz ?_|refine YZ ?_|refine WK ?_)
  | ((with_reducible refine QZ 8 ?_)
     have hc3:=hf3 _ (Ws (i:=j) (by omega))
     (with_reducible refine rg QJD fun R hR=>?_);simp only [go_sem,QC])
  | ((with_reducible refine rg QJD fun R hR=>?_);simp only [go_sem,QC])
  | ((with_reducible refine QH 35 rfl (fun hb35=>?_) fun hb35=>?_);all_goals (try simp [-List.getD_eq_getElem?_getD] at hb35;try (exfalso;omega)))
  | ((with_reducible refine QH 51 rfl (fun hb51=>?_) fun hb51=>?_);all_goals (try simp [-List.getD_eq_getElem?_getD] at hb51;try (exfalso;omega)))
  | ((with_reducible refine QH 56 rfl (fun hb56=>?_) fun hb56=>?_);all_goals (try simp [-List.getD_eq_getElem?_getD] at hb56;try (exfalso;omega)))
  | ((with_reducible refine QH 68 rfl (fun hb68=>?_) fun hb68=>?_);all_goals (try simp [-List.getD_eq_getElem?_getD] at hb68;try (exfalso;omega)))
  | ((with_reducible refine YQ ?_)
     refine Zo (Qq (by first|rfl|(simp;done)|fail)) (YR (fun n τ=>∃ (j:Nat),n=f.sels.length-j∧(j≤f.sels.length∧YA f j=true)∧τ={ tm:=[(53,true,.fs 124 (f.sels.map Sel.v) false),(54,true,.int .i64 f.sels.length),(55,true,.int .i64 j)],ob:=[.var 121 (.data 121 f.v)],out:=[],nt:=70 }) (f.sels.length) ⟨0,rfl,⟨by omega,rfl⟩,rfl⟩ ?_)
     rintro n τ ⟨j,hn,⟨hj,hs⟩,rfl⟩)
  | ((with_reducible refine WM ?_)
     first
      | (have hlt:j<f.sels.length:=by omega
         refine Zt (f.sels.length-(j+1)) _ (by omega) ((WN 1 rfl).trans (Qq (by simp only [QD hlt hf2,List.take_succ_cons,List.take_zero]))) ⟨j+1,rfl,⟨hlt,?_⟩,rfl⟩
         unfold YA at hs ⊢
         rw [xM _ _ hlt,hs]
         simp only [Bool.true_and,Bool.and_eq_true,decide_eq_true_eq]
         omega))
  | ((with_reducible first|refine ZH ?_|refine ZG ?_)
     simp only [go_sem,QJ,QK,QG,seval]
     first
      | (refine ⟨rfl,?_⟩
         have e:=QEi (f:=fun s:Sel=>decide (1≤s.cases.length)&&decide (s.cases.length≤4)) (b:=f.sels) (i:=j) (by omega) (by simp only [Bool.and_eq_false_iff,decide_eq_false_iff_not];omega)
         unfold Yj YA
         rw [List.take_length,e,if_neg (by omega),if_neg (by omega)])
      | (refine ⟨rfl,?_⟩
         have e:j=f.sels.length:=by omega
         subst e
         unfold Yj
         rw [hs,if_neg (by omega),if_neg (by omega)])
      | (refine ⟨rfl,?_⟩
         unfold Yj
         rw [if_pos (by omega)])
      | (refine ⟨rfl,?_⟩
         unfold Yj
         rw [if_neg (by omega),if_pos (by omega)]))
def QJC:List (List Nat):=[[2,3],[2,3,10,11,12],[2,3,10,11,12,13],[2,3,6,10,11,12],[2,3,6,10,11,12,17,18,19],[2,3,6,10,11,12,17,18,19,20],[2,3,6,8,10,11,12,17,18,19],[2,3,6,8,10,11,12,17,18,19,29],[4],[2,3,6,8,10,11,12,17,18,19,44],[4],[2,3,6,8,10,11,12,17,18,19,55],[4],[2,3,6,10,11,12,17,18,19,62],[4],[2,3,6,10,11,12,17,18,19],[2,3,10,11,12,75],[4],[2,3,10,11,12],[4]]
theorem QDo (p:Prg) (f:Fnc) (hp:p.Fit) (hf:f.Fit):Ctr Go.Proofs.Tryz.prog tab 124 [26,121] [3] [p.v,f.v] [.int (Zq p f f.sels.length)]:=by
 obtain ⟨hp1,hp2,hp3,hp4⟩:=hp
 obtain ⟨hf1,hf2,hf3⟩:=hf
 refine Ctr.body ok Go.Proofs.Tryz.func124 rfl rfl 77 rfl [.tmp 4] rfl (by simp [QE]) ?_
 simp only [go_sem,Nat.reduceAdd]
 repeat' first
  | ((with_reducible refine SARA.told 3 1 ?_)
     rw [XA (by omega)])
  | ((with_reducible refine SARA.told 6 1 ?_)
     rw [Wj (by omega)])
  | ((with_reducible refine Q2 fun R1 hR1=>?_);(simp only [go_sem,seval,-List.reduceReplicate]);(repeat' with_reducible refine And.intro ?_ ?_);all_goals first|(refine hR1 _ ?_;clear hR1 R1)|((first|refine cq (cc (Uj _ _)) ?_|refine ⟨_,_,rfl,.inl ⟨_,fun hg=>CallQ.ctr ok (Uj _ _) (by first|rfl|(simp [go_sem];done)|fail) rfl,?_⟩⟩);all_goals ((try simp only [go_sem,seval,-List.reduceReplicate]);(repeat' with_reducible refine And.intro ?_ ?_);all_goals first|(refine hR1 _ ?_;clear hR1 R1)|omega|rfl|decide|assumption|(intro _;omega)|(simp;done)|(simp;omega)|(simp [QQ,maxLen]<;>omega)))|omega|rfl|decide|assumption|(intro _;omega)|(simp;done)|(simp;omega)|(simp [QQ,maxLen]<;>omega))
  | ((with_reducible refine Q1 ?_);refine hR _ ?_;clear hR R;try simp only [go_sem,QJC,Nat.reduceBEq])
  | (with_reducible first|refine J1 ?_|refine J2 ?_|refine J3 ?_|refine J4 ?_|refine J5 ?_|refine J6 ?_|refine J7 ?_|refine J8 (by decide) ?_|refine J9 ?_|refine WL ?_|refine Q0 ?_|refine Qz ?_|refine YZ ?_|refine WK ?_)
  | ((with_reducible refine QZ 4 ?_)
     have hc3:=hf3 _ (Ws (i:=i) (by omega))
     (with_reducible refine rg QJC fun R hR=>?_);simp only [go_sem,QC])
  | ((with_reducible refine rg QJC fun R hR=>?_);simp only [go_sem,QC])
  | ((with_reducible refine QH 13 rfl (fun hb13=>?_) fun hb13=>?_);all_goals (try simp [Qh,-List.getD_eq_getElem?_getD] at hb13;try (exfalso;omega)))
  | ((with_reducible refine QH 20 rfl (fun hb20=>?_) fun hb20=>?_);all_goals (try simp [Qh,-List.getD_eq_getElem?_getD] at hb20;try (exfalso;omega)))
  | ((with_reducible refine QH 29 rfl (fun hb29=>?_) fun hb29=>?_);all_goals (try simp [Qh,-List.getD_eq_getElem?_getD] at hb29;try (exfalso;omega)))
  | ((with_reducible refine QH 44 rfl (fun hb44=>?_) fun hb44=>?_);all_goals (try simp [Qh,-List.getD_eq_getElem?_getD] at hb44;try (exfalso;omega)))
  | ((with_reducible refine QH 55 rfl (fun hb55=>?_) fun hb55=>?_);all_goals (try simp [Qh,-List.getD_eq_getElem?_getD] at hb55;try (exfalso;omega)))
  | ((with_reducible refine QH 62 rfl (fun hb62=>?_) fun hb62=>?_);all_goals (try simp [Qh,-List.getD_eq_getElem?_getD] at hb62;try (exfalso;omega)))
  | ((with_reducible refine QH 75 rfl (fun hb75=>?_) fun hb75=>?_);all_goals (try simp [Qh,-List.getD_eq_getElem?_getD] at hb75;try (exfalso;omega)))
  | ((with_reducible refine YQ ?_)
     refine Zo (Qq (by first|rfl|(simp;done)|fail)) (YR (fun n τ=>∃ (i:Nat),n=f.sels.length-i∧(i≤f.sels.length∧Zq p f i=0)∧τ={ tm:=[(2,true,.ptr 0 [] 26),(3,true,.ptr 1 [] 121),(10,true,.fs 124 (f.sels.map Sel.v) false),(11,true,.int .i64 f.sels.length),(12,true,.int .i64 i)],ob:=[.var 26 (.data 26 p.v),.var 121 (.data 121 f.v)],out:=[],nt:=77 }) (f.sels.length) ⟨0,rfl,⟨by omega,rfl⟩,rfl⟩ ?_)
     rintro n τ ⟨i,hn,⟨hi,hz⟩,rfl⟩)
  | ((with_reducible refine YQ ?_)
     refine Zo (Qq (by first|rfl|(simp;done)|fail)) (YR (fun n τ=>∃ (j:Nat),n=(f.sels.getD i default).cases.length-j∧(j≤(f.sels.getD i default).cases.length∧XW p f (f.sels.getD i default) j=0)∧τ={ tm:=[(2,true,.ptr 0 [] 26),(3,true,.ptr 1 [] 121),(6,true,.ptr 2 [] 124),(10,true,.fs 124 (f.sels.map Sel.v) false),(11,true,.int .i64 f.sels.length),(12,true,.int .i64 i),(17,true,.fs 156 ((f.sels.getD i default).cases.map Cas.v) false),(18,true,.int .i64 (f.sels.getD i default).cases.length),(19,true,.int .i64 j)],ob:=[.var 26 (.data 26 p.v),.var 121 (.data 121 f.v),.var 124 (.data 124 (f.sels.getD i default).v)],out:=[],nt:=77 }) ((f.sels.getD i default).cases.length) ⟨0,rfl,⟨by omega,rfl⟩,rfl⟩ ?_)
     rintro n τ ⟨j,hn,⟨hj,hc⟩,rfl⟩)
  | ((with_reducible refine WM ?_)
     first
      | (have hlt:i<f.sels.length:=by omega
         refine Zt (f.sels.length-(i+1)) _ (by omega) ((WN 2 rfl).trans (Qq (by simp only [QD hlt hf2,List.take_succ_cons,List.take_zero]))) ⟨i+1,rfl,⟨hlt,?_⟩,rfl⟩
         have hjc:j=(f.sels.getD i default).cases.length:=by omega
         subst hjc
         rw [yc p f hlt,if_neg (fun q=>q hz)]
         simp only [Va,hc]
         rw [if_neg (fun q=>q rfl),if_neg (by rw [within_false];rintro ⟨q1,q2⟩;have:=hb75 q1;omega)])
      | (have hlt:j<(f.sels.getD i default).cases.length:=by omega
         refine Zt ((f.sels.getD i default).cases.length-(j+1)) _ (by omega) ((WN 3 rfl).trans (Qq (by simp only [QD hlt hc3,List.take_succ_cons,List.take_zero]))) ⟨j+1,rfl,⟨hlt,?_⟩,rfl⟩
         rw [zn p f _ hlt,if_neg (fun q=>q hc)]
         exact QB2 hb29 hb44 hb55 hb62))
  | ((with_reducible first|refine ZH ?_|refine ZG ?_)
     simp only [go_sem,QJ,QK,QG,seval]
     first
      | (exact ⟨rfl,congrArg (fun e=>some (V.int e)) (Yr (by omega) hz (by omega) hc (QAR hb29) (by decide)).symm⟩)
      | (exact ⟨rfl,congrArg (fun e=>some (V.int e)) (Yr (by omega) hz (by omega) hc (QAS hb29 hb44) (by decide)).symm⟩)
      | (exact ⟨rfl,congrArg (fun e=>some (V.int e)) (Yr (by omega) hz (by omega) hc (QAQ hb29 hb44 hb55) (by decide)).symm⟩)
      | (exact ⟨rfl,congrArg (fun e=>some (V.int e)) (Yr (by omega) hz (by omega) hc (QAP hb29 hb44 hb55 hb62) (by decide)).symm⟩)
      | (have hjc:j=(f.sels.getD i default).cases.length:=by omega
         subst hjc
         refine ⟨rfl,congrArg (fun e=>some (V.int e)) (vQ (by omega) hz ?_ (by decide)).symm⟩
         simp only [Va,hc]
         rw [if_neg (fun q=>q rfl),if_pos ⟨hb75.1,within_false.2 hb75.2⟩])
      | (have e:i=f.sels.length:=by omega
         subst e
         exact ⟨rfl,congrArg (fun e=>some (V.int e)) hz.symm⟩))
end Go.Eng.Tryz
namespace Go.Eng.Tryz
open Go.RowKit Go.Eng
set_option maxHeartbeats 0
set_option maxRecDepth 20000
def QHD:List (List Nat):=[[1,3],[1,3,43],[2,3],[1,3,46,47,48],[1,3,46,47,48,49],[1,3,5,46,47,48],[1,3,46,47,48,57],[2,3],[1,3,46,47,48],[1,3,61,62,63],[1,3,61,62,63,64],[1,3,6,7,61,62,63],[1,3,6,7,61,62,63,71],[2,3],[1,3,6,7,8,61,62,63],[1,3,6,7,8,61,62,63,78],[2,3],[1,3,6,7,61,62,63,83,84,85],[1,3,6,7,61,62,63,83,84,85,86],[1,3,6,7,9,10,61,62,63,83,84,85],[1,3,6,7,8,9,61,62,63,83,84,85],[1,3,6,7,8,9,61,62,63,83,84,85,95],[2,3],[1,3,6,7,61,62,63,83,84,85],[1,3,6,7,11,61,62,63],[1,3,6,7,61,62,63,119],[2,3],[1,3,61,62,63],[2,3]]
end Go.Eng.Tryz
