/- A part of the proof: walks through the program's functions, and what they compute. -/
import Derived.Test.YtedceinkpkoncaaGreatDoorPk4
set_option linter.unusedSimpArgs false
set_option linter.unusedVariables false
namespace Go.Eng.Tryz
open Go.RowKit Go.Eng
set_option maxHeartbeats 0
set_option maxRecDepth 20000
def QL2:List (List Nat):=[[0,1,2],[6]]
theorem zK (x k y:Int):Ctr Go.Proofs.Tryz.prog tab 194 [2,3,2] [2] [.int x,.int k,.int y] [.int (QAo x k y)]:=by
 refine Ctr.body ok Go.Proofs.Tryz.func194 rfl rfl 16 rfl [.tmp 6] rfl (by simp [QE]) ?_
 simp only [go_sem,Nat.reduceAdd]
 repeat' first
  | ((with_reducible refine Q2 fun R1 hR1=>?_);(simp only [go_sem,seval,-List.reduceReplicate]);(repeat' with_reducible refine And.intro ?_ ?_);all_goals first|(refine hR1 _ ?_;clear hR1 R1)|omega|rfl|decide|assumption|(intro _;omega)|(simp;done)|(simp;omega))
  | ((with_reducible refine Q1 ?_);refine hR _ ?_;clear hR R;try simp only [go_sem,QL2,Nat.reduceBEq])
  | (with_reducible first|refine J1 ?_|refine J2 ?_|refine Q0 ?_|refine Qz ?_)
  | ((with_reducible refine rg QL2 fun R hR=>?_);simp only [go_sem,QC])
  | ((with_reducible first|refine ZH ?_|refine ZG ?_)
     simp only [go_sem,QJ,QK,QG,seval]
     exact ⟨rfl,rfl⟩)
def QL3:List (List Nat):=[[0,1],[4]]
theorem UD (x k:Int):Ctr Go.Proofs.Tryz.prog tab 193 [2,3] [2] [.int x,.int k] [.int (X8 x k)]:=by
 refine Ctr.body ok Go.Proofs.Tryz.func193 rfl rfl 12 rfl [.tmp 4] rfl (by simp [QE]) ?_
 simp only [go_sem,Nat.reduceAdd]
 repeat' first
  | ((with_reducible refine Q2 fun R1 hR1=>?_);(simp only [go_sem,seval,-List.reduceReplicate]);(repeat' with_reducible refine And.intro ?_ ?_);all_goals first|(refine hR1 _ ?_;clear hR1 R1)|omega|rfl|decide|assumption|(intro _;omega)|(simp;done)|(simp;omega))
  | ((with_reducible refine Q1 ?_);refine hR _ ?_;clear hR R;try simp only [go_sem,QL3,Nat.reduceBEq])
  | (with_reducible first|refine J1 ?_|refine J2 ?_|refine Q0 ?_|refine Qz ?_)
  | ((with_reducible refine rg QL3 fun R hR=>?_);simp only [go_sem,QC])
  | ((with_reducible first|refine ZH ?_|refine ZG ?_)
     simp only [go_sem,QJ,QK,QG,seval]
     exact ⟨rfl,rfl⟩)
def QL1:List (List Nat):=[[0],[3],[2],[2]]
theorem yS (b:Bool):Ctr Go.Proofs.Tryz.prog tab 195 [4] [2] [.bool b] [.int (XL b)]:=by
 refine Ctr.body ok Go.Proofs.Tryz.func195 rfl rfl 4 rfl [.tmp 2] rfl (by simp [QE]) ?_
 simp only [go_sem,Nat.reduceAdd]
 repeat' first
  | ((with_reducible refine Q2 fun R1 hR1=>?_);(simp only [go_sem,seval,-List.reduceReplicate]);(repeat' with_reducible refine And.intro ?_ ?_);all_goals first|(refine hR1 _ ?_;clear hR1 R1)|omega|rfl|decide|assumption|(intro _;omega)|(simp;done)|(simp;omega))
  | ((with_reducible refine Q1 ?_);refine hR _ ?_;clear hR R;try simp only [go_sem,QL1,Nat.reduceBEq])
  | (with_reducible first|refine J1 ?_|refine J2 ?_|refine J3 ?_|refine Q0 ?_|refine Qz ?_)
  | ((with_reducible refine rg QL1 fun R hR=>?_);simp only [go_sem,QC])
  | ((with_reducible refine SA.cond rfl ?_ ?_)
     all_goals
      intro hb
      try simp only [decide_eq_true_eq,decide_eq_false_iff_not] at hb)
  | ((with_reducible first|refine ZH ?_|refine ZG ?_)
     simp only [go_sem,QJ,QK,QG,seval]
     subst hb
     exact ⟨rfl,rfl⟩)
def QLw:List (List Nat):=[[0],[0,4],[2],[2]]
theorem QJW (x:Int):Ctr Go.Proofs.Tryz.prog tab 200 [2] [2] [.int x] [.int (xq x)]:=by
 refine Ctr.body ok Go.Proofs.Tryz.func200 rfl rfl 6 rfl [.tmp 2] rfl (by simp [QE]) ?_
 simp only [go_sem,Nat.reduceAdd]
 repeat' first
  | ((with_reducible refine Q2 fun R1 hR1=>?_);(simp only [go_sem,seval,-List.reduceReplicate]);(repeat' with_reducible refine And.intro ?_ ?_);all_goals first|(refine hR1 _ ?_;clear hR1 R1)|omega|rfl|decide|assumption|(intro _;omega)|(simp;done)|(simp;omega))
  | ((with_reducible refine Q1 ?_);refine hR _ ?_;clear hR R;try simp only [go_sem,QLw,Nat.reduceBEq])
  | (with_reducible first|refine J1 ?_|refine J2 ?_|refine J3 ?_|refine Q0 ?_|refine Qz ?_)
  | ((with_reducible refine rg QLw fun R hR=>?_);simp only [go_sem,QC])
  | ((with_reducible refine SA.cond rfl ?_ ?_)
     all_goals
      intro hb
      try simp at hb)
  | ((with_reducible first|refine ZH ?_|refine ZG ?_)
     simp only [go_sem,QJ,QK,QG,seval]
     (repeat' with_reducible refine And.intro ?_ ?_)
     all_goals first|rfl|(simp only [xq];(repeat' split)<;>first|rfl|omega|(exfalso;omega))|(simp [xq, *];done)|(simp [xq, *];omega))
def QMC:List (List Nat):=[[0],[0,8],[2],[10],[2],[2]]
theorem QHg (x:Int):Ctr Go.Proofs.Tryz.prog tab 179 [3] [3] [.int x] [.int (X9 x)]:=by
 refine Ctr.body ok Go.Proofs.Tryz.func179 rfl rfl 11 rfl [.tmp 2] rfl (by simp [QE]) ?_
 simp only [go_sem,Nat.reduceAdd]
 repeat' first
  | ((with_reducible refine Q2 fun R1 hR1=>?_);(simp only [go_sem,seval,-List.reduceReplicate]);(repeat' with_reducible refine And.intro ?_ ?_);all_goals first|(refine hR1 _ ?_;clear hR1 R1)|omega|rfl|decide|assumption|(intro _;omega)|(simp;done)|(simp;omega))
  | ((with_reducible refine Q1 ?_);refine hR _ ?_;clear hR R;try simp only [go_sem,QMC,Nat.reduceBEq])
  | (with_reducible first|refine J1 ?_|refine J2 ?_|refine J3 ?_|refine Q0 ?_|refine Qz ?_)
  | ((with_reducible refine rg QMC fun R hR=>?_);simp only [go_sem,QC])
  | ((with_reducible refine SA.cond rfl ?_ ?_)
     all_goals
      intro hb
      try simp at hb)
  | ((with_reducible first|refine ZH ?_|refine ZG ?_)
     simp only [go_sem,QJ,QK,QG,seval]
     (repeat' with_reducible refine And.intro ?_ ?_)
     all_goals first|rfl|(simp only [X9];(repeat' split)<;>first|rfl|omega|(exfalso;omega))|(simp [X9, *];done)|(simp [X9, *];omega))
def QL0:List (List Nat):=[[0,1,2],[0,1,2,7],[0,1,2,7,8],[0,1,2,7,8,11],[0,1,2,7,8],[0,1,2,7,8,9],[0,1,2,7,8,9,16],[0,1,2,7,8,9],[0,1,2,7,8,9,20],[0,1,2,7,8,9],[0,1,2,7,8],[6]]
theorem QEU (a m:Int) (sign:Bool):Ctr Go.Proofs.Tryz.prog tab 196 [2,3,4] [2] [.int a,.int m,.bool sign] [.int (qy a m sign)]:=by
 refine Ctr.body ok Go.Proofs.Tryz.func196 rfl rfl 30 rfl [.tmp 6] rfl (by simp [QE]) ?_
 simp only [go_sem,Nat.reduceAdd]
 repeat' first
  | ((with_reducible refine Q2 fun R1 hR1=>?_);(simp only [go_sem,seval,-List.reduceReplicate]);(repeat' with_reducible refine And.intro ?_ ?_);all_goals first|(refine hR1 _ ?_;clear hR1 R1)|((first|refine cq (cc (UD _ _)) ?_|refine cq (cc (zK _ _ _)) ?_);all_goals ((try simp only [go_sem,seval,-List.reduceReplicate]);(repeat' with_reducible refine And.intro ?_ ?_);all_goals first|(refine hR1 _ ?_;clear hR1 R1)|omega|rfl|decide|assumption|(intro _;omega)|(simp;done)|(simp;omega)|(simp [QQ,maxLen]<;>omega)))|omega|rfl|decide|assumption|(intro _;omega)|(simp;done)|(simp;omega)|(simp [QQ,maxLen]<;>omega))
  | ((with_reducible refine Q1 ?_);refine hR _ ?_;clear hR R;try simp only [go_sem,QL0,Nat.reduceBEq])
  | (with_reducible first|refine J1 ?_|refine J2 ?_|refine J3 ?_|refine J4 ?_|refine J5 ?_|refine J6 ?_|refine J7 ?_|refine J8 (by decide) ?_|refine J9 ?_|refine WL ?_|refine Q0 ?_|refine Qz ?_|refine YZ ?_|refine WK ?_)
  | ((with_reducible refine rg QL0 fun R hR=>?_);simp only [go_sem,QC])
  | ((with_reducible refine QH 16 rfl (fun hb16=>?_) fun hb16=>?_);all_goals (try simp at hb16))
  | ((with_reducible refine QH 20 rfl (fun hb20=>?_) fun hb20=>?_);all_goals (try simp at hb20))
  | ((with_reducible refine SA.cond rfl ?_ ?_)
     all_goals
      intro hb
      try simp at hb)
  | ((with_reducible refine YQ ?_)
     refine Zo (Qq (by first|rfl|(simp [YB];done))) (YR (fun n τ=>∃ (k:Nat),n=64-k∧(k≤64)∧τ={ tm:=[(0,true,.int .i64 a),(1,true,.int .i64 m),(2,true,.bool sign),(7,true,.int .i64 (YB (QEV a m sign) 0 k)),(8,true,.int .i64 k)],ob:=[],out:=[],nt:=30 }) (64) ⟨0,rfl,by omega,rfl⟩ ?_)
     rintro n τ ⟨k,hn,hk,rfl⟩)
  | ((with_reducible refine WM ?_)
     first
      | (have hk:k<64:=by omega
         have hw:IntKind.i64.wrap ((k:Int)+1)=((k+1:Nat):Int):=QD hk (by decide)
         refine Zt (64-(k+1)) _ (by omega) (Qq (by simp only [hw,YB];first|rfl|(simp [QEV, *];done)|(simp only [QEV, *];(repeat' split)<;>first|rfl|omega|(exfalso;omega)|(simp_all;done)))) ⟨k+1,rfl,by omega,rfl⟩))
  | ((with_reducible first|refine ZH ?_|refine ZG ?_)
     simp only [go_sem,QJ,QK,QG,seval]
     have hk64:k=64:=by omega
     subst hk64
     exact ⟨rfl,rfl⟩)
def QLy:List (List Nat):=[[0,1,2],[0,1,2,7],[0,1,2,7,8],[0,1,2,7,8,13],[0,1,2,7,8],[0,1,2,7,8,9,10],[0,1,2,7,8,9,10,11],[0,1,2,7,8,9,10,11,22],[0,1,2,7,8,9,10,11,22,23],[0,1,2,7,8,11],[0,1,2,7,8,9,10,11,22,29],[0,1,2,7,8,11],[0,1,2,7,8,9,10,11,22,35],[0,1,2,7,8,11],[0,1,2,7,8,9,10,11,41],[0,1,2,7,8,11],[0,1,2,7,8],[6]]
theorem QJz (op a b:Int):Ctr Go.Proofs.Tryz.prog tab 198 [3,2,2] [2] [.int op,.int a,.int b] [.int (wW op a b)]:=by
 refine Ctr.body ok Go.Proofs.Tryz.func198 rfl rfl 55 rfl [.tmp 6] rfl (by simp [QE]) ?_
 simp only [go_sem,Nat.reduceAdd]
 repeat' first
  | ((with_reducible refine Q2 fun R1 hR1=>?_);(simp only [go_sem,seval,-List.reduceReplicate]);(repeat' with_reducible refine And.intro ?_ ?_);all_goals first|(refine hR1 _ ?_;clear hR1 R1)|((first|refine cq (cc (UD _ _)) ?_|refine cq (cc (zK _ _ _)) ?_|refine cq (cc (yS _)) ?_);all_goals ((try simp only [go_sem,seval,-List.reduceReplicate]);(repeat' with_reducible refine And.intro ?_ ?_);all_goals first|(refine hR1 _ ?_;clear hR1 R1)|omega|rfl|decide|assumption|(intro _;omega)|(simp;done)|(simp;omega)|(simp [QQ,maxLen]<;>omega)))|omega|rfl|decide|assumption|(intro _;omega)|(simp;done)|(simp;omega)|(simp [QQ,maxLen]<;>omega))
  | ((with_reducible refine Q1 ?_);refine hR _ ?_;clear hR R;try simp only [go_sem,QLy,Nat.reduceBEq])
  | (with_reducible first|refine J1 ?_|refine J2 ?_|refine J3 ?_|refine J4 ?_|refine J5 ?_|refine J6 ?_|refine J7 ?_|refine J8 (by decide) ?_|refine J9 ?_|refine WL ?_|refine Q0 ?_|refine Qz ?_|refine YZ ?_|refine WK ?_)
  | ((with_reducible refine rg QLy fun R hR=>?_);simp only [go_sem,QC])
  | ((with_reducible refine QH 23 rfl (fun hb23=>?_) fun hb23=>?_);all_goals (try simp at hb23))
  | ((with_reducible refine QH 29 rfl (fun hb29=>?_) fun hb29=>?_);all_goals (try simp at hb29))
  | ((with_reducible refine QH 35 rfl (fun hb35=>?_) fun hb35=>?_);all_goals (try simp at hb35))
  | ((with_reducible refine QH 41 rfl (fun hb41=>?_) fun hb41=>?_);all_goals (try simp at hb41))
  | ((with_reducible refine SA.cond rfl ?_ ?_)
     all_goals
      intro hb
      try simp at hb)
  | ((with_reducible refine YQ ?_)
     refine Zo (Qq (by first|rfl|(simp [YB];done))) (YR (fun n τ=>∃ (k:Nat),n=64-k∧(k≤64)∧τ={ tm:=[(0,true,.int .i64 op),(1,true,.int .i64 a),(2,true,.int .i64 b),(7,true,.int .i64 (YB (QEe op a b) 0 k)),(8,true,.int .i64 k)],ob:=[],out:=[],nt:=55 }) (64) ⟨0,rfl,by omega,rfl⟩ ?_)
     rintro n τ ⟨k,hn,hk,rfl⟩)
  | ((with_reducible refine WM ?_)
     first
      | (have hk:k<64:=by omega
         have hw:IntKind.i64.wrap ((k:Int)+1)=((k+1:Nat):Int):=QD hk (by decide)
         refine Zt (64-(k+1)) _ (by omega) (Qq (by simp only [hw,YB];first|rfl|(simp [QEe,QGU, *];done)|(simp only [QEe,QGU, *];(repeat' split)<;>first|rfl|omega|(exfalso;omega)|(simp_all;done)))) ⟨k+1,rfl,by omega,rfl⟩))
  | ((with_reducible first|refine ZH ?_|refine ZG ?_)
     simp only [go_sem,QJ,QK,QG,seval]
     have hk64:k=64:=by omega
     subst hk64
     exact ⟨rfl,rfl⟩)
def QLx:List (List Nat):=[[0,1,2],[0,1,2,7],[0,1,2,7,8],[0,1,2,7,8,11],[0,1,2,7,8],[0,1,2,7,8,9],[0,1,2,7,8,9,24],[0,1,2,7,8,9],[0,1,2,7,8],[6]]
theorem QGv (a b c:Int):Ctr Go.Proofs.Tryz.prog tab 199 [2,2,2] [2] [.int a,.int b,.int c] [.int (Us a b c)]:=by
 refine Ctr.body ok Go.Proofs.Tryz.func199 rfl rfl 35 rfl [.tmp 6] rfl (by simp [QE]) ?_
 simp only [go_sem,Nat.reduceAdd]
 repeat' first
  | ((with_reducible refine Q2 fun R1 hR1=>?_);(simp only [go_sem,seval,-List.reduceReplicate]);(repeat' with_reducible refine And.intro ?_ ?_);all_goals first|(refine hR1 _ ?_;clear hR1 R1)|((first|refine cq (cc (UD _ _)) ?_|refine cq (cc (zK _ _ _)) ?_);all_goals ((try simp only [go_sem,seval,-List.reduceReplicate]);(repeat' with_reducible refine And.intro ?_ ?_);all_goals first|(refine hR1 _ ?_;clear hR1 R1)|omega|rfl|decide|assumption|(intro _;omega)|(simp;done)|(simp;omega)|(simp [QQ,maxLen]<;>omega)))|omega|rfl|decide|assumption|(intro _;omega)|(simp;done)|(simp;omega)|(simp [QQ,maxLen]<;>omega))
  | ((with_reducible refine Q1 ?_);refine hR _ ?_;clear hR R;try simp only [go_sem,QLx,Nat.reduceBEq])
  | (with_reducible first|refine J1 ?_|refine J2 ?_|refine J3 ?_|refine J4 ?_|refine J5 ?_|refine J6 ?_|refine J7 ?_|refine J8 (by decide) ?_|refine J9 ?_|refine WL ?_|refine Q0 ?_|refine Qz ?_|refine YZ ?_|refine WK ?_)
  | ((with_reducible refine rg QLx fun R hR=>?_);simp only [go_sem,QC])
  | ((with_reducible refine QH 24 rfl (fun hb24=>?_) fun hb24=>?_);all_goals (try simp at hb24))
  | ((with_reducible refine SA.cond rfl ?_ ?_)
     all_goals
      intro hb
      try simp at hb)
  | ((with_reducible refine YQ ?_)
     refine Zo (Qq (by first|rfl|(simp [YB];done))) (YR (fun n τ=>∃ (k:Nat),n=64-k∧(k≤64)∧τ={ tm:=[(0,true,.int .i64 a),(1,true,.int .i64 b),(2,true,.int .i64 c),(7,true,.int .i64 (YB (vK a b c) 0 k)),(8,true,.int .i64 k)],ob:=[],out:=[],nt:=35 }) (64) ⟨0,rfl,by omega,rfl⟩ ?_)
     rintro n τ ⟨k,hn,hk,rfl⟩)
  | ((with_reducible refine WM ?_)
     first
      | (have hk:k<64:=by omega
         have hw:IntKind.i64.wrap ((k:Int)+1)=((k+1:Nat):Int):=QD hk (by decide)
         refine Zt (64-(k+1)) _ (by omega) (Qq (by simp only [hw,YB];first|rfl|(simp [vK, *];done)|(simp only [vK, *];(repeat' split)<;>first|rfl|omega|(exfalso;omega)|(simp_all;done)))) ⟨k+1,rfl,by omega,rfl⟩))
  | ((with_reducible first|refine ZH ?_|refine ZG ?_)
     simp only [go_sem,QJ,QK,QG,seval]
     have hk64:k=64:=by omega
     subst hk64
     exact ⟨rfl,rfl⟩)
def QLz:List (List Nat):=[[0,1],[0,1,6],[0,1,6,7],[0,1,6,7,8],[0,1,6,7,8,12],[0,1,6,7,8],[0,1,6,7,8],[0,1,6,7,8],[0,1,6,7,8,26],[0,1,6,7,8,28],[0,1,6,7,8,9],[0,1,6,7,8,9],[0,1,6,7,8,9],[0,1,6,7,8,41],[0,1,6,7,8],[0,1,6,7,8,10],[0,1,6,7,8,10],[0,1,6,7,8,10],[0,1,6,7,8,55],[0,1,6,7,8],[4,5]]
theorem QDQ (a b:Int):Ctr Go.Proofs.Tryz.prog tab 197 [2,2] [2,240] [.int a,.int b] [.int (x5 a b).1,.int (x5 a b).2]:=by
 refine Ctr.body ok Go.Proofs.Tryz.func197 rfl rfl 60 rfl [.tmp 4,.tmp 5] rfl (by simp [QE]) ?_
 simp only [go_sem,Nat.reduceAdd]
 repeat' first
  | ((with_reducible refine Q2 fun R1 hR1=>?_);(simp only [go_sem,seval,-List.reduceReplicate]);(repeat' with_reducible refine And.intro ?_ ?_);all_goals first|(refine hR1 _ ?_;clear hR1 R1)|((first|refine cq (cc (UD _ _)) ?_);all_goals ((try simp only [go_sem,seval,-List.reduceReplicate]);(repeat' with_reducible refine And.intro ?_ ?_);all_goals first|(refine hR1 _ ?_;clear hR1 R1)|omega|rfl|decide|assumption|(intro _;omega)|(simp;done)|(simp;omega)|(simp [QQ,maxLen]<;>omega)))|omega|rfl|decide|assumption|(intro _;omega)|(simp;done)|(simp;omega)|(simp [QQ,maxLen]<;>omega))
  | ((with_reducible refine Q1 ?_);refine hR _ ?_;clear hR R;try simp only [go_sem,QLz,Nat.reduceBEq])
  | (with_reducible first|refine J1 ?_|refine J2 ?_|refine J3 ?_|refine J4 ?_|refine J5 ?_|refine J6 ?_|refine J7 ?_|refine J8 (by decide) ?_|refine J9 ?_|refine WL ?_|refine Q0 ?_|refine Qz ?_|refine YZ ?_|refine WK ?_)
  | ((with_reducible refine rg QLz fun R hR=>?_);simp only [go_sem,QC])
  | ((with_reducible refine QH 26 rfl (fun hb26=>?_) fun hb26=>?_);all_goals (try simp at hb26))
  | ((with_reducible refine QH 28 rfl (fun hb28=>?_) fun hb28=>?_);all_goals (try simp at hb28))
  | ((with_reducible refine QH 41 rfl (fun hb41=>?_) fun hb41=>?_);all_goals (try simp at hb41))
  | ((with_reducible refine QH 55 rfl (fun hb55=>?_) fun hb55=>?_);all_goals (try simp at hb55))
  | ((with_reducible refine SA.cond rfl ?_ ?_)
     all_goals
      intro hb
      try simp at hb)
  | ((with_reducible refine YQ ?_)
     refine Zo (Qq (by first|rfl|(simp [YB];done))) (YR (fun n τ=>∃ (k:Nat),n=64-k∧(k≤64)∧τ={ tm:=[(0,true,.int .i64 a),(1,true,.int .i64 b),(6,true,.int .i64 (YB (x6 a b) (0,0) k).1),(7,true,.int .u64 (YB (x6 a b) (0,0) k).2),(8,true,.int .i64 (63-(k:Int)))],ob:=[],out:=[],nt:=60 }) (64) ⟨0,rfl,by omega,rfl⟩ ?_)
     rintro n τ ⟨k,hn,hk,rfl⟩)
  | ((with_reducible refine WM ?_)
     first
      | (have hk:k<64:=by omega
         have hw:IntKind.i64.wrap (63-(k:Int)-1)=63-((k+1:Nat):Int):=by rw [QU (by omega) (by omega)];omega
         refine Zt (64-(k+1)) _ (by omega) (Qq (by simp only [hw,YB,x6];(repeat' split)<;>first|rfl|omega|(exfalso;omega)|(simp_all;done))) ⟨k+1,rfl,by omega,rfl⟩))
  | ((with_reducible first|refine ZH ?_|refine ZG ?_)
     simp only [go_sem,QJ,QK,QG,seval]
     have hk64:k=64:=by omega
     subst hk64
     exact ⟨⟨rfl,rfl⟩,⟨rfl,rfl⟩⟩)
end Go.Eng.Tryz
namespace Go.Eng.Tryz
open Go.RowKit Go.Eng
set_option maxHeartbeats 0
set_option maxRecDepth 20000
def QMB:List (List Nat):=[[0,1],[1,13],[1,13,14],[4],[1,13,18],[4],[1,13,22],[1,25],[4],[4],[1,13,29],[1,5],[1,5,6],[1,5,6,32],[1,5,6],[1,5,6],[4],[1,13,41],[1,7],[1,7,8],[1,7,8,50],[1,7,8],[1,7,8],[4],[1,13,56],[1,9],[1,9,10],[1,9,10,65],[1,9,10],[1,9,10],[4],[1,13,71],[1,11],[1,11,12],[1,11,12,74],[1,11,12],[1,11,12],[4],[1,13,85],[4],[1,13,90],[4],[1,13,95],[4],[1,13,99],[4],[1,13,103],[4],[1,13,107],[4],[1,111],[4],[4]]
theorem QKm (op a:Int):Ctr Go.Proofs.Tryz.prog tab 180 [3,2] [2] [.int op,.int a] [.int (QCn op a)]:=by
 refine Ctr.body ok Go.Proofs.Tryz.func180 rfl rfl 117 rfl [.tmp 4] rfl (by simp [QE]) ?_
 simp only [go_sem,Nat.reduceAdd]
 repeat' first
  | ((with_reducible refine Q2 fun R1 hR1=>?_);(simp only [go_sem,seval,-List.reduceReplicate]);(repeat' with_reducible refine And.intro ?_ ?_);all_goals first|(refine hR1 _ ?_;clear hR1 R1)|((first|refine cq (cc (UD _ _)) ?_|refine ⟨_,_,rfl,.inl ⟨_,fun hg=>CallQ.ctr ok (UD _ _) (by first|rfl|(simp [go_sem];done)|fail) rfl,?_⟩⟩|refine cq (cc (zK _ _ _)) ?_|refine ⟨_,_,rfl,.inl ⟨_,fun hg=>CallQ.ctr ok (zK _ _ _) (by first|rfl|(simp [go_sem];done)|fail) rfl,?_⟩⟩|refine cq (cc (yS _)) ?_|refine ⟨_,_,rfl,.inl ⟨_,fun hg=>CallQ.ctr ok (yS _) (by first|rfl|(simp [go_sem];done)|fail) rfl,?_⟩⟩|refine cq (cc (QEU _ _ _)) ?_|refine ⟨_,_,rfl,.inl ⟨_,fun hg=>CallQ.ctr ok (QEU _ _ _) (by first|rfl|(simp [go_sem];done)|fail) rfl,?_⟩⟩);all_goals ((try simp only [go_sem,seval,-List.reduceReplicate]);(repeat' with_reducible refine And.intro ?_ ?_);all_goals first|(refine hR1 _ ?_;clear hR1 R1)|omega|rfl|decide|assumption|(intro _;omega)|(simp;done)|(simp;omega)|(simp [QQ,maxLen]<;>omega)))|omega|rfl|decide|assumption|(intro _;omega)|(simp;done)|(simp;omega)|(simp [QQ,maxLen]<;>omega))
  | ((with_reducible refine Q1 ?_);refine hR _ ?_;clear hR R;try simp only [go_sem,QMB,Nat.reduceBEq])
  | (with_reducible first|refine J1 ?_|refine J2 ?_|refine J3 ?_|refine J4 ?_|refine J5 ?_|refine J6 ?_|refine J7 ?_|refine J8 (by decide) ?_|refine J9 ?_|refine WL ?_|refine Q0 ?_|refine Qz ?_|refine YZ ?_|refine WK ?_)
  | ((with_reducible refine rg QMB fun R hR=>?_);simp only [go_sem,QC])
  | ((with_reducible refine QH 14 rfl (fun hb14=>?_) fun hb14=>?_);all_goals (try simp at hb14))
  | ((with_reducible refine QH 18 rfl (fun hb18=>?_) fun hb18=>?_);all_goals (try simp at hb18))
  | ((with_reducible refine QH 22 rfl (fun hb22=>?_) fun hb22=>?_);all_goals (try simp at hb22))
  | ((with_reducible refine QH 25 rfl (fun hb25=>?_) fun hb25=>?_);all_goals (try simp at hb25))
  | ((with_reducible refine QH 29 rfl (fun hb29=>?_) fun hb29=>?_);all_goals (try simp at hb29))
  | ((with_reducible refine QH 41 rfl (fun hb41=>?_) fun hb41=>?_);all_goals (try simp at hb41))
  | ((with_reducible refine QH 50 rfl (fun hb50=>?_) (fun hb50=>?_))
     all_goals
      skip)
  | ((with_reducible refine QH 56 rfl (fun hb56=>?_) fun hb56=>?_);all_goals (try simp at hb56))
  | ((with_reducible refine QH 65 rfl (fun hb65=>?_) (fun hb65=>?_))
     all_goals
      skip)
  | ((with_reducible refine QH 71 rfl (fun hb71=>?_) fun hb71=>?_);all_goals (try simp at hb71))
  | ((with_reducible refine QH 85 rfl (fun hb85=>?_) fun hb85=>?_);all_goals (try simp at hb85))
  | ((with_reducible refine QH 90 rfl (fun hb90=>?_) fun hb90=>?_);all_goals (try simp at hb90))
  | ((with_reducible refine QH 95 rfl (fun hb95=>?_) fun hb95=>?_);all_goals (try simp at hb95))
  | ((with_reducible refine QH 99 rfl (fun hb99=>?_) fun hb99=>?_);all_goals (try simp at hb99))
  | ((with_reducible refine QH 103 rfl (fun hb103=>?_) fun hb103=>?_);all_goals (try simp at hb103))
  | ((with_reducible refine QH 107 rfl (fun hb107=>?_) fun hb107=>?_);all_goals (try simp at hb107))
  | ((with_reducible refine QH 111 rfl (fun hb111=>?_) fun hb111=>?_);all_goals (try simp at hb111))
  | ((with_reducible refine SA.cond rfl ?_ ?_)
     all_goals
      intro hb
      try simp at hb)
  | ((with_reducible refine YQ ?_)
     refine Zo (Qq (by first|rfl|(simp [YB];done)|fail)) (YR (fun n τ=>∃ (k:Nat),n=64-k∧(k≤64)∧τ={ tm:=[(1,true,.int .i64 a),(5,true,.int .i64 (YB (wG a) 0 k)),(6,true,.int .i64 k)],ob:=[],out:=[],nt:=117 }) (64) ⟨0,rfl,by omega,rfl⟩ ?_)
     rintro n τ ⟨k,hn,hk,rfl⟩)
  | ((with_reducible refine YQ ?_)
     refine Zo (Qq (by first|rfl|(simp [YB];done)|fail)) (YR (fun n τ=>∃ (k:Nat),n=64-k∧(k≤64∧∀ j:Nat,j<k→X8 a (63-(j:Int))=0)∧τ={ tm:=[(1,true,.int .i64 a),(7,true,.int .i64 k),(8,true,.int .i64 (63-(k:Int)))],ob:=[],out:=[],nt:=117 }) (64) ⟨0,rfl,⟨by omega,fun j hj=>by omega⟩,rfl⟩ ?_)
     rintro n τ ⟨k,hn,⟨hk,hz⟩,rfl⟩)
  | ((with_reducible refine YQ ?_)
     refine Zo (Qq (by first|rfl|(simp [YB];done)|fail)) (YR (fun n τ=>∃ (k:Nat),n=64-k∧(k≤64∧∀ j:Nat,j<k→X8 a j=0)∧τ={ tm:=[(1,true,.int .i64 a),(9,true,.int .i64 k),(10,true,.int .i64 k)],ob:=[],out:=[],nt:=117 }) (64) ⟨0,rfl,⟨by omega,fun j hj=>by omega⟩,rfl⟩ ?_)
     rintro n τ ⟨k,hn,⟨hk,hz⟩,rfl⟩)
  | ((with_reducible refine YQ ?_)
     refine Zo (Qq (by first|rfl|(simp [YB];done)|fail)) (YR (fun n τ=>∃ (k:Nat),n=64-k∧(k≤64)∧τ={ tm:=[(1,true,.int .i64 a),(11,true,.int .i64 (YB (wN a) 0 k)),(12,true,.int .i64 k)],ob:=[],out:=[],nt:=117 }) (64) ⟨0,rfl,by omega,rfl⟩ ?_)
     rintro n τ ⟨k,hn,hk,rfl⟩)
  | ((with_reducible refine WM ?_)
     first
      | (have hk:k<64:=by omega
         have hw:IntKind.i64.wrap ((k:Int)+1)=((k+1:Nat):Int):=QD hk (by decide)
         refine Zt (64-(k+1)) _ (by omega) (Qq (by simp only [hw,YB];first|rfl|(simp [wG, *];done)|(simp only [wG, *];(repeat' split)<;>first|rfl|omega|(exfalso;omega)|(simp_all;done)|fail)|fail)) ⟨k+1,rfl,by omega,rfl⟩)
      | (simp at hb50
         have hk:k<64:=by omega
         have hw:IntKind.i64.wrap ((k:Int)+1)=((k+1:Nat):Int):=QD hk (by decide)
         have hv:IntKind.i64.wrap (63-(k:Int)-1)=63-((k+1:Nat):Int):=by rw [QU (by omega) (by omega)];omega
         refine Zt (64-(k+1)) _ (by omega) (Qq (by simp only [hw,hv])) ⟨k+1,rfl,⟨by omega,fun j hj=>?_⟩,rfl⟩
         rcases Nat.lt_or_ge j k with h|h
         · exact hz j h
         · have:j=k:=by omega
           subst this;exact hb50.2)
      | (simp at hb65
         have hk:k<64:=by omega
         have hw:IntKind.i64.wrap ((k:Int)+1)=((k+1:Nat):Int):=QD hk (by decide)
         refine Zt (64-(k+1)) _ (by omega) (Qq (by simp only [hw])) ⟨k+1,rfl,⟨by omega,fun j hj=>?_⟩,rfl⟩
         rcases Nat.lt_or_ge j k with h|h
         · exact hz j h
         · have:j=k:=by omega
           subst this;exact hb65.2)
      | (have hk:k<64:=by omega
         have hw:IntKind.i64.wrap ((k:Int)+1)=((k+1:Nat):Int):=QD hk (by decide)
         refine Zt (64-(k+1)) _ (by omega) (Qq (by simp only [hw,YB];first|rfl|(simp [wN, *];done)|(simp only [wN, *];(repeat' split)<;>first|rfl|omega|(exfalso;omega)|(simp_all;done)|fail)|fail)) ⟨k+1,rfl,by omega,rfl⟩))
  | ((with_reducible first|refine ZH ?_|refine ZG ?_)
     simp only [go_sem,QJ,QK,QG,seval]
     first
      | ((repeat' with_reducible refine And.intro ?_ ?_)
         all_goals first|rfl|(subst_vars;rfl)|(simp only [QCn];simp [*];done)|(simp only [QCn];(repeat' split)<;>first|rfl|omega|(exfalso;omega)))
      | (have hk64:k=64:=by omega
         subst hk64
         (repeat' with_reducible refine And.intro ?_ ?_)
         all_goals first|rfl|(simp only [QCn];simp [*];done))
      | (simp at hb50
         have e:QEJ a=k:=UK hk (fun j hj=>by simp [hz j hj]) (by rcases Nat.lt_or_ge k 64 with h|h;exact .inr (by simpa using hb50 (by omega));exact .inl (by omega))
         (repeat' with_reducible refine And.intro ?_ ?_)
         all_goals first|rfl|(simp [QCn, *];done))
      | (simp at hb65
         have e:w7 a=k:=UK hk (fun j hj=>by simp [hz j hj]) (by rcases Nat.lt_or_ge k 64 with h|h;exact .inr (by simpa using hb65 (by omega));exact .inl (by omega))
         (repeat' with_reducible refine And.intro ?_ ?_)
         all_goals first|rfl|(simp [QCn, *];done)))
def QLv:List (List Nat):=[[0,1,2],[1,2,9],[1,2,9,10],[6],[1,2,9,16],[6],[1,2,9,22],[6],[1,2,9,28],[6],[1,2,9,34],[6],[1,2,9,42],[1,2,46],[6],[6],[1,2,49],[1,2,53],[6],[6],[7],[6]]
theorem QJM (op a b:Int):Ctr Go.Proofs.Tryz.prog tab 201 [3,2,2] [2] [.int op,.int a,.int b] [.int (QEM op a b)]:=by
 refine Ctr.body ok Go.Proofs.Tryz.func201 rfl rfl 63 rfl [.tmp 6] rfl (by simp [QE]) ?_
 simp only [go_sem,Nat.reduceAdd]
 repeat' first
  | ((with_reducible refine Q2 fun R1 hR1=>?_);(simp only [go_sem,seval,-List.reduceReplicate]);(repeat' with_reducible refine And.intro ?_ ?_);all_goals first|(refine hR1 _ ?_;clear hR1 R1)|((first|refine cq (cc (UD _ _)) ?_|refine cq (cc (yS _)) ?_|refine ce (cf (QDQ _ _) ?_));all_goals ((try simp only [go_sem,seval,-List.reduceReplicate]);(repeat' with_reducible refine And.intro ?_ ?_);all_goals first|(refine hR1 _ ?_;clear hR1 R1)|omega|rfl|decide|assumption|(intro _;omega)|(simp;done)|(simp;omega)|(simp [QQ,maxLen]<;>omega)))|omega|rfl|decide|assumption|(intro _;omega)|(simp;done)|(simp;omega)|(simp [QQ,maxLen]<;>omega))
  | ((with_reducible refine Q1 ?_);refine hR _ ?_;clear hR R;try simp only [go_sem,QLv,Nat.reduceBEq])
  | (with_reducible first|refine J1 ?_|refine J2 ?_|refine J3 ?_|refine J4 ?_|refine J5 ?_|refine J6 ?_|refine J7 ?_|refine J8 (by decide) ?_|refine J9 ?_|refine Q0 ?_|refine Qz ?_|refine YZ ?_)
  | ((with_reducible refine rg QLv fun R hR=>?_);simp only [go_sem,QC])
  | ((with_reducible refine QH 10 rfl (fun hb10=>?_) fun hb10=>?_);all_goals (try simp at hb10))
  | ((with_reducible refine QH 16 rfl (fun hb16=>?_) fun hb16=>?_);all_goals (try simp at hb16))
  | ((with_reducible refine QH 22 rfl (fun hb22=>?_) fun hb22=>?_);all_goals (try simp at hb22))
  | ((with_reducible refine QH 28 rfl (fun hb28=>?_) fun hb28=>?_);all_goals (try simp at hb28))
  | ((with_reducible refine QH 34 rfl (fun hb34=>?_) fun hb34=>?_);all_goals (try simp at hb34))
  | ((with_reducible refine QH 42 rfl (fun hb42=>?_) fun hb42=>?_);all_goals (try simp at hb42))
  | ((with_reducible refine QH 46 rfl (fun hb46=>?_) fun hb46=>?_);all_goals (try simp at hb46))
  | ((with_reducible refine QH 49 rfl (fun hb49=>?_) fun hb49=>?_);all_goals (try simp at hb49))
  | ((with_reducible refine QH 53 rfl (fun hb53=>?_) fun hb53=>?_);all_goals (try simp at hb53))
  | ((with_reducible first|refine ZH ?_|refine ZG ?_)
     simp only [go_sem,QJ,QK,QG,seval]
     (repeat' with_reducible refine And.intro ?_ ?_)
     all_goals first|rfl|(simp only [QEM];(repeat' split)<;>first|rfl|omega|(exfalso;omega)|(simp_all;done)|(simp_all;omega))|(simp [QEM, *];done)|(simp [QEM, *];omega))
def QMA:List (List Nat):=[[0,1,2],[0,1,2,12],[0,1,2,12,13],[6,7],[0,1,2,12,18],[6,7],[0,1,2,12,23],[9],[6,7],[0,1,2,12,33],[0,1,2,12,33],[0,1,2,37],[6,7],[0,1,2,39],[1,41],[6,7],[6,7],[1,2,45],[6,7],[6,7],[0,1,2,12,56],[0,1,2,12,56],[0,1,2,12,56],[0,1,2,12,56],[6,7],[0,1,2,12,65],[0,1,2,12,65],[0,1,2,12,65],[0,1,2,70],[6,7],[0,1,2,72],[6,7],[1,2,78],[6,7],[6,7],[0,1,2,91],[1,2,10],[1,2,10,11],[1,2,10,11,94],[1,2,10,11],[1,2,10,11],[6,7],[6,7]]
end Go.Eng.Tryz
