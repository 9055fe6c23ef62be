/- A part of the proof: walks through the program's functions, and what they compute. -/
import Derived.Test.YtmonhjagbhpbeaaGreatDoorPk4
set_option linter.unusedSimpArgs false
set_option linter.unusedVariables false
namespace Go.Eng.Tryz
open Go.RowKit Go.Eng
set_option maxHeartbeats 0
set_option maxRecDepth 20000
def QO9:List (List Nat):=[[0,1],[4]]
theorem qA (x n:Int):Ctr Go.Proofs.Tryz.prog tab 118 [2,3] [4] [.int x,.int n] [.bool (Qk x n)]:=by
 refine Ctr.body ok Go.Proofs.Tryz.func118 rfl rfl 12 rfl [.tmp 4] rfl (by simp [QF]) ?_
 simp only [go_sem,Nat.reduceAdd]
 repeat' first
  | ((with_reducible refine Q5 fun R1 hR1=>?_);(simp only [go_sem,seval,-List.reduceReplicate]);(repeat' with_reducible refine And.intro ?_ ?_);all_goals first|(refine hR1 _ ?_;clear hR1 R1)|exact ob3)
  | ((with_reducible refine Q4 ?_);refine hR _ ?_;clear hR R;try simp only [go_sem,QO9,Nat.reduceBEq])
  | (with_reducible first|refine J1 ?_|refine J2 ?_|refine Q2 ?_|refine Q1 ?_)
  | ((with_reducible refine rg QO9 fun R hR=>?_);simp only [go_sem,QC])
  | ((with_reducible first|refine ZQ ?_|refine ZP ?_)
     simp only [go_sem,QL,QM,QH,seval]
     refine ⟨rfl,?_⟩
     simp only [Qk]
     cases decide (0≤x)<;>rfl)
def QO8:List (List Nat):=[[0],[2]]
theorem Xr (x:Int):Ctr Go.Proofs.Tryz.prog tab 119 [58] [4] [.int x] [.bool (Qp x)]:=by
 refine Ctr.body ok Go.Proofs.Tryz.func119 rfl rfl 17 rfl [.tmp 2] rfl (by simp [QF]) ?_
 simp only [go_sem,Nat.reduceAdd]
 repeat' first
  | ((with_reducible refine Q5 fun R1 hR1=>?_);(simp only [go_sem,seval,-List.reduceReplicate]);(repeat' with_reducible refine And.intro ?_ ?_);all_goals first|(refine hR1 _ ?_;clear hR1 R1)|exact ob3)
  | ((with_reducible refine Q4 ?_);refine hR _ ?_;clear hR R;try simp only [go_sem,QO8,Nat.reduceBEq])
  | (with_reducible first|refine J1 ?_|refine J2 ?_|refine Q2 ?_|refine Q1 ?_)
  | ((with_reducible refine rg QO8 fun R hR=>?_);simp only [go_sem,QC])
  | ((with_reducible first|refine ZQ ?_|refine ZP ?_)
     simp only [go_sem,QL,QM,QH,seval]
     refine ⟨rfl,?_⟩
     simp only [Qp]
     cases decide (1≤x)<;>cases decide (x≤36)<;>cases decide (40≤x)<;>rfl)
def QO7:List (List Nat):=[[0],[2]]
theorem UA (x:Int):Ctr Go.Proofs.Tryz.prog tab 120 [58] [4] [.int x] [.bool (ZG x)]:=by
 refine Ctr.body ok Go.Proofs.Tryz.func120 rfl rfl 9 rfl [.tmp 2] rfl (by simp [QF]) ?_
 simp only [go_sem,Nat.reduceAdd]
 repeat' first
  | ((with_reducible refine Q5 fun R1 hR1=>?_);(simp only [go_sem,seval,-List.reduceReplicate]);(repeat' with_reducible refine And.intro ?_ ?_);all_goals first|(refine hR1 _ ?_;clear hR1 R1)|exact ob3)
  | ((with_reducible refine Q4 ?_);refine hR _ ?_;clear hR R;try simp only [go_sem,QO7,Nat.reduceBEq])
  | (with_reducible first|refine J1 ?_|refine J2 ?_|refine Q2 ?_|refine Q1 ?_)
  | ((with_reducible refine rg QO7 fun R hR=>?_);simp only [go_sem,QC])
  | ((with_reducible first|refine ZQ ?_|refine ZP ?_)
     simp only [go_sem,QL,QM,QH,seval]
     refine ⟨rfl,?_⟩
     simp only [ZG]
     cases decide (50≤x)<;>rfl)
def QO6:List (List Nat):=[[0],[0,8],[2],[0,14],[2],[15],[15,16],[2],[15,18],[2],[15,20],[2],[15,22],[2],[15,24],[2],[15,26],[2],[15,28],[2],[15,30],[2],[15,32],[2],[15,34],[2],[15,36],[2],[15,38],[15,38],[2],[15,41],[2],[15,43],[2],[15,45],[2],[15,47],[2],[15,49],[2],[15,51],[2],[15,53],[2],[15,55],[2],[57],[2],[2]]
theorem xx (op:Int):Ctr Go.Proofs.Tryz.prog tab 121 [58] [9] [.int op] [.str (VU op)]:=by
 refine Ctr.body ok Go.Proofs.Tryz.func121 rfl rfl 59 rfl [.tmp 2] rfl (by simp [QF]) ?_
 simp only [go_sem,Nat.reduceAdd]
 repeat' first
  | ((with_reducible refine Q5 fun R1 hR1=>?_);(simp only [go_sem,seval,-List.reduceReplicate]);(repeat' with_reducible refine And.intro ?_ ?_);all_goals first|(refine hR1 _ ?_;clear hR1 R1)|exact ob3)
  | ((with_reducible refine Q4 ?_);refine hR _ ?_;clear hR R;try simp only [go_sem,QO6,Nat.reduceBEq])
  | (with_reducible first|refine J1 ?_|refine J2 ?_|refine J3 ?_|refine J4 ?_|refine J5 ?_|refine J6 ?_|refine J7 ?_|refine J8 (by decide) ?_|refine J9 ?_|refine Q2 ?_|refine Q1 ?_|refine Yc ?_)
  | ((with_reducible refine rg QO6 fun R hR=>?_);simp only [go_sem,QC])
  | ((with_reducible refine QI 8 rfl (fun hb8=>?_) fun hb8=>?_);all_goals (try simp at hb8;try (exfalso;omega)))
  | ((with_reducible refine QI 14 rfl (fun hb14=>?_) fun hb14=>?_);all_goals (try simp at hb14;try (exfalso;omega)))
  | ((with_reducible refine QI 16 rfl (fun hb16=>?_) fun hb16=>?_);all_goals (try simp at hb16;try (exfalso;omega)))
  | ((with_reducible refine QI 18 rfl (fun hb18=>?_) fun hb18=>?_);all_goals (try simp at hb18;try (exfalso;omega)))
  | ((with_reducible refine QI 20 rfl (fun hb20=>?_) fun hb20=>?_);all_goals (try simp at hb20;try (exfalso;omega)))
  | ((with_reducible refine SA.cond rfl ?_ ?_)
     all_goals
      intro hb
      try simp at hb
      try (exfalso;omega))
  | ((with_reducible first|refine ZQ ?_|refine ZP ?_)
     simp only [go_sem,QL,QM,QH,seval]
     refine ⟨rfl,?_⟩
     first|(subst_vars;rfl)|(unfold VU ZC;(repeat (rw [if_neg (by omega)]));(try rw [if_pos (by omega)]);rfl))
def QO5:List (List Nat):=[[2,3,5,6,9],[3,5,6,9,12],[3,5,6,9,12,13],[3,5,6,9,12,13],[20],[10],[3,5,6,9,12,21],[31],[10],[3,5,6,9,12,32],[3,6,11],[62],[10],[3,5,6,12,63],[70],[10],[3,5,6,12,71],[3,5,78],[10],[85],[10],[3,5,6,12,86],[92],[10],[3,5,6,12,93],[100],[10],[3,5,6,12,101],[108],[10],[3,5,6,12,109],[116],[10],[3,6,117],[124],[10],[10]]
theorem UG (p:Prg) (f:Fnc) (letter x:Int) (i:Instr) (hp:p.Fit) (hf:f.Fit) (h112:letter=112→0≤i.b∧i.b<p.funcs.length):Ctr Go.Proofs.Tryz.prog tab 122 [26,108,5,2,104] [3] [p.v,f.v,.int letter,.int x,i.v] [.int (Qd p f letter x i)]:=by
 obtain ⟨hp1,hp2,hp3,hp4⟩:=hp
 obtain ⟨hf1,hf2,hf3⟩:=hf
 refine Ctr.body ok Go.Proofs.Tryz.func122 rfl rfl 125 rfl [.tmp 10] rfl (by simp [QF]) ?_
 simp only [go_sem,Nat.reduceAdd]
 repeat' first
  | ((with_reducible refine SARA.told 19 4 ?_)
     rw [xw (by omega)])
  | ((with_reducible refine SARA.told 10 5 ?_)
     rw [XM (by omega)])
  | ((with_reducible refine Q5 fun R1 hR1=>?_);(simp only [go_sem,seval,-List.reduceReplicate]);(repeat' with_reducible refine And.intro ?_ ?_);all_goals first|(refine hR1 _ ?_;clear hR1 R1)|((first|refine cq (cc (qA _ _)) ?_|refine Y4 (fun hg=>cc (qA _ _)) ?_);all_goals ((try simp only [go_sem,seval,-List.reduceReplicate]);(repeat' with_reducible refine And.intro ?_ ?_);all_goals first|(refine hR1 _ ?_;clear hR1 R1)|exact Vz))|exact Vz)
  | ((with_reducible refine Q4 ?_);refine hR _ ?_;clear hR R;try simp only [go_sem,QO5,Nat.reduceBEq])
  | (with_reducible first|refine J1 ?_|refine J2 ?_|refine J3 ?_|refine J4 ?_|refine J5 ?_|refine J6 ?_|refine J7 ?_|refine J8 (by decide) ?_|refine J9 ?_|refine Q2 ?_|refine Q1 ?_|refine Yc ?_)
  | ((with_reducible refine rg QO5 fun R hR=>?_);simp only [go_sem,QC])
  | ((with_reducible refine QI 13 rfl (fun hb13=>?_) fun hb13=>?_);all_goals (try simp [Qk] at hb13;try (exfalso;omega)))
  | ((with_reducible refine QI 20 rfl (fun hb20=>?_) fun hb20=>?_);all_goals (try simp [Qk] at hb20;try (exfalso;omega)))
  | ((with_reducible refine QI 21 rfl (fun hb21=>?_) fun hb21=>?_);all_goals (try simp [Qk] at hb21;try (exfalso;omega)))
  | ((with_reducible refine QI 31 rfl (fun hb31=>?_) fun hb31=>?_);all_goals (try simp [Qk] at hb31;try (exfalso;omega)))
  | ((with_reducible refine QI 32 rfl (fun hb32=>?_) fun hb32=>?_);all_goals (try simp [Qk] at hb32;try (exfalso;omega)))
  | ((with_reducible refine QI 62 rfl (fun hb62=>?_) fun hb62=>?_);all_goals (try simp [Qk] at hb62;try (exfalso;omega)))
  | ((with_reducible refine QI 63 rfl (fun hb63=>?_) fun hb63=>?_);all_goals (try simp [Qk] at hb63;try (exfalso;omega)))
  | ((with_reducible refine QI 70 rfl (fun hb70=>?_) fun hb70=>?_);all_goals (try simp [Qk] at hb70;try (exfalso;omega)))
  | ((with_reducible refine QI 71 rfl (fun hb71=>?_) fun hb71=>?_);all_goals (try simp [Qk] at hb71;try (exfalso;omega)))
  | ((with_reducible refine QI 78 rfl (fun hb78=>?_) fun hb78=>?_);all_goals (try simp [Qk] at hb78;try (exfalso;omega)))
  | ((with_reducible refine QI 85 rfl (fun hb85=>?_) fun hb85=>?_);all_goals (try simp [Qk] at hb85;try (exfalso;omega)))
  | ((with_reducible refine QI 86 rfl (fun hb86=>?_) fun hb86=>?_);all_goals (try simp [Qk] at hb86;try (exfalso;omega)))
  | ((with_reducible refine QI 92 rfl (fun hb92=>?_) fun hb92=>?_);all_goals (try simp [Qk] at hb92;try (exfalso;omega)))
  | ((with_reducible refine QI 93 rfl (fun hb93=>?_) fun hb93=>?_);all_goals (try simp [Qk] at hb93;try (exfalso;omega)))
  | ((with_reducible refine QI 100 rfl (fun hb100=>?_) fun hb100=>?_);all_goals (try simp [Qk] at hb100;try (exfalso;omega)))
  | ((with_reducible refine QI 101 rfl (fun hb101=>?_) fun hb101=>?_);all_goals (try simp [Qk] at hb101;try (exfalso;omega)))
  | ((with_reducible refine QI 108 rfl (fun hb108=>?_) fun hb108=>?_);all_goals (try simp [Qk] at hb108;try (exfalso;omega)))
  | ((with_reducible refine QI 109 rfl (fun hb109=>?_) fun hb109=>?_);all_goals (try simp [Qk] at hb109;try (exfalso;omega)))
  | ((with_reducible refine QI 116 rfl (fun hb116=>?_) fun hb116=>?_);all_goals (try simp [Qk] at hb116;try (exfalso;omega)))
  | ((with_reducible refine QI 117 rfl (fun hb117=>?_) fun hb117=>?_);all_goals (try simp [Qk] at hb117;try (exfalso;omega)))
  | ((with_reducible refine QI 124 rfl (fun hb124=>?_) fun hb124=>?_);all_goals (try simp [Qk] at hb124;try (exfalso;omega)))
  | ((with_reducible first|refine ZQ ?_|refine ZP ?_)
     simp only [go_sem,QL,QM,QH,seval]
     refine ⟨rfl,?_⟩
     first|(subst_vars;simp [Qd,Qk,Prg.fn,w64, *];done)|(simp only [Qd,Qk,Prg.fn,w64];simp [*];done)|(simp only [Qd,Qk,Prg.fn,w64];simp [*];omega)|(simp_all [Qd,Qk];done))
def QQx:List (List Nat):=[[3,4,5],[3,4,5,21],[6],[3,4,5,7],[3,4,5,7,8],[3,4,5,7,8,9],[3,4,5,7,8,9,35],[3,4,5,7,8,9],[3,4,5,7,8,9,47],[6],[3,4,5,7,8,10],[3,4,5,7,8,10,49],[3,4,5,7,8,10],[3,4,5,7,8,10,11],[3,4,5,7,8,10,11,63],[6],[6]]
theorem QJO (p:Prg) (f:Fnc) (i:Instr) (hp:p.Fit) (hf:f.Fit):Ctr Go.Proofs.Tryz.prog tab 84 [26,108,104] [3] [p.v,f.v,i.v] [.int (Qb p f i)]:=by
 refine Ctr.body ok Go.Proofs.Tryz.func84 rfl rfl 65 rfl [.tmp 6] rfl (by simp [QF]) ?_
 simp only [go_sem,Nat.reduceAdd]
 repeat' first
  | ((with_reducible first|refine Q5 fun R1 hR1=>?_|refine yb fun R1 hR1=>?_);(simp only [go_sem,seval,-List.reduceReplicate,xy,qV]);(repeat' with_reducible refine And.intro ?_ ?_);all_goals first|(refine hR1 _ ?_;clear hR1 R1)|((first|refine V4 (cc (Xr _)) ?_|refine wB (fun hg=>cc (Xr _)) ?_|refine cq (cc (Xr _)) ?_|refine Y4 (fun hg=>cc (Xr _)) ?_|refine V4 (cc (UA _)) ?_|refine wB (fun hg=>cc (UA _)) ?_|refine cq (cc (UA _)) ?_|refine Y4 (fun hg=>cc (UA _)) ?_|refine V4 (cc (xx _)) ?_|refine wB (fun hg=>cc (xx _)) ?_|refine cq (cc (xx _)) ?_|refine Y4 (fun hg=>cc (xx _)) ?_|refine V4 (cc (UG p f _ _ i hp hf (fun h=>Ux hz h))) ?_|refine wB (fun hg=>cc (UG p f _ _ i hp hf (fun h=>Ux hz h))) ?_|refine cq (cc (UG p f _ _ i hp hf (fun h=>Ux hz h))) ?_|refine Y4 (fun hg=>cc (UG p f _ _ i hp hf (fun h=>Ux hz h))) ?_);all_goals ((try simp only [go_sem,seval,-List.reduceReplicate,xy,qV]);(repeat' with_reducible refine And.intro ?_ ?_);all_goals first|(refine hR1 _ ?_;clear hR1 R1)|exact Vz))|exact Vz)
  | ((with_reducible first|refine Q4 ?_|refine ya ?_);refine hR _ ?_;clear hR R;try simp only [go_sem,QQx,Nat.reduceBEq])
  | (with_reducible first|refine J1 ?_|refine J2 ?_|refine J3 ?_|refine J4 ?_|refine J5 ?_|refine J6 ?_|refine J7 ?_|refine J8 (by decide) ?_|refine J9 ?_|refine Xu ?_|refine Q2 ?_|refine Q1 ?_|refine Yc ?_|refine Xt ?_)
  | ((with_reducible refine rg QQx fun R hR=>?_);simp only [go_sem,QC])
  | ((with_reducible refine Ve ok QQ (by kernel_rfl) (by kernel_rfl) QQx ?_);intro R hR;simp only [go_sem,QC])
  | ((with_reducible refine QI 21 rfl (fun hb21=>?_) fun hb21=>?_);all_goals (try simp at hb21;try (exfalso;omega)))
  | ((with_reducible refine QI 35 rfl (fun hb35=>?_) fun hb35=>?_);all_goals (try simp at hb35;try (exfalso;omega)))
  | ((with_reducible refine QI 47 rfl (fun hb47=>?_) fun hb47=>?_);all_goals (try simp at hb47;try (exfalso;omega)))
  | ((with_reducible refine QI 49 rfl (fun hb49=>?_) fun hb49=>?_);all_goals (try simp at hb49;try (exfalso;omega)))
  | ((with_reducible refine QI 63 rfl (fun hb63=>?_) fun hb63=>?_);all_goals (try simp at hb63;try (exfalso;omega)))
  | ((with_reducible refine Ya ?_)
     refine Zv (Qo (by first|rfl|(simp;done)|fail)) (Yb (fun n τ=>∃ (j:Nat),n=4-j∧(j≤4∧(Qp i.op=true∨ZG i.op=true)∧XZ i j=false)∧τ={ tm:=[(3,true,.ptr 0 [] 26),(4,true,.ptr 1 [] 108),(5,true,.ptr 2 [] 104),(7,true,.str (VU i.op)),(8,true,.ptr 3 [] 39),(9,true,.int .i64 j)],ob:=[.var 26 (.data 26 p.v),.var 108 (.data 108 f.v),.var 104 (.data 104 i.v),.var 39 (.data 39 (.agg [.int i.a,.int i.b,.int i.c,.int i.n]))],out:=[],nt:=65 }) (4) ⟨0,rfl,⟨by omega,by cases h1:Qp i.op<;>simp_all,rfl⟩,rfl⟩ ?_)
     rintro n τ ⟨j,hn,⟨hj,hv,hu⟩,rfl⟩
     have h4:=V2 hv)
  | ((with_reducible refine Ya ?_)
     refine Zv (Qo (by first|rfl|(simp;done)|fail)) (Yb (fun n τ=>∃ (j:Nat),n=4-j∧(j≤4∧(Qp i.op=true∨ZG i.op=true)∧XZ i 4=false∧VR p f i j=0)∧τ={ tm:=[(3,true,.ptr 0 [] 26),(4,true,.ptr 1 [] 108),(5,true,.ptr 2 [] 104),(7,true,.str (VU i.op)),(8,true,.ptr 3 [] 39),(10,true,.int .i64 j)],ob:=[.var 26 (.data 26 p.v),.var 108 (.data 108 f.v),.var 104 (.data 104 i.v),.var 39 (.data 39 (.agg [.int i.a,.int i.b,.int i.c,.int i.n]))],out:=[],nt:=65 }) (4) ⟨0,rfl,⟨by omega,hv,(show j=4 by omega)▸hu,rfl⟩,rfl⟩ ?_)
     rintro n τ ⟨j,hn,⟨hj,hv,hu,hz⟩,rfl⟩
     have h4:=V2 hv)
  | ((with_reducible refine WC ?_)
     first
      | (have hlt:j<4:=by omega
         refine Z0 (4-(j+1)) _ (by omega) (Qo (by simp only [QD hlt (by decide:4≤maxLen)])) ⟨j+1,rfl,⟨hlt,hv,?_⟩,rfl⟩
         have e:QS i j=45→i.field j=0:=by simpa only [QS,List.getD_eq_getElem?_getD] using hb47
         rw [X8,hu]
         simpa using e)
      | (have hlt:j<4:=by omega
         refine Z0 (4-(j+1)) _ (by omega) (Qo (by simp only [QD hlt (by decide:4≤maxLen)])) ⟨j+1,rfl,⟨hlt,hv,hu,?_⟩,rfl⟩
         rw [WN,hz,if_neg (by simp)]
         exact hb63))
  | ((with_reducible first|refine ZQ ?_|refine ZP ?_)
     simp only [go_sem,QL,QM,QH,seval]
     first
      | (refine ⟨rfl,?_⟩
         have e:QS i j=45∧¬i.field j=0:=by simpa only [QS,List.getD_eq_getElem?_getD] using hb47
         have h1:XZ i (j+1)=true:=by rw [X8,hu];simp [e]
         have h2:=qC h1 (4-(j+1))
         rw [show j+1+(4-(j+1))=4 by omega] at h2
         simp only [Qb,h2,if_true]
         rw [if_neg (by intro h;rcases hv with hv|hv<;>simp [hv] at h)])
      | (refine ⟨rfl,?_⟩
         have h1:VR p f i (j+1)=Qd p f (QS i j) (i.field j) i:=by rw [WN,hz,if_neg (by simp)]
         have h2:=xA (n:=j+1) (by rw [h1];exact hb63) (4-(j+1))
         rw [show j+1+(4-(j+1))=4 by omega,h1] at h2
         simp only [Qb,h2,hu]
         rw [if_neg (by intro h;rcases hv with hv|hv<;>simp [hv] at h)]
         rfl)
      | (refine ⟨rfl,?_⟩
         have hj4:j=4:=by omega
         subst hj4
         simp only [Qb,hz,hu]
         rw [if_neg (by intro h;rcases hv with hv|hv<;>simp [hv] at h)]
         rfl)
      | (refine ⟨rfl,?_⟩
         simp [Qb,hb21]))
def QQz:List (List Nat):=[[0,3],[3,35],[4],[3,51],[4],[53,54,55],[53,54,55,56],[6,53,54,55],[53,54,55,68],[4],[53,54,55],[4]]
theorem QGp (m:Int) (f:Fnc) (hf:f.Fit):Ctr Go.Proofs.Tryz.prog tab 82 [3,108] [4] [.int m,f.v] [.bool (Yz m f)]:=by
 obtain ⟨hf1,hf2,hf3⟩:=hf
 refine Ctr.body ok Go.Proofs.Tryz.func82 rfl rfl 70 rfl [.tmp 4] rfl (by simp [QF]) ?_
 simp only [go_sem,Nat.reduceAdd]
 repeat' first
  | ((with_reducible refine SARA.told 7 1 ?_)
     rw [XL (by omega)])
  | ((with_reducible refine Q5 fun R1 hR1=>?_);(simp only [go_sem,seval,-List.reduceReplicate]);(repeat' with_reducible refine And.intro ?_ ?_);all_goals first|(refine hR1 _ ?_;clear hR1 R1)|exact Vz)
  | ((with_reducible refine Q4 ?_);refine hR _ ?_;clear hR R;try simp only [go_sem,QQz,Nat.reduceBEq])
  | (with_reducible first|refine J1 ?_|refine J2 ?_|refine J3 ?_|refine J4 ?_|refine J5 ?_|refine J6 ?_|refine J7 ?_|refine J8 (by decide) ?_|refine J9 ?_|refine Xu ?_|refine Q2 ?_|refine Q1 ?_|refine Yc ?_|refine Xt ?_)
  | ((with_reducible refine Qe 8 ?_)
     have hc3:=hf3 _ (W3 (i:=j) (by omega))
     (with_reducible refine rg QQz fun R hR=>?_);simp only [go_sem,QC])
  | ((with_reducible refine rg QQz fun R hR=>?_);simp only [go_sem,QC])
  | ((with_reducible refine QI 35 rfl (fun hb35=>?_) fun hb35=>?_);all_goals (try simp [-List.getD_eq_getElem?_getD] at hb35;try (exfalso;omega)))
  | ((with_reducible refine QI 51 rfl (fun hb51=>?_) fun hb51=>?_);all_goals (try simp [-List.getD_eq_getElem?_getD] at hb51;try (exfalso;omega)))
  | ((with_reducible refine QI 56 rfl (fun hb56=>?_) fun hb56=>?_);all_goals (try simp [-List.getD_eq_getElem?_getD] at hb56;try (exfalso;omega)))
  | ((with_reducible refine QI 68 rfl (fun hb68=>?_) fun hb68=>?_);all_goals (try simp [-List.getD_eq_getElem?_getD] at hb68;try (exfalso;omega)))
  | ((with_reducible refine Ya ?_)
     refine Zv (Qo (by first|rfl|(simp;done)|fail)) (Yb (fun n τ=>∃ (j:Nat),n=f.sels.length-j∧(j≤f.sels.length∧YR f j=true)∧τ={ tm:=[(53,true,.fs 173 (f.sels.map Sel.v) false),(54,true,.int .i64 f.sels.length),(55,true,.int .i64 j)],ob:=[.var 108 (.data 108 f.v)],out:=[],nt:=70 }) (f.sels.length) ⟨0,rfl,⟨by omega,rfl⟩,rfl⟩ ?_)
     rintro n τ ⟨j,hn,⟨hj,hs⟩,rfl⟩)
  | ((with_reducible refine WC ?_)
     first
      | (have hlt:j<f.sels.length:=by omega
         refine Z0 (f.sels.length-(j+1)) _ (by omega) ((WS 1 rfl).trans (Qo (by simp only [QD hlt hf2,List.take_succ_cons,List.take_zero]))) ⟨j+1,rfl,⟨hlt,?_⟩,rfl⟩
         unfold YR at hs ⊢
         rw [wL _ _ hlt,hs]
         simp only [Bool.true_and,Bool.and_eq_true,decide_eq_true_eq]
         omega))
  | ((with_reducible first|refine ZQ ?_|refine ZP ?_)
     simp only [go_sem,QL,QM,QH,seval]
     first
      | (refine ⟨rfl,?_⟩
         have e:=QF9 (f:=fun s:Sel=>decide (1≤s.cases.length)&&decide (s.cases.length≤4)) (b:=f.sels) (i:=j) (by omega) (by simp only [Bool.and_eq_false_iff,decide_eq_false_iff_not];omega)
         unfold Yz YR
         rw [List.take_length,e,if_neg (by omega),if_neg (by omega)])
      | (refine ⟨rfl,?_⟩
         have e:j=f.sels.length:=by omega
         subst e
         unfold Yz
         rw [hs,if_neg (by omega),if_neg (by omega)])
      | (refine ⟨rfl,?_⟩
         unfold Yz
         rw [if_pos (by omega)])
      | (refine ⟨rfl,?_⟩
         unfold Yz
         rw [if_neg (by omega),if_pos (by omega)]))
def QQy:List (List Nat):=[[2,3],[2,3,10,11,12],[2,3,10,11,12,13],[2,3,6,10,11,12],[2,3,6,10,11,12,17,18,19],[2,3,6,10,11,12,17,18,19,20],[2,3,6,8,10,11,12,17,18,19],[2,3,6,8,10,11,12,17,18,19,29],[4],[2,3,6,8,10,11,12,17,18,19,44],[4],[2,3,6,8,10,11,12,17,18,19,55],[4],[2,3,6,10,11,12,17,18,19,62],[4],[2,3,6,10,11,12,17,18,19],[2,3,10,11,12,75],[4],[2,3,10,11,12],[4]]
theorem QE4 (p:Prg) (f:Fnc) (hp:p.Fit) (hf:f.Fit):Ctr Go.Proofs.Tryz.prog tab 83 [26,108] [3] [p.v,f.v] [.int (Z3 p f f.sels.length)]:=by
 obtain ⟨hp1,hp2,hp3,hp4⟩:=hp
 obtain ⟨hf1,hf2,hf3⟩:=hf
 refine Ctr.body ok Go.Proofs.Tryz.func83 rfl rfl 77 rfl [.tmp 4] rfl (by simp [QF]) ?_
 simp only [go_sem,Nat.reduceAdd]
 repeat' first
  | ((with_reducible refine SARA.told 3 1 ?_)
     rw [XL (by omega)])
  | ((with_reducible refine SARA.told 6 1 ?_)
     rw [Wq (by omega)])
  | ((with_reducible refine Q5 fun R1 hR1=>?_);(simp only [go_sem,seval,-List.reduceReplicate]);(repeat' with_reducible refine And.intro ?_ ?_);all_goals first|(refine hR1 _ ?_;clear hR1 R1)|((first|refine cq (cc (qA _ _)) ?_|refine Y4 (fun hg=>cc (qA _ _)) ?_);all_goals ((try simp only [go_sem,seval,-List.reduceReplicate]);(repeat' with_reducible refine And.intro ?_ ?_);all_goals first|(refine hR1 _ ?_;clear hR1 R1)|exact Vz))|exact Vz)
  | ((with_reducible refine Q4 ?_);refine hR _ ?_;clear hR R;try simp only [go_sem,QQy,Nat.reduceBEq])
  | (with_reducible first|refine J1 ?_|refine J2 ?_|refine J3 ?_|refine J4 ?_|refine J5 ?_|refine J6 ?_|refine J7 ?_|refine J8 (by decide) ?_|refine J9 ?_|refine Xu ?_|refine Q2 ?_|refine Q1 ?_|refine Yc ?_|refine Xt ?_)
  | ((with_reducible refine Qe 4 ?_)
     have hc3:=hf3 _ (W3 (i:=i) (by omega))
     (with_reducible refine rg QQy fun R hR=>?_);simp only [go_sem,QC])
  | ((with_reducible refine rg QQy fun R hR=>?_);simp only [go_sem,QC])
  | ((with_reducible refine QI 13 rfl (fun hb13=>?_) fun hb13=>?_);all_goals (try simp [Qk,-List.getD_eq_getElem?_getD] at hb13;try (exfalso;omega)))
  | ((with_reducible refine QI 20 rfl (fun hb20=>?_) fun hb20=>?_);all_goals (try simp [Qk,-List.getD_eq_getElem?_getD] at hb20;try (exfalso;omega)))
  | ((with_reducible refine QI 29 rfl (fun hb29=>?_) fun hb29=>?_);all_goals (try simp [Qk,-List.getD_eq_getElem?_getD] at hb29;try (exfalso;omega)))
  | ((with_reducible refine QI 44 rfl (fun hb44=>?_) fun hb44=>?_);all_goals (try simp [Qk,-List.getD_eq_getElem?_getD] at hb44;try (exfalso;omega)))
  | ((with_reducible refine QI 55 rfl (fun hb55=>?_) fun hb55=>?_);all_goals (try simp [Qk,-List.getD_eq_getElem?_getD] at hb55;try (exfalso;omega)))
  | ((with_reducible refine QI 62 rfl (fun hb62=>?_) fun hb62=>?_);all_goals (try simp [Qk,-List.getD_eq_getElem?_getD] at hb62;try (exfalso;omega)))
  | ((with_reducible refine QI 75 rfl (fun hb75=>?_) fun hb75=>?_);all_goals (try simp [Qk,-List.getD_eq_getElem?_getD] at hb75;try (exfalso;omega)))
  | ((with_reducible refine Ya ?_)
     refine Zv (Qo (by first|rfl|(simp;done)|fail)) (Yb (fun n τ=>∃ (i:Nat),n=f.sels.length-i∧(i≤f.sels.length∧Z3 p f i=0)∧τ={ tm:=[(2,true,.ptr 0 [] 26),(3,true,.ptr 1 [] 108),(10,true,.fs 173 (f.sels.map Sel.v) false),(11,true,.int .i64 f.sels.length),(12,true,.int .i64 i)],ob:=[.var 26 (.data 26 p.v),.var 108 (.data 108 f.v)],out:=[],nt:=77 }) (f.sels.length) ⟨0,rfl,⟨by omega,rfl⟩,rfl⟩ ?_)
     rintro n τ ⟨i,hn,⟨hi,hz⟩,rfl⟩)
  | ((with_reducible refine Ya ?_)
     refine Zv (Qo (by first|rfl|(simp;done)|fail)) (Yb (fun n τ=>∃ (j:Nat),n=(f.sels.getD i default).cases.length-j∧(j≤(f.sels.getD i default).cases.length∧Xj p f (f.sels.getD i default) j=0)∧τ={ tm:=[(2,true,.ptr 0 [] 26),(3,true,.ptr 1 [] 108),(6,true,.ptr 2 [] 173),(10,true,.fs 173 (f.sels.map Sel.v) false),(11,true,.int .i64 f.sels.length),(12,true,.int .i64 i),(17,true,.fs 176 ((f.sels.getD i default).cases.map Cas.v) false),(18,true,.int .i64 (f.sels.getD i default).cases.length),(19,true,.int .i64 j)],ob:=[.var 26 (.data 26 p.v),.var 108 (.data 108 f.v),.var 173 (.data 173 (f.sels.getD i default).v)],out:=[],nt:=77 }) ((f.sels.getD i default).cases.length) ⟨0,rfl,⟨by omega,rfl⟩,rfl⟩ ?_)
     rintro n τ ⟨j,hn,⟨hj,hc⟩,rfl⟩)
  | ((with_reducible refine WC ?_)
     first
      | (have hlt:i<f.sels.length:=by omega
         refine Z0 (f.sels.length-(i+1)) _ (by omega) ((WS 2 rfl).trans (Qo (by simp only [QD hlt hf2,List.take_succ_cons,List.take_zero]))) ⟨i+1,rfl,⟨hlt,?_⟩,rfl⟩
         have hjc:j=(f.sels.getD i default).cases.length:=by omega
         subst hjc
         rw [xf p f hlt,if_neg (fun q=>q hz)]
         simp only [Vu,hc]
         rw [if_neg (fun q=>q rfl),if_neg (by rw [within_false];rintro ⟨q1,q2⟩;have:=hb75 q1;omega)])
      | (have hlt:j<(f.sels.getD i default).cases.length:=by omega
         refine Z0 ((f.sels.getD i default).cases.length-(j+1)) _ (by omega) ((WS 3 rfl).trans (Qo (by simp only [QD hlt hc3,List.take_succ_cons,List.take_zero]))) ⟨j+1,rfl,⟨hlt,?_⟩,rfl⟩
         rw [ym p f _ hlt,if_neg (fun q=>q hc)]
         exact QDQ hb29 hb44 hb55 hb62))
  | ((with_reducible first|refine ZQ ?_|refine ZP ?_)
     simp only [go_sem,QL,QM,QH,seval]
     first
      | (exact ⟨rfl,congrArg (fun e=>some (V.int e)) (Y3 (by omega) hz (by omega) hc (QBn hb29) (by decide)).symm⟩)
      | (exact ⟨rfl,congrArg (fun e=>some (V.int e)) (Y3 (by omega) hz (by omega) hc (QBo hb29 hb44) (by decide)).symm⟩)
      | (exact ⟨rfl,congrArg (fun e=>some (V.int e)) (Y3 (by omega) hz (by omega) hc (QBm hb29 hb44 hb55) (by decide)).symm⟩)
      | (exact ⟨rfl,congrArg (fun e=>some (V.int e)) (Y3 (by omega) hz (by omega) hc (QBl hb29 hb44 hb55 hb62) (by decide)).symm⟩)
      | (have hjc:j=(f.sels.getD i default).cases.length:=by omega
         subst hjc
         refine ⟨rfl,congrArg (fun e=>some (V.int e)) (QAv (by omega) hz ?_ (by decide)).symm⟩
         simp only [Vu,hc]
         rw [if_neg (fun q=>q rfl),if_pos ⟨hb75.1,within_false.2 hb75.2⟩])
      | (have e:i=f.sels.length:=by omega
         subst e
         exact ⟨rfl,congrArg (fun e=>some (V.int e)) hz.symm⟩))
def QJF:List (List Nat):=[[1,3],[1,3,43],[2,3],[1,3,46,47,48],[1,3,46,47,48,49],[1,3,5,46,47,48],[1,3,46,47,48,57],[2,3],[1,3,46,47,48],[1,3,61,62,63],[1,3,61,62,63,64],[1,3,6,7,61,62,63],[1,3,6,7,61,62,63,71],[2,3],[1,3,6,7,8,61,62,63],[1,3,6,7,8,61,62,63,78],[2,3],[1,3,6,7,61,62,63,83,84,85],[1,3,6,7,61,62,63,83,84,85,86],[1,3,6,7,9,10,61,62,63,83,84,85],[1,3,6,7,8,9,61,62,63,83,84,85],[1,3,6,7,8,9,61,62,63,83,84,85,95],[2,3],[1,3,6,7,61,62,63,83,84,85],[1,3,6,7,11,61,62,63],[1,3,6,7,61,62,63,119],[2,3],[1,3,61,62,63],[2,3]]
end Go.Eng.Tryz
