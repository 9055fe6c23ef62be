/- A part of the proof: walks through the program's functions, and what they compute. -/
import Derived.Test.YtmonhjagbhpbeaaGreatDoorPk8
import Derived.Test.YtmonhjagbhpbeaaGreatDoorPk29
set_option linter.unusedSimpArgs false
set_option linter.unusedVariables false
namespace Go.Eng.Tryz
open Go.RowKit Go.Eng
set_option maxHeartbeats 0
set_option maxRecDepth 20000
theorem QIc (p:Prg) (s:Stt) (hp:p.Fit) (hs:s.Shape):Ctr Go.Proofs.Tryz.prog tab 181 [26,47] [4] [p.v,s.v] [.bool (YI p s)]:=by
 have hfit:=hp
 have hcode:=p.code_len hp
 have hsl:=p.sels_len hp
 obtain ⟨hp1,hp2,hp3,hp4⟩:=hp
 obtain ⟨hs1,hs2,hs3,hs4,hs5,hs6⟩:=hs
 refine Ctr.body ok Go.Proofs.Tryz.func181 rfl rfl 167 rfl [.tmp 4] rfl (by simp [QF]) ?_
 simp only [go_sem,Nat.reduceAdd]
 repeat' first
  | ((with_reducible refine SARQ.told 6 10 ?_)
     rw [Yf (by omega)])
  | ((with_reducible refine SARQ.told 6 23 ?_)
     rw [Yf (by omega)])
  | ((with_reducible refine SARA.told 23 10 ?_)
     rw [Zl (by omega)])
  | ((with_reducible first|refine Q5 fun R1 hR1=>?_|refine yb fun R1 hR1=>?_);(simp only [go_sem,seval,-List.reduceReplicate,Q6,V9,QAI,QAJ]);(repeat' with_reducible refine And.intro ?_ ?_);all_goals first|(refine hR1 _ ?_;clear hR1 R1)|((first|refine V4 (cc (Wm p hfit)) ?_|refine wB (fun hg=>cc (Wm p hfit)) ?_|refine cq (cc (Wm p hfit)) ?_|refine Y4 (fun hg=>cc (Wm p hfit)) ?_|refine V4 (cc (W2 p _ hfit hr (hs6 _ (Qj (i:=i) _ (by omega))))) ?_|refine wB (fun hg=>cc (W2 p _ hfit hr (hs6 _ (Qj (i:=i) _ (by omega))))) ?_|refine cq (cc (W2 p _ hfit hr (hs6 _ (Qj (i:=i) _ (by omega))))) ?_|refine Y4 (fun hg=>cc (W2 p _ hfit hr (hs6 _ (Qj (i:=i) _ (by omega))))) ?_|refine V4 (cc (UR p s (i:Int) hfit hr (by simp at hg;omega) hs3 hc2 hgs)) ?_|refine wB (fun hg=>cc (UR p s (i:Int) hfit hr (by simp at hg;omega) hs3 hc2 hgs)) ?_|refine cq (cc (UR p s (i:Int) hfit hr (by simp at hg;omega) hs3 hc2 hgs)) ?_|refine Y4 (fun hg=>cc (UR p s (i:Int) hfit hr (by simp at hg;omega) hs3 hc2 hgs)) ?_);all_goals ((try simp only [go_sem,seval,-List.reduceReplicate,Q6,V9,QAI,QAJ]);(repeat' with_reducible refine And.intro ?_ ?_);all_goals first|(refine hR1 _ ?_;clear hR1 R1)|exact Zp))|exact Zp)
  | ((with_reducible first|refine Q4 ?_|refine ya ?_);refine hR _ ?_;clear hR R;try simp only [go_sem,vM,Nat.reduceBEq])
  | (with_reducible first|refine J1 ?_|refine J2 ?_|refine J3 ?_|refine J4 ?_|refine J5 ?_|refine J6 ?_|refine J7 ?_|refine J8 (by decide) ?_|refine J9 ?_|refine Xu ?_|refine Q2 ?_|refine Q1 ?_|refine Yc ?_|refine Xt ?_)
  | ((with_reducible refine Qe 3 ?_)
     obtain ⟨⟨hr,hc1⟩,hc2⟩:=hb24
     have hok:=Prg.ok hr
     have hsz:=hok.sizes
     unfold Zz at hsz
     (with_reducible refine rg vM fun R hR=>?_);simp only [go_sem,QC])
  | ((with_reducible refine Qe 9 ?_)
     have hgs:Yx p s 6=true:=(show i=6 by omega)▸hz
     (with_reducible refine rg vM fun R hR=>?_);simp only [go_sem,QC])
  | ((with_reducible refine Qe 14 ?_)
     have hvs:VM p s 8=true:=wQ (fun k h1 h2=>hz k h1 (by omega))
     (with_reducible refine rg vM fun R hR=>?_);simp only [go_sem,QC])
  | ((with_reducible refine Qe 20 ?_)
     have hos:YU p s 4=true:=(show i=4 by omega)▸hz
     (with_reducible refine rg vM fun R hR=>?_);simp only [go_sem,QC])
  | ((with_reducible refine Qe 26 ?_)
     have hcs:XT p s 4=true:=(show i=4 by omega)▸hz
     (with_reducible refine rg vM fun R hR=>?_);simp only [go_sem,QC])
  | ((with_reducible refine rg vM fun R hR=>?_);simp only [go_sem,QC])
  | ((with_reducible refine Ve ok QQ (by kernel_rfl) (by kernel_rfl) vM ?_);intro R hR;simp only [go_sem,QC])
  | ((with_reducible refine QI 24 rfl (fun hb24=>?_) fun hb24=>?_);all_goals (try simp [-List.getD_eq_getElem?_getD] at hb24;try (exfalso;omega)))
  | ((with_reducible refine QI 26 rfl (fun hb26=>?_) fun hb26=>?_);all_goals (try simp [-List.getD_eq_getElem?_getD] at hb26;try (exfalso;omega)))
  | ((with_reducible refine QI 54 rfl (fun hb54=>?_) fun hb54=>?_);all_goals (try simp [-List.getD_eq_getElem?_getD] at hb54;try (exfalso;omega)))
  | ((with_reducible refine QI 60 rfl (fun hb60=>?_) fun hb60=>?_);all_goals (try simp [-List.getD_eq_getElem?_getD] at hb60;try (exfalso;omega)))
  | ((with_reducible refine QI 67 rfl (fun hb67=>?_) fun hb67=>?_);all_goals (try simp [-List.getD_eq_getElem?_getD] at hb67;try (exfalso;omega)))
  | ((with_reducible refine QI 69 rfl (fun hb69=>?_) fun hb69=>?_);all_goals (try simp [-List.getD_eq_getElem?_getD] at hb69;try (exfalso;omega)))
  | ((with_reducible refine QI 97 rfl (fun hb97=>?_) fun hb97=>?_);all_goals (try simp [-List.getD_eq_getElem?_getD] at hb97;try (exfalso;omega)))
  | ((with_reducible refine QI 100 rfl (fun hb100=>?_) fun hb100=>?_);all_goals (try simp [-List.getD_eq_getElem?_getD] at hb100;try (exfalso;omega)))
  | ((with_reducible refine QI 128 rfl (fun hb128=>?_) fun hb128=>?_);all_goals (try simp [-List.getD_eq_getElem?_getD] at hb128;try (exfalso;omega)))
  | ((with_reducible refine QI 133 rfl (fun hb133=>?_) fun hb133=>?_);all_goals (try simp [-List.getD_eq_getElem?_getD] at hb133;try (exfalso;omega)))
  | ((with_reducible refine QI 137 rfl (fun hb137=>?_) fun hb137=>?_);all_goals (try simp [-List.getD_eq_getElem?_getD] at hb137;try (exfalso;omega)))
  | ((with_reducible refine QI 153 rfl (fun hb153=>?_) fun hb153=>?_);all_goals (try simp [-List.getD_eq_getElem?_getD] at hb153;try (exfalso;omega)))
  | ((with_reducible refine QI 166 rfl (fun hb166=>?_) fun hb166=>?_);all_goals (try simp [-List.getD_eq_getElem?_getD] at hb166;try (exfalso;omega)))
  | ((with_reducible refine Ya ?_)
     refine Zv (Qo (by first|rfl|(simp;done)|fail)) (Yb (fun n τ=>∃ (i:Nat),n=6-i∧(i≤6∧Yx p s i=true)∧τ={ tm:=[(2,true,.ptr 0 [] 26),(3,true,.ptr 1 [] 47),(25,true,.int .i64 i)],ob:=[.var 26 (.data 26 p.v),.var 47 (.data 47 s.v)],out:=[],nt:=167 }) (6) ⟨0,rfl,⟨by omega,rfl⟩,rfl⟩ ?_)
     rintro n τ ⟨i,hn,⟨hi,hz⟩,rfl⟩)
  | ((with_reducible refine Ya ?_)
     refine Zv (Qo (by first|rfl|(simp;done)|fail)) (Yb (fun n τ=>∃ (i:Nat),n=8-i∧(p.vars.length≤i∧i≤8∧∀ k:Nat,p.vars.length≤k→k<i→s.vars.getD k 0=0)∧τ={ tm:=[(2,true,.ptr 0 [] 26),(3,true,.ptr 1 [] 47),(6,true,.int .i64 i)],ob:=[.var 26 (.data 26 p.v),.var 47 (.data 47 s.v)],out:=[],nt:=167 }) (8-p.vars.length) ⟨p.vars.length,rfl,⟨Nat.le_refl _,by omega,fun k h1 h2=>by omega⟩,rfl⟩ ?_)
     rintro n τ ⟨i,hn,⟨hi0,hi,hz⟩,rfl⟩)
  | ((with_reducible refine Ya ?_)
     refine Zv (Qo (by first|rfl|(simp;done)|fail)) (Yb (fun n τ=>∃ (i:Nat),n=4-i∧(i≤4∧YU p s i=true)∧τ={ tm:=[(2,true,.ptr 0 [] 26),(3,true,.ptr 1 [] 47),(68,true,.int .i64 i)],ob:=[.var 26 (.data 26 p.v),.var 47 (.data 47 s.v)],out:=[],nt:=167 }) (4) ⟨0,rfl,⟨by omega,rfl⟩,rfl⟩ ?_)
     rintro n τ ⟨i,hn,⟨hi,hz⟩,rfl⟩)
  | ((with_reducible refine Ya ?_)
     refine Zv (Qo (by first|rfl|(simp;done)|fail)) (Yb (fun n τ=>∃ (i:Nat),n=4-i∧(i≤4∧XT p s i=true)∧τ={ tm:=[(2,true,.ptr 0 [] 26),(3,true,.ptr 1 [] 47),(99,true,.int .i64 i)],ob:=[.var 26 (.data 26 p.v),.var 47 (.data 47 s.v)],out:=[],nt:=167 }) (4) ⟨0,rfl,⟨by omega,rfl⟩,rfl⟩ ?_)
     rintro n τ ⟨i,hn,⟨hi,hz⟩,rfl⟩)
  | ((with_reducible refine Ya ?_)
     refine Zv (Qo (by first|rfl|(simp;done)|fail)) (Yb (fun n τ=>∃ (i:Nat),n=s.count.toNat-i∧(i≤s.count.toNat∧Y5 s i=true)∧τ={ tm:=[(3,true,.ptr 1 [] 47),(9,true,.int .i64 i)],ob:=[.var 26 (.data 26 p.v),.var 47 (.data 47 s.v)],out:=[],nt:=167 }) (s.count.toNat) ⟨0,rfl,⟨by omega,rfl⟩,rfl⟩ ?_)
     rintro n τ ⟨i,hn,⟨hi,hz⟩,rfl⟩)
  | ((with_reducible refine Ya ?_)
     refine Zv (Qo (by first|rfl|(simp;done)|fail)) (Yb (fun n τ=>∃ (j:Nat),n=4-j∧(j≤4)∧τ={ tm:=[(3,true,.ptr 1 [] 47),(9,true,.int .i64 i),(10,true,.int .i64 (ZF s i j)),(136,true,.int .i64 j)],ob:=[.var 26 (.data 26 p.v),.var 47 (.data 47 s.v)],out:=[],nt:=167 }) (4) ⟨0,rfl,by omega,rfl⟩ ?_)
     rintro n τ ⟨j,hn,hj,rfl⟩)
  | ((with_reducible refine WC ?_)
     first
      | (have hlt:i<6:=by omega
         refine Z0 (6-(i+1)) _ (by omega) (Qo (by simp only [QD hlt (by decide:6≤maxLen)])) ⟨i+1,rfl,⟨hlt,QC3 hz hb54⟩,rfl⟩)
      | (have hlt:i<8:=by omega
         refine Z0 (8-(i+1)) _ (by omega) (Qo (by simp only [QD hlt (by decide:8≤maxLen)])) ⟨i+1,rfl,⟨by omega,hlt,fun k h1 h2=>?_⟩,rfl⟩
         by_cases h3:k<i
         · exact hz k h1 h3
         · have h4:k=i:=by omega
           rw [h4];exact hb67)
      | (have hlt:i<4:=by omega
         refine Z0 (4-(i+1)) _ (by omega) (Qo (by simp only [QD hlt (by decide:4≤maxLen)])) ⟨i+1,rfl,⟨hlt,QFJ hz hb97⟩,rfl⟩)
      | (have hlt:i<4:=by omega
         refine Z0 (4-(i+1)) _ (by omega) (Qo (by simp only [QD hlt (by decide:4≤maxLen)])) ⟨i+1,rfl,⟨hlt,qd hz hb128⟩,rfl⟩)
      | (have hlt:i<s.count.toNat:=by omega
         refine Z0 (s.count.toNat-(i+1)) _ (by omega) (Qo (by simp only [QD (n:=i) (m:=6) (by omega) (by decide)])) ⟨i+1,rfl,⟨hlt,QAN hz ?_⟩,rfl⟩
         rw [show (4:Nat)=j by omega];exact hb166)
      | (have hlt:j<4:=by omega
         have ho:=QCt s i j
         first
          | have q:_∧_:=hb153
            refine Z0 (4-(j+1)) _ (by omega) (Qo (by simp only [QD (n:=j) (m:=4) hlt (by decide),QD (n:=ZF s i j) (m:=4) (by omega) (by decide),QBD hb153])) ⟨j+1,rfl,hlt,rfl⟩
          | refine Z0 (4-(j+1)) _ (by omega) (Qo (by simp only [QD (n:=j) (m:=4) hlt (by decide),zZ hb153])) ⟨j+1,rfl,hlt,rfl⟩))
  | ((with_reducible first|refine ZQ ?_|refine ZP ?_)
     simp only [go_sem,QL,QM,QH,seval]
     first
      | (have q:=hb166.2
         refine ⟨rfl,?_⟩
         rw [show j=4 by omega] at hb166
         rw [YI,QCS (n:=s.count.toNat) (i:=i) (by omega) hb166,Bool.and_false])
      | (have q:_∨_:=hb128
         refine ⟨rfl,?_⟩
         rw [YI,wu (by omega) hb128,Bool.and_false,Bool.false_and])
      | (have q:_∨_:=hb97
         refine ⟨rfl,?_⟩
         rw [YI,QHe (by omega) hb97,Bool.and_false,Bool.false_and,Bool.false_and])
      | (have q:¬_:=hb67
         refine ⟨rfl,?_⟩
         rw [YI,QEs hi0 (by omega) hb67,Bool.and_false,Bool.false_and,Bool.false_and,Bool.false_and])
      | (have q:_∨_:=hb54
         refine ⟨rfl,?_⟩
         rw [YI,QFg (by omega) hb54,Bool.and_false,Bool.false_and,Bool.false_and,Bool.false_and,Bool.false_and])
      | (have q:=hb133
         refine ⟨rfl,?_⟩
         have hw:Y5 s s.count.toNat=true:=(show i=s.count.toNat by omega)▸hz
         simp only [YI,hr,hgs,hvs,hos,hcs,decide_eq_true hc1,decide_eq_true hc2,hw,Bool.and_self])
      | (have q:(_∨_)∨_:=hb24
         refine ⟨rfl,?_⟩
         rcases hb24 with (h|h)|h
         · rw [YI,h];rfl
         · rw [YI,decide_eq_false (show ¬1≤s.count by omega)];cases QN p<;>rfl
         · rw [YI,decide_eq_false (show ¬s.count≤6 by omega)];cases QN p<;>cases decide (1≤s.count)<;>rfl))
def QOP:List (List Nat):=[[0,1,2],[6]]
theorem yI (x k y:Int):Ctr Go.Proofs.Tryz.prog tab 191 [2,3,2] [2] [.int x,.int k,.int y] [.int (QCB x k y)]:=by
 refine Ctr.body ok Go.Proofs.Tryz.func191 rfl rfl 16 rfl [.tmp 6] rfl (by simp [QF]) ?_
 simp only [go_sem,Nat.reduceAdd]
 repeat' first
  | ((with_reducible refine Q5 fun R1 hR1=>?_);(simp only [go_sem,seval,-List.reduceReplicate]);(repeat' with_reducible refine And.intro ?_ ?_);all_goals first|(refine hR1 _ ?_;clear hR1 R1)|exact ob3)
  | ((with_reducible refine Q4 ?_);refine hR _ ?_;clear hR R;try simp only [go_sem,QOP,Nat.reduceBEq])
  | (with_reducible first|refine J1 ?_|refine J2 ?_|refine Q2 ?_|refine Q1 ?_)
  | ((with_reducible refine rg QOP fun R hR=>?_);simp only [go_sem,QC])
  | ((with_reducible first|refine ZQ ?_|refine ZP ?_)
     simp only [go_sem,QL,QM,QH,seval]
     exact ⟨rfl,rfl⟩)
def QOQ:List (List Nat):=[[0,1],[4]]
theorem UV (x k:Int):Ctr Go.Proofs.Tryz.prog tab 190 [2,3] [2] [.int x,.int k] [.int (WL x k)]:=by
 refine Ctr.body ok Go.Proofs.Tryz.func190 rfl rfl 12 rfl [.tmp 4] rfl (by simp [QF]) ?_
 simp only [go_sem,Nat.reduceAdd]
 repeat' first
  | ((with_reducible refine Q5 fun R1 hR1=>?_);(simp only [go_sem,seval,-List.reduceReplicate]);(repeat' with_reducible refine And.intro ?_ ?_);all_goals first|(refine hR1 _ ?_;clear hR1 R1)|exact ob3)
  | ((with_reducible refine Q4 ?_);refine hR _ ?_;clear hR R;try simp only [go_sem,QOQ,Nat.reduceBEq])
  | (with_reducible first|refine J1 ?_|refine J2 ?_|refine Q2 ?_|refine Q1 ?_)
  | ((with_reducible refine rg QOQ fun R hR=>?_);simp only [go_sem,QC])
  | ((with_reducible first|refine ZQ ?_|refine ZP ?_)
     simp only [go_sem,QL,QM,QH,seval]
     exact ⟨rfl,rfl⟩)
def QOO:List (List Nat):=[[0],[3],[2],[2]]
theorem xT (b:Bool):Ctr Go.Proofs.Tryz.prog tab 192 [4] [2] [.bool b] [.int (XY b)]:=by
 refine Ctr.body ok Go.Proofs.Tryz.func192 rfl rfl 4 rfl [.tmp 2] rfl (by simp [QF]) ?_
 simp only [go_sem,Nat.reduceAdd]
 repeat' first
  | ((with_reducible refine Q5 fun R1 hR1=>?_);(simp only [go_sem,seval,-List.reduceReplicate]);(repeat' with_reducible refine And.intro ?_ ?_);all_goals first|(refine hR1 _ ?_;clear hR1 R1)|exact ob3)
  | ((with_reducible refine Q4 ?_);refine hR _ ?_;clear hR R;try simp only [go_sem,QOO,Nat.reduceBEq])
  | (with_reducible first|refine J1 ?_|refine J2 ?_|refine J3 ?_|refine Q2 ?_|refine Q1 ?_)
  | ((with_reducible refine rg QOO fun R hR=>?_);simp only [go_sem,QC])
  | ((with_reducible refine SA.cond rfl ?_ ?_)
     all_goals
      intro hb
      try simp only [decide_eq_true_eq,decide_eq_false_iff_not] at hb)
  | ((with_reducible first|refine ZQ ?_|refine ZP ?_)
     simp only [go_sem,QL,QM,QH,seval]
     subst hb
     exact ⟨rfl,rfl⟩)
def QOJ:List (List Nat):=[[0],[0,4],[2],[2]]
theorem QLl (x:Int):Ctr Go.Proofs.Tryz.prog tab 197 [2] [2] [.int x] [.int (ws x)]:=by
 refine Ctr.body ok Go.Proofs.Tryz.func197 rfl rfl 6 rfl [.tmp 2] rfl (by simp [QF]) ?_
 simp only [go_sem,Nat.reduceAdd]
 repeat' first
  | ((with_reducible refine Q5 fun R1 hR1=>?_);(simp only [go_sem,seval,-List.reduceReplicate]);(repeat' with_reducible refine And.intro ?_ ?_);all_goals first|(refine hR1 _ ?_;clear hR1 R1)|exact ob3)
  | ((with_reducible refine Q4 ?_);refine hR _ ?_;clear hR R;try simp only [go_sem,QOJ,Nat.reduceBEq])
  | (with_reducible first|refine J1 ?_|refine J2 ?_|refine J3 ?_|refine Q2 ?_|refine Q1 ?_)
  | ((with_reducible refine rg QOJ fun R hR=>?_);simp only [go_sem,QC])
  | ((with_reducible refine SA.cond rfl ?_ ?_)
     all_goals
      intro hb
      try simp at hb)
  | ((with_reducible first|refine ZQ ?_|refine ZP ?_)
     simp only [go_sem,QL,QM,QH,seval]
     (repeat' with_reducible refine And.intro ?_ ?_)
     all_goals first|rfl|(simp only [ws];(repeat' split)<;>first|rfl|omega|(exfalso;omega))|(simp [ws, *];done)|(simp [ws, *];omega))
def QOc:List (List Nat):=[[0],[0,8],[2],[10],[2],[2]]
theorem QJs (x:Int):Ctr Go.Proofs.Tryz.prog tab 171 [3] [3] [.int x] [.int (WM x)]:=by
 refine Ctr.body ok Go.Proofs.Tryz.func171 rfl rfl 11 rfl [.tmp 2] rfl (by simp [QF]) ?_
 simp only [go_sem,Nat.reduceAdd]
 repeat' first
  | ((with_reducible refine Q5 fun R1 hR1=>?_);(simp only [go_sem,seval,-List.reduceReplicate]);(repeat' with_reducible refine And.intro ?_ ?_);all_goals first|(refine hR1 _ ?_;clear hR1 R1)|exact ob3)
  | ((with_reducible refine Q4 ?_);refine hR _ ?_;clear hR R;try simp only [go_sem,QOc,Nat.reduceBEq])
  | (with_reducible first|refine J1 ?_|refine J2 ?_|refine J3 ?_|refine Q2 ?_|refine Q1 ?_)
  | ((with_reducible refine rg QOc fun R hR=>?_);simp only [go_sem,QC])
  | ((with_reducible refine SA.cond rfl ?_ ?_)
     all_goals
      intro hb
      try simp at hb)
  | ((with_reducible first|refine ZQ ?_|refine ZP ?_)
     simp only [go_sem,QL,QM,QH,seval]
     (repeat' with_reducible refine And.intro ?_ ?_)
     all_goals first|rfl|(simp only [WM];(repeat' split)<;>first|rfl|omega|(exfalso;omega))|(simp [WM, *];done)|(simp [WM, *];omega))
def QON:List (List Nat):=[[0,1,2],[0,1,2,7],[0,1,2,7,8],[0,1,2,7,8,11],[0,1,2,7,8],[0,1,2,7,8,9],[0,1,2,7,8,9,16],[0,1,2,7,8,9],[0,1,2,7,8,9,20],[0,1,2,7,8,9],[0,1,2,7,8],[6]]
theorem QFv (a m:Int) (sign:Bool):Ctr Go.Proofs.Tryz.prog tab 193 [2,3,4] [2] [.int a,.int m,.bool sign] [.int (zq a m sign)]:=by
 refine Ctr.body ok Go.Proofs.Tryz.func193 rfl rfl 30 rfl [.tmp 6] rfl (by simp [QF]) ?_
 simp only [go_sem,Nat.reduceAdd]
 repeat' first
  | ((with_reducible refine Q5 fun R1 hR1=>?_);(simp only [go_sem,seval,-List.reduceReplicate]);(repeat' with_reducible refine And.intro ?_ ?_);all_goals first|(refine hR1 _ ?_;clear hR1 R1)|((first|refine cq (cc (UV _ _)) ?_|refine cq (cc (yI _ _ _)) ?_);all_goals ((try simp only [go_sem,seval,-List.reduceReplicate]);(repeat' with_reducible refine And.intro ?_ ?_);all_goals first|(refine hR1 _ ?_;clear hR1 R1)|exact Vz))|exact Vz)
  | ((with_reducible refine Q4 ?_);refine hR _ ?_;clear hR R;try simp only [go_sem,QON,Nat.reduceBEq])
  | (with_reducible first|refine J1 ?_|refine J2 ?_|refine J3 ?_|refine J4 ?_|refine J5 ?_|refine J6 ?_|refine J7 ?_|refine J8 (by decide) ?_|refine J9 ?_|refine Xu ?_|refine Q2 ?_|refine Q1 ?_|refine Yc ?_|refine Xt ?_)
  | ((with_reducible refine rg QON fun R hR=>?_);simp only [go_sem,QC])
  | ((with_reducible refine QI 16 rfl (fun hb16=>?_) fun hb16=>?_);all_goals (try simp at hb16))
  | ((with_reducible refine QI 20 rfl (fun hb20=>?_) fun hb20=>?_);all_goals (try simp at hb20))
  | ((with_reducible refine SA.cond rfl ?_ ?_)
     all_goals
      intro hb
      try simp at hb)
  | ((with_reducible refine Ya ?_)
     refine Zv (Qo (by first|rfl|(simp [YT];done))) (Yb (fun n τ=>∃ (k:Nat),n=64-k∧(k≤64)∧τ={ tm:=[(0,true,.int .i64 a),(1,true,.int .i64 m),(2,true,.bool sign),(7,true,.int .i64 (YT (QFw a m sign) 0 k)),(8,true,.int .i64 k)],ob:=[],out:=[],nt:=30 }) (64) ⟨0,rfl,by omega,rfl⟩ ?_)
     rintro n τ ⟨k,hn,hk,rfl⟩)
  | ((with_reducible refine WC ?_)
     first
      | (have hk:k<64:=by omega
         have hw:IntKind.i64.wrap ((k:Int)+1)=((k+1:Nat):Int):=QD hk (by decide)
         refine Z0 (64-(k+1)) _ (by omega) (Qo (by simp only [hw,YT];first|rfl|(simp [QFw, *];done)|(simp only [QFw, *];(repeat' split)<;>first|rfl|omega|(exfalso;omega)|(simp_all;done)))) ⟨k+1,rfl,by omega,rfl⟩))
  | ((with_reducible first|refine ZQ ?_|refine ZP ?_)
     simp only [go_sem,QL,QM,QH,seval]
     have hk64:k=64:=by omega
     subst hk64
     exact ⟨rfl,rfl⟩)
def QOL:List (List Nat):=[[0,1,2],[0,1,2,7],[0,1,2,7,8],[0,1,2,7,8,13],[0,1,2,7,8],[0,1,2,7,8,9,10],[0,1,2,7,8,9,10,11],[0,1,2,7,8,9,10,11,22],[0,1,2,7,8,9,10,11,22,23],[0,1,2,7,8,11],[0,1,2,7,8,9,10,11,22,29],[0,1,2,7,8,11],[0,1,2,7,8,9,10,11,22,35],[0,1,2,7,8,11],[0,1,2,7,8,9,10,11,41],[0,1,2,7,8,11],[0,1,2,7,8],[6]]
theorem QMB (op a b:Int):Ctr Go.Proofs.Tryz.prog tab 195 [3,2,2] [2] [.int op,.int a,.int b] [.int (vd op a b)]:=by
 refine Ctr.body ok Go.Proofs.Tryz.func195 rfl rfl 55 rfl [.tmp 6] rfl (by simp [QF]) ?_
 simp only [go_sem,Nat.reduceAdd]
 repeat' first
  | ((with_reducible refine Q5 fun R1 hR1=>?_);(simp only [go_sem,seval,-List.reduceReplicate]);(repeat' with_reducible refine And.intro ?_ ?_);all_goals first|(refine hR1 _ ?_;clear hR1 R1)|((first|refine cq (cc (UV _ _)) ?_|refine cq (cc (yI _ _ _)) ?_|refine cq (cc (xT _)) ?_);all_goals ((try simp only [go_sem,seval,-List.reduceReplicate]);(repeat' with_reducible refine And.intro ?_ ?_);all_goals first|(refine hR1 _ ?_;clear hR1 R1)|exact Vz))|exact Vz)
  | ((with_reducible refine Q4 ?_);refine hR _ ?_;clear hR R;try simp only [go_sem,QOL,Nat.reduceBEq])
  | (with_reducible first|refine J1 ?_|refine J2 ?_|refine J3 ?_|refine J4 ?_|refine J5 ?_|refine J6 ?_|refine J7 ?_|refine J8 (by decide) ?_|refine J9 ?_|refine Xu ?_|refine Q2 ?_|refine Q1 ?_|refine Yc ?_|refine Xt ?_)
  | ((with_reducible refine rg QOL fun R hR=>?_);simp only [go_sem,QC])
  | ((with_reducible refine QI 23 rfl (fun hb23=>?_) fun hb23=>?_);all_goals (try simp at hb23))
  | ((with_reducible refine QI 29 rfl (fun hb29=>?_) fun hb29=>?_);all_goals (try simp at hb29))
  | ((with_reducible refine QI 35 rfl (fun hb35=>?_) fun hb35=>?_);all_goals (try simp at hb35))
  | ((with_reducible refine QI 41 rfl (fun hb41=>?_) fun hb41=>?_);all_goals (try simp at hb41))
  | ((with_reducible refine SA.cond rfl ?_ ?_)
     all_goals
      intro hb
      try simp at hb)
  | ((with_reducible refine Ya ?_)
     refine Zv (Qo (by first|rfl|(simp [YT];done))) (Yb (fun n τ=>∃ (k:Nat),n=64-k∧(k≤64)∧τ={ tm:=[(0,true,.int .i64 op),(1,true,.int .i64 a),(2,true,.int .i64 b),(7,true,.int .i64 (YT (QF4 op a b) 0 k)),(8,true,.int .i64 k)],ob:=[],out:=[],nt:=55 }) (64) ⟨0,rfl,by omega,rfl⟩ ?_)
     rintro n τ ⟨k,hn,hk,rfl⟩)
  | ((with_reducible refine WC ?_)
     first
      | (have hk:k<64:=by omega
         have hw:IntKind.i64.wrap ((k:Int)+1)=((k+1:Nat):Int):=QD hk (by decide)
         refine Z0 (64-(k+1)) _ (by omega) (Qo (by simp only [hw,YT];first|rfl|(simp [QF4,QIJ, *];done)|(simp only [QF4,QIJ, *];(repeat' split)<;>first|rfl|omega|(exfalso;omega)|(simp_all;done)))) ⟨k+1,rfl,by omega,rfl⟩))
  | ((with_reducible first|refine ZQ ?_|refine ZP ?_)
     simp only [go_sem,QL,QM,QH,seval]
     have hk64:k=64:=by omega
     subst hk64
     exact ⟨rfl,rfl⟩)
def QOK:List (List Nat):=[[0,1,2],[0,1,2,7],[0,1,2,7,8],[0,1,2,7,8,11],[0,1,2,7,8],[0,1,2,7,8,9],[0,1,2,7,8,9,24],[0,1,2,7,8,9],[0,1,2,7,8],[6]]
theorem QIt (a b c:Int):Ctr Go.Proofs.Tryz.prog tab 196 [2,2,2] [2] [.int a,.int b,.int c] [.int (qG a b c)]:=by
 refine Ctr.body ok Go.Proofs.Tryz.func196 rfl rfl 35 rfl [.tmp 6] rfl (by simp [QF]) ?_
 simp only [go_sem,Nat.reduceAdd]
 repeat' first
  | ((with_reducible refine Q5 fun R1 hR1=>?_);(simp only [go_sem,seval,-List.reduceReplicate]);(repeat' with_reducible refine And.intro ?_ ?_);all_goals first|(refine hR1 _ ?_;clear hR1 R1)|((first|refine cq (cc (UV _ _)) ?_|refine cq (cc (yI _ _ _)) ?_);all_goals ((try simp only [go_sem,seval,-List.reduceReplicate]);(repeat' with_reducible refine And.intro ?_ ?_);all_goals first|(refine hR1 _ ?_;clear hR1 R1)|exact Vz))|exact Vz)
  | ((with_reducible refine Q4 ?_);refine hR _ ?_;clear hR R;try simp only [go_sem,QOK,Nat.reduceBEq])
  | (with_reducible first|refine J1 ?_|refine J2 ?_|refine J3 ?_|refine J4 ?_|refine J5 ?_|refine J6 ?_|refine J7 ?_|refine J8 (by decide) ?_|refine J9 ?_|refine Xu ?_|refine Q2 ?_|refine Q1 ?_|refine Yc ?_|refine Xt ?_)
  | ((with_reducible refine rg QOK fun R hR=>?_);simp only [go_sem,QC])
  | ((with_reducible refine QI 24 rfl (fun hb24=>?_) fun hb24=>?_);all_goals (try simp at hb24))
  | ((with_reducible refine SA.cond rfl ?_ ?_)
     all_goals
      intro hb
      try simp at hb)
  | ((with_reducible refine Ya ?_)
     refine Zv (Qo (by first|rfl|(simp [YT];done))) (Yb (fun n τ=>∃ (k:Nat),n=64-k∧(k≤64)∧τ={ tm:=[(0,true,.int .i64 a),(1,true,.int .i64 b),(2,true,.int .i64 c),(7,true,.int .i64 (YT (QAp a b c) 0 k)),(8,true,.int .i64 k)],ob:=[],out:=[],nt:=35 }) (64) ⟨0,rfl,by omega,rfl⟩ ?_)
     rintro n τ ⟨k,hn,hk,rfl⟩)
  | ((with_reducible refine WC ?_)
     first
      | (have hk:k<64:=by omega
         have hw:IntKind.i64.wrap ((k:Int)+1)=((k+1:Nat):Int):=QD hk (by decide)
         refine Z0 (64-(k+1)) _ (by omega) (Qo (by simp only [hw,YT];first|rfl|(simp [QAp, *];done)|(simp only [QAp, *];(repeat' split)<;>first|rfl|omega|(exfalso;omega)|(simp_all;done)))) ⟨k+1,rfl,by omega,rfl⟩))
  | ((with_reducible first|refine ZQ ?_|refine ZP ?_)
     simp only [go_sem,QL,QM,QH,seval]
     have hk64:k=64:=by omega
     subst hk64
     exact ⟨rfl,rfl⟩)
def QOM:List (List Nat):=[[0,1],[0,1,6],[0,1,6,7],[0,1,6,7,8],[0,1,6,7,8,12],[0,1,6,7,8],[0,1,6,7,8],[0,1,6,7,8],[0,1,6,7,8,26],[0,1,6,7,8,28],[0,1,6,7,8,9],[0,1,6,7,8,9],[0,1,6,7,8,9],[0,1,6,7,8,41],[0,1,6,7,8],[0,1,6,7,8,10],[0,1,6,7,8,10],[0,1,6,7,8,10],[0,1,6,7,8,55],[0,1,6,7,8],[4,5]]
theorem QEq (a b:Int):Ctr Go.Proofs.Tryz.prog tab 194 [2,2] [2,266] [.int a,.int b] [.int (w5 a b).1,.int (w5 a b).2]:=by
 refine Ctr.body ok Go.Proofs.Tryz.func194 rfl rfl 60 rfl [.tmp 4,.tmp 5] rfl (by simp [QF]) ?_
 simp only [go_sem,Nat.reduceAdd]
 repeat' first
  | ((with_reducible refine Q5 fun R1 hR1=>?_);(simp only [go_sem,seval,-List.reduceReplicate]);(repeat' with_reducible refine And.intro ?_ ?_);all_goals first|(refine hR1 _ ?_;clear hR1 R1)|((first|refine cq (cc (UV _ _)) ?_);all_goals ((try simp only [go_sem,seval,-List.reduceReplicate]);(repeat' with_reducible refine And.intro ?_ ?_);all_goals first|(refine hR1 _ ?_;clear hR1 R1)|exact Vz))|exact Vz)
  | ((with_reducible refine Q4 ?_);refine hR _ ?_;clear hR R;try simp only [go_sem,QOM,Nat.reduceBEq])
  | (with_reducible first|refine J1 ?_|refine J2 ?_|refine J3 ?_|refine J4 ?_|refine J5 ?_|refine J6 ?_|refine J7 ?_|refine J8 (by decide) ?_|refine J9 ?_|refine Xu ?_|refine Q2 ?_|refine Q1 ?_|refine Yc ?_|refine Xt ?_)
  | ((with_reducible refine rg QOM fun R hR=>?_);simp only [go_sem,QC])
  | ((with_reducible refine QI 26 rfl (fun hb26=>?_) fun hb26=>?_);all_goals (try simp at hb26))
  | ((with_reducible refine QI 28 rfl (fun hb28=>?_) fun hb28=>?_);all_goals (try simp at hb28))
  | ((with_reducible refine QI 41 rfl (fun hb41=>?_) fun hb41=>?_);all_goals (try simp at hb41))
  | ((with_reducible refine QI 55 rfl (fun hb55=>?_) fun hb55=>?_);all_goals (try simp at hb55))
  | ((with_reducible refine SA.cond rfl ?_ ?_)
     all_goals
      intro hb
      try simp at hb)
  | ((with_reducible refine Ya ?_)
     refine Zv (Qo (by first|rfl|(simp [YT];done))) (Yb (fun n τ=>∃ (k:Nat),n=64-k∧(k≤64)∧τ={ tm:=[(0,true,.int .i64 a),(1,true,.int .i64 b),(6,true,.int .i64 (YT (w6 a b) (0,0) k).1),(7,true,.int .u64 (YT (w6 a b) (0,0) k).2),(8,true,.int .i64 (63-(k:Int)))],ob:=[],out:=[],nt:=60 }) (64) ⟨0,rfl,by omega,rfl⟩ ?_)
     rintro n τ ⟨k,hn,hk,rfl⟩)
  | ((with_reducible refine WC ?_)
     first
      | (have hk:k<64:=by omega
         have hw:IntKind.i64.wrap (63-(k:Int)-1)=63-((k+1:Nat):Int):=by rw [Qc (by omega) (by omega)];omega
         refine Z0 (64-(k+1)) _ (by omega) (Qo (by simp only [hw,YT,w6];(repeat' split)<;>first|rfl|omega|(exfalso;omega)|(simp_all;done))) ⟨k+1,rfl,by omega,rfl⟩))
  | ((with_reducible first|refine ZQ ?_|refine ZP ?_)
     simp only [go_sem,QL,QM,QH,seval]
     have hk64:k=64:=by omega
     subst hk64
     exact ⟨⟨rfl,rfl⟩,⟨rfl,rfl⟩⟩)
def QOb:List (List Nat):=[[0,1],[1,13],[1,13,14],[4],[1,13,18],[4],[1,13,22],[1,25],[4],[4],[1,13,29],[1,5],[1,5,6],[1,5,6,32],[1,5,6],[1,5,6],[4],[1,13,41],[1,7],[1,7,8],[1,7,8,50],[1,7,8],[1,7,8],[4],[1,13,56],[1,9],[1,9,10],[1,9,10,65],[1,9,10],[1,9,10],[4],[1,13,71],[1,11],[1,11,12],[1,11,12,74],[1,11,12],[1,11,12],[4],[1,13,85],[4],[1,13,90],[4],[1,13,95],[4],[1,13,99],[4],[1,13,103],[4],[1,13,107],[4],[1,111],[4],[4]]
end Go.Eng.Tryz
