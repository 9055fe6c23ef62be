/- A part of the proof: walks through the program's functions, and what they compute. -/
import Derived.Test.YtedceinkpkoncaaGreatDoorPk32
set_option linter.unusedSimpArgs false
set_option linter.unusedVariables false
namespace Go.Eng.Tryz
open Go.RowKit Go.Eng
set_option maxHeartbeats 0
set_option maxRecDepth 20000
theorem xt {p:Prg} {l:List Pck} {b:Bud} {X:List Obj} {N:Nat} {f:FuncId} (hN:X.length=N) (hu:Qk N X=true)
 (hf:∀ (s e:V) (tm:Tm) (ob:List Obj) (out:List Tm) (nt:Nat) (K:St→E→Prop),(∀ ys,K { tm:=tm,ob:=ob++ys,out:=out,nt:=nt } (.tup []))→CallE Go.Proofs.Tryz.prog tab { tm:=tm,ob:=ob,out:=out,nt:=nt } f [.data 37 s,.data 48 e] K):Grow p l b (fun _=>X) N 1000000 f []:=by
 refine ⟨fun _=>hN,fun _=>hu,rfl,rfl,.inr (Nat.le_refl _),?_⟩
 intro k tm out nt L K _ _ h1 h2 h3 _ _ _ h
 refine CallE.cut (N+L.length) (hf _ _ _ _ _ _ _ fun ys=>?_)
 have e:List.take (N+L.length) (X++L++ys)=X++L:=by rw [← hN,← List.length_append,List.take_left]
 refine ⟨⟨?_,rfl⟩,?_⟩
 · simp only [St.under,e,Qm,h1,h2,h3,Z8 (Nat.le_add_right _ _) hu,Bool.and_self]
 · simp only [e]
   exact h
def QQN:List (List Nat):=[[]]
theorem QCs (s e:V) (tm:Tm) (ob:List Obj) (out:List Tm) (nt:Nat) (K:St→E→Prop) (h:∀ ys,K { tm:=tm,ob:=ob++ys,out:=out,nt:=nt } (.tup [])):CallE Go.Proofs.Tryz.prog tab { tm:=tm,ob:=ob,out:=out,nt:=nt } 94 [.data 37 s,.data 48 e] K:=by
 have hcode:True→True:=id
 have hsl:True→True:=id
 refine CallE.body ok Go.Proofs.Tryz.func94 rfl rfl 4 rfl [] rfl (by simp) ?_
 simp only [enter,Zl,Nat.zero_add,Nat.reduceAdd]
 repeat' first
  | ((with_reducible refine Q2 fun R1 hR1=>?_);(simp only [go_sem,seval,-List.reduceReplicate,Bool.cond_false_right,Bool.cond_true_left,QF,List.append_assoc]);(repeat' with_reducible refine And.intro ?_ ?_);all_goals first|(refine hR1 _ ?_;clear hR1 R1)|exact ZQ)
  | ((with_reducible refine Q1 ?_);refine hR _ ?_;clear hR R;try simp only [go_sem,QQN,Nat.reduceBEq])
  | (with_reducible first|refine J1 ?_|refine J2 ?_|refine Q0 ?_|refine Qz ?_)
  | ((with_reducible refine rg QQN fun R hR=>?_);simp only [go_sem,QC])
  | ((with_reducible first|refine xS ?_|refine xR ?_)
     simp only [go_sem,QJ,QK,QG,seval]
     exact h _)
def QOI:List (List Nat):=[[1,3,5],[3,8,9],[6,7]]
theorem UR (p:Prg) (l:List Pck) (b:Bud) (hp:p.Fit) (hl:l.length≤maxLen):Ctr Go.Proofs.Tryz.prog tab 52 [26,64,77] [4,49] [p.v,.list (l.map Pck.v),b.v] [.bool (decide ((Xc p l b).2.2.1=0)&&!decide (0<(ready p (ZX p l b)).length)),.int (Xc p l b).2.2.1]:=by
 have hpp:=hp
 have hcode:True→True:=id
 have hsl:True→True:=id
 have hmx:257≤maxLen:=by decide
 refine Ctr.body ok Go.Proofs.Tryz.func52 rfl rfl 28 rfl [.tmp 6,.tmp 7] rfl (by simp [QE]) ?_
 simp only [go_sem,Nat.reduceAdd]
 repeat' first
  | ((with_reducible refine Q2 fun R1 hR1=>?_);(simp only [go_sem,seval,-List.reduceReplicate,Bool.cond_false_right,Bool.cond_true_left,QF]);(repeat' with_reducible refine And.intro ?_ ?_);all_goals first|(refine hR1 _ ?_;clear hR1 R1)|(intro hgf;simp only [hgf];refine hR1 _ ?_;clear hR1 R1)|((first|refine ⟨_,_,rfl,.inr (UI p l b hpp hl (xt (X:=[.var 26 (.data 26 p.v),.var 77 (.data 77 b.v)]) (N:=2) rfl rfl QCs) (by decide) ?_ ?_ ?_ ?_ ?_)⟩|refine ⟨_,_,rfl,.inl ⟨_,fun hg=>CallQ.ctr ok (hwt hg) (by first|rfl|(simp [go_sem,List.take_of_length_le,List.length_map];done)|fail) rfl,?_⟩⟩);all_goals ((try simp only [go_sem,seval,-List.reduceReplicate,Bool.cond_false_right,Bool.cond_true_left,QF]);(repeat' with_reducible refine And.intro ?_ ?_);all_goals first|(refine hR1 _ ?_;clear hR1 R1)|(intro hgf;simp only [hgf];refine hR1 _ ?_;clear hR1 R1)|exact ZQ))|exact ZQ)
  | ((with_reducible refine Q1 ?_);refine hR _ ?_;clear hR R;try simp only [go_sem,QOI,Nat.reduceBEq])
  | (with_reducible first|refine J1 ?_|refine J2 ?_|refine Q0 ?_|refine Qz ?_)
  | ((with_reducible refine QZ 2 ?_)
     have hwt:decide ((Xc p l b).2.2.1=0)=true→Ctr Go.Proofs.Tryz.prog tab 82 [26,37] [4] [p.v,(Xc p l b).2.1.v] [.bool (decide (0<(ready p (ZX p l b)).length))]:=fun hg=>by
      obtain ⟨hOk,hS,_⟩:=WS (of_decide_eq_true hg)
      rw [hS]
      exact We p (ZX p l b) hpp hOk.right hOk.vld
     (with_reducible refine rg QOI fun R hR=>?_);simp only [go_sem,QC])
  | ((with_reducible refine rg QOI fun R hR=>?_);simp only [go_sem,QC])
  | ((with_reducible first|refine ZH ?_|refine ZG ?_)
     simp only [go_sem,QJ,QK,QG,seval]
     first
      | (exact ⟨rfl,rfl⟩)
      | (exact ⟨⟨rfl,rfl⟩,rfl,rfl⟩)
      | (refine ⟨⟨rfl,?_⟩,rfl,?_⟩
         · cases decide ((Xc p l b).2.2.1=0)<;>rfl
         · rfl))
end Go.Eng.Tryz
namespace Go.Eng.Tryz
open Go.RowKit Go.Eng
set_option maxHeartbeats 0
set_option maxRecDepth 20000
theorem vt (n:Nat):decide ((n:Int)=0)=!decide (0<n):=by
 by_cases h:n=0
 · subst h;rfl
 · rw [decide_eq_true (show 0<n by omega),decide_eq_false (show ¬(n:Int)=0 by omega)];rfl
end Go.Eng.Tryz
