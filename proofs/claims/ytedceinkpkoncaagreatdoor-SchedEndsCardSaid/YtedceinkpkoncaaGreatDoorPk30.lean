/- A part of the proof: walks through the program's functions, and what they compute. -/
import Derived.Test.YtedceinkpkoncaaGreatDoorPk29
set_option linter.unusedSimpArgs false
set_option linter.unusedVariables false
namespace Go.Eng.Tryz
open Go.RowKit Go.Eng
set_option maxHeartbeats 0
set_option maxRecDepth 20000
theorem Pck.beq (x y:Pck):x.v.beq y.v=decide (x=y):=by
 cases x;cases y;simp [Pck.v,V.beq,V.beqL]
end Go.Eng.Tryz
namespace Go.Eng.Tryz
open Go.RowKit Go.Eng
set_option maxHeartbeats 0
set_option maxRecDepth 20000
def Qe (p:Prg) (l:List Pck) (b:Bud):List Stt × List Event × Int × Int :=
 if ZF p l.length b≠0 then ([],[],ZF p l.length b,0)
 else if b.steps<l.length then ([],[],2,b.steps)
 else
  let n:=ZN QB p b.fuel (QS QB p b.fuel).1 l
  if n<l.length then ([],[],5,n)
  else (Z4 QB p b.fuel (QS QB p b.fuel).1 l n,Qu QB p b.fuel (QS QB p b.fuel).1 l n,0,0)
theorem QEg {p:Prg} {n:Int} {b:Bud} (h:ZF p n b=0):QP p=true∧n≤256∧(0≤b.steps∧b.steps≤256)∧(0≤b.fuel∧b.fuel≤4096):=by
 unfold ZF at h
 by_cases h1:QP p=false
 · rw [if_pos h1] at h;cases h
 rw [if_neg h1] at h
 by_cases h2:256<n
 · rw [if_pos h2] at h;cases h
 rw [if_neg h2] at h
 by_cases h3:Yo b=false
 · rw [if_pos h3] at h;cases h
 have h3:Yo b=true:=by simpa using h3
 unfold Yo at h3
 simp only [Bool.and_eq_true,decide_eq_true_eq] at h3
 exact ⟨by simpa using h1,by omega,by omega,by omega⟩
end Go.Eng.Tryz
namespace Go.Eng.Tryz
open Go.RowKit Go.Eng
set_option maxHeartbeats 0
set_option maxRecDepth 20000
structure Trc where
 events:List Event
 end_:Stt
 cut:Bool
 deriving Inhabited
def Trc.v (t:Trc):V:=.agg [.list (t.events.map Event.v),t.end_.v,.bool t.cut]
theorem Trc.put0 (t:Trc) (l:List Event):V.setSub t.v 0 (.list (l.map Event.v))=Trc.v ⟨l,t.end_,t.cut⟩:=rfl
theorem Trc.put1 (t:Trc) (s:Stt):V.setSub t.v 1 s.v=Trc.v ⟨t.events,s,t.cut⟩:=rfl
theorem Trc.put2 (t:Trc) (b:Bool):V.setSub t.v 2 (.bool b)=Trc.v ⟨t.events,t.end_,b⟩:=rfl
abbrev ZX (p:Prg) (l:List Pck) (b:Bud):Stt:=QY QB p b.fuel (QS QB p b.fuel).1 l l.length
abbrev Y4 (p:Prg) (l:List Pck) (b:Bud):List Event:=Qu QB p b.fuel (QS QB p b.fuel).1 l l.length
def WT (p:Prg) (l:List Pck) (b:Bud):Trc × Int × Int :=
 if (Qe p l b).2.2.1≠0 then (⟨[],zeroStt,false⟩,(Qe p l b).2.2.1,(Qe p l b).2.2.2)
 else (⟨Y4 p l b,ZX p l b,decide ((l.length:Int)=b.steps)&&decide (0<(ready p (ZX p l b)).length)⟩,0,0)
structure RunOk (p:Prg) (l:List Pck) (b:Bud):Prop where
 eq:Qe p l b=(Z4 QB p b.fuel (QS QB p b.fuel).1 l l.length,Y4 p l b,0,0)
 right:QP p=true
 len:l.length≤256
 fuel:0≤b.fuel∧b.fuel≤4096
 stop:ZN QB p b.fuel (QS QB p b.fuel).1 l=l.length
theorem wB {p:Prg} {l:List Pck} {b:Bud} (h:(Qe p l b).2.2.1=0):RunOk p l b:=by
 unfold Qe at h
 by_cases h1:ZF p l.length b≠0
 · rw [if_pos h1] at h;exact absurd h h1
 have h1':ZF p l.length b=0:=Decidable.not_not.1 h1
 rw [if_neg h1] at h
 by_cases h2:b.steps<l.length
 · rw [if_pos h2] at h;cases h
 rw [if_neg h2] at h
 by_cases h3:ZN QB p b.fuel (QS QB p b.fuel).1 l<l.length
 · simp only [h3,if_true] at h;exact absurd h (by decide)
 have hle:=UP QB p b.fuel (QS QB p b.fuel).1 l
 have e:ZN QB p b.fuel (QS QB p b.fuel).1 l=l.length:=by omega
 obtain ⟨q1,q2,_,q4⟩:=QEg h1'
 refine ⟨?_,q1,by omega,q4,e⟩
 refine (if_neg h1).trans ((if_neg h2).trans ?_)
 simp only [e,Nat.lt_irrefl,if_false]
attribute [go_sem] Trc.put0 Trc.put1 Trc.put2
end Go.Eng.Tryz
