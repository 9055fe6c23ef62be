/- A part of the proof: walks through the program's functions, and what they compute. -/
import Derived.Test.YtmonhjagbhpbeaaGreatDoorPk6
set_option linter.unusedSimpArgs false
set_option linter.unusedVariables false
namespace Go.Eng.Tryz
open Go.RowKit Go.Eng
set_option maxHeartbeats 0
set_option maxRecDepth 20000
theorem Q6:tab.zero 44=zeroGor.v:=rfl
theorem V9:tab.zero 41=zeroChn.v:=rfl
theorem QE:tab.zero 47=zeroStt.v:=rfl
theorem xM {p:Prg} {s:Stt} (hok:p.Ok) (hw:Wf p s) (g:Int):(Qn p s g).length≤5:=by
 unfold Qn
 split
 · rename_i hl
   have hl:=live_iff.1 hl
   split
   · rename_i hop
     have hgi:=hw.gos g hl.1.1 hl.1.2
     have hI:=UB (hw.right hok hl.1.1 hl.1.2) (hw.op_at hok hl.1.1 hl.1.2 hop (by decide))
     have hsh:=hok.short (s.gos.getD g.toNat default).func.toNat (qo p s g).a.toNat (by omega)
     have h4:(Qw p s g).cases.length≤4:=hsh.2
     have:=WR p s (Qw p s g) (Qw p s g).cases.length
     simp only
     split
     · rw [List.length_append];simp;omega
     · omega
   · split<;>simp
 · simp
theorem Yj {p:Prg} {s:Stt} (hok:p.Ok) (hw:Wf p s):∀ n:Nat,(YG p s n).length≤5*n
 | 0=>by simp [YG]
 | n+1=>by
   rw [qL,List.length_append,List.length_map]
   have:=Yj hok hw n
   have:=xM hok hw (n:Int)
   omega
theorem YA:tab.zero 63=zeroEvent.v:=rfl
def qX (l:List Access) (n:Nat):List Access:=(List.range 6).map fun i=>if i<n then l.getD i default else ⟨0,0,false⟩
theorem qW (l:List Access) (n:Nat):(qX l n).length=6:=by simp [qX]
theorem vT (l:List Access) {n:Nat} (hn:n<6):(qX l n).set n (l.getD n default)=qX l (n+1):=by
 unfold qX
 rw [zR hn]
 apply List.map_congr_left
 intro k hk
 by_cases h1:k=n
 · subst h1;simp
 · rw [if_neg h1]
   by_cases h2:k<n
   · rw [if_pos h2,if_pos (by omega)]
   · rw [if_neg h2,if_neg (by omega)]
theorem Event.at7 (e:Event) (d:V):e.v.toList.getD 7 d=.agg (e.touch.map Access.v):=rfl
def QCb (p:Prg) (s:Stt) (x:Pck):Int:=if QK p s x.go=65 then (QA p s x.go).n else 0
theorem Pck.beq (x y:Pck):x.v.beq y.v=decide (x=y):=by
 cases x;cases y;simp [Pck.v,V.beq,V.beqL]
def ZA (p:Prg) (l:List Pck) (b:Bud):List Stt × List Event × Int × Int :=
 if ZR p l.length b≠0 then ([],[],ZR p l.length b,0)
 else if b.steps<l.length then ([],[],2,b.steps)
 else
  let n:=ZY QB p b.fuel (start QB p b.fuel).1 l
  if n<l.length then ([],[],5,n)
  else (Q0 QB p b.fuel (start QB p b.fuel).1 l n,Z7 QB p b.fuel (start QB p b.fuel).1 l n,0,0)
theorem QF6 {p:Prg} {n:Int} {b:Bud} (h:ZR p n b=0):QN p=true∧n≤256∧(0≤b.steps∧b.steps≤256)∧(0≤b.fuel∧b.fuel≤4096):=by
 unfold ZR at h
 by_cases h1:QN p=false
 · rw [if_pos h1] at h;cases h
 rw [if_neg h1] at h
 by_cases h2:256<n
 · rw [if_pos h2] at h;cases h
 rw [if_neg h2] at h
 by_cases h3:Y1 b=false
 · rw [if_pos h3] at h;cases h
 have h3:Y1 b=true:=by simpa using h3
 unfold Y1 at h3
 simp only [Bool.and_eq_true,decide_eq_true_eq] at h3
 exact ⟨by simpa using h1,by omega,by omega,by omega⟩
structure Trc where
 events:List Event
 end_:Stt
 cut:Bool
 deriving Inhabited
def Trc.v (t:Trc):V:=.agg [.list (t.events.map Event.v),t.end_.v,.bool t.cut]
theorem Trc.put0 (t:Trc) (l:List Event):V.setSub t.v 0 (.list (l.map Event.v))=Trc.v ⟨l,t.end_,t.cut⟩:=rfl
theorem Trc.put1 (t:Trc) (s:Stt):V.setSub t.v 1 s.v=Trc.v ⟨t.events,s,t.cut⟩:=rfl
theorem Trc.put2 (t:Trc) (b:Bool):V.setSub t.v 2 (.bool b)=Trc.v ⟨t.events,t.end_,b⟩:=rfl
abbrev Qs (p:Prg) (l:List Pck) (b:Bud):Stt:=QP QB p b.fuel (start QB p b.fuel).1 l l.length
abbrev Qh (p:Prg) (l:List Pck) (b:Bud):List Event:=Z7 QB p b.fuel (start QB p b.fuel).1 l l.length
def Wa (p:Prg) (l:List Pck) (b:Bud):Trc × Int × Int :=
 if (ZA p l b).2.2.1≠0 then (⟨[],zeroStt,false⟩,(ZA p l b).2.2.1,(ZA p l b).2.2.2)
 else (⟨Qh p l b,Qs p l b,decide ((l.length:Int)=b.steps)&&decide (0<(ready p (Qs p l b)).length)⟩,0,0)
structure RunOk (p:Prg) (l:List Pck) (b:Bud):Prop where
 eq:ZA p l b=(Q0 QB p b.fuel (start QB p b.fuel).1 l l.length,Qh p l b,0,0)
 right:QN p=true
 len:l.length≤256
 fuel:0≤b.fuel∧b.fuel≤4096
 stop:ZY QB p b.fuel (start QB p b.fuel).1 l=l.length
theorem vC {p:Prg} {l:List Pck} {b:Bud} (h:(ZA p l b).2.2.1=0):RunOk p l b:=by
 unfold ZA at h
 by_cases h1:ZR p l.length b≠0
 · rw [if_pos h1] at h;exact absurd h h1
 have h1':ZR p l.length b=0:=Decidable.not_not.1 h1
 rw [if_neg h1] at h
 by_cases h2:b.steps<l.length
 · rw [if_pos h2] at h;cases h
 rw [if_neg h2] at h
 by_cases h3:ZY QB p b.fuel (start QB p b.fuel).1 l<l.length
 · simp only [h3,if_true] at h;exact absurd h (by decide)
 have hle:=Uo QB p b.fuel (start QB p b.fuel).1 l
 have e:ZY QB p b.fuel (start QB p b.fuel).1 l=l.length:=by omega
 obtain ⟨q1,q2,_,q4⟩:=QF6 h1'
 refine ⟨?_,q1,by omega,q4,e⟩
 refine (if_neg h1).trans ((if_neg h2).trans ?_)
 simp only [e,Nat.lt_irrefl,if_false]
attribute [go_sem] Trc.put0 Trc.put1 Trc.put2
end Go.Eng.Tryz
