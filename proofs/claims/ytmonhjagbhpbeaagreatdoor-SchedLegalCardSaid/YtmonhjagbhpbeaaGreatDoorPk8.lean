/- A part of the proof: walks through the program's functions, and what they compute. -/
import Derived.Test.YtmonhjagbhpbeaaGreatDoorPk6
set_option linter.unusedSimpArgs false
set_option linter.unusedVariables false
namespace Go.Eng.Tryz
open Go.RowKit Go.Eng
set_option maxHeartbeats 0
set_option maxRecDepth 20000
theorem Zd:tab.zero 44=zeroGor.v:=rfl
theorem xC:tab.zero 41=zeroChn.v:=rfl
theorem QK:tab.zero 47=zeroStt.v:=rfl
end Go.Eng.Tryz
namespace Go.Eng.Tryz
open Go.RowKit Go.Eng
set_option maxHeartbeats 0
set_option maxRecDepth 20000
theorem QEi {p:Prg} {s:Stt} (hok:p.Ok) (hw:Wf p s) (g:Int):(Qr p s g).length≤5:=by
 unfold Qr
 split
 · rename_i hl
   have hl:=live_iff.1 hl
   split
   · rename_i hop
     have hgi:=hw.gos g hl.1.1 hl.1.2
     have hI:=zm (hw.right hok hl.1.1 hl.1.2) (hw.op_at hok hl.1.1 hl.1.2 hop (by decide))
     have hsh:=hok.short (s.gos.getD g.toNat default).func.toNat (yH p s g).a.toNat (by omega)
     have h4:(Qu p s g).cases.length≤4:=hsh.2
     have:=Vd p s (Qu p s g) (Qu p s g).cases.length
     simp only
     split
     · rw [List.length_append];simp;omega
     · omega
   · split<;>simp
 · simp
theorem VS {p:Prg} {s:Stt} (hok:p.Ok) (hw:Wf p s):∀ n:Nat,(WT p s n).length≤5*n
 | 0=>by simp [WT]
 | n+1=>by
   rw [zx,List.length_append,List.length_map]
   have:=VS hok hw n
   have:=QEi hok hw (n:Int)
   omega
end Go.Eng.Tryz
namespace Go.Eng.Tryz
open Go.RowKit Go.Eng
set_option maxHeartbeats 0
set_option maxRecDepth 20000
theorem zj:tab.zero 63=zeroEvent.v:=rfl
def zY (l:List Access) (n:Nat):List Access:=(List.range 6).map fun i=>if i<n then l.getD i default else ⟨0,0,false⟩
theorem wz (l:List Access) (n:Nat):(zY l n).length=6:=by simp [zY]
theorem QDL (l:List Access) {n:Nat} (hn:n<6):(zY l n).set n (l.getD n default)=zY l (n+1):=by
 unfold zY
 rw [wU hn]
 apply List.map_congr_left
 intro k hk
 by_cases h1:k=n
 · subst h1;simp
 · rw [if_neg h1]
   by_cases h2:k<n
   · rw [if_pos h2,if_pos (by omega)]
   · rw [if_neg h2,if_neg (by omega)]
theorem Event.at7 (e:Event) (d:V):e.v.toList.getD 7 d=.agg (e.touch.map Access.v):=rfl
def QHM (p:Prg) (s:Stt) (x:Pck):Int:=if QO p s x.go=65 then (QB p s x.go).n else 0
end Go.Eng.Tryz
namespace Go.Eng.Tryz
open Go.RowKit Go.Eng
set_option maxHeartbeats 0
set_option maxRecDepth 20000
theorem Pck.beq (x y:Pck):x.v.beq y.v=decide (x=y):=by
 cases x;cases y;simp [Pck.v,V.beq,V.beqL]
end Go.Eng.Tryz
namespace Go.Eng.Tryz
open Go.RowKit Go.Eng
set_option maxHeartbeats 0
set_option maxRecDepth 20000
def Zp (p:Prg) (l:List Pck) (b:Bud):List Stt × List Event × Int × Int :=
 if Zf p l.length b≠0 then ([],[],Zf p l.length b,0)
 else if b.steps<l.length then ([],[],2,b.steps)
 else
  let n:=Zu QA p b.fuel (start QA p b.fuel).1 l
  if n<l.length then ([],[],5,n)
  else (ZP QA p b.fuel (start QA p b.fuel).1 l n,YZ QA p b.fuel (start QA p b.fuel).1 l n,0,0)
theorem QJD {p:Prg} {n:Int} {b:Bud} (h:Zf p n b=0):QT p=true∧n≤256∧(0≤b.steps∧b.steps≤256)∧(0≤b.fuel∧b.fuel≤4096):=by
 unfold Zf at h
 by_cases h1:QT p=false
 · rw [if_pos h1] at h;cases h
 rw [if_neg h1] at h
 by_cases h2:256<n
 · rw [if_pos h2] at h;cases h
 rw [if_neg h2] at h
 by_cases h3:Z5 b=false
 · rw [if_pos h3] at h;cases h
 have h3:Z5 b=true:=by simpa using h3
 unfold Z5 at h3
 simp only [Bool.and_eq_true,decide_eq_true_eq] at h3
 exact ⟨by simpa using h1,by omega,by omega,by omega⟩
end Go.Eng.Tryz
namespace Go.Eng.Tryz
open Go.RowKit Go.Eng
set_option maxHeartbeats 0
set_option maxRecDepth 20000
structure Trc where
 events:List Event
 end_:Stt
 cut:Bool
 deriving Inhabited
def Trc.v (t:Trc):V:=.agg [.list (t.events.map Event.v),t.end_.v,.bool t.cut]
theorem Trc.put0 (t:Trc) (l:List Event):V.setSub t.v 0 (.list (l.map Event.v))=Trc.v ⟨l,t.end_,t.cut⟩:=rfl
theorem Trc.put1 (t:Trc) (s:Stt):V.setSub t.v 1 s.v=Trc.v ⟨t.events,s,t.cut⟩:=rfl
theorem Trc.put2 (t:Trc) (b:Bool):V.setSub t.v 2 (.bool b)=Trc.v ⟨t.events,t.end_,b⟩:=rfl
abbrev ZE (p:Prg) (l:List Pck) (b:Bud):Stt:=QG QA p b.fuel (start QA p b.fuel).1 l l.length
abbrev ZK (p:Prg) (l:List Pck) (b:Bud):List Event:=YZ QA p b.fuel (start QA p b.fuel).1 l l.length
def VR (p:Prg) (l:List Pck) (b:Bud):Trc × Int × Int :=
 if (Zp p l b).2.2.1≠0 then (⟨[],zeroStt,false⟩,(Zp p l b).2.2.1,(Zp p l b).2.2.2)
 else (⟨ZK p l b,ZE p l b,decide ((l.length:Int)=b.steps)&&decide (0<(ready p (ZE p l b)).length)⟩,0,0)
structure RunOk (p:Prg) (l:List Pck) (b:Bud):Prop where
 eq:Zp p l b=(ZP QA p b.fuel (start QA p b.fuel).1 l l.length,ZK p l b,0,0)
 right:QT p=true
 len:l.length≤256
 fuel:0≤b.fuel∧b.fuel≤4096
 stop:Zu QA p b.fuel (start QA p b.fuel).1 l=l.length
theorem QCi {p:Prg} {l:List Pck} {b:Bud} (h:(Zp p l b).2.2.1=0):RunOk p l b:=by
 unfold Zp at h
 by_cases h1:Zf p l.length b≠0
 · rw [if_pos h1] at h;exact absurd h h1
 have h1':Zf p l.length b=0:=Decidable.not_not.1 h1
 rw [if_neg h1] at h
 by_cases h2:b.steps<l.length
 · rw [if_pos h2] at h;cases h
 rw [if_neg h2] at h
 by_cases h3:Zu QA p b.fuel (start QA p b.fuel).1 l<l.length
 · simp only [h3,if_true] at h;exact absurd h (by decide)
 have hle:=qQ QA p b.fuel (start QA p b.fuel).1 l
 have e:Zu QA p b.fuel (start QA p b.fuel).1 l=l.length:=by omega
 obtain ⟨q1,q2,_,q4⟩:=QJD h1'
 refine ⟨?_,q1,by omega,q4,e⟩
 refine (if_neg h1).trans ((if_neg h2).trans ?_)
 simp only [e,Nat.lt_irrefl,if_false]
attribute [go_sem] Trc.put0 Trc.put1 Trc.put2
end Go.Eng.Tryz
