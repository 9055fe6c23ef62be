/- A part of the proof: walks through the program's functions, and what they compute. -/
import Derived.Test.YtedceinkpkoncaaGreatDoorPk6
set_option linter.unusedSimpArgs false
set_option linter.unusedVariables false
namespace Go.Eng.Tryz
open Go.RowKit Go.Eng
set_option maxHeartbeats 0
set_option maxRecDepth 20000
theorem Qv:tab.zero 34=zeroGor.v:=rfl
theorem Vy:tab.zero 31=zeroChn.v:=rfl
theorem QF:tab.zero 37=zeroStt.v:=rfl
end Go.Eng.Tryz
namespace Go.Eng.Tryz
open Go.RowKit Go.Eng
set_option maxHeartbeats 0
set_option maxRecDepth 20000
theorem Vs {p:Prg} {s:Stt} (hok:p.Ok) (hw:Wf p s) (g:Int):(Qj p s g).length≤5:=by
 unfold Qj
 split
 · rename_i hl
   have hl:=live_iff.1 hl
   split
   · rename_i hop
     have hgi:=hw.gos g hl.1.1 hl.1.2
     have hI:=V0 (hw.right hok hl.1.1 hl.1.2) (hw.op_at hok hl.1.1 hl.1.2 hop (by decide))
     have hsh:=hok.short (s.gos.getD g.toNat default).func.toNat (UZ p s g).a.toNat (by omega)
     have h4:(Qx p s g).cases.length≤4:=hsh.2
     have:=WI p s (Qx p s g) (Qx p s g).cases.length
     simp only
     split
     · rw [List.length_append];simp;omega
     · omega
   · split<;>simp
 · simp
end Go.Eng.Tryz
namespace Go.Eng.Tryz
open Go.RowKit Go.Eng
set_option maxHeartbeats 0
set_option maxRecDepth 20000
theorem ZY:tab.zero 48=zeroEvent.v:=rfl
def qA (l:List Access) (n:Nat):List Access:=(List.range 6).map fun i=>if i<n then l.getD i default else ⟨0,0,false⟩
theorem U9 (l:List Access) (n:Nat):(qA l n).length=6:=by simp [qA]
theorem wP (l:List Access) {n:Nat} (hn:n<6):(qA l n).set n (l.getD n default)=qA l (n+1):=by
 unfold qA
 rw [qh hn]
 apply List.map_congr_left
 intro k hk
 by_cases h1:k=n
 · subst h1;simp
 · rw [if_neg h1]
   by_cases h2:k<n
   · rw [if_pos h2,if_pos (by omega)]
   · rw [if_neg h2,if_neg (by omega)]
theorem Event.at7 (e:Event) (d:V):e.v.toList.getD 7 d=.agg (e.touch.map Access.v):=rfl
def QA9 (p:Prg) (s:Stt) (x:Pck):Int:=if QL p s x.go=65 then (QA p s x.go).n else 0
end Go.Eng.Tryz
