/- A part of the proof: walks through the program's functions, and what they compute. -/
import Derived.Test.YtmonhjagbhpbeaaGreatDoorPk25
set_option linter.unusedSimpArgs false
set_option linter.unusedVariables false
namespace Go.Eng.Tryz
open Go.RowKit Go.Eng
set_option maxHeartbeats 0
set_option maxRecDepth 20000
theorem QIv {p:Prg} {l:List Pck} {b:Bud} (h:(XX p l b).2.2.1=0):ZR p l.length b=0∧(l.length:Int)≤b.steps∧ZY QB p b.fuel (start QB p b.fuel).1 l=l.length:=by
 by_cases h1:ZR p l.length b=0
 · by_cases h2:b.steps<(l.length:Int)
   · rw [yG h1 h2] at h;cases h
   · by_cases h3:ZY QB p b.fuel (start QB p b.fuel).1 l<l.length
     · rw [wY h1 h2 h3] at h;cases h
     · have:=Uo QB p b.fuel (start QB p b.fuel).1 l
       exact ⟨h1,by omega,by omega⟩
 · rw [xg h1] at h;exact absurd h h1
theorem QCk {p:Prg} {l m:List Pck} {b:Bud} (h:(XX p l b).2.2.1=0) (hlen:m.length=l.length) (hok:∀ j,j<l.length→Z6 QB p b.fuel (start QB p b.fuel).1 m j=true):(XX p m b).2.2.1=0:=by
 obtain ⟨h1,h2,_⟩:=QIv h
 rw [← hlen] at h1 h2 hok
 rw [zQ h1 (by omega) (by rw [qF QB hok];omega)]
theorem yP (p:Prg) (l:List Pck) (b:Bud):Qs p l b=QP QB p b.fuel (start QB p b.fuel).1 l l.length:=rfl
end Go.Eng.Tryz
