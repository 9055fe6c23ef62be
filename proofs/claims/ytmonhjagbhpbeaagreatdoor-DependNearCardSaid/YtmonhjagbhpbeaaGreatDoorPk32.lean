/- A part of the proof: walks through the program's functions, and what they compute. -/
import Derived.Test.YtmonhjagbhpbeaaGreatDoorPk24
set_option linter.unusedSimpArgs false
set_option linter.unusedVariables false
namespace Go.Eng.Tryz
open Go.RowKit Go.Eng
set_option maxHeartbeats 0
set_option maxRecDepth 20000
theorem x9 {p:Prg} {l:List Pck} {b:Bud} {i:Nat} (h:RunOk p l b) (hi:i+1<l.length) (hd:ZA (ZR p l b i) (ZR p l b (i+1))=false):Swapped p b.fuel (start QA p b.fuel).1 l i :=
 wA h.right h.fuel h.start hi h.all hd
end Go.Eng.Tryz
