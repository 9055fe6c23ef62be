/- A part of the proof: walks through the program's functions, and what they compute. -/
import Derived.Test.YtedceinkpkoncaaGreatDoorPk42
set_option linter.unusedSimpArgs false
set_option linter.unusedVariables false
namespace Go.Eng.Tryz
open Go.RowKit Go.Eng
set_option maxHeartbeats 0
set_option maxRecDepth 20000
theorem QBx {p:Prg} {l:List Int} {b:Bud} (h:ZF p l.length b=0):(Xc p (QR p l b) b).2.2.1=0:=by
 rw [(yK h).2.2]
end Go.Eng.Tryz
