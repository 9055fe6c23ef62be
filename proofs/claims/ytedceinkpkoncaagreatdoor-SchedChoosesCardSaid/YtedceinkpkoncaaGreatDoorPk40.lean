/- A part of the proof: walks through the program's functions, and what they compute. -/
import Derived.Test.YtedceinkpkoncaaGreatDoorPk31
set_option linter.unusedSimpArgs false
set_option linter.unusedVariables false
namespace Go.Eng.Tryz
open Go.RowKit Go.Eng
set_option maxHeartbeats 0
set_option maxRecDepth 20000
theorem UY {p:Prg} {n:Int} {b:Bud} (h:ZF p n b=0):(0≤b.steps∧b.steps≤256)∧(0≤b.fuel∧b.fuel≤4096)∧QP p=true∧n≤256:=by
 have:=Vq h
 exact ⟨this.2.2.2.2,this.2.2.2.1,this.1,this.2.1⟩
end Go.Eng.Tryz
