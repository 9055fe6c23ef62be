/- A part of the proof: walks through the program's functions, and what they compute. -/
import Derived.Test.YtmonhjagbhpbeaaGreatDoorPk6
set_option linter.unusedSimpArgs false
set_option linter.unusedVariables false
namespace Go.Eng
def zT (p:Prg) (s:Stt) (g:Int):Int:=if XI p s≠0 then XI p s else if g<0∨6≤g then 1 else if Wi s g=false then 9 else 0
theorem QH3 {p:Prg} {s:Stt} {g:Int} (h:zT p s g=0):XI p s=0∧(0≤g∧g<6)∧Wi s g=true:=by
 unfold zT at h
 split at h
 · rename_i h1;exact absurd h h1
 · rename_i h1
   split at h;· cases h
   rename_i h2
   split at h;· cases h
   rename_i h3
   exact ⟨Decidable.not_not.1 h1,by omega,by simpa using h3⟩
end Go.Eng
