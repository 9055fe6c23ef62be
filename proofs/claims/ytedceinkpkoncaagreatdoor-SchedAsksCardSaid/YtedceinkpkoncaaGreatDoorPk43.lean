/- A part of the proof: walks through the program's functions, and what they compute. -/
import Derived.Test.YtedceinkpkoncaaGreatDoorPk7
set_option linter.unusedSimpArgs false
set_option linter.unusedVariables false
namespace Go.Eng.Tryz
open Go.RowKit Go.Eng
variable {w:World} {F:Nat→Prop}
theorem xn (v:V) (cs:List Value) (h:Fits tab w F 39 v cs):∃ a:Pck,v=a.v:=by
 obtain ⟨l,rfl,hl⟩:=h.inv' QND
 cases hl with|cons h1 hl=>cases hl with|cons h2 hl=>cases hl with|nil =>
  obtain ⟨a1,_,rfl⟩:=Qo qS _ _ h1
  obtain ⟨a2,_,rfl⟩:=Qo qS _ _ h2
  exact ⟨⟨a1,a2⟩,rfl⟩
end Go.Eng.Tryz
