/- A part of the proof: walks through the program's functions, and what they compute. -/
import Derived.Test.YtmonhjagbhpbeaaGreatDoorPk7
set_option linter.unusedSimpArgs false
set_option linter.unusedVariables false
namespace Go.Eng
theorem zu {α:Type} [Inhabited α] (f:α→Bool) (b:List α) {i:Nat} (h:i<b.length):(b.take (i+1)).any f=((b.take i).any f||f (b.getD i default)):=by
 rw [List.take_succ_eq_append_getElem h]
 simp only [List.any_append,List.any_cons,List.any_nil,Bool.or_false,List.getD_eq_getElem?_getD,List.getElem?_eq_getElem h,Option.getD_some]
end Go.Eng
namespace Go.Eng.Tryz
open Go.RowKit Go.Eng
variable {w:World} {F:Nat→Prop}
theorem QC8 (v:V) (cs:List Value) (h:Fits tab w F 56 v cs):∃ a:Pck,v=a.v:=by
 obtain ⟨l,rfl,hl⟩:=h.inv' QPj
 cases hl with|cons h1 hl=>cases hl with|cons h2 hl=>cases hl with|nil =>
  obtain ⟨a1,_,rfl⟩:=Ze U9 _ _ h1
  obtain ⟨a2,_,rfl⟩:=Ze U9 _ _ h2
  exact ⟨⟨a1,a2⟩,rfl⟩
end Go.Eng.Tryz
