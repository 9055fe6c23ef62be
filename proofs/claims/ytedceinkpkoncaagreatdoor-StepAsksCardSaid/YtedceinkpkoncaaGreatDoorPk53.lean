/- A part of the proof: walks through the program's functions, and what they compute. -/
import Derived.Test.YtedceinkpkoncaaGreatDoorPk6
set_option linter.unusedSimpArgs false
set_option linter.unusedVariables false
namespace Go.Eng.Tryz
open Go.RowKit Go.Eng
theorem QFl:tab.zero 3=z3:=rfl
set_option maxRecDepth 20000
end Go.Eng.Tryz
namespace Go.Eng
def YM (p:Prg) (s:Stt) (n:Nat):List Int:=((List.range n).filter fun (g:Nat)=>ZE s g&&decide ((Qj p s g).length=0)).map fun (g:Nat)=>(g:Int)
end Go.Eng
namespace Go.Eng
def Z7 (p:Prg) (s:Stt) (g:Int):Int:=if ZO p s≠0 then ZO p s else if g<0∨6≤g then 1 else if WE s g=false then 9 else 0
theorem UW {p:Prg} {s:Stt} {g:Int} (h:Z7 p s g=0):ZO p s=0∧(0≤g∧g<6)∧WE s g=true:=by
 unfold Z7 at h
 split at h
 · rename_i h1;exact absurd h h1
 · rename_i h1
   split at h;· cases h
   rename_i h2
   split at h;· cases h
   rename_i h3
   exact ⟨Decidable.not_not.1 h1,by omega,by simpa using h3⟩
end Go.Eng
namespace Go.Eng
theorem QDg {p:Prg} {s:Stt} (hv:Vld p s):Yc p s (Qi s 6)=YM p s s.count.toNat:=by
 have hc:=hv.count
 unfold Yc Qi YM
 rw [List.filter_map,List.filter_filter]
 obtain ⟨k,hk⟩:∃ k,6=s.count.toNat+k:=⟨6-s.count.toNat,by omega⟩
 rw [hk,List.range_add,List.filter_append]
 have h2:(List.map (fun x=>s.count.toNat+x) (List.range k)).filter (fun (a:Nat)=>((fun g=>!decide (0<(Qj p s g).length)) ∘ fun (g:Nat)=>(g:Int)) a&&WE s (a:Int))=[]:=by
  rw [List.filter_eq_nil_iff]
  intro x hx
  obtain ⟨y,hy,rfl⟩:=List.mem_map.1 hx
  have hy:=List.mem_range.1 hy
  have:ZE s ((s.count.toNat+y:Nat):Int)=false:=by
   unfold ZE
   rw [decide_eq_false (show ¬((s.count.toNat+y:Nat):Int)<s.count by omega)];simp
  rw [XR hv (by omega) (by omega)] at this
  show ¬(_&&WE s ((s.count.toNat+y:Nat):Int))=true
  rw [this,Bool.and_false];simp
 rw [h2,List.append_nil]
 congr 1
 apply List.filter_congr
 intro x hx
 have hx:=List.mem_range.1 hx
 show (!decide (0<(Qj p s (x:Int)).length)&&WE s (x:Int))=(ZE s (x:Int)&&decide ((Qj p s (x:Int)).length=0))
 rw [WF (by omega) (by omega),Bool.and_comm]
 congr 1
 by_cases h:(Qj p s (x:Int)).length=0
 · rw [decide_eq_true h,decide_eq_false (show ¬0<(Qj p s (x:Int)).length by omega)];rfl
 · rw [decide_eq_false h,decide_eq_true (show 0<(Qj p s (x:Int)).length by omega)];rfl
end Go.Eng
namespace Go.Eng
def YY (p:Prg) (s:Stt) (g:Int):List Int :=
 if 0<(Qj p s g).length then []
 else if QL p s g=55 then [s.owner.getD (QA p s g).a.toNat 0-1]
 else if QL p s g=63 then [(s.gos.getD g.toNat default).regs.getD (QA p s g).a.toNat 0]
 else if QL p s g=58∧p.chans.getD (QA p s g).a.toNat 0=0 then [(s.chans.getD (QA p s g).a.toNat default).from_]
 else []
end Go.Eng
