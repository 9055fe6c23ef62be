/- The table of types of one program: what is owed of each row, and that this is all. -/
import Derived.Test.YtbfihoopgcmkpaaEngP
namespace Go.Eng
set_option linter.unusedSimpArgs false
set_option linter.unusedVariables false
open Go.RowKit

variable {P : Program} {T : Tab}

def tyOf (l : List (Nat × TyD)) (t : TypeId) : TyD := (l.lookup t).getD .other

theorem tyOf_mem {l : List (Nat × TyD)} {t : TypeId} {d : TyD} (h : tyOf l t = d) (hd : d ≠ .other) : (t, d) ∈ l := by
  unfold tyOf at h
  induction l with
  | nil => simp at h; exact absurd h.symm hd
  | cons x l ih =>
    obtain ⟨s, e⟩ := x
    simp only [List.lookup_cons] at h
    by_cases hts : t = s
    · subst hts; simp at h; subst h; simp
    · have : (t == s) = false := by simpa using hts
      rw [this] at h
      exact List.mem_cons_of_mem _ (ih h)

/-- What is owed of a type's row. -/
structure RowOk (P : Program) (T : Tab) (t : TypeId) (d : TyD) : Prop where
  kind : match d with
    | .int k => P.underlying t = some (.int k) ∧ T.sz t = 1
    | .bool => P.underlying t = some .bool ∧ T.sz t = 1
    | .str => P.underlying t = some .string ∧ T.sz t = 1
    | .struct ts => (∃ fs : Array Field, P.underlying t = some (.struct fs) ∧ fs.toList.map (·.type) = ts ∧ P.stoodInHeld t = false ∧
        (fs.toList.zipIdx.all fun x => x.1.offset == T.offs ts x.2 && decide (0 < T.sz x.1.type) && !(x.1.name == "_") && !(T.ty x.1.type == .other)) = true) ∧ T.sz t = T.szs ts ∧ P.eqGuardType P.depth t = false
    | .arr n e => (P.underlying t = some (.array n e) ∧ 1 < n ∧ 0 < T.sz e ∧ T.ty e ≠ .other) ∧ T.sz t = n * T.sz e ∧ P.eqGuardType P.depth t = false
    | .slice e => (P.underlying t = some (.slice e) ∧ T.ty e ≠ .other) ∧ T.sz t = 1 ∧ 0 < T.sz e
    | .ptr e => (P.underlying t = some (.pointer e) ∧ T.ty e ≠ .other) ∧ T.sz t = 1
    | .fn => (∃ a b c, P.underlying t = some (.func a b c)) ∧ T.sz t = 1
    | .other => False
  info : ∃ z, (P.info? t).map (fun i => (i.size, i.bytes, i.zero)) = some (T.sz t, T.by_ t, some z) ∧ z.cells.size = T.sz t ∧ (z.cells.toList.all fun c => c.oneCell') = true ∧
    (if d.isAgg then z = .agg z.cells else z.oneCell' = true) ∧ (d ≠ .fn → (∀ e, d ≠ .ptr e) → ∀ w F, Fits T w F t (T.zero t) z.cells.toList) ∧ (d = .fn → z = .nilFunc) ∧ (∀ e, d = .slice e → z = .slice none 0 0)

theorem tabOk {l : List (Nat × TyD)} (hty : T.ty = tyOf l) (h : ∀ p ∈ l, RowOk P T p.1 p.2) : TabOk P T := by
  have at_ : ∀ {t d}, T.ty t = d → d ≠ .other → RowOk P T t d := fun {t d} ht hd => h (t, d) (tyOf_mem (by rw [← hty]; exact ht) hd)
  refine ⟨⟨?_, ?_, ?_, ?_, ?_, ?_, ?_, ?_⟩, ?_, ?_, ?_, ?_, ?_, ?_, ?_, ?_, ?_, ?_⟩
  · exact fun t k ht => (at_ ht (by simp)).kind.2
  · exact fun t ht => (at_ ht (by simp)).kind.2
  · exact fun t ht => (at_ ht (by simp)).kind.2
  · exact fun t e ht => (at_ ht (by simp)).kind.2
  · exact fun t e ht => (at_ ht (by simp)).kind.2
  · exact fun t ht => (at_ ht (by simp)).kind.2
  · exact fun t ts ht => (at_ ht (by simp)).kind.2.1
  · exact fun t n e ht => by rw [szs_replicate]; exact (at_ ht (by simp)).kind.2.1
  · exact fun t k ht => (at_ ht (by simp)).kind.1
  · exact fun t ht => (at_ ht (by simp)).kind.1
  · exact fun t ht => (at_ ht (by simp)).kind.1
  · intro t ts ht
    obtain ⟨⟨fs, h1, h2, h3, h4⟩, _⟩ := (at_ ht (by simp)).kind
    refine ⟨fs, h1, h2, h3, fun k f hf => ?_⟩
    have hm : (f, k) ∈ fs.toList.zipIdx := by
      rw [List.mem_iff_getElem?]
      exact ⟨k, by simp [hf]⟩
    have := List.all_eq_true.1 h4 _ hm
    simp only [Bool.and_eq_true, beq_iff_eq, decide_eq_true_eq, Bool.not_eq_true'] at this
    obtain ⟨⟨⟨a, b⟩, c⟩, d⟩ := this
    exact ⟨a, b, c, by simpa using d⟩
  · exact fun t n e ht => (at_ ht (by simp)).kind.1
  · exact fun t e ht => (at_ ht (by simp)).kind.1
  · exact fun t e ht => (at_ ht (by simp)).kind.1
  · exact fun t ht => (at_ ht (by simp)).kind.1
  · intro t ht
    cases hd : T.ty t with
    | struct ts => exact (at_ hd (by simp)).kind.2.2
    | arr n e => exact (at_ hd (by simp)).kind.2.2
    | _ => rw [hd] at ht; cases ht
  · intro t ht
    obtain ⟨z, h1, h2, h3, h4, h5, h6, h7⟩ := (at_ rfl ht).info
    cases hi : P.info? t with
    | none => rw [hi] at h1; cases h1
    | some i =>
      rw [hi] at h1
      simp at h1
      obtain ⟨a, b, c⟩ := h1
      refine ⟨i, rfl, a, b, z, c, h2, fun c hc => ?_, h4, h5, h6, h7⟩
      exact List.all_eq_true.1 h3 c (by simpa using hc)

theorem FitsL.repl {w : World} {F : Nat → Prop} {e : TypeId} {v : V} {cs : List Value} (h : Fits T w F e v cs) : ∀ n, FitsL T w F (List.replicate n e) (List.replicate n v) (List.replicate n cs).flatten
  | 0 => .nil
  | n + 1 => by
    simp only [List.replicate_succ, List.flatten_cons]
    exact .cons h (FitsL.repl h n)

end Go.Eng
