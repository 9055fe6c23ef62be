/- What the functions of package goodlock compute. -/
import Derived.Test.YtipodgpcbkoopaaE3
namespace Go.Eng
set_option linter.unusedSimpArgs false
set_option linter.unusedVariables false

structure Edge where
  from_ : Int
  to_ : Int
  go : Int
  event : Int
  deriving DecidableEq, Inhabited
def Edge.v (e : Edge) : V := .agg [.int e.from_, .int e.to_, .int e.go, .int e.event]
theorem Edge.v0 (e : Edge) : e.v.toList.getD 0 default = .int e.from_ := rfl
theorem Edge.v1 (e : Edge) : e.v.toList.getD 1 default = .int e.to_ := rfl
theorem Edge.v2 (e : Edge) : e.v.toList.getD 2 default = .int e.go := rfl
theorem Edge.v3 (e : Edge) : e.v.toList.getD 3 default = .int e.event := rfl
theorem Event.v0' (e : Event) : e.v.toList.getD 0 default = .int e.go := rfl
theorem Event.v3 (e : Event) : e.v.toList.getD 3 default = .int e.op := rfl
theorem Event.v5 (e : Event) : e.v.toList.getD 5 default = .int e.val := rfl

theorem rows_get {α : Type} {n i : Nat} (h : i < n) (f : Nat → α) : ((List.range n).map f)[i]? = some (f i) := by simp [h]
theorem rows_getD {α : Type} {n i : Nat} (h : i < n) (f : Nat → α) (d : α) : ((List.range n).map f).getD i d = f i := by simp [List.getD_eq_getElem?_getD, h]
theorem rows_set {α : Type} {n i : Nat} (h : i < n) (f : Nat → α) (x : α) : ((List.range n).map f).set i x = (List.range n).map fun k => if k = i then x else f k := by
  apply List.ext_getElem?
  intro k
  by_cases hk : k < n
  · by_cases hki : k = i
    · subst hki; simp [hk]
    · rw [List.getElem?_set_ne (Ne.symm hki)]; simp [hk, hki]
  · rw [List.getElem?_eq_none (by simp; omega), List.getElem?_eq_none (by simp; omega)]

/-- The first lock that an event touches, or -1. -/
def firstLock : List Access → Int
  | [] => -1
  | a :: l => if a.kind = 2 then a.num else firstLock l
def lockOf (e : Event) : Int := firstLock (e.touch.take e.touches.toNat)

theorem firstLock_hit : ∀ {l : List Access} {j : Nat}, j < l.length → (∀ k, k < j → (l.getD k default).kind ≠ 2) → (l.getD j default).kind = 2 → firstLock l = (l.getD j default).num
  | a :: l, 0, _, _, h => by simp at h; simp [firstLock, h]
  | a :: l, j + 1, hj, h0, h => by
    have ha := h0 0 (by omega)
    simp at ha
    unfold firstLock
    rw [if_neg ha]
    simpa using firstLock_hit (l := l) (j := j) (by simpa using hj) (fun k hk => by simpa using h0 (k + 1) (by omega)) (by simpa using h)
theorem firstLock_miss : ∀ {l : List Access}, (∀ k, k < l.length → (l.getD k default).kind ≠ 2) → firstLock l = -1
  | [], _ => rfl
  | a :: l, h => by
    have ha := h 0 (by simp)
    simp at ha
    unfold firstLock
    rw [if_neg ha]
    exact firstLock_miss fun k hk => by simpa using h (k + 1) (by simpa using hk)

/-- What an event does to its goroutine's locks. -/
def lockStep (l : List Bool) (e : Event) : List Bool :=
  if lockOf e < 0 then l else if e.op = 55 ∨ (e.op = 57 ∧ e.val = 1) then l.set (lockOf e).toNat true else if e.op = 56 then l.set (lockOf e).toNat false else l
def locksTo (t : List Event) (i : Nat) (g : Int) : List Bool := ((t.take i).filter fun e => decide (e.go = g)).foldl lockStep (List.replicate 4 false)
/-- The locks that are held ahead of an event by its goroutine. -/
def heldOf (t : List Event) (i : Nat) : List Bool := locksTo t i (t.getD i default).go

theorem locksTo_zero (t : List Event) (g : Int) : locksTo t 0 g = List.replicate 4 false := rfl
theorem locksTo_succ (t : List Event) {i : Nat} (h : i < t.length) (g : Int) : locksTo t (i + 1) g = if (t.getD i default).go = g then lockStep (locksTo t i g) (t.getD i default) else locksTo t i g := by
  unfold locksTo
  have e : t.getD i default = t[i] := by simp [List.getD_eq_getElem?_getD, h]
  rw [e, List.take_succ_eq_append_getElem h, List.filter_append, List.foldl_append]
  by_cases hg : t[i].go = g
  · simp [hg]
  · simp [hg]
theorem lockStep_len (l : List Bool) (e : Event) : (lockStep l e).length = l.length := by
  unfold lockStep
  repeat' split
  all_goals simp
theorem foldl_len (m : List Event) : ∀ l : List Bool, (m.foldl lockStep l).length = l.length := by
  induction m with
  | nil => intro l; rfl
  | cons e m ih => intro l; rw [List.foldl_cons, ih, lockStep_len]
theorem locksTo_len (t : List Event) (i : Nat) (g : Int) : (locksTo t i g).length = 4 := by
  unfold locksTo; rw [foldl_len]; rfl
theorem heldOf_len (t : List Event) (i : Nat) : (heldOf t i).length = 4 := locksTo_len _ _ _

def boolsV (l : List Bool) : V := .agg (l.map V.bool)

/-- The edges of one event. -/
def edgesAt (t : List Event) (k n : Nat) : List Edge := ((List.range n).filter fun f => (heldOf t k).getD f false && decide ((f : Int) ≠ lockOf (t.getD k default))).map fun (f : Nat) => ⟨f, lockOf (t.getD k default), (t.getD k default).go, k⟩
def takes (e : Event) : Bool := decide (e.op = 55) && decide (0 ≤ lockOf e)
def edgesTo (t : List Event) (i : Nat) : List Edge := (List.range i).flatMap fun k => if takes (t.getD k default) then edgesAt t k 4 else []
def edges (t : List Event) : List Edge := edgesTo t t.length

theorem edgesAt_zero (t : List Event) (k : Nat) : edgesAt t k 0 = [] := rfl
theorem edgesAt_succ (t : List Event) (k n : Nat) : edgesAt t k (n + 1) = edgesAt t k n ++ if (heldOf t k).getD n false && decide ((n : Int) ≠ lockOf (t.getD k default)) then [⟨n, lockOf (t.getD k default), (t.getD k default).go, k⟩] else [] := by
  unfold edgesAt
  rw [List.range_succ, List.filter_append, List.map_append]
  congr 1
  simp only [List.filter_cons, List.filter_nil]
  split <;> rfl
theorem edgesTo_succ (t : List Event) (i : Nat) : edgesTo t (i + 1) = edgesTo t i ++ if takes (t.getD i default) then edgesAt t i 4 else [] := by
  unfold edgesTo
  rw [List.range_succ, List.flatMap_append]
  simp
theorem edgesAt_len (t : List Event) (k n : Nat) : (edgesAt t k n).length ≤ n := by
  unfold edgesAt
  rw [List.length_map]
  exact Nat.le_trans (List.length_filter_le _ _) (by simp)
theorem edgesTo_len (t : List Event) : ∀ i, (edgesTo t i).length ≤ 4 * i
  | 0 => by simp [edgesTo]
  | i + 1 => by
    rw [edgesTo_succ, List.length_append]
    have h1 := edgesTo_len t i
    have h2 : (if takes (t.getD i default) then edgesAt t i 4 else []).length ≤ 4 := by
      split
      · exact edgesAt_len t i 4
      · simp
    omega

/-! ### The order of edges -/

def icmp (a b : Int) : Int := if a < b then -1 else if b < a then 1 else 0
def ecmp (a b : Edge) : Int := if icmp a.event b.event ≠ 0 then icmp a.event b.event else icmp a.from_ b.from_
def elt (a b : Edge) : Prop := a.event < b.event ∨ a.event = b.event ∧ a.from_ < b.from_
theorem ecmp_lt {a b : Edge} (h : elt a b) : ecmp a b < 0 ∧ ¬ ecmp b a < 0 := by
  unfold elt at h
  unfold ecmp icmp
  rcases h with h | ⟨h1, h2⟩
  · rw [if_pos h, if_neg (show ¬ b.event < a.event by omega), if_pos h]; simp
  · simp [h1, Int.lt_irrefl, h2, show ¬ b.from_ < a.from_ by omega]
theorem edgesAt_mem {t : List Event} {k n : Nat} {e : Edge} (h : e ∈ edgesAt t k n) : e.event = k ∧ 0 ≤ e.from_ ∧ e.from_ < n := by
  unfold edgesAt at h
  simp only [List.mem_map, List.mem_filter, List.mem_range] at h
  obtain ⟨f, ⟨hf, _⟩, rfl⟩ := h
  refine ⟨rfl, ?_, ?_⟩ <;> (simp only; omega)
theorem edgesTo_mem {t : List Event} {e : Edge} : ∀ {i : Nat}, e ∈ edgesTo t i → ∃ k : Nat, k < i ∧ takes (t.getD k default) = true ∧ e ∈ edgesAt t k 4
  | 0, h => by simp [edgesTo] at h
  | i + 1, h => by
    rw [edgesTo_succ, List.mem_append] at h
    rcases h with h | h
    · obtain ⟨k, h1, h2⟩ := edgesTo_mem h
      exact ⟨k, by omega, h2⟩
    · split at h
      · rename_i ht; exact ⟨i, by omega, ht, h⟩
      · simp at h
theorem edgesAt_sorted (t : List Event) (k : Nat) : ∀ n, (edgesAt t k n).Pairwise elt
  | 0 => by simp [edgesAt_zero]
  | n + 1 => by
    rw [edgesAt_succ, List.pairwise_append]
    refine ⟨edgesAt_sorted t k n, by split <;> simp, fun a ha b hb => ?_⟩
    have h1 := edgesAt_mem ha
    split at hb
    · simp at hb; subst hb; right; exact ⟨h1.1, h1.2.2⟩
    · simp at hb
theorem edgesTo_sorted (t : List Event) : ∀ i, (edgesTo t i).Pairwise elt
  | 0 => by simp [edgesTo]
  | i + 1 => by
    rw [edgesTo_succ, List.pairwise_append]
    refine ⟨edgesTo_sorted t i, by split; exact edgesAt_sorted t i 4; simp, fun a ha b hb => ?_⟩
    obtain ⟨k, hk, _, ha⟩ := edgesTo_mem ha
    have h1 := edgesAt_mem ha
    split at hb
    · have h2 := edgesAt_mem hb
      left; omega
    · simp at hb
theorem esorted_at {l : List Edge} (hs : l.Pairwise elt) {i j : Nat} (hij : i < j) (hj : j < l.length) : elt (l.getD i default) (l.getD j default) := by
  have := List.pairwise_iff_getElem.1 hs i j (by omega) hj hij
  simpa [List.getD_eq_getElem?_getD, hj, show i < l.length by omega] using this

/-- The locks of a list of truth values. -/
def numsOf (l : List Bool) (n : Nat) : List Int := ((List.range n).filter fun k => l.getD k false).map fun (k : Nat) => (k : Int)
theorem numsOf_succ (l : List Bool) (n : Nat) : numsOf l (n + 1) = numsOf l n ++ if l.getD n false then [(n : Int)] else [] := by
  unfold numsOf
  rw [List.range_succ, List.filter_append, List.map_append]
  congr 1
  simp only [List.filter_cons, List.filter_nil]
  split <;> rfl
theorem numsOf_len (l : List Bool) (n : Nat) : (numsOf l n).length ≤ n := by
  unfold numsOf
  rw [List.length_map]
  exact Nat.le_trans (List.length_filter_le _ _) (by simp)

end Go.Eng
/- What the document's goodlock computes: edges but for their places, and rings that close. -/
namespace Go.Eng
set_option linter.unusedSimpArgs false
set_option linter.unusedVariables false

structure Kind where
  from_ : Int
  to_ : Int
  g : Int
  held : List Bool
  deriving DecidableEq, Inhabited
def Kind.v (k : Kind) : V := .agg [.int k.from_, .int k.to_, .int k.g, .agg (k.held.map V.bool)]
theorem Kind.v0 (e : Kind) : e.v.toList.getD 0 default = .int e.from_ := rfl
theorem Kind.v1 (e : Kind) : e.v.toList.getD 1 default = .int e.to_ := rfl
theorem Kind.v2 (e : Kind) : e.v.toList.getD 2 default = .int e.g := rfl
theorem Kind.v3 (e : Kind) : e.v.toList.getD 3 default = .agg (e.held.map V.bool) := rfl
def kindOf (t : List Event) (e : Edge) : Kind := ⟨e.from_, e.to_, e.go, heldOf t e.event.toNat⟩
def addKind (l : List Kind) (k : Kind) : List Kind := if l.any (fun x => decide (x = k)) then l else l ++ [k]
def kindsTo (t : List Event) (i : Nat) : List Kind := ((edges t).take i).foldl (fun l e => addKind l (kindOf t e)) []
def kinds (t : List Event) : List Kind := kindsTo t (edges t).length
theorem kindsTo_succ (t : List Event) {i : Nat} (h : i < (edges t).length) : kindsTo t (i + 1) = addKind (kindsTo t i) (kindOf t ((edges t).getD i default)) := by
  unfold kindsTo
  have e : (edges t).getD i default = (edges t)[i] := by simp [List.getD_eq_getElem?_getD, h]
  rw [e, List.take_succ_eq_append_getElem h, List.foldl_append]; rfl
theorem addKind_len (l : List Kind) (k : Kind) : (addKind l k).length ≤ l.length + 1 := by unfold addKind; split <;> simp
theorem kindsTo_len (t : List Event) : ∀ i, i ≤ (edges t).length → (kindsTo t i).length ≤ i
  | 0, _ => by simp [kindsTo]
  | i + 1, h => by
    rw [kindsTo_succ t h]
    have h1 := addKind_len (kindsTo t i) (kindOf t ((edges t).getD i default))
    have h2 := kindsTo_len t i (by omega)
    omega
theorem addKind_mem {l : List Kind} {k x : Kind} : x ∈ addKind l k ↔ x ∈ l ∨ x = k := by
  unfold addKind
  split
  · rename_i h
    obtain ⟨y, hy, hyk⟩ := List.any_eq_true.1 h
    have := of_decide_eq_true hyk
    subst this
    constructor
    · exact .inl
    · rintro (h | rfl)
      · exact h
      · exact hy
  · simp
theorem kindsTo_mem {t : List Event} {k : Kind} : ∀ {i : Nat}, i ≤ (edges t).length → (k ∈ kindsTo t i ↔ ∃ e ∈ (edges t).take i, kindOf t e = k)
  | 0, _ => by simp [kindsTo]
  | i + 1, h => by
    rw [kindsTo_succ t h, addKind_mem, kindsTo_mem (by omega)]
    have e : (edges t).getD i default = (edges t)[i] := by simp [List.getD_eq_getElem?_getD, show i < (edges t).length by omega]
    rw [e, List.take_succ_eq_append_getElem (by omega)]
    constructor
    · rintro (⟨x, hx, rfl⟩ | rfl)
      · exact ⟨x, List.mem_append.2 (.inl hx), rfl⟩
      · exact ⟨_, List.mem_append.2 (.inr (by simp)), rfl⟩
    · rintro ⟨x, hx, rfl⟩
      rcases List.mem_append.1 hx with hx | hx
      · exact .inl ⟨x, hx, rfl⟩
      · simp at hx; subst hx; exact .inr rfl
theorem kinds_mem {t : List Event} {k : Kind} : k ∈ kinds t ↔ ∃ e ∈ edges t, kindOf t e = k := by
  unfold kinds
  rw [kindsTo_mem (Nat.le_refl _), List.take_length]

theorem beqL_bool : ∀ (a b : List Bool), V.beqL (a.map V.bool) (b.map V.bool) = decide (a = b)
  | [], [] => rfl
  | [], _ :: _ => rfl
  | _ :: _, [] => rfl
  | x :: a, y :: b => by
    simp only [List.map_cons, V.beqL, V.beq, beqL_bool a b]
    cases x <;> cases y <;> simp
theorem beq_kind (a b : Kind) : V.beq a.v b.v = decide (a = b) := by
  obtain ⟨f, o, g, h⟩ := a
  obtain ⟨f', o', g', h'⟩ := b
  simp only [Kind.v, V.beq, V.beqL, beqL_bool]
  by_cases h1 : f = f' <;> by_cases h2 : o = o' <;> by_cases h3 : g = g' <;> by_cases h4 : h = h' <;> simp [h1, h2, h3, h4]

/-! ### Rings that close -/

def picksK (ring : List Int) (k : Nat) (e : Kind) : Bool := decide (e.from_ = ring.getD k default) && decide (e.to_ = ring.getD ((k + 1) % ring.length) default)
def meets (a b : List Bool) : Bool := (List.range 4).any fun n => a.getD n default && b.getD n default
def merge (a b : List Bool) : List Bool := (List.range 4).map fun n => a.getD n default || b.getD n default
def closes (l : List Kind) (ring : List Int) (apart : Bool) : Nat → Nat → List Bool → List Bool → Bool
  | 0, _, _, _ => true
  | n + 1, i, taken, locks => l.any fun k => picksK ring i k && !taken.getD k.g.toNat default && !(apart && meets locks k.held) && closes l ring apart n (i + 1) (taken.set k.g.toNat true) (merge locks k.held)
end Go.Eng
