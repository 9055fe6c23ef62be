/- The plain law of objects: inserting in order, one by one, comes to what the document lists. -/
import Derived.Test.YtbfihoopgcmkpaaW14
namespace Go.Eng.Try
set_option linter.unusedSimpArgs false
set_option linter.unusedVariables false
open Go.Eng

theorem cmp_zero (a b : Access) : cmp a b = 0 ↔ a.kind = b.kind ∧ a.num = b.num := by
  unfold cmp; split
  · rename_i h; constructor
    · intro h'; cases h'
    · intro h'; omega
  · split
    · rename_i h; simp [h]
    · rename_i h; simp [h]

def hasA (l : List Access) (a : Access) : Bool := l.any fun x => decide (cmp x a = 0)
def lo (l : List Access) (a : Access) : Nat := l.countP fun x => decide (cmp x a < 0)
def orW (x a : Access) : Access := ⟨x.kind, x.num, x.write || a.write⟩
/-- One access more among the objects. -/
def put (l : List Access) (a : Access) : List Access :=
  if hasA l a then l.set (lo l a) (orW (l.getD (lo l a) default) a) else l.take (lo l a) ++ [a] ++ l.drop (lo l a)

def ins : List Access → Access → List Access
  | [], a => [a]
  | x :: l, a => if cmp x a < 0 then x :: ins l a else if cmp x a = 0 then orW x a :: l else a :: x :: l

theorem cmp_neg' (a b : Access) : cmp a b < 0 ↔ lex a b := cmp_neg a b

theorem put_ins : ∀ {l : List Access} (a : Access), l.Pairwise lex → put l a = ins l a
  | [], a, _ => by simp [put, hasA, lo, ins]
  | x :: l, a, h => by
    rw [List.pairwise_cons] at h
    have ih := put_ins a h.2
    unfold ins
    by_cases h1 : cmp x a < 0
    · rw [if_pos h1, ← ih]
      have e1 : hasA (x :: l) a = hasA l a := by
        unfold hasA
        rw [List.any_cons, show decide (cmp x a = 0) = false from decide_eq_false (by omega), Bool.false_or]
      have e2 : lo (x :: l) a = lo l a + 1 := by
        unfold lo
        rw [List.countP_cons_of_pos (by simpa using h1)]
      unfold put
      rw [e1, e2]
      cases hasA l a <;> simp
    · rw [if_neg h1]
      have e2 : lo (x :: l) a = 0 := by
        unfold lo
        rw [List.countP_eq_zero]
        intro y hy
        simp only [decide_eq_true_eq, cmp_neg']
        rw [cmp_neg'] at h1
        rcases List.mem_cons.1 hy with rfl | hy
        · exact h1
        · have := h.1 y hy
          unfold lex at *
          omega
      by_cases h2 : cmp x a = 0
      · rw [if_pos h2]
        have e1 : hasA (x :: l) a = true := by simp [hasA, h2]
        unfold put
        rw [e1, e2]; simp
      · rw [if_neg h2]
        have e1 : hasA (x :: l) a = false := by
          unfold hasA
          rw [List.any_eq_false]
          intro y hy
          simp only [decide_eq_true_eq, cmp_zero]
          rw [cmp_neg'] at h1
          rw [cmp_zero] at h2
          rcases List.mem_cons.1 hy with rfl | hy
          · exact h2
          · have := h.1 y hy
            unfold lex at *
            omega
        unfold put
        rw [e1, e2]; simp

theorem ins_mem : ∀ {l : List Access} {a y : Access}, y ∈ ins l a → y ∈ l ∨ (y.kind = a.kind ∧ y.num = a.num)
  | [], a, y, h => by simp [ins] at h; subst h; exact .inr ⟨rfl, rfl⟩
  | x :: l, a, y, h => by
    unfold ins at h
    split at h
    · rcases List.mem_cons.1 h with rfl | h
      · exact .inl (by simp)
      · rcases ins_mem h with h | h
        · exact .inl (by simp [h])
        · exact .inr h
    · split at h
      · rename_i h0
        rw [cmp_zero] at h0
        rcases List.mem_cons.1 h with rfl | h
        · exact .inr h0
        · exact .inl (by simp [h])
      · rcases List.mem_cons.1 h with rfl | h
        · exact .inr ⟨rfl, rfl⟩
        · exact .inl h

theorem ins_sorted : ∀ {l : List Access} (a : Access), l.Pairwise lex → (ins l a).Pairwise lex
  | [], a, _ => by simp [ins]
  | x :: l, a, h => by
    rw [List.pairwise_cons] at h
    unfold ins
    split
    · rename_i h1
      rw [cmp_neg'] at h1
      rw [List.pairwise_cons]
      refine ⟨fun y hy => ?_, ins_sorted a h.2⟩
      rcases ins_mem hy with hy | hy
      · exact h.1 y hy
      · unfold lex at *; omega
    · rename_i h1
      rw [cmp_neg'] at h1
      split
      · rw [List.pairwise_cons]
        exact ⟨fun y hy => h.1 y hy, h.2⟩
      · rename_i h2
        rw [cmp_zero] at h2
        rw [List.pairwise_cons, List.pairwise_cons]
        refine ⟨fun y hy => ?_, h⟩
        rcases List.mem_cons.1 hy with rfl | hy
        · unfold lex at *; omega
        · have := h.1 y hy
          unfold lex at *; omega

theorem ins_len : ∀ (l : List Access) (a : Access), (ins l a).length ≤ l.length + 1
  | [], a => by simp [ins]
  | x :: l, a => by
    unfold ins
    split
    · have := ins_len l a; simp; omega
    · split <;> simp

def hasAt (l : List Access) (k u : Int) : Bool := l.any (isAt k u)
def wr (l : List Access) (k u : Int) : Bool := l.any fun x => isAt k u x && x.write

theorem ins_has : ∀ (l : List Access) (a : Access) (k u : Int), hasAt (ins l a) k u = (hasAt l k u || isAt k u a)
  | [], a, k, u => by simp [ins, hasAt]
  | x :: l, a, k, u => by
    unfold ins
    split
    · have := ins_has l a k u
      unfold hasAt at this ⊢
      rw [List.any_cons, List.any_cons, this, Bool.or_assoc]
    · split
      · rename_i h0
        rw [cmp_zero] at h0
        unfold hasAt
        simp only [List.any_cons]
        have e : isAt k u x = isAt k u a := by simp [isAt, h0]
        have e2 : isAt k u (orW x a) = isAt k u a := by simp [isAt, orW, h0]
        rw [e, e2]
        cases isAt k u a <;> simp
      · unfold hasAt
        simp only [List.any_cons]
        cases isAt k u a <;> cases isAt k u x <;> simp

theorem ins_wr : ∀ (l : List Access) (a : Access) (k u : Int), wr (ins l a) k u = (wr l k u || (isAt k u a && a.write))
  | [], a, k, u => by simp [ins, wr]
  | x :: l, a, k, u => by
    unfold ins
    split
    · have := ins_wr l a k u
      unfold wr at this ⊢
      rw [List.any_cons, List.any_cons, this, Bool.or_assoc]
    · split
      · rename_i h0
        rw [cmp_zero] at h0
        unfold wr
        simp only [List.any_cons]
        have e : isAt k u x = isAt k u a := by simp [isAt, h0]
        have e2 : isAt k u (orW x a) = isAt k u a := by simp [isAt, orW, h0]
        rw [e, e2]
        simp only [orW]
        cases isAt k u a <;> cases x.write <;> cases a.write <;> simp
      · unfold wr
        simp only [List.any_cons]
        cases (isAt k u a && a.write) <;> cases (isAt k u x && x.write) <;> simp

theorem lex_ext : ∀ {l m : List Access}, l.Pairwise lex → m.Pairwise lex → (∀ x, x ∈ l ↔ x ∈ m) → l = m
  | [], [], _, _, _ => rfl
  | [], b :: m, _, _, h => by have := (h b).2 (by simp); simp at this
  | a :: l, [], _, _, h => by have := (h a).1 (by simp); simp at this
  | a :: l, b :: m, h1, h2, h => by
    rw [List.pairwise_cons] at h1 h2
    have ha := (h a).1 (by simp)
    have hb := (h b).2 (by simp)
    have hab : a = b := by
      rcases List.mem_cons.1 ha with e | ha
      · exact e
      · rcases List.mem_cons.1 hb with e | hb
        · exact e.symm
        · have p := h1.1 b hb
          have q := h2.1 a ha
          unfold lex at p q
          omega
    subst hab
    congr 1
    refine lex_ext h1.2 h2.2 fun x => ⟨fun hx => ?_, fun hx => ?_⟩
    · rcases List.mem_cons.1 ((h x).1 (by simp [hx])) with e | hx'
      · subst e; have := h1.1 x hx; unfold lex at this; omega
      · exact hx'
    · rcases List.mem_cons.1 ((h x).2 (by simp [hx])) with e | hx'
      · subst e; have := h2.1 x hx; unfold lex at this; omega
      · exact hx'

theorem lex_one : ∀ {l : List Access}, l.Pairwise lex → ∀ {x y : Access}, x ∈ l → y ∈ l → x.kind = y.kind → x.num = y.num → x = y
  | [], _, x, y, hx, _, _, _ => by simp at hx
  | a :: l, h, x, y, hx, hy, hk, hn => by
    rw [List.pairwise_cons] at h
    rcases List.mem_cons.1 hx with e1 | hx' <;> rcases List.mem_cons.1 hy with e2 | hy'
    · rw [e1, e2]
    · subst e1; have := h.1 y hy'; unfold lex at this; omega
    · subst e2; have := h.1 x hx'; unfold lex at this; omega
    · exact lex_one h.2 hx' hy' hk hn

theorem wr_of {l : List Access} (h : l.Pairwise lex) {x : Access} (hx : x ∈ l) : wr l x.kind x.num = x.write := by
  unfold wr
  cases hw : x.write with
  | true => exact List.any_eq_true.2 ⟨x, hx, by simp [isAt, hw]⟩
  | false =>
    rw [List.any_eq_false]
    intro y hy hy2
    simp only [isAt, Bool.and_eq_true, decide_eq_true_eq] at hy2
    have := lex_one h hy hx hy2.1.1 hy2.1.2
    rw [this, hw] at hy2
    simp at hy2

theorem objs_ext {l m : List Access} (h1 : l.Pairwise lex) (h2 : m.Pairwise lex) (hh : ∀ k u, hasAt l k u = hasAt m k u) (hw : ∀ k u, wr l k u = wr m k u) : l = m := by
  have key : ∀ {l m : List Access}, l.Pairwise lex → m.Pairwise lex → (∀ k u, hasAt l k u = hasAt m k u) → (∀ k u, wr l k u = wr m k u) → ∀ x, x ∈ l → x ∈ m := by
    intro l m h1 h2 hh hw x hx
    have : hasAt m x.kind x.num = true := by rw [← hh]; exact List.any_eq_true.2 ⟨x, hx, by simp [isAt]⟩
    obtain ⟨y, hy, hyx⟩ := List.any_eq_true.1 this
    simp only [isAt, Bool.and_eq_true, decide_eq_true_eq] at hyx
    have e1 := wr_of h1 hx
    have e2 := wr_of h2 hy
    rw [hyx.1, hyx.2, ← hw, e1] at e2
    have : x = y := by
      obtain ⟨a, b, c⟩ := x
      obtain ⟨a', b', c'⟩ := y
      simp at hyx e2
      simp [hyx, e2]
    rw [this]; exact hy
  exact lex_ext h1 h2 fun x => ⟨key h1 h2 hh hw x, key h2 h1 (fun k u => (hh k u).symm) (fun k u => (hw k u).symm) x⟩

/-! ### What Objects computes -/

def objsTo (t : List Event) (i : Nat) : List Access := (t.take i).foldl (fun l e => e.of.foldl put l) []
def objsAt (t : List Event) (i j : Nat) : List Access := ((t.getD i default).of.take j).foldl put (objsTo t i)
def objs (t : List Event) : List Access := objsTo t t.length

theorem objsTo_succ (t : List Event) {i : Nat} (h : i < t.length) : objsTo t (i + 1) = (t.getD i default).of.foldl put (objsTo t i) := by
  unfold objsTo
  rw [List.take_succ_eq_append_getElem h, List.foldl_append]
  simp [List.getD_eq_getElem?_getD, h]
theorem objsAt_succ (t : List Event) {i j : Nat} (h : j < (t.getD i default).of.length) : objsAt t i (j + 1) = put (objsAt t i j) ((t.getD i default).of.getD j default) := by
  unfold objsAt
  have e : (t.getD i default).of.getD j default = (t.getD i default).of[j] := by simp only [List.getD_eq_getElem?_getD (l := (t.getD i default).of), List.getElem?_eq_getElem h, Option.getD_some]
  rw [e, List.take_succ_eq_append_getElem h, List.foldl_append]
  rfl

theorem foldl_put_sorted : ∀ (m : List Access) {l : List Access}, l.Pairwise lex → (m.foldl put l).Pairwise lex
  | [], _, h => h
  | a :: m, l, h => by
    rw [List.foldl_cons, put_ins a h]
    exact foldl_put_sorted m (ins_sorted a h)
theorem foldl_put_len : ∀ (m : List Access) {l : List Access}, l.Pairwise lex → (m.foldl put l).length ≤ l.length + m.length
  | [], _, h => by simp
  | a :: m, l, h => by
    rw [List.foldl_cons, put_ins a h]
    have := foldl_put_len m (ins_sorted a h)
    have := ins_len l a
    simp only [List.length_cons]
    omega
theorem foldl_put_has : ∀ (m : List Access) {l : List Access} (k u : Int), l.Pairwise lex → hasAt (m.foldl put l) k u = (hasAt l k u || m.any (isAt k u))
  | [], _, k, u, h => by simp
  | a :: m, l, k, u, h => by
    rw [List.foldl_cons, put_ins a h, foldl_put_has m k u (ins_sorted a h), ins_has, List.any_cons, Bool.or_assoc]
theorem foldl_put_wr : ∀ (m : List Access) {l : List Access} (k u : Int), l.Pairwise lex → wr (m.foldl put l) k u = (wr l k u || m.any fun x => isAt k u x && x.write)
  | [], _, k, u, h => by simp
  | a :: m, l, k, u, h => by
    rw [List.foldl_cons, put_ins a h, foldl_put_wr m k u (ins_sorted a h), ins_wr, List.any_cons, Bool.or_assoc]

theorem objsTo_sorted (t : List Event) : ∀ i, i ≤ t.length → (objsTo t i).Pairwise lex
  | 0, _ => by simp [objsTo]
  | i + 1, h => by rw [objsTo_succ t h]; exact foldl_put_sorted _ (objsTo_sorted t i (by omega))
theorem objsAt_sorted (t : List Event) {i : Nat} (j : Nat) (h : i ≤ t.length) : (objsAt t i j).Pairwise lex := foldl_put_sorted _ (objsTo_sorted t i h)
theorem objsTo_len (t : List Event) (h6 : ∀ e ∈ t, e.touch.length = 6) : ∀ i, i ≤ t.length → (objsTo t i).length ≤ 6 * i
  | 0, _ => by simp [objsTo]
  | i + 1, h => by
    rw [objsTo_succ t h]
    have h1 := foldl_put_len (t.getD i default).of (objsTo_sorted t i (by omega))
    have h2 := objsTo_len t h6 i (by omega)
    have h3 := Event.of_len _ (h6 _ (getD_mem t (show i < t.length by omega)))
    omega
theorem objsAt_len (t : List Event) (h6 : ∀ e ∈ t, e.touch.length = 6) {i : Nat} (j : Nat) (h : i < t.length) : (objsAt t i j).length ≤ 6 * i + 6 := by
  have h1 := foldl_put_len ((t.getD i default).of.take j) (objsTo_sorted t i (by omega))
  have h2 := objsTo_len t h6 i (by omega)
  have h3 := Event.of_len _ (h6 _ (getD_mem t h))
  have h4 : ((t.getD i default).of.take j).length ≤ (t.getD i default).of.length := by rw [List.length_take]; omega
  unfold objsAt
  omega

theorem objsTo_has (t : List Event) (k u : Int) : ∀ i, i ≤ t.length → hasAt (objsTo t i) k u = (t.take i).any fun e => hits e k u
  | 0, _ => by simp [objsTo, hasAt]
  | i + 1, h => by
    rw [objsTo_succ t h, foldl_put_has _ _ _ (objsTo_sorted t i (by omega)), objsTo_has t k u i (by omega), any_take _ t h]
    rfl
theorem objsTo_wr (t : List Event) (k u : Int) : ∀ i, i ≤ t.length → wr (objsTo t i) k u = (t.take i).any fun e => e.of.any fun x => isAt k u x && x.write
  | 0, _ => by simp [objsTo, wr]
  | i + 1, h => by
    rw [objsTo_succ t h, foldl_put_wr _ _ _ (objsTo_sorted t i (by omega)), objsTo_wr t k u i (by omega), any_take _ t h]

/-! ### What the document lists -/

theorem hasAt_append (l m : List Access) (k u : Int) : hasAt (l ++ m) k u = (hasAt l k u || hasAt m k u) := by simp [hasAt]
theorem wr_append (l m : List Access) (k u : Int) : wr (l ++ m) k u = (wr l k u || wr m k u) := by simp [wr]
theorem objOf_mem {t : List Event} {k u : Int} {x : Access} (h : x ∈ objOf t k u) : x.kind = k ∧ x.num = u := by
  unfold objOf at h
  split at h
  · simp at h
  · simp at h; subst h; exact ⟨rfl, rfl⟩
theorem numsTo_mem {t : List Event} {k : Int} {x : Access} : ∀ {n : Nat}, x ∈ numsTo t k n → x.kind = k ∧ 0 ≤ x.num ∧ x.num < n
  | 0, h => by simp [numsTo] at h
  | n + 1, h => by
    rw [numsTo_succ, List.mem_append] at h
    rcases h with h | h
    · have := numsTo_mem h; omega
    · have := objOf_mem h; omega
theorem kindsTo_mem {t : List Event} {x : Access} : ∀ {m : Nat}, x ∈ kindsTo t m → 1 ≤ x.kind ∧ x.kind ≤ m
  | 0, h => by simp [kindsTo] at h
  | m + 1, h => by
    rw [kindsTo_succ, List.mem_append] at h
    rcases h with h | h
    · have := kindsTo_mem h; omega
    · have := numsTo_mem h; omega
theorem objOf_sorted (t : List Event) (k u : Int) : (objOf t k u).Pairwise lex := by unfold objOf; split <;> simp
theorem numsTo_sorted (t : List Event) (k : Int) : ∀ n, (numsTo t k n).Pairwise lex
  | 0 => by simp [numsTo]
  | n + 1 => by
    rw [numsTo_succ, List.pairwise_append]
    refine ⟨numsTo_sorted t k n, objOf_sorted _ _ _, fun x hx y hy => ?_⟩
    have h1 := numsTo_mem hx
    have h2 := objOf_mem hy
    unfold lex; omega
theorem kindsTo_sorted (t : List Event) : ∀ m, (kindsTo t m).Pairwise lex
  | 0 => by simp [kindsTo]
  | m + 1 => by
    rw [kindsTo_succ, List.pairwise_append]
    refine ⟨kindsTo_sorted t m, numsTo_sorted _ _ _, fun x hx y hy => ?_⟩
    have h1 := kindsTo_mem hx
    have h2 := numsTo_mem hy
    unfold lex; omega

theorem any_range {α : Type} [Inhabited α] (t : List α) (g : α → Bool) : t.any g = (List.range t.length).any fun j => g (t.getD j default) := by
  rw [Bool.eq_iff_iff, List.any_eq_true, List.any_eq_true]
  constructor
  · rintro ⟨x, hx, h⟩
    obtain ⟨j, hj, rfl⟩ := List.mem_iff_getElem.1 hx
    exact ⟨j, List.mem_range.2 hj, by simpa [List.getD_eq_getElem?_getD, hj] using h⟩
  · rintro ⟨j, hj, h⟩
    exact ⟨_, getD_mem t (List.mem_range.1 hj), h⟩
theorem users_any (t : List Event) (k u : Int) (n : Nat) (f : Nat → Bool) : ((usersTo t k u n).any fun p => f p.toNat) = (List.range n).any fun j => hits (t.getD j default) k u && f j := by
  simp [usersTo, List.any_map, List.any_filter, Function.comp_def]
theorem users_none (t : List Event) (k u : Int) : decide ((usersTo t k u t.length).length = 0) = !(t.any fun e => hits e k u) := by
  have h := users_any t k u t.length (fun _ => true)
  simp only [Bool.and_true] at h
  rw [any_range t (fun e => hits e k u), ← h]
  cases usersTo t k u t.length <;> simp
theorem wrAt_users (t : List Event) (k u : Int) : wrAt t k u (usersTo t k u t.length) = t.any fun e => e.of.any fun x => isAt k u x && x.write := by
  unfold wrAt
  have h := users_any t k u t.length (fun j => (t.getD j default).of.any fun a => isAt k u a && a.write)
  rw [h, any_range t (fun e => e.of.any fun x => isAt k u x && x.write)]
  congr 1
  funext j
  cases h1 : (t.getD j default).of.any fun a => isAt k u a && a.write with
  | false => simp
  | true =>
    obtain ⟨a, ha, ha2⟩ := List.any_eq_true.1 h1
    simp only [Bool.and_eq_true] at ha2
    simp only [Bool.and_true]
    exact List.any_eq_true.2 ⟨a, ha, ha2.1⟩

theorem objOf_has (t : List Event) (k' u' k u : Int) : hasAt (objOf t k' u') k u = (decide (k' = k) && decide (u' = u) && t.any fun e => hits e k' u') := by
  have h := users_none t k' u'
  unfold objOf
  by_cases h0 : (usersTo t k' u' t.length).length = 0
  · rw [if_pos h0]
    simp only [h0, decide_true] at h
    have : (t.any fun e => hits e k' u') = false := by simpa using h.symm
    rw [this]; simp [hasAt]
  · rw [if_neg h0]
    simp only [h0, decide_false] at h
    have : (t.any fun e => hits e k' u') = true := by simpa using h.symm
    rw [this]; simp [hasAt, isAt]
theorem objOf_wr (t : List Event) (k' u' k u : Int) : wr (objOf t k' u') k u = (decide (k' = k) && decide (u' = u) && t.any fun e => e.of.any fun x => isAt k' u' x && x.write) := by
  have h := users_none t k' u'
  have hw := wrAt_users t k' u'
  unfold objOf
  by_cases h0 : (usersTo t k' u' t.length).length = 0
  · rw [if_pos h0]
    have h1 : usersTo t k' u' t.length = [] := List.eq_nil_of_length_eq_zero h0
    rw [h1] at hw
    rw [← hw]; simp [wr, wrAt]
  · rw [if_neg h0, hw]
    simp [wr, isAt]

theorem numsTo_has (t : List Event) (k' k u : Int) : ∀ n : Nat, hasAt (numsTo t k' n) k u = (decide (k' = k) && (decide (0 ≤ u) && decide (u < n)) && t.any fun e => hits e k u)
  | 0 => by
    have : (decide (0 ≤ u) && decide (u < (0 : Nat))) = false := by simp <;> omega
    rw [this]; simp [numsTo, hasAt]
  | n + 1 => by
    rw [numsTo_succ, hasAt_append, numsTo_has t k' k u n, objOf_has]
    by_cases hk : k' = k
    · subst hk
      by_cases hu : (n : Int) = u
      · subst hu
        simp
        omega
      · have e : decide (u < ((n + 1 : Nat) : Int)) = decide (u < (n : Int)) := by rw [decide_eq_decide]; omega
        rw [e]; simp [hu]
    · simp [hk]
theorem numsTo_wr (t : List Event) (k' k u : Int) : ∀ n : Nat, wr (numsTo t k' n) k u = (decide (k' = k) && (decide (0 ≤ u) && decide (u < n)) && t.any fun e => e.of.any fun x => isAt k u x && x.write)
  | 0 => by
    have : (decide (0 ≤ u) && decide (u < (0 : Nat))) = false := by simp <;> omega
    rw [this]; simp [numsTo, wr]
  | n + 1 => by
    rw [numsTo_succ, wr_append, numsTo_wr t k' k u n, objOf_wr]
    by_cases hk : k' = k
    · subst hk
      by_cases hu : (n : Int) = u
      · subst hu
        simp
        omega
      · have e : decide (u < ((n + 1 : Nat) : Int)) = decide (u < (n : Int)) := by rw [decide_eq_decide]; omega
        rw [e]; simp [hu]
    · simp [hk]

theorem kindsTo_has (t : List Event) (k u : Int) : ∀ m : Nat, hasAt (kindsTo t m) k u = ((decide (1 ≤ k) && decide (k ≤ m)) && (decide (0 ≤ u) && decide (u < most k)) && t.any fun e => hits e k u)
  | 0 => by
    have : (decide (1 ≤ k) && decide (k ≤ (0 : Nat))) = false := by simp <;> omega
    rw [this]; simp [kindsTo, hasAt]
  | m + 1 => by
    rw [kindsTo_succ, hasAt_append, kindsTo_has t k u m, numsTo_has]
    by_cases hk : ((m + 1 : Nat) : Int) = k
    · subst hk
      have hm := most_le ((m + 1 : Nat) : Int)
      have e1 : (decide (1 ≤ ((m + 1 : Nat) : Int)) && decide (((m + 1 : Nat) : Int) ≤ (m : Int))) = false := by simp <;> omega
      have e2 : (decide (1 ≤ ((m + 1 : Nat) : Int)) && decide (((m + 1 : Nat) : Int) ≤ ((m + 1 : Nat) : Int))) = true := by simp <;> omega
      have e3 : decide (u < (((most ((m + 1 : Nat) : Int)).toNat : Nat) : Int)) = decide (u < most ((m + 1 : Nat) : Int)) := by rw [decide_eq_decide]; omega
      rw [e1, e2, e3]; simp
    · have e : decide (k ≤ ((m + 1 : Nat) : Int)) = decide (k ≤ (m : Int)) := by rw [decide_eq_decide]; omega
      rw [e, decide_eq_false hk]; simp
theorem kindsTo_wr (t : List Event) (k u : Int) : ∀ m : Nat, wr (kindsTo t m) k u = ((decide (1 ≤ k) && decide (k ≤ m)) && (decide (0 ≤ u) && decide (u < most k)) && t.any fun e => e.of.any fun x => isAt k u x && x.write)
  | 0 => by
    have : (decide (1 ≤ k) && decide (k ≤ (0 : Nat))) = false := by simp <;> omega
    rw [this]; simp [kindsTo, wr]
  | m + 1 => by
    rw [kindsTo_succ, wr_append, kindsTo_wr t k u m, numsTo_wr]
    by_cases hk : ((m + 1 : Nat) : Int) = k
    · subst hk
      have hm := most_le ((m + 1 : Nat) : Int)
      have e1 : (decide (1 ≤ ((m + 1 : Nat) : Int)) && decide (((m + 1 : Nat) : Int) ≤ (m : Int))) = false := by simp <;> omega
      have e2 : (decide (1 ≤ ((m + 1 : Nat) : Int)) && decide (((m + 1 : Nat) : Int) ≤ ((m + 1 : Nat) : Int))) = true := by simp <;> omega
      have e3 : decide (u < (((most ((m + 1 : Nat) : Int)).toNat : Nat) : Int)) = decide (u < most ((m + 1 : Nat) : Int)) := by rw [decide_eq_decide]; omega
      rw [e1, e2, e3]; simp
    · have e : decide (k ≤ ((m + 1 : Nat) : Int)) = decide (k ≤ (m : Int)) := by rw [decide_eq_decide]; omega
      rw [e, decide_eq_false hk]; simp

/-- A right event touches objects that there are. -/
theorem right_of {e : Event} (he : e.touch.length = 6) (h : right e = true) {a : Access} (ha : a ∈ e.of) : 1 ≤ a.kind ∧ a.kind ≤ 6 ∧ 0 ≤ a.num ∧ a.num < most a.kind := by
  obtain ⟨j, hj, rfl⟩ := List.mem_iff_getElem.1 ha
  have hlen : e.of.length = min (max 0 (min 6 e.touches)).toNat 6 := by simp [Event.of, he]
  have g : e.of[j] = e.touch.getD j default := by
    simp only [Event.of, List.getElem_take, List.getD_eq_getElem?_getD, List.getElem?_eq_getElem (show j < e.touch.length by omega), Option.getD_some]
  rw [g]
  simp only [right, Bool.and_eq_true, decide_eq_true_eq] at h
  have hp := List.all_eq_true.1 h.2.1 j (List.mem_range.2 (by omega))
  simp only [placeOk, show ¬ e.touches ≤ ((j : Nat) : Int) by omega, if_false, Bool.and_eq_true, decide_eq_true_eq] at hp
  have h3 := hp.1.2
  have h4 := hp.1.1
  refine ⟨?_, ?_, h4, h3⟩ <;> (unfold most at h3; repeat' split at h3) <;> omega

theorem guard_and {b c : Bool} (h : c = true → b = true) : (b && c) = c := by cases b <;> cases c <;> simp_all

theorem objs_kinds {t : List Event} (h6 : ∀ e ∈ t, e.touch.length = 6) (hr : t.all right = true) : objs t = kindsTo t 6 := by
  have key : ∀ (k u : Int), (t.any fun e => hits e k u) = true → ((decide (1 ≤ k) && decide (k ≤ ((6 : Nat) : Int))) && (decide (0 ≤ u) && decide (u < most k))) = true := by
    intro k u h
    obtain ⟨e, he, h⟩ := List.any_eq_true.1 h
    obtain ⟨a, ha, hk⟩ := List.any_eq_true.1 h
    simp only [isAt, Bool.and_eq_true, decide_eq_true_eq] at hk
    have := right_of (h6 e he) (List.all_eq_true.1 hr e he) ha
    rw [hk.1, hk.2] at this
    simp
    omega
  refine objs_ext (objsTo_sorted t _ (Nat.le_refl _)) (kindsTo_sorted t 6) (fun k u => ?_) (fun k u => ?_)
  · rw [objs, objsTo_has t k u _ (Nat.le_refl _), List.take_length, kindsTo_has]
    exact (guard_and (key k u)).symm
  · rw [objs, objsTo_wr t k u _ (Nat.le_refl _), List.take_length, kindsTo_wr]
    refine (guard_and fun h => key k u ?_).symm
    obtain ⟨e, he, h⟩ := List.any_eq_true.1 h
    obtain ⟨a, ha, hk⟩ := List.any_eq_true.1 h
    simp only [Bool.and_eq_true] at hk
    exact List.any_eq_true.2 ⟨e, he, List.any_eq_true.2 ⟨a, ha, hk.1⟩⟩
end Go.Eng.Try
