/- A part of the proof: walks through the program's functions, and what they compute. -/
import Derived.Test.YtbfihoopgcmkpaaTryTab
import Derived.Test.YtbfihoopgcmkpaaMdl
import Derived.Test.YtbfihoopgcmkpaaEngT
import Derived.Test.YtbfihoopgcmkpaaW15
import Derived.Test.YtbfihoopgcmkpaaEngW
namespace Go.Eng.Try
open Go.RowKit Go.Eng
set_option linter.unusedSimpArgs false
set_option linter.unusedVariables false

theorem rows_get {α : Type} {n i : Nat} (h : i < n) (f : Nat → α) : ((List.range n).map f)[i]? = some (f i) := by simp [h]
theorem rows_getD {α : Type} {n i : Nat} (h : i < n) (f : Nat → α) (d : α) : ((List.range n).map f).getD i d = f i := by simp [List.getD_eq_getElem?_getD, h]
theorem rows_set {α : Type} {n i : Nat} (h : i < n) (f : Nat → α) (x : α) : ((List.range n).map f).set i x = (List.range n).map fun k => if k = i then x else f k := by
  apply List.ext_getElem?
  intro k
  by_cases hk : k < n
  · by_cases hki : k = i
    · subst hki; simp [hk]
    · rw [List.getElem?_set_ne (Ne.symm hki)]; simp [hk, hki]
  · rw [List.getElem?_eq_none (by simp; omega), List.getElem?_eq_none (by simp; omega)]
theorem rows_len {α : Type} {n : Nat} (f : Nat → α) : ((List.range n).map f).length = n := by simp

/-- Of the table, what stands there when all pairs ahead of (i, j) are done. -/
def ent (t : List Event) (i j k m : Nat) : Bool := if (k < i ∧ m < i) ∨ (k = i ∧ m < j) ∨ (m = i ∧ k < j) then dependent (t.getD k default) (t.getD m default) else false
def fill (t : List Event) (g : Nat → Nat → Bool) (k : Nat) : List V := (List.range t.length).map fun m => .bool (g k m)
def rows (t : List Event) (g : Nat → Nat → Bool) : List Obj := (List.range t.length).map fun k => .row 4 (fill t g k)
theorem fill_len (t : List Event) (g : Nat → Nat → Bool) (k : Nat) : (fill t g k).length = t.length := by simp [fill]
theorem fill_at {t : List Event} {m : Nat} (h : m < t.length) (g : Nat → Nat → Bool) (k : Nat) (d : V) : (fill t g k).getD m d = .bool (g k m) := rows_getD h _ d
theorem rows_at {t : List Event} {i : Nat} (h : i < t.length) (g : Nat → Nat → Bool) : (rows t g)[i]? = some (.row 4 (fill t g i)) := rows_get h _
theorem rows_put {t : List Event} {i j : Nat} (hi : i < t.length) (hj : j < t.length) (g : Nat → Nat → Bool) (d : Bool) : (rows t g).set i (.row 4 ((fill t g i).set j (.bool d))) = rows t (fun k m => if k = i ∧ m = j then d else g k m) := by
  unfold rows
  rw [rows_set hi]
  apply List.map_congr_left
  intro k hk
  by_cases hki : k = i
  · subst hki
    rw [if_pos rfl]
    unfold fill
    rw [rows_set hj]
    congr 1
    apply List.map_congr_left
    intro m _
    by_cases hmj : m = j
    · simp [hmj]
    · simp [hmj]
  · rw [if_neg hki]
    congr 1
    apply List.map_congr_left
    intro m _
    simp [hki]
theorem rows_congr {t : List Event} {g g' : Nat → Nat → Bool} (h : ∀ k m, k < t.length → m < t.length → g k m = g' k m) : rows t g = rows t g' := by
  apply List.map_congr_left
  intro k hk
  congr 1
  apply List.map_congr_left
  intro m hm
  rw [h k m (List.mem_range.1 hk) (List.mem_range.1 hm)]
/-- The table under way: the row of rows, and its rows. -/
def made (n i : Nat) : List E := (List.range n).map fun k => if k < i then .sl (k + 1) 4 0 n false else .fs 4 [] false
def outer (n : Nat) : List E := (List.range n).map fun k => .sl (k + 1) 4 0 n false
theorem made_len (n i : Nat) : (made n i).length = n := by simp [made]
theorem outer_len (n : Nat) : (outer n).length = n := by simp [outer]
theorem made_all (n : Nat) : made n n = outer n := by
  unfold made outer
  apply List.map_congr_left
  intro k hk
  rw [if_pos (List.mem_range.1 hk)]
theorem made_none (n : Nat) : made n 0 = List.replicate n (.fs 4 [] false) := by
  apply List.ext_getElem?
  intro k
  by_cases hk : k < n
  · simp [made, hk]
  · rw [List.getElem?_eq_none (by simp [made]; omega), List.getElem?_eq_none (by simp; omega)]
theorem made_set {n i : Nat} (h : i < n) : (made n i).set i (.sl (i + 1) 4 0 n false) = made n (i + 1) := by
  unfold made
  rw [rows_set h]
  apply List.map_congr_left
  intro k _
  by_cases hki : k = i
  · subst hki; rw [if_pos rfl, if_pos (by omega)]
  · rw [if_neg hki]
    by_cases h1 : k < i
    · rw [if_pos h1, if_pos (by omega)]
    · rw [if_neg h1, if_neg (by omega)]
theorem outer_at {n i : Nat} (h : i < n) (d : E) : (outer n).getD i d = .sl (i + 1) 4 0 n false := rows_getD h _ d
theorem ent_zero (t : List Event) (k m : Nat) : ent t 0 0 k m = false := by
  unfold ent
  rw [if_neg (by omega)]
theorem rows_zero (t : List Event) : (List.range t.length).map (fun _ => Obj.row 4 (List.replicate t.length (.bool false))) = rows t (ent t 0 0) := by
  apply List.map_congr_left
  intro k _
  congr 1
  apply List.ext_getElem?
  intro m
  by_cases hm : m < t.length
  · simp [fill, hm, ent_zero]
  · rw [List.getElem?_eq_none (by simp; omega), List.getElem?_eq_none (by simp [fill]; omega)]
theorem ent_row (t : List Event) (i k m : Nat) : ent t i (i + 1) k m = ent t (i + 1) 0 k m := by
  unfold ent
  by_cases h : (k < i ∧ m < i) ∨ (k = i ∧ m < i + 1) ∨ (m = i ∧ k < i + 1)
  · rw [if_pos h, if_pos (by omega)]
  · rw [if_neg h, if_neg (by omega)]
theorem ent_all {t : List Event} {k m : Nat} (hk : k < t.length) (hm : m < t.length) : ent t t.length 0 k m = dependent (t.getD k default) (t.getD m default) := by
  unfold ent
  rw [if_pos (by omega)]
theorem ent_step (t : List Event) {i j k m : Nat} (hji : j ≤ i) : (if k = j ∧ m = i then dependent (t.getD i default) (t.getD j default) else if k = i ∧ m = j then dependent (t.getD i default) (t.getD j default) else ent t i j k m) = ent t i (j + 1) k m := by
  by_cases h1 : k = j ∧ m = i
  · obtain ⟨rfl, rfl⟩ := h1
    rw [if_pos ⟨rfl, rfl⟩]
    unfold ent
    rw [if_pos (by omega), dependent_comm]
  · rw [if_neg h1]
    by_cases h2 : k = i ∧ m = j
    · obtain ⟨rfl, rfl⟩ := h2
      rw [if_pos ⟨rfl, rfl⟩]
      unfold ent
      rw [if_pos (by omega)]
    · rw [if_neg h2]
      unfold ent
      by_cases h : (k < i ∧ m < i) ∨ (k = i ∧ m < j) ∨ (m = i ∧ k < j)
      · rw [if_pos h, if_pos (by omega)]
      · rw [if_neg h, if_neg (by omega)]
theorem table_eq (t : List Event) : (List.range t.length).map (fun k => V.list (fill t (ent t t.length 0) k)) = tableV t t.length := by
  apply List.ext_getElem?
  intro k
  by_cases hk : k < t.length
  · simp only [rows_get hk, tableV, List.take_length, List.getElem?_map, List.getElem?_eq_getElem hk, Option.map_some]
    congr 2
    apply List.ext_getElem?
    intro m
    by_cases hm : m < t.length
    · simp only [fill, rows_get hm, rowOf, List.getElem?_map, List.getElem?_eq_getElem hm, Option.map_some, ent_all hk hm]
      simp [List.getD_eq_getElem?_getD, hk, hm]
    · rw [List.getElem?_eq_none (by simp [fill]; omega), List.getElem?_eq_none (by simp [rowOf]; omega)]
  · rw [List.getElem?_eq_none (by simp; omega), List.getElem?_eq_none (by simp [tableV]; omega)]

attribute [local go_sem] argsV contentV fromVs Option.getD_some St.keep List.filterMap_cons List.filterMap_nil Option.map_some Option.map_none opG opQ opB newEs outE CallStepB guardA putK putE pureA evalO evalL constE pickA loadA fieldAddrA indexAddrA indexA sliceA evalOptI builtinA binA plainA shiftA eqA arith shifts effA storeA appendA St.kill Tm.kill E.kill E.killL Obj.kill elemsOf evalVs buildA okAt toV fromV zeroE V.get V.put V.sub V.setSub args0 CallStep CallStepQ i64min i64max u64min u64max u32min u32max u8min u8max Nat.zero_add List.length_map List.lookup_cons List.lookup_nil List.getElem?_cons_zero List.getElem?_cons_succ List.getElem?_toArray List.getElem?_nil Option.bind_some Option.bind_none List.size_toArray List.length_cons List.length_nil List.nil_append List.append_nil List.cons_append List.getD_cons_zero List.getD_cons_succ List.map_cons List.map_nil List.set_cons_zero List.set_cons_succ true_and and_true forall_const true_implies Bool.true_and Bool.and_true Bool.not_true Bool.not_false Bool.false_and Bool.and_false beq_self_eq_true Bool.true_beq Bool.false_beq beq_true beq_false eq_self false_implies V.toInt_int V.toBool_bool V.toList_list V.toList_agg V.toStr_str V.deref_ref if_true if_false Bool.false_eq_true Option.isSome_none Option.isSome_some Bool.false_or Bool.true_or Bool.or_false Bool.or_true cond_true cond_false implies_true and_self imp_self ty60 ty65 ty42 ty49 ty33 ty32 ty34 ty3 ty4 ty22 ty27 ty28 ty30 ty25 ty2 made_len outer_len fill_len beq_v concat_at zero27 z27 z3 z4 Int.toNat_natCast Int.natCast_zero Event.v0 Event.v7 Event.v8 Access.v0 Access.v1 Access.v2 beq_acc
-- scarab/depend.Table
theorem table_ctr (t : List Event) (ht : t.length ≤ maxLen) (h6 : ∀ e ∈ t, e.touch.length = 6) : CtrZ Go.Proofs.Try.prog tab 17 [32] [42, 34] [.list (t.map Event.v)] [.list (if check t = 0 then tableV t t.length else []), .int (check t)] := by
  refine CtrZ.body ok Go.Proofs.Try.func17 rfl rfl 73 rfl [.tmp 2, .tmp 3] rfl (by simp [fromVs]) ?_
  simp only [fromVs, fromV, args0, V.toList_list, V.toInt_int, V.toBool_bool, Nat.zero_add, Nat.reduceAdd, ty32]
  refine SA.seq ?_
  refine SA.region ok (by kernel_rfl) [0] ?_
  intro R hR
  simp only [go_sem, strip]
  iterate 2 (refine opsA_cons fun R1 hR1 => ?_; simp only [go_sem, Nat.reduceBEq, Nat.reduceLT, Nat.reduceEqDiff, Nat.reduceAdd, Int.reduceLE, Int.reduceLT, Int.reduceNeg, Int.reduceEq, Int.reduceToNat, reduceCtorEq]; (repeat' with_reducible refine And.intro ?_ ?_); all_goals first | (refine hR1 _ ?_; clear hR1 R1) | omega | rfl | decide | assumption | (simp [roomFor, maxLen, by49, by4, by27, by3] <;> omega))
  refine opsA_nil (hR _ ?_)
  clear hR R
  try simp only [go_sem, Nat.reduceBEq]
  refine thenK.normal ?_
  refine SA.scope ?_
  refine SA.seq ?_
  refine SA.seq ?_
  refine SA.region ok (by kernel_rfl) [0, 4] ?_
  intro R hR
  simp only [go_sem, strip]
  iterate 1 (refine opsA_cons fun R1 hR1 => ?_; simp only [go_sem, Nat.reduceBEq, Nat.reduceLT, Nat.reduceEqDiff, Nat.reduceAdd, Int.reduceLE, Int.reduceLT, Int.reduceNeg, Int.reduceEq, Int.reduceToNat, reduceCtorEq]; (repeat' with_reducible refine And.intro ?_ ?_); all_goals first | (refine hR1 _ ?_; clear hR1 R1) | omega | rfl | decide | assumption | (simp [roomFor, maxLen, by49, by4, by27, by3] <;> omega))
  refine opsA_cons fun R1 hR1 => ?_
  simp only [go_sem, Nat.reduceBEq, Nat.reduceLT, Nat.reduceEqDiff, Nat.reduceAdd, Int.reduceLE, Int.reduceLT, Int.reduceNeg, Int.reduceEq, Int.reduceToNat, reduceCtorEq]
  repeat' with_reducible refine And.intro ?_ ?_
  all_goals try (first | omega | assumption | (intro _; omega))
  first | refine ⟨_, _, rfl, .inl ⟨_, CallQ.ctr ok (check_ctr t ht h6) (by first | rfl | (simp [argsV, toVs, contentV, toV, ty60, ty65, ty42, ty49, ty33, ty32, ty34, ty3, ty4, ty22, ty27, ty28, ty30, ty25, ty2, List.length_map, List.take_of_length_le])) rfl, ?_⟩⟩ | refine ⟨_, _, rfl, .inl ⟨_, fun hg => CallQ.ctr ok (check_ctr t ht h6) (by first | rfl | (simp [argsV, toVs, contentV, toV, ty60, ty65, ty42, ty49, ty33, ty32, ty34, ty3, ty4, ty22, ty27, ty28, ty30, ty25, ty2, List.length_map, List.take_of_length_le])) rfl, ?_⟩⟩
  simp only [go_sem, Nat.reduceBEq, Nat.reduceLT, Nat.reduceEqDiff, Nat.reduceAdd, Int.reduceLE, Int.reduceLT, Int.reduceNeg, Int.reduceEq, Int.reduceToNat, reduceCtorEq]
  repeat' with_reducible refine And.intro ?_ ?_
  all_goals first | (refine hR1 _ ?_; clear hR1 R1) | omega | rfl | decide | assumption | (simp [roomFor, maxLen, by49, by4, by27, by3] <;> omega)
  iterate 1 (refine opsA_cons fun R1 hR1 => ?_; simp only [go_sem, Nat.reduceBEq, Nat.reduceLT, Nat.reduceEqDiff, Nat.reduceAdd, Int.reduceLE, Int.reduceLT, Int.reduceNeg, Int.reduceEq, Int.reduceToNat, reduceCtorEq]; (repeat' with_reducible refine And.intro ?_ ?_); all_goals first | (refine hR1 _ ?_; clear hR1 R1) | omega | rfl | decide | assumption | (simp [roomFor, maxLen, by49, by4, by27, by3] <;> omega))
  refine opsA_nil (hR _ ?_)
  clear hR R
  try simp only [go_sem, Nat.reduceBEq]
  refine thenK.normal ?_
  refine SA.seq ?_
  refine SA.region ok (by kernel_rfl) [0, 4, 12] ?_
  intro R hR
  simp only [go_sem, strip]
  iterate 2 (refine opsA_cons fun R1 hR1 => ?_; simp only [go_sem, Nat.reduceBEq, Nat.reduceLT, Nat.reduceEqDiff, Nat.reduceAdd, Int.reduceLE, Int.reduceLT, Int.reduceNeg, Int.reduceEq, Int.reduceToNat, reduceCtorEq]; (repeat' with_reducible refine And.intro ?_ ?_); all_goals first | (refine hR1 _ ?_; clear hR1 R1) | omega | rfl | decide | assumption | (simp [roomFor, maxLen, by49, by4, by27, by3] <;> omega))
  refine opsA_nil (hR _ ?_)
  clear hR R
  try simp only [go_sem, Nat.reduceBEq]
  refine thenK.normal ?_
  refine SA.cond rfl ?_ ?_
  · intro hb1
    simp at hb1
    refine SA.seq ?_
    refine SA.region ok (by kernel_rfl) [2, 3] ?_
    intro R hR
    simp only [go_sem, strip]
    iterate 3 (refine opsA_cons fun R1 hR1 => ?_; simp only [go_sem, Nat.reduceBEq, Nat.reduceLT, Nat.reduceEqDiff, Nat.reduceAdd, Int.reduceLE, Int.reduceLT, Int.reduceNeg, Int.reduceEq, Int.reduceToNat, reduceCtorEq]; (repeat' with_reducible refine And.intro ?_ ?_); all_goals first | (refine hR1 _ ?_; clear hR1 R1) | omega | rfl | decide | assumption | (simp [roomFor, maxLen, by49, by4, by27, by3] <;> omega))
    refine opsA_nil (hR _ ?_)
    clear hR R
    try simp only [go_sem, Nat.reduceBEq]
    refine thenK.normal ?_
    refine SA.ret ?_
    refine thenK.ret ?_
    refine scopeK.ret ?_
    refine ctrZK.ret ?_
    simp only [resA, evalO, resV, backK, outE, toV, ty4, ty3, List.lookup_cons, List.lookup_nil, beq_self_eq_true, forall_const, true_and, and_true]
    simp only [go_sem, Nat.reduceBEq, Nat.reduceLT, Nat.reduceEqDiff, Nat.reduceAdd, Int.reduceLE, Int.reduceLT, Int.reduceNeg, Int.reduceEq, Int.reduceToNat, reduceCtorEq]
    rw [if_neg hb1]
  · intro hb1
    simp at hb1
    refine SA.skip ?_
    refine thenK.normal ?_
    refine SA.seq ?_
    have h256 := check_len hb1
    refine SA.region ok (by kernel_rfl) [0, 5] ?_
    intro R hR
    simp only [go_sem, strip]
    iterate 4 (refine opsA_cons fun R1 hR1 => ?_; simp only [go_sem, Nat.reduceBEq, Nat.reduceLT, Nat.reduceEqDiff, Nat.reduceAdd, Int.reduceLE, Int.reduceLT, Int.reduceNeg, Int.reduceEq, Int.reduceToNat, reduceCtorEq]; (repeat' with_reducible refine And.intro ?_ ?_); all_goals first | (refine hR1 _ ?_; clear hR1 R1) | omega | rfl | decide | assumption | (simp [roomFor, maxLen, by49, by4, by27, by3] <;> omega))
    refine opsA_nil (hR _ ?_)
    clear hR R
    try simp only [go_sem, Nat.reduceBEq]
    refine thenK.normal ?_
    refine SA.seq ?_
    refine SA.seq ?_
    refine SA.region ok (by kernel_rfl) [0, 5, 18, 19] ?_
    intro R hR
    simp only [go_sem, strip]
    iterate 3 (refine opsA_cons fun R1 hR1 => ?_; simp only [go_sem, Nat.reduceBEq, Nat.reduceLT, Nat.reduceEqDiff, Nat.reduceAdd, Int.reduceLE, Int.reduceLT, Int.reduceNeg, Int.reduceEq, Int.reduceToNat, reduceCtorEq]; (repeat' with_reducible refine And.intro ?_ ?_); all_goals first | (refine hR1 _ ?_; clear hR1 R1) | omega | rfl | decide | assumption | (simp [roomFor, maxLen, by49, by4, by27, by3] <;> omega))
    refine opsA_nil (hR _ ?_)
    clear hR R
    try simp only [go_sem, Nat.reduceBEq]
    refine thenK.normal ?_
    refine SA.block ?_
    refine SA.weaken ((St.le.toE ok.sized 0 rfl rfl rfl (by simp [ty49])).trans (St.le.of_eq (by rw [made_none]; simp [List.map_replicate, fromV, ty49, show tab.zero 49 = .list [] from rfl]))) (SA.loop (fun n τ => ∃ (i : Nat), n = t.length - i ∧ (i ≤ t.length) ∧ τ = { tm := [(0, true, .fs 30 (t.map Event.v) false), (5, true, .sl 0 49 0 t.length false), (18, true, .int .i64 t.length), (19, true, .int .i64 i)], ob := .erow 49 (made t.length i) :: (List.range i).map fun _ => .row 4 (List.replicate t.length (.bool false)), out := [], nt := 73 }) (t.length) ⟨0, rfl, Nat.zero_le _, rfl⟩ ?_)
    rintro n τ ⟨i, hn, hi, rfl⟩
    refine SA.seq ?_
    refine SA.region ok (by kernel_rfl) [0, 5, 18, 19, 20] ?_
    intro R hR
    simp only [go_sem, strip]
    iterate 1 (refine opsA_cons fun R1 hR1 => ?_; simp only [go_sem, Nat.reduceBEq, Nat.reduceLT, Nat.reduceEqDiff, Nat.reduceAdd, Int.reduceLE, Int.reduceLT, Int.reduceNeg, Int.reduceEq, Int.reduceToNat, reduceCtorEq]; (repeat' with_reducible refine And.intro ?_ ?_); all_goals first | (refine hR1 _ ?_; clear hR1 R1) | omega | rfl | decide | assumption | (simp [roomFor, maxLen, by49, by4, by27, by3] <;> omega))
    refine opsA_nil (hR _ ?_)
    clear hR R
    try simp only [go_sem, Nat.reduceBEq]
    refine thenK.normal ?_
    refine SA.seq ?_
    refine SA.cond rfl ?_ ?_
    · intro hb2
      simp only [decide_eq_true_eq, decide_eq_false_iff_not, Int.not_lt, Int.not_le] at hb2
      refine SA.skip ?_
      refine thenK.normal ?_
      refine SA.seq ?_
      refine SA.block ?_
      refine SA.seq ?_
      refine SA.region ok (by kernel_rfl) [0, 5, 6, 18, 19] ?_
      intro R hR
      simp only [go_sem, strip]
      iterate 2 (refine opsA_cons fun R1 hR1 => ?_; simp only [go_sem, Nat.reduceBEq, Nat.reduceLT, Nat.reduceEqDiff, Nat.reduceAdd, Int.reduceLE, Int.reduceLT, Int.reduceNeg, Int.reduceEq, Int.reduceToNat, reduceCtorEq]; (repeat' with_reducible refine And.intro ?_ ?_); all_goals first | (refine hR1 _ ?_; clear hR1 R1) | omega | rfl | decide | assumption | (simp [roomFor, maxLen, by49, by4, by27, by3] <;> omega))
      refine opsA_nil (hR _ ?_)
      clear hR R
      try simp only [go_sem, Nat.reduceBEq]
      refine thenK.normal ?_
      refine SA.region ok (by kernel_rfl) [0, 5, 18, 19] ?_
      intro R hR
      simp only [go_sem, strip]
      iterate 7 (refine opsA_cons fun R1 hR1 => ?_; simp only [go_sem, Nat.reduceBEq, Nat.reduceLT, Nat.reduceEqDiff, Nat.reduceAdd, Int.reduceLE, Int.reduceLT, Int.reduceNeg, Int.reduceEq, Int.reduceToNat, reduceCtorEq, List.length_range]; (repeat' with_reducible refine And.intro ?_ ?_); all_goals first | (refine hR1 _ ?_; clear hR1 R1) | omega | rfl | decide | assumption | (simp [roomFor, maxLen, by49, by4, by27, by3] <;> omega))
      refine opsA_nil (hR _ ?_)
      clear hR R
      try simp only [go_sem, Nat.reduceBEq]
      refine blockK.normal ?_
      refine thenK.normal ?_
      refine SA.region ok (by kernel_rfl) [0, 5, 18, 19] ?_
      intro R hR
      simp only [go_sem, strip]
      iterate 2 (refine opsA_cons fun R1 hR1 => ?_; simp only [go_sem, Nat.reduceBEq, Nat.reduceLT, Nat.reduceEqDiff, Nat.reduceAdd, Int.reduceLE, Int.reduceLT, Int.reduceNeg, Int.reduceEq, Int.reduceToNat, reduceCtorEq]; (repeat' with_reducible refine And.intro ?_ ?_); all_goals first | (refine hR1 _ ?_; clear hR1 R1) | omega | rfl | decide | assumption | (simp [roomFor, maxLen, by49, by4, by27, by3] <;> omega))
      refine opsA_nil (hR _ ?_)
      clear hR R
      try simp only [go_sem, Nat.reduceBEq]
      have hlt : i < t.length := by omega
      refine loopK.normal (t.length - (i + 1)) _ (by omega) (St.le.of_eq (by rw [made_set hlt, wrap_succ hlt ht, List.range_succ, List.map_append]; rfl)) ⟨i + 1, rfl, hlt, rfl⟩
    · intro hb2
      simp only [decide_eq_true_eq, decide_eq_false_iff_not, Int.not_lt, Int.not_le] at hb2
      refine SA.exit ?_
      refine thenK.exit ?_
      refine loopK.exit ?_
      refine blockK.hit ?_
      refine thenK.normal ?_
      refine SA.seq ?_
      refine SA.label ?_
      refine thenK.normal ?_
      refine SA.seq ?_
      refine SA.seq ?_
      have hit : i = t.length := by omega
      subst hit
      refine SA.region ok (by kernel_rfl) [0, 5, 30, 31] ?_
      intro R hR
      simp only [go_sem, strip]
      iterate 3 (refine opsA_cons fun R1 hR1 => ?_; simp only [go_sem, Nat.reduceBEq, Nat.reduceLT, Nat.reduceEqDiff, Nat.reduceAdd, Int.reduceLE, Int.reduceLT, Int.reduceNeg, Int.reduceEq, Int.reduceToNat, reduceCtorEq]; (repeat' with_reducible refine And.intro ?_ ?_); all_goals first | (refine hR1 _ ?_; clear hR1 R1) | omega | rfl | decide | assumption | (simp [roomFor, maxLen, by49, by4, by27, by3] <;> omega))
      refine opsA_nil (hR _ ?_)
      clear hR R
      try simp only [go_sem, Nat.reduceBEq]
      refine thenK.normal ?_
      refine SA.block ?_
      refine SA.weaken (St.le.of_eq (by rw [made_all, rows_zero]; rfl)) (SA.loop (fun n τ => ∃ (i : Nat), n = t.length - i ∧ (i ≤ t.length) ∧ τ = { tm := [(0, true, .fs 30 (t.map Event.v) false), (5, true, .sl 0 49 0 t.length false), (30, true, .int .i64 t.length), (31, true, .int .i64 i)], ob := .erow 49 (outer t.length) :: rows t (ent t i 0), out := [], nt := 73 }) (t.length) ⟨0, rfl, Nat.zero_le _, rfl⟩ ?_)
      rintro n τ ⟨i, hn, hi, rfl⟩
      refine SA.seq ?_
      refine SA.region ok (by kernel_rfl) [0, 5, 30, 31, 32] ?_
      intro R hR
      simp only [go_sem, strip]
      iterate 1 (refine opsA_cons fun R1 hR1 => ?_; simp only [go_sem, Nat.reduceBEq, Nat.reduceLT, Nat.reduceEqDiff, Nat.reduceAdd, Int.reduceLE, Int.reduceLT, Int.reduceNeg, Int.reduceEq, Int.reduceToNat, reduceCtorEq]; (repeat' with_reducible refine And.intro ?_ ?_); all_goals first | (refine hR1 _ ?_; clear hR1 R1) | omega | rfl | decide | assumption | (simp [roomFor, maxLen, by49, by4, by27, by3] <;> omega))
      refine opsA_nil (hR _ ?_)
      clear hR R
      try simp only [go_sem, Nat.reduceBEq]
      refine thenK.normal ?_
      refine SA.seq ?_
      refine SA.cond rfl ?_ ?_
      · intro hb3
        simp only [decide_eq_true_eq, decide_eq_false_iff_not, Int.not_lt, Int.not_le] at hb3
        refine SA.skip ?_
        refine thenK.normal ?_
        refine SA.seq ?_
        refine SA.block ?_
        refine SA.seq ?_
        refine SA.region ok (by kernel_rfl) [0, 5, 7, 30, 31] ?_
        intro R hR
        simp only [go_sem, strip]
        iterate 2 (refine opsA_cons fun R1 hR1 => ?_; simp only [go_sem, Nat.reduceBEq, Nat.reduceLT, Nat.reduceEqDiff, Nat.reduceAdd, Int.reduceLE, Int.reduceLT, Int.reduceNeg, Int.reduceEq, Int.reduceToNat, reduceCtorEq]; (repeat' with_reducible refine And.intro ?_ ?_); all_goals first | (refine hR1 _ ?_; clear hR1 R1) | omega | rfl | decide | assumption | (simp [roomFor, maxLen, by49, by4, by27, by3] <;> omega))
        refine opsA_nil (hR _ ?_)
        clear hR R
        try simp only [go_sem, Nat.reduceBEq]
        refine thenK.normal ?_
        refine SA.seq ?_
        refine SA.region ok (by kernel_rfl) [0, 5, 7, 30, 31, 35, 36] ?_
        intro R hR
        simp only [go_sem, strip]
        iterate 3 (refine opsA_cons fun R1 hR1 => ?_; simp only [go_sem, Nat.reduceBEq, Nat.reduceLT, Nat.reduceEqDiff, Nat.reduceAdd, Int.reduceLE, Int.reduceLT, Int.reduceNeg, Int.reduceEq, Int.reduceToNat, reduceCtorEq]; (repeat' with_reducible refine And.intro ?_ ?_); all_goals first | (refine hR1 _ ?_; clear hR1 R1) | omega | rfl | decide | assumption | (simp [roomFor, maxLen, by49, by4, by27, by3] <;> omega))
        refine opsA_nil (hR _ ?_)
        clear hR R
        try simp only [go_sem, Nat.reduceBEq]
        refine thenK.normal ?_
        refine SA.block ?_
        refine SA.weaken (St.le.of_eq (by first | rfl | simp)) (SA.loop (fun n τ => ∃ (j : Nat), n = t.length - j ∧ (j ≤ t.length ∧ j ≤ i + 1) ∧ τ = { tm := [(0, true, .fs 30 (t.map Event.v) false), (5, true, .sl 0 49 0 t.length false), (7, true, .int .i64 i), (30, true, .int .i64 t.length), (31, true, .int .i64 i), (35, true, .int .i64 t.length), (36, true, .int .i64 j)], ob := .erow 49 (outer t.length) :: rows t (ent t i j), out := [], nt := 73 }) (t.length) ⟨0, rfl, ⟨Nat.zero_le _, Nat.zero_le _⟩, rfl⟩ ?_)
        rintro n τ ⟨j, hn, ⟨hj, hji⟩, rfl⟩
        refine SA.seq ?_
        refine SA.region ok (by kernel_rfl) [0, 5, 7, 30, 31, 35, 36, 37] ?_
        intro R hR
        simp only [go_sem, strip]
        iterate 1 (refine opsA_cons fun R1 hR1 => ?_; simp only [go_sem, Nat.reduceBEq, Nat.reduceLT, Nat.reduceEqDiff, Nat.reduceAdd, Int.reduceLE, Int.reduceLT, Int.reduceNeg, Int.reduceEq, Int.reduceToNat, reduceCtorEq]; (repeat' with_reducible refine And.intro ?_ ?_); all_goals first | (refine hR1 _ ?_; clear hR1 R1) | omega | rfl | decide | assumption | (simp [roomFor, maxLen, by49, by4, by27, by3] <;> omega))
        refine opsA_nil (hR _ ?_)
        clear hR R
        try simp only [go_sem, Nat.reduceBEq]
        refine thenK.normal ?_
        refine SA.seq ?_
        refine SA.cond rfl ?_ ?_
        · intro hb4
          simp only [decide_eq_true_eq, decide_eq_false_iff_not, Int.not_lt, Int.not_le] at hb4
          refine SA.skip ?_
          refine thenK.normal ?_
          refine SA.seq ?_
          refine SA.block ?_
          refine SA.seq ?_
          refine SA.region ok (by kernel_rfl) [0, 5, 7, 8, 30, 31, 35, 36] ?_
          intro R hR
          simp only [go_sem, strip]
          iterate 2 (refine opsA_cons fun R1 hR1 => ?_; simp only [go_sem, Nat.reduceBEq, Nat.reduceLT, Nat.reduceEqDiff, Nat.reduceAdd, Int.reduceLE, Int.reduceLT, Int.reduceNeg, Int.reduceEq, Int.reduceToNat, reduceCtorEq]; (repeat' with_reducible refine And.intro ?_ ?_); all_goals first | (refine hR1 _ ?_; clear hR1 R1) | omega | rfl | decide | assumption | (simp [roomFor, maxLen, by49, by4, by27, by3] <;> omega))
          refine opsA_nil (hR _ ?_)
          clear hR R
          try simp only [go_sem, Nat.reduceBEq]
          refine thenK.normal ?_
          refine SA.seq ?_
          refine SA.seq ?_
          refine SA.region ok (by kernel_rfl) [0, 5, 7, 8, 30, 31, 35, 36, 41] ?_
          intro R hR
          simp only [go_sem, strip]
          iterate 3 (refine opsA_cons fun R1 hR1 => ?_; simp only [go_sem, Nat.reduceBEq, Nat.reduceLT, Nat.reduceEqDiff, Nat.reduceAdd, Int.reduceLE, Int.reduceLT, Int.reduceNeg, Int.reduceEq, Int.reduceToNat, reduceCtorEq]; (repeat' with_reducible refine And.intro ?_ ?_); all_goals first | (refine hR1 _ ?_; clear hR1 R1) | omega | rfl | decide | assumption | (simp [roomFor, maxLen, by49, by4, by27, by3] <;> omega))
          refine opsA_nil (hR _ ?_)
          clear hR R
          try simp only [go_sem, Nat.reduceBEq]
          refine thenK.normal ?_
          refine SA.cond rfl ?_ ?_
          · intro hb5
            simp only [decide_eq_true_eq, decide_eq_false_iff_not, Int.not_lt, Int.not_le] at hb5
            refine SA.exit ?_
            refine thenK.exit ?_
            refine blockK.miss (by decide) ?_
            refine thenK.exit ?_
            refine loopK.exit ?_
            refine blockK.miss (by decide) ?_
            refine blockK.hit ?_
            refine thenK.normal ?_
            refine SA.region ok (by kernel_rfl) [0, 5, 30, 31] ?_
            intro R hR
            simp only [go_sem, strip]
            iterate 2 (refine opsA_cons fun R1 hR1 => ?_; simp only [go_sem, Nat.reduceBEq, Nat.reduceLT, Nat.reduceEqDiff, Nat.reduceAdd, Int.reduceLE, Int.reduceLT, Int.reduceNeg, Int.reduceEq, Int.reduceToNat, reduceCtorEq]; (repeat' with_reducible refine And.intro ?_ ?_); all_goals first | (refine hR1 _ ?_; clear hR1 R1) | omega | rfl | decide | assumption | (simp [roomFor, maxLen, by49, by4, by27, by3] <;> omega))
            refine opsA_nil (hR _ ?_)
            clear hR R
            try simp only [go_sem, Nat.reduceBEq]
            have hji1 : j = i + 1 := by omega
            subst hji1
            have e1 : rows t (ent t i (i + 1)) = rows t (ent t (i + 1) 0) := rows_congr fun k m _ _ => ent_row t i k m
            refine loopK.normal (t.length - (i + 1)) _ (by omega) (St.le.of_eq (by rw [e1, wrap_succ (show i < t.length by omega) ht])) ⟨i + 1, rfl, by omega, rfl⟩
          · intro hb5
            simp only [decide_eq_true_eq, decide_eq_false_iff_not, Int.not_lt, Int.not_le] at hb5
            refine SA.skip ?_
            refine thenK.normal ?_
            refine SA.seq ?_
            have hin : i < t.length := by omega
            have hjn : j < t.length := by omega
            -- region 17: 1 paths
            refine SA.regionAny mixed 16 (by kernel_rfl) #[false, false, false, false, false, false, false, false, false, false, false, false, false, false, false, false] (by kernel_rfl) [15] [0, 5, 7, 8, 30, 31, 35, 36] ?_
            intro R hR
            refine AnyA.take ok 0 ⟨some 42, (Go.Op.move (Go.Operand.tmp 5)), none⟩ (by kernel_rfl) (by kernel_rfl) (by kernel_rfl) (by kernel_rfl) (by kernel_rfl) #[true, false, false, false, false, false, false, false, false, false, false, false, false, false, false, false] (by kernel_rfl) fun R1 hR1 => ?_
            simp only [go_sem, Nat.reduceBEq, Nat.reduceLT, Nat.reduceEqDiff, Nat.reduceAdd, Int.reduceLE, Int.reduceLT, Int.reduceNeg, Int.reduceEq, Int.reduceToNat, reduceCtorEq, outer_at hin, outer_at hjn, rows_at hin, rows_put hin hjn, getD_map Event.v t hin, getD_map Event.v t hjn]
            repeat' with_reducible refine And.intro ?_ ?_
            all_goals first | (refine hR1 _ ?_; clear hR1 R1) | omega | rfl | decide | assumption | (simp [roomFor, maxLen, by49, by4, by27, by3] <;> omega)
            refine AnyA.take ok 1 ⟨some 43, (Go.Op.move (Go.Operand.tmp 7)), none⟩ (by kernel_rfl) (by kernel_rfl) (by kernel_rfl) (by kernel_rfl) (by kernel_rfl) #[true, true, false, false, false, false, false, false, false, false, false, false, false, false, false, false] (by kernel_rfl) fun R1 hR1 => ?_
            simp only [go_sem, Nat.reduceBEq, Nat.reduceLT, Nat.reduceEqDiff, Nat.reduceAdd, Int.reduceLE, Int.reduceLT, Int.reduceNeg, Int.reduceEq, Int.reduceToNat, reduceCtorEq, outer_at hin, outer_at hjn, rows_at hin, rows_put hin hjn, getD_map Event.v t hin, getD_map Event.v t hjn]
            repeat' with_reducible refine And.intro ?_ ?_
            all_goals first | (refine hR1 _ ?_; clear hR1 R1) | omega | rfl | decide | assumption | (simp [roomFor, maxLen, by49, by4, by27, by3] <;> omega)
            refine AnyA.take ok 2 ⟨some 44, (Go.Op.indexAddr 42 (Go.Operand.tmp 42) (Go.Operand.tmp 43)), none⟩ (by kernel_rfl) (by kernel_rfl) (by kernel_rfl) (by kernel_rfl) (by kernel_rfl) #[true, true, true, false, false, false, false, false, false, false, false, false, false, false, false, false] (by kernel_rfl) fun R1 hR1 => ?_
            simp only [go_sem, Nat.reduceBEq, Nat.reduceLT, Nat.reduceEqDiff, Nat.reduceAdd, Int.reduceLE, Int.reduceLT, Int.reduceNeg, Int.reduceEq, Int.reduceToNat, reduceCtorEq, outer_at hin, outer_at hjn, rows_at hin, rows_put hin hjn, getD_map Event.v t hin, getD_map Event.v t hjn]
            repeat' with_reducible refine And.intro ?_ ?_
            all_goals first | (refine hR1 _ ?_; clear hR1 R1) | omega | rfl | decide | assumption | (simp [roomFor, maxLen, by49, by4, by27, by3] <;> omega)
            refine AnyA.take ok 3 ⟨some 45, (Go.Op.load 49 (Go.Operand.tmp 44)), none⟩ (by kernel_rfl) (by kernel_rfl) (by kernel_rfl) (by kernel_rfl) (by kernel_rfl) #[true, true, true, true, false, false, false, false, false, false, false, false, false, false, false, false] (by kernel_rfl) fun R1 hR1 => ?_
            simp only [go_sem, Nat.reduceBEq, Nat.reduceLT, Nat.reduceEqDiff, Nat.reduceAdd, Int.reduceLE, Int.reduceLT, Int.reduceNeg, Int.reduceEq, Int.reduceToNat, reduceCtorEq, outer_at hin, outer_at hjn, rows_at hin, rows_put hin hjn, getD_map Event.v t hin, getD_map Event.v t hjn]
            repeat' with_reducible refine And.intro ?_ ?_
            all_goals first | (refine hR1 _ ?_; clear hR1 R1) | omega | rfl | decide | assumption | (simp [roomFor, maxLen, by49, by4, by27, by3] <;> omega)
            refine AnyA.take ok 4 ⟨some 46, (Go.Op.move (Go.Operand.tmp 8)), none⟩ (by kernel_rfl) (by kernel_rfl) (by kernel_rfl) (by kernel_rfl) (by kernel_rfl) #[true, true, true, true, true, false, false, false, false, false, false, false, false, false, false, false] (by kernel_rfl) fun R1 hR1 => ?_
            simp only [go_sem, Nat.reduceBEq, Nat.reduceLT, Nat.reduceEqDiff, Nat.reduceAdd, Int.reduceLE, Int.reduceLT, Int.reduceNeg, Int.reduceEq, Int.reduceToNat, reduceCtorEq, outer_at hin, outer_at hjn, rows_at hin, rows_put hin hjn, getD_map Event.v t hin, getD_map Event.v t hjn]
            repeat' with_reducible refine And.intro ?_ ?_
            all_goals first | (refine hR1 _ ?_; clear hR1 R1) | omega | rfl | decide | assumption | (simp [roomFor, maxLen, by49, by4, by27, by3] <;> omega)
            refine AnyA.take ok 5 ⟨some 47, (Go.Op.move (Go.Operand.tmp 0)), none⟩ (by kernel_rfl) (by kernel_rfl) (by kernel_rfl) (by kernel_rfl) (by kernel_rfl) #[true, true, true, true, true, true, false, false, false, false, false, false, false, false, false, false] (by kernel_rfl) fun R1 hR1 => ?_
            simp only [go_sem, Nat.reduceBEq, Nat.reduceLT, Nat.reduceEqDiff, Nat.reduceAdd, Int.reduceLE, Int.reduceLT, Int.reduceNeg, Int.reduceEq, Int.reduceToNat, reduceCtorEq, outer_at hin, outer_at hjn, rows_at hin, rows_put hin hjn, getD_map Event.v t hin, getD_map Event.v t hjn]
            repeat' with_reducible refine And.intro ?_ ?_
            all_goals first | (refine hR1 _ ?_; clear hR1 R1) | omega | rfl | decide | assumption | (simp [roomFor, maxLen, by49, by4, by27, by3] <;> omega)
            refine AnyA.take ok 6 ⟨some 48, (Go.Op.move (Go.Operand.tmp 7)), none⟩ (by kernel_rfl) (by kernel_rfl) (by kernel_rfl) (by kernel_rfl) (by kernel_rfl) #[true, true, true, true, true, true, true, false, false, false, false, false, false, false, false, false] (by kernel_rfl) fun R1 hR1 => ?_
            simp only [go_sem, Nat.reduceBEq, Nat.reduceLT, Nat.reduceEqDiff, Nat.reduceAdd, Int.reduceLE, Int.reduceLT, Int.reduceNeg, Int.reduceEq, Int.reduceToNat, reduceCtorEq, outer_at hin, outer_at hjn, rows_at hin, rows_put hin hjn, getD_map Event.v t hin, getD_map Event.v t hjn]
            repeat' with_reducible refine And.intro ?_ ?_
            all_goals first | (refine hR1 _ ?_; clear hR1 R1) | omega | rfl | decide | assumption | (simp [roomFor, maxLen, by49, by4, by27, by3] <;> omega)
            refine AnyA.take ok 7 ⟨some 49, (Go.Op.indexAddr 32 (Go.Operand.tmp 47) (Go.Operand.tmp 48)), none⟩ (by kernel_rfl) (by kernel_rfl) (by kernel_rfl) (by kernel_rfl) (by kernel_rfl) #[true, true, true, true, true, true, true, true, false, false, false, false, false, false, false, false] (by kernel_rfl) fun R1 hR1 => ?_
            simp only [go_sem, Nat.reduceBEq, Nat.reduceLT, Nat.reduceEqDiff, Nat.reduceAdd, Int.reduceLE, Int.reduceLT, Int.reduceNeg, Int.reduceEq, Int.reduceToNat, reduceCtorEq, outer_at hin, outer_at hjn, rows_at hin, rows_put hin hjn, getD_map Event.v t hin, getD_map Event.v t hjn]
            repeat' with_reducible refine And.intro ?_ ?_
            all_goals first | (refine hR1 _ ?_; clear hR1 R1) | omega | rfl | decide | assumption | (simp [roomFor, maxLen, by49, by4, by27, by3] <;> omega)
            refine AnyA.take ok 8 ⟨some 50, (Go.Op.load 30 (Go.Operand.tmp 49)), none⟩ (by kernel_rfl) (by kernel_rfl) (by kernel_rfl) (by kernel_rfl) (by kernel_rfl) #[true, true, true, true, true, true, true, true, true, false, false, false, false, false, false, false] (by kernel_rfl) fun R1 hR1 => ?_
            simp only [go_sem, Nat.reduceBEq, Nat.reduceLT, Nat.reduceEqDiff, Nat.reduceAdd, Int.reduceLE, Int.reduceLT, Int.reduceNeg, Int.reduceEq, Int.reduceToNat, reduceCtorEq, outer_at hin, outer_at hjn, rows_at hin, rows_put hin hjn, getD_map Event.v t hin, getD_map Event.v t hjn]
            repeat' with_reducible refine And.intro ?_ ?_
            all_goals first | (refine hR1 _ ?_; clear hR1 R1) | omega | rfl | decide | assumption | (simp [roomFor, maxLen, by49, by4, by27, by3] <;> omega)
            refine AnyA.take ok 9 ⟨some 51, (Go.Op.move (Go.Operand.tmp 0)), none⟩ (by kernel_rfl) (by kernel_rfl) (by kernel_rfl) (by kernel_rfl) (by kernel_rfl) #[true, true, true, true, true, true, true, true, true, true, false, false, false, false, false, false] (by kernel_rfl) fun R1 hR1 => ?_
            simp only [go_sem, Nat.reduceBEq, Nat.reduceLT, Nat.reduceEqDiff, Nat.reduceAdd, Int.reduceLE, Int.reduceLT, Int.reduceNeg, Int.reduceEq, Int.reduceToNat, reduceCtorEq, outer_at hin, outer_at hjn, rows_at hin, rows_put hin hjn, getD_map Event.v t hin, getD_map Event.v t hjn]
            repeat' with_reducible refine And.intro ?_ ?_
            all_goals first | (refine hR1 _ ?_; clear hR1 R1) | omega | rfl | decide | assumption | (simp [roomFor, maxLen, by49, by4, by27, by3] <;> omega)
            refine AnyA.take ok 10 ⟨some 52, (Go.Op.move (Go.Operand.tmp 8)), none⟩ (by kernel_rfl) (by kernel_rfl) (by kernel_rfl) (by kernel_rfl) (by kernel_rfl) #[true, true, true, true, true, true, true, true, true, true, true, false, false, false, false, false] (by kernel_rfl) fun R1 hR1 => ?_
            simp only [go_sem, Nat.reduceBEq, Nat.reduceLT, Nat.reduceEqDiff, Nat.reduceAdd, Int.reduceLE, Int.reduceLT, Int.reduceNeg, Int.reduceEq, Int.reduceToNat, reduceCtorEq, outer_at hin, outer_at hjn, rows_at hin, rows_put hin hjn, getD_map Event.v t hin, getD_map Event.v t hjn]
            repeat' with_reducible refine And.intro ?_ ?_
            all_goals first | (refine hR1 _ ?_; clear hR1 R1) | omega | rfl | decide | assumption | (simp [roomFor, maxLen, by49, by4, by27, by3] <;> omega)
            refine AnyA.take ok 11 ⟨some 53, (Go.Op.indexAddr 32 (Go.Operand.tmp 51) (Go.Operand.tmp 52)), none⟩ (by kernel_rfl) (by kernel_rfl) (by kernel_rfl) (by kernel_rfl) (by kernel_rfl) #[true, true, true, true, true, true, true, true, true, true, true, true, false, false, false, false] (by kernel_rfl) fun R1 hR1 => ?_
            simp only [go_sem, Nat.reduceBEq, Nat.reduceLT, Nat.reduceEqDiff, Nat.reduceAdd, Int.reduceLE, Int.reduceLT, Int.reduceNeg, Int.reduceEq, Int.reduceToNat, reduceCtorEq, outer_at hin, outer_at hjn, rows_at hin, rows_put hin hjn, getD_map Event.v t hin, getD_map Event.v t hjn]
            repeat' with_reducible refine And.intro ?_ ?_
            all_goals first | (refine hR1 _ ?_; clear hR1 R1) | omega | rfl | decide | assumption | (simp [roomFor, maxLen, by49, by4, by27, by3] <;> omega)
            refine AnyA.take ok 12 ⟨some 54, (Go.Op.load 30 (Go.Operand.tmp 53)), none⟩ (by kernel_rfl) (by kernel_rfl) (by kernel_rfl) (by kernel_rfl) (by kernel_rfl) #[true, true, true, true, true, true, true, true, true, true, true, true, true, false, false, false] (by kernel_rfl) fun R1 hR1 => ?_
            simp only [go_sem, Nat.reduceBEq, Nat.reduceLT, Nat.reduceEqDiff, Nat.reduceAdd, Int.reduceLE, Int.reduceLT, Int.reduceNeg, Int.reduceEq, Int.reduceToNat, reduceCtorEq, outer_at hin, outer_at hjn, rows_at hin, rows_put hin hjn, getD_map Event.v t hin, getD_map Event.v t hjn]
            repeat' with_reducible refine And.intro ?_ ?_
            all_goals first | (refine hR1 _ ?_; clear hR1 R1) | omega | rfl | decide | assumption | (simp [roomFor, maxLen, by49, by4, by27, by3] <;> omega)
            refine AnyA.all (rs := [13]) ok (by kernel_rfl) (by kernel_rfl) rfl ?_
            refine Branches.keep (i := 13) ⟨some 55, (Go.Op.call (Go.Call.mk (Go.Callee.value (Go.Operand.func 10)) #[(Go.Operand.tmp 50), (Go.Operand.tmp 54)] #[30, 30])), none⟩ (by kernel_rfl) rfl #[true, true, true, true, true, true, true, true, true, true, true, true, true, true, false, false] (by kernel_rfl) (fun R1 hR1 => ?_) ?_
            rotate_left
            exact Branches.nil
            simp only [go_sem, Nat.reduceBEq, Nat.reduceLT, Nat.reduceEqDiff, Nat.reduceAdd, Int.reduceLE, Int.reduceLT, Int.reduceNeg, Int.reduceEq, Int.reduceToNat, reduceCtorEq, outer_at hin, outer_at hjn, rows_at hin, rows_put hin hjn, getD_map Event.v t hin, getD_map Event.v t hjn]
            repeat' with_reducible refine And.intro ?_ ?_
            all_goals try (first | omega | assumption | (intro _; omega))
            first | refine ⟨_, _, rfl, .inl ⟨_, CallQ.ctr ok (dependent_ctr (t.getD i default) (t.getD j default) (h6 _ (getD_mem t hin)) (h6 _ (getD_mem t hjn))) (by first | rfl | (simp [argsV, toVs, contentV, toV, ty60, ty65, ty42, ty49, ty33, ty32, ty34, ty3, ty4, ty22, ty27, ty28, ty30, ty25, ty2, List.length_map, List.take_of_length_le])) rfl, ?_⟩⟩ | refine ⟨_, _, rfl, .inl ⟨_, fun hg => CallQ.ctr ok (dependent_ctr (t.getD i default) (t.getD j default) (h6 _ (getD_mem t hin)) (h6 _ (getD_mem t hjn))) (by first | rfl | (simp [argsV, toVs, contentV, toV, ty60, ty65, ty42, ty49, ty33, ty32, ty34, ty3, ty4, ty22, ty27, ty28, ty30, ty25, ty2, List.length_map, List.take_of_length_le])) rfl, ?_⟩⟩
            simp only [go_sem, Nat.reduceBEq, Nat.reduceLT, Nat.reduceEqDiff, Nat.reduceAdd, Int.reduceLE, Int.reduceLT, Int.reduceNeg, Int.reduceEq, Int.reduceToNat, reduceCtorEq, outer_at hin, outer_at hjn, rows_at hin, rows_put hin hjn, getD_map Event.v t hin, getD_map Event.v t hjn]
            repeat' with_reducible refine And.intro ?_ ?_
            all_goals first | (refine hR1 _ ?_; clear hR1 R1) | omega | rfl | decide | assumption | (simp [roomFor, maxLen, by49, by4, by27, by3] <;> omega)
            refine AnyA.take ok 14 ⟨some 56, (Go.Op.indexAddr 49 (Go.Operand.tmp 45) (Go.Operand.tmp 46)), none⟩ (by kernel_rfl) (by kernel_rfl) (by kernel_rfl) (by kernel_rfl) (by kernel_rfl) #[true, true, true, true, true, true, true, true, true, true, true, true, true, true, true, false] (by kernel_rfl) fun R1 hR1 => ?_
            simp only [go_sem, Nat.reduceBEq, Nat.reduceLT, Nat.reduceEqDiff, Nat.reduceAdd, Int.reduceLE, Int.reduceLT, Int.reduceNeg, Int.reduceEq, Int.reduceToNat, reduceCtorEq, outer_at hin, outer_at hjn, rows_at hin, rows_put hin hjn, getD_map Event.v t hin, getD_map Event.v t hjn]
            repeat' with_reducible refine And.intro ?_ ?_
            all_goals first | (refine hR1 _ ?_; clear hR1 R1) | omega | rfl | decide | assumption | (simp [roomFor, maxLen, by49, by4, by27, by3] <;> omega)
            refine AnyA.all (rs := [15]) ok (by kernel_rfl) (by kernel_rfl) rfl ?_
            refine Branches.any (i := 15) ⟨none, (Go.Op.store 4 (Go.Operand.tmp 56) (Go.Operand.tmp 55)), none⟩ (by kernel_rfl) rfl #[true, true, true, true, true, true, true, true, true, true, true, true, true, true, true, true] (by kernel_rfl) (fun R1 hR1 => ?_) ?_
            rotate_left
            exact Branches.nil
            simp only [go_sem, Nat.reduceBEq, Nat.reduceLT, Nat.reduceEqDiff, Nat.reduceAdd, Int.reduceLE, Int.reduceLT, Int.reduceNeg, Int.reduceEq, Int.reduceToNat, reduceCtorEq, outer_at hin, outer_at hjn, rows_at hin, rows_put hin hjn, getD_map Event.v t hin, getD_map Event.v t hjn]
            repeat' with_reducible refine And.intro ?_ ?_
            all_goals first | (refine hR1 _ ?_; clear hR1 R1) | omega | rfl | decide | assumption | (simp [roomFor, maxLen, by49, by4, by27, by3] <;> omega)
            refine AnyA.done (by kernel_rfl) (hR _ ?_)
            clear hR R
            try simp only [go_sem, Nat.reduceBEq]
            refine thenK.normal ?_
            -- region 18: 1 paths
            refine SA.regionAny mixed 14 (by kernel_rfl) #[false, false, false, false, false, false, false, false, false, false, false, false, false, false] (by kernel_rfl) [13] [0, 5, 7, 30, 31, 35, 36] ?_
            intro R hR
            refine AnyA.take ok 0 ⟨some 57, (Go.Op.move (Go.Operand.tmp 5)), none⟩ (by kernel_rfl) (by kernel_rfl) (by kernel_rfl) (by kernel_rfl) (by kernel_rfl) #[true, false, false, false, false, false, false, false, false, false, false, false, false, false] (by kernel_rfl) fun R1 hR1 => ?_
            simp only [go_sem, Nat.reduceBEq, Nat.reduceLT, Nat.reduceEqDiff, Nat.reduceAdd, Int.reduceLE, Int.reduceLT, Int.reduceNeg, Int.reduceEq, Int.reduceToNat, reduceCtorEq, outer_at hin, outer_at hjn, rows_at hin, rows_at hjn, rows_put hjn hin, fill_at hjn, V.toBool_bool, and_self, if_true]
            repeat' with_reducible refine And.intro ?_ ?_
            all_goals first | (refine hR1 _ ?_; clear hR1 R1) | omega | rfl | decide | assumption | (simp [roomFor, maxLen, by49, by4, by27, by3] <;> omega)
            refine AnyA.take ok 1 ⟨some 58, (Go.Op.move (Go.Operand.tmp 8)), none⟩ (by kernel_rfl) (by kernel_rfl) (by kernel_rfl) (by kernel_rfl) (by kernel_rfl) #[true, true, false, false, false, false, false, false, false, false, false, false, false, false] (by kernel_rfl) fun R1 hR1 => ?_
            simp only [go_sem, Nat.reduceBEq, Nat.reduceLT, Nat.reduceEqDiff, Nat.reduceAdd, Int.reduceLE, Int.reduceLT, Int.reduceNeg, Int.reduceEq, Int.reduceToNat, reduceCtorEq, outer_at hin, outer_at hjn, rows_at hin, rows_at hjn, rows_put hjn hin, fill_at hjn, V.toBool_bool, and_self, if_true]
            repeat' with_reducible refine And.intro ?_ ?_
            all_goals first | (refine hR1 _ ?_; clear hR1 R1) | omega | rfl | decide | assumption | (simp [roomFor, maxLen, by49, by4, by27, by3] <;> omega)
            refine AnyA.take ok 2 ⟨some 59, (Go.Op.indexAddr 42 (Go.Operand.tmp 57) (Go.Operand.tmp 58)), none⟩ (by kernel_rfl) (by kernel_rfl) (by kernel_rfl) (by kernel_rfl) (by kernel_rfl) #[true, true, true, false, false, false, false, false, false, false, false, false, false, false] (by kernel_rfl) fun R1 hR1 => ?_
            simp only [go_sem, Nat.reduceBEq, Nat.reduceLT, Nat.reduceEqDiff, Nat.reduceAdd, Int.reduceLE, Int.reduceLT, Int.reduceNeg, Int.reduceEq, Int.reduceToNat, reduceCtorEq, outer_at hin, outer_at hjn, rows_at hin, rows_at hjn, rows_put hjn hin, fill_at hjn, V.toBool_bool, and_self, if_true]
            repeat' with_reducible refine And.intro ?_ ?_
            all_goals first | (refine hR1 _ ?_; clear hR1 R1) | omega | rfl | decide | assumption | (simp [roomFor, maxLen, by49, by4, by27, by3] <;> omega)
            refine AnyA.take ok 3 ⟨some 60, (Go.Op.load 49 (Go.Operand.tmp 59)), none⟩ (by kernel_rfl) (by kernel_rfl) (by kernel_rfl) (by kernel_rfl) (by kernel_rfl) #[true, true, true, true, false, false, false, false, false, false, false, false, false, false] (by kernel_rfl) fun R1 hR1 => ?_
            simp only [go_sem, Nat.reduceBEq, Nat.reduceLT, Nat.reduceEqDiff, Nat.reduceAdd, Int.reduceLE, Int.reduceLT, Int.reduceNeg, Int.reduceEq, Int.reduceToNat, reduceCtorEq, outer_at hin, outer_at hjn, rows_at hin, rows_at hjn, rows_put hjn hin, fill_at hjn, V.toBool_bool, and_self, if_true]
            repeat' with_reducible refine And.intro ?_ ?_
            all_goals first | (refine hR1 _ ?_; clear hR1 R1) | omega | rfl | decide | assumption | (simp [roomFor, maxLen, by49, by4, by27, by3] <;> omega)
            refine AnyA.take ok 4 ⟨some 61, (Go.Op.move (Go.Operand.tmp 7)), none⟩ (by kernel_rfl) (by kernel_rfl) (by kernel_rfl) (by kernel_rfl) (by kernel_rfl) #[true, true, true, true, true, false, false, false, false, false, false, false, false, false] (by kernel_rfl) fun R1 hR1 => ?_
            simp only [go_sem, Nat.reduceBEq, Nat.reduceLT, Nat.reduceEqDiff, Nat.reduceAdd, Int.reduceLE, Int.reduceLT, Int.reduceNeg, Int.reduceEq, Int.reduceToNat, reduceCtorEq, outer_at hin, outer_at hjn, rows_at hin, rows_at hjn, rows_put hjn hin, fill_at hjn, V.toBool_bool, and_self, if_true]
            repeat' with_reducible refine And.intro ?_ ?_
            all_goals first | (refine hR1 _ ?_; clear hR1 R1) | omega | rfl | decide | assumption | (simp [roomFor, maxLen, by49, by4, by27, by3] <;> omega)
            refine AnyA.take ok 5 ⟨some 62, (Go.Op.move (Go.Operand.tmp 5)), none⟩ (by kernel_rfl) (by kernel_rfl) (by kernel_rfl) (by kernel_rfl) (by kernel_rfl) #[true, true, true, true, true, true, false, false, false, false, false, false, false, false] (by kernel_rfl) fun R1 hR1 => ?_
            simp only [go_sem, Nat.reduceBEq, Nat.reduceLT, Nat.reduceEqDiff, Nat.reduceAdd, Int.reduceLE, Int.reduceLT, Int.reduceNeg, Int.reduceEq, Int.reduceToNat, reduceCtorEq, outer_at hin, outer_at hjn, rows_at hin, rows_at hjn, rows_put hjn hin, fill_at hjn, V.toBool_bool, and_self, if_true]
            repeat' with_reducible refine And.intro ?_ ?_
            all_goals first | (refine hR1 _ ?_; clear hR1 R1) | omega | rfl | decide | assumption | (simp [roomFor, maxLen, by49, by4, by27, by3] <;> omega)
            refine AnyA.take ok 6 ⟨some 63, (Go.Op.move (Go.Operand.tmp 7)), none⟩ (by kernel_rfl) (by kernel_rfl) (by kernel_rfl) (by kernel_rfl) (by kernel_rfl) #[true, true, true, true, true, true, true, false, false, false, false, false, false, false] (by kernel_rfl) fun R1 hR1 => ?_
            simp only [go_sem, Nat.reduceBEq, Nat.reduceLT, Nat.reduceEqDiff, Nat.reduceAdd, Int.reduceLE, Int.reduceLT, Int.reduceNeg, Int.reduceEq, Int.reduceToNat, reduceCtorEq, outer_at hin, outer_at hjn, rows_at hin, rows_at hjn, rows_put hjn hin, fill_at hjn, V.toBool_bool, and_self, if_true]
            repeat' with_reducible refine And.intro ?_ ?_
            all_goals first | (refine hR1 _ ?_; clear hR1 R1) | omega | rfl | decide | assumption | (simp [roomFor, maxLen, by49, by4, by27, by3] <;> omega)
            refine AnyA.take ok 7 ⟨some 64, (Go.Op.indexAddr 42 (Go.Operand.tmp 62) (Go.Operand.tmp 63)), none⟩ (by kernel_rfl) (by kernel_rfl) (by kernel_rfl) (by kernel_rfl) (by kernel_rfl) #[true, true, true, true, true, true, true, true, false, false, false, false, false, false] (by kernel_rfl) fun R1 hR1 => ?_
            simp only [go_sem, Nat.reduceBEq, Nat.reduceLT, Nat.reduceEqDiff, Nat.reduceAdd, Int.reduceLE, Int.reduceLT, Int.reduceNeg, Int.reduceEq, Int.reduceToNat, reduceCtorEq, outer_at hin, outer_at hjn, rows_at hin, rows_at hjn, rows_put hjn hin, fill_at hjn, V.toBool_bool, and_self, if_true]
            repeat' with_reducible refine And.intro ?_ ?_
            all_goals first | (refine hR1 _ ?_; clear hR1 R1) | omega | rfl | decide | assumption | (simp [roomFor, maxLen, by49, by4, by27, by3] <;> omega)
            refine AnyA.take ok 8 ⟨some 65, (Go.Op.load 49 (Go.Operand.tmp 64)), none⟩ (by kernel_rfl) (by kernel_rfl) (by kernel_rfl) (by kernel_rfl) (by kernel_rfl) #[true, true, true, true, true, true, true, true, true, false, false, false, false, false] (by kernel_rfl) fun R1 hR1 => ?_
            simp only [go_sem, Nat.reduceBEq, Nat.reduceLT, Nat.reduceEqDiff, Nat.reduceAdd, Int.reduceLE, Int.reduceLT, Int.reduceNeg, Int.reduceEq, Int.reduceToNat, reduceCtorEq, outer_at hin, outer_at hjn, rows_at hin, rows_at hjn, rows_put hjn hin, fill_at hjn, V.toBool_bool, and_self, if_true]
            repeat' with_reducible refine And.intro ?_ ?_
            all_goals first | (refine hR1 _ ?_; clear hR1 R1) | omega | rfl | decide | assumption | (simp [roomFor, maxLen, by49, by4, by27, by3] <;> omega)
            refine AnyA.take ok 9 ⟨some 66, (Go.Op.move (Go.Operand.tmp 8)), none⟩ (by kernel_rfl) (by kernel_rfl) (by kernel_rfl) (by kernel_rfl) (by kernel_rfl) #[true, true, true, true, true, true, true, true, true, true, false, false, false, false] (by kernel_rfl) fun R1 hR1 => ?_
            simp only [go_sem, Nat.reduceBEq, Nat.reduceLT, Nat.reduceEqDiff, Nat.reduceAdd, Int.reduceLE, Int.reduceLT, Int.reduceNeg, Int.reduceEq, Int.reduceToNat, reduceCtorEq, outer_at hin, outer_at hjn, rows_at hin, rows_at hjn, rows_put hjn hin, fill_at hjn, V.toBool_bool, and_self, if_true]
            repeat' with_reducible refine And.intro ?_ ?_
            all_goals first | (refine hR1 _ ?_; clear hR1 R1) | omega | rfl | decide | assumption | (simp [roomFor, maxLen, by49, by4, by27, by3] <;> omega)
            refine AnyA.take ok 10 ⟨some 67, (Go.Op.indexAddr 49 (Go.Operand.tmp 65) (Go.Operand.tmp 66)), none⟩ (by kernel_rfl) (by kernel_rfl) (by kernel_rfl) (by kernel_rfl) (by kernel_rfl) #[true, true, true, true, true, true, true, true, true, true, true, false, false, false] (by kernel_rfl) fun R1 hR1 => ?_
            simp only [go_sem, Nat.reduceBEq, Nat.reduceLT, Nat.reduceEqDiff, Nat.reduceAdd, Int.reduceLE, Int.reduceLT, Int.reduceNeg, Int.reduceEq, Int.reduceToNat, reduceCtorEq, outer_at hin, outer_at hjn, rows_at hin, rows_at hjn, rows_put hjn hin, fill_at hjn, V.toBool_bool, and_self, if_true]
            repeat' with_reducible refine And.intro ?_ ?_
            all_goals first | (refine hR1 _ ?_; clear hR1 R1) | omega | rfl | decide | assumption | (simp [roomFor, maxLen, by49, by4, by27, by3] <;> omega)
            refine AnyA.take ok 11 ⟨some 68, (Go.Op.load 4 (Go.Operand.tmp 67)), none⟩ (by kernel_rfl) (by kernel_rfl) (by kernel_rfl) (by kernel_rfl) (by kernel_rfl) #[true, true, true, true, true, true, true, true, true, true, true, true, false, false] (by kernel_rfl) fun R1 hR1 => ?_
            simp only [go_sem, Nat.reduceBEq, Nat.reduceLT, Nat.reduceEqDiff, Nat.reduceAdd, Int.reduceLE, Int.reduceLT, Int.reduceNeg, Int.reduceEq, Int.reduceToNat, reduceCtorEq, outer_at hin, outer_at hjn, rows_at hin, rows_at hjn, rows_put hjn hin, fill_at hjn, V.toBool_bool, and_self, if_true]
            repeat' with_reducible refine And.intro ?_ ?_
            all_goals first | (refine hR1 _ ?_; clear hR1 R1) | omega | rfl | decide | assumption | (simp [roomFor, maxLen, by49, by4, by27, by3] <;> omega)
            refine AnyA.take ok 12 ⟨some 69, (Go.Op.indexAddr 49 (Go.Operand.tmp 60) (Go.Operand.tmp 61)), none⟩ (by kernel_rfl) (by kernel_rfl) (by kernel_rfl) (by kernel_rfl) (by kernel_rfl) #[true, true, true, true, true, true, true, true, true, true, true, true, true, false] (by kernel_rfl) fun R1 hR1 => ?_
            simp only [go_sem, Nat.reduceBEq, Nat.reduceLT, Nat.reduceEqDiff, Nat.reduceAdd, Int.reduceLE, Int.reduceLT, Int.reduceNeg, Int.reduceEq, Int.reduceToNat, reduceCtorEq, outer_at hin, outer_at hjn, rows_at hin, rows_at hjn, rows_put hjn hin, fill_at hjn, V.toBool_bool, and_self, if_true]
            repeat' with_reducible refine And.intro ?_ ?_
            all_goals first | (refine hR1 _ ?_; clear hR1 R1) | omega | rfl | decide | assumption | (simp [roomFor, maxLen, by49, by4, by27, by3] <;> omega)
            refine AnyA.all (rs := [13]) ok (by kernel_rfl) (by kernel_rfl) rfl ?_
            refine Branches.any (i := 13) ⟨none, (Go.Op.store 4 (Go.Operand.tmp 69) (Go.Operand.tmp 68)), none⟩ (by kernel_rfl) rfl #[true, true, true, true, true, true, true, true, true, true, true, true, true, true] (by kernel_rfl) (fun R1 hR1 => ?_) ?_
            rotate_left
            exact Branches.nil
            simp only [go_sem, Nat.reduceBEq, Nat.reduceLT, Nat.reduceEqDiff, Nat.reduceAdd, Int.reduceLE, Int.reduceLT, Int.reduceNeg, Int.reduceEq, Int.reduceToNat, reduceCtorEq, outer_at hin, outer_at hjn, rows_at hin, rows_at hjn, rows_put hjn hin, fill_at hjn, V.toBool_bool, and_self, if_true]
            repeat' with_reducible refine And.intro ?_ ?_
            all_goals first | (refine hR1 _ ?_; clear hR1 R1) | omega | rfl | decide | assumption | (simp [roomFor, maxLen, by49, by4, by27, by3] <;> omega)
            refine AnyA.done (by kernel_rfl) (hR _ ?_)
            clear hR R
            try simp only [go_sem, Nat.reduceBEq]
            refine blockK.normal ?_
            refine thenK.normal ?_
            refine SA.region ok (by kernel_rfl) [0, 5, 7, 30, 31, 35, 36] ?_
            intro R hR
            simp only [go_sem, strip]
            iterate 2 (refine opsA_cons fun R1 hR1 => ?_; simp only [go_sem, Nat.reduceBEq, Nat.reduceLT, Nat.reduceEqDiff, Nat.reduceAdd, Int.reduceLE, Int.reduceLT, Int.reduceNeg, Int.reduceEq, Int.reduceToNat, reduceCtorEq]; (repeat' with_reducible refine And.intro ?_ ?_); all_goals first | (refine hR1 _ ?_; clear hR1 R1) | omega | rfl | decide | assumption | (simp [roomFor, maxLen, by49, by4, by27, by3] <;> omega))
            refine opsA_nil (hR _ ?_)
            clear hR R
            try simp only [go_sem, Nat.reduceBEq]
            refine loopK.normal (t.length - (j + 1)) _ (by omega) (St.le.of_eq ?_) ⟨j + 1, rfl, ⟨hjn, by omega⟩, rfl⟩
            rw [wrap_succ hjn ht]
            congr 2
            exact rows_congr fun k m _ _ => ent_step t (by omega)
        · intro hb4
          simp only [decide_eq_true_eq, decide_eq_false_iff_not, Int.not_lt, Int.not_le] at hb4
          refine SA.exit ?_
          refine thenK.exit ?_
          refine loopK.exit ?_
          refine blockK.hit ?_
          refine blockK.normal ?_
          refine thenK.normal ?_
          refine SA.region ok (by kernel_rfl) [0, 5, 30, 31] ?_
          intro R hR
          simp only [go_sem, strip]
          iterate 2 (refine opsA_cons fun R1 hR1 => ?_; simp only [go_sem, Nat.reduceBEq, Nat.reduceLT, Nat.reduceEqDiff, Nat.reduceAdd, Int.reduceLE, Int.reduceLT, Int.reduceNeg, Int.reduceEq, Int.reduceToNat, reduceCtorEq]; (repeat' with_reducible refine And.intro ?_ ?_); all_goals first | (refine hR1 _ ?_; clear hR1 R1) | omega | rfl | decide | assumption | (simp [roomFor, maxLen, by49, by4, by27, by3] <;> omega))
          refine opsA_nil (hR _ ?_)
          clear hR R
          try simp only [go_sem, Nat.reduceBEq]
          have hji1 : j = i + 1 := by omega
          subst hji1
          have e1 : rows t (ent t i (i + 1)) = rows t (ent t (i + 1) 0) := rows_congr fun k m _ _ => ent_row t i k m
          refine loopK.normal (t.length - (i + 1)) _ (by omega) (St.le.of_eq (by rw [e1, wrap_succ (show i < t.length by omega) ht])) ⟨i + 1, rfl, by omega, rfl⟩
      · intro hb3
        simp only [decide_eq_true_eq, decide_eq_false_iff_not, Int.not_lt, Int.not_le] at hb3
        refine SA.exit ?_
        refine thenK.exit ?_
        refine loopK.exit ?_
        refine blockK.hit ?_
        refine thenK.normal ?_
        refine SA.seq ?_
        have hit2 : i = t.length := by omega
        subst hit2
        refine SA.weaken (St.le.frzAll (e := 49) (e2 := 4) (n := t.length) ok.sized (fun k => fill t (ent t t.length 0) k) (fun k _ => fill_len t _ k) rfl (fun _ _ _ => rfl) (fun _ _ _ => rfl)) ?_
        refine SA.region ok (by kernel_rfl) [2, 3] ?_
        intro R hR
        simp only [go_sem, strip]
        iterate 3 (refine opsA_cons fun R1 hR1 => ?_; simp only [go_sem, Nat.reduceBEq, Nat.reduceLT, Nat.reduceEqDiff, Nat.reduceAdd, Int.reduceLE, Int.reduceLT, Int.reduceNeg, Int.reduceEq, Int.reduceToNat, reduceCtorEq]; (repeat' with_reducible refine And.intro ?_ ?_); all_goals first | (refine hR1 _ ?_; clear hR1 R1) | omega | rfl | decide | assumption | (simp [roomFor, maxLen, by49, by4, by27, by3] <;> omega))
        refine opsA_nil (hR _ ?_)
        clear hR R
        try simp only [go_sem, Nat.reduceBEq]
        refine thenK.normal ?_
        refine SA.ret ?_
        refine scopeK.ret ?_
        refine ctrZK.ret ?_
        simp only [resA, evalO, resV, backK, outE, toV, ty4, ty3, List.lookup_cons, List.lookup_nil, beq_self_eq_true, forall_const, true_and, and_true]
        simp only [go_sem, Nat.reduceBEq, Nat.reduceLT, Nat.reduceEqDiff, Nat.reduceAdd, Int.reduceLE, Int.reduceLT, Int.reduceNeg, Int.reduceEq, Int.reduceToNat, reduceCtorEq]
        rw [table_eq, hb1, if_pos rfl, List.drop_zero, List.take_of_length_le (by simp [tableV])]

end Go.Eng.Try
