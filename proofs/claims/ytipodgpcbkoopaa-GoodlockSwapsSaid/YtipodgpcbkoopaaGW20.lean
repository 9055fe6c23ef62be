/- A part of the proof: walks through the program's functions, and what they compute. -/
import Derived.Test.YtipodgpcbkoopaaE3
import Derived.Test.YtipodgpcbkoopaaM1
import Derived.Test.YtipodgpcbkoopaaE4
import Derived.Test.YtipodgpcbkoopaaGW8
namespace Go.Eng.Try
open Go.RowKit Go.Eng
set_option linter.unusedSimpArgs false
set_option linter.unusedVariables false

theorem firstLock_mem : ∀ (l : List Access), firstLock l = -1 ∨ ∃ a ∈ l, a.kind = 2 ∧ firstLock l = a.num
  | [] => .inl rfl
  | a :: l => by
    unfold firstLock
    by_cases h : a.kind = 2
    · rw [if_pos h]; exact .inr ⟨a, by simp, h, rfl⟩
    · rw [if_neg h]
      rcases firstLock_mem l with h1 | ⟨b, h1, h2⟩
      · exact .inl h1
      · exact .inr ⟨b, by simp [h1], h2⟩
theorem right_acc {e : Event} (he : e.touch.length = 6) (h : right e = true) {j : Nat} (hj : (j : Int) < e.touches) : 0 ≤ (e.touch.getD j default).num ∧ (e.touch.getD j default).num < most (e.touch.getD j default).kind := by
  simp only [right, Bool.and_eq_true, decide_eq_true_eq] at h
  have hp := List.all_eq_true.1 h.2.1 j (List.mem_range.2 (by omega))
  simp only [placeOk, show ¬ e.touches ≤ ((j : Nat) : Int) by omega, if_false, Bool.and_eq_true, decide_eq_true_eq] at hp
  exact hp.1
theorem right_facts {e : Event} (he : e.touch.length = 6) (h : right e = true) : 0 ≤ e.go ∧ e.go < 6 ∧ 1 ≤ e.touches ∧ e.touches ≤ 6 ∧ -1 ≤ lockOf e ∧ lockOf e < 4 := by
  have h0 := h
  simp only [right, Bool.and_eq_true, decide_eq_true_eq] at h0
  refine ⟨h0.1.1.1.1, h0.1.1.1.2, h0.1.1.2, h0.1.2, ?_⟩
  rcases firstLock_mem (e.touch.take e.touches.toNat) with h1 | ⟨a, h1, h2, h3⟩
  · unfold lockOf; omega
  · obtain ⟨j, hj, rfl⟩ := List.mem_iff_getElem.1 h1
    have hjl : j < e.touches.toNat := by rw [List.length_take] at hj; omega
    have hg : (e.touch.take e.touches.toNat)[j] = e.touch.getD j default := by
      simp [List.getD_eq_getElem?_getD, show j < e.touch.length by omega]
    rw [hg] at h2 h3
    have := right_acc he h (j := j) (by omega)
    rw [h2] at this
    have hm : most 2 = 4 := by decide
    unfold lockOf; rw [h3]; omega
def nowF (t : List Event) (i : Nat) (g : Nat) : V := .agg ((locksTo t i g).map V.bool)
def nowL (t : List Event) (i : Nat) : List V := (List.range 6).map (nowF t i)
theorem now_step {t : List Event} {i : Nat} (h : i < t.length) (h0 : 0 ≤ (t.getD i default).go) (h6 : (t.getD i default).go < 6) {X : List Bool} (hX : lockStep (locksTo t i (t.getD i default).go) (t.getD i default) = X) :
    (nowL t i).set (t.getD i default).go.toNat (.agg (X.map V.bool)) = nowL t (i + 1) := by
  unfold nowL
  rw [rows_set (by omega)]
  apply List.map_congr_left
  intro g _
  unfold nowF
  rw [locksTo_succ t h]
  by_cases hg : g = (t.getD i default).go.toNat
  · have hg2 : (t.getD i default).go = (g : Int) := by omega
    rw [if_pos hg, if_pos hg2, ← hg2, hX]
  · rw [if_neg hg, if_neg (by omega)]
theorem now_same {t : List Event} {i : Nat} (h : i < t.length) (hX : ∀ l, lockStep l (t.getD i default) = l) : nowL t i = nowL t (i + 1) := by
  apply List.map_congr_left
  intro g _
  unfold nowF
  rw [locksTo_succ t h]
  split
  · rw [hX]
  · rfl
theorem nowF_at {t : List Event} {i : Nat} (h0 : 0 ≤ (t.getD i default).go) (h6 : (t.getD i default).go < 6) (d : V) : (nowL t i).getD (t.getD i default).go.toNat d = .agg ((heldOf t i).map V.bool) := by
  unfold nowL
  rw [rows_getD (by omega)]
  unfold nowF heldOf
  rw [show (((t.getD i default).go.toNat : Nat) : Int) = (t.getD i default).go by omega]
def heldsTo (t : List Event) (i : Nat) : List V := (List.range i).map fun k => boolsV (heldOf t k)
theorem heldsTo_len (t : List Event) (i : Nat) : (heldsTo t i).length = i := by simp [heldsTo]
theorem heldsTo_succ (t : List Event) (i : Nat) : heldsTo t (i + 1) = heldsTo t i ++ [.agg ((heldOf t i).map V.bool)] := by simp [heldsTo, List.range_succ, boolsV]
theorem now_zero (t : List Event) : List.replicate 6 (V.agg (List.replicate 4 (V.bool false))) = nowL t 0 := by rfl
theorem nowL_len (t : List Event) (i : Nat) : (nowL t i).length = 6 := by simp [nowL]

attribute [local go_sem] argsV contentV fromVs Option.getD_some St.keep List.filterMap_cons List.filterMap_nil Option.map_some Option.map_none opG opQ opB newEs outE CallStepB guardA putK putE pureA evalO evalL constE pickA capsE capsV loadA fieldAddrA indexAddrA indexA sliceA evalOptI builtinA binA plainA shiftA eqA nilA arith shifts effA storeA appendA appB freshA St.kill Tm.kill E.kill E.killL Obj.kill elemsOf evalVs buildA okAt toV fromV zeroE V.get V.put V.sub V.setSub args0 CallStep CallStepQ i64min i64max u64min u64max u32min u32max u8min u8max Nat.zero_add List.length_map List.lookup_cons List.lookup_nil List.getElem?_cons_zero List.getElem?_cons_succ List.getElem?_toArray List.getElem?_nil Option.bind_some Option.bind_none List.size_toArray List.length_cons List.length_nil List.nil_append List.append_nil List.cons_append List.getD_cons_zero List.getD_cons_succ List.map_cons List.map_nil List.set_cons_zero List.set_cons_succ true_and and_true forall_const true_implies Bool.true_and Bool.and_true Bool.not_true Bool.not_false Bool.false_and Bool.and_false beq_self_eq_true Bool.true_beq Bool.false_beq beq_true beq_false eq_self false_implies V.toInt_int V.toBool_bool V.toList_list V.toList_agg V.toStr_str V.deref_ref if_true if_false Bool.false_eq_true Option.isSome_none Option.isSome_some Bool.false_or Bool.true_or Bool.or_false Bool.or_true cond_true cond_false implies_true and_self imp_self ty22 ty25 ty3 ty4 ty81 ty39 ty40 ty42 ty37 ty2 ty23 ty24 ty46 ty68 ty65 ty70 ty69 ty90 ty77 ty59 ty98 ty71 ty93 ty64 ty85 concat_at List.length_range zero39 z39 z3 z4 z70 z68 z42 z40 z37 z2 zero40 z69 z90 zero70 zero69 zero90 zero68 zero42 Int.toNat_natCast Int.natCast_zero Event.v0 Event.v3 Event.v5 Event.v7 Event.v8 Access.v0 Access.v1 Access.v2 beq_acc Edge.v0 Edge.v1 Edge.v2 Edge.v3 heldOf_len locksTo_len heldsTo_len nowL_len
theorem of_ctr (e : Event) (he : e.touch.length = 6) (h0 : 0 ≤ e.touches) (h1 : e.touches ≤ 6) : Ctr Go.Proofs.Try.prog tab 52 [42] [3] [e.v] [.int (lockOf e)] := by
  have hl : (e.touch.take e.touches.toNat).length = e.touches.toNat := (by rw [List.length_take]; omega)
  refine Ctr.body ok Go.Proofs.Try.func52 rfl rfl 20 rfl [.tmp 2] rfl (by simp [fromVs]) ?_
  simp only [fromVs, fromV, args0, V.toList_list, V.toInt_int, V.toBool_bool, Nat.zero_add, Nat.reduceAdd, ty42]
  refine SA.seq ?_
  refine SA.region ok (by kernel_rfl) [1] ?_
  intro R r
  simp only [go_sem, strip]
  iterate 2 (refine opsA_cons fun Z q1 => ?_; simp only [go_sem, seval, -List.reduceReplicate]; (repeat' with_reducible refine And.intro ?_ ?_); all_goals first | (refine q1 _ ?_; clear q1 Z) | omega | rfl | decide | assumption | (intro _; omega) | (simp; done) | (simp; omega) | (simp [roomFor, maxLen, by39, by3, by68, by70, by23] <;> omega))
  refine opsA_nil (r _ ?_)
  clear r R
  try simp only [go_sem, Nat.reduceBEq]
  refine thenK.normal (SA.seq ?_)
  refine SA.seq ?_
  refine SA.weaken (St.le.frz ok.sized 0 rfl) ?_
  simp only [St.frz, Tm.frz, E.frz, E.frzL, Obj.frz, List.map_cons, List.map_nil, List.set_cons_zero, List.set_cons_succ, Nat.reduceBEq, Nat.beq_refl, if_true, if_false, Nat.beq_eq_true_eq, reduceCtorEq, Bool.false_eq_true, V.get, Nat.reduceEqDiff]
  refine SA.region ok (by kernel_rfl) [8, 9, 10] ?_
  intro R r
  simp only [go_sem, strip]
  iterate 6 (refine opsA_cons fun Z q1 => ?_; simp only [go_sem, seval, -List.reduceReplicate]; (repeat' with_reducible refine And.intro ?_ ?_); all_goals first | (refine q1 _ ?_; clear q1 Z) | omega | rfl | decide | assumption | (intro _; omega) | (simp; done) | (simp; omega) | (simp [roomFor, maxLen, by39, by3, by68, by70, by23] <;> omega))
  refine opsA_nil (r _ ?_)
  clear r R
  try simp only [go_sem, Nat.reduceBEq]
  refine thenK.normal (SA.block ?_)
  refine SA.weaken (St.le.of_eq (by simp only [Nat.sub_zero, List.drop_zero, ← List.map_take, List.length_map, hl]; rfl)) (SA.loop (fun n τ => ∃ (j : Nat), n = e.touches.toNat - j ∧ (j ≤ e.touches.toNat ∧ ∀ k, k < j → ((e.touch.take e.touches.toNat).getD k default).kind ≠ 2) ∧ τ = { tm := [(8, true, .fs 39 ((e.touch.take e.touches.toNat).map Access.v) (decide (e.touches = (6 : Nat)))), (9, true, .int .i64 e.touches.toNat), (10, true, .int .i64 j)], ob := [.dead], out := [], nt := 20 }) (e.touches.toNat) ⟨0, rfl, ⟨Nat.zero_le _, fun k hk => by omega⟩, rfl⟩ ?_)
  rintro n τ ⟨j, hn, ⟨hj, hc⟩, rfl⟩
  refine SA.seq ?_
  refine SA.region ok (by kernel_rfl) [8, 9, 10, 11] ?_
  intro R r
  simp only [go_sem, strip]
  iterate 1 (refine opsA_cons fun Z q1 => ?_; simp only [go_sem, seval, -List.reduceReplicate]; (repeat' with_reducible refine And.intro ?_ ?_); all_goals first | (refine q1 _ ?_; clear q1 Z) | omega | rfl | decide | assumption | (intro _; omega) | (simp; done) | (simp; omega))
  refine opsA_nil (r _ ?_)
  clear r R
  try simp only [go_sem, Nat.reduceBEq]
  refine thenK.normal (SA.seq ?_)
  refine SA.cond rfl ?_ ?_
  · intro hb1
    simp only [decide_eq_true_eq, decide_eq_false_iff_not, Int.not_lt, Int.not_le] at hb1
    refine SA.skip ?_
    refine thenK.normal (SA.seq ?_)
    refine SA.block ?_
    refine SA.seq ?_
    have hjl : j < (e.touch.take e.touches.toNat).length := by omega
    refine SA.region ok (by kernel_rfl) [4, 8, 9, 10] ?_
    intro R r
    simp only [go_sem, strip]
    iterate 4 (refine opsA_cons fun Z q1 => ?_; simp only [go_sem, seval, -List.reduceReplicate, getD_map Access.v _ hjl]; (repeat' with_reducible refine And.intro ?_ ?_); all_goals first | (refine q1 _ ?_; clear q1 Z) | omega | rfl | decide | assumption | (intro _; omega) | (simp; done) | (simp; omega) | (simp [roomFor, maxLen, by39, by3, by68, by70, by23] <;> omega))
    refine opsA_nil (r _ ?_)
    clear r R
    try simp only [go_sem, Nat.reduceBEq]
    refine thenK.normal (SA.seq ?_)
    refine SA.region ok (by kernel_rfl) [4, 8, 9, 10, 16] ?_
    intro R r
    simp only [go_sem, strip]
    iterate 3 (refine opsA_cons fun Z q1 => ?_; simp only [go_sem, seval, -List.reduceReplicate]; (repeat' with_reducible refine And.intro ?_ ?_); all_goals first | (refine q1 _ ?_; clear q1 Z) | omega | rfl | decide | assumption | (intro _; omega) | (simp; done) | (simp; omega))
    refine opsA_nil (r _ ?_)
    clear r R
    try simp only [go_sem, Nat.reduceBEq]
    refine thenK.normal ?_
    refine SA.cond rfl ?_ ?_
    · intro hb2
      simp only [decide_eq_true_eq, decide_eq_false_iff_not, Int.not_lt, Int.not_le] at hb2
      refine SA.seq ?_
      refine SA.region ok (by kernel_rfl) [2] ?_
      intro R r
      simp only [go_sem, strip]
      iterate 3 (refine opsA_cons fun Z q1 => ?_; simp only [go_sem, seval, -List.reduceReplicate]; (repeat' with_reducible refine And.intro ?_ ?_); all_goals first | (refine q1 _ ?_; clear q1 Z) | omega | rfl | decide | assumption | (intro _; omega) | (simp; done) | (simp; omega))
      refine opsA_nil (r _ ?_)
      clear r R
      try simp only [go_sem, Nat.reduceBEq]
      refine thenK.normal (SA.ret ?_)
      refine blockK.ret ?_
      refine thenK.ret ?_
      refine loopK.ret ?_
      refine blockK.ret ?_
      refine thenK.ret ?_
      refine ctrK.ret ?_
      simp only [resA, evalO, resV, backK, outE, toV, ty4, ty3, List.lookup_cons, List.lookup_nil, beq_self_eq_true, forall_const, true_and, and_true]
      refine ⟨rfl, ?_⟩
      simp only [if_true, Option.some.injEq, V.int.injEq]
      exact (firstLock_hit hjl hc hb2).symm
    · intro hb2
      simp only [decide_eq_true_eq, decide_eq_false_iff_not, Int.not_lt, Int.not_le] at hb2
      refine SA.skip ?_
      refine blockK.normal (thenK.normal ?_)
      refine SA.region ok (by kernel_rfl) [8, 9, 10] ?_
      intro R r
      simp only [go_sem, strip]
      iterate 2 (refine opsA_cons fun Z q1 => ?_; simp only [go_sem, seval, -List.reduceReplicate]; (repeat' with_reducible refine And.intro ?_ ?_); all_goals first | (refine q1 _ ?_; clear q1 Z) | omega | rfl | decide | assumption | (intro _; omega) | (simp; done) | (simp; omega))
      refine opsA_nil (r _ ?_)
      clear r R
      try simp only [go_sem, Nat.reduceBEq]
      refine loopK.normal (e.touches.toNat - (j + 1)) _ (by omega) ((St.le.cut 1 rfl).trans (St.le.of_eq (by rw [wrap_succ (show j < 6 by omega) (by decide)]; rfl))) ⟨j + 1, rfl, ⟨by omega, fun k hk => ?_⟩, rfl⟩
      by_cases hkj : k = j
      · subst hkj; exact hb2
      · exact hc k (by omega)
  · intro hb1
    simp only [decide_eq_true_eq, decide_eq_false_iff_not, Int.not_lt, Int.not_le] at hb1
    refine SA.exit ?_
    refine thenK.exit ?_
    refine loopK.exit ?_
    refine blockK.hit ?_
    refine thenK.normal (SA.seq ?_)
    refine SA.region ok (by kernel_rfl) [2] ?_
    intro R r
    simp only [go_sem, strip]
    iterate 1 (refine opsA_cons fun Z q1 => ?_; simp only [go_sem, seval, -List.reduceReplicate]; (repeat' with_reducible refine And.intro ?_ ?_); all_goals first | (refine q1 _ ?_; clear q1 Z) | omega | rfl | decide | assumption | (intro _; omega) | (simp; done) | (simp; omega))
    refine opsA_nil (r _ ?_)
    clear r R
    try simp only [go_sem, Nat.reduceBEq]
    refine thenK.normal (SA.ret ?_)
    refine ctrK.ret ?_
    simp only [resA, evalO, resV, backK, outE, toV, ty4, ty3, List.lookup_cons, List.lookup_nil, beq_self_eq_true, forall_const, true_and, and_true]
    refine ⟨rfl, ?_⟩
    simp only [if_true, Option.some.injEq, V.int.injEq]
    exact (firstLock_miss fun k hk => hc k (by omega)).symm

theorem lock_ctr (e : Event) (he : e.touch.length = 6) (h0 : 0 ≤ e.touches) (h1 : e.touches ≤ 6) : Ctr Go.Proofs.Try.prog tab 61 [42] [3] [e.v] [.int (lockOf e)] := by
  have hl : (e.touch.take e.touches.toNat).length = e.touches.toNat := (by rw [List.length_take]; omega)
  refine Ctr.body ok Go.Proofs.Try.func61 rfl rfl 21 rfl [.tmp 2] rfl (by simp [fromVs]) ?_
  simp only [fromVs, fromV, args0, V.toList_list, V.toInt_int, V.toBool_bool, Nat.zero_add, Nat.reduceAdd, ty42]
  refine SA.seq ?_
  refine SA.region ok (by kernel_rfl) [1] ?_
  intro R r
  simp only [go_sem, strip]
  iterate 2 (refine opsA_cons fun Z q1 => ?_; simp only [go_sem, seval, -List.reduceReplicate]; (repeat' with_reducible refine And.intro ?_ ?_); all_goals first | (refine q1 _ ?_; clear q1 Z) | omega | rfl | decide | assumption | (intro _; omega) | (simp; done) | (simp; omega) | (simp [roomFor, maxLen, by39, by3, by68, by70, by23] <;> omega))
  refine opsA_nil (r _ ?_)
  clear r R
  try simp only [go_sem, Nat.reduceBEq]
  refine thenK.normal (SA.seq ?_)
  refine SA.seq ?_
  refine SA.region ok (by kernel_rfl) [1, 3] ?_
  intro R r
  simp only [go_sem, strip]
  iterate 1 (refine opsA_cons fun Z q1 => ?_; simp only [go_sem, seval, -List.reduceReplicate]; (repeat' with_reducible refine And.intro ?_ ?_); all_goals first | (refine q1 _ ?_; clear q1 Z) | omega | rfl | decide | assumption | (intro _; omega) | (simp; done) | (simp; omega))
  refine opsA_nil (r _ ?_)
  clear r R
  try simp only [go_sem, Nat.reduceBEq]
  refine thenK.normal (SA.block ?_)
  refine SA.weaken (St.le.of_eq (by first | rfl | simp)) (SA.loop (fun n τ => ∃ (j : Nat), n = e.touches.toNat - j ∧ (j ≤ e.touches.toNat ∧ ∀ k, k < j → ((e.touch.take e.touches.toNat).getD k default).kind ≠ 2) ∧ τ = { tm := [(1, true, .ptr 0 [] 42), (3, true, .int .i64 j)], ob := [.var 42 (.data 42 e.v)], out := [], nt := 21 }) (e.touches.toNat) ⟨0, rfl, ⟨Nat.zero_le _, fun k hk => by omega⟩, rfl⟩ ?_)
  rintro n τ ⟨j, hn, ⟨hj, hc⟩, rfl⟩
  refine SA.seq ?_
  refine SA.seq ?_
  refine SA.region ok (by kernel_rfl) [1, 3, 7] ?_
  intro R r
  simp only [go_sem, strip]
  iterate 4 (refine opsA_cons fun Z q1 => ?_; simp only [go_sem, seval, -List.reduceReplicate]; (repeat' with_reducible refine And.intro ?_ ?_); all_goals first | (refine q1 _ ?_; clear q1 Z) | omega | rfl | decide | assumption | (intro _; omega) | (simp; done) | (simp; omega))
  refine opsA_nil (r _ ?_)
  clear r R
  try simp only [go_sem, Nat.reduceBEq]
  refine thenK.normal ?_
  refine SA.cond rfl ?_ ?_
  · intro hb1
    simp only [decide_eq_true_eq, decide_eq_false_iff_not, Int.not_lt, Int.not_le] at hb1
    refine SA.skip ?_
    refine thenK.normal (SA.seq ?_)
    refine SA.block ?_
    refine SA.seq ?_
    have hjl : j < e.touch.length := by omega
    have hjt : j < (e.touch.take e.touches.toNat).length := by omega
    have hg : (e.touch.take e.touches.toNat).getD j default = e.touch.getD j default := by simp [List.getD_eq_getElem?_getD, List.getElem?_take, show j < e.touches.toNat by omega]
    refine SA.region ok (by kernel_rfl) [1, 3, 15] ?_
    intro R r
    simp only [go_sem, strip]
    iterate 6 (refine opsA_cons fun Z q1 => ?_; simp only [go_sem, seval, -List.reduceReplicate, getD_map Access.v e.touch hjl]; (repeat' with_reducible refine And.intro ?_ ?_); all_goals first | (refine q1 _ ?_; clear q1 Z) | omega | rfl | decide | assumption | (intro _; omega) | (simp; done) | (simp; omega))
    refine opsA_nil (r _ ?_)
    clear r R
    try simp only [go_sem, Nat.reduceBEq]
    refine thenK.normal ?_
    refine SA.cond rfl ?_ ?_
    · intro hb2
      simp only [decide_eq_true_eq, decide_eq_false_iff_not, Int.not_lt, Int.not_le] at hb2
      refine SA.seq ?_
      refine SA.region ok (by kernel_rfl) [2] ?_
      intro R r
      simp only [go_sem, strip]
      iterate 6 (refine opsA_cons fun Z q1 => ?_; simp only [go_sem, seval, -List.reduceReplicate, getD_map Access.v e.touch hjl]; (repeat' with_reducible refine And.intro ?_ ?_); all_goals first | (refine q1 _ ?_; clear q1 Z) | omega | rfl | decide | assumption | (intro _; omega) | (simp; done) | (simp; omega))
      refine opsA_nil (r _ ?_)
      clear r R
      try simp only [go_sem, Nat.reduceBEq]
      refine thenK.normal (SA.ret ?_)
      refine blockK.ret ?_
      refine thenK.ret ?_
      refine loopK.ret ?_
      refine blockK.ret ?_
      refine thenK.ret ?_
      refine ctrK.ret ?_
      simp only [resA, evalO, resV, backK, outE, toV, ty4, ty3, List.lookup_cons, List.lookup_nil, beq_self_eq_true, forall_const, true_and, and_true]
      refine ⟨rfl, ?_⟩
      simp only [if_true, Option.some.injEq, V.int.injEq]
      rw [lockOf, firstLock_hit hjt hc (by rw [hg]; exact hb2), hg]
    · intro hb2
      simp only [decide_eq_true_eq, decide_eq_false_iff_not, Int.not_lt, Int.not_le] at hb2
      refine SA.skip ?_
      refine blockK.normal (thenK.normal ?_)
      refine SA.region ok (by kernel_rfl) [1, 3] ?_
      intro R r
      simp only [go_sem, strip]
      iterate 3 (refine opsA_cons fun Z q1 => ?_; simp only [go_sem, seval, -List.reduceReplicate]; (repeat' with_reducible refine And.intro ?_ ?_); all_goals first | (refine q1 _ ?_; clear q1 Z) | omega | rfl | decide | assumption | (intro _; omega) | (simp; done) | (simp; omega))
      refine opsA_nil (r _ ?_)
      clear r R
      try simp only [go_sem, Nat.reduceBEq]
      refine loopK.normal (e.touches.toNat - (j + 1)) _ (by omega) (St.le.of_eq (by rw [wrap_succ (show j < 6 by omega) (by decide)])) ⟨j + 1, rfl, ⟨by omega, fun k hk => ?_⟩, rfl⟩
      by_cases hkj : k = j
      · subst hkj; rw [hg]; exact hb2
      · exact hc k (by omega)
  · intro hb1
    simp only [decide_eq_true_eq, decide_eq_false_iff_not, Int.not_lt, Int.not_le] at hb1
    refine SA.exit ?_
    refine thenK.exit ?_
    refine loopK.exit ?_
    refine blockK.hit ?_
    refine thenK.normal (SA.seq ?_)
    refine SA.region ok (by kernel_rfl) [2] ?_
    intro R r
    simp only [go_sem, strip]
    iterate 1 (refine opsA_cons fun Z q1 => ?_; simp only [go_sem, seval, -List.reduceReplicate]; (repeat' with_reducible refine And.intro ?_ ?_); all_goals first | (refine q1 _ ?_; clear q1 Z) | omega | rfl | decide | assumption | (intro _; omega) | (simp; done) | (simp; omega))
    refine opsA_nil (r _ ?_)
    clear r R
    try simp only [go_sem, Nat.reduceBEq]
    refine thenK.normal (SA.ret ?_)
    refine ctrK.ret ?_
    simp only [resA, evalO, resV, backK, outE, toV, ty4, ty3, List.lookup_cons, List.lookup_nil, beq_self_eq_true, forall_const, true_and, and_true]
    refine ⟨rfl, ?_⟩
    simp only [if_true, Option.some.injEq, V.int.injEq]
    exact (firstLock_miss fun k hk => hc k (by omega)).symm

theorem held_ctr (t : List Event) (ht : t.length ≤ 257) (h6 : ∀ e ∈ t, e.touch.length = 6) (hr : t.all right = true) : Ctr Go.Proofs.Try.prog tab 30 [22] [65] [.list (t.map Event.v)] [.list (heldsTo t t.length)] := by
  have hm : t.length ≤ maxLen := Nat.le_trans ht (by decide)
  refine Ctr.body ok Go.Proofs.Try.func30 rfl rfl 55 rfl [.tmp 2] rfl (by simp [fromVs]) ?_
  simp only [fromVs, fromV, args0, V.toList_list, V.toInt_int, V.toBool_bool, Nat.zero_add, Nat.reduceAdd, ty22]
  refine SA.seq ?_
  refine SA.region ok (by kernel_rfl) [0] ?_
  intro R r
  simp only [go_sem, strip]
  iterate 1 (refine opsA_cons fun Z q1 => ?_; simp only [go_sem, seval, -List.reduceReplicate]; (repeat' with_reducible refine And.intro ?_ ?_); all_goals first | (refine q1 _ ?_; clear q1 Z) | omega | rfl | decide | assumption | (simp [roomFor, maxLen, by39, by3, by68, by70, by23] <;> omega))
  refine opsA_nil (r _ ?_)
  clear r R
  try simp only [go_sem, Nat.reduceBEq]
  refine thenK.normal (SA.seq ?_)
  refine SA.region ok (by kernel_rfl) [0, 3] ?_
  intro R r
  simp only [go_sem, strip]
  iterate 1 (refine opsA_cons fun Z q1 => ?_; simp only [go_sem, seval, -List.reduceReplicate]; (repeat' with_reducible refine And.intro ?_ ?_); all_goals first | (refine q1 _ ?_; clear q1 Z) | omega | rfl | decide | assumption | (simp [roomFor, maxLen, by39, by3, by68, by70, by23] <;> omega))
  refine opsA_nil (r _ ?_)
  clear r R
  try simp only [go_sem, Nat.reduceBEq]
  refine thenK.normal (SA.seq ?_)
  refine SA.region ok (by kernel_rfl) [0, 3, 4] ?_
  intro R r
  simp only [go_sem, strip]
  iterate 1 (refine opsA_cons fun Z q1 => ?_; simp only [go_sem, seval, -List.reduceReplicate]; (repeat' with_reducible refine And.intro ?_ ?_); all_goals first | (refine q1 _ ?_; clear q1 Z) | omega | rfl | decide | assumption | (simp [roomFor, maxLen, by39, by3, by68, by70, by23] <;> omega))
  refine opsA_nil (r _ ?_)
  clear r R
  try simp only [go_sem, Nat.reduceBEq]
  refine thenK.normal (SA.seq ?_)
  refine SA.seq ?_
  refine SA.region ok (by kernel_rfl) [3, 4, 8, 9, 10] ?_
  intro R r
  simp only [go_sem, strip]
  iterate 3 (refine opsA_cons fun Z q1 => ?_; simp only [go_sem, seval, -List.reduceReplicate]; (repeat' with_reducible refine And.intro ?_ ?_); all_goals first | (refine q1 _ ?_; clear q1 Z) | omega | rfl | decide | assumption | (simp [roomFor, maxLen, by39, by3, by68, by70, by23] <;> omega))
  refine opsA_nil (r _ ?_)
  clear r R
  try simp only [go_sem, Nat.reduceBEq]
  refine thenK.normal (SA.block ?_)
  refine SA.weaken ((St.le.own (t := 4) 70 rfl).trans ((St.le.keep [3, 4, 8, 9, 10]).trans (St.le.of_eq (by first | rfl | simp)))) (SA.loop (fun n τ => ∃ (i : Nat), n = t.length - i ∧ (i ≤ t.length) ∧ τ = { tm := [(3, true, .ptr 0 [] 90), (4, true, .sl 1 70 0 i false), (8, true, .fs 42 (t.map Event.v) false), (9, true, .int .i64 t.length), (10, true, .int .i64 i)], ob := [.var 90 (.data 90 (.agg (nowL t i))), .row 70 (heldsTo t i)], out := [], nt := 55 }) (t.length) ⟨0, rfl, Nat.zero_le _, rfl⟩ ?_)
  rintro n τ ⟨i, hn, hi, rfl⟩
  refine SA.seq ?_
  refine SA.region ok (by kernel_rfl) [3, 4, 8, 9, 10, 11] ?_
  intro R r
  simp only [go_sem, strip]
  iterate 1 (refine opsA_cons fun Z q1 => ?_; simp only [go_sem, seval, -List.reduceReplicate]; (repeat' with_reducible refine And.intro ?_ ?_); all_goals first | (refine q1 _ ?_; clear q1 Z) | omega | rfl | decide | assumption | (simp [roomFor, maxLen, by39, by3, by68, by70, by23] <;> omega))
  refine opsA_nil (r _ ?_)
  clear r R
  try simp only [go_sem, Nat.reduceBEq]
  refine thenK.normal (SA.seq ?_)
  refine SA.cond rfl ?_ ?_
  · intro hb1
    simp only [decide_eq_true_eq, decide_eq_false_iff_not, Int.not_lt, Int.not_le] at hb1
    refine SA.skip ?_
    refine thenK.normal (SA.seq ?_)
    refine SA.block ?_
    refine SA.seq ?_
    have hlt : i < t.length := by omega
    have hmem := getD_mem t hlt
    have hf := right_facts (h6 _ hmem) (List.all_eq_true.1 hr _ hmem)
    have hg0 := hf.1
    have hg6 := hf.2.1
    refine SA.region ok (by kernel_rfl) [3, 4, 6, 8, 9, 10] ?_
    intro R r
    simp only [go_sem, strip]
    iterate 4 (refine opsA_cons fun Z q1 => ?_; simp only [go_sem, seval, -List.reduceReplicate, getD_map Event.v t hlt]; (repeat' with_reducible refine And.intro ?_ ?_); all_goals first | (refine q1 _ ?_; clear q1 Z) | omega | rfl | decide | assumption | (simp [roomFor, maxLen, by39, by3, by68, by70, by23] <;> omega))
    refine opsA_nil (r _ ?_)
    clear r R
    try simp only [go_sem, Nat.reduceBEq]
    refine thenK.normal (SA.seq ?_)
    refine SA.region ok (by kernel_rfl) [3, 4, 6, 8, 9, 10] ?_
    intro R r
    simp only [go_sem, strip]
    iterate 8 (refine opsA_cons fun Z q1 => ?_; simp only [go_sem, seval, -List.reduceReplicate, nowF_at hg0 hg6]; (repeat' with_reducible refine And.intro ?_ ?_); all_goals first | (refine q1 _ ?_; clear q1 Z) | omega | rfl | decide | assumption | (simp [roomFor, maxLen, by39, by3, by68, by70, by23] <;> omega))
    refine opsA_nil (r _ ?_)
    clear r R
    try simp only [go_sem, Nat.reduceBEq]
    refine thenK.normal (SA.seq ?_)
    refine SA.region ok (by kernel_rfl) [3, 4, 6, 7, 8, 9, 10] ?_
    intro R r
    simp only [go_sem, strip]
    iterate 1 (refine opsA_cons fun Z q1 => ?_; simp only [go_sem, seval, -List.reduceReplicate]; (repeat' with_reducible refine And.intro ?_ ?_); all_goals first | (refine q1 _ ?_; clear q1 Z) | omega | rfl | decide | assumption | (simp [roomFor, maxLen, by39, by3, by68, by70, by23] <;> omega))
    refine opsA_cons fun Z q1 => ?_
    simp only [go_sem, seval, -List.reduceReplicate]
    repeat' with_reducible refine And.intro ?_ ?_
    all_goals try (first | omega | assumption | (intro _; omega))
    first | refine ⟨_, _, rfl, .inl ⟨_, CallQ.ctr ok (of_ctr _ (h6 _ hmem) (by omega) hf.2.2.2.1) (by first | rfl | (simp [argsV, toVs, contentV, toV, capsV, capsE, ty22, ty25, ty3, ty4, ty81, ty39, ty40, ty42, ty37, ty2, ty23, ty24, ty46, ty68, ty65, ty70, ty69, ty90, ty77, ty59, ty98, ty71, ty93, ty64, ty85, List.length_map, List.take_of_length_le])) rfl, ?_⟩⟩ | refine ⟨_, _, rfl, .inl ⟨_, fun hg => CallQ.ctr ok (of_ctr _ (h6 _ hmem) (by omega) hf.2.2.2.1) (by first | rfl | (simp [argsV, toVs, contentV, toV, capsV, capsE, ty22, ty25, ty3, ty4, ty81, ty39, ty40, ty42, ty37, ty2, ty23, ty24, ty46, ty68, ty65, ty70, ty69, ty90, ty77, ty59, ty98, ty71, ty93, ty64, ty85, List.length_map, List.take_of_length_le])) rfl, ?_⟩⟩
    simp only [go_sem, seval, -List.reduceReplicate]
    repeat' with_reducible refine And.intro ?_ ?_
    all_goals first | (refine q1 _ ?_; clear q1 Z) | omega | rfl | decide | assumption | (simp [roomFor, maxLen, by39, by3, by68, by70, by23] <;> omega)
    iterate 1 (refine opsA_cons fun Z q1 => ?_; simp only [go_sem, seval, -List.reduceReplicate]; (repeat' with_reducible refine And.intro ?_ ?_); all_goals first | (refine q1 _ ?_; clear q1 Z) | omega | rfl | decide | assumption | (simp [roomFor, maxLen, by39, by3, by68, by70, by23] <;> omega))
    refine opsA_nil (r _ ?_)
    clear r R
    try simp only [go_sem, Nat.reduceBEq]
    refine thenK.normal (SA.seq ?_)
    refine SA.seq ?_
    refine SA.region ok (by kernel_rfl) [3, 4, 6, 7, 8, 9, 10, 24] ?_
    intro R r
    simp only [go_sem, strip]
    iterate 2 (refine opsA_cons fun Z q1 => ?_; simp only [go_sem, seval, -List.reduceReplicate]; (repeat' with_reducible refine And.intro ?_ ?_); all_goals first | (refine q1 _ ?_; clear q1 Z) | omega | rfl | decide | assumption | (simp [roomFor, maxLen, by39, by3, by68, by70, by23] <;> omega))
    refine opsA_nil (r _ ?_)
    clear r R
    try simp only [go_sem, Nat.reduceBEq]
    refine thenK.normal ?_
    refine SA.cond rfl ?_ ?_
    · intro hb2
      simp only [decide_eq_true_eq, decide_eq_false_iff_not, Int.not_lt, Int.not_le] at hb2
      refine SA.exit ?_
      refine thenK.exit ?_
      refine blockK.hit ?_
      refine thenK.normal ?_
      refine SA.region ok (by kernel_rfl) [3, 4, 8, 9, 10] ?_
      intro R r
      simp only [go_sem, strip]
      iterate 2 (refine opsA_cons fun Z q1 => ?_; simp only [go_sem, seval, -List.reduceReplicate]; (repeat' with_reducible refine And.intro ?_ ?_); all_goals first | (refine q1 _ ?_; clear q1 Z) | omega | rfl | decide | assumption | (simp [roomFor, maxLen, by39, by3, by68, by70, by23] <;> omega))
      refine opsA_nil (r _ ?_)
      clear r R
      try simp only [go_sem, Nat.reduceBEq]
      have e1 : List.take i (heldsTo t i) ++ List.take 1 (List.drop 0 [V.agg (List.map V.bool (heldOf t i))]) = heldsTo t (i + 1) := by
        rw [heldsTo_succ, List.take_of_length_le (by rw [heldsTo_len]; exact Nat.le_refl _)]; rfl
      have e2 : nowL t i = nowL t (i + 1) := now_same hlt fun l => (by unfold lockStep; rw [if_pos hb2])
      refine loopK.normal (t.length - (i + 1)) _ (by omega) ((St.le.cut 2 rfl).trans (St.le.of_eq (by rw [e1, e2, wrap_succ hlt hm]; rfl))) ⟨i + 1, rfl, hlt, rfl⟩
    · intro hb2
      simp only [decide_eq_true_eq, decide_eq_false_iff_not, Int.not_lt, Int.not_le] at hb2
      refine SA.skip ?_
      refine thenK.normal (SA.block ?_)
      refine SA.seq ?_
      refine SA.region ok (by kernel_rfl) [3, 4, 6, 7, 8, 9, 10, 25] ?_
      intro R r
      simp only [go_sem, strip]
      iterate 14 (refine opsA_cons fun Z q1 => ?_; simp only [go_sem, seval, -List.reduceReplicate]; (repeat' with_reducible refine And.intro ?_ ?_); all_goals first | (refine q1 _ ?_; clear q1 Z) | omega | rfl | decide | assumption | (simp [roomFor, maxLen, by39, by3, by68, by70, by23] <;> omega))
      refine opsA_nil (r _ ?_)
      clear r R
      try simp only [go_sem, Nat.reduceBEq]
      refine thenK.normal ?_
      refine SA.cond rfl ?_ ?_
      · intro hb3
        skip
        refine SA.region ok (by kernel_rfl) [3, 4, 8, 9, 10] ?_
        intro R r
        simp only [go_sem, strip]
        iterate 6 (refine opsA_cons fun Z q1 => ?_; simp only [go_sem, seval, -List.reduceReplicate, nowF_at hg0 hg6]; (repeat' with_reducible refine And.intro ?_ ?_); all_goals first | (refine q1 _ ?_; clear q1 Z) | omega | rfl | decide | assumption | (simp [roomFor, maxLen, by39, by3, by68, by70, by23] <;> omega))
        refine opsA_nil (r _ ?_)
        clear r R
        try simp only [go_sem, Nat.reduceBEq]
        refine blockK.normal (blockK.normal ?_)
        refine thenK.normal ?_
        refine SA.region ok (by kernel_rfl) [3, 4, 8, 9, 10] ?_
        intro R r
        simp only [go_sem, strip]
        iterate 2 (refine opsA_cons fun Z q1 => ?_; simp only [go_sem, seval, -List.reduceReplicate]; (repeat' with_reducible refine And.intro ?_ ?_); all_goals first | (refine q1 _ ?_; clear q1 Z) | omega | rfl | decide | assumption | (simp [roomFor, maxLen, by39, by3, by68, by70, by23] <;> omega))
        refine opsA_nil (r _ ?_)
        clear r R
        try simp only [go_sem, Nat.reduceBEq]
        have e1 : List.take i (heldsTo t i) ++ List.take 1 (List.drop 0 [V.agg (List.map V.bool (heldOf t i))]) = heldsTo t (i + 1) := by
          rw [heldsTo_succ, List.take_of_length_le (by rw [heldsTo_len]; exact Nat.le_refl _)]; rfl
        have hop : (t.getD i default).op = 55 ∨ ((t.getD i default).op = 57 ∧ (t.getD i default).val = 1) := by
          cases h1 : decide ((t.getD i default).op = 55) <;> cases h2 : decide ((t.getD i default).op = 57) <;> simp [h1, h2] at hb3 <;> simp_all
        have e2 : (nowL t i).set (t.getD i default).go.toNat (V.agg ((List.map V.bool (heldOf t i)).set (lockOf (t.getD i default)).toNat (V.bool true))) = nowL t (i + 1) := by
          rw [← List.map_set]
          exact now_step hlt hg0 hg6 (by unfold lockStep; rw [if_neg (by omega), if_pos hop]; rfl)
        refine loopK.normal (t.length - (i + 1)) _ (by omega) ((St.le.cut 2 rfl).trans (St.le.of_eq (by rw [e1, e2, wrap_succ hlt hm]; rfl))) ⟨i + 1, rfl, hlt, rfl⟩
      · intro hb3
        skip
        refine SA.seq ?_
        refine SA.region ok (by kernel_rfl) [3, 4, 6, 7, 8, 9, 10, 44] ?_
        intro R r
        simp only [go_sem, strip]
        iterate 4 (refine opsA_cons fun Z q1 => ?_; simp only [go_sem, seval, -List.reduceReplicate]; (repeat' with_reducible refine And.intro ?_ ?_); all_goals first | (refine q1 _ ?_; clear q1 Z) | omega | rfl | decide | assumption | (simp [roomFor, maxLen, by39, by3, by68, by70, by23] <;> omega))
        refine opsA_nil (r _ ?_)
        clear r R
        try simp only [go_sem, Nat.reduceBEq]
        refine thenK.normal ?_
        refine SA.cond rfl ?_ ?_
        · intro hb4
          simp only [decide_eq_true_eq, decide_eq_false_iff_not, Int.not_lt, Int.not_le] at hb4
          refine SA.region ok (by kernel_rfl) [3, 4, 8, 9, 10] ?_
          intro R r
          simp only [go_sem, strip]
          iterate 6 (refine opsA_cons fun Z q1 => ?_; simp only [go_sem, seval, -List.reduceReplicate, nowF_at hg0 hg6]; (repeat' with_reducible refine And.intro ?_ ?_); all_goals first | (refine q1 _ ?_; clear q1 Z) | omega | rfl | decide | assumption | (simp [roomFor, maxLen, by39, by3, by68, by70, by23] <;> omega))
          refine opsA_nil (r _ ?_)
          clear r R
          try simp only [go_sem, Nat.reduceBEq]
          refine blockK.normal (blockK.normal ?_)
          refine thenK.normal ?_
          refine SA.region ok (by kernel_rfl) [3, 4, 8, 9, 10] ?_
          intro R r
          simp only [go_sem, strip]
          iterate 2 (refine opsA_cons fun Z q1 => ?_; simp only [go_sem, seval, -List.reduceReplicate]; (repeat' with_reducible refine And.intro ?_ ?_); all_goals first | (refine q1 _ ?_; clear q1 Z) | omega | rfl | decide | assumption | (simp [roomFor, maxLen, by39, by3, by68, by70, by23] <;> omega))
          refine opsA_nil (r _ ?_)
          clear r R
          try simp only [go_sem, Nat.reduceBEq]
          have e1 : List.take i (heldsTo t i) ++ List.take 1 (List.drop 0 [V.agg (List.map V.bool (heldOf t i))]) = heldsTo t (i + 1) := by
            rw [heldsTo_succ, List.take_of_length_le (by rw [heldsTo_len]; exact Nat.le_refl _)]; rfl
          have hop : ¬ ((t.getD i default).op = 55 ∨ ((t.getD i default).op = 57 ∧ (t.getD i default).val = 1)) := by
            rintro (h | ⟨h, h'⟩)
            · rw [decide_eq_true h] at hb3; cases hb3
            · rw [decide_eq_true h, decide_eq_true h'] at hb3; cases h55 : decide ((t.getD i default).op = 55) <;> rw [h55] at hb3 <;> cases hb3
          have e2 : (nowL t i).set (t.getD i default).go.toNat (V.agg ((List.map V.bool (heldOf t i)).set (lockOf (t.getD i default)).toNat (V.bool false))) = nowL t (i + 1) := by
            rw [← List.map_set]
            exact now_step hlt hg0 hg6 (by unfold lockStep; rw [if_neg (by omega), if_neg hop, if_pos hb4]; rfl)
          refine loopK.normal (t.length - (i + 1)) _ (by omega) ((St.le.cut 2 rfl).trans (St.le.of_eq (by rw [e1, e2, wrap_succ hlt hm]; rfl))) ⟨i + 1, rfl, hlt, rfl⟩
        · intro hb4
          simp only [decide_eq_true_eq, decide_eq_false_iff_not, Int.not_lt, Int.not_le] at hb4
          refine SA.skip ?_
          refine blockK.normal (blockK.normal ?_)
          refine thenK.normal ?_
          refine SA.region ok (by kernel_rfl) [3, 4, 8, 9, 10] ?_
          intro R r
          simp only [go_sem, strip]
          iterate 2 (refine opsA_cons fun Z q1 => ?_; simp only [go_sem, seval, -List.reduceReplicate]; (repeat' with_reducible refine And.intro ?_ ?_); all_goals first | (refine q1 _ ?_; clear q1 Z) | omega | rfl | decide | assumption | (simp [roomFor, maxLen, by39, by3, by68, by70, by23] <;> omega))
          refine opsA_nil (r _ ?_)
          clear r R
          try simp only [go_sem, Nat.reduceBEq]
          have e1 : List.take i (heldsTo t i) ++ List.take 1 (List.drop 0 [V.agg (List.map V.bool (heldOf t i))]) = heldsTo t (i + 1) := by
            rw [heldsTo_succ, List.take_of_length_le (by rw [heldsTo_len]; exact Nat.le_refl _)]; rfl
          have hop : ¬ ((t.getD i default).op = 55 ∨ ((t.getD i default).op = 57 ∧ (t.getD i default).val = 1)) := by
            rintro (h | ⟨h, h'⟩)
            · rw [decide_eq_true h] at hb3; cases hb3
            · rw [decide_eq_true h, decide_eq_true h'] at hb3; cases h55 : decide ((t.getD i default).op = 55) <;> rw [h55] at hb3 <;> cases hb3
          have e2 : nowL t i = nowL t (i + 1) := now_same hlt fun l => (by unfold lockStep; rw [if_neg (by omega), if_neg hop, if_neg hb4])
          refine loopK.normal (t.length - (i + 1)) _ (by omega) ((St.le.cut 2 rfl).trans (St.le.of_eq (by rw [e1, e2, wrap_succ hlt hm]; rfl))) ⟨i + 1, rfl, hlt, rfl⟩
  · intro hb1
    simp only [decide_eq_true_eq, decide_eq_false_iff_not, Int.not_lt, Int.not_le] at hb1
    refine SA.exit ?_
    refine thenK.exit ?_
    refine loopK.exit ?_
    refine blockK.hit ?_
    refine thenK.normal (SA.seq ?_)
    refine SA.region ok (by kernel_rfl) [2] ?_
    intro R r
    simp only [go_sem, strip]
    iterate 2 (refine opsA_cons fun Z q1 => ?_; simp only [go_sem, seval, -List.reduceReplicate]; (repeat' with_reducible refine And.intro ?_ ?_); all_goals first | (refine q1 _ ?_; clear q1 Z) | omega | rfl | decide | assumption | (simp [roomFor, maxLen, by39, by3, by68, by70, by23] <;> omega))
    refine opsA_nil (r _ ?_)
    clear r R
    try simp only [go_sem, Nat.reduceBEq]
    refine thenK.normal (SA.ret ?_)
    refine ctrK.ret ?_
    simp only [resA, evalO, resV, backK, outE, toV, ty4, ty3, List.lookup_cons, List.lookup_nil, beq_self_eq_true, forall_const, true_and, and_true]
    simp only [go_sem, seval, -List.reduceReplicate]
    have : i = t.length := by omega
    subst this
    exact ⟨rfl, by rw [List.take_of_length_le (by rw [heldsTo_len]; exact Nat.le_refl _)], by simp⟩

end Go.Eng.Try
