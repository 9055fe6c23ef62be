/- A part of the proof: walks through the program's functions, and what they compute. -/
import Derived.Test.YtipodgpcbkoopaaE3
import Derived.Test.YtipodgpcbkoopaaM1
import Derived.Test.YtipodgpcbkoopaaE4
import Derived.Test.YtipodgpcbkoopaaGW20
namespace Go.Eng.Try
open Go.RowKit Go.Eng
set_option linter.unusedSimpArgs false
set_option linter.unusedVariables false

theorem heldsTo_at {t : List Event} {n i : Nat} (h : i < n) (d : V) : (heldsTo t n).getD i d = .agg ((heldOf t i).map V.bool) := rows_getD h _ d
theorem take_map_len {α : Type} (f : α → V) (l : List α) : List.take l.length (l.map f) = l.map f := List.take_of_length_le (by simp)
theorem locksTo_other {t : List Event} {j : Nat} (h : j < t.length) {g : Int} (hg : (t.getD j default).go ≠ g) : locksTo t (j + 1) g = locksTo t j g := by rw [locksTo_succ t h, if_neg hg]
theorem locksTo_same {t : List Event} {j : Nat} (h : j < t.length) {g : Int} (hg : (t.getD j default).go = g) {X : List Bool} (hX : lockStep (locksTo t j g) (t.getD j default) = X) : locksTo t (j + 1) g = X := by rw [locksTo_succ t h, if_pos hg, hX]
theorem op_yes {a b : Int} (h : (bif decide (a = 55) then true else bif decide (a = 57) then decide (b = 1) else false) = true) : a = 55 ∨ (a = 57 ∧ b = 1) := by
  cases h1 : decide (a = 55) <;> cases h2 : decide (a = 57) <;> simp [h1, h2] at h <;> simp_all
theorem op_no {a b : Int} (h : (bif decide (a = 55) then true else bif decide (a = 57) then decide (b = 1) else false) = false) : ¬ (a = 55 ∨ (a = 57 ∧ b = 1)) := by
  rintro (h1 | ⟨h1, h2⟩)
  · rw [decide_eq_true h1] at h; cases h
  · rw [decide_eq_true h1, decide_eq_true h2] at h; cases h55 : decide (a = 55) <;> rw [h55] at h <;> cases h
theorem edgesAt_hit {t : List Event} {k n : Nat} (h : (bif (heldOf t k).getD n default then !decide ((n : Int) = lockOf (t.getD k default)) else false) = true) : edgesAt t k (n + 1) = edgesAt t k n ++ [⟨n, lockOf (t.getD k default), (t.getD k default).go, k⟩] := by
  rw [edgesAt_succ, if_pos]
  cases h1 : (heldOf t k).getD n false with
  | false => rw [show (heldOf t k).getD n default = (heldOf t k).getD n false from rfl, h1] at h; cases h
  | true => rw [show (heldOf t k).getD n default = (heldOf t k).getD n false from rfl, h1] at h; simpa using h
theorem edgesAt_miss {t : List Event} {k n : Nat} (h : (bif (heldOf t k).getD n default then !decide ((n : Int) = lockOf (t.getD k default)) else false) = false) : edgesAt t k (n + 1) = edgesAt t k n := by
  rw [edgesAt_succ, if_neg, List.append_nil]
  cases h1 : (heldOf t k).getD n false with
  | false => simp
  | true => rw [show (heldOf t k).getD n default = (heldOf t k).getD n false from rfl, h1] at h; simpa using h
theorem takes_no {a b : Int} (h : (bif !decide (a = 55) then true else decide (b < 0)) = true) : (decide (a = 55) && decide (0 ≤ b)) = false := by
  cases h1 : decide (a = 55) with
  | false => rfl
  | true => rw [h1] at h; simp at h; simp; omega
theorem takes_yes {a b : Int} (h : (bif !decide (a = 55) then true else decide (b < 0)) = false) : (decide (a = 55) && decide (0 ≤ b)) = true := by
  cases h1 : decide (a = 55) with
  | false => rw [h1] at h; cases h
  | true => rw [h1] at h; simp at h; simp; omega

attribute [local go_sem] argsV contentV fromVs Option.getD_some St.keep List.filterMap_cons List.filterMap_nil Option.map_some Option.map_none opG opQ opB newEs outE CallStepB guardA putK putE pureA evalO evalL constE pickA capsE capsV loadA fieldAddrA indexAddrA indexA sliceA evalOptI builtinA binA plainA shiftA eqA nilA arith shifts effA storeA appendA appB freshA St.kill Tm.kill E.kill E.killL Obj.kill elemsOf evalVs buildA okAt toV fromV zeroE V.get V.put V.sub V.setSub args0 CallStep CallStepQ i64min i64max u64min u64max u32min u32max u8min u8max Nat.zero_add List.length_map List.lookup_cons List.lookup_nil List.getElem?_cons_zero List.getElem?_cons_succ List.getElem?_toArray List.getElem?_nil Option.bind_some Option.bind_none List.size_toArray List.length_cons List.length_nil List.nil_append List.append_nil List.cons_append List.getD_cons_zero List.getD_cons_succ List.map_cons List.map_nil List.set_cons_zero List.set_cons_succ true_and and_true forall_const true_implies Bool.true_and Bool.and_true Bool.not_true Bool.not_false Bool.false_and Bool.and_false beq_self_eq_true Bool.true_beq Bool.false_beq beq_true beq_false eq_self false_implies V.toInt_int V.toBool_bool V.toList_list V.toList_agg V.toStr_str V.deref_ref if_true if_false Bool.false_eq_true Option.isSome_none Option.isSome_some Bool.false_or Bool.true_or Bool.or_false Bool.or_true cond_true cond_false implies_true and_self imp_self ty22 ty25 ty3 ty4 ty81 ty39 ty40 ty42 ty37 ty2 ty23 ty24 ty46 ty68 ty65 ty70 ty69 ty90 ty77 ty59 ty98 ty71 ty93 ty64 ty85 concat_at List.length_range zero39 z39 z3 z4 z70 z68 z42 z40 z37 z2 zero40 z69 z90 zero70 zero69 zero90 zero68 zero42 Int.toNat_natCast Int.natCast_zero Event.v0 Event.v3 Event.v5 Event.v7 Event.v8 Access.v0 Access.v1 Access.v2 beq_acc Edge.v0 Edge.v1 Edge.v2 Edge.v3 heldOf_len boolsV locksTo_len heldsTo_len nowL_len
theorem refHeld_ctr (t : List Event) (i : Nat) (hil : i < t.length) (ht : t.length ≤ 257) (h6 : ∀ e ∈ t, e.touch.length = 6) (hr : t.all right = true) : Ctr Go.Proofs.Try.prog tab 39 [22, 3] [69] [.list (t.map Event.v), .int i] [boolsV (heldOf t i)] := by
  have hm : i ≤ maxLen := Nat.le_trans (Nat.le_of_lt (Nat.lt_of_lt_of_le hil ht)) (by decide)
  refine Ctr.body ok Go.Proofs.Try.func39 rfl rfl 66 rfl [.cell 4 69] rfl (by simp [fromVs]) ?_
  simp only [fromVs, fromV, args0, V.toList_list, V.toInt_int, V.toBool_bool, Nat.zero_add, Nat.reduceAdd, ty3, ty22]
  refine SA.seq ?_
  refine SA.region ok (by kernel_rfl) [0, 1, 4] ?_
  intro R r
  simp only [go_sem, strip]
  iterate 1 (refine opsA_cons fun Z q1 => ?_; simp only [go_sem, seval, -List.reduceReplicate]; (repeat' with_reducible refine And.intro ?_ ?_); all_goals first | (refine q1 _ ?_; clear q1 Z) | omega | rfl | decide | assumption | (simp [roomFor, maxLen, by39, by3, by68, by70, by23] <;> omega))
  refine opsA_nil (r _ ?_)
  clear r R
  try simp only [go_sem, Nat.reduceBEq]
  refine thenK.normal (SA.seq ?_)
  refine SA.region ok (by kernel_rfl) [0, 1, 4, 5] ?_
  intro R r
  simp only [go_sem, strip]
  iterate 1 (refine opsA_cons fun Z q1 => ?_; simp only [go_sem, seval, -List.reduceReplicate]; (repeat' with_reducible refine And.intro ?_ ?_); all_goals first | (refine q1 _ ?_; clear q1 Z) | omega | rfl | decide | assumption | (simp [roomFor, maxLen, by39, by3, by68, by70, by23] <;> omega))
  refine opsA_nil (r _ ?_)
  clear r R
  try simp only [go_sem, Nat.reduceBEq]
  refine thenK.normal (SA.seq ?_)
  refine SA.seq ?_
  refine SA.region ok (by kernel_rfl) [0, 1, 4, 5, 6] ?_
  intro R r
  simp only [go_sem, strip]
  iterate 1 (refine opsA_cons fun Z q1 => ?_; simp only [go_sem, seval, -List.reduceReplicate]; (repeat' with_reducible refine And.intro ?_ ?_); all_goals first | (refine q1 _ ?_; clear q1 Z) | omega | rfl | decide | assumption | (simp [roomFor, maxLen, by39, by3, by68, by70, by23] <;> omega))
  refine opsA_nil (r _ ?_)
  clear r R
  try simp only [go_sem, Nat.reduceBEq]
  refine thenK.normal (SA.block ?_)
  refine SA.weaken (St.le.of_eq (by first | rfl | simp)) (SA.loop (fun n τ => ∃ (j : Nat), n = i - j ∧ (j ≤ i) ∧ τ = { tm := [(0, true, .fs 42 (t.map Event.v) false), (1, true, .int .i64 i), (4, true, .ptr 0 [] 69), (5, true, .ptr 1 [] 69), (6, true, .int .i64 j)], ob := [.var 69 (.data 69 (.agg (List.replicate 4 (.bool false)))), .var 69 (.data 69 (.agg ((locksTo t j (t.getD i default).go).map V.bool)))], out := [], nt := 66 }) (i) ⟨0, rfl, Nat.zero_le _, rfl⟩ ?_)
  rintro n τ ⟨j, hn, hj, rfl⟩
  refine SA.seq ?_
  refine SA.seq ?_
  refine SA.region ok (by kernel_rfl) [0, 1, 4, 5, 6, 10] ?_
  intro R r
  simp only [go_sem, strip]
  iterate 3 (refine opsA_cons fun Z q1 => ?_; simp only [go_sem, seval, -List.reduceReplicate]; (repeat' with_reducible refine And.intro ?_ ?_); all_goals first | (refine q1 _ ?_; clear q1 Z) | omega | rfl | decide | assumption | (simp [roomFor, maxLen, by39, by3, by68, by70, by23] <;> omega))
  refine opsA_nil (r _ ?_)
  clear r R
  try simp only [go_sem, Nat.reduceBEq]
  refine thenK.normal ?_
  refine SA.cond rfl ?_ ?_
  · intro hb1
    simp only [decide_eq_true_eq, decide_eq_false_iff_not, Int.not_lt, Int.not_le] at hb1
    refine SA.skip ?_
    refine thenK.normal (SA.seq ?_)
    refine SA.block ?_
    refine SA.seq ?_
    have hji : j < i := by omega
    have hjl : j < t.length := by omega
    have hmem := getD_mem t hjl
    have hf := right_facts (h6 _ hmem) (List.all_eq_true.1 hr _ hmem)
    refine SA.region ok (by kernel_rfl) [0, 1, 4, 5, 6, 7] ?_
    intro R r
    simp only [go_sem, strip]
    iterate 4 (refine opsA_cons fun Z q1 => ?_; simp only [go_sem, seval, -List.reduceReplicate, getD_map Event.v t hjl]; (repeat' with_reducible refine And.intro ?_ ?_); all_goals first | (refine q1 _ ?_; clear q1 Z) | omega | rfl | decide | assumption | (simp [roomFor, maxLen, by39, by3, by68, by70, by23] <;> omega))
    refine opsA_cons fun Z q1 => ?_
    simp only [go_sem, seval, -List.reduceReplicate, getD_map Event.v t hjl]
    repeat' with_reducible refine And.intro ?_ ?_
    all_goals try (first | omega | assumption | (intro _; omega))
    first | refine ⟨_, _, rfl, .inl ⟨_, CallQ.ctr ok (lock_ctr _ (h6 _ hmem) (by omega) hf.2.2.2.1) (by first | rfl | (simp [argsV, toVs, contentV, toV, capsV, capsE, ty22, ty25, ty3, ty4, ty81, ty39, ty40, ty42, ty37, ty2, ty23, ty24, ty46, ty68, ty65, ty70, ty69, ty90, ty77, ty59, ty98, ty71, ty93, ty64, ty85, List.length_map, List.take_of_length_le])) rfl, ?_⟩⟩ | refine ⟨_, _, rfl, .inl ⟨_, fun hg => CallQ.ctr ok (lock_ctr _ (h6 _ hmem) (by omega) hf.2.2.2.1) (by first | rfl | (simp [argsV, toVs, contentV, toV, capsV, capsE, ty22, ty25, ty3, ty4, ty81, ty39, ty40, ty42, ty37, ty2, ty23, ty24, ty46, ty68, ty65, ty70, ty69, ty90, ty77, ty59, ty98, ty71, ty93, ty64, ty85, List.length_map, List.take_of_length_le])) rfl, ?_⟩⟩
    simp only [go_sem, seval, -List.reduceReplicate, getD_map Event.v t hjl]
    repeat' with_reducible refine And.intro ?_ ?_
    all_goals first | (refine q1 _ ?_; clear q1 Z) | omega | rfl | decide | assumption | (simp [roomFor, maxLen, by39, by3, by68, by70, by23] <;> omega)
    iterate 1 (refine opsA_cons fun Z q1 => ?_; simp only [go_sem, seval, -List.reduceReplicate, getD_map Event.v t hjl]; (repeat' with_reducible refine And.intro ?_ ?_); all_goals first | (refine q1 _ ?_; clear q1 Z) | omega | rfl | decide | assumption | (simp [roomFor, maxLen, by39, by3, by68, by70, by23] <;> omega))
    refine opsA_nil (r _ ?_)
    clear r R
    try simp only [go_sem, Nat.reduceBEq]
    refine thenK.normal (SA.seq ?_)
    refine SA.seq ?_
    refine SA.regionQ ok mixed (by kernel_rfl) (by kernel_rfl) [0, 1, 4, 5, 6, 7, 32] ?_
    intro R r
    simp only [go_sem, strip]
    iterate 15 (refine opsQ_cons fun Z q1 => ?_; simp only [go_sem, seval, -List.reduceReplicate, getD_map Event.v t hjl, getD_map Event.v t hil]; (repeat' with_reducible refine And.intro ?_ ?_); all_goals first | (refine q1 _ ?_; clear q1 Z) | omega | rfl | decide | assumption | (simp [roomFor, maxLen, by39, by3, by68, by70, by23] <;> omega))
    refine opsQ_nil (r _ ?_)
    clear r R
    try simp only [go_sem, Nat.reduceBEq]
    refine thenK.normal ?_
    refine SA.cond rfl ?_ ?_
    · intro hb2
      skip
      refine SA.exit ?_
      refine thenK.exit ?_
      refine blockK.hit ?_
      refine thenK.normal ?_
      refine SA.region ok (by kernel_rfl) [0, 1, 4, 5, 6] ?_
      intro R r
      simp only [go_sem, strip]
      iterate 3 (refine opsA_cons fun Z q1 => ?_; simp only [go_sem, seval, -List.reduceReplicate]; (repeat' with_reducible refine And.intro ?_ ?_); all_goals first | (refine q1 _ ?_; clear q1 Z) | omega | rfl | decide | assumption | (simp [roomFor, maxLen, by39, by3, by68, by70, by23] <;> omega))
      refine opsA_nil (r _ ?_)
      clear r R
      try simp only [go_sem, Nat.reduceBEq]
      have e2 : locksTo t (j + 1) (t.getD i default).go = locksTo t j (t.getD i default).go := by
        by_cases hgo : (t.getD j default).go = (t.getD i default).go
        · refine locksTo_same hjl hgo ?_
          unfold lockStep
          rw [if_pos]
          rw [decide_eq_true hgo] at hb2
          simpa using hb2
        · exact locksTo_other hjl hgo
      refine loopK.normal (i - (j + 1)) _ (by omega) (St.le.of_eq (by rw [e2, wrap_succ hji hm])) ⟨j + 1, rfl, hji, rfl⟩
    · intro hb2
      skip
      refine SA.skip ?_
      refine thenK.normal (SA.seq ?_)
      refine SA.seq ?_
      have h2 : (t.getD j default).go = (t.getD i default).go ∧ 0 ≤ lockOf (t.getD j default) := by
        cases hd : decide ((t.getD j default).go = (t.getD i default).go) with
        | false => rw [hd] at hb2; cases hb2
        | true =>
          rw [hd] at hb2
          simp only [Bool.not_true, cond_false, decide_eq_false_iff_not] at hb2
          exact ⟨of_decide_eq_true hd, by omega⟩
      have hgo := h2.1
      have hlk := h2.2
      refine SA.region ok (by kernel_rfl) [0, 1, 4, 5, 6, 7, 54] ?_
      intro R r
      simp only [go_sem, strip]
      iterate 22 (refine opsA_cons fun Z q1 => ?_; simp only [go_sem, seval, -List.reduceReplicate, getD_map Event.v t hjl]; (repeat' with_reducible refine And.intro ?_ ?_); all_goals first | (refine q1 _ ?_; clear q1 Z) | omega | rfl | decide | assumption | (simp [roomFor, maxLen, by39, by3, by68, by70, by23] <;> omega))
      refine opsA_nil (r _ ?_)
      clear r R
      try simp only [go_sem, Nat.reduceBEq]
      refine thenK.normal ?_
      refine SA.cond rfl ?_ ?_
      · intro hb3
        have hop := op_yes hb3
        refine SA.region ok (by kernel_rfl) [0, 1, 4, 5, 6, 7] ?_
        intro R r
        simp only [go_sem, strip]
        iterate 3 (refine opsA_cons fun Z q1 => ?_; simp only [go_sem, seval, -List.reduceReplicate]; (repeat' with_reducible refine And.intro ?_ ?_); all_goals first | (refine q1 _ ?_; clear q1 Z) | omega | rfl | decide | assumption | (simp [roomFor, maxLen, by39, by3, by68, by70, by23] <;> omega))
        refine opsA_nil (r _ ?_)
        clear r R
        try simp only [go_sem, Nat.reduceBEq]
        refine thenK.normal (SA.seq ?_)
        refine SA.region ok (by kernel_rfl) [0, 1, 4, 5, 6, 7, 62] ?_
        intro R r
        simp only [go_sem, strip]
        iterate 6 (refine opsA_cons fun Z q1 => ?_; simp only [go_sem, seval, -List.reduceReplicate, getD_map Event.v t hjl]; (repeat' with_reducible refine And.intro ?_ ?_); all_goals first | (refine q1 _ ?_; clear q1 Z) | omega | rfl | decide | assumption | (simp [roomFor, maxLen, by39, by3, by68, by70, by23] <;> omega))
        refine opsA_nil (r _ ?_)
        clear r R
        try simp only [go_sem, Nat.reduceBEq]
        refine thenK.normal ?_
        refine SA.cond rfl ?_ ?_
        · intro hb4
          have hop6 := of_decide_eq_true hb4
          refine SA.region ok (by kernel_rfl) [0, 1, 4, 5, 6] ?_
          intro R r
          simp only [go_sem, strip]
          iterate 3 (refine opsA_cons fun Z q1 => ?_; simp only [go_sem, seval, -List.reduceReplicate]; (repeat' with_reducible refine And.intro ?_ ?_); all_goals first | (refine q1 _ ?_; clear q1 Z) | omega | rfl | decide | assumption | (simp [roomFor, maxLen, by39, by3, by68, by70, by23] <;> omega))
          refine opsA_nil (r _ ?_)
          clear r R
          try simp only [go_sem, Nat.reduceBEq]
          refine blockK.normal (thenK.normal ?_)
          refine SA.region ok (by kernel_rfl) [0, 1, 4, 5, 6] ?_
          intro R r
          simp only [go_sem, strip]
          iterate 3 (refine opsA_cons fun Z q1 => ?_; simp only [go_sem, seval, -List.reduceReplicate]; (repeat' with_reducible refine And.intro ?_ ?_); all_goals first | (refine q1 _ ?_; clear q1 Z) | omega | rfl | decide | assumption | (simp [roomFor, maxLen, by39, by3, by68, by70, by23] <;> omega))
          refine opsA_nil (r _ ?_)
          clear r R
          try simp only [go_sem, Nat.reduceBEq]
          exfalso
          omega
        · intro hb4
          have hop6 := of_decide_eq_false hb4
          refine SA.skip ?_
          refine blockK.normal (thenK.normal ?_)
          refine SA.region ok (by kernel_rfl) [0, 1, 4, 5, 6] ?_
          intro R r
          simp only [go_sem, strip]
          iterate 3 (refine opsA_cons fun Z q1 => ?_; simp only [go_sem, seval, -List.reduceReplicate]; (repeat' with_reducible refine And.intro ?_ ?_); all_goals first | (refine q1 _ ?_; clear q1 Z) | omega | rfl | decide | assumption | (simp [roomFor, maxLen, by39, by3, by68, by70, by23] <;> omega))
          refine opsA_nil (r _ ?_)
          clear r R
          try simp only [go_sem, Nat.reduceBEq]
          have e2 : locksTo t (j + 1) (t.getD i default).go = (locksTo t j (t.getD i default).go).set (lockOf (t.getD j default)).toNat true := locksTo_same hjl hgo (by unfold lockStep; rw [if_neg (by omega), if_pos hop])
          refine loopK.normal (i - (j + 1)) _ (by omega) (St.le.of_eq (by rw [e2, ← List.map_set, wrap_succ hji hm])) ⟨j + 1, rfl, hji, rfl⟩
      · intro hb3
        have hop := op_no hb3
        refine SA.skip ?_
        refine thenK.normal (SA.seq ?_)
        refine SA.region ok (by kernel_rfl) [0, 1, 4, 5, 6, 7, 62] ?_
        intro R r
        simp only [go_sem, strip]
        iterate 6 (refine opsA_cons fun Z q1 => ?_; simp only [go_sem, seval, -List.reduceReplicate, getD_map Event.v t hjl]; (repeat' with_reducible refine And.intro ?_ ?_); all_goals first | (refine q1 _ ?_; clear q1 Z) | omega | rfl | decide | assumption | (simp [roomFor, maxLen, by39, by3, by68, by70, by23] <;> omega))
        refine opsA_nil (r _ ?_)
        clear r R
        try simp only [go_sem, Nat.reduceBEq]
        refine thenK.normal ?_
        refine SA.cond rfl ?_ ?_
        · intro hb5
          have hop6 := of_decide_eq_true hb5
          refine SA.region ok (by kernel_rfl) [0, 1, 4, 5, 6] ?_
          intro R r
          simp only [go_sem, strip]
          iterate 3 (refine opsA_cons fun Z q1 => ?_; simp only [go_sem, seval, -List.reduceReplicate]; (repeat' with_reducible refine And.intro ?_ ?_); all_goals first | (refine q1 _ ?_; clear q1 Z) | omega | rfl | decide | assumption | (simp [roomFor, maxLen, by39, by3, by68, by70, by23] <;> omega))
          refine opsA_nil (r _ ?_)
          clear r R
          try simp only [go_sem, Nat.reduceBEq]
          refine blockK.normal (thenK.normal ?_)
          refine SA.region ok (by kernel_rfl) [0, 1, 4, 5, 6] ?_
          intro R r
          simp only [go_sem, strip]
          iterate 3 (refine opsA_cons fun Z q1 => ?_; simp only [go_sem, seval, -List.reduceReplicate]; (repeat' with_reducible refine And.intro ?_ ?_); all_goals first | (refine q1 _ ?_; clear q1 Z) | omega | rfl | decide | assumption | (simp [roomFor, maxLen, by39, by3, by68, by70, by23] <;> omega))
          refine opsA_nil (r _ ?_)
          clear r R
          try simp only [go_sem, Nat.reduceBEq]
          have e2 : locksTo t (j + 1) (t.getD i default).go = (locksTo t j (t.getD i default).go).set (lockOf (t.getD j default)).toNat false := locksTo_same hjl hgo (by unfold lockStep; rw [if_neg (by omega), if_neg hop, if_pos hop6])
          refine loopK.normal (i - (j + 1)) _ (by omega) (St.le.of_eq (by rw [e2, ← List.map_set, wrap_succ hji hm])) ⟨j + 1, rfl, hji, rfl⟩
        · intro hb5
          have hop6 := of_decide_eq_false hb5
          refine SA.skip ?_
          refine blockK.normal (thenK.normal ?_)
          refine SA.region ok (by kernel_rfl) [0, 1, 4, 5, 6] ?_
          intro R r
          simp only [go_sem, strip]
          iterate 3 (refine opsA_cons fun Z q1 => ?_; simp only [go_sem, seval, -List.reduceReplicate]; (repeat' with_reducible refine And.intro ?_ ?_); all_goals first | (refine q1 _ ?_; clear q1 Z) | omega | rfl | decide | assumption | (simp [roomFor, maxLen, by39, by3, by68, by70, by23] <;> omega))
          refine opsA_nil (r _ ?_)
          clear r R
          try simp only [go_sem, Nat.reduceBEq]
          have e2 : locksTo t (j + 1) (t.getD i default).go = locksTo t j (t.getD i default).go := locksTo_same hjl hgo (by unfold lockStep; rw [if_neg (by omega), if_neg hop, if_neg hop6])
          refine loopK.normal (i - (j + 1)) _ (by omega) (St.le.of_eq (by rw [e2, wrap_succ hji hm])) ⟨j + 1, rfl, hji, rfl⟩
  · intro hb1
    simp only [decide_eq_true_eq, decide_eq_false_iff_not, Int.not_lt, Int.not_le] at hb1
    refine SA.exit ?_
    refine thenK.exit ?_
    refine loopK.exit ?_
    refine blockK.hit ?_
    refine thenK.normal (SA.seq ?_)
    refine SA.region ok (by kernel_rfl) [4] ?_
    intro R r
    simp only [go_sem, strip]
    iterate 2 (refine opsA_cons fun Z q1 => ?_; simp only [go_sem, seval, -List.reduceReplicate]; (repeat' with_reducible refine And.intro ?_ ?_); all_goals first | (refine q1 _ ?_; clear q1 Z) | omega | rfl | decide | assumption | (simp [roomFor, maxLen, by39, by3, by68, by70, by23] <;> omega))
    refine opsA_nil (r _ ?_)
    clear r R
    try simp only [go_sem, Nat.reduceBEq]
    refine thenK.normal (SA.ret ?_)
    refine ctrK.ret ?_
    simp only [resA, evalO, resV, backK, outE, toV, ty4, ty3, List.lookup_cons, List.lookup_nil, beq_self_eq_true, forall_const, true_and, and_true]
    simp only [go_sem, seval, -List.reduceReplicate]
    have : j = i := by omega
    subst this
    exact ⟨rfl, rfl⟩

theorem refEdges_ctr (t : List Event) (ht : t.length ≤ 257) (h6 : ∀ e ∈ t, e.touch.length = 6) (hr : t.all right = true) : Ctr Go.Proofs.Try.prog tab 38 [22] [46] [.list (t.map Event.v)] [.list ((edges t).map Edge.v)] := by
  have hm : t.length ≤ maxLen := Nat.le_trans ht (by decide)
  refine Ctr.body ok Go.Proofs.Try.func38 rfl rfl 56 rfl [.tmp 2] rfl (by simp [fromVs]) ?_
  simp only [fromVs, fromV, args0, V.toList_list, V.toInt_int, V.toBool_bool, Nat.zero_add, Nat.reduceAdd, ty22]
  refine SA.seq ?_
  refine SA.region ok (by kernel_rfl) [0] ?_
  intro R r
  simp only [go_sem, strip]
  iterate 1 (refine opsA_cons fun Z q1 => ?_; simp only [go_sem, seval, -List.reduceReplicate]; (repeat' with_reducible refine And.intro ?_ ?_); all_goals first | (refine q1 _ ?_; clear q1 Z) | omega | rfl | decide | assumption | (simp [roomFor, maxLen, by39, by3, by68, by70, by23] <;> omega))
  refine opsA_nil (r _ ?_)
  clear r R
  try simp only [go_sem, Nat.reduceBEq]
  refine thenK.normal (SA.seq ?_)
  refine SA.region ok (by kernel_rfl) [0, 3] ?_
  intro R r
  simp only [go_sem, strip]
  iterate 1 (refine opsA_cons fun Z q1 => ?_; simp only [go_sem, seval, -List.reduceReplicate]; (repeat' with_reducible refine And.intro ?_ ?_); all_goals first | (refine q1 _ ?_; clear q1 Z) | omega | rfl | decide | assumption | (simp [roomFor, maxLen, by39, by3, by68, by70, by23] <;> omega))
  refine opsA_nil (r _ ?_)
  clear r R
  try simp only [go_sem, Nat.reduceBEq]
  refine thenK.normal (SA.seq ?_)
  refine SA.seq ?_
  refine SA.region ok (by kernel_rfl) [0, 3, 9, 10] ?_
  intro R r
  simp only [go_sem, strip]
  iterate 3 (refine opsA_cons fun Z q1 => ?_; simp only [go_sem, seval, -List.reduceReplicate]; (repeat' with_reducible refine And.intro ?_ ?_); all_goals first | (refine q1 _ ?_; clear q1 Z) | omega | rfl | decide | assumption | (simp [roomFor, maxLen, by39, by3, by68, by70, by23] <;> omega))
  refine opsA_nil (r _ ?_)
  clear r R
  try simp only [go_sem, Nat.reduceBEq]
  refine thenK.normal (SA.block ?_)
  refine SA.weaken ((St.le.own (t := 3) 68 rfl).trans ((St.le.keep [0, 3, 9, 10]).trans (St.le.of_eq (by first | rfl | simp)))) (SA.loop (fun n τ => ∃ (i : Nat), n = t.length - i ∧ (i ≤ t.length) ∧ τ = { tm := [(0, true, .fs 42 (t.map Event.v) false), (3, true, .sl 0 68 0 (edgesTo t i).length false), (9, true, .int .i64 t.length), (10, true, .int .i64 i)], ob := [.row 68 ((edgesTo t i).map Edge.v)], out := [], nt := 56 }) (t.length) ⟨0, rfl, Nat.zero_le _, rfl⟩ ?_)
  rintro n τ ⟨i, hn, hi, rfl⟩
  refine SA.seq ?_
  refine SA.region ok (by kernel_rfl) [0, 3, 9, 10, 11] ?_
  intro R r
  simp only [go_sem, strip]
  iterate 1 (refine opsA_cons fun Z q1 => ?_; simp only [go_sem, seval, -List.reduceReplicate]; (repeat' with_reducible refine And.intro ?_ ?_); all_goals first | (refine q1 _ ?_; clear q1 Z) | omega | rfl | decide | assumption | (simp [roomFor, maxLen, by39, by3, by68, by70, by23] <;> omega))
  refine opsA_nil (r _ ?_)
  clear r R
  try simp only [go_sem, Nat.reduceBEq]
  refine thenK.normal (SA.seq ?_)
  refine SA.cond rfl ?_ ?_
  · intro hb1
    simp only [decide_eq_true_eq, decide_eq_false_iff_not, Int.not_lt, Int.not_le] at hb1
    refine SA.skip ?_
    refine thenK.normal (SA.seq ?_)
    refine SA.block ?_
    refine SA.seq ?_
    have hlt : i < t.length := by omega
    have hmem := getD_mem t hlt
    have hf := right_facts (h6 _ hmem) (List.all_eq_true.1 hr _ hmem)
    refine SA.region ok (by kernel_rfl) [0, 3, 4, 9, 10] ?_
    intro R r
    simp only [go_sem, strip]
    iterate 2 (refine opsA_cons fun Z q1 => ?_; simp only [go_sem, seval, -List.reduceReplicate]; (repeat' with_reducible refine And.intro ?_ ?_); all_goals first | (refine q1 _ ?_; clear q1 Z) | omega | rfl | decide | assumption | (simp [roomFor, maxLen, by39, by3, by68, by70, by23] <;> omega))
    refine opsA_nil (r _ ?_)
    clear r R
    try simp only [go_sem, Nat.reduceBEq]
    refine thenK.normal (SA.seq ?_)
    refine SA.region ok (by kernel_rfl) [0, 3, 4, 5, 9, 10] ?_
    intro R r
    simp only [go_sem, strip]
    iterate 4 (refine opsA_cons fun Z q1 => ?_; simp only [go_sem, seval, -List.reduceReplicate, getD_map Event.v t hlt]; (repeat' with_reducible refine And.intro ?_ ?_); all_goals first | (refine q1 _ ?_; clear q1 Z) | omega | rfl | decide | assumption | (simp [roomFor, maxLen, by39, by3, by68, by70, by23] <;> omega))
    refine opsA_cons fun Z q1 => ?_
    simp only [go_sem, seval, -List.reduceReplicate, getD_map Event.v t hlt]
    repeat' with_reducible refine And.intro ?_ ?_
    all_goals try (first | omega | assumption | (intro _; omega))
    first | refine ⟨_, _, rfl, .inl ⟨_, CallQ.ctr ok (lock_ctr _ (h6 _ hmem) (by omega) hf.2.2.2.1) (by first | rfl | (simp [argsV, toVs, contentV, toV, capsV, capsE, ty22, ty25, ty3, ty4, ty81, ty39, ty40, ty42, ty37, ty2, ty23, ty24, ty46, ty68, ty65, ty70, ty69, ty90, ty77, ty59, ty98, ty71, ty93, ty64, ty85, List.length_map, List.take_of_length_le])) rfl, ?_⟩⟩ | refine ⟨_, _, rfl, .inl ⟨_, fun hg => CallQ.ctr ok (lock_ctr _ (h6 _ hmem) (by omega) hf.2.2.2.1) (by first | rfl | (simp [argsV, toVs, contentV, toV, capsV, capsE, ty22, ty25, ty3, ty4, ty81, ty39, ty40, ty42, ty37, ty2, ty23, ty24, ty46, ty68, ty65, ty70, ty69, ty90, ty77, ty59, ty98, ty71, ty93, ty64, ty85, List.length_map, List.take_of_length_le])) rfl, ?_⟩⟩
    simp only [go_sem, seval, -List.reduceReplicate, getD_map Event.v t hlt]
    repeat' with_reducible refine And.intro ?_ ?_
    all_goals first | (refine q1 _ ?_; clear q1 Z) | omega | rfl | decide | assumption | (simp [roomFor, maxLen, by39, by3, by68, by70, by23] <;> omega)
    iterate 1 (refine opsA_cons fun Z q1 => ?_; simp only [go_sem, seval, -List.reduceReplicate, getD_map Event.v t hlt]; (repeat' with_reducible refine And.intro ?_ ?_); all_goals first | (refine q1 _ ?_; clear q1 Z) | omega | rfl | decide | assumption | (simp [roomFor, maxLen, by39, by3, by68, by70, by23] <;> omega))
    refine opsA_nil (r _ ?_)
    clear r R
    try simp only [go_sem, Nat.reduceBEq]
    refine thenK.normal (SA.seq ?_)
    refine SA.seq ?_
    refine SA.region ok (by kernel_rfl) [0, 3, 4, 5, 9, 10, 27] ?_
    intro R r
    simp only [go_sem, strip]
    iterate 10 (refine opsA_cons fun Z q1 => ?_; simp only [go_sem, seval, -List.reduceReplicate, getD_map Event.v t hlt]; (repeat' with_reducible refine And.intro ?_ ?_); all_goals first | (refine q1 _ ?_; clear q1 Z) | omega | rfl | decide | assumption | (simp [roomFor, maxLen, by39, by3, by68, by70, by23] <;> omega))
    refine opsA_nil (r _ ?_)
    clear r R
    try simp only [go_sem, Nat.reduceBEq]
    refine thenK.normal ?_
    refine SA.cond rfl ?_ ?_
    · intro hb2
      skip
      refine SA.exit ?_
      refine thenK.exit ?_
      refine blockK.hit ?_
      refine thenK.normal ?_
      refine SA.region ok (by kernel_rfl) [0, 3, 9, 10] ?_
      intro R r
      simp only [go_sem, strip]
      iterate 2 (refine opsA_cons fun Z q1 => ?_; simp only [go_sem, seval, -List.reduceReplicate]; (repeat' with_reducible refine And.intro ?_ ?_); all_goals first | (refine q1 _ ?_; clear q1 Z) | omega | rfl | decide | assumption | (simp [roomFor, maxLen, by39, by3, by68, by70, by23] <;> omega))
      refine opsA_nil (r _ ?_)
      clear r R
      try simp only [go_sem, Nat.reduceBEq]
      have e0 : edgesTo t (i + 1) = edgesTo t i := by rw [edgesTo_succ, if_neg (by unfold takes; rw [takes_no hb2]; decide), List.append_nil]
      refine loopK.normal (t.length - (i + 1)) _ (by omega) ((St.le.cut 1 rfl).trans (St.le.of_eq (by rw [e0, wrap_succ hlt hm]; rfl))) ⟨i + 1, rfl, hlt, rfl⟩
    · intro hb2
      skip
      refine SA.skip ?_
      refine thenK.normal (SA.seq ?_)
      refine SA.region ok (by kernel_rfl) [0, 3, 4, 5, 9, 10, 30, 31] ?_
      intro R r
      simp only [go_sem, strip]
      iterate 2 (refine opsA_cons fun Z q1 => ?_; simp only [go_sem, seval, -List.reduceReplicate]; (repeat' with_reducible refine And.intro ?_ ?_); all_goals first | (refine q1 _ ?_; clear q1 Z) | omega | rfl | decide | assumption | (simp [roomFor, maxLen, by39, by3, by68, by70, by23] <;> omega))
      refine opsA_cons fun Z q1 => ?_
      simp only [go_sem, seval, -List.reduceReplicate]
      repeat' with_reducible refine And.intro ?_ ?_
      all_goals try (first | omega | assumption | (intro _; omega))
      first | refine ⟨_, _, rfl, .inl ⟨_, CallQ.ctr ok (refHeld_ctr t i hlt ht h6 hr) (by first | rfl | (simp [argsV, toVs, contentV, toV, capsV, capsE, ty22, ty25, ty3, ty4, ty81, ty39, ty40, ty42, ty37, ty2, ty23, ty24, ty46, ty68, ty65, ty70, ty69, ty90, ty77, ty59, ty98, ty71, ty93, ty64, ty85, List.length_map, List.take_of_length_le])) rfl, ?_⟩⟩ | refine ⟨_, _, rfl, .inl ⟨_, fun hg => CallQ.ctr ok (refHeld_ctr t i hlt ht h6 hr) (by first | rfl | (simp [argsV, toVs, contentV, toV, capsV, capsE, ty22, ty25, ty3, ty4, ty81, ty39, ty40, ty42, ty37, ty2, ty23, ty24, ty46, ty68, ty65, ty70, ty69, ty90, ty77, ty59, ty98, ty71, ty93, ty64, ty85, List.length_map, List.take_of_length_le])) rfl, ?_⟩⟩
      simp only [go_sem, seval, -List.reduceReplicate]
      repeat' with_reducible refine And.intro ?_ ?_
      all_goals first | (refine q1 _ ?_; clear q1 Z) | omega | rfl | decide | assumption | (simp [roomFor, maxLen, by39, by3, by68, by70, by23] <;> omega)
      iterate 1 (refine opsA_cons fun Z q1 => ?_; simp only [go_sem, seval, -List.reduceReplicate]; (repeat' with_reducible refine And.intro ?_ ?_); all_goals first | (refine q1 _ ?_; clear q1 Z) | omega | rfl | decide | assumption | (simp [roomFor, maxLen, by39, by3, by68, by70, by23] <;> omega))
      refine opsA_nil (r _ ?_)
      clear r R
      try simp only [go_sem, Nat.reduceBEq]
      refine thenK.normal (SA.block ?_)
      refine SA.weaken ((St.le.cut 1 rfl).trans (St.le.of_eq (by simp [edgesAt_zero]))) (SA.loop (fun n τ => ∃ (f : Nat), n = 4 - f ∧ (f ≤ 4) ∧ τ = { tm := [(0, true, .fs 42 (t.map Event.v) false), (3, true, .sl 0 68 0 (edgesTo t i ++ edgesAt t i f).length false), (4, true, .int .i64 i), (5, true, .int .i64 (lockOf (t.getD i default))), (9, true, .int .i64 t.length), (10, true, .int .i64 i), (30, true, .data 69 (.agg ((heldOf t i).map V.bool))), (31, true, .int .i64 f)], ob := [.row 68 ((edgesTo t i ++ edgesAt t i f).map Edge.v)], out := [], nt := 56 }) (4) ⟨0, rfl, Nat.zero_le _, rfl⟩ ?_)
      rintro n τ ⟨f, hn, hf0, rfl⟩
      refine SA.seq ?_
      refine SA.region ok (by kernel_rfl) [0, 3, 4, 5, 9, 10, 30, 31, 32] ?_
      intro R r
      simp only [go_sem, strip]
      iterate 1 (refine opsA_cons fun Z q1 => ?_; simp only [go_sem, seval, -List.reduceReplicate]; (repeat' with_reducible refine And.intro ?_ ?_); all_goals first | (refine q1 _ ?_; clear q1 Z) | omega | rfl | decide | assumption | (simp [roomFor, maxLen, by39, by3, by68, by70, by23] <;> omega))
      refine opsA_nil (r _ ?_)
      clear r R
      try simp only [go_sem, Nat.reduceBEq]
      refine thenK.normal (SA.seq ?_)
      refine SA.cond rfl ?_ ?_
      · intro hb3
        simp only [decide_eq_true_eq, decide_eq_false_iff_not, Int.not_lt, Int.not_le] at hb3
        refine SA.skip ?_
        refine thenK.normal (SA.seq ?_)
        refine SA.block ?_
        refine SA.seq ?_
        have hf4 : f < (heldOf t i).length := by rw [heldOf_len]; omega
        refine SA.region ok (by kernel_rfl) [0, 3, 4, 5, 6, 7, 9, 10, 30, 31] ?_
        intro R r
        simp only [go_sem, strip]
        iterate 4 (refine opsA_cons fun Z q1 => ?_; simp only [go_sem, seval, -List.reduceReplicate, getD_map V.bool (heldOf t i) hf4]; (repeat' with_reducible refine And.intro ?_ ?_); all_goals first | (refine q1 _ ?_; clear q1 Z) | omega | rfl | decide | assumption | (simp [roomFor, maxLen, by39, by3, by68, by70, by23] <;> omega))
        refine opsA_nil (r _ ?_)
        clear r R
        try simp only [go_sem, Nat.reduceBEq]
        refine thenK.normal (SA.seq ?_)
        refine SA.region ok (by kernel_rfl) [0, 3, 4, 5, 6, 9, 10, 30, 31, 40] ?_
        intro R r
        simp only [go_sem, strip]
        iterate 6 (refine opsA_cons fun Z q1 => ?_; simp only [go_sem, seval, -List.reduceReplicate]; (repeat' with_reducible refine And.intro ?_ ?_); all_goals first | (refine q1 _ ?_; clear q1 Z) | omega | rfl | decide | assumption | (simp [roomFor, maxLen, by39, by3, by68, by70, by23] <;> omega))
        refine opsA_nil (r _ ?_)
        clear r R
        try simp only [go_sem, Nat.reduceBEq]
        refine thenK.normal ?_
        refine SA.cond rfl ?_ ?_
        · intro hb4
          skip
          refine SA.region ok (by kernel_rfl) [0, 3, 4, 5, 9, 10, 30, 31] ?_
          intro R r
          simp only [go_sem, strip]
          iterate 11 (refine opsA_cons fun Z q1 => ?_; simp only [go_sem, seval, -List.reduceReplicate, getD_map Event.v t hlt]; (repeat' with_reducible refine And.intro ?_ ?_); all_goals first | (refine q1 _ ?_; clear q1 Z) | omega | rfl | decide | assumption | (simp [roomFor, maxLen, by39, by3, by68, by70, by23] <;> omega))
          refine opsA_cons fun Z q1 => ?_
          simp only [go_sem, seval, -List.reduceReplicate, getD_map Event.v t hlt]
          repeat' with_reducible refine And.intro ?_ ?_
          all_goals first | (refine q1 _ ?_; clear q1 Z) | omega | rfl | decide | assumption | (have h1 := edgesTo_len t i; have h2 := edgesAt_len t i f; simp only [roomFor, maxLen, by39, by3, by68, by70, by23, List.length_append, List.length_take, List.drop_zero, List.length_cons, List.length_nil]; omega)
          iterate 1 (refine opsA_cons fun Z q1 => ?_; simp only [go_sem, seval, -List.reduceReplicate, getD_map Event.v t hlt]; (repeat' with_reducible refine And.intro ?_ ?_); all_goals first | (refine q1 _ ?_; clear q1 Z) | omega | rfl | decide | assumption | (simp [roomFor, maxLen, by39, by3, by68, by70, by23] <;> omega))
          refine opsA_nil (r _ ?_)
          clear r R
          try simp only [go_sem, Nat.reduceBEq]
          refine blockK.normal (thenK.normal ?_)
          refine SA.region ok (by kernel_rfl) [0, 3, 4, 5, 9, 10, 30, 31] ?_
          intro R r
          simp only [go_sem, strip]
          iterate 2 (refine opsA_cons fun Z q1 => ?_; simp only [go_sem, seval, -List.reduceReplicate]; (repeat' with_reducible refine And.intro ?_ ?_); all_goals first | (refine q1 _ ?_; clear q1 Z) | omega | rfl | decide | assumption | (simp [roomFor, maxLen, by39, by3, by68, by70, by23] <;> omega))
          refine opsA_nil (r _ ?_)
          clear r R
          try simp only [go_sem, Nat.reduceBEq]
          have e0 := edgesAt_hit hb4
          have e2 : (edgesTo t i ++ edgesAt t i (f + 1)).length = (edgesTo t i ++ edgesAt t i f).length + 1 := by rw [e0]; simp only [List.length_append, List.length_cons, List.length_nil]; omega
          have e3 : List.take (edgesTo t i ++ edgesAt t i f).length (List.map Edge.v (edgesTo t i ++ edgesAt t i f)) ++ List.take 1 (List.drop 0 [V.agg [V.int f, V.int (lockOf (t.getD i default)), V.int (t.getD i default).go, V.int i]]) = (edgesTo t i ++ edgesAt t i (f + 1)).map Edge.v := by
            rw [e0, take_map_len, List.map_append, List.map_append, List.map_append]; simp [Edge.v]
          refine loopK.normal (4 - (f + 1)) _ (by omega) ((St.le.cut 1 rfl).trans (St.le.of_eq (by rw [e3, e2, wrap_succ (show f < 4 by omega) (by decide)]; rfl))) ⟨f + 1, rfl, by omega, rfl⟩
        · intro hb4
          skip
          refine SA.skip ?_
          refine blockK.normal (thenK.normal ?_)
          refine SA.region ok (by kernel_rfl) [0, 3, 4, 5, 9, 10, 30, 31] ?_
          intro R r
          simp only [go_sem, strip]
          iterate 2 (refine opsA_cons fun Z q1 => ?_; simp only [go_sem, seval, -List.reduceReplicate]; (repeat' with_reducible refine And.intro ?_ ?_); all_goals first | (refine q1 _ ?_; clear q1 Z) | omega | rfl | decide | assumption | (simp [roomFor, maxLen, by39, by3, by68, by70, by23] <;> omega))
          refine opsA_nil (r _ ?_)
          clear r R
          try simp only [go_sem, Nat.reduceBEq]
          have e0 := edgesAt_miss hb4
          refine loopK.normal (4 - (f + 1)) _ (by omega) (St.le.of_eq (by rw [e0, wrap_succ (show f < 4 by omega) (by decide)])) ⟨f + 1, rfl, by omega, rfl⟩
      · intro hb3
        simp only [decide_eq_true_eq, decide_eq_false_iff_not, Int.not_lt, Int.not_le] at hb3
        refine SA.exit ?_
        refine thenK.exit ?_
        refine loopK.exit ?_
        refine blockK.hit ?_
        refine blockK.normal (thenK.normal ?_)
        refine SA.region ok (by kernel_rfl) [0, 3, 9, 10] ?_
        intro R r
        simp only [go_sem, strip]
        iterate 2 (refine opsA_cons fun Z q1 => ?_; simp only [go_sem, seval, -List.reduceReplicate]; (repeat' with_reducible refine And.intro ?_ ?_); all_goals first | (refine q1 _ ?_; clear q1 Z) | omega | rfl | decide | assumption | (simp [roomFor, maxLen, by39, by3, by68, by70, by23] <;> omega))
        refine opsA_nil (r _ ?_)
        clear r R
        try simp only [go_sem, Nat.reduceBEq]
        have hff : f = 4 := by omega
        have e0 : edgesTo t i ++ edgesAt t i f = edgesTo t (i + 1) := by rw [edgesTo_succ, if_pos (by unfold takes; exact takes_yes hb2), hff]
        refine loopK.normal (t.length - (i + 1)) _ (by omega) ((St.le.cut 1 rfl).trans (St.le.of_eq (by rw [e0, wrap_succ hlt hm]; rfl))) ⟨i + 1, rfl, hlt, rfl⟩
  · intro hb1
    simp only [decide_eq_true_eq, decide_eq_false_iff_not, Int.not_lt, Int.not_le] at hb1
    refine SA.exit ?_
    refine thenK.exit ?_
    refine loopK.exit ?_
    refine blockK.hit ?_
    refine thenK.normal (SA.seq ?_)
    refine SA.region ok (by kernel_rfl) [2] ?_
    intro R r
    simp only [go_sem, strip]
    iterate 2 (refine opsA_cons fun Z q1 => ?_; simp only [go_sem, seval, -List.reduceReplicate]; (repeat' with_reducible refine And.intro ?_ ?_); all_goals first | (refine q1 _ ?_; clear q1 Z) | omega | rfl | decide | assumption | (simp [roomFor, maxLen, by39, by3, by68, by70, by23] <;> omega))
    refine opsA_nil (r _ ?_)
    clear r R
    try simp only [go_sem, Nat.reduceBEq]
    refine thenK.normal (SA.ret ?_)
    refine ctrK.ret ?_
    simp only [resA, evalO, resV, backK, outE, toV, ty4, ty3, List.lookup_cons, List.lookup_nil, beq_self_eq_true, forall_const, true_and, and_true]
    simp only [go_sem, seval, -List.reduceReplicate]
    have : i = t.length := by omega
    subst this
    exact ⟨rfl, by rw [take_map_len]; rfl, by simp⟩

end Go.Eng.Try
