/- A part of the proof: walks through the program's functions, and what they compute. -/
import Derived.Test.YtbfihoopgcmkpaaTryTab
import Derived.Test.YtbfihoopgcmkpaaMdl
import Derived.Test.YtbfihoopgcmkpaaEngT
import Derived.Test.YtbfihoopgcmkpaaW14
import Derived.Test.YtbfihoopgcmkpaaPlA
import Derived.Test.YtbfihoopgcmkpaaInsC
import Derived.Test.YtbfihoopgcmkpaaEngV
namespace Go.Eng.Try
open Go.RowKit Go.Eng
set_option linter.unusedSimpArgs false
set_option linter.unusedVariables false

theorem lo_le (l : List Access) (a : Access) : lo l a ≤ l.length := List.countP_le_length
theorem lo_lt {l : List Access} {a : Access} (h : hasA l a = true) : lo l a < l.length := by
  obtain ⟨x, hx, h0⟩ := List.any_eq_true.1 h
  simp only [decide_eq_true_eq] at h0
  rcases Nat.lt_or_ge (lo l a) l.length with h1 | h1
  · exact h1
  · have h2 : l.countP (fun x => decide (cmp x a < 0)) = l.length := Nat.le_antisymm (lo_le l a) h1
    rw [List.countP_eq_length] at h2
    have := h2 x hx
    simp only [decide_eq_true_eq] at this
    omega
theorem search_ctr' (l : List Access) (a : Access) (hl : l.length ≤ maxLen) (hs : l.Pairwise lex) : Ctr Go.Proofs.Try.prog tab 30 [22, 27, 60] [3, 4] [.list (l.map Access.v), a.v, .fnv 31] [.int (lo l a : Nat), .bool (hasA l a)] := search_ctr l a hl hs

attribute [local go_sem] argsV contentV fromVs Option.getD_some St.keep List.filterMap_cons List.filterMap_nil Option.map_some Option.map_none opG opQ opB newEs outE CallStepB guardA putK putE pureA evalO evalL constE pickA loadA fieldAddrA indexAddrA indexA sliceA evalOptI builtinA binA plainA shiftA eqA arith shifts effA storeA appendA St.kill Tm.kill E.kill E.killL Obj.kill elemsOf evalVs buildA okAt toV fromV zeroE V.get V.put V.sub V.setSub args0 CallStep CallStepQ i64min i64max u64min u64max u32min u32max u8min u8max Nat.zero_add List.length_map List.lookup_cons List.lookup_nil List.getElem?_cons_zero List.getElem?_cons_succ List.getElem?_toArray List.getElem?_nil Option.bind_some Option.bind_none List.size_toArray List.length_cons List.length_nil List.nil_append List.append_nil List.cons_append List.getD_cons_zero List.getD_cons_succ List.map_cons List.map_nil List.set_cons_zero List.set_cons_succ true_and and_true forall_const true_implies Bool.true_and Bool.and_true Bool.not_true Bool.not_false Bool.false_and Bool.and_false beq_self_eq_true Bool.true_beq Bool.false_beq beq_true beq_false eq_self false_implies V.toInt_int V.toBool_bool V.toList_list V.toList_agg V.toStr_str V.deref_ref if_true if_false Bool.false_eq_true Option.isSome_none Option.isSome_some Bool.false_or Bool.true_or Bool.or_false Bool.or_true cond_true cond_false implies_true and_self imp_self ty60 ty65 ty42 ty49 ty33 ty32 ty34 ty3 ty4 ty22 ty27 ty28 ty30 ty25 ty2 beq_v concat_at zero27 z27 z3 z4 Int.toNat_natCast Int.natCast_zero Event.v0 Event.v7 Event.v8 Access.v0 Access.v1 Access.v2 beq_acc
-- scarab/depend.Objects
theorem objects_ctr (t : List Event) (ht : t.length ≤ maxLen) (h6 : ∀ e ∈ t, e.touch.length = 6) : Ctr Go.Proofs.Try.prog tab 18 [32] [22, 34] [.list (t.map Event.v)] [.list ((if check t = 0 then objs t else []).map Access.v), .int (check t)] := by
  refine Ctr.body ok Go.Proofs.Try.func18 rfl rfl 58 rfl [.tmp 2, .tmp 3] rfl (by simp [fromVs]) ?_
  simp only [fromVs, fromV, args0, V.toList_list, V.toInt_int, V.toBool_bool, Nat.zero_add, Nat.reduceAdd, ty32]
  refine SA.seq ?_
  refine SA.region ok (by kernel_rfl) [0] ?_
  intro R hR
  simp only [go_sem, strip]
  iterate 2 (refine opsA_cons fun R1 hR1 => ?_; simp only [go_sem, Nat.reduceBEq, Nat.reduceLT, Nat.reduceEqDiff, Nat.reduceAdd, Int.reduceLE, Int.reduceLT, Int.reduceNeg, Int.reduceEq, Int.reduceToNat, reduceCtorEq]; (repeat' with_reducible refine And.intro ?_ ?_); all_goals first | (refine hR1 _ ?_; clear hR1 R1) | omega | rfl | decide | assumption | (simp [roomFor, maxLen, by49, by4, by27, by3] <;> omega))
  refine opsA_nil (hR _ ?_)
  clear hR R
  try simp only [go_sem, Nat.reduceBEq]
  refine thenK.normal ?_
  refine SA.seq ?_
  refine SA.seq ?_
  refine SA.region ok (by kernel_rfl) [0, 4] ?_
  intro R hR
  simp only [go_sem, strip]
  iterate 1 (refine opsA_cons fun R1 hR1 => ?_; simp only [go_sem, Nat.reduceBEq, Nat.reduceLT, Nat.reduceEqDiff, Nat.reduceAdd, Int.reduceLE, Int.reduceLT, Int.reduceNeg, Int.reduceEq, Int.reduceToNat, reduceCtorEq]; (repeat' with_reducible refine And.intro ?_ ?_); all_goals first | (refine hR1 _ ?_; clear hR1 R1) | omega | rfl | decide | assumption | (simp [roomFor, maxLen, by49, by4, by27, by3] <;> omega))
  refine opsA_cons fun R1 hR1 => ?_
  simp only [go_sem, Nat.reduceBEq, Nat.reduceLT, Nat.reduceEqDiff, Nat.reduceAdd, Int.reduceLE, Int.reduceLT, Int.reduceNeg, Int.reduceEq, Int.reduceToNat, reduceCtorEq]
  repeat' with_reducible refine And.intro ?_ ?_
  all_goals try (first | omega | assumption | (intro _; omega))
  first | refine ⟨_, _, rfl, .inl ⟨_, CallQ.ctr ok (check_ctr t ht h6) (by first | rfl | (simp [argsV, toVs, contentV, toV, ty60, ty65, ty42, ty49, ty33, ty32, ty34, ty3, ty4, ty22, ty27, ty28, ty30, ty25, ty2, List.length_map, List.take_of_length_le])) rfl, ?_⟩⟩ | refine ⟨_, _, rfl, .inl ⟨_, fun hg => CallQ.ctr ok (check_ctr t ht h6) (by first | rfl | (simp [argsV, toVs, contentV, toV, ty60, ty65, ty42, ty49, ty33, ty32, ty34, ty3, ty4, ty22, ty27, ty28, ty30, ty25, ty2, List.length_map, List.take_of_length_le])) rfl, ?_⟩⟩
  simp only [go_sem, Nat.reduceBEq, Nat.reduceLT, Nat.reduceEqDiff, Nat.reduceAdd, Int.reduceLE, Int.reduceLT, Int.reduceNeg, Int.reduceEq, Int.reduceToNat, reduceCtorEq]
  repeat' with_reducible refine And.intro ?_ ?_
  all_goals first | (refine hR1 _ ?_; clear hR1 R1) | omega | rfl | decide | assumption | (simp [roomFor, maxLen, by49, by4, by27, by3] <;> omega)
  iterate 1 (refine opsA_cons fun R1 hR1 => ?_; simp only [go_sem, Nat.reduceBEq, Nat.reduceLT, Nat.reduceEqDiff, Nat.reduceAdd, Int.reduceLE, Int.reduceLT, Int.reduceNeg, Int.reduceEq, Int.reduceToNat, reduceCtorEq]; (repeat' with_reducible refine And.intro ?_ ?_); all_goals first | (refine hR1 _ ?_; clear hR1 R1) | omega | rfl | decide | assumption | (simp [roomFor, maxLen, by49, by4, by27, by3] <;> omega))
  refine opsA_nil (hR _ ?_)
  clear hR R
  try simp only [go_sem, Nat.reduceBEq]
  refine thenK.normal ?_
  refine SA.seq ?_
  refine SA.region ok (by kernel_rfl) [0, 4, 14] ?_
  intro R hR
  simp only [go_sem, strip]
  iterate 2 (refine opsA_cons fun R1 hR1 => ?_; simp only [go_sem, Nat.reduceBEq, Nat.reduceLT, Nat.reduceEqDiff, Nat.reduceAdd, Int.reduceLE, Int.reduceLT, Int.reduceNeg, Int.reduceEq, Int.reduceToNat, reduceCtorEq]; (repeat' with_reducible refine And.intro ?_ ?_); all_goals first | (refine hR1 _ ?_; clear hR1 R1) | omega | rfl | decide | assumption | (simp [roomFor, maxLen, by49, by4, by27, by3] <;> omega))
  refine opsA_nil (hR _ ?_)
  clear hR R
  try simp only [go_sem, Nat.reduceBEq]
  refine thenK.normal ?_
  refine SA.cond rfl ?_ ?_
  · intro hb1
    simp at hb1
    refine SA.seq ?_
    refine SA.region ok (by kernel_rfl) [2, 3] ?_
    intro R hR
    simp only [go_sem, strip]
    iterate 3 (refine opsA_cons fun R1 hR1 => ?_; simp only [go_sem, Nat.reduceBEq, Nat.reduceLT, Nat.reduceEqDiff, Nat.reduceAdd, Int.reduceLE, Int.reduceLT, Int.reduceNeg, Int.reduceEq, Int.reduceToNat, reduceCtorEq]; (repeat' with_reducible refine And.intro ?_ ?_); all_goals first | (refine hR1 _ ?_; clear hR1 R1) | omega | rfl | decide | assumption | (simp [roomFor, maxLen, by49, by4, by27, by3] <;> omega))
    refine opsA_nil (hR _ ?_)
    clear hR R
    try simp only [go_sem, Nat.reduceBEq]
    refine thenK.normal ?_
    refine SA.ret ?_
    refine thenK.ret ?_
    refine ctrK.ret ?_
    simp only [resA, evalO, resV, backK, outE, toV, ty4, ty3, List.lookup_cons, List.lookup_nil, beq_self_eq_true, forall_const, true_and, and_true]
    simp only [go_sem, Nat.reduceBEq, Nat.reduceLT, Nat.reduceEqDiff, Nat.reduceAdd, Int.reduceLE, Int.reduceLT, Int.reduceNeg, Int.reduceEq, Int.reduceToNat, reduceCtorEq]
    exact ⟨⟨rfl, by simp [hb1]⟩, rfl⟩
  · intro hb1
    simp at hb1
    refine SA.skip ?_
    refine thenK.normal ?_
    refine SA.seq ?_
    refine SA.region ok (by kernel_rfl) [0, 5] ?_
    intro R hR
    simp only [go_sem, strip]
    iterate 1 (refine opsA_cons fun R1 hR1 => ?_; simp only [go_sem, Nat.reduceBEq, Nat.reduceLT, Nat.reduceEqDiff, Nat.reduceAdd, Int.reduceLE, Int.reduceLT, Int.reduceNeg, Int.reduceEq, Int.reduceToNat, reduceCtorEq]; (repeat' with_reducible refine And.intro ?_ ?_); all_goals first | (refine hR1 _ ?_; clear hR1 R1) | omega | rfl | decide | assumption | (simp [roomFor, maxLen, by49, by4, by27, by3] <;> omega))
    refine opsA_nil (hR _ ?_)
    clear hR R
    try simp only [go_sem, Nat.reduceBEq]
    refine thenK.normal ?_
    refine SA.seq ?_
    refine SA.seq ?_
    refine SA.region ok (by kernel_rfl) [0, 5, 17, 18] ?_
    intro R hR
    simp only [go_sem, strip]
    iterate 3 (refine opsA_cons fun R1 hR1 => ?_; simp only [go_sem, Nat.reduceBEq, Nat.reduceLT, Nat.reduceEqDiff, Nat.reduceAdd, Int.reduceLE, Int.reduceLT, Int.reduceNeg, Int.reduceEq, Int.reduceToNat, reduceCtorEq]; (repeat' with_reducible refine And.intro ?_ ?_); all_goals first | (refine hR1 _ ?_; clear hR1 R1) | omega | rfl | decide | assumption | (simp [roomFor, maxLen, by49, by4, by27, by3] <;> omega))
    refine opsA_nil (hR _ ?_)
    clear hR R
    try simp only [go_sem, Nat.reduceBEq]
    refine thenK.normal ?_
    refine SA.block ?_
    refine SA.weaken ((St.le.own (t := 5) 27 rfl).trans ((St.le.keep [0, 5, 17, 18]).trans (St.le.of_eq (by first | rfl | simp)))) (SA.loop (fun n τ => ∃ (i : Nat), n = t.length - i ∧ (i ≤ t.length ∧ t.length ≤ 256) ∧ τ = { tm := [(0, true, .fs 30 (t.map Event.v) false), (5, true, .sl 0 27 0 (objsTo t i).length false), (17, true, .int .i64 t.length), (18, true, .int .i64 i)], ob := [.row 27 ((objsTo t i).map Access.v)], out := [], nt := 58 }) (t.length) ⟨0, rfl, ⟨Nat.zero_le _, check_len hb1⟩, rfl⟩ ?_)
    rintro n τ ⟨i, hn, ⟨hi, h256⟩, rfl⟩
    refine SA.seq ?_
    refine SA.region ok (by kernel_rfl) [0, 5, 17, 18, 19] ?_
    intro R hR
    simp only [go_sem, strip]
    iterate 1 (refine opsA_cons fun R1 hR1 => ?_; simp only [go_sem, Nat.reduceBEq, Nat.reduceLT, Nat.reduceEqDiff, Nat.reduceAdd, Int.reduceLE, Int.reduceLT, Int.reduceNeg, Int.reduceEq, Int.reduceToNat, reduceCtorEq]; (repeat' with_reducible refine And.intro ?_ ?_); all_goals first | (refine hR1 _ ?_; clear hR1 R1) | omega | rfl | decide | assumption | (simp [roomFor, maxLen, by49, by4, by27, by3] <;> omega))
    refine opsA_nil (hR _ ?_)
    clear hR R
    try simp only [go_sem, Nat.reduceBEq]
    refine thenK.normal ?_
    refine SA.seq ?_
    refine SA.cond rfl ?_ ?_
    · intro hb2
      simp only [decide_eq_true_eq, decide_eq_false_iff_not, Int.not_lt, Int.not_le] at hb2
      refine SA.skip ?_
      refine thenK.normal ?_
      refine SA.seq ?_
      refine SA.block ?_
      refine SA.seq ?_
      refine SA.region ok (by kernel_rfl) [0, 5, 6, 17, 18] ?_
      intro R hR
      simp only [go_sem, strip]
      iterate 2 (refine opsA_cons fun R1 hR1 => ?_; simp only [go_sem, Nat.reduceBEq, Nat.reduceLT, Nat.reduceEqDiff, Nat.reduceAdd, Int.reduceLE, Int.reduceLT, Int.reduceNeg, Int.reduceEq, Int.reduceToNat, reduceCtorEq]; (repeat' with_reducible refine And.intro ?_ ?_); all_goals first | (refine hR1 _ ?_; clear hR1 R1) | omega | rfl | decide | assumption | (simp [roomFor, maxLen, by49, by4, by27, by3] <;> omega))
      refine opsA_nil (hR _ ?_)
      clear hR R
      try simp only [go_sem, Nat.reduceBEq]
      refine thenK.normal ?_
      refine SA.seq ?_
      have hlt : i < t.length := by omega
      have hol := Event.of_len _ (h6 _ (getD_mem t hlt))
      have holm : (t.getD i default).of.length ≤ maxLen := by unfold maxLen; omega
      refine SA.region ok (by kernel_rfl) [0, 5, 17, 18, 24, 25, 26] ?_
      intro R hR
      simp only [go_sem, strip]
      iterate 2 (refine opsA_cons fun R1 hR1 => ?_; simp only [go_sem, Nat.reduceBEq, Nat.reduceLT, Nat.reduceEqDiff, Nat.reduceAdd, Int.reduceLE, Int.reduceLT, Int.reduceNeg, Int.reduceEq, Int.reduceToNat, reduceCtorEq]; (repeat' with_reducible refine And.intro ?_ ?_); all_goals first | (refine hR1 _ ?_; clear hR1 R1) | omega | rfl | decide | assumption | (simp [roomFor, maxLen, by49, by4, by27, by3] <;> omega))
      refine opsA_cons fun R1 hR1 => ?_
      simp only [go_sem, Nat.reduceBEq, Nat.reduceLT, Nat.reduceEqDiff, Nat.reduceAdd, Int.reduceLE, Int.reduceLT, Int.reduceNeg, Int.reduceEq, Int.reduceToNat, reduceCtorEq]
      repeat' with_reducible refine And.intro ?_ ?_
      all_goals first | (refine hR1 _ ?_; clear hR1 R1) | omega | rfl | decide | assumption | (simp [roomFor, maxLen, by49, by4, by27, by3] <;> omega)
      rw [getD_map Event.v t hlt]
      refine opsA_cons fun R1 hR1 => ?_
      simp only [go_sem, Nat.reduceBEq, Nat.reduceLT, Nat.reduceEqDiff, Nat.reduceAdd, Int.reduceLE, Int.reduceLT, Int.reduceNeg, Int.reduceEq, Int.reduceToNat, reduceCtorEq]
      repeat' with_reducible refine And.intro ?_ ?_
      all_goals try (first | omega | assumption | (intro _; omega))
      refine ⟨_, _, rfl, .inr (touched_call _ (h6 _ (getD_mem t hlt)) fun c1 => ?_)⟩
      simp only [go_sem, Nat.reduceBEq, Nat.reduceLT, Nat.reduceEqDiff, Nat.reduceAdd, Int.reduceLE, Int.reduceLT, Int.reduceNeg, Int.reduceEq, Int.reduceToNat, reduceCtorEq]
      repeat' with_reducible refine And.intro ?_ ?_
      all_goals first | (refine hR1 _ ?_; clear hR1 R1) | omega | rfl | decide | assumption | (simp [roomFor, maxLen, by49, by4, by27, by3] <;> omega)
      iterate 2 (refine opsA_cons fun R1 hR1 => ?_; simp only [go_sem, Nat.reduceBEq, Nat.reduceLT, Nat.reduceEqDiff, Nat.reduceAdd, Int.reduceLE, Int.reduceLT, Int.reduceNeg, Int.reduceEq, Int.reduceToNat, reduceCtorEq]; (repeat' with_reducible refine And.intro ?_ ?_); all_goals first | (refine hR1 _ ?_; clear hR1 R1) | omega | rfl | decide | assumption | (simp [roomFor, maxLen, by49, by4, by27, by3] <;> omega))
      refine opsA_nil (hR _ ?_)
      clear hR R
      try simp only [go_sem, Nat.reduceBEq]
      refine thenK.normal ?_
      refine SA.block ?_
      refine SA.weaken (St.le.of_eq (by simp [objsAt])) (SA.loop (fun n τ => ∃ (j : Nat), n = (t.getD i default).of.length - j ∧ (j ≤ (t.getD i default).of.length) ∧ τ = { tm := [(0, true, .fs 30 (t.map Event.v) false), (5, true, .sl 0 27 0 (objsAt t i j).length false), (17, true, .int .i64 t.length), (18, true, .int .i64 i), (24, true, .fs 27 ((t.getD i default).of.map Access.v) c1), (25, true, .int .i64 (t.getD i default).of.length), (26, true, .int .i64 j)], ob := [.row 27 ((objsAt t i j).map Access.v)], out := [], nt := 58 }) ((t.getD i default).of.length) ⟨0, rfl, Nat.zero_le _, rfl⟩ ?_)
      rintro n τ ⟨j, hn, hj, rfl⟩
      refine SA.seq ?_
      refine SA.region ok (by kernel_rfl) [0, 5, 17, 18, 24, 25, 26, 27] ?_
      intro R hR
      simp only [go_sem, strip]
      iterate 1 (refine opsA_cons fun R1 hR1 => ?_; simp only [go_sem, Nat.reduceBEq, Nat.reduceLT, Nat.reduceEqDiff, Nat.reduceAdd, Int.reduceLE, Int.reduceLT, Int.reduceNeg, Int.reduceEq, Int.reduceToNat, reduceCtorEq]; (repeat' with_reducible refine And.intro ?_ ?_); all_goals first | (refine hR1 _ ?_; clear hR1 R1) | omega | rfl | decide | assumption | (simp [roomFor, maxLen, by49, by4, by27, by3] <;> omega))
      refine opsA_nil (hR _ ?_)
      clear hR R
      try simp only [go_sem, Nat.reduceBEq]
      refine thenK.normal ?_
      refine SA.seq ?_
      refine SA.cond rfl ?_ ?_
      · intro hb3
        simp only [decide_eq_true_eq, decide_eq_false_iff_not, Int.not_lt, Int.not_le] at hb3
        refine SA.skip ?_
        refine thenK.normal ?_
        refine SA.seq ?_
        refine SA.block ?_
        refine SA.seq ?_
        have hjl : j < (t.getD i default).of.length := by omega
        refine SA.region ok (by kernel_rfl) [0, 5, 8, 17, 18, 24, 25, 26] ?_
        intro R hR
        simp only [go_sem, strip]
        iterate 1 (refine opsA_cons fun R1 hR1 => ?_; simp only [go_sem, Nat.reduceBEq, Nat.reduceLT, Nat.reduceEqDiff, Nat.reduceAdd, Int.reduceLE, Int.reduceLT, Int.reduceNeg, Int.reduceEq, Int.reduceToNat, reduceCtorEq]; (repeat' with_reducible refine And.intro ?_ ?_); all_goals first | (refine hR1 _ ?_; clear hR1 R1) | omega | rfl | decide | assumption | (simp [roomFor, maxLen, by49, by4, by27, by3] <;> omega))
        refine opsA_cons fun R1 hR1 => ?_
        simp only [go_sem, Nat.reduceBEq, Nat.reduceLT, Nat.reduceEqDiff, Nat.reduceAdd, Int.reduceLE, Int.reduceLT, Int.reduceNeg, Int.reduceEq, Int.reduceToNat, reduceCtorEq]
        repeat' with_reducible refine And.intro ?_ ?_
        all_goals first | (refine hR1 _ ?_; clear hR1 R1) | omega | rfl | decide | assumption | (simp [roomFor, maxLen, by49, by4, by27, by3] <;> omega)
        rw [getD_map Access.v _ hjl]
        iterate 2 (refine opsA_cons fun R1 hR1 => ?_; simp only [go_sem, Nat.reduceBEq, Nat.reduceLT, Nat.reduceEqDiff, Nat.reduceAdd, Int.reduceLE, Int.reduceLT, Int.reduceNeg, Int.reduceEq, Int.reduceToNat, reduceCtorEq]; (repeat' with_reducible refine And.intro ?_ ?_); all_goals first | (refine hR1 _ ?_; clear hR1 R1) | omega | rfl | decide | assumption | (simp [roomFor, maxLen, by49, by4, by27, by3] <;> omega))
        refine opsA_nil (hR _ ?_)
        clear hR R
        try simp only [go_sem, Nat.reduceBEq]
        refine thenK.normal ?_
        refine SA.seq ?_
        have hLn := objsAt_len t h6 j hlt
        have hL : (objsAt t i j).length ≤ maxLen := by unfold maxLen; omega
        refine SA.region ok (by kernel_rfl) [0, 5, 8, 9, 10, 17, 18, 24, 25, 26] ?_
        intro R hR
        simp only [go_sem, strip]
        iterate 2 (refine opsA_cons fun R1 hR1 => ?_; simp only [go_sem, Nat.reduceBEq, Nat.reduceLT, Nat.reduceEqDiff, Nat.reduceAdd, Int.reduceLE, Int.reduceLT, Int.reduceNeg, Int.reduceEq, Int.reduceToNat, reduceCtorEq]; (repeat' with_reducible refine And.intro ?_ ?_); all_goals first | (refine hR1 _ ?_; clear hR1 R1) | omega | rfl | decide | assumption | (simp [roomFor, maxLen, by49, by4, by27, by3] <;> omega))
        refine opsA_cons fun R1 hR1 => ?_
        simp only [go_sem, Nat.reduceBEq, Nat.reduceLT, Nat.reduceEqDiff, Nat.reduceAdd, Int.reduceLE, Int.reduceLT, Int.reduceNeg, Int.reduceEq, Int.reduceToNat, reduceCtorEq]
        repeat' with_reducible refine And.intro ?_ ?_
        all_goals try (first | omega | assumption | (intro _; omega))
        first | refine ⟨_, _, rfl, .inr (CallE.ctr ok (search_ctr' (objsAt t i j) ((t.getD i default).of.getD j default) hL (objsAt_sorted t j (by omega))) (by first | rfl | (simp [argsV, toVs, contentV, toV, ty60, ty65, ty42, ty49, ty33, ty32, ty34, ty3, ty4, ty22, ty27, ty28, ty30, ty25, ty2, List.length_map, List.take_of_length_le])) ?_)⟩ | refine ⟨_, _, rfl, .inr ⟨fun _ => CallE.ctr ok (search_ctr' (objsAt t i j) ((t.getD i default).of.getD j default) hL (objsAt_sorted t j (by omega))) (by first | rfl | (simp [argsV, toVs, contentV, toV, ty60, ty65, ty42, ty49, ty33, ty32, ty34, ty3, ty4, ty22, ty27, ty28, ty30, ty25, ty2, List.length_map, List.take_of_length_le])) ?_, ?_⟩⟩
        simp only [go_sem, Nat.reduceBEq, Nat.reduceLT, Nat.reduceEqDiff, Nat.reduceAdd, Int.reduceLE, Int.reduceLT, Int.reduceNeg, Int.reduceEq, Int.reduceToNat, reduceCtorEq]
        repeat' with_reducible refine And.intro ?_ ?_
        all_goals first | (refine hR1 _ ?_; clear hR1 R1) | omega | rfl | decide | assumption | (simp [roomFor, maxLen, by49, by4, by27, by3] <;> omega)
        iterate 5 (refine opsA_cons fun R1 hR1 => ?_; simp only [go_sem, Nat.reduceBEq, Nat.reduceLT, Nat.reduceEqDiff, Nat.reduceAdd, Int.reduceLE, Int.reduceLT, Int.reduceNeg, Int.reduceEq, Int.reduceToNat, reduceCtorEq]; (repeat' with_reducible refine And.intro ?_ ?_); all_goals first | (refine hR1 _ ?_; clear hR1 R1) | omega | rfl | decide | assumption | (simp [roomFor, maxLen, by49, by4, by27, by3] <;> omega))
        refine opsA_nil (hR _ ?_)
        clear hR R
        try simp only [go_sem, Nat.reduceBEq]
        refine thenK.normal ?_
        refine SA.seq ?_
        refine SA.region ok (by kernel_rfl) [0, 5, 8, 9, 17, 18, 24, 25, 26, 36] ?_
        intro R hR
        simp only [go_sem, strip]
        iterate 1 (refine opsA_cons fun R1 hR1 => ?_; simp only [go_sem, Nat.reduceBEq, Nat.reduceLT, Nat.reduceEqDiff, Nat.reduceAdd, Int.reduceLE, Int.reduceLT, Int.reduceNeg, Int.reduceEq, Int.reduceToNat, reduceCtorEq]; (repeat' with_reducible refine And.intro ?_ ?_); all_goals first | (refine hR1 _ ?_; clear hR1 R1) | omega | rfl | decide | assumption | (simp [roomFor, maxLen, by49, by4, by27, by3] <;> omega))
        refine opsA_nil (hR _ ?_)
        clear hR R
        try simp only [go_sem, Nat.reduceBEq]
        refine thenK.normal ?_
        refine SA.cond rfl ?_ ?_
        · intro hb4
          have hlo := lo_lt hb4
          refine SA.region ok (by kernel_rfl) [0, 5, 17, 18, 24, 25, 26] ?_
          intro R hR
          simp only [go_sem, strip]
          iterate 14 (refine opsA_cons fun R1 hR1 => ?_; simp only [go_sem, Nat.reduceBEq, Nat.reduceLT, Nat.reduceEqDiff, Nat.reduceAdd, Int.reduceLE, Int.reduceLT, Int.reduceNeg, Int.reduceEq, Int.reduceToNat, reduceCtorEq]; (repeat' with_reducible refine And.intro ?_ ?_); all_goals first | (refine hR1 _ ?_; clear hR1 R1) | omega | rfl | decide | assumption | (simp [roomFor, maxLen, by49, by4, by27, by3] <;> omega))
          refine opsA_nil (hR _ ?_)
          clear hR R
          try simp only [go_sem, Nat.reduceBEq]
          refine blockK.normal ?_
          refine thenK.normal ?_
          refine SA.region ok (by kernel_rfl) [0, 5, 17, 18, 24, 25, 26] ?_
          intro R hR
          simp only [go_sem, strip]
          iterate 2 (refine opsA_cons fun R1 hR1 => ?_; simp only [go_sem, Nat.reduceBEq, Nat.reduceLT, Nat.reduceEqDiff, Nat.reduceAdd, Int.reduceLE, Int.reduceLT, Int.reduceNeg, Int.reduceEq, Int.reduceToNat, reduceCtorEq]; (repeat' with_reducible refine And.intro ?_ ?_); all_goals first | (refine hR1 _ ?_; clear hR1 R1) | omega | rfl | decide | assumption | (simp [roomFor, maxLen, by49, by4, by27, by3] <;> omega))
          refine opsA_nil (hR _ ?_)
          clear hR R
          try simp only [go_sem, Nat.reduceBEq]
          have e1 : (objsAt t i (j + 1)) = (objsAt t i j).set (lo (objsAt t i j) ((t.getD i default).of.getD j default)) (orW ((objsAt t i j).getD (lo (objsAt t i j) ((t.getD i default).of.getD j default)) default) ((t.getD i default).of.getD j default)) := by rw [objsAt_succ t hjl, put, hb4]; rfl
          have e2 : (objsAt t i (j + 1)).length = (objsAt t i j).length := by rw [e1]; simp
          refine loopK.normal ((t.getD i default).of.length - (j + 1)) _ (by omega) ((St.le.cut 1 rfl).trans (St.le.of_eq ?_)) ⟨j + 1, rfl, hjl, rfl⟩
          rw [e2, e1, wrap_succ hjl holm]
          simp only [getD_map Access.v _ hlo, List.map_set, Bool.cond_true_left]
          rfl
        · intro hb4
          skip
          refine SA.region ok (by kernel_rfl) [0, 5, 17, 18, 24, 25, 26] ?_
          intro R hR
          simp only [go_sem, strip]
          iterate 4 (refine opsA_cons fun R1 hR1 => ?_; simp only [go_sem, Nat.reduceBEq, Nat.reduceLT, Nat.reduceEqDiff, Nat.reduceAdd, Int.reduceLE, Int.reduceLT, Int.reduceNeg, Int.reduceEq, Int.reduceToNat, reduceCtorEq]; (repeat' with_reducible refine And.intro ?_ ?_); all_goals first | (refine hR1 _ ?_; clear hR1 R1) | omega | rfl | decide | assumption | (simp [roomFor, maxLen, by49, by4, by27, by3] <;> omega))
          refine opsA_cons fun R1 hR1 => ?_
          simp only [go_sem, Nat.reduceBEq, Nat.reduceLT, Nat.reduceEqDiff, Nat.reduceAdd, Int.reduceLE, Int.reduceLT, Int.reduceNeg, Int.reduceEq, Int.reduceToNat, reduceCtorEq]
          repeat' with_reducible refine And.intro ?_ ?_
          all_goals try (first | omega | assumption | (intro _; omega))
          refine ⟨_, _, rfl, .inr (insertE (i := 0) (j := 2) rfl rfl (by decide) (by simp) (lo_le _ _) (by omega) ?_)⟩
          simp only [go_sem, Nat.reduceBEq, Nat.reduceLT, Nat.reduceEqDiff, Nat.reduceAdd, Int.reduceLE, Int.reduceLT, Int.reduceNeg, Int.reduceEq, Int.reduceToNat, reduceCtorEq]
          repeat' with_reducible refine And.intro ?_ ?_
          all_goals first | (refine hR1 _ ?_; clear hR1 R1) | omega | rfl | decide | assumption | (simp [roomFor, maxLen, by49, by4, by27, by3] <;> omega)
          iterate 1 (refine opsA_cons fun R1 hR1 => ?_; simp only [go_sem, Nat.reduceBEq, Nat.reduceLT, Nat.reduceEqDiff, Nat.reduceAdd, Int.reduceLE, Int.reduceLT, Int.reduceNeg, Int.reduceEq, Int.reduceToNat, reduceCtorEq]; (repeat' with_reducible refine And.intro ?_ ?_); all_goals first | (refine hR1 _ ?_; clear hR1 R1) | omega | rfl | decide | assumption | (simp [roomFor, maxLen, by49, by4, by27, by3] <;> omega))
          refine opsA_nil (hR _ ?_)
          clear hR R
          try simp only [go_sem, Nat.reduceBEq]
          refine blockK.normal ?_
          refine thenK.normal ?_
          refine SA.region ok (by kernel_rfl) [0, 5, 17, 18, 24, 25, 26] ?_
          intro R hR
          simp only [go_sem, strip]
          iterate 2 (refine opsA_cons fun R1 hR1 => ?_; simp only [go_sem, Nat.reduceBEq, Nat.reduceLT, Nat.reduceEqDiff, Nat.reduceAdd, Int.reduceLE, Int.reduceLT, Int.reduceNeg, Int.reduceEq, Int.reduceToNat, reduceCtorEq]; (repeat' with_reducible refine And.intro ?_ ?_); all_goals first | (refine hR1 _ ?_; clear hR1 R1) | omega | rfl | decide | assumption | (simp [roomFor, maxLen, by49, by4, by27, by3] <;> omega))
          refine opsA_nil (hR _ ?_)
          clear hR R
          try simp only [go_sem, Nat.reduceBEq]
          have e1 : (objsAt t i (j + 1)) = (objsAt t i j).take (lo (objsAt t i j) ((t.getD i default).of.getD j default)) ++ [(t.getD i default).of.getD j default] ++ (objsAt t i j).drop (lo (objsAt t i j) ((t.getD i default).of.getD j default)) := by rw [objsAt_succ t hjl, put, hb4]; rfl
          have e2 : (objsAt t i (j + 1)).length = (objsAt t i j).length + 1 := by
            rw [e1]
            have := lo_le (objsAt t i j) ((t.getD i default).of.getD j default)
            simp only [List.length_append, List.length_take, List.length_drop, List.length_cons, List.length_nil]; omega
          refine loopK.normal ((t.getD i default).of.length - (j + 1)) _ (by omega) ((St.le.cut 1 rfl).trans (St.le.of_eq ?_)) ⟨j + 1, rfl, hjl, rfl⟩
          rw [e2, e1, wrap_succ hjl holm]
          simp only [List.map_append, List.map_take, List.map_drop, List.map_cons, List.map_nil]
          rfl
      · intro hb3
        simp only [decide_eq_true_eq, decide_eq_false_iff_not, Int.not_lt, Int.not_le] at hb3
        refine SA.exit ?_
        refine thenK.exit ?_
        refine loopK.exit ?_
        refine blockK.hit ?_
        refine blockK.normal ?_
        refine thenK.normal ?_
        refine SA.region ok (by kernel_rfl) [0, 5, 17, 18] ?_
        intro R hR
        simp only [go_sem, strip]
        iterate 2 (refine opsA_cons fun R1 hR1 => ?_; simp only [go_sem, Nat.reduceBEq, Nat.reduceLT, Nat.reduceEqDiff, Nat.reduceAdd, Int.reduceLE, Int.reduceLT, Int.reduceNeg, Int.reduceEq, Int.reduceToNat, reduceCtorEq]; (repeat' with_reducible refine And.intro ?_ ?_); all_goals first | (refine hR1 _ ?_; clear hR1 R1) | omega | rfl | decide | assumption | (simp [roomFor, maxLen, by49, by4, by27, by3] <;> omega))
        refine opsA_nil (hR _ ?_)
        clear hR R
        try simp only [go_sem, Nat.reduceBEq]
        have hjj : j = (t.getD i default).of.length := by omega
        have e1 : objsAt t i j = objsTo t (i + 1) := by rw [objsTo_succ t hlt, objsAt, hjj, List.take_length]
        refine loopK.normal (t.length - (i + 1)) _ (by omega) (St.le.of_eq (by rw [e1, wrap_succ hlt ht])) ⟨i + 1, rfl, ⟨hlt, h256⟩, rfl⟩
    · intro hb2
      simp only [decide_eq_true_eq, decide_eq_false_iff_not, Int.not_lt, Int.not_le] at hb2
      refine SA.exit ?_
      refine thenK.exit ?_
      refine loopK.exit ?_
      refine blockK.hit ?_
      refine thenK.normal ?_
      refine SA.seq ?_
      refine SA.region ok (by kernel_rfl) [2, 3] ?_
      intro R hR
      simp only [go_sem, strip]
      iterate 3 (refine opsA_cons fun R1 hR1 => ?_; simp only [go_sem, Nat.reduceBEq, Nat.reduceLT, Nat.reduceEqDiff, Nat.reduceAdd, Int.reduceLE, Int.reduceLT, Int.reduceNeg, Int.reduceEq, Int.reduceToNat, reduceCtorEq]; (repeat' with_reducible refine And.intro ?_ ?_); all_goals first | (refine hR1 _ ?_; clear hR1 R1) | omega | rfl | decide | assumption | (simp [roomFor, maxLen, by49, by4, by27, by3] <;> omega))
      refine opsA_nil (hR _ ?_)
      clear hR R
      try simp only [go_sem, Nat.reduceBEq]
      refine thenK.normal ?_
      refine SA.ret ?_
      refine ctrK.ret ?_
      simp only [resA, evalO, resV, backK, outE, toV, ty4, ty3, List.lookup_cons, List.lookup_nil, beq_self_eq_true, forall_const, true_and, and_true]
      simp only [go_sem, Nat.reduceBEq, Nat.reduceLT, Nat.reduceEqDiff, Nat.reduceAdd, Int.reduceLE, Int.reduceLT, Int.reduceNeg, Int.reduceEq, Int.reduceToNat, reduceCtorEq]
      have : i = t.length := by omega
      subst this
      refine ⟨⟨rfl, ?_, by simp⟩, rfl, by rw [hb1]⟩
      simp [objs, hb1, List.take_of_length_le]

end Go.Eng.Try
