/- A part of the proof: walks through the program's functions, and what they compute. -/
import Derived.Test.YtipodgpcbkoopaaE3
import Derived.Test.YtipodgpcbkoopaaM1
import Derived.Test.YtipodgpcbkoopaaE4
import Derived.Test.YtipodgpcbkoopaaGPlC
namespace Go.Eng.Try
open Go.RowKit Go.Eng
set_option linter.unusedSimpArgs false
set_option linter.unusedVariables false

theorem gates_succ (n : Nat) : gates (n + 1) = gates n ++ [takingE (n : Int) 3] := by
  unfold gates
  rw [List.range_succ, List.map_append]; rfl
theorem gates_len (n : Nat) : (gates n).length = n := by simp [gates]
theorem gates_v (n : Nat) : ((gates n).map Event.v).length = n := by simp [gates]
theorem take_all {l : List V} {n : Nat} (h : n = l.length) : List.take n l = l := by rw [h]; exact List.take_length

attribute [local go_sem] argsV contentV fromVs Option.getD_some St.keep List.filterMap_cons List.filterMap_nil Option.map_some Option.map_none opG opQ opB newEs outE CallStepB guardA putK putE pureA evalO evalL constE pickA capsE capsV loadA fieldAddrA indexAddrA indexA sliceA evalOptI builtinA binA plainA shiftA eqA nilA arith shifts effA storeA appendA appB freshA St.kill Tm.kill E.kill E.killL Obj.kill elemsOf evalVs buildA okAt toV fromV zeroE V.get V.put V.sub V.setSub args0 CallStep CallStepQ i64min i64max u64min u64max u32min u32max u8min u8max Nat.zero_add List.length_map List.lookup_cons List.lookup_nil List.getElem?_cons_zero List.getElem?_cons_succ List.getElem?_toArray List.getElem?_nil Option.bind_some Option.bind_none List.size_toArray List.length_cons List.length_nil List.nil_append List.append_nil List.cons_append List.getD_cons_zero List.getD_cons_succ List.map_cons List.map_nil List.set_cons_zero List.set_cons_succ true_and and_true forall_const true_implies Bool.true_and Bool.and_true Bool.not_true Bool.not_false Bool.false_and Bool.and_false beq_self_eq_true Bool.true_beq Bool.false_beq beq_true beq_false eq_self false_implies V.toInt_int V.toBool_bool V.toList_list V.toList_agg V.toStr_str V.deref_ref if_true if_false Bool.false_eq_true Option.isSome_none Option.isSome_some Bool.false_or Bool.true_or Bool.or_false Bool.or_true cond_true cond_false implies_true and_self imp_self ty22 ty25 ty3 ty4 ty81 ty39 ty40 ty42 ty37 ty2 ty23 ty24 ty46 ty68 ty65 ty70 ty69 ty90 ty77 ty59 ty100 ty75 ty98 ty71 ty93 ty64 ty85 concat_at List.length_range zero39 z39 z3 z4 z70 z68 z42 z40 z37 z2 zero40 z69 z90 zero70 zero69 zero90 zero68 zero42 Int.toNat_natCast Int.natCast_zero Event.v0 Event.v3 Event.v5 Event.v7 Event.v8 Access.v0 Access.v1 Access.v2 beq_acc Edge.v0 Edge.v1 Edge.v2 Edge.v3 heldOf_len locksTo_len heldsTo_len nowL_len ringsV_len Kind.v0 Kind.v1 Kind.v2 Kind.v3 beq_kind z100 zero100 z77 zero77
-- scarab/scarablaw25.GoodlockGate
theorem lawGate_ctr (t : List Event) (ht : t.length ≤ maxLen) (h6 : ∀ e ∈ t, e.touch.length = 6) : Ctr Go.Proofs.Try.prog tab 5 [22] [4] [.list (t.map Event.v)] [.bool true] := by
  refine Ctr.body ok Go.Proofs.Try.func5 rfl rfl 108 rfl [.tmp 2] rfl (by simp [fromVs]) ?_
  simp only [fromVs, fromV, args0, V.toList_list, V.toInt_int, V.toBool_bool, Nat.zero_add, Nat.reduceAdd, ty22]
  refine SA.seq ?_
  refine SA.region ok (by kernel_rfl) [0] ?_
  intro R hR
  simp only [go_sem, strip]
  iterate 1 (refine opsA_cons fun R1 hR1 => ?_; simp only [go_sem, seval, -List.reduceReplicate]; (repeat' with_reducible refine And.intro ?_ ?_); all_goals first | (refine hR1 _ ?_; clear hR1 R1) | omega | rfl | decide | assumption | (intro _; omega) | (simp; done) | (simp; omega) | (simp [roomFor, maxLen, by39, by3, by68, by70, by23, by100] <;> omega))
  refine opsA_nil (hR _ ?_)
  clear hR R
  try simp only [go_sem, Nat.reduceBEq]
  refine thenK.normal ?_
  refine SA.seq ?_
  refine SA.seq ?_
  refine SA.region ok (by kernel_rfl) [0, 23] ?_
  intro R hR
  simp only [go_sem, strip]
  iterate 1 (refine opsA_cons fun R1 hR1 => ?_; simp only [go_sem, seval, -List.reduceReplicate]; (repeat' with_reducible refine And.intro ?_ ?_); all_goals first | (refine hR1 _ ?_; clear hR1 R1) | omega | rfl | decide | assumption | (intro _; omega) | (simp; done) | (simp; omega) | (simp [roomFor, maxLen, by39, by3, by68, by70, by23, by100] <;> omega))
  refine opsA_cons fun R1 hR1 => ?_
  simp only [go_sem, seval, -List.reduceReplicate]
  repeat' with_reducible refine And.intro ?_ ?_
  all_goals try (first | omega | assumption | (intro _; omega))
  first | refine ⟨_, _, rfl, .inl ⟨_, CallQ.ctr ok (refCheck_ctr t ht h6) (by first | rfl | (simp [argsV, toVs, contentV, toV, capsV, capsE, ty22, ty25, ty3, ty4, ty81, ty39, ty40, ty42, ty37, ty2, ty23, ty24, ty46, ty68, ty65, ty70, ty69, ty90, ty77, ty59, ty100, ty75, ty98, ty71, ty93, ty64, ty85, List.length_map, List.take_of_length_le])) rfl, ?_⟩⟩ | refine ⟨_, _, rfl, .inl ⟨_, fun hg => CallQ.ctr ok (refCheck_ctr t ht h6) (by first | rfl | (simp [argsV, toVs, contentV, toV, capsV, capsE, ty22, ty25, ty3, ty4, ty81, ty39, ty40, ty42, ty37, ty2, ty23, ty24, ty46, ty68, ty65, ty70, ty69, ty90, ty77, ty59, ty100, ty75, ty98, ty71, ty93, ty64, ty85, List.length_map, List.take_of_length_le])) rfl, ?_⟩⟩
  simp only [go_sem, seval, -List.reduceReplicate]
  repeat' with_reducible refine And.intro ?_ ?_
  all_goals first | (refine hR1 _ ?_; clear hR1 R1) | omega | rfl | decide | assumption | (intro _; omega) | (simp; done) | (simp; omega) | (simp [roomFor, maxLen, by39, by3, by68, by70, by23, by100] <;> omega)
  iterate 6 (refine opsA_cons fun R1 hR1 => ?_; simp only [go_sem, seval, -List.reduceReplicate]; (repeat' with_reducible refine And.intro ?_ ?_); all_goals first | (refine hR1 _ ?_; clear hR1 R1) | omega | rfl | decide | assumption | (intro _; omega) | (simp; done) | (simp; omega) | (simp [roomFor, maxLen, by39, by3, by68, by70, by23, by100] <;> omega))
  refine opsA_nil (hR _ ?_)
  clear hR R
  try simp only [go_sem, Nat.reduceBEq]
  refine thenK.normal ?_
  refine SA.cond rfl ?_ ?_
  · intro hb1
    skip
    refine SA.seq ?_
    refine SA.region ok (by kernel_rfl) [2] ?_
    intro R hR
    simp only [go_sem, strip]
    refine opsA_cons fun R1 hR1 => ?_
    simp only [go_sem, seval, -List.reduceReplicate]
    repeat' with_reducible refine And.intro ?_ ?_
    all_goals try (first | omega | assumption | (intro _; omega))
    first | refine ⟨_, _, rfl, .inl ⟨_, CallQ.ctr ok (small_ctr) (by first | rfl | (simp [argsV, toVs, contentV, toV, capsV, capsE, ty22, ty25, ty3, ty4, ty81, ty39, ty40, ty42, ty37, ty2, ty23, ty24, ty46, ty68, ty65, ty70, ty69, ty90, ty77, ty59, ty100, ty75, ty98, ty71, ty93, ty64, ty85, List.length_map, List.take_of_length_le])) rfl, ?_⟩⟩ | refine ⟨_, _, rfl, .inl ⟨_, fun hg => CallQ.ctr ok (small_ctr) (by first | rfl | (simp [argsV, toVs, contentV, toV, capsV, capsE, ty22, ty25, ty3, ty4, ty81, ty39, ty40, ty42, ty37, ty2, ty23, ty24, ty46, ty68, ty65, ty70, ty69, ty90, ty77, ty59, ty100, ty75, ty98, ty71, ty93, ty64, ty85, List.length_map, List.take_of_length_le])) rfl, ?_⟩⟩
    simp only [go_sem, seval, -List.reduceReplicate]
    repeat' with_reducible refine And.intro ?_ ?_
    all_goals first | (refine hR1 _ ?_; clear hR1 R1) | omega | rfl | decide | assumption | (intro _; omega) | (simp; done) | (simp; omega) | (simp [roomFor, maxLen, by39, by3, by68, by70, by23, by100] <;> omega)
    iterate 1 (refine opsA_cons fun R1 hR1 => ?_; simp only [go_sem, seval, -List.reduceReplicate]; (repeat' with_reducible refine And.intro ?_ ?_); all_goals first | (refine hR1 _ ?_; clear hR1 R1) | omega | rfl | decide | assumption | (intro _; omega) | (simp; done) | (simp; omega) | (simp [roomFor, maxLen, by39, by3, by68, by70, by23, by100] <;> omega))
    refine opsA_nil (hR _ ?_)
    clear hR R
    try simp only [go_sem, Nat.reduceBEq]
    refine thenK.normal ?_
    refine SA.ret ?_
    refine thenK.ret ?_
    refine ctrK.ret ?_
    simp only [resA, evalO, resV, backK, outE, toV, ty4, ty3, List.lookup_cons, List.lookup_nil, beq_self_eq_true, forall_const, true_and, and_true]
    simp [flatTy, ty4]
  · intro hb1
    have hc : check t = 0 ∧ t.length ≤ 250 := by
      by_cases hc : check t = 0
      · simp [hc] at hb1; exact ⟨hc, by omega⟩
      · simp [hc] at hb1
    obtain ⟨hc, h250⟩ := hc
    have hr := check_right hc
    refine SA.skip ?_
    refine thenK.normal ?_
    refine SA.seq ?_
    refine SA.region ok (by kernel_rfl) [0, 3] ?_
    intro R hR
    simp only [go_sem, strip]
    iterate 1 (refine opsA_cons fun R1 hR1 => ?_; simp only [go_sem, seval, -List.reduceReplicate]; (repeat' with_reducible refine And.intro ?_ ?_); all_goals first | (refine hR1 _ ?_; clear hR1 R1) | omega | rfl | decide | assumption | (intro _; omega) | (simp; done) | (simp; omega) | (simp [roomFor, maxLen, by39, by3, by68, by70, by23, by100] <;> omega))
    refine opsA_nil (hR _ ?_)
    clear hR R
    try simp only [go_sem, Nat.reduceBEq]
    refine thenK.normal ?_
    refine SA.seq ?_
    refine SA.seq ?_
    refine SA.region ok (by kernel_rfl) [0, 3, 25, 26, 27] ?_
    intro R hR
    simp only [go_sem, strip]
    iterate 3 (refine opsA_cons fun R1 hR1 => ?_; simp only [go_sem, seval, -List.reduceReplicate]; (repeat' with_reducible refine And.intro ?_ ?_); all_goals first | (refine hR1 _ ?_; clear hR1 R1) | omega | rfl | decide | assumption | (intro _; omega) | (simp; done) | (simp; omega) | (simp [roomFor, maxLen, by39, by3, by68, by70, by23, by100] <;> omega))
    refine opsA_nil (hR _ ?_)
    clear hR R
    try simp only [go_sem, Nat.reduceBEq]
    refine thenK.normal ?_
    refine SA.block ?_
    refine SA.weaken (St.le.of_eq (by first | rfl | simp)) (SA.loop (fun n τ => ∃ (i : Nat), n = t.length - i ∧ (i ≤ t.length ∧ ∀ k, k < i → freeOf (t.getD k default)) ∧ τ = { tm := [(0, true, .fs 42 (t.map Event.v) false), (3, true, .nilsl), (25, true, .fs 42 (t.map Event.v) false), (26, true, .int .i64 t.length), (27, true, .int .i64 i)], ob := [], out := [], nt := 108 }) (t.length) ⟨0, rfl, ⟨Nat.zero_le _, fun k hk => by omega⟩, rfl⟩ ?_)
    rintro n τ ⟨i, hn, ⟨hi, hf⟩, rfl⟩
    refine SA.seq ?_
    refine SA.region ok (by kernel_rfl) [0, 3, 25, 26, 27, 28] ?_
    intro R hR
    simp only [go_sem, strip]
    iterate 1 (refine opsA_cons fun R1 hR1 => ?_; simp only [go_sem, seval, -List.reduceReplicate]; (repeat' with_reducible refine And.intro ?_ ?_); all_goals first | (refine hR1 _ ?_; clear hR1 R1) | omega | rfl | decide | assumption | (intro _; omega) | (simp; done) | (simp; omega) | (simp [roomFor, maxLen, by39, by3, by68, by70, by23, by100] <;> omega))
    refine opsA_nil (hR _ ?_)
    clear hR R
    try simp only [go_sem, Nat.reduceBEq]
    refine thenK.normal ?_
    refine SA.seq ?_
    refine SA.cond rfl ?_ ?_
    · intro hb2
      try simp only [decide_eq_true_eq, decide_eq_false_iff_not] at hb2
      refine SA.skip ?_
      refine thenK.normal ?_
      refine SA.seq ?_
      refine SA.block ?_
      refine SA.seq ?_
      have hlt : i < t.length := by omega
      have h6i := h6 _ (getD_mem t hlt)
      have hri := List.all_eq_true.1 hr _ (getD_mem t hlt)
      have hto := (right_facts h6i hri).2.2.2.1
      have hto1 := (right_facts h6i hri).2.2.1
      refine SA.region ok (by kernel_rfl) [0, 3, 5, 25, 26, 27] ?_
      intro R hR
      simp only [go_sem, strip]
      iterate 4 (refine opsA_cons fun R1 hR1 => ?_; simp only [go_sem, seval, -List.reduceReplicate, getD_map Event.v t hlt]; (repeat' with_reducible refine And.intro ?_ ?_); all_goals first | (refine hR1 _ ?_; clear hR1 R1) | omega | rfl | decide | assumption | (intro _; omega) | (simp; done) | (simp; omega) | (simp [roomFor, maxLen, by39, by3, by68, by70, by23, by100] <;> omega))
      refine opsA_nil (hR _ ?_)
      clear hR R
      try simp only [go_sem, Nat.reduceBEq]
      refine thenK.normal ?_
      refine SA.seq ?_
      refine SA.region ok (by kernel_rfl) [0, 3, 5, 6, 25, 26, 27] ?_
      intro R hR
      simp only [go_sem, strip]
      iterate 1 (refine opsA_cons fun R1 hR1 => ?_; simp only [go_sem, seval, -List.reduceReplicate]; (repeat' with_reducible refine And.intro ?_ ?_); all_goals first | (refine hR1 _ ?_; clear hR1 R1) | omega | rfl | decide | assumption | (intro _; omega) | (simp; done) | (simp; omega) | (simp [roomFor, maxLen, by39, by3, by68, by70, by23, by100] <;> omega))
      refine opsA_nil (hR _ ?_)
      clear hR R
      try simp only [go_sem, Nat.reduceBEq]
      refine thenK.normal ?_
      refine SA.block ?_
      refine SA.weaken (St.le.of_eq (by first | rfl | simp)) (SA.loop (fun n τ => ∃ (j : Nat), n = 6 - j ∧ ((j : Int) ≤ (t.getD i default).touches ∧ ∀ k : Nat, k < j → ¬ (((t.getD i default).touch.getD k default).kind = 2 ∧ ((t.getD i default).touch.getD k default).num = 3)) ∧ τ = { tm := [(0, true, .fs 42 (t.map Event.v) false), (3, true, .nilsl), (5, true, .ptr 0 [] 42), (6, true, .int .i64 j), (25, true, .fs 42 (t.map Event.v) false), (26, true, .int .i64 t.length), (27, true, .int .i64 i)], ob := [.var 42 (.data 42 (t.getD i default).v)], out := [], nt := 108 }) (6) ⟨0, rfl, ⟨by omega, fun k hk => by omega⟩, rfl⟩ ?_)
      rintro n τ ⟨j, hn, ⟨hj, hfj⟩, rfl⟩
      refine SA.seq ?_
      refine SA.seq ?_
      refine SA.region ok (by kernel_rfl) [0, 3, 5, 6, 25, 26, 27, 34] ?_
      intro R hR
      simp only [go_sem, strip]
      iterate 4 (refine opsA_cons fun R1 hR1 => ?_; simp only [go_sem, seval, -List.reduceReplicate]; (repeat' with_reducible refine And.intro ?_ ?_); all_goals first | (refine hR1 _ ?_; clear hR1 R1) | omega | rfl | decide | assumption | (intro _; omega) | (simp; done) | (simp; omega) | (simp [roomFor, maxLen, by39, by3, by68, by70, by23, by100] <;> omega))
      refine opsA_nil (hR _ ?_)
      clear hR R
      try simp only [go_sem, Nat.reduceBEq]
      refine thenK.normal ?_
      refine SA.cond rfl ?_ ?_
      · intro hb3
        try simp only [decide_eq_true_eq, decide_eq_false_iff_not] at hb3
        refine SA.skip ?_
        refine thenK.normal ?_
        refine SA.seq ?_
        refine SA.block ?_
        refine SA.seq ?_
        have hj6 : j < 6 := by omega
        have hjt : j < (t.getD i default).touch.length := by omega
        refine SA.region ok (by kernel_rfl) [0, 3, 5, 6, 25, 26, 27, 50] ?_
        intro R hR
        simp only [go_sem, strip]
        iterate 14 (refine opsA_cons fun R1 hR1 => ?_; simp only [go_sem, seval, -List.reduceReplicate, getD_map Access.v _ hjt]; (repeat' with_reducible refine And.intro ?_ ?_); all_goals first | (refine hR1 _ ?_; clear hR1 R1) | omega | rfl | decide | assumption | (intro _; omega) | (simp; done) | (simp; omega) | (simp [roomFor, maxLen, by39, by3, by68, by70, by23, by100] <;> omega))
        refine opsA_nil (hR _ ?_)
        clear hR R
        try simp only [go_sem, Nat.reduceBEq]
        refine thenK.normal ?_
        refine SA.cond rfl ?_ ?_
        · intro hb4
          skip
          refine SA.seq ?_
          refine SA.region ok (by kernel_rfl) [2] ?_
          intro R hR
          simp only [go_sem, strip]
          refine opsA_cons fun R1 hR1 => ?_
          simp only [go_sem, seval, -List.reduceReplicate]
          repeat' with_reducible refine And.intro ?_ ?_
          all_goals try (first | omega | assumption | (intro _; omega))
          first | refine ⟨_, _, rfl, .inl ⟨_, CallQ.ctr ok (small_ctr) (by first | rfl | (simp [argsV, toVs, contentV, toV, capsV, capsE, ty22, ty25, ty3, ty4, ty81, ty39, ty40, ty42, ty37, ty2, ty23, ty24, ty46, ty68, ty65, ty70, ty69, ty90, ty77, ty59, ty100, ty75, ty98, ty71, ty93, ty64, ty85, List.length_map, List.take_of_length_le])) rfl, ?_⟩⟩ | refine ⟨_, _, rfl, .inl ⟨_, fun hg => CallQ.ctr ok (small_ctr) (by first | rfl | (simp [argsV, toVs, contentV, toV, capsV, capsE, ty22, ty25, ty3, ty4, ty81, ty39, ty40, ty42, ty37, ty2, ty23, ty24, ty46, ty68, ty65, ty70, ty69, ty90, ty77, ty59, ty100, ty75, ty98, ty71, ty93, ty64, ty85, List.length_map, List.take_of_length_le])) rfl, ?_⟩⟩
          simp only [go_sem, seval, -List.reduceReplicate]
          repeat' with_reducible refine And.intro ?_ ?_
          all_goals first | (refine hR1 _ ?_; clear hR1 R1) | omega | rfl | decide | assumption | (intro _; omega) | (simp; done) | (simp; omega) | (simp [roomFor, maxLen, by39, by3, by68, by70, by23, by100] <;> omega)
          iterate 1 (refine opsA_cons fun R1 hR1 => ?_; simp only [go_sem, seval, -List.reduceReplicate]; (repeat' with_reducible refine And.intro ?_ ?_); all_goals first | (refine hR1 _ ?_; clear hR1 R1) | omega | rfl | decide | assumption | (intro _; omega) | (simp; done) | (simp; omega) | (simp [roomFor, maxLen, by39, by3, by68, by70, by23, by100] <;> omega))
          refine opsA_nil (hR _ ?_)
          clear hR R
          try simp only [go_sem, Nat.reduceBEq]
          refine thenK.normal ?_
          refine SA.ret ?_
          refine blockK.ret ?_
          refine thenK.ret ?_
          refine loopK.ret ?_
          refine blockK.ret ?_
          refine blockK.ret ?_
          refine thenK.ret ?_
          refine loopK.ret ?_
          refine blockK.ret ?_
          refine thenK.ret ?_
          refine ctrK.ret ?_
          simp only [resA, evalO, resV, backK, outE, toV, ty4, ty3, List.lookup_cons, List.lookup_nil, beq_self_eq_true, forall_const, true_and, and_true]
          simp [flatTy, ty4]
        · intro hb4
          have hfree : ¬ ((t.getD i default).touch.getD j default).kind = 2 ∨ ¬ ((t.getD i default).touch.getD j default).num = 3 := by
            by_cases hk : ((t.getD i default).touch.getD j default).kind = 2
            · rw [hk] at hb4; right; intro hn; rw [hn] at hb4; simp at hb4
            · exact .inl hk
          refine SA.skip ?_
          refine blockK.normal ?_
          refine thenK.normal ?_
          refine SA.region ok (by kernel_rfl) [0, 3, 5, 6, 25, 26, 27] ?_
          intro R hR
          simp only [go_sem, strip]
          iterate 3 (refine opsA_cons fun R1 hR1 => ?_; simp only [go_sem, seval, -List.reduceReplicate]; (repeat' with_reducible refine And.intro ?_ ?_); all_goals first | (refine hR1 _ ?_; clear hR1 R1) | omega | rfl | decide | assumption | (intro _; omega) | (simp; done) | (simp; omega) | (simp [roomFor, maxLen, by39, by3, by68, by70, by23, by100] <;> omega))
          refine opsA_nil (hR _ ?_)
          clear hR R
          try simp only [go_sem, Nat.reduceBEq]
          refine loopK.normal (6 - (j + 1)) _ (by omega) (St.le.of_eq (by rw [wrap_succ hj6 (by decide : 6 ≤ maxLen)])) ⟨j + 1, rfl, ⟨by omega, fun k hk => ?_⟩, rfl⟩
          by_cases hkj : k = j
          · subst hkj
            rintro ⟨q1, q2⟩
            rcases hfree with h | h
            · exact h q1
            · exact h q2
          · exact hfj k (by omega)
      · intro hb3
        try simp only [decide_eq_true_eq, decide_eq_false_iff_not] at hb3
        refine SA.exit ?_
        refine thenK.exit ?_
        refine loopK.exit ?_
        refine blockK.hit ?_
        refine blockK.normal ?_
        refine thenK.normal ?_
        refine SA.region ok (by kernel_rfl) [0, 3, 25, 26, 27] ?_
        intro R hR
        simp only [go_sem, strip]
        iterate 2 (refine opsA_cons fun R1 hR1 => ?_; simp only [go_sem, seval, -List.reduceReplicate]; (repeat' with_reducible refine And.intro ?_ ?_); all_goals first | (refine hR1 _ ?_; clear hR1 R1) | omega | rfl | decide | assumption | (intro _; omega) | (simp; done) | (simp; omega) | (simp [roomFor, maxLen, by39, by3, by68, by70, by23, by100] <;> omega))
        refine opsA_nil (hR _ ?_)
        clear hR R
        try simp only [go_sem, Nat.reduceBEq]
        have hfi : freeOf (t.getD i default) := fun k hk => hfj k (by omega)
        refine loopK.normal (t.length - (i + 1)) _ (by omega) ((St.le.cut 0 rfl).trans (St.le.of_eq (by rw [wrap_succ hlt ht]; rfl))) ⟨i + 1, rfl, ⟨hlt, fun k hk => ?_⟩, rfl⟩
        by_cases hki : k = i
        · subst hki; exact hfi
        · exact hf k (by omega)
    · intro hb2
      try simp only [decide_eq_true_eq, decide_eq_false_iff_not] at hb2
      refine SA.exit ?_
      refine thenK.exit ?_
      refine loopK.exit ?_
      refine blockK.hit ?_
      refine thenK.normal ?_
      refine SA.seq ?_
      refine SA.seq ?_
      have hit : i = t.length := by omega
      subst hit
      have hfr : ∀ e ∈ t, freeOf e := fun e he => by
        obtain ⟨k, hk, rfl⟩ := List.mem_iff_getElem.1 he
        have := hf k hk
        rwa [show t.getD k default = t[k] from by simp [List.getD_eq_getElem?_getD, hk]] at this
      refine SA.weaken (St.le.own (t := 3) 42 rfl) ?_
      refine SA.region ok (by kernel_rfl) [0, 3, 7] ?_
      intro R hR
      simp only [go_sem, strip]
      iterate 1 (refine opsA_cons fun R1 hR1 => ?_; simp only [go_sem, seval, -List.reduceReplicate]; (repeat' with_reducible refine And.intro ?_ ?_); all_goals first | (refine hR1 _ ?_; clear hR1 R1) | omega | rfl | decide | assumption | (intro _; omega) | (simp; done) | (simp; omega) | (simp [roomFor, maxLen, by39, by3, by68, by70, by23, by100] <;> omega))
      refine opsA_nil (hR _ ?_)
      clear hR R
      try simp only [go_sem, Nat.reduceBEq]
      refine thenK.normal ?_
      refine SA.block ?_
      refine SA.weaken (St.le.of_eq (by first | rfl | simp)) (SA.loop (fun n τ => ∃ (q : Nat), n = 6 - q ∧ (q ≤ 6) ∧ τ = { tm := [(0, true, .fs 42 (t.map Event.v) false), (3, true, .sl 0 42 0 (gates q).length false), (7, true, .int .i64 q)], ob := [.row 42 ((gates q).map Event.v)], out := [], nt := 108 }) (6) ⟨0, rfl, by omega, rfl⟩ ?_)
      rintro n τ ⟨q, hn, hn6, rfl⟩
      refine SA.seq ?_
      refine SA.seq ?_
      refine SA.region ok (by kernel_rfl) [0, 3, 7, 54] ?_
      intro R hR
      simp only [go_sem, strip]
      iterate 2 (refine opsA_cons fun R1 hR1 => ?_; simp only [go_sem, seval, -List.reduceReplicate]; (repeat' with_reducible refine And.intro ?_ ?_); all_goals first | (refine hR1 _ ?_; clear hR1 R1) | omega | rfl | decide | assumption | (intro _; omega) | (simp; done) | (simp; omega) | (simp [roomFor, maxLen, by39, by3, by68, by70, by23, by100] <;> omega))
      refine opsA_nil (hR _ ?_)
      clear hR R
      try simp only [go_sem, Nat.reduceBEq]
      refine thenK.normal ?_
      refine SA.cond rfl ?_ ?_
      · intro hb5
        try simp only [decide_eq_true_eq, decide_eq_false_iff_not] at hb5
        refine SA.skip ?_
        refine thenK.normal ?_
        refine SA.seq ?_
        refine SA.block ?_
        refine SA.region ok (by kernel_rfl) [0, 3, 7] ?_
        intro R hR
        simp only [go_sem, strip]
        iterate 2 (refine opsA_cons fun R1 hR1 => ?_; simp only [go_sem, seval, -List.reduceReplicate, List.drop_zero, List.take_succ_cons, List.take_zero]; (repeat' with_reducible refine And.intro ?_ ?_); all_goals first | (refine hR1 _ ?_; clear hR1 R1) | omega | rfl | decide | assumption | (intro _; omega) | (simp; done) | (simp; omega) | (simp [roomFor, maxLen, by39, by3, by68, by70, by23, by100] <;> omega))
        refine opsA_cons fun R1 hR1 => ?_
        simp only [go_sem, seval, -List.reduceReplicate, List.drop_zero, List.take_succ_cons, List.take_zero]
        repeat' with_reducible refine And.intro ?_ ?_
        all_goals try (first | omega | assumption | (intro _; omega))
        first | refine ⟨_, _, rfl, .inl ⟨_, CallQ.ctr ok (taking_ctr q 3) (by first | rfl | (simp [argsV, toVs, contentV, toV, capsV, capsE, ty22, ty25, ty3, ty4, ty81, ty39, ty40, ty42, ty37, ty2, ty23, ty24, ty46, ty68, ty65, ty70, ty69, ty90, ty77, ty59, ty100, ty75, ty98, ty71, ty93, ty64, ty85, List.length_map, List.take_of_length_le])) rfl, ?_⟩⟩ | refine ⟨_, _, rfl, .inl ⟨_, fun hg => CallQ.ctr ok (taking_ctr q 3) (by first | rfl | (simp [argsV, toVs, contentV, toV, capsV, capsE, ty22, ty25, ty3, ty4, ty81, ty39, ty40, ty42, ty37, ty2, ty23, ty24, ty46, ty68, ty65, ty70, ty69, ty90, ty77, ty59, ty100, ty75, ty98, ty71, ty93, ty64, ty85, List.length_map, List.take_of_length_le])) rfl, ?_⟩⟩
        simp only [go_sem, seval, -List.reduceReplicate, List.drop_zero, List.take_succ_cons, List.take_zero]
        repeat' with_reducible refine And.intro ?_ ?_
        all_goals first | (refine hR1 _ ?_; clear hR1 R1) | omega | rfl | decide | assumption | (intro _; omega) | (simp; done) | (simp; omega) | (simp [roomFor, maxLen, by39, by3, by68, by70, by23, by100] <;> omega)
        iterate 1 (refine opsA_cons fun R1 hR1 => ?_; simp only [go_sem, seval, -List.reduceReplicate, List.drop_zero, List.take_succ_cons, List.take_zero]; (repeat' with_reducible refine And.intro ?_ ?_); all_goals first | (refine hR1 _ ?_; clear hR1 R1) | omega | rfl | decide | assumption | (intro _; omega) | (simp; done) | (simp; omega) | (simp [roomFor, maxLen, by39, by3, by68, by70, by23, by100] <;> omega))
        refine opsA_cons fun R1 hR1 => ?_
        simp only [go_sem, seval, -List.reduceReplicate, List.drop_zero, List.take_succ_cons, List.take_zero]
        repeat' with_reducible refine And.intro ?_ ?_
        all_goals first | (refine hR1 _ ?_; clear hR1 R1) | omega | rfl | (simp; done) | exact ⟨by rw [gates_len]; unfold maxLen; omega, by rw [gates_len, by42]; omega⟩
        iterate 1 (refine opsA_cons fun R1 hR1 => ?_; simp only [go_sem, seval, -List.reduceReplicate, List.drop_zero, List.take_succ_cons, List.take_zero]; (repeat' with_reducible refine And.intro ?_ ?_); all_goals first | (refine hR1 _ ?_; clear hR1 R1) | omega | rfl | decide | assumption | (intro _; omega) | (simp; done) | (simp; omega) | (simp [roomFor, maxLen, by39, by3, by68, by70, by23, by100] <;> omega))
        refine opsA_nil (hR _ ?_)
        clear hR R
        try simp only [go_sem, Nat.reduceBEq]
        refine blockK.normal ?_
        refine thenK.normal ?_
        refine SA.region ok (by kernel_rfl) [0, 3, 7] ?_
        intro R hR
        simp only [go_sem, strip]
        iterate 3 (refine opsA_cons fun R1 hR1 => ?_; simp only [go_sem, seval, -List.reduceReplicate]; (repeat' with_reducible refine And.intro ?_ ?_); all_goals first | (refine hR1 _ ?_; clear hR1 R1) | omega | rfl | decide | assumption | (intro _; omega) | (simp; done) | (simp; omega) | (simp [roomFor, maxLen, by39, by3, by68, by70, by23, by100] <;> omega))
        refine opsA_nil (hR _ ?_)
        clear hR R
        try simp only [go_sem, Nat.reduceBEq]
        refine loopK.normal (6 - (q + 1)) _ (by omega) ((St.le.cut 1 rfl).trans (St.le.of_eq (by rw [wrap_succ (show q < 6 by omega) (by decide : 6 ≤ maxLen), gates_succ]; simp [List.take_of_length_le]))) ⟨q + 1, rfl, by omega, rfl⟩
      · intro hb5
        try simp only [decide_eq_true_eq, decide_eq_false_iff_not] at hb5
        refine SA.exit ?_
        refine thenK.exit ?_
        refine loopK.exit ?_
        refine blockK.hit ?_
        refine thenK.normal ?_
        refine SA.seq ?_
        have hq6 : q = 6 := by omega
        subst hq6
        refine SA.region ok (by kernel_rfl) [0, 3] ?_
        intro R hR
        simp only [go_sem, strip]
        iterate 2 (refine opsA_cons fun R1 hR1 => ?_; simp only [go_sem, seval, -List.reduceReplicate]; (repeat' with_reducible refine And.intro ?_ ?_); all_goals first | (refine hR1 _ ?_; clear hR1 R1) | omega | rfl | decide | assumption | (intro _; omega) | (simp; done) | (simp; omega) | (simp [roomFor, maxLen, by39, by3, by68, by70, by23, by100] <;> omega))
        refine opsA_cons fun R1 hR1 => ?_
        simp only [go_sem, seval, -List.reduceReplicate]
        repeat' with_reducible refine And.intro ?_ ?_
        all_goals first | (refine hR1 _ ?_; clear hR1 R1) | omega | rfl | (simp; done) | exact ⟨by rw [gates_len]; unfold maxLen; omega, by rw [gates_len, by42]; omega⟩
        iterate 1 (refine opsA_cons fun R1 hR1 => ?_; simp only [go_sem, seval, -List.reduceReplicate]; (repeat' with_reducible refine And.intro ?_ ?_); all_goals first | (refine hR1 _ ?_; clear hR1 R1) | omega | rfl | decide | assumption | (intro _; omega) | (simp; done) | (simp; omega) | (simp [roomFor, maxLen, by39, by3, by68, by70, by23, by100] <;> omega))
        refine opsA_nil (hR _ ?_)
        clear hR R
        try simp only [go_sem, Nat.reduceBEq]
        refine thenK.normal ?_
        refine SA.seq ?_
        refine SA.weaken (St.le.frzRow ok.sized 0 rfl) ?_
        simp only [St.frz, Tm.frz, E.frz, E.frzL, Obj.frz, List.map_cons, List.map_nil, List.set_cons_zero, List.set_cons_succ, Nat.reduceBEq, Nat.beq_refl, if_true, if_false, Nat.beq_eq_true_eq, reduceCtorEq, Bool.false_eq_true, V.get, Nat.reduceEqDiff]
        have hrow : List.take ((gates 6).length + t.length) (List.drop 0 (List.take (gates 6).length (List.map Event.v (gates 6)) ++ List.map Event.v t)) = (gated t).map Event.v := by
          have e1 : List.take (gates 6).length (List.map Event.v (gates 6)) = List.map Event.v (gates 6) := take_all (by simp)
          rw [List.drop_zero, e1, take_all (by simp)]
          unfold gated
          rw [List.map_append]
        rw [hrow]
        have hg6 := gated_6 h6
        have hgl : (gated t).length ≤ maxLen := by rw [gated_len]; unfold maxLen; omega
        have hgc := gated_check hr h250
        have hgb := ringsD_bound (gated t)
        have hmore := gated_more h6 hfr hc h250
        refine SA.region ok (by kernel_rfl) [0, 3, 8, 9] ?_
        intro R hR
        simp only [go_sem, strip]
        iterate 1 (refine opsA_cons fun R1 hR1 => ?_; simp only [go_sem, seval, -List.reduceReplicate]; (repeat' with_reducible refine And.intro ?_ ?_); all_goals first | (refine hR1 _ ?_; clear hR1 R1) | omega | rfl | decide | assumption | (intro _; omega) | (simp; done) | (simp; omega) | (simp [roomFor, maxLen, by39, by3, by68, by70, by23, by100] <;> omega))
        refine opsA_cons fun R1 hR1 => ?_
        simp only [go_sem, seval, -List.reduceReplicate]
        repeat' with_reducible refine And.intro ?_ ?_
        all_goals try (first | omega | assumption | (intro _; omega))
        first | refine ⟨_, _, rfl, .inr (CallE.ctrZ (ringsP (gated t) hgl hg6) (by first | rfl | (simp [argsV, toVs, contentV, toV, capsV, capsE, ty22, ty25, ty3, ty4, ty81, ty39, ty40, ty42, ty37, ty2, ty23, ty24, ty46, ty68, ty65, ty70, ty69, ty90, ty77, ty59, ty100, ty75, ty98, ty71, ty93, ty64, ty85, List.length_map, List.take_of_length_le])) ?_)⟩ | refine ⟨_, _, rfl, .inr ⟨fun _ => CallE.ctrZ (ringsP (gated t) hgl hg6) (by first | rfl | (simp [argsV, toVs, contentV, toV, capsV, capsE, ty22, ty25, ty3, ty4, ty81, ty39, ty40, ty42, ty37, ty2, ty23, ty24, ty46, ty68, ty65, ty70, ty69, ty90, ty77, ty59, ty100, ty75, ty98, ty71, ty93, ty64, ty85, List.length_map, List.take_of_length_le])) ?_, ?_⟩⟩
        simp only [go_sem, seval, -List.reduceReplicate]
        repeat' with_reducible refine And.intro ?_ ?_
        all_goals first | (refine hR1 _ ?_; clear hR1 R1) | omega | rfl | decide | assumption | (intro _; omega) | (simp; done) | (simp; omega) | (simp [roomFor, maxLen, by39, by3, by68, by70, by23, by100] <;> omega)
        iterate 5 (refine opsA_cons fun R1 hR1 => ?_; simp only [go_sem, seval, -List.reduceReplicate]; (repeat' with_reducible refine And.intro ?_ ?_); all_goals first | (refine hR1 _ ?_; clear hR1 R1) | omega | rfl | decide | assumption | (intro _; omega) | (simp; done) | (simp; omega) | (simp [roomFor, maxLen, by39, by3, by68, by70, by23, by100] <;> omega))
        refine opsA_nil (hR _ ?_)
        clear hR R
        try simp only [go_sem, Nat.reduceBEq]
        refine thenK.normal ?_
        refine SA.seq ?_
        refine SA.seq ?_
        refine SA.region ok (by kernel_rfl) [0, 3, 8, 71] ?_
        intro R hR
        simp only [go_sem, strip]
        iterate 2 (refine opsA_cons fun R1 hR1 => ?_; simp only [go_sem, seval, -List.reduceReplicate, hgc, decide_true, ne_eq, not_true, decide_false, not_false_eq_true]; (repeat' with_reducible refine And.intro ?_ ?_); all_goals first | (refine hR1 _ ?_; clear hR1 R1) | omega | rfl | decide | assumption | (intro _; omega) | (simp; done) | (simp; omega) | (simp [roomFor, maxLen, by39, by3, by68, by70, by23, by100] <;> omega))
        refine opsA_nil (hR _ ?_)
        clear hR R
        try simp only [go_sem, Nat.reduceBEq]
        refine thenK.normal ?_
        refine SA.cond rfl ?_ ?_
        · intro hb6
          skip
          simp at hb6
        · intro hb6
          skip
          refine SA.skip ?_
          refine thenK.normal ?_
          refine SA.seq ?_
          refine SA.seq ?_
          refine SA.region ok (by kernel_rfl) [0, 3, 8, 72, 73, 74] ?_
          intro R hR
          simp only [go_sem, strip]
          iterate 3 (refine opsA_cons fun R1 hR1 => ?_; simp only [go_sem, seval, -List.reduceReplicate]; (repeat' with_reducible refine And.intro ?_ ?_); all_goals first | (refine hR1 _ ?_; clear hR1 R1) | omega | rfl | decide | assumption | (intro _; omega) | (simp; done) | (simp; omega) | (simp [roomFor, maxLen, by39, by3, by68, by70, by23, by100] <;> omega))
          refine opsA_nil (hR _ ?_)
          clear hR R
          try simp only [go_sem, Nat.reduceBEq]
          refine thenK.normal ?_
          refine SA.block ?_
          refine SA.weaken ((St.le.cut 0 rfl).trans (St.le.of_eq (by first | rfl | simp))) (SA.loop (fun n τ => ∃ (m : Nat), n = (ringsD (gated t)).length - m ∧ (m ≤ (ringsD (gated t)).length) ∧ τ = { tm := [(0, true, .fs 42 (t.map Event.v) false), (3, true, .fs 42 ((gated t).map Event.v) false), (8, true, .fs 23 (ringsV (ringsD (gated t))) false), (72, true, .fs 23 (ringsV (ringsD (gated t))) false), (73, true, .int .i64 (ringsD (gated t)).length), (74, true, .int .i64 m)], ob := [], out := [], nt := 108 }) ((ringsD (gated t)).length) ⟨0, rfl, Nat.zero_le _, rfl⟩ ?_)
          rintro n τ ⟨m, hn, hm, rfl⟩
          refine SA.seq ?_
          refine SA.region ok (by kernel_rfl) [0, 3, 8, 72, 73, 74, 75] ?_
          intro R hR
          simp only [go_sem, strip]
          iterate 1 (refine opsA_cons fun R1 hR1 => ?_; simp only [go_sem, seval, -List.reduceReplicate]; (repeat' with_reducible refine And.intro ?_ ?_); all_goals first | (refine hR1 _ ?_; clear hR1 R1) | omega | rfl | decide | assumption | (intro _; omega) | (simp; done) | (simp; omega) | (simp [roomFor, maxLen, by39, by3, by68, by70, by23, by100] <;> omega))
          refine opsA_nil (hR _ ?_)
          clear hR R
          try simp only [go_sem, Nat.reduceBEq]
          refine thenK.normal ?_
          refine SA.seq ?_
          refine SA.cond rfl ?_ ?_
          · intro hb7
            try simp only [decide_eq_true_eq, decide_eq_false_iff_not] at hb7
            refine SA.skip ?_
            refine thenK.normal ?_
            refine SA.seq ?_
            refine SA.block ?_
            refine SA.seq ?_
            have hmt : m < (ringsD (gated t)).length := by omega
            have hmm := getD_mem (ringsD (gated t)) hmt
            have hx := le4_max (ringsD_len hmm)
            have he0 := ringsD_err hmm
            have hg0 := gated_guard h6 hfr hr hmm
            refine SA.region ok (by kernel_rfl) [0, 3, 8, 11, 72, 73, 74] ?_
            intro R hR
            simp only [go_sem, strip]
            iterate 3 (refine opsA_cons fun R1 hR1 => ?_; simp only [go_sem, seval, -List.reduceReplicate, ringsV_at hmt]; (repeat' with_reducible refine And.intro ?_ ?_); all_goals first | (refine hR1 _ ?_; clear hR1 R1) | omega | rfl | decide | assumption | (intro _; omega) | (simp; done) | (simp; omega) | (simp [roomFor, maxLen, by39, by3, by68, by70, by23, by100] <;> omega))
            refine opsA_nil (hR _ ?_)
            clear hR R
            try simp only [go_sem, Nat.reduceBEq]
            refine thenK.normal ?_
            refine SA.seq ?_
            refine SA.region ok (by kernel_rfl) [0, 3, 8, 12, 13, 72, 73, 74] ?_
            intro R hR
            simp only [go_sem, strip]
            iterate 2 (refine opsA_cons fun R1 hR1 => ?_; simp only [go_sem, seval, -List.reduceReplicate]; (repeat' with_reducible refine And.intro ?_ ?_); all_goals first | (refine hR1 _ ?_; clear hR1 R1) | omega | rfl | decide | assumption | (intro _; omega) | (simp; done) | (simp; omega) | (simp [roomFor, maxLen, by39, by3, by68, by70, by23, by100] <;> omega))
            refine opsA_cons fun R1 hR1 => ?_
            simp only [go_sem, seval, -List.reduceReplicate]
            repeat' with_reducible refine And.intro ?_ ?_
            all_goals try (first | omega | assumption | (intro _; omega))
            first | refine ⟨_, _, rfl, .inr (CallE.ctr ok (guardP (gated t) _ hgl hx hg6) (by first | rfl | (simp [argsV, toVs, contentV, toV, capsV, capsE, ty22, ty25, ty3, ty4, ty81, ty39, ty40, ty42, ty37, ty2, ty23, ty24, ty46, ty68, ty65, ty70, ty69, ty90, ty77, ty59, ty100, ty75, ty98, ty71, ty93, ty64, ty85, List.length_map, List.take_of_length_le])) ?_)⟩ | refine ⟨_, _, rfl, .inr ⟨fun _ => CallE.ctr ok (guardP (gated t) _ hgl hx hg6) (by first | rfl | (simp [argsV, toVs, contentV, toV, capsV, capsE, ty22, ty25, ty3, ty4, ty81, ty39, ty40, ty42, ty37, ty2, ty23, ty24, ty46, ty68, ty65, ty70, ty69, ty90, ty77, ty59, ty100, ty75, ty98, ty71, ty93, ty64, ty85, List.length_map, List.take_of_length_le])) ?_, ?_⟩⟩
            simp only [go_sem, seval, -List.reduceReplicate]
            repeat' with_reducible refine And.intro ?_ ?_
            all_goals first | (refine hR1 _ ?_; clear hR1 R1) | omega | rfl | decide | assumption | (intro _; omega) | (simp; done) | (simp; omega) | (simp [roomFor, maxLen, by39, by3, by68, by70, by23, by100] <;> omega)
            iterate 5 (refine opsA_cons fun R1 hR1 => ?_; simp only [go_sem, seval, -List.reduceReplicate]; (repeat' with_reducible refine And.intro ?_ ?_); all_goals first | (refine hR1 _ ?_; clear hR1 R1) | omega | rfl | decide | assumption | (intro _; omega) | (simp; done) | (simp; omega) | (simp [roomFor, maxLen, by39, by3, by68, by70, by23, by100] <;> omega))
            refine opsA_nil (hR _ ?_)
            clear hR R
            try simp only [go_sem, Nat.reduceBEq]
            refine thenK.normal ?_
            refine SA.seq ?_
            refine SA.region ok (by kernel_rfl) [0, 3, 8, 72, 73, 74, 89] ?_
            intro R hR
            simp only [go_sem, strip]
            iterate 6 (refine opsA_cons fun R1 hR1 => ?_; simp only [go_sem, seval, -List.reduceReplicate, he0, hg0, decide_true, ne_eq, not_true, decide_false, not_false_eq_true]; (repeat' with_reducible refine And.intro ?_ ?_); all_goals first | (refine hR1 _ ?_; clear hR1 R1) | omega | rfl | decide | assumption | (intro _; omega) | (simp; done) | (simp; omega) | (simp [roomFor, maxLen, by39, by3, by68, by70, by23, by100] <;> omega))
            refine opsA_nil (hR _ ?_)
            clear hR R
            try simp only [go_sem, Nat.reduceBEq]
            refine thenK.normal ?_
            refine SA.cond rfl ?_ ?_
            · intro hb8
              skip
              simp at hb8
            · intro hb8
              skip
              refine SA.skip ?_
              refine blockK.normal ?_
              refine thenK.normal ?_
              refine SA.region ok (by kernel_rfl) [0, 3, 8, 72, 73, 74] ?_
              intro R hR
              simp only [go_sem, strip]
              iterate 2 (refine opsA_cons fun R1 hR1 => ?_; simp only [go_sem, seval, -List.reduceReplicate]; (repeat' with_reducible refine And.intro ?_ ?_); all_goals first | (refine hR1 _ ?_; clear hR1 R1) | omega | rfl | decide | assumption | (intro _; omega) | (simp; done) | (simp; omega) | (simp [roomFor, maxLen, by39, by3, by68, by70, by23, by100] <;> omega))
              refine opsA_nil (hR _ ?_)
              clear hR R
              try simp only [go_sem, Nat.reduceBEq]
              refine loopK.normal ((ringsD (gated t)).length - (m + 1)) _ (by omega) (St.le.of_eq (by rw [wrap_succ hmt hgb])) ⟨m + 1, rfl, hmt, rfl⟩
          · intro hb7
            try simp only [decide_eq_true_eq, decide_eq_false_iff_not] at hb7
            refine SA.exit ?_
            refine thenK.exit ?_
            refine loopK.exit ?_
            refine blockK.hit ?_
            refine thenK.normal ?_
            refine SA.seq ?_
            refine SA.region ok (by kernel_rfl) [8, 14, 15] ?_
            intro R hR
            simp only [go_sem, strip]
            iterate 1 (refine opsA_cons fun R1 hR1 => ?_; simp only [go_sem, seval, -List.reduceReplicate]; (repeat' with_reducible refine And.intro ?_ ?_); all_goals first | (refine hR1 _ ?_; clear hR1 R1) | omega | rfl | decide | assumption | (intro _; omega) | (simp; done) | (simp; omega) | (simp [roomFor, maxLen, by39, by3, by68, by70, by23, by100] <;> omega))
            refine opsA_cons fun R1 hR1 => ?_
            simp only [go_sem, seval, -List.reduceReplicate]
            repeat' with_reducible refine And.intro ?_ ?_
            all_goals try (first | omega | assumption | (intro _; omega))
            first | refine ⟨_, _, rfl, .inr (CallE.ctrZ (ringsP t ht h6) (by first | rfl | (simp [argsV, toVs, contentV, toV, capsV, capsE, ty22, ty25, ty3, ty4, ty81, ty39, ty40, ty42, ty37, ty2, ty23, ty24, ty46, ty68, ty65, ty70, ty69, ty90, ty77, ty59, ty100, ty75, ty98, ty71, ty93, ty64, ty85, List.length_map, List.take_of_length_le])) ?_)⟩ | refine ⟨_, _, rfl, .inr ⟨fun _ => CallE.ctrZ (ringsP t ht h6) (by first | rfl | (simp [argsV, toVs, contentV, toV, capsV, capsE, ty22, ty25, ty3, ty4, ty81, ty39, ty40, ty42, ty37, ty2, ty23, ty24, ty46, ty68, ty65, ty70, ty69, ty90, ty77, ty59, ty100, ty75, ty98, ty71, ty93, ty64, ty85, List.length_map, List.take_of_length_le])) ?_, ?_⟩⟩
            simp only [go_sem, seval, -List.reduceReplicate]
            repeat' with_reducible refine And.intro ?_ ?_
            all_goals first | (refine hR1 _ ?_; clear hR1 R1) | omega | rfl | decide | assumption | (intro _; omega) | (simp; done) | (simp; omega) | (simp [roomFor, maxLen, by39, by3, by68, by70, by23, by100] <;> omega)
            iterate 5 (refine opsA_cons fun R1 hR1 => ?_; simp only [go_sem, seval, -List.reduceReplicate]; (repeat' with_reducible refine And.intro ?_ ?_); all_goals first | (refine hR1 _ ?_; clear hR1 R1) | omega | rfl | decide | assumption | (intro _; omega) | (simp; done) | (simp; omega) | (simp [roomFor, maxLen, by39, by3, by68, by70, by23, by100] <;> omega))
            refine opsA_nil (hR _ ?_)
            clear hR R
            try simp only [go_sem, Nat.reduceBEq]
            refine thenK.normal ?_
            refine SA.seq ?_
            refine SA.region ok (by kernel_rfl) [2] ?_
            intro R hR
            simp only [go_sem, strip]
            iterate 10 (refine opsA_cons fun R1 hR1 => ?_; simp only [go_sem, seval, -List.reduceReplicate, hc, decide_true]; (repeat' with_reducible refine And.intro ?_ ?_); all_goals first | (refine hR1 _ ?_; clear hR1 R1) | omega | rfl | decide | assumption | (intro _; omega) | (simp; done) | (simp; omega) | (simp [roomFor, maxLen, by39, by3, by68, by70, by23, by100] <;> omega))
            refine opsA_cons fun R1 hR1 => ?_
            simp only [go_sem, seval, -List.reduceReplicate, hc, decide_true]
            repeat' with_reducible refine And.intro ?_ ?_
            all_goals try (first | omega | assumption | (intro _; omega))
            first | refine ⟨_, _, rfl, .inl ⟨_, CallQ.ctr ok (small_ctr) (by first | rfl | (simp [argsV, toVs, contentV, toV, capsV, capsE, ty22, ty25, ty3, ty4, ty81, ty39, ty40, ty42, ty37, ty2, ty23, ty24, ty46, ty68, ty65, ty70, ty69, ty90, ty77, ty59, ty100, ty75, ty98, ty71, ty93, ty64, ty85, List.length_map, List.take_of_length_le])) rfl, ?_⟩⟩ | refine ⟨_, _, rfl, .inl ⟨_, fun hg => CallQ.ctr ok (small_ctr) (by first | rfl | (simp [argsV, toVs, contentV, toV, capsV, capsE, ty22, ty25, ty3, ty4, ty81, ty39, ty40, ty42, ty37, ty2, ty23, ty24, ty46, ty68, ty65, ty70, ty69, ty90, ty77, ty59, ty100, ty75, ty98, ty71, ty93, ty64, ty85, List.length_map, List.take_of_length_le])) rfl, ?_⟩⟩
            simp only [go_sem, seval, -List.reduceReplicate, hc, decide_true]
            repeat' with_reducible refine And.intro ?_ ?_
            all_goals first | (refine hR1 _ ?_; clear hR1 R1) | omega | rfl | decide | assumption | (intro _; omega) | (simp; done) | (simp; omega) | (simp [roomFor, maxLen, by39, by3, by68, by70, by23, by100] <;> omega)
            iterate 2 (refine opsA_cons fun R1 hR1 => ?_; simp only [go_sem, seval, -List.reduceReplicate, hc, decide_true]; (repeat' with_reducible refine And.intro ?_ ?_); all_goals first | (refine hR1 _ ?_; clear hR1 R1) | omega | rfl | decide | assumption | (intro _; omega) | (simp; done) | (simp; omega) | (simp [roomFor, maxLen, by39, by3, by68, by70, by23, by100] <;> omega))
            refine opsA_nil (hR _ ?_)
            clear hR R
            try simp only [go_sem, Nat.reduceBEq]
            refine thenK.normal ?_
            refine SA.ret ?_
            refine ctrK.ret ?_
            simp only [resA, evalO, resV, backK, outE, toV, ty4, ty3, List.lookup_cons, List.lookup_nil, beq_self_eq_true, forall_const, true_and, and_true]
            simp [flatTy, ty4]
            exact hmore

end Go.Eng.Try
