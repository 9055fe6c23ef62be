/- A part of the proof: walks through the program's functions, and what they compute. -/
import Derived.Test.YtipodgpcbkoopaaE3
import Derived.Test.YtipodgpcbkoopaaM1
import Derived.Test.YtipodgpcbkoopaaE4
import Derived.Test.YtipodgpcbkoopaaGW21
namespace Go.Eng.Try
open Go.RowKit Go.Eng
set_option linter.unusedSimpArgs false
set_option linter.unusedVariables false

theorem halfway {i j n : Nat} (hi : i ≤ j) (hj : j ≤ n) (hn : n ≤ maxLen) : IntKind.i64.wrap ((IntKind.u64.wrap (IntKind.i64.wrap (↑i + ↑j))).fdiv (2 ^ min 1 64)) = (((i + j) / 2 : Nat) : Int) := by
  unfold maxLen at hn
  have h1 : IntKind.u64.wrap (IntKind.i64.wrap ((i : Int) + j)) = (i : Int) + j := by
    simp [IntKind.wrap, IntKind.signed, IntKind.bits]
    omega
  rw [h1, Int.fdiv_eq_ediv_of_nonneg _ (by decide)]
  rw [show ((2 : Int) ^ min 1 64) = 2 from rfl, wrap64_ok (by omega) (by omega)]
  omega


def orOf : List Int → Int
  | [] => 0
  | a :: l => if a ≠ 0 then a else orOf l
theorem orOf_hit : ∀ {l : List Int} {j : Nat}, j < l.length → (∀ k, k < j → l.getD k default = 0) → l.getD j default ≠ 0 → orOf l = l.getD j default
  | a :: l, 0, _, _, h => by simp at h; simp [orOf, h]
  | a :: l, j + 1, hj, h0, h => by
    have ha := h0 0 (by omega)
    simp at ha
    unfold orOf
    rw [if_neg (by omega)]
    simpa using orOf_hit (l := l) (j := j) (by simpa using hj) (fun k hk => by simpa using h0 (k + 1) (by omega)) (by simpa using h)
theorem orOf_miss : ∀ {l : List Int}, (∀ k, k < l.length → l.getD k default = 0) → orOf l = 0
  | [], _ => rfl
  | a :: l, h => by
    have ha := h 0 (by simp)
    simp at ha
    unfold orOf
    rw [if_neg (by omega)]
    exact orOf_miss fun k hk => by simpa using h (k + 1) (by simpa using hk)
theorem or_two (x y : Int) : orOf [x, y] = if x ≠ 0 then x else y := by
  simp only [orOf]
  by_cases hx : x = 0
  · by_cases hy : y = 0 <;> simp [hx, hy]
  · simp [hx]
theorem later {l : List Edge} (hs : l.Pairwise elt) {i j : Nat} (hij : i < j) (hj : j < l.length) : ¬ ecmp (l.getD j default) (l.getD i default) < 0 := (ecmp_lt (esorted_at hs hij hj)).2

attribute [local go_sem] argsV contentV fromVs Option.getD_some St.keep List.filterMap_cons List.filterMap_nil Option.map_some Option.map_none opG opQ opB newEs outE CallStepB guardA putK putE pureA evalO evalL constE pickA capsE capsV loadA fieldAddrA indexAddrA indexA sliceA evalOptI builtinA binA plainA shiftA eqA nilA arith shifts effA storeA appendA appB freshA St.kill Tm.kill E.kill E.killL Obj.kill elemsOf evalVs buildA okAt toV fromV zeroE V.get V.put V.sub V.setSub args0 CallStep CallStepQ i64min i64max u64min u64max u32min u32max u8min u8max Nat.zero_add List.length_map List.lookup_cons List.lookup_nil List.getElem?_cons_zero List.getElem?_cons_succ List.getElem?_toArray List.getElem?_nil Option.bind_some Option.bind_none List.size_toArray List.length_cons List.length_nil List.nil_append List.append_nil List.cons_append List.getD_cons_zero List.getD_cons_succ List.map_cons List.map_nil List.set_cons_zero List.set_cons_succ true_and and_true forall_const true_implies Bool.true_and Bool.and_true Bool.not_true Bool.not_false Bool.false_and Bool.and_false beq_self_eq_true Bool.true_beq Bool.false_beq beq_true beq_false eq_self false_implies V.toInt_int V.toBool_bool V.toList_list V.toList_agg V.toStr_str V.deref_ref if_true if_false Bool.false_eq_true Option.isSome_none Option.isSome_some Bool.false_or Bool.true_or Bool.or_false Bool.or_true cond_true cond_false implies_true and_self imp_self ty22 ty25 ty3 ty4 ty81 ty39 ty40 ty42 ty37 ty2 ty23 ty24 ty46 ty68 ty65 ty70 ty69 ty90 ty77 ty59 ty98 concat_at List.length_range zero39 z39 z3 z4 z70 z68 z42 z40 z37 z2 zero40 z69 z90 zero70 zero69 zero90 zero68 zero42 Int.toNat_natCast Int.natCast_zero Event.v0 Event.v3 Event.v5 Event.v7 Event.v8 Access.v0 Access.v1 Access.v2 beq_acc Edge.v0 Edge.v1 Edge.v2 Edge.v3 heldOf_len locksTo_len heldsTo_len nowL_len
-- cmp.isNaN[int]
theorem isNaN_ctr (x : Int) : Ctr Go.Proofs.Try.prog tab 68 [3] [4] [.int x] [.bool false] := by
  refine Ctr.body ok Go.Proofs.Try.func68 rfl rfl 6 rfl [.tmp 2] rfl (by simp [fromVs]) ?_
  simp only [fromVs, fromV, args0, V.toList_list, V.toInt_int, V.toBool_bool, Nat.zero_add, Nat.reduceAdd, ty3]
  refine SA.seq ?_
  refine SA.region ok (by kernel_rfl) [0] ?_
  intro R r
  simp only [go_sem, strip]
  iterate 1 (refine opsA_cons fun Z q1 => ?_; simp only [go_sem, seval, -List.reduceReplicate]; (repeat' with_reducible refine And.intro ?_ ?_); all_goals first | (refine q1 _ ?_; clear q1 Z) | omega | rfl | decide | assumption | (intro _; omega) | (simp; done) | (simp; omega))
  refine opsA_nil (r _ ?_)
  clear r R
  try simp only [go_sem, Nat.reduceBEq]
  refine thenK.normal (SA.seq ?_)
  refine SA.region ok (by kernel_rfl) [2] ?_
  intro R r
  simp only [go_sem, strip]
  iterate 4 (refine opsA_cons fun Z q1 => ?_; simp only [go_sem, seval, -List.reduceReplicate]; (repeat' with_reducible refine And.intro ?_ ?_); all_goals first | (refine q1 _ ?_; clear q1 Z) | omega | rfl | decide | assumption | (intro _; omega) | (simp; done) | (simp; omega))
  refine opsA_nil (r _ ?_)
  clear r R
  try simp only [go_sem, Nat.reduceBEq]
  refine thenK.normal (SA.ret ?_)
  refine ctrK.ret ?_
  simp only [resA, evalO, resV, backK, outE, toV, ty4, ty3, List.lookup_cons, List.lookup_nil, beq_self_eq_true, forall_const, true_and, and_true]
  simp [flatTy, ty4]

-- cmp.Compare[int]
theorem icmp_ctr (a b : Int) : Ctr Go.Proofs.Try.prog tab 59 [3, 3] [3] [.int a, .int b] [.int (icmp a b)] := by
  refine Ctr.body ok Go.Proofs.Try.func59 rfl rfl 20 rfl [.tmp 4] rfl (by simp [fromVs]) ?_
  simp only [fromVs, fromV, args0, V.toList_list, V.toInt_int, V.toBool_bool, Nat.zero_add, Nat.reduceAdd, ty3]
  refine SA.seq ?_
  refine SA.region ok (by kernel_rfl) [0, 1] ?_
  intro R r
  simp only [go_sem, strip]
  iterate 1 (refine opsA_cons fun Z q1 => ?_; simp only [go_sem, seval, -List.reduceReplicate]; (repeat' with_reducible refine And.intro ?_ ?_); all_goals first | (refine q1 _ ?_; clear q1 Z) | omega | rfl | decide | assumption | (intro _; omega) | (simp; done) | (simp; omega))
  refine opsA_nil (r _ ?_)
  clear r R
  try simp only [go_sem, Nat.reduceBEq]
  refine thenK.normal (SA.seq ?_)
  refine SA.region ok (by kernel_rfl) [0, 1, 5] ?_
  intro R r
  simp only [go_sem, strip]
  iterate 1 (refine opsA_cons fun Z q1 => ?_; simp only [go_sem, seval, -List.reduceReplicate]; (repeat' with_reducible refine And.intro ?_ ?_); all_goals first | (refine q1 _ ?_; clear q1 Z) | omega | rfl | decide | assumption | (intro _; omega) | (simp; done) | (simp; omega) | (simp [roomFor, maxLen, by39, by3, by68, by70, by23] <;> omega))
  refine opsA_cons fun Z q1 => ?_
  simp only [go_sem, seval, -List.reduceReplicate]
  repeat' with_reducible refine And.intro ?_ ?_
  all_goals try (first | omega | assumption | (intro _; omega))
  first | refine ⟨_, _, rfl, .inl ⟨_, CallQ.ctr ok (isNaN_ctr _) (by first | rfl | (simp [argsV, toVs, contentV, toV, capsV, capsE, ty22, ty25, ty3, ty4, ty81, ty39, ty40, ty42, ty37, ty2, ty23, ty24, ty46, ty68, ty65, ty70, ty69, ty90, ty77, ty59, ty98, List.length_map, List.take_of_length_le])) rfl, ?_⟩⟩ | refine ⟨_, _, rfl, .inl ⟨_, fun hg => CallQ.ctr ok (isNaN_ctr _) (by first | rfl | (simp [argsV, toVs, contentV, toV, capsV, capsE, ty22, ty25, ty3, ty4, ty81, ty39, ty40, ty42, ty37, ty2, ty23, ty24, ty46, ty68, ty65, ty70, ty69, ty90, ty77, ty59, ty98, List.length_map, List.take_of_length_le])) rfl, ?_⟩⟩
  simp only [go_sem, seval, -List.reduceReplicate]
  repeat' with_reducible refine And.intro ?_ ?_
  all_goals first | (refine q1 _ ?_; clear q1 Z) | omega | rfl | decide | assumption | (intro _; omega) | (simp; done) | (simp; omega) | (simp [roomFor, maxLen, by39, by3, by68, by70, by23] <;> omega)
  iterate 1 (refine opsA_cons fun Z q1 => ?_; simp only [go_sem, seval, -List.reduceReplicate]; (repeat' with_reducible refine And.intro ?_ ?_); all_goals first | (refine q1 _ ?_; clear q1 Z) | omega | rfl | decide | assumption | (intro _; omega) | (simp; done) | (simp; omega) | (simp [roomFor, maxLen, by39, by3, by68, by70, by23] <;> omega))
  refine opsA_nil (r _ ?_)
  clear r R
  try simp only [go_sem, Nat.reduceBEq]
  refine thenK.normal (SA.seq ?_)
  refine SA.region ok (by kernel_rfl) [0, 1, 5, 6] ?_
  intro R r
  simp only [go_sem, strip]
  iterate 1 (refine opsA_cons fun Z q1 => ?_; simp only [go_sem, seval, -List.reduceReplicate]; (repeat' with_reducible refine And.intro ?_ ?_); all_goals first | (refine q1 _ ?_; clear q1 Z) | omega | rfl | decide | assumption | (intro _; omega) | (simp; done) | (simp; omega) | (simp [roomFor, maxLen, by39, by3, by68, by70, by23] <;> omega))
  refine opsA_cons fun Z q1 => ?_
  simp only [go_sem, seval, -List.reduceReplicate]
  repeat' with_reducible refine And.intro ?_ ?_
  all_goals try (first | omega | assumption | (intro _; omega))
  first | refine ⟨_, _, rfl, .inl ⟨_, CallQ.ctr ok (isNaN_ctr _) (by first | rfl | (simp [argsV, toVs, contentV, toV, capsV, capsE, ty22, ty25, ty3, ty4, ty81, ty39, ty40, ty42, ty37, ty2, ty23, ty24, ty46, ty68, ty65, ty70, ty69, ty90, ty77, ty59, ty98, List.length_map, List.take_of_length_le])) rfl, ?_⟩⟩ | refine ⟨_, _, rfl, .inl ⟨_, fun hg => CallQ.ctr ok (isNaN_ctr _) (by first | rfl | (simp [argsV, toVs, contentV, toV, capsV, capsE, ty22, ty25, ty3, ty4, ty81, ty39, ty40, ty42, ty37, ty2, ty23, ty24, ty46, ty68, ty65, ty70, ty69, ty90, ty77, ty59, ty98, List.length_map, List.take_of_length_le])) rfl, ?_⟩⟩
  simp only [go_sem, seval, -List.reduceReplicate]
  repeat' with_reducible refine And.intro ?_ ?_
  all_goals first | (refine q1 _ ?_; clear q1 Z) | omega | rfl | decide | assumption | (intro _; omega) | (simp; done) | (simp; omega) | (simp [roomFor, maxLen, by39, by3, by68, by70, by23] <;> omega)
  iterate 1 (refine opsA_cons fun Z q1 => ?_; simp only [go_sem, seval, -List.reduceReplicate]; (repeat' with_reducible refine And.intro ?_ ?_); all_goals first | (refine q1 _ ?_; clear q1 Z) | omega | rfl | decide | assumption | (intro _; omega) | (simp; done) | (simp; omega) | (simp [roomFor, maxLen, by39, by3, by68, by70, by23] <;> omega))
  refine opsA_nil (r _ ?_)
  clear r R
  try simp only [go_sem, Nat.reduceBEq]
  refine thenK.normal (SA.seq ?_)
  refine SA.seq ?_
  refine SA.region ok (by kernel_rfl) [0, 1, 6, 11] ?_
  intro R r
  simp only [go_sem, strip]
  iterate 1 (refine opsA_cons fun Z q1 => ?_; simp only [go_sem, seval, -List.reduceReplicate]; (repeat' with_reducible refine And.intro ?_ ?_); all_goals first | (refine q1 _ ?_; clear q1 Z) | omega | rfl | decide | assumption | (intro _; omega) | (simp; done) | (simp; omega))
  refine opsA_nil (r _ ?_)
  clear r R
  try simp only [go_sem, Nat.reduceBEq]
  refine thenK.normal ?_
  refine SA.cond rfl ?_ ?_
  · intro hb1
    skip
    cases hb1
  · intro hb1
    skip
    refine SA.skip ?_
    refine thenK.normal (SA.seq ?_)
    refine SA.seq ?_
    refine SA.region ok (by kernel_rfl) [0, 1, 13] ?_
    intro R r
    simp only [go_sem, strip]
    iterate 1 (refine opsA_cons fun Z q1 => ?_; simp only [go_sem, seval, -List.reduceReplicate]; (repeat' with_reducible refine And.intro ?_ ?_); all_goals first | (refine q1 _ ?_; clear q1 Z) | omega | rfl | decide | assumption | (intro _; omega) | (simp; done) | (simp; omega))
    refine opsA_nil (r _ ?_)
    clear r R
    try simp only [go_sem, Nat.reduceBEq]
    refine thenK.normal ?_
    refine SA.cond rfl ?_ ?_
    · intro hb2
      skip
      cases hb2
    · intro hb2
      skip
      refine SA.skip ?_
      refine thenK.normal (SA.seq ?_)
      refine SA.seq ?_
      refine SA.region ok (by kernel_rfl) [0, 1, 16] ?_
      intro R r
      simp only [go_sem, strip]
      iterate 3 (refine opsA_cons fun Z q1 => ?_; simp only [go_sem, seval, -List.reduceReplicate]; (repeat' with_reducible refine And.intro ?_ ?_); all_goals first | (refine q1 _ ?_; clear q1 Z) | omega | rfl | decide | assumption | (intro _; omega) | (simp; done) | (simp; omega))
      refine opsA_nil (r _ ?_)
      clear r R
      try simp only [go_sem, Nat.reduceBEq]
      refine thenK.normal ?_
      refine SA.cond rfl ?_ ?_
      · intro hb3
        simp only [decide_eq_true_eq, decide_eq_false_iff_not, Int.not_lt, Int.not_le] at hb3
        refine SA.seq ?_
        refine SA.region ok (by kernel_rfl) [4] ?_
        intro R r
        simp only [go_sem, strip]
        iterate 1 (refine opsA_cons fun Z q1 => ?_; simp only [go_sem, seval, -List.reduceReplicate]; (repeat' with_reducible refine And.intro ?_ ?_); all_goals first | (refine q1 _ ?_; clear q1 Z) | omega | rfl | decide | assumption | (intro _; omega) | (simp; done) | (simp; omega))
        refine opsA_nil (r _ ?_)
        clear r R
        try simp only [go_sem, Nat.reduceBEq]
        refine thenK.normal (SA.ret ?_)
        refine thenK.ret ?_
        refine ctrK.ret ?_
        simp only [resA, evalO, resV, backK, outE, toV, ty4, ty3, List.lookup_cons, List.lookup_nil, beq_self_eq_true, forall_const, true_and, and_true]
        refine ⟨rfl, ?_⟩
        simp only [if_true, Option.some.injEq, V.int.injEq]
        unfold icmp
        first | (rw [if_pos (by omega)]; done) | (rw [if_neg (by omega), if_pos (by omega)]; done) | (rw [if_neg (by omega), if_neg (by omega)])
      · intro hb3
        simp only [decide_eq_true_eq, decide_eq_false_iff_not, Int.not_lt, Int.not_le] at hb3
        refine SA.skip ?_
        refine thenK.normal (SA.seq ?_)
        refine SA.seq ?_
        refine SA.region ok (by kernel_rfl) [19] ?_
        intro R r
        simp only [go_sem, strip]
        iterate 3 (refine opsA_cons fun Z q1 => ?_; simp only [go_sem, seval, -List.reduceReplicate]; (repeat' with_reducible refine And.intro ?_ ?_); all_goals first | (refine q1 _ ?_; clear q1 Z) | omega | rfl | decide | assumption | (intro _; omega) | (simp; done) | (simp; omega))
        refine opsA_nil (r _ ?_)
        clear r R
        try simp only [go_sem, Nat.reduceBEq]
        refine thenK.normal ?_
        refine SA.cond rfl ?_ ?_
        · intro hb4
          simp only [decide_eq_true_eq, decide_eq_false_iff_not, Int.not_lt, Int.not_le] at hb4
          refine SA.seq ?_
          refine SA.region ok (by kernel_rfl) [4] ?_
          intro R r
          simp only [go_sem, strip]
          iterate 1 (refine opsA_cons fun Z q1 => ?_; simp only [go_sem, seval, -List.reduceReplicate]; (repeat' with_reducible refine And.intro ?_ ?_); all_goals first | (refine q1 _ ?_; clear q1 Z) | omega | rfl | decide | assumption | (intro _; omega) | (simp; done) | (simp; omega))
          refine opsA_nil (r _ ?_)
          clear r R
          try simp only [go_sem, Nat.reduceBEq]
          refine thenK.normal (SA.ret ?_)
          refine thenK.ret ?_
          refine ctrK.ret ?_
          simp only [resA, evalO, resV, backK, outE, toV, ty4, ty3, List.lookup_cons, List.lookup_nil, beq_self_eq_true, forall_const, true_and, and_true]
          refine ⟨rfl, ?_⟩
          simp only [if_true, Option.some.injEq, V.int.injEq]
          unfold icmp
          first | (rw [if_pos (by omega)]; done) | (rw [if_neg (by omega), if_pos (by omega)]; done) | (rw [if_neg (by omega), if_neg (by omega)])
        · intro hb4
          simp only [decide_eq_true_eq, decide_eq_false_iff_not, Int.not_lt, Int.not_le] at hb4
          refine SA.skip ?_
          refine thenK.normal (SA.seq ?_)
          refine SA.region ok (by kernel_rfl) [4] ?_
          intro R r
          simp only [go_sem, strip]
          iterate 1 (refine opsA_cons fun Z q1 => ?_; simp only [go_sem, seval, -List.reduceReplicate]; (repeat' with_reducible refine And.intro ?_ ?_); all_goals first | (refine q1 _ ?_; clear q1 Z) | omega | rfl | decide | assumption | (intro _; omega) | (simp; done) | (simp; omega))
          refine opsA_nil (r _ ?_)
          clear r R
          try simp only [go_sem, Nat.reduceBEq]
          refine thenK.normal (SA.ret ?_)
          refine ctrK.ret ?_
          simp only [resA, evalO, resV, backK, outE, toV, ty4, ty3, List.lookup_cons, List.lookup_nil, beq_self_eq_true, forall_const, true_and, and_true]
          refine ⟨rfl, ?_⟩
          simp only [if_true, Option.some.injEq, V.int.injEq]
          unfold icmp
          first | (rw [if_pos (by omega)]; done) | (rw [if_neg (by omega), if_pos (by omega)]; done) | (rw [if_neg (by omega), if_neg (by omega)])

-- cmp.Or[int]
theorem or_ctr (l : List Int) (hl : l.length ≤ maxLen) : Ctr Go.Proofs.Try.prog tab 58 [23] [3] [.list (l.map V.int)] [.int (orOf l)] := by
  refine Ctr.body ok Go.Proofs.Try.func58 rfl rfl 18 rfl [.tmp 2] rfl (by simp [fromVs]) ?_
  simp only [fromVs, fromV, args0, V.toList_list, V.toInt_int, V.toBool_bool, Nat.zero_add, Nat.reduceAdd, ty23]
  refine SA.seq ?_
  refine SA.region ok (by kernel_rfl) [0] ?_
  intro R r
  simp only [go_sem, strip]
  iterate 1 (refine opsA_cons fun Z q1 => ?_; simp only [go_sem, seval, -List.reduceReplicate]; (repeat' with_reducible refine And.intro ?_ ?_); all_goals first | (refine q1 _ ?_; clear q1 Z) | omega | rfl | decide | assumption | (intro _; omega) | (simp; done) | (simp; omega))
  refine opsA_nil (r _ ?_)
  clear r R
  try simp only [go_sem, Nat.reduceBEq]
  refine thenK.normal (SA.seq ?_)
  refine SA.region ok (by kernel_rfl) [0, 3] ?_
  intro R r
  simp only [go_sem, strip]
  iterate 1 (refine opsA_cons fun Z q1 => ?_; simp only [go_sem, seval, -List.reduceReplicate]; (repeat' with_reducible refine And.intro ?_ ?_); all_goals first | (refine q1 _ ?_; clear q1 Z) | omega | rfl | decide | assumption | (intro _; omega) | (simp; done) | (simp; omega))
  refine opsA_nil (r _ ?_)
  clear r R
  try simp only [go_sem, Nat.reduceBEq]
  refine thenK.normal (SA.seq ?_)
  refine SA.seq ?_
  refine SA.region ok (by kernel_rfl) [3, 6, 7, 8] ?_
  intro R r
  simp only [go_sem, strip]
  iterate 3 (refine opsA_cons fun Z q1 => ?_; simp only [go_sem, seval, -List.reduceReplicate]; (repeat' with_reducible refine And.intro ?_ ?_); all_goals first | (refine q1 _ ?_; clear q1 Z) | omega | rfl | decide | assumption | (intro _; omega) | (simp; done) | (simp; omega) | (simp [roomFor, maxLen, by39, by3, by68, by70, by23] <;> omega))
  refine opsA_nil (r _ ?_)
  clear r R
  try simp only [go_sem, Nat.reduceBEq]
  refine thenK.normal (SA.block ?_)
  refine SA.weaken (St.le.of_eq (by first | rfl | simp)) (SA.loop (fun n τ => ∃ (j : Nat), n = l.length - j ∧ (j ≤ l.length ∧ ∀ k, k < j → l.getD k default = 0) ∧ τ = { tm := [(3, true, .int .i64 0), (6, true, .fs 3 (l.map V.int) false), (7, true, .int .i64 l.length), (8, true, .int .i64 j)], ob := [], out := [], nt := 18 }) (l.length) ⟨0, rfl, ⟨Nat.zero_le _, fun k hk => by omega⟩, rfl⟩ ?_)
  rintro n τ ⟨j, hn, ⟨hj, hc⟩, rfl⟩
  refine SA.seq ?_
  refine SA.region ok (by kernel_rfl) [3, 6, 7, 8, 9] ?_
  intro R r
  simp only [go_sem, strip]
  iterate 1 (refine opsA_cons fun Z q1 => ?_; simp only [go_sem, seval, -List.reduceReplicate]; (repeat' with_reducible refine And.intro ?_ ?_); all_goals first | (refine q1 _ ?_; clear q1 Z) | omega | rfl | decide | assumption | (intro _; omega) | (simp; done) | (simp; omega))
  refine opsA_nil (r _ ?_)
  clear r R
  try simp only [go_sem, Nat.reduceBEq]
  refine thenK.normal (SA.seq ?_)
  refine SA.cond rfl ?_ ?_
  · intro hb1
    simp only [decide_eq_true_eq, decide_eq_false_iff_not, Int.not_lt, Int.not_le] at hb1
    refine SA.skip ?_
    refine thenK.normal (SA.seq ?_)
    refine SA.block ?_
    refine SA.seq ?_
    have hjl : j < l.length := by omega
    refine SA.region ok (by kernel_rfl) [3, 5, 6, 7, 8] ?_
    intro R r
    simp only [go_sem, strip]
    iterate 3 (refine opsA_cons fun Z q1 => ?_; simp only [go_sem, seval, -List.reduceReplicate, getD_map V.int l hjl]; (repeat' with_reducible refine And.intro ?_ ?_); all_goals first | (refine q1 _ ?_; clear q1 Z) | omega | rfl | decide | assumption | (intro _; omega) | (simp; done) | (simp; omega))
    refine opsA_nil (r _ ?_)
    clear r R
    try simp only [go_sem, Nat.reduceBEq]
    refine thenK.normal (SA.seq ?_)
    refine SA.region ok (by kernel_rfl) [3, 5, 6, 7, 8, 14] ?_
    intro R r
    simp only [go_sem, strip]
    iterate 3 (refine opsA_cons fun Z q1 => ?_; simp only [go_sem, seval, -List.reduceReplicate]; (repeat' with_reducible refine And.intro ?_ ?_); all_goals first | (refine q1 _ ?_; clear q1 Z) | omega | rfl | decide | assumption | (intro _; omega) | (simp; done) | (simp; omega))
    refine opsA_nil (r _ ?_)
    clear r R
    try simp only [go_sem, Nat.reduceBEq]
    refine thenK.normal ?_
    refine SA.cond rfl ?_ ?_
    · intro hb2
      have hb2n : l.getD j default ≠ 0 := by simpa using hb2
      refine SA.seq ?_
      refine SA.region ok (by kernel_rfl) [2] ?_
      intro R r
      simp only [go_sem, strip]
      iterate 2 (refine opsA_cons fun Z q1 => ?_; simp only [go_sem, seval, -List.reduceReplicate]; (repeat' with_reducible refine And.intro ?_ ?_); all_goals first | (refine q1 _ ?_; clear q1 Z) | omega | rfl | decide | assumption | (intro _; omega) | (simp; done) | (simp; omega))
      refine opsA_nil (r _ ?_)
      clear r R
      try simp only [go_sem, Nat.reduceBEq]
      refine thenK.normal (SA.ret ?_)
      refine blockK.ret ?_
      refine thenK.ret ?_
      refine loopK.ret ?_
      refine blockK.ret ?_
      refine thenK.ret ?_
      refine ctrK.ret ?_
      simp only [resA, evalO, resV, backK, outE, toV, ty4, ty3, List.lookup_cons, List.lookup_nil, beq_self_eq_true, forall_const, true_and, and_true]
      refine ⟨rfl, ?_⟩
      simp only [if_true, Option.some.injEq, V.int.injEq]
      exact (orOf_hit hjl hc hb2n).symm
    · intro hb2
      have hb2n : l.getD j default = 0 := by simpa using hb2
      refine SA.skip ?_
      refine blockK.normal (thenK.normal ?_)
      refine SA.region ok (by kernel_rfl) [3, 6, 7, 8] ?_
      intro R r
      simp only [go_sem, strip]
      iterate 2 (refine opsA_cons fun Z q1 => ?_; simp only [go_sem, seval, -List.reduceReplicate]; (repeat' with_reducible refine And.intro ?_ ?_); all_goals first | (refine q1 _ ?_; clear q1 Z) | omega | rfl | decide | assumption | (intro _; omega) | (simp; done) | (simp; omega))
      refine opsA_nil (r _ ?_)
      clear r R
      try simp only [go_sem, Nat.reduceBEq]
      refine loopK.normal (l.length - (j + 1)) _ (by omega) (St.le.of_eq (by rw [wrap_succ hjl hl])) ⟨j + 1, rfl, ⟨hjl, fun k hk => ?_⟩, rfl⟩
      by_cases hkj : k = j
      · subst hkj; exact hb2n
      · exact hc k (by omega)
  · intro hb1
    simp only [decide_eq_true_eq, decide_eq_false_iff_not, Int.not_lt, Int.not_le] at hb1
    refine SA.exit ?_
    refine thenK.exit ?_
    refine loopK.exit ?_
    refine blockK.hit ?_
    refine thenK.normal (SA.seq ?_)
    refine SA.region ok (by kernel_rfl) [2] ?_
    intro R r
    simp only [go_sem, strip]
    iterate 2 (refine opsA_cons fun Z q1 => ?_; simp only [go_sem, seval, -List.reduceReplicate]; (repeat' with_reducible refine And.intro ?_ ?_); all_goals first | (refine q1 _ ?_; clear q1 Z) | omega | rfl | decide | assumption | (intro _; omega) | (simp; done) | (simp; omega))
    refine opsA_nil (r _ ?_)
    clear r R
    try simp only [go_sem, Nat.reduceBEq]
    refine thenK.normal (SA.ret ?_)
    refine ctrK.ret ?_
    simp only [resA, evalO, resV, backK, outE, toV, ty4, ty3, List.lookup_cons, List.lookup_nil, beq_self_eq_true, forall_const, true_and, and_true]
    refine ⟨rfl, ?_⟩
    simp only [if_true, Option.some.injEq, V.int.injEq]
    exact (orOf_miss fun k hk => hc k (by omega)).symm

theorem ecmp_ctr (a b : Edge) : Ctr Go.Proofs.Try.prog tab 57 [68, 68] [3] [a.v, b.v] [.int (ecmp a b)] := by
  refine Ctr.body ok Go.Proofs.Try.func57 rfl rfl 17 rfl [.tmp 4] rfl (by simp [fromVs]) ?_
  simp only [fromVs, fromV, args0, V.toList_list, V.toInt_int, V.toBool_bool, Nat.zero_add, Nat.reduceAdd, ty68]
  refine SA.seq ?_
  refine SA.region ok (by kernel_rfl) [2, 3] ?_
  intro R r
  simp only [go_sem, strip]
  iterate 3 (refine opsA_cons fun Z q1 => ?_; simp only [go_sem, seval, -List.reduceReplicate]; (repeat' with_reducible refine And.intro ?_ ?_); all_goals first | (refine q1 _ ?_; clear q1 Z) | omega | rfl | decide | assumption | (intro _; omega) | (simp; done) | (simp; omega) | (simp [roomFor, maxLen, by39, by3, by68, by70, by23] <;> omega))
  refine opsA_nil (r _ ?_)
  clear r R
  try simp only [go_sem, Nat.reduceBEq]
  refine thenK.normal (SA.seq ?_)
  refine SA.regionAny mixed 13 (by kernel_rfl) #[false, false, false, false, false, false, false, false, false, false, false, false, false] (by kernel_rfl) [] [4] ?_
  intro R r
  refine AnyA.take ok 0 ⟨some 5, (Go.Op.fieldAddr 68 (Go.Operand.tmp 2) 3), none⟩ (by kernel_rfl) (by kernel_rfl) (by kernel_rfl) (by kernel_rfl) (by kernel_rfl) #[true, false, false, false, false, false, false, false, false, false, false, false, false] (by kernel_rfl) fun Z q1 => ?_
  simp only [go_sem, seval, -List.reduceReplicate]
  repeat' with_reducible refine And.intro ?_ ?_
  all_goals first | (refine q1 _ ?_; clear q1 Z) | omega | rfl | decide | assumption | (intro _; omega) | (simp; done) | (simp; omega) | (simp [roomFor, maxLen, by39, by3, by68, by70, by23] <;> omega)
  refine AnyA.take ok 1 ⟨some 6, (Go.Op.load 3 (Go.Operand.tmp 5)), none⟩ (by kernel_rfl) (by kernel_rfl) (by kernel_rfl) (by kernel_rfl) (by kernel_rfl) #[true, true, false, false, false, false, false, false, false, false, false, false, false] (by kernel_rfl) fun Z q1 => ?_
  simp only [go_sem, seval, -List.reduceReplicate]
  repeat' with_reducible refine And.intro ?_ ?_
  all_goals first | (refine q1 _ ?_; clear q1 Z) | omega | rfl | decide | assumption | (intro _; omega) | (simp; done) | (simp; omega) | (simp [roomFor, maxLen, by39, by3, by68, by70, by23] <;> omega)
  refine AnyA.take ok 2 ⟨some 7, (Go.Op.fieldAddr 68 (Go.Operand.tmp 3) 3), none⟩ (by kernel_rfl) (by kernel_rfl) (by kernel_rfl) (by kernel_rfl) (by kernel_rfl) #[true, true, true, false, false, false, false, false, false, false, false, false, false] (by kernel_rfl) fun Z q1 => ?_
  simp only [go_sem, seval, -List.reduceReplicate]
  repeat' with_reducible refine And.intro ?_ ?_
  all_goals first | (refine q1 _ ?_; clear q1 Z) | omega | rfl | decide | assumption | (intro _; omega) | (simp; done) | (simp; omega) | (simp [roomFor, maxLen, by39, by3, by68, by70, by23] <;> omega)
  refine AnyA.take ok 3 ⟨some 8, (Go.Op.load 3 (Go.Operand.tmp 7)), none⟩ (by kernel_rfl) (by kernel_rfl) (by kernel_rfl) (by kernel_rfl) (by kernel_rfl) #[true, true, true, true, false, false, false, false, false, false, false, false, false] (by kernel_rfl) fun Z q1 => ?_
  simp only [go_sem, seval, -List.reduceReplicate]
  repeat' with_reducible refine And.intro ?_ ?_
  all_goals first | (refine q1 _ ?_; clear q1 Z) | omega | rfl | decide | assumption | (intro _; omega) | (simp; done) | (simp; omega) | (simp [roomFor, maxLen, by39, by3, by68, by70, by23] <;> omega)
  refine AnyA.take ok 5 ⟨some 10, (Go.Op.fieldAddr 68 (Go.Operand.tmp 2) 0), none⟩ (by kernel_rfl) (by kernel_rfl) (by kernel_rfl) (by kernel_rfl) (by kernel_rfl) #[true, true, true, true, false, true, false, false, false, false, false, false, false] (by kernel_rfl) fun Z q1 => ?_
  simp only [go_sem, seval, -List.reduceReplicate]
  repeat' with_reducible refine And.intro ?_ ?_
  all_goals first | (refine q1 _ ?_; clear q1 Z) | omega | rfl | decide | assumption | (intro _; omega) | (simp; done) | (simp; omega) | (simp [roomFor, maxLen, by39, by3, by68, by70, by23] <;> omega)
  refine AnyA.take ok 6 ⟨some 11, (Go.Op.load 3 (Go.Operand.tmp 10)), none⟩ (by kernel_rfl) (by kernel_rfl) (by kernel_rfl) (by kernel_rfl) (by kernel_rfl) #[true, true, true, true, false, true, true, false, false, false, false, false, false] (by kernel_rfl) fun Z q1 => ?_
  simp only [go_sem, seval, -List.reduceReplicate]
  repeat' with_reducible refine And.intro ?_ ?_
  all_goals first | (refine q1 _ ?_; clear q1 Z) | omega | rfl | decide | assumption | (intro _; omega) | (simp; done) | (simp; omega) | (simp [roomFor, maxLen, by39, by3, by68, by70, by23] <;> omega)
  refine AnyA.take ok 7 ⟨some 12, (Go.Op.fieldAddr 68 (Go.Operand.tmp 3) 0), none⟩ (by kernel_rfl) (by kernel_rfl) (by kernel_rfl) (by kernel_rfl) (by kernel_rfl) #[true, true, true, true, false, true, true, true, false, false, false, false, false] (by kernel_rfl) fun Z q1 => ?_
  simp only [go_sem, seval, -List.reduceReplicate]
  repeat' with_reducible refine And.intro ?_ ?_
  all_goals first | (refine q1 _ ?_; clear q1 Z) | omega | rfl | decide | assumption | (intro _; omega) | (simp; done) | (simp; omega) | (simp [roomFor, maxLen, by39, by3, by68, by70, by23] <;> omega)
  refine AnyA.take ok 8 ⟨some 13, (Go.Op.load 3 (Go.Operand.tmp 12)), none⟩ (by kernel_rfl) (by kernel_rfl) (by kernel_rfl) (by kernel_rfl) (by kernel_rfl) #[true, true, true, true, false, true, true, true, true, false, false, false, false] (by kernel_rfl) fun Z q1 => ?_
  simp only [go_sem, seval, -List.reduceReplicate]
  repeat' with_reducible refine And.intro ?_ ?_
  all_goals first | (refine q1 _ ?_; clear q1 Z) | omega | rfl | decide | assumption | (intro _; omega) | (simp; done) | (simp; omega) | (simp [roomFor, maxLen, by39, by3, by68, by70, by23] <;> omega)
  refine AnyA.all (rs := [4]) ok (by kernel_rfl) (by kernel_rfl) rfl ?_
  refine Branches.keep (i := 4) ⟨some 9, (Go.Op.call (Go.Call.mk (Go.Callee.value (Go.Operand.func 59)) #[(Go.Operand.tmp 6), (Go.Operand.tmp 8)] #[3, 3])), none⟩ (by kernel_rfl) rfl #[true, true, true, true, true, true, true, true, true, false, false, false, false] (by kernel_rfl) (fun Z q1 => ?_) ?_
  rotate_left
  exact Branches.nil
  simp only [go_sem, seval, -List.reduceReplicate]
  repeat' with_reducible refine And.intro ?_ ?_
  all_goals try (first | omega | assumption | (intro _; omega))
  first | refine ⟨_, _, rfl, .inl ⟨_, CallQ.ctr ok (icmp_ctr a.event b.event) (by first | rfl | (simp [argsV, toVs, contentV, toV, capsV, capsE, ty22, ty25, ty3, ty4, ty81, ty39, ty40, ty42, ty37, ty2, ty23, ty24, ty46, ty68, ty65, ty70, ty69, ty90, ty77, ty59, ty98, List.length_map, List.take_of_length_le])) rfl, ?_⟩⟩ | refine ⟨_, _, rfl, .inl ⟨_, fun hg => CallQ.ctr ok (icmp_ctr a.event b.event) (by first | rfl | (simp [argsV, toVs, contentV, toV, capsV, capsE, ty22, ty25, ty3, ty4, ty81, ty39, ty40, ty42, ty37, ty2, ty23, ty24, ty46, ty68, ty65, ty70, ty69, ty90, ty77, ty59, ty98, List.length_map, List.take_of_length_le])) rfl, ?_⟩⟩
  simp only [go_sem, seval, -List.reduceReplicate]
  repeat' with_reducible refine And.intro ?_ ?_
  all_goals first | (refine q1 _ ?_; clear q1 Z) | omega | rfl | decide | assumption | (intro _; omega) | (simp; done) | (simp; omega) | (simp [roomFor, maxLen, by39, by3, by68, by70, by23] <;> omega)
  refine AnyA.all (rs := [9]) ok (by kernel_rfl) (by kernel_rfl) rfl ?_
  refine Branches.keep (i := 9) ⟨some 14, (Go.Op.call (Go.Call.mk (Go.Callee.value (Go.Operand.func 59)) #[(Go.Operand.tmp 11), (Go.Operand.tmp 13)] #[3, 3])), none⟩ (by kernel_rfl) rfl #[true, true, true, true, true, true, true, true, true, true, false, false, false] (by kernel_rfl) (fun Z q1 => ?_) ?_
  rotate_left
  exact Branches.nil
  simp only [go_sem, seval, -List.reduceReplicate]
  repeat' with_reducible refine And.intro ?_ ?_
  all_goals try (first | omega | assumption | (intro _; omega))
  first | refine ⟨_, _, rfl, .inl ⟨_, CallQ.ctr ok (icmp_ctr a.from_ b.from_) (by first | rfl | (simp [argsV, toVs, contentV, toV, capsV, capsE, ty22, ty25, ty3, ty4, ty81, ty39, ty40, ty42, ty37, ty2, ty23, ty24, ty46, ty68, ty65, ty70, ty69, ty90, ty77, ty59, ty98, List.length_map, List.take_of_length_le])) rfl, ?_⟩⟩ | refine ⟨_, _, rfl, .inl ⟨_, fun hg => CallQ.ctr ok (icmp_ctr a.from_ b.from_) (by first | rfl | (simp [argsV, toVs, contentV, toV, capsV, capsE, ty22, ty25, ty3, ty4, ty81, ty39, ty40, ty42, ty37, ty2, ty23, ty24, ty46, ty68, ty65, ty70, ty69, ty90, ty77, ty59, ty98, List.length_map, List.take_of_length_le])) rfl, ?_⟩⟩
  simp only [go_sem, seval, -List.reduceReplicate]
  repeat' with_reducible refine And.intro ?_ ?_
  all_goals first | (refine q1 _ ?_; clear q1 Z) | omega | rfl | decide | assumption | (intro _; omega) | (simp; done) | (simp; omega) | (simp [roomFor, maxLen, by39, by3, by68, by70, by23] <;> omega)
  refine AnyA.all (rs := [10]) ok (by kernel_rfl) (by kernel_rfl) rfl ?_
  refine Branches.keep (i := 10) ⟨some 15, (Go.Op.buildSlice 23 2 #[(0, (Go.Operand.tmp 9)), (1, (Go.Operand.tmp 14))]), none⟩ (by kernel_rfl) rfl #[true, true, true, true, true, true, true, true, true, true, true, false, false] (by kernel_rfl) (fun Z q1 => ?_) ?_
  rotate_left
  exact Branches.nil
  simp only [go_sem, seval, -List.reduceReplicate]
  repeat' with_reducible refine And.intro ?_ ?_
  all_goals first | (refine q1 _ ?_; clear q1 Z) | omega | rfl | decide | assumption | (intro _; omega) | (simp; done) | (simp; omega) | (simp [roomFor, maxLen, by39, by3, by68, by70, by23] <;> omega)
  refine AnyA.all (rs := [11]) ok (by kernel_rfl) (by kernel_rfl) rfl ?_
  refine Branches.keep (i := 11) ⟨some 16, (Go.Op.call (Go.Call.mk (Go.Callee.value (Go.Operand.func 58)) #[(Go.Operand.tmp 15)] #[23])), none⟩ (by kernel_rfl) rfl #[true, true, true, true, true, true, true, true, true, true, true, true, false] (by kernel_rfl) (fun Z q1 => ?_) ?_
  rotate_left
  exact Branches.nil
  simp only [go_sem, seval, -List.reduceReplicate]
  repeat' with_reducible refine And.intro ?_ ?_
  all_goals try (first | omega | assumption | (intro _; omega))
  first | refine ⟨_, _, rfl, .inl ⟨_, CallQ.ctr ok (or_ctr [icmp a.event b.event, icmp a.from_ b.from_] (by simp [maxLen])) (by first | rfl | (simp [argsV, toVs, contentV, toV, capsV, capsE, ty22, ty25, ty3, ty4, ty81, ty39, ty40, ty42, ty37, ty2, ty23, ty24, ty46, ty68, ty65, ty70, ty69, ty90, ty77, ty59, ty98, List.length_map, List.take_of_length_le])) rfl, ?_⟩⟩ | refine ⟨_, _, rfl, .inl ⟨_, fun hg => CallQ.ctr ok (or_ctr [icmp a.event b.event, icmp a.from_ b.from_] (by simp [maxLen])) (by first | rfl | (simp [argsV, toVs, contentV, toV, capsV, capsE, ty22, ty25, ty3, ty4, ty81, ty39, ty40, ty42, ty37, ty2, ty23, ty24, ty46, ty68, ty65, ty70, ty69, ty90, ty77, ty59, ty98, List.length_map, List.take_of_length_le])) rfl, ?_⟩⟩
  simp only [go_sem, seval, -List.reduceReplicate]
  repeat' with_reducible refine And.intro ?_ ?_
  all_goals first | (refine q1 _ ?_; clear q1 Z) | omega | rfl | decide | assumption | (intro _; omega) | (simp; done) | (simp; omega) | (simp [roomFor, maxLen, by39, by3, by68, by70, by23] <;> omega)
  refine AnyA.take ok 12 ⟨some 4, (Go.Op.assign (Go.Operand.tmp 16)), none⟩ (by kernel_rfl) (by kernel_rfl) (by kernel_rfl) (by kernel_rfl) (by kernel_rfl) #[true, true, true, true, true, true, true, true, true, true, true, true, true] (by kernel_rfl) fun Z q1 => ?_
  simp only [go_sem, seval, -List.reduceReplicate]
  repeat' with_reducible refine And.intro ?_ ?_
  all_goals first | (refine q1 _ ?_; clear q1 Z) | omega | rfl | decide | assumption | (intro _; omega) | (simp; done) | (simp; omega) | (simp [roomFor, maxLen, by39, by3, by68, by70, by23] <;> omega)
  refine AnyA.done (by kernel_rfl) (r _ ?_)
  clear r R
  try simp only [go_sem, Nat.reduceBEq]
  refine thenK.normal (SA.ret ?_)
  refine ctrK.ret ?_
  simp only [resA, evalO, resV, backK, outE, toV, ty4, ty3, List.lookup_cons, List.lookup_nil, beq_self_eq_true, forall_const, true_and, and_true]
  refine ⟨rfl, ?_⟩
  simp only [if_true, Option.some.injEq, V.int.injEq]
  exact or_two _ _

-- slices.insertionSortCmpFunc[scarab/api.LockEdge]
theorem insertion_ctr (l : List Edge) (hl : l.length ≤ 100000) (hs : l.Pairwise elt) (a b : Nat) (hab : a ≤ b) (hb : b ≤ l.length) : Ctr Go.Proofs.Try.prog tab 69 [46, 3, 3, 98] [] [.list (l.map Edge.v), .int a, .int b, .fnv 57] [] := by
  have hm : l.length + 1 ≤ maxLen := Nat.le_trans (Nat.succ_le_succ hl) (by decide)
  refine Ctr.body ok Go.Proofs.Try.func69 rfl rfl 53 rfl [] rfl (by simp [fromVs]) ?_
  simp only [fromVs, fromV, args0, V.toList_list, V.toInt_int, V.toBool_bool, Nat.zero_add, Nat.reduceAdd, ty3, ty46, ty98]
  refine SA.seq ?_
  refine SA.region ok (by kernel_rfl) [0, 1, 2, 3, 8] ?_
  intro R r
  simp only [go_sem, strip]
  iterate 3 (refine opsA_cons fun Z q1 => ?_; simp only [go_sem, seval, -List.reduceReplicate]; (repeat' with_reducible refine And.intro ?_ ?_); all_goals first | (refine q1 _ ?_; clear q1 Z) | omega | rfl | decide | assumption | (intro _; omega) | (simp; done) | (simp; omega))
  refine opsA_nil (r _ ?_)
  clear r R
  try simp only [go_sem, Nat.reduceBEq]
  refine thenK.normal (SA.block ?_)
  refine SA.weaken (St.le.of_eq (by first | (rw [wrap_succ (show a < l.length + 1 by omega) hm]; done) | (rw [wrap_succ (show a < l.length + 1 by omega) hm]; rfl))) (SA.loop (fun n τ => ∃ (i : Nat), n = b - i ∧ (a < i ∧ i ≤ b + 1) ∧ τ = { tm := [(0, true, .fs 68 (l.map Edge.v) false), (1, true, .int .i64 a), (2, true, .int .i64 b), (3, true, .fn 57 []), (8, true, .int .i64 i)], ob := [], out := [], nt := 53 }) (b - (a + 1)) ⟨a + 1, rfl, by omega, rfl⟩ ?_)
  rintro n τ ⟨i, hn, ⟨hi, hib⟩, rfl⟩
  refine SA.seq ?_
  refine SA.seq ?_
  refine SA.region ok (by kernel_rfl) [0, 1, 2, 3, 8, 14] ?_
  intro R r
  simp only [go_sem, strip]
  iterate 3 (refine opsA_cons fun Z q1 => ?_; simp only [go_sem, seval, -List.reduceReplicate]; (repeat' with_reducible refine And.intro ?_ ?_); all_goals first | (refine q1 _ ?_; clear q1 Z) | omega | rfl | decide | assumption | (intro _; omega) | (simp; done) | (simp; omega))
  refine opsA_nil (r _ ?_)
  clear r R
  try simp only [go_sem, Nat.reduceBEq]
  refine thenK.normal ?_
  refine SA.cond rfl ?_ ?_
  · intro hb1
    simp only [decide_eq_true_eq, decide_eq_false_iff_not, Int.not_lt, Int.not_le] at hb1
    refine SA.skip ?_
    refine thenK.normal (SA.seq ?_)
    refine SA.block ?_
    refine SA.seq ?_
    refine SA.region ok (by kernel_rfl) [0, 1, 2, 3, 8, 9] ?_
    intro R r
    simp only [go_sem, strip]
    iterate 2 (refine opsA_cons fun Z q1 => ?_; simp only [go_sem, seval, -List.reduceReplicate]; (repeat' with_reducible refine And.intro ?_ ?_); all_goals first | (refine q1 _ ?_; clear q1 Z) | omega | rfl | decide | assumption | (intro _; omega) | (simp; done) | (simp; omega))
    refine opsA_nil (r _ ?_)
    clear r R
    try simp only [go_sem, Nat.reduceBEq]
    refine thenK.normal (SA.block ?_)
    refine SA.weaken (St.le.of_eq (by first | rfl | simp)) (SA.loop (fun n τ => ∃ (u : Unit), n = 0 ∧ (i < b) ∧ τ = { tm := [(0, true, .fs 68 (l.map Edge.v) false), (1, true, .int .i64 a), (2, true, .int .i64 b), (3, true, .fn 57 []), (8, true, .int .i64 i), (9, true, .int .i64 i)], ob := [], out := [], nt := 53 }) (0) ⟨(), rfl, by omega, rfl⟩ ?_)
    rintro n τ ⟨u, hn, hib2, rfl⟩
    refine SA.seq ?_
    refine SA.seq ?_
    have hlt : i < l.length := by omega
    have hlate : decide (ecmp (l.getD i default) (l.getD (i - 1) default) < 0) = false := decide_eq_false (later hs (show i - 1 < i by omega) hlt)
    have hwm : IntKind.i64.wrap ((i : Int) - 1) = ((i - 1 : Nat) : Int) := by rw [wrap64_ok (by omega) (by omega)]; omega
    refine SA.regionQ ok mixed (by kernel_rfl) (by kernel_rfl) [0, 1, 2, 3, 8, 9, 34] ?_
    intro R r
    simp only [go_sem, strip]
    iterate 14 (refine opsQ_cons fun Z q1 => ?_; simp only [go_sem, seval, -List.reduceReplicate, hwm, getD_map Edge.v l hlt, getD_map Edge.v l (show i - 1 < l.length by omega)]; (repeat' with_reducible refine And.intro ?_ ?_); all_goals first | (refine q1 _ ?_; clear q1 Z) | omega | rfl | decide | assumption | (intro _; omega) | (simp; done) | (simp; omega) | (simp [roomFor, maxLen, by39, by3, by68, by70, by23] <;> omega))
    refine opsQ_cons fun Z q1 => ?_
    simp only [go_sem, seval, -List.reduceReplicate, hwm, getD_map Edge.v l hlt, getD_map Edge.v l (show i - 1 < l.length by omega)]
    repeat' with_reducible refine And.intro ?_ ?_
    all_goals try (first | omega | assumption | (intro _; omega))
    first | refine ⟨_, _, rfl, _, CallQ.ctr ok (ecmp_ctr (l.getD i default) (l.getD (i - 1) default)) (by first | rfl | (simp [argsV, toVs, contentV, toV, capsV, capsE, ty22, ty25, ty3, ty4, ty81, ty39, ty40, ty42, ty37, ty2, ty23, ty24, ty46, ty68, ty65, ty70, ty69, ty90, ty77, ty59, ty98, List.length_map, List.take_of_length_le])) rfl, ?_⟩ | refine ⟨_, _, rfl, _, fun hg => CallQ.ctr ok (ecmp_ctr (l.getD i default) (l.getD (i - 1) default)) (by first | rfl | (simp [argsV, toVs, contentV, toV, capsV, capsE, ty22, ty25, ty3, ty4, ty81, ty39, ty40, ty42, ty37, ty2, ty23, ty24, ty46, ty68, ty65, ty70, ty69, ty90, ty77, ty59, ty98, List.length_map, List.take_of_length_le])) rfl, ?_⟩
    simp only [go_sem, seval, -List.reduceReplicate, hwm, getD_map Edge.v l hlt, getD_map Edge.v l (show i - 1 < l.length by omega)]
    repeat' with_reducible refine And.intro ?_ ?_
    all_goals first | (refine q1 _ ?_; clear q1 Z) | omega | rfl | decide | assumption | (intro _; omega) | (simp; done) | (simp; omega) | (simp [roomFor, maxLen, by39, by3, by68, by70, by23] <;> omega)
    iterate 2 (refine opsQ_cons fun Z q1 => ?_; simp only [go_sem, seval, -List.reduceReplicate, hwm, getD_map Edge.v l hlt, getD_map Edge.v l (show i - 1 < l.length by omega)]; (repeat' with_reducible refine And.intro ?_ ?_); all_goals first | (refine q1 _ ?_; clear q1 Z) | omega | rfl | decide | assumption | (intro _; omega) | (simp; done) | (simp; omega) | (simp [roomFor, maxLen, by39, by3, by68, by70, by23] <;> omega))
    refine opsQ_nil (r _ ?_)
    clear r R
    try simp only [go_sem, Nat.reduceBEq]
    refine thenK.normal ?_
    refine SA.cond rfl ?_ ?_
    · intro hb2
      skip
      simp only [hlate, Bool.cond_false_right, Bool.and_false, Bool.false_eq_true] at hb2
    · intro hb2
      skip
      refine SA.exit ?_
      refine thenK.exit ?_
      refine loopK.exit ?_
      refine blockK.hit ?_
      refine blockK.normal (thenK.normal ?_)
      refine SA.region ok (by kernel_rfl) [0, 1, 2, 3, 8] ?_
      intro R r
      simp only [go_sem, strip]
      iterate 3 (refine opsA_cons fun Z q1 => ?_; simp only [go_sem, seval, -List.reduceReplicate]; (repeat' with_reducible refine And.intro ?_ ?_); all_goals first | (refine q1 _ ?_; clear q1 Z) | omega | rfl | decide | assumption | (intro _; omega) | (simp; done) | (simp; omega))
      refine opsA_nil (r _ ?_)
      clear r R
      try simp only [go_sem, Nat.reduceBEq]
      refine loopK.normal (b - (i + 1)) _ (by omega) (St.le.of_eq (by rw [wrap_succ (show i < l.length + 1 by omega) hm])) ⟨i + 1, rfl, by omega, rfl⟩
  · intro hb1
    simp only [decide_eq_true_eq, decide_eq_false_iff_not, Int.not_lt, Int.not_le] at hb1
    refine SA.exit ?_
    refine thenK.exit ?_
    refine loopK.exit ?_
    refine blockK.hit ?_
    refine ctrK.normal ?_
    simp only [resA, evalO, resV, backK, outE, toV, ty4, ty3, List.lookup_cons, List.lookup_nil, beq_self_eq_true, forall_const, true_and, and_true]
    all_goals exact ⟨trivial, trivial⟩

-- slices.symMergeCmpFunc[scarab/api.LockEdge]
set_option maxHeartbeats 4000000 in
theorem symMerge_step (l : List Edge) (hl : l.length ≤ 100000) (hs : l.Pairwise elt) (a m b : Nat) (ham : a < m) (hmb : m < b) (hb : b ≤ l.length) (ih : ∀ a' m' b' : Nat, b' - a' < b - a → a' < m' → m' < b' → b' ≤ l.length → Ctr Go.Proofs.Try.prog tab 70 [46, 3, 3, 3, 98] [] [.list (l.map Edge.v), .int a', .int m', .int b', .fnv 57] []) : Ctr Go.Proofs.Try.prog tab 70 [46, 3, 3, 3, 98] [] [.list (l.map Edge.v), .int a, .int m, .int b, .fnv 57] [] := by
  have hm : l.length + 1 ≤ maxLen := Nat.le_trans (Nat.succ_le_succ hl) (by decide)
  have hml : b ≤ maxLen := by omega
  have hwma : IntKind.i64.wrap ((m : Int) - a) = ((m - a : Nat) : Int) := by rw [wrap64_ok (by omega) (by omega)]; omega
  have hwbm : IntKind.i64.wrap ((b : Int) - m) = ((b - m : Nat) : Int) := by rw [wrap64_ok (by omega) (by omega)]; omega
  have hwm1 : IntKind.i64.wrap ((m : Int) - 1) = ((m - 1 : Nat) : Int) := by rw [wrap64_ok (by omega) (by omega)]; omega
  have hal : a < l.length := by omega
  have hmlt : m < l.length := by omega
  obtain ⟨mid, hmid⟩ : ∃ mid : Nat, mid = (a + b) / 2 := ⟨_, rfl⟩
  have hwn : IntKind.i64.wrap ((mid : Int) + m) = ((mid + m : Nat) : Int) := by rw [wrap64_ok (by omega) (by omega)]; omega
  have hwp : IntKind.i64.wrap (((mid + m : Nat) : Int) - 1) = ((mid + m - 1 : Nat) : Int) := by rw [wrap64_ok (by omega) (by omega)]; omega
  have e20t : mid < m → IntKind.i64.wrap (((mid + m : Nat) : Int) - b) = ((mid + m - b : Nat) : Int) := by intro h; rw [wrap64_ok (by omega) (by omega)]; omega
  refine Ctr.body ok Go.Proofs.Try.func70 rfl rfl 220 rfl [] rfl (by simp [fromVs]) ?_
  simp only [fromVs, fromV, args0, V.toList_list, V.toInt_int, V.toBool_bool, Nat.zero_add, Nat.reduceAdd, ty3, ty46, ty98]
  refine SA.seq ?_
  refine SA.seq ?_
  refine SA.region ok (by kernel_rfl) [0, 1, 2, 3, 4, 28] ?_
  intro R r
  simp only [go_sem, strip]
  iterate 4 (refine opsA_cons fun Z q1 => ?_; simp only [go_sem, seval, -List.reduceReplicate, hwma]; (repeat' with_reducible refine And.intro ?_ ?_); all_goals first | (refine q1 _ ?_; clear q1 Z) | omega | rfl | decide | assumption | (intro _; omega) | (simp; done) | (simp; omega))
  refine opsA_nil (r _ ?_)
  clear r R
  try simp only [go_sem, Nat.reduceBEq]
  refine thenK.normal ?_
  refine SA.cond rfl ?_ ?_
  · intro hb1
    simp only [decide_eq_true_eq, decide_eq_false_iff_not, Int.not_lt, Int.not_le] at hb1
    refine SA.seq ?_
    refine SA.region ok (by kernel_rfl) [0, 1, 3, 4, 10] ?_
    intro R r
    simp only [go_sem, strip]
    iterate 2 (refine opsA_cons fun Z q1 => ?_; simp only [go_sem, seval, -List.reduceReplicate]; (repeat' with_reducible refine And.intro ?_ ?_); all_goals first | (refine q1 _ ?_; clear q1 Z) | omega | rfl | decide | assumption | (intro _; omega) | (simp; done) | (simp; omega))
    refine opsA_nil (r _ ?_)
    clear r R
    try simp only [go_sem, Nat.reduceBEq]
    refine thenK.normal (SA.seq ?_)
    refine SA.region ok (by kernel_rfl) [0, 1, 4, 10, 11] ?_
    intro R r
    simp only [go_sem, strip]
    iterate 2 (refine opsA_cons fun Z q1 => ?_; simp only [go_sem, seval, -List.reduceReplicate]; (repeat' with_reducible refine And.intro ?_ ?_); all_goals first | (refine q1 _ ?_; clear q1 Z) | omega | rfl | decide | assumption | (intro _; omega) | (simp; done) | (simp; omega))
    refine opsA_nil (r _ ?_)
    clear r R
    try simp only [go_sem, Nat.reduceBEq]
    refine thenK.normal (SA.seq ?_)
    refine SA.block ?_
    refine SA.weaken (St.le.of_eq (by first | rfl | simp)) (SA.loop (fun n τ => ∃ (j : Nat), n = j - m ∧ (m ≤ j ∧ j ≤ b) ∧ τ = { tm := [(0, true, .fs 68 (l.map Edge.v) false), (1, true, .int .i64 a), (4, true, .fn 57 []), (10, true, .int .i64 m), (11, true, .int .i64 j)], ob := [], out := [], nt := 220 }) (b - m) ⟨b, rfl, by omega, rfl⟩ ?_)
    rintro n τ ⟨j, hn, ⟨hmj, hjb⟩, rfl⟩
    refine SA.seq ?_
    refine SA.seq ?_
    refine SA.region ok (by kernel_rfl) [0, 1, 4, 10, 11, 33] ?_
    intro R r
    simp only [go_sem, strip]
    iterate 3 (refine opsA_cons fun Z q1 => ?_; simp only [go_sem, seval, -List.reduceReplicate]; (repeat' with_reducible refine And.intro ?_ ?_); all_goals first | (refine q1 _ ?_; clear q1 Z) | omega | rfl | decide | assumption | (intro _; omega) | (simp; done) | (simp; omega))
    refine opsA_nil (r _ ?_)
    clear r R
    try simp only [go_sem, Nat.reduceBEq]
    refine thenK.normal ?_
    refine SA.cond rfl ?_ ?_
    · intro hb2
      simp only [decide_eq_true_eq, decide_eq_false_iff_not, Int.not_lt, Int.not_le] at hb2
      refine SA.skip ?_
      refine thenK.normal (SA.block ?_)
      refine SA.seq ?_
      refine SA.region ok (by kernel_rfl) [0, 1, 4, 10, 11, 12] ?_
      intro R r
      simp only [go_sem, strip]
      iterate 5 (refine opsA_cons fun Z q1 => ?_; simp only [go_sem, seval, -List.reduceReplicate]; (repeat' with_reducible refine And.intro ?_ ?_); all_goals first | (refine q1 _ ?_; clear q1 Z) | omega | rfl | decide | assumption | (intro _; omega) | (simp; done) | (simp; omega))
      refine opsA_cons fun Z q1 => ?_
      simp only [go_sem, seval, -List.reduceReplicate]
      repeat' with_reducible refine And.intro ?_ ?_
      all_goals first | (refine q1 _ ?_; clear q1 Z) | omega | rfl | decide | assumption | (intro _; omega) | (simp; done) | (simp; omega)
      rw [halfway (n := b) (show m ≤ j by omega) (by omega) hml]
      iterate 1 (refine opsA_cons fun Z q1 => ?_; simp only [go_sem, seval, -List.reduceReplicate]; (repeat' with_reducible refine And.intro ?_ ?_); all_goals first | (refine q1 _ ?_; clear q1 Z) | omega | rfl | decide | assumption | (intro _; omega) | (simp; done) | (simp; omega))
      refine opsA_nil (r _ ?_)
      clear r R
      try simp only [go_sem, Nat.reduceBEq]
      refine thenK.normal (SA.seq ?_)
      refine SA.regionQ ok mixed (by kernel_rfl) (by kernel_rfl) [0, 1, 4, 10, 11, 12, 50] ?_
      intro R r
      simp only [go_sem, strip]
      iterate 9 (refine opsQ_cons fun Z q1 => ?_; simp only [go_sem, seval, -List.reduceReplicate, getD_map Edge.v l (show (m + j) / 2 < l.length by omega), getD_map Edge.v l hal]; (repeat' with_reducible refine And.intro ?_ ?_); all_goals first | (refine q1 _ ?_; clear q1 Z) | omega | rfl | decide | assumption | (intro _; omega) | (simp; done) | (simp; omega) | (simp [roomFor, maxLen, by39, by3, by68, by70, by23] <;> omega))
      refine opsQ_cons fun Z q1 => ?_
      simp only [go_sem, seval, -List.reduceReplicate, getD_map Edge.v l (show (m + j) / 2 < l.length by omega), getD_map Edge.v l hal]
      repeat' with_reducible refine And.intro ?_ ?_
      all_goals try (first | omega | assumption | (intro _; omega))
      first | refine ⟨_, _, rfl, _, CallQ.ctr ok (ecmp_ctr (l.getD ((m + j) / 2) default) (l.getD a default)) (by first | rfl | (simp [argsV, toVs, contentV, toV, capsV, capsE, ty22, ty25, ty3, ty4, ty81, ty39, ty40, ty42, ty37, ty2, ty23, ty24, ty46, ty68, ty65, ty70, ty69, ty90, ty77, ty59, ty98, List.length_map, List.take_of_length_le])) rfl, ?_⟩ | refine ⟨_, _, rfl, _, fun hg => CallQ.ctr ok (ecmp_ctr (l.getD ((m + j) / 2) default) (l.getD a default)) (by first | rfl | (simp [argsV, toVs, contentV, toV, capsV, capsE, ty22, ty25, ty3, ty4, ty81, ty39, ty40, ty42, ty37, ty2, ty23, ty24, ty46, ty68, ty65, ty70, ty69, ty90, ty77, ty59, ty98, List.length_map, List.take_of_length_le])) rfl, ?_⟩
      simp only [go_sem, seval, -List.reduceReplicate, getD_map Edge.v l (show (m + j) / 2 < l.length by omega), getD_map Edge.v l hal]
      repeat' with_reducible refine And.intro ?_ ?_
      all_goals first | (refine q1 _ ?_; clear q1 Z) | omega | rfl | decide | assumption | (intro _; omega) | (simp; done) | (simp; omega) | (simp [roomFor, maxLen, by39, by3, by68, by70, by23] <;> omega)
      iterate 1 (refine opsQ_cons fun Z q1 => ?_; simp only [go_sem, seval, -List.reduceReplicate, getD_map Edge.v l (show (m + j) / 2 < l.length by omega), getD_map Edge.v l hal]; (repeat' with_reducible refine And.intro ?_ ?_); all_goals first | (refine q1 _ ?_; clear q1 Z) | omega | rfl | decide | assumption | (intro _; omega) | (simp; done) | (simp; omega) | (simp [roomFor, maxLen, by39, by3, by68, by70, by23] <;> omega))
      refine opsQ_nil (r _ ?_)
      clear r R
      try simp only [go_sem, Nat.reduceBEq]
      refine thenK.normal ?_
      refine SA.cond rfl ?_ ?_
      · intro hb3
        simp only [decide_eq_true_eq, decide_eq_false_iff_not, Int.not_lt, Int.not_le] at hb3
        exact absurd hb3 (later hs (show a < (m + j) / 2 by omega) (by omega))
      · intro hb3
        simp only [decide_eq_true_eq, decide_eq_false_iff_not, Int.not_lt, Int.not_le] at hb3
        refine SA.region ok (by kernel_rfl) [0, 1, 4, 10, 11] ?_
        intro R r
        simp only [go_sem, strip]
        iterate 2 (refine opsA_cons fun Z q1 => ?_; simp only [go_sem, seval, -List.reduceReplicate]; (repeat' with_reducible refine And.intro ?_ ?_); all_goals first | (refine q1 _ ?_; clear q1 Z) | omega | rfl | decide | assumption | (intro _; omega) | (simp; done) | (simp; omega))
        refine opsA_nil (r _ ?_)
        clear r R
        try simp only [go_sem, Nat.reduceBEq]
        refine blockK.normal ?_
        refine loopK.normal ((m + j) / 2 - m) _ (by omega) St.le.refl ⟨(m + j) / 2, rfl, by omega, rfl⟩
    · intro hb2
      simp only [decide_eq_true_eq, decide_eq_false_iff_not, Int.not_lt, Int.not_le] at hb2
      refine SA.exit ?_
      refine thenK.exit ?_
      refine loopK.exit ?_
      refine blockK.hit ?_
      refine thenK.normal (SA.seq ?_)
      refine SA.seq ?_
      refine SA.region ok (by kernel_rfl) [0, 10, 13] ?_
      intro R r
      simp only [go_sem, strip]
      iterate 2 (refine opsA_cons fun Z q1 => ?_; simp only [go_sem, seval, -List.reduceReplicate]; (repeat' with_reducible refine And.intro ?_ ?_); all_goals first | (refine q1 _ ?_; clear q1 Z) | omega | rfl | decide | assumption | (intro _; omega) | (simp; done) | (simp; omega))
      refine opsA_nil (r _ ?_)
      clear r R
      try simp only [go_sem, Nat.reduceBEq]
      refine thenK.normal (SA.block ?_)
      refine SA.weaken (St.le.of_eq (by first | rfl | simp)) (SA.loop (fun n τ => ∃ (u : Unit), n = 0 ∧ (True) ∧ τ = { tm := [(0, true, .fs 68 (l.map Edge.v) false), (10, true, .int .i64 m), (13, true, .int .i64 a)], ob := [], out := [], nt := 220 }) (0) ⟨(), rfl, trivial, rfl⟩ ?_)
      rintro n τ ⟨u, hn, hu1, rfl⟩
      refine SA.seq ?_
      refine SA.seq ?_
      refine SA.region ok (by kernel_rfl) [0, 10, 13, 58] ?_
      intro R r
      simp only [go_sem, strip]
      iterate 4 (refine opsA_cons fun Z q1 => ?_; simp only [go_sem, seval, -List.reduceReplicate, hwm1]; (repeat' with_reducible refine And.intro ?_ ?_); all_goals first | (refine q1 _ ?_; clear q1 Z) | omega | rfl | decide | assumption | (intro _; omega) | (simp; done) | (simp; omega))
      refine opsA_nil (r _ ?_)
      clear r R
      try simp only [go_sem, Nat.reduceBEq]
      refine thenK.normal ?_
      refine SA.cond rfl ?_ ?_
      · intro hb4
        simp only [decide_eq_true_eq, decide_eq_false_iff_not, Int.not_lt, Int.not_le] at hb4
        exfalso; omega
      · intro hb4
        simp only [decide_eq_true_eq, decide_eq_false_iff_not, Int.not_lt, Int.not_le] at hb4
        refine SA.exit ?_
        refine thenK.exit ?_
        refine loopK.exit ?_
        refine blockK.hit ?_
        refine thenK.normal (SA.ret ?_)
        refine thenK.ret ?_
        refine ctrK.ret ?_
        simp only [resA, evalO, resV, backK, outE, toV, ty4, ty3, List.lookup_cons, List.lookup_nil, beq_self_eq_true, forall_const, true_and, and_true]
        all_goals exact ⟨trivial, trivial⟩
  · intro hb1
    simp only [decide_eq_true_eq, decide_eq_false_iff_not, Int.not_lt, Int.not_le] at hb1
    refine SA.skip ?_
    refine thenK.normal (SA.seq ?_)
    refine SA.seq ?_
    refine SA.region ok (by kernel_rfl) [0, 1, 2, 3, 4, 80] ?_
    intro R r
    simp only [go_sem, strip]
    iterate 4 (refine opsA_cons fun Z q1 => ?_; simp only [go_sem, seval, -List.reduceReplicate, hwbm]; (repeat' with_reducible refine And.intro ?_ ?_); all_goals first | (refine q1 _ ?_; clear q1 Z) | omega | rfl | decide | assumption | (intro _; omega) | (simp; done) | (simp; omega))
    refine opsA_nil (r _ ?_)
    clear r R
    try simp only [go_sem, Nat.reduceBEq]
    refine thenK.normal ?_
    refine SA.cond rfl ?_ ?_
    · intro hb5
      simp only [decide_eq_true_eq, decide_eq_false_iff_not, Int.not_lt, Int.not_le] at hb5
      refine SA.seq ?_
      refine SA.region ok (by kernel_rfl) [0, 2, 4, 14] ?_
      intro R r
      simp only [go_sem, strip]
      iterate 2 (refine opsA_cons fun Z q1 => ?_; simp only [go_sem, seval, -List.reduceReplicate]; (repeat' with_reducible refine And.intro ?_ ?_); all_goals first | (refine q1 _ ?_; clear q1 Z) | omega | rfl | decide | assumption | (intro _; omega) | (simp; done) | (simp; omega))
      refine opsA_nil (r _ ?_)
      clear r R
      try simp only [go_sem, Nat.reduceBEq]
      refine thenK.normal (SA.seq ?_)
      refine SA.region ok (by kernel_rfl) [0, 2, 4, 14, 15] ?_
      intro R r
      simp only [go_sem, strip]
      iterate 2 (refine opsA_cons fun Z q1 => ?_; simp only [go_sem, seval, -List.reduceReplicate]; (repeat' with_reducible refine And.intro ?_ ?_); all_goals first | (refine q1 _ ?_; clear q1 Z) | omega | rfl | decide | assumption | (intro _; omega) | (simp; done) | (simp; omega))
      refine opsA_nil (r _ ?_)
      clear r R
      try simp only [go_sem, Nat.reduceBEq]
      refine thenK.normal (SA.seq ?_)
      refine SA.block ?_
      refine SA.weaken (St.le.of_eq (by first | rfl | simp)) (SA.loop (fun n τ => ∃ (i : Nat), n = m - i ∧ (a ≤ i ∧ i ≤ m) ∧ τ = { tm := [(0, true, .fs 68 (l.map Edge.v) false), (2, true, .int .i64 m), (4, true, .fn 57 []), (14, true, .int .i64 i), (15, true, .int .i64 m)], ob := [], out := [], nt := 220 }) (m - a) ⟨a, rfl, by omega, rfl⟩ ?_)
      rintro n τ ⟨i, hn, ⟨hai, him⟩, rfl⟩
      refine SA.seq ?_
      refine SA.seq ?_
      refine SA.region ok (by kernel_rfl) [0, 2, 4, 14, 15, 85] ?_
      intro R r
      simp only [go_sem, strip]
      iterate 3 (refine opsA_cons fun Z q1 => ?_; simp only [go_sem, seval, -List.reduceReplicate]; (repeat' with_reducible refine And.intro ?_ ?_); all_goals first | (refine q1 _ ?_; clear q1 Z) | omega | rfl | decide | assumption | (intro _; omega) | (simp; done) | (simp; omega))
      refine opsA_nil (r _ ?_)
      clear r R
      try simp only [go_sem, Nat.reduceBEq]
      refine thenK.normal ?_
      refine SA.cond rfl ?_ ?_
      · intro hb6
        simp only [decide_eq_true_eq, decide_eq_false_iff_not, Int.not_lt, Int.not_le] at hb6
        refine SA.skip ?_
        refine thenK.normal (SA.block ?_)
        refine SA.seq ?_
        refine SA.region ok (by kernel_rfl) [0, 2, 4, 14, 15, 16] ?_
        intro R r
        simp only [go_sem, strip]
        iterate 5 (refine opsA_cons fun Z q1 => ?_; simp only [go_sem, seval, -List.reduceReplicate]; (repeat' with_reducible refine And.intro ?_ ?_); all_goals first | (refine q1 _ ?_; clear q1 Z) | omega | rfl | decide | assumption | (intro _; omega) | (simp; done) | (simp; omega))
        refine opsA_cons fun Z q1 => ?_
        simp only [go_sem, seval, -List.reduceReplicate]
        repeat' with_reducible refine And.intro ?_ ?_
        all_goals first | (refine q1 _ ?_; clear q1 Z) | omega | rfl | decide | assumption | (intro _; omega) | (simp; done) | (simp; omega)
        rw [halfway (n := m) (show i ≤ m by omega) (by omega) (by omega)]
        iterate 1 (refine opsA_cons fun Z q1 => ?_; simp only [go_sem, seval, -List.reduceReplicate]; (repeat' with_reducible refine And.intro ?_ ?_); all_goals first | (refine q1 _ ?_; clear q1 Z) | omega | rfl | decide | assumption | (intro _; omega) | (simp; done) | (simp; omega))
        refine opsA_nil (r _ ?_)
        clear r R
        try simp only [go_sem, Nat.reduceBEq]
        refine thenK.normal (SA.seq ?_)
        refine SA.regionQ ok mixed (by kernel_rfl) (by kernel_rfl) [0, 2, 4, 14, 15, 16, 103] ?_
        intro R r
        simp only [go_sem, strip]
        iterate 9 (refine opsQ_cons fun Z q1 => ?_; simp only [go_sem, seval, -List.reduceReplicate, getD_map Edge.v l (show (i + m) / 2 < l.length by omega), getD_map Edge.v l hmlt]; (repeat' with_reducible refine And.intro ?_ ?_); all_goals first | (refine q1 _ ?_; clear q1 Z) | omega | rfl | decide | assumption | (intro _; omega) | (simp; done) | (simp; omega) | (simp [roomFor, maxLen, by39, by3, by68, by70, by23] <;> omega))
        refine opsQ_cons fun Z q1 => ?_
        simp only [go_sem, seval, -List.reduceReplicate, getD_map Edge.v l (show (i + m) / 2 < l.length by omega), getD_map Edge.v l hmlt]
        repeat' with_reducible refine And.intro ?_ ?_
        all_goals try (first | omega | assumption | (intro _; omega))
        first | refine ⟨_, _, rfl, _, CallQ.ctr ok (ecmp_ctr (l.getD m default) (l.getD ((i + m) / 2) default)) (by first | rfl | (simp [argsV, toVs, contentV, toV, capsV, capsE, ty22, ty25, ty3, ty4, ty81, ty39, ty40, ty42, ty37, ty2, ty23, ty24, ty46, ty68, ty65, ty70, ty69, ty90, ty77, ty59, ty98, List.length_map, List.take_of_length_le])) rfl, ?_⟩ | refine ⟨_, _, rfl, _, fun hg => CallQ.ctr ok (ecmp_ctr (l.getD m default) (l.getD ((i + m) / 2) default)) (by first | rfl | (simp [argsV, toVs, contentV, toV, capsV, capsE, ty22, ty25, ty3, ty4, ty81, ty39, ty40, ty42, ty37, ty2, ty23, ty24, ty46, ty68, ty65, ty70, ty69, ty90, ty77, ty59, ty98, List.length_map, List.take_of_length_le])) rfl, ?_⟩
        simp only [go_sem, seval, -List.reduceReplicate, getD_map Edge.v l (show (i + m) / 2 < l.length by omega), getD_map Edge.v l hmlt]
        repeat' with_reducible refine And.intro ?_ ?_
        all_goals first | (refine q1 _ ?_; clear q1 Z) | omega | rfl | decide | assumption | (intro _; omega) | (simp; done) | (simp; omega) | (simp [roomFor, maxLen, by39, by3, by68, by70, by23] <;> omega)
        iterate 2 (refine opsQ_cons fun Z q1 => ?_; simp only [go_sem, seval, -List.reduceReplicate, getD_map Edge.v l (show (i + m) / 2 < l.length by omega), getD_map Edge.v l hmlt]; (repeat' with_reducible refine And.intro ?_ ?_); all_goals first | (refine q1 _ ?_; clear q1 Z) | omega | rfl | decide | assumption | (intro _; omega) | (simp; done) | (simp; omega) | (simp [roomFor, maxLen, by39, by3, by68, by70, by23] <;> omega))
        refine opsQ_nil (r _ ?_)
        clear r R
        try simp only [go_sem, Nat.reduceBEq]
        refine thenK.normal ?_
        refine SA.cond rfl ?_ ?_
        · intro hb7
          skip
          refine SA.region ok (by kernel_rfl) [0, 2, 4, 14, 15] ?_
          intro R r
          simp only [go_sem, strip]
          iterate 3 (refine opsA_cons fun Z q1 => ?_; simp only [go_sem, seval, -List.reduceReplicate]; (repeat' with_reducible refine And.intro ?_ ?_); all_goals first | (refine q1 _ ?_; clear q1 Z) | omega | rfl | decide | assumption | (intro _; omega) | (simp; done) | (simp; omega))
          refine opsA_nil (r _ ?_)
          clear r R
          try simp only [go_sem, Nat.reduceBEq]
          refine blockK.normal ?_
          refine loopK.normal (m - ((i + m) / 2 + 1)) _ (by omega) (St.le.of_eq (by rw [wrap_succ (show (i + m) / 2 < m by omega) (by omega)])) ⟨(i + m) / 2 + 1, rfl, by omega, rfl⟩
        · intro hb7
          skip
          have hlt2 := later hs (show (i + m) / 2 < m by omega) hmlt
          simp only [decide_eq_false hlt2, Bool.not_false, Bool.true_eq_false] at hb7
      · intro hb6
        simp only [decide_eq_true_eq, decide_eq_false_iff_not, Int.not_lt, Int.not_le] at hb6
        refine SA.exit ?_
        refine thenK.exit ?_
        refine loopK.exit ?_
        refine blockK.hit ?_
        refine thenK.normal (SA.seq ?_)
        refine SA.seq ?_
        refine SA.region ok (by kernel_rfl) [0, 14, 17] ?_
        intro R r
        simp only [go_sem, strip]
        iterate 2 (refine opsA_cons fun Z q1 => ?_; simp only [go_sem, seval, -List.reduceReplicate]; (repeat' with_reducible refine And.intro ?_ ?_); all_goals first | (refine q1 _ ?_; clear q1 Z) | omega | rfl | decide | assumption | (intro _; omega) | (simp; done) | (simp; omega))
        refine opsA_nil (r _ ?_)
        clear r R
        try simp only [go_sem, Nat.reduceBEq]
        refine thenK.normal (SA.block ?_)
        refine SA.weaken (St.le.of_eq (by rw [show i = m by omega])) (SA.loop (fun n τ => ∃ (u : Unit), n = 0 ∧ (True) ∧ τ = { tm := [(0, true, .fs 68 (l.map Edge.v) false), (14, true, .int .i64 i), (17, true, .int .i64 m)], ob := [], out := [], nt := 220 }) (0) ⟨(), rfl, trivial, rfl⟩ ?_)
        rintro n τ ⟨u, hn, hu3, rfl⟩
        refine SA.seq ?_
        refine SA.seq ?_
        refine SA.region ok (by kernel_rfl) [0, 14, 17, 110] ?_
        intro R r
        simp only [go_sem, strip]
        iterate 3 (refine opsA_cons fun Z q1 => ?_; simp only [go_sem, seval, -List.reduceReplicate]; (repeat' with_reducible refine And.intro ?_ ?_); all_goals first | (refine q1 _ ?_; clear q1 Z) | omega | rfl | decide | assumption | (intro _; omega) | (simp; done) | (simp; omega))
        refine opsA_nil (r _ ?_)
        clear r R
        try simp only [go_sem, Nat.reduceBEq]
        refine thenK.normal ?_
        refine SA.cond rfl ?_ ?_
        · intro hb8
          simp only [decide_eq_true_eq, decide_eq_false_iff_not, Int.not_lt, Int.not_le] at hb8
          exfalso; omega
        · intro hb8
          simp only [decide_eq_true_eq, decide_eq_false_iff_not, Int.not_lt, Int.not_le] at hb8
          refine SA.exit ?_
          refine thenK.exit ?_
          refine loopK.exit ?_
          refine blockK.hit ?_
          refine thenK.normal (SA.ret ?_)
          refine thenK.ret ?_
          refine ctrK.ret ?_
          simp only [resA, evalO, resV, backK, outE, toV, ty4, ty3, List.lookup_cons, List.lookup_nil, beq_self_eq_true, forall_const, true_and, and_true]
          all_goals exact ⟨trivial, trivial⟩
    · intro hb5
      simp only [decide_eq_true_eq, decide_eq_false_iff_not, Int.not_lt, Int.not_le] at hb5
      refine SA.skip ?_
      refine thenK.normal (SA.seq ?_)
      refine SA.region ok (by kernel_rfl) [0, 1, 2, 3, 4, 18] ?_
      intro R r
      simp only [go_sem, strip]
      iterate 5 (refine opsA_cons fun Z q1 => ?_; simp only [go_sem, seval, -List.reduceReplicate]; (repeat' with_reducible refine And.intro ?_ ?_); all_goals first | (refine q1 _ ?_; clear q1 Z) | omega | rfl | decide | assumption | (intro _; omega) | (simp; done) | (simp; omega))
      refine opsA_cons fun Z q1 => ?_
      simp only [go_sem, seval, -List.reduceReplicate]
      repeat' with_reducible refine And.intro ?_ ?_
      all_goals first | (refine q1 _ ?_; clear q1 Z) | omega | rfl | decide | assumption | (intro _; omega) | (simp; done) | (simp; omega)
      rw [halfway (n := b) (show a ≤ b by omega) (by omega) hml, ← hmid]
      iterate 1 (refine opsA_cons fun Z q1 => ?_; simp only [go_sem, seval, -List.reduceReplicate]; (repeat' with_reducible refine And.intro ?_ ?_); all_goals first | (refine q1 _ ?_; clear q1 Z) | omega | rfl | decide | assumption | (intro _; omega) | (simp; done) | (simp; omega))
      refine opsA_nil (r _ ?_)
      clear r R
      try simp only [go_sem, Nat.reduceBEq]
      refine thenK.normal (SA.seq ?_)
      refine SA.region ok (by kernel_rfl) [0, 1, 2, 3, 4, 18, 19] ?_
      intro R r
      simp only [go_sem, strip]
      iterate 4 (refine opsA_cons fun Z q1 => ?_; simp only [go_sem, seval, -List.reduceReplicate, hwn]; (repeat' with_reducible refine And.intro ?_ ?_); all_goals first | (refine q1 _ ?_; clear q1 Z) | omega | rfl | decide | assumption | (intro _; omega) | (simp; done) | (simp; omega))
      refine opsA_nil (r _ ?_)
      clear r R
      try simp only [go_sem, Nat.reduceBEq]
      refine thenK.normal (SA.seq ?_)
      refine SA.region ok (by kernel_rfl) [0, 1, 2, 3, 4, 18, 19] ?_
      intro R r
      simp only [go_sem, strip]
      iterate 2 (refine opsA_cons fun Z q1 => ?_; simp only [go_sem, seval, -List.reduceReplicate]; (repeat' with_reducible refine And.intro ?_ ?_); all_goals first | (refine q1 _ ?_; clear q1 Z) | omega | rfl | decide | assumption | (intro _; omega) | (simp; done) | (simp; omega))
      refine opsA_nil (r _ ?_)
      clear r R
      try simp only [go_sem, Nat.reduceBEq]
      refine thenK.normal (SA.seq ?_)
      refine SA.seq ?_
      refine SA.region ok (by kernel_rfl) [0, 1, 2, 3, 4, 18, 19, 140] ?_
      intro R r
      simp only [go_sem, strip]
      iterate 3 (refine opsA_cons fun Z q1 => ?_; simp only [go_sem, seval, -List.reduceReplicate]; (repeat' with_reducible refine And.intro ?_ ?_); all_goals first | (refine q1 _ ?_; clear q1 Z) | omega | rfl | decide | assumption | (intro _; omega) | (simp; done) | (simp; omega))
      refine opsA_nil (r _ ?_)
      clear r R
      try simp only [go_sem, Nat.reduceBEq]
      refine thenK.normal ?_
      refine SA.cond rfl ?_ ?_
      · intro hb9
        simp only [decide_eq_true_eq, decide_eq_false_iff_not, Int.not_lt, Int.not_le] at hb9
        refine SA.seq ?_
        refine SA.region ok (by kernel_rfl) [0, 1, 2, 3, 4, 18, 19, 20] ?_
        intro R r
        simp only [go_sem, strip]
        iterate 4 (refine opsA_cons fun Z q1 => ?_; simp only [go_sem, seval, -List.reduceReplicate]; (repeat' with_reducible refine And.intro ?_ ?_); all_goals first | (refine q1 _ ?_; clear q1 Z) | omega | rfl | decide | assumption | (intro _; omega) | (simp; done) | (simp; omega))
        refine opsA_nil (r _ ?_)
        clear r R
        try simp only [go_sem, Nat.reduceBEq]
        refine thenK.normal ?_
        refine SA.region ok (by kernel_rfl) [0, 1, 2, 3, 4, 18, 19, 20, 21] ?_
        intro R r
        simp only [go_sem, strip]
        iterate 2 (refine opsA_cons fun Z q1 => ?_; simp only [go_sem, seval, -List.reduceReplicate]; (repeat' with_reducible refine And.intro ?_ ?_); all_goals first | (refine q1 _ ?_; clear q1 Z) | omega | rfl | decide | assumption | (intro _; omega) | (simp; done) | (simp; omega))
        refine opsA_nil (r _ ?_)
        clear r R
        try simp only [go_sem, Nat.reduceBEq]
        obtain ⟨s0, r0, hs0, hr0⟩ : ∃ s0 r0 : Nat, s0 = mid + m - b ∧ r0 = mid := ⟨_, _, rfl, rfl⟩
        have hF : s0 ≤ r0 ∧ r0 ≤ m ∧ (r0 = mid ∧ mid < m ∨ r0 = m ∧ m ≤ mid) := by omega
        have hF2 : ∀ c, s0 ≤ c → c < r0 → m + c + 1 ≤ mid + m ∧ mid + m - 1 - c < b ∧ c < mid + m - 1 - c := by intro c h1 h2; omega
        refine thenK.normal (SA.seq ?_)
        refine SA.region ok (by kernel_rfl) [0, 1, 2, 3, 4, 18, 19, 20, 21, 22] ?_
        intro R r
        simp only [go_sem, strip]
        iterate 3 (refine opsA_cons fun Z q1 => ?_; simp only [go_sem, seval, -List.reduceReplicate, hwp]; (repeat' with_reducible refine And.intro ?_ ?_); all_goals first | (refine q1 _ ?_; clear q1 Z) | omega | rfl | decide | assumption | (intro _; omega) | (simp; done) | (simp; omega))
        refine opsA_nil (r _ ?_)
        clear r R
        try simp only [go_sem, Nat.reduceBEq]
        refine thenK.normal (SA.seq ?_)
        refine SA.block ?_
        refine SA.weaken (St.le.of_eq (by first | (rw [hs0, hr0, ← e20t (by omega)]; done) | (rw [hs0, hr0]; done) | (rw [hs0, hr0, ← e20t (by omega)]; rfl) | (rw [hs0, hr0]; rfl))) (SA.loop (fun n τ => ∃ (s : Nat), n = r0 - s ∧ (s0 ≤ s ∧ s ≤ r0) ∧ τ = { tm := [(0, true, .fs 68 (l.map Edge.v) false), (1, true, .int .i64 a), (2, true, .int .i64 m), (3, true, .int .i64 b), (4, true, .fn 57 []), (18, true, .int .i64 mid), (19, true, .int .i64 (mid + m : Nat)), (20, true, .int .i64 s), (21, true, .int .i64 r0), (22, true, .int .i64 (mid + m - 1 : Nat))], ob := [], out := [], nt := 220 }) (r0 - s0) ⟨s0, rfl, ⟨Nat.le_refl _, hF.1⟩, rfl⟩ ?_)
        rintro n τ ⟨s, hn, ⟨hs0s, hsr⟩, rfl⟩
        refine SA.seq ?_
        refine SA.seq ?_
        refine SA.region ok (by kernel_rfl) [0, 1, 2, 3, 4, 18, 19, 20, 21, 22, 151] ?_
        intro R r
        simp only [go_sem, strip]
        iterate 3 (refine opsA_cons fun Z q1 => ?_; simp only [go_sem, seval, -List.reduceReplicate]; (repeat' with_reducible refine And.intro ?_ ?_); all_goals first | (refine q1 _ ?_; clear q1 Z) | omega | rfl | decide | assumption | (intro _; omega) | (simp; done) | (simp; omega))
        refine opsA_nil (r _ ?_)
        clear r R
        try simp only [go_sem, Nat.reduceBEq]
        refine thenK.normal ?_
        refine SA.cond rfl ?_ ?_
        · intro hb10
          simp only [decide_eq_true_eq, decide_eq_false_iff_not, Int.not_lt, Int.not_le] at hb10
          refine SA.skip ?_
          refine thenK.normal (SA.block ?_)
          refine SA.seq ?_
          refine SA.region ok (by kernel_rfl) [0, 1, 2, 3, 4, 18, 19, 20, 21, 22, 23] ?_
          intro R r
          simp only [go_sem, strip]
          iterate 5 (refine opsA_cons fun Z q1 => ?_; simp only [go_sem, seval, -List.reduceReplicate]; (repeat' with_reducible refine And.intro ?_ ?_); all_goals first | (refine q1 _ ?_; clear q1 Z) | omega | rfl | decide | assumption | (intro _; omega) | (simp; done) | (simp; omega))
          refine opsA_cons fun Z q1 => ?_
          simp only [go_sem, seval, -List.reduceReplicate]
          repeat' with_reducible refine And.intro ?_ ?_
          all_goals first | (refine q1 _ ?_; clear q1 Z) | omega | rfl | decide | assumption | (intro _; omega) | (simp; done) | (simp; omega)
          rw [halfway (n := m) (show s ≤ r0 by omega) (by omega) (by omega)]
          iterate 1 (refine opsA_cons fun Z q1 => ?_; simp only [go_sem, seval, -List.reduceReplicate]; (repeat' with_reducible refine And.intro ?_ ?_); all_goals first | (refine q1 _ ?_; clear q1 Z) | omega | rfl | decide | assumption | (intro _; omega) | (simp; done) | (simp; omega))
          refine opsA_nil (r _ ?_)
          clear r R
          try simp only [go_sem, Nat.reduceBEq]
          refine thenK.normal (SA.seq ?_)
          have hc4 := hF2 ((s + r0) / 2) (by omega) (by omega)
          have hwpc : IntKind.i64.wrap (((mid + m - 1 : Nat) : Int) - (((s + r0) / 2 : Nat) : Int)) = ((mid + m - 1 - (s + r0) / 2 : Nat) : Int) := by rw [wrap64_ok (by omega) (by omega)]; omega
          refine SA.regionQ ok mixed (by kernel_rfl) (by kernel_rfl) [0, 1, 2, 3, 4, 18, 19, 20, 21, 22, 23, 171] ?_
          intro R r
          simp only [go_sem, strip]
          iterate 11 (refine opsQ_cons fun Z q1 => ?_; simp only [go_sem, seval, -List.reduceReplicate, hwpc, getD_map Edge.v l (show mid + m - 1 - (s + r0) / 2 < l.length by omega), getD_map Edge.v l (show (s + r0) / 2 < l.length by omega)]; (repeat' with_reducible refine And.intro ?_ ?_); all_goals first | (refine q1 _ ?_; clear q1 Z) | omega | rfl | decide | assumption | (intro _; omega) | (simp; done) | (simp; omega) | (simp [roomFor, maxLen, by39, by3, by68, by70, by23] <;> omega))
          refine opsQ_cons fun Z q1 => ?_
          simp only [go_sem, seval, -List.reduceReplicate, hwpc, getD_map Edge.v l (show mid + m - 1 - (s + r0) / 2 < l.length by omega), getD_map Edge.v l (show (s + r0) / 2 < l.length by omega)]
          repeat' with_reducible refine And.intro ?_ ?_
          all_goals try (first | omega | assumption | (intro _; omega))
          first | refine ⟨_, _, rfl, _, CallQ.ctr ok (ecmp_ctr (l.getD (mid + m - 1 - (s + r0) / 2) default) (l.getD ((s + r0) / 2) default)) (by first | rfl | (simp [argsV, toVs, contentV, toV, capsV, capsE, ty22, ty25, ty3, ty4, ty81, ty39, ty40, ty42, ty37, ty2, ty23, ty24, ty46, ty68, ty65, ty70, ty69, ty90, ty77, ty59, ty98, List.length_map, List.take_of_length_le])) rfl, ?_⟩ | refine ⟨_, _, rfl, _, fun hg => CallQ.ctr ok (ecmp_ctr (l.getD (mid + m - 1 - (s + r0) / 2) default) (l.getD ((s + r0) / 2) default)) (by first | rfl | (simp [argsV, toVs, contentV, toV, capsV, capsE, ty22, ty25, ty3, ty4, ty81, ty39, ty40, ty42, ty37, ty2, ty23, ty24, ty46, ty68, ty65, ty70, ty69, ty90, ty77, ty59, ty98, List.length_map, List.take_of_length_le])) rfl, ?_⟩
          simp only [go_sem, seval, -List.reduceReplicate, hwpc, getD_map Edge.v l (show mid + m - 1 - (s + r0) / 2 < l.length by omega), getD_map Edge.v l (show (s + r0) / 2 < l.length by omega)]
          repeat' with_reducible refine And.intro ?_ ?_
          all_goals first | (refine q1 _ ?_; clear q1 Z) | omega | rfl | decide | assumption | (intro _; omega) | (simp; done) | (simp; omega) | (simp [roomFor, maxLen, by39, by3, by68, by70, by23] <;> omega)
          iterate 2 (refine opsQ_cons fun Z q1 => ?_; simp only [go_sem, seval, -List.reduceReplicate, hwpc, getD_map Edge.v l (show mid + m - 1 - (s + r0) / 2 < l.length by omega), getD_map Edge.v l (show (s + r0) / 2 < l.length by omega)]; (repeat' with_reducible refine And.intro ?_ ?_); all_goals first | (refine q1 _ ?_; clear q1 Z) | omega | rfl | decide | assumption | (intro _; omega) | (simp; done) | (simp; omega) | (simp [roomFor, maxLen, by39, by3, by68, by70, by23] <;> omega))
          refine opsQ_nil (r _ ?_)
          clear r R
          try simp only [go_sem, Nat.reduceBEq]
          refine thenK.normal ?_
          refine SA.cond rfl ?_ ?_
          · intro hb11
            skip
            refine SA.region ok (by kernel_rfl) [0, 1, 2, 3, 4, 18, 19, 20, 21, 22] ?_
            intro R r
            simp only [go_sem, strip]
            iterate 3 (refine opsA_cons fun Z q1 => ?_; simp only [go_sem, seval, -List.reduceReplicate]; (repeat' with_reducible refine And.intro ?_ ?_); all_goals first | (refine q1 _ ?_; clear q1 Z) | omega | rfl | decide | assumption | (intro _; omega) | (simp; done) | (simp; omega))
            refine opsA_nil (r _ ?_)
            clear r R
            try simp only [go_sem, Nat.reduceBEq]
            refine blockK.normal ?_
            refine loopK.normal (r0 - ((s + r0) / 2 + 1)) _ (by omega) (St.le.of_eq (by rw [wrap_succ (show (s + r0) / 2 < m by omega) (by omega)])) ⟨(s + r0) / 2 + 1, rfl, by omega, rfl⟩
          · intro hb11
            skip
            have hlt2 := later hs hc4.2.2 (show mid + m - 1 - (s + r0) / 2 < l.length by omega)
            simp only [decide_eq_false hlt2, Bool.not_false, Bool.true_eq_false] at hb11
        · intro hb10
          simp only [decide_eq_true_eq, decide_eq_false_iff_not, Int.not_lt, Int.not_le] at hb10
          refine SA.exit ?_
          refine thenK.exit ?_
          refine loopK.exit ?_
          refine blockK.hit ?_
          refine thenK.normal (SA.seq ?_)
          obtain rfl : r0 = s := by omega
          have hwe : IntKind.i64.wrap (((mid + m : Nat) : Int) - (r0 : Int)) = ((mid + m - r0 : Nat) : Int) := by rw [wrap64_ok (by omega) (by omega)]; omega
          refine SA.region ok (by kernel_rfl) [0, 1, 2, 3, 4, 18, 20, 24] ?_
          intro R r
          simp only [go_sem, strip]
          iterate 4 (refine opsA_cons fun Z q1 => ?_; simp only [go_sem, seval, -List.reduceReplicate, hwe]; (repeat' with_reducible refine And.intro ?_ ?_); all_goals first | (refine q1 _ ?_; clear q1 Z) | omega | rfl | decide | assumption | (intro _; omega) | (simp; done) | (simp; omega))
          refine opsA_nil (r _ ?_)
          clear r R
          try simp only [go_sem, Nat.reduceBEq]
          refine thenK.normal (SA.seq ?_)
          refine SA.seq ?_
          refine SA.region ok (by kernel_rfl) [0, 1, 2, 3, 4, 18, 20, 24, 185] ?_
          intro R r
          simp only [go_sem, strip]
          iterate 8 (refine opsA_cons fun Z q1 => ?_; simp only [go_sem, seval, -List.reduceReplicate]; (repeat' with_reducible refine And.intro ?_ ?_); all_goals first | (refine q1 _ ?_; clear q1 Z) | omega | rfl | decide | assumption | (intro _; omega) | (simp; done) | (simp; omega))
          refine opsA_nil (r _ ?_)
          clear r R
          try simp only [go_sem, Nat.reduceBEq]
          refine thenK.normal ?_
          refine SA.cond rfl ?_ ?_
          · intro hb12
            skip
            exfalso
            simp at hb12
            omega
          · intro hb12
            skip
            refine SA.skip ?_
            refine thenK.normal (SA.seq ?_)
            refine SA.seq ?_
            refine SA.region ok (by kernel_rfl) [0, 1, 3, 4, 18, 20, 24, 199] ?_
            intro R r
            simp only [go_sem, strip]
            iterate 8 (refine opsA_cons fun Z q1 => ?_; simp only [go_sem, seval, -List.reduceReplicate]; (repeat' with_reducible refine And.intro ?_ ?_); all_goals first | (refine q1 _ ?_; clear q1 Z) | omega | rfl | decide | assumption | (intro _; omega) | (simp; done) | (simp; omega))
            refine opsA_nil (r _ ?_)
            clear r R
            try simp only [go_sem, Nat.reduceBEq]
            refine thenK.normal ?_
            refine SA.cond rfl ?_ ?_
            · intro hb13
              have hA : a < r0 ∧ r0 < mid := by simp at hb13; omega
              try clear hF hF2 hr0 hs0
              refine SA.region ok (by kernel_rfl) [0, 3, 4, 18, 24] ?_
              intro R r
              simp only [go_sem, strip]
              iterate 5 (refine opsA_cons fun Z q1 => ?_; simp only [go_sem, seval, -List.reduceReplicate]; (repeat' with_reducible refine And.intro ?_ ?_); all_goals first | (refine q1 _ ?_; clear q1 Z) | omega | rfl | decide | assumption | (intro _; omega) | (simp; done) | (simp; omega) | (simp [roomFor, maxLen, by39, by3, by68, by70, by23] <;> omega))
              refine opsA_cons fun Z q1 => ?_
              simp only [go_sem, seval, -List.reduceReplicate]
              repeat' with_reducible refine And.intro ?_ ?_
              all_goals try (first | omega | assumption | (intro _; omega))
              first | refine ⟨_, _, rfl, .inr (CallE.ctr ok (ih a r0 mid (by omega) hA.1 hA.2 (by omega)) (by first | rfl | (simp [argsV, toVs, contentV, toV, capsV, capsE, ty22, ty25, ty3, ty4, ty81, ty39, ty40, ty42, ty37, ty2, ty23, ty24, ty46, ty68, ty65, ty70, ty69, ty90, ty77, ty59, ty98, List.length_map, List.take_of_length_le])) ?_)⟩ | refine ⟨_, _, rfl, .inr ⟨fun _ => CallE.ctr ok (ih a r0 mid (by omega) hA.1 hA.2 (by omega)) (by first | rfl | (simp [argsV, toVs, contentV, toV, capsV, capsE, ty22, ty25, ty3, ty4, ty81, ty39, ty40, ty42, ty37, ty2, ty23, ty24, ty46, ty68, ty65, ty70, ty69, ty90, ty77, ty59, ty98, List.length_map, List.take_of_length_le])) ?_, ?_⟩⟩
              simp only [go_sem, seval, -List.reduceReplicate]
              repeat' with_reducible refine And.intro ?_ ?_
              all_goals first | (refine q1 _ ?_; clear q1 Z) | omega | rfl | decide | assumption | (intro _; omega) | (simp; done) | (simp; omega) | (simp [roomFor, maxLen, by39, by3, by68, by70, by23] <;> omega)
              refine opsA_nil (r _ ?_)
              clear r R
              try simp only [go_sem, Nat.reduceBEq]
              refine thenK.normal (SA.seq ?_)
              refine SA.region ok (by kernel_rfl) [0, 3, 4, 18, 24, 213] ?_
              intro R r
              simp only [go_sem, strip]
              iterate 8 (refine opsA_cons fun Z q1 => ?_; simp only [go_sem, seval, -List.reduceReplicate]; (repeat' with_reducible refine And.intro ?_ ?_); all_goals first | (refine q1 _ ?_; clear q1 Z) | omega | rfl | decide | assumption | (intro _; omega) | (simp; done) | (simp; omega))
              refine opsA_nil (r _ ?_)
              clear r R
              try simp only [go_sem, Nat.reduceBEq]
              refine thenK.normal ?_
              refine SA.cond rfl ?_ ?_
              · intro hb14
                have hB : mid < mid + m - r0 ∧ mid + m - r0 < b := by simp at hb14; omega
                have hB3 : b - mid < b - a := by omega
                try clear hF hF2 hr0 hs0
                refine SA.region ok (by kernel_rfl) [] ?_
                intro R r
                simp only [go_sem, strip]
                iterate 5 (refine opsA_cons fun Z q1 => ?_; simp only [go_sem, seval, -List.reduceReplicate]; (repeat' with_reducible refine And.intro ?_ ?_); all_goals first | (refine q1 _ ?_; clear q1 Z) | omega | rfl | decide | assumption | (intro _; omega) | (simp; done) | (simp; omega) | (simp [roomFor, maxLen, by39, by3, by68, by70, by23] <;> omega))
                refine opsA_cons fun Z q1 => ?_
                simp only [go_sem, seval, -List.reduceReplicate]
                repeat' with_reducible refine And.intro ?_ ?_
                all_goals try (first | omega | assumption | (intro _; omega))
                first | refine ⟨_, _, rfl, .inr (CallE.ctr ok (ih mid (mid + m - r0) b hB3 hB.1 hB.2 hb) (by first | rfl | (simp [argsV, toVs, contentV, toV, capsV, capsE, ty22, ty25, ty3, ty4, ty81, ty39, ty40, ty42, ty37, ty2, ty23, ty24, ty46, ty68, ty65, ty70, ty69, ty90, ty77, ty59, ty98, List.length_map, List.take_of_length_le])) ?_)⟩ | refine ⟨_, _, rfl, .inr ⟨fun _ => CallE.ctr ok (ih mid (mid + m - r0) b hB3 hB.1 hB.2 hb) (by first | rfl | (simp [argsV, toVs, contentV, toV, capsV, capsE, ty22, ty25, ty3, ty4, ty81, ty39, ty40, ty42, ty37, ty2, ty23, ty24, ty46, ty68, ty65, ty70, ty69, ty90, ty77, ty59, ty98, List.length_map, List.take_of_length_le])) ?_, ?_⟩⟩
                simp only [go_sem, seval, -List.reduceReplicate]
                repeat' with_reducible refine And.intro ?_ ?_
                all_goals first | (refine q1 _ ?_; clear q1 Z) | omega | rfl | decide | assumption | (intro _; omega) | (simp; done) | (simp; omega) | (simp [roomFor, maxLen, by39, by3, by68, by70, by23] <;> omega)
                refine opsA_nil (r _ ?_)
                clear r R
                try simp only [go_sem, Nat.reduceBEq]
                refine ctrK.normal ?_
                simp only [resA, evalO, resV, backK, outE, toV, ty4, ty3, List.lookup_cons, List.lookup_nil, beq_self_eq_true, forall_const, true_and, and_true]
                all_goals exact ⟨trivial, trivial⟩
              · intro hb14
                skip
                refine SA.skip ?_
                refine ctrK.normal ?_
                simp only [resA, evalO, resV, backK, outE, toV, ty4, ty3, List.lookup_cons, List.lookup_nil, beq_self_eq_true, forall_const, true_and, and_true]
                all_goals exact ⟨trivial, trivial⟩
            · intro hb13
              skip
              refine SA.skip ?_
              refine thenK.normal (SA.seq ?_)
              refine SA.region ok (by kernel_rfl) [0, 3, 4, 18, 24, 213] ?_
              intro R r
              simp only [go_sem, strip]
              iterate 8 (refine opsA_cons fun Z q1 => ?_; simp only [go_sem, seval, -List.reduceReplicate]; (repeat' with_reducible refine And.intro ?_ ?_); all_goals first | (refine q1 _ ?_; clear q1 Z) | omega | rfl | decide | assumption | (intro _; omega) | (simp; done) | (simp; omega))
              refine opsA_nil (r _ ?_)
              clear r R
              try simp only [go_sem, Nat.reduceBEq]
              refine thenK.normal ?_
              refine SA.cond rfl ?_ ?_
              · intro hb15
                have hB : mid < mid + m - r0 ∧ mid + m - r0 < b := by simp at hb15; omega
                have hB3 : b - mid < b - a := by omega
                try clear hF hF2 hr0 hs0
                refine SA.region ok (by kernel_rfl) [] ?_
                intro R r
                simp only [go_sem, strip]
                iterate 5 (refine opsA_cons fun Z q1 => ?_; simp only [go_sem, seval, -List.reduceReplicate]; (repeat' with_reducible refine And.intro ?_ ?_); all_goals first | (refine q1 _ ?_; clear q1 Z) | omega | rfl | decide | assumption | (intro _; omega) | (simp; done) | (simp; omega) | (simp [roomFor, maxLen, by39, by3, by68, by70, by23] <;> omega))
                refine opsA_cons fun Z q1 => ?_
                simp only [go_sem, seval, -List.reduceReplicate]
                repeat' with_reducible refine And.intro ?_ ?_
                all_goals try (first | omega | assumption | (intro _; omega))
                first | refine ⟨_, _, rfl, .inr (CallE.ctr ok (ih mid (mid + m - r0) b hB3 hB.1 hB.2 hb) (by first | rfl | (simp [argsV, toVs, contentV, toV, capsV, capsE, ty22, ty25, ty3, ty4, ty81, ty39, ty40, ty42, ty37, ty2, ty23, ty24, ty46, ty68, ty65, ty70, ty69, ty90, ty77, ty59, ty98, List.length_map, List.take_of_length_le])) ?_)⟩ | refine ⟨_, _, rfl, .inr ⟨fun _ => CallE.ctr ok (ih mid (mid + m - r0) b hB3 hB.1 hB.2 hb) (by first | rfl | (simp [argsV, toVs, contentV, toV, capsV, capsE, ty22, ty25, ty3, ty4, ty81, ty39, ty40, ty42, ty37, ty2, ty23, ty24, ty46, ty68, ty65, ty70, ty69, ty90, ty77, ty59, ty98, List.length_map, List.take_of_length_le])) ?_, ?_⟩⟩
                simp only [go_sem, seval, -List.reduceReplicate]
                repeat' with_reducible refine And.intro ?_ ?_
                all_goals first | (refine q1 _ ?_; clear q1 Z) | omega | rfl | decide | assumption | (intro _; omega) | (simp; done) | (simp; omega) | (simp [roomFor, maxLen, by39, by3, by68, by70, by23] <;> omega)
                refine opsA_nil (r _ ?_)
                clear r R
                try simp only [go_sem, Nat.reduceBEq]
                refine ctrK.normal ?_
                simp only [resA, evalO, resV, backK, outE, toV, ty4, ty3, List.lookup_cons, List.lookup_nil, beq_self_eq_true, forall_const, true_and, and_true]
                all_goals exact ⟨trivial, trivial⟩
              · intro hb15
                skip
                refine SA.skip ?_
                refine ctrK.normal ?_
                simp only [resA, evalO, resV, backK, outE, toV, ty4, ty3, List.lookup_cons, List.lookup_nil, beq_self_eq_true, forall_const, true_and, and_true]
                all_goals exact ⟨trivial, trivial⟩
      · intro hb9
        simp only [decide_eq_true_eq, decide_eq_false_iff_not, Int.not_lt, Int.not_le] at hb9
        refine SA.seq ?_
        refine SA.region ok (by kernel_rfl) [0, 1, 2, 3, 4, 18, 19, 20] ?_
        intro R r
        simp only [go_sem, strip]
        iterate 2 (refine opsA_cons fun Z q1 => ?_; simp only [go_sem, seval, -List.reduceReplicate]; (repeat' with_reducible refine And.intro ?_ ?_); all_goals first | (refine q1 _ ?_; clear q1 Z) | omega | rfl | decide | assumption | (intro _; omega) | (simp; done) | (simp; omega))
        refine opsA_nil (r _ ?_)
        clear r R
        try simp only [go_sem, Nat.reduceBEq]
        refine thenK.normal ?_
        refine SA.region ok (by kernel_rfl) [0, 1, 2, 3, 4, 18, 19, 20, 21] ?_
        intro R r
        simp only [go_sem, strip]
        iterate 2 (refine opsA_cons fun Z q1 => ?_; simp only [go_sem, seval, -List.reduceReplicate]; (repeat' with_reducible refine And.intro ?_ ?_); all_goals first | (refine q1 _ ?_; clear q1 Z) | omega | rfl | decide | assumption | (intro _; omega) | (simp; done) | (simp; omega))
        refine opsA_nil (r _ ?_)
        clear r R
        try simp only [go_sem, Nat.reduceBEq]
        obtain ⟨s0, r0, hs0, hr0⟩ : ∃ s0 r0 : Nat, s0 = a ∧ r0 = m := ⟨_, _, rfl, rfl⟩
        have hF : s0 ≤ r0 ∧ r0 ≤ m ∧ (r0 = mid ∧ mid < m ∨ r0 = m ∧ m ≤ mid) := by omega
        have hF2 : ∀ c, s0 ≤ c → c < r0 → m + c + 1 ≤ mid + m ∧ mid + m - 1 - c < b ∧ c < mid + m - 1 - c := by intro c h1 h2; omega
        refine thenK.normal (SA.seq ?_)
        refine SA.region ok (by kernel_rfl) [0, 1, 2, 3, 4, 18, 19, 20, 21, 22] ?_
        intro R r
        simp only [go_sem, strip]
        iterate 3 (refine opsA_cons fun Z q1 => ?_; simp only [go_sem, seval, -List.reduceReplicate, hwp]; (repeat' with_reducible refine And.intro ?_ ?_); all_goals first | (refine q1 _ ?_; clear q1 Z) | omega | rfl | decide | assumption | (intro _; omega) | (simp; done) | (simp; omega))
        refine opsA_nil (r _ ?_)
        clear r R
        try simp only [go_sem, Nat.reduceBEq]
        refine thenK.normal (SA.seq ?_)
        refine SA.block ?_
        refine SA.weaken (St.le.of_eq (by first | (rw [hs0, hr0, ← e20t (by omega)]; done) | (rw [hs0, hr0]; done) | (rw [hs0, hr0, ← e20t (by omega)]; rfl) | (rw [hs0, hr0]; rfl))) (SA.loop (fun n τ => ∃ (s : Nat), n = r0 - s ∧ (s0 ≤ s ∧ s ≤ r0) ∧ τ = { tm := [(0, true, .fs 68 (l.map Edge.v) false), (1, true, .int .i64 a), (2, true, .int .i64 m), (3, true, .int .i64 b), (4, true, .fn 57 []), (18, true, .int .i64 mid), (19, true, .int .i64 (mid + m : Nat)), (20, true, .int .i64 s), (21, true, .int .i64 r0), (22, true, .int .i64 (mid + m - 1 : Nat))], ob := [], out := [], nt := 220 }) (r0 - s0) ⟨s0, rfl, ⟨Nat.le_refl _, hF.1⟩, rfl⟩ ?_)
        rintro n τ ⟨s, hn, ⟨hs0s, hsr⟩, rfl⟩
        refine SA.seq ?_
        refine SA.seq ?_
        refine SA.region ok (by kernel_rfl) [0, 1, 2, 3, 4, 18, 19, 20, 21, 22, 151] ?_
        intro R r
        simp only [go_sem, strip]
        iterate 3 (refine opsA_cons fun Z q1 => ?_; simp only [go_sem, seval, -List.reduceReplicate]; (repeat' with_reducible refine And.intro ?_ ?_); all_goals first | (refine q1 _ ?_; clear q1 Z) | omega | rfl | decide | assumption | (intro _; omega) | (simp; done) | (simp; omega))
        refine opsA_nil (r _ ?_)
        clear r R
        try simp only [go_sem, Nat.reduceBEq]
        refine thenK.normal ?_
        refine SA.cond rfl ?_ ?_
        · intro hb16
          simp only [decide_eq_true_eq, decide_eq_false_iff_not, Int.not_lt, Int.not_le] at hb16
          refine SA.skip ?_
          refine thenK.normal (SA.block ?_)
          refine SA.seq ?_
          refine SA.region ok (by kernel_rfl) [0, 1, 2, 3, 4, 18, 19, 20, 21, 22, 23] ?_
          intro R r
          simp only [go_sem, strip]
          iterate 5 (refine opsA_cons fun Z q1 => ?_; simp only [go_sem, seval, -List.reduceReplicate]; (repeat' with_reducible refine And.intro ?_ ?_); all_goals first | (refine q1 _ ?_; clear q1 Z) | omega | rfl | decide | assumption | (intro _; omega) | (simp; done) | (simp; omega))
          refine opsA_cons fun Z q1 => ?_
          simp only [go_sem, seval, -List.reduceReplicate]
          repeat' with_reducible refine And.intro ?_ ?_
          all_goals first | (refine q1 _ ?_; clear q1 Z) | omega | rfl | decide | assumption | (intro _; omega) | (simp; done) | (simp; omega)
          rw [halfway (n := m) (show s ≤ r0 by omega) (by omega) (by omega)]
          iterate 1 (refine opsA_cons fun Z q1 => ?_; simp only [go_sem, seval, -List.reduceReplicate]; (repeat' with_reducible refine And.intro ?_ ?_); all_goals first | (refine q1 _ ?_; clear q1 Z) | omega | rfl | decide | assumption | (intro _; omega) | (simp; done) | (simp; omega))
          refine opsA_nil (r _ ?_)
          clear r R
          try simp only [go_sem, Nat.reduceBEq]
          refine thenK.normal (SA.seq ?_)
          have hc4 := hF2 ((s + r0) / 2) (by omega) (by omega)
          have hwpc : IntKind.i64.wrap (((mid + m - 1 : Nat) : Int) - (((s + r0) / 2 : Nat) : Int)) = ((mid + m - 1 - (s + r0) / 2 : Nat) : Int) := by rw [wrap64_ok (by omega) (by omega)]; omega
          refine SA.regionQ ok mixed (by kernel_rfl) (by kernel_rfl) [0, 1, 2, 3, 4, 18, 19, 20, 21, 22, 23, 171] ?_
          intro R r
          simp only [go_sem, strip]
          iterate 11 (refine opsQ_cons fun Z q1 => ?_; simp only [go_sem, seval, -List.reduceReplicate, hwpc, getD_map Edge.v l (show mid + m - 1 - (s + r0) / 2 < l.length by omega), getD_map Edge.v l (show (s + r0) / 2 < l.length by omega)]; (repeat' with_reducible refine And.intro ?_ ?_); all_goals first | (refine q1 _ ?_; clear q1 Z) | omega | rfl | decide | assumption | (intro _; omega) | (simp; done) | (simp; omega) | (simp [roomFor, maxLen, by39, by3, by68, by70, by23] <;> omega))
          refine opsQ_cons fun Z q1 => ?_
          simp only [go_sem, seval, -List.reduceReplicate, hwpc, getD_map Edge.v l (show mid + m - 1 - (s + r0) / 2 < l.length by omega), getD_map Edge.v l (show (s + r0) / 2 < l.length by omega)]
          repeat' with_reducible refine And.intro ?_ ?_
          all_goals try (first | omega | assumption | (intro _; omega))
          first | refine ⟨_, _, rfl, _, CallQ.ctr ok (ecmp_ctr (l.getD (mid + m - 1 - (s + r0) / 2) default) (l.getD ((s + r0) / 2) default)) (by first | rfl | (simp [argsV, toVs, contentV, toV, capsV, capsE, ty22, ty25, ty3, ty4, ty81, ty39, ty40, ty42, ty37, ty2, ty23, ty24, ty46, ty68, ty65, ty70, ty69, ty90, ty77, ty59, ty98, List.length_map, List.take_of_length_le])) rfl, ?_⟩ | refine ⟨_, _, rfl, _, fun hg => CallQ.ctr ok (ecmp_ctr (l.getD (mid + m - 1 - (s + r0) / 2) default) (l.getD ((s + r0) / 2) default)) (by first | rfl | (simp [argsV, toVs, contentV, toV, capsV, capsE, ty22, ty25, ty3, ty4, ty81, ty39, ty40, ty42, ty37, ty2, ty23, ty24, ty46, ty68, ty65, ty70, ty69, ty90, ty77, ty59, ty98, List.length_map, List.take_of_length_le])) rfl, ?_⟩
          simp only [go_sem, seval, -List.reduceReplicate, hwpc, getD_map Edge.v l (show mid + m - 1 - (s + r0) / 2 < l.length by omega), getD_map Edge.v l (show (s + r0) / 2 < l.length by omega)]
          repeat' with_reducible refine And.intro ?_ ?_
          all_goals first | (refine q1 _ ?_; clear q1 Z) | omega | rfl | decide | assumption | (intro _; omega) | (simp; done) | (simp; omega) | (simp [roomFor, maxLen, by39, by3, by68, by70, by23] <;> omega)
          iterate 2 (refine opsQ_cons fun Z q1 => ?_; simp only [go_sem, seval, -List.reduceReplicate, hwpc, getD_map Edge.v l (show mid + m - 1 - (s + r0) / 2 < l.length by omega), getD_map Edge.v l (show (s + r0) / 2 < l.length by omega)]; (repeat' with_reducible refine And.intro ?_ ?_); all_goals first | (refine q1 _ ?_; clear q1 Z) | omega | rfl | decide | assumption | (intro _; omega) | (simp; done) | (simp; omega) | (simp [roomFor, maxLen, by39, by3, by68, by70, by23] <;> omega))
          refine opsQ_nil (r _ ?_)
          clear r R
          try simp only [go_sem, Nat.reduceBEq]
          refine thenK.normal ?_
          refine SA.cond rfl ?_ ?_
          · intro hb17
            skip
            refine SA.region ok (by kernel_rfl) [0, 1, 2, 3, 4, 18, 19, 20, 21, 22] ?_
            intro R r
            simp only [go_sem, strip]
            iterate 3 (refine opsA_cons fun Z q1 => ?_; simp only [go_sem, seval, -List.reduceReplicate]; (repeat' with_reducible refine And.intro ?_ ?_); all_goals first | (refine q1 _ ?_; clear q1 Z) | omega | rfl | decide | assumption | (intro _; omega) | (simp; done) | (simp; omega))
            refine opsA_nil (r _ ?_)
            clear r R
            try simp only [go_sem, Nat.reduceBEq]
            refine blockK.normal ?_
            refine loopK.normal (r0 - ((s + r0) / 2 + 1)) _ (by omega) (St.le.of_eq (by rw [wrap_succ (show (s + r0) / 2 < m by omega) (by omega)])) ⟨(s + r0) / 2 + 1, rfl, by omega, rfl⟩
          · intro hb17
            skip
            have hlt2 := later hs hc4.2.2 (show mid + m - 1 - (s + r0) / 2 < l.length by omega)
            simp only [decide_eq_false hlt2, Bool.not_false, Bool.true_eq_false] at hb17
        · intro hb16
          simp only [decide_eq_true_eq, decide_eq_false_iff_not, Int.not_lt, Int.not_le] at hb16
          refine SA.exit ?_
          refine thenK.exit ?_
          refine loopK.exit ?_
          refine blockK.hit ?_
          refine thenK.normal (SA.seq ?_)
          obtain rfl : r0 = s := by omega
          have hwe : IntKind.i64.wrap (((mid + m : Nat) : Int) - (r0 : Int)) = ((mid + m - r0 : Nat) : Int) := by rw [wrap64_ok (by omega) (by omega)]; omega
          refine SA.region ok (by kernel_rfl) [0, 1, 2, 3, 4, 18, 20, 24] ?_
          intro R r
          simp only [go_sem, strip]
          iterate 4 (refine opsA_cons fun Z q1 => ?_; simp only [go_sem, seval, -List.reduceReplicate, hwe]; (repeat' with_reducible refine And.intro ?_ ?_); all_goals first | (refine q1 _ ?_; clear q1 Z) | omega | rfl | decide | assumption | (intro _; omega) | (simp; done) | (simp; omega))
          refine opsA_nil (r _ ?_)
          clear r R
          try simp only [go_sem, Nat.reduceBEq]
          refine thenK.normal (SA.seq ?_)
          refine SA.seq ?_
          refine SA.region ok (by kernel_rfl) [0, 1, 2, 3, 4, 18, 20, 24, 185] ?_
          intro R r
          simp only [go_sem, strip]
          iterate 8 (refine opsA_cons fun Z q1 => ?_; simp only [go_sem, seval, -List.reduceReplicate]; (repeat' with_reducible refine And.intro ?_ ?_); all_goals first | (refine q1 _ ?_; clear q1 Z) | omega | rfl | decide | assumption | (intro _; omega) | (simp; done) | (simp; omega))
          refine opsA_nil (r _ ?_)
          clear r R
          try simp only [go_sem, Nat.reduceBEq]
          refine thenK.normal ?_
          refine SA.cond rfl ?_ ?_
          · intro hb18
            skip
            exfalso
            simp at hb18
            omega
          · intro hb18
            skip
            refine SA.skip ?_
            refine thenK.normal (SA.seq ?_)
            refine SA.seq ?_
            refine SA.region ok (by kernel_rfl) [0, 1, 3, 4, 18, 20, 24, 199] ?_
            intro R r
            simp only [go_sem, strip]
            iterate 8 (refine opsA_cons fun Z q1 => ?_; simp only [go_sem, seval, -List.reduceReplicate]; (repeat' with_reducible refine And.intro ?_ ?_); all_goals first | (refine q1 _ ?_; clear q1 Z) | omega | rfl | decide | assumption | (intro _; omega) | (simp; done) | (simp; omega))
            refine opsA_nil (r _ ?_)
            clear r R
            try simp only [go_sem, Nat.reduceBEq]
            refine thenK.normal ?_
            refine SA.cond rfl ?_ ?_
            · intro hb19
              have hA : a < r0 ∧ r0 < mid := by simp at hb19; omega
              try clear hF hF2 hr0 hs0
              refine SA.region ok (by kernel_rfl) [0, 3, 4, 18, 24] ?_
              intro R r
              simp only [go_sem, strip]
              iterate 5 (refine opsA_cons fun Z q1 => ?_; simp only [go_sem, seval, -List.reduceReplicate]; (repeat' with_reducible refine And.intro ?_ ?_); all_goals first | (refine q1 _ ?_; clear q1 Z) | omega | rfl | decide | assumption | (intro _; omega) | (simp; done) | (simp; omega) | (simp [roomFor, maxLen, by39, by3, by68, by70, by23] <;> omega))
              refine opsA_cons fun Z q1 => ?_
              simp only [go_sem, seval, -List.reduceReplicate]
              repeat' with_reducible refine And.intro ?_ ?_
              all_goals try (first | omega | assumption | (intro _; omega))
              first | refine ⟨_, _, rfl, .inr (CallE.ctr ok (ih a r0 mid (by omega) hA.1 hA.2 (by omega)) (by first | rfl | (simp [argsV, toVs, contentV, toV, capsV, capsE, ty22, ty25, ty3, ty4, ty81, ty39, ty40, ty42, ty37, ty2, ty23, ty24, ty46, ty68, ty65, ty70, ty69, ty90, ty77, ty59, ty98, List.length_map, List.take_of_length_le])) ?_)⟩ | refine ⟨_, _, rfl, .inr ⟨fun _ => CallE.ctr ok (ih a r0 mid (by omega) hA.1 hA.2 (by omega)) (by first | rfl | (simp [argsV, toVs, contentV, toV, capsV, capsE, ty22, ty25, ty3, ty4, ty81, ty39, ty40, ty42, ty37, ty2, ty23, ty24, ty46, ty68, ty65, ty70, ty69, ty90, ty77, ty59, ty98, List.length_map, List.take_of_length_le])) ?_, ?_⟩⟩
              simp only [go_sem, seval, -List.reduceReplicate]
              repeat' with_reducible refine And.intro ?_ ?_
              all_goals first | (refine q1 _ ?_; clear q1 Z) | omega | rfl | decide | assumption | (intro _; omega) | (simp; done) | (simp; omega) | (simp [roomFor, maxLen, by39, by3, by68, by70, by23] <;> omega)
              refine opsA_nil (r _ ?_)
              clear r R
              try simp only [go_sem, Nat.reduceBEq]
              refine thenK.normal (SA.seq ?_)
              refine SA.region ok (by kernel_rfl) [0, 3, 4, 18, 24, 213] ?_
              intro R r
              simp only [go_sem, strip]
              iterate 8 (refine opsA_cons fun Z q1 => ?_; simp only [go_sem, seval, -List.reduceReplicate]; (repeat' with_reducible refine And.intro ?_ ?_); all_goals first | (refine q1 _ ?_; clear q1 Z) | omega | rfl | decide | assumption | (intro _; omega) | (simp; done) | (simp; omega))
              refine opsA_nil (r _ ?_)
              clear r R
              try simp only [go_sem, Nat.reduceBEq]
              refine thenK.normal ?_
              refine SA.cond rfl ?_ ?_
              · intro hb20
                have hB : mid < mid + m - r0 ∧ mid + m - r0 < b := by simp at hb20; omega
                have hB3 : b - mid < b - a := by omega
                try clear hF hF2 hr0 hs0
                refine SA.region ok (by kernel_rfl) [] ?_
                intro R r
                simp only [go_sem, strip]
                iterate 5 (refine opsA_cons fun Z q1 => ?_; simp only [go_sem, seval, -List.reduceReplicate]; (repeat' with_reducible refine And.intro ?_ ?_); all_goals first | (refine q1 _ ?_; clear q1 Z) | omega | rfl | decide | assumption | (intro _; omega) | (simp; done) | (simp; omega) | (simp [roomFor, maxLen, by39, by3, by68, by70, by23] <;> omega))
                refine opsA_cons fun Z q1 => ?_
                simp only [go_sem, seval, -List.reduceReplicate]
                repeat' with_reducible refine And.intro ?_ ?_
                all_goals try (first | omega | assumption | (intro _; omega))
                first | refine ⟨_, _, rfl, .inr (CallE.ctr ok (ih mid (mid + m - r0) b hB3 hB.1 hB.2 hb) (by first | rfl | (simp [argsV, toVs, contentV, toV, capsV, capsE, ty22, ty25, ty3, ty4, ty81, ty39, ty40, ty42, ty37, ty2, ty23, ty24, ty46, ty68, ty65, ty70, ty69, ty90, ty77, ty59, ty98, List.length_map, List.take_of_length_le])) ?_)⟩ | refine ⟨_, _, rfl, .inr ⟨fun _ => CallE.ctr ok (ih mid (mid + m - r0) b hB3 hB.1 hB.2 hb) (by first | rfl | (simp [argsV, toVs, contentV, toV, capsV, capsE, ty22, ty25, ty3, ty4, ty81, ty39, ty40, ty42, ty37, ty2, ty23, ty24, ty46, ty68, ty65, ty70, ty69, ty90, ty77, ty59, ty98, List.length_map, List.take_of_length_le])) ?_, ?_⟩⟩
                simp only [go_sem, seval, -List.reduceReplicate]
                repeat' with_reducible refine And.intro ?_ ?_
                all_goals first | (refine q1 _ ?_; clear q1 Z) | omega | rfl | decide | assumption | (intro _; omega) | (simp; done) | (simp; omega) | (simp [roomFor, maxLen, by39, by3, by68, by70, by23] <;> omega)
                refine opsA_nil (r _ ?_)
                clear r R
                try simp only [go_sem, Nat.reduceBEq]
                refine ctrK.normal ?_
                simp only [resA, evalO, resV, backK, outE, toV, ty4, ty3, List.lookup_cons, List.lookup_nil, beq_self_eq_true, forall_const, true_and, and_true]
                all_goals exact ⟨trivial, trivial⟩
              · intro hb20
                skip
                refine SA.skip ?_
                refine ctrK.normal ?_
                simp only [resA, evalO, resV, backK, outE, toV, ty4, ty3, List.lookup_cons, List.lookup_nil, beq_self_eq_true, forall_const, true_and, and_true]
                all_goals exact ⟨trivial, trivial⟩
            · intro hb19
              skip
              refine SA.skip ?_
              refine thenK.normal (SA.seq ?_)
              refine SA.region ok (by kernel_rfl) [0, 3, 4, 18, 24, 213] ?_
              intro R r
              simp only [go_sem, strip]
              iterate 8 (refine opsA_cons fun Z q1 => ?_; simp only [go_sem, seval, -List.reduceReplicate]; (repeat' with_reducible refine And.intro ?_ ?_); all_goals first | (refine q1 _ ?_; clear q1 Z) | omega | rfl | decide | assumption | (intro _; omega) | (simp; done) | (simp; omega))
              refine opsA_nil (r _ ?_)
              clear r R
              try simp only [go_sem, Nat.reduceBEq]
              refine thenK.normal ?_
              refine SA.cond rfl ?_ ?_
              · intro hb21
                have hB : mid < mid + m - r0 ∧ mid + m - r0 < b := by simp at hb21; omega
                have hB3 : b - mid < b - a := by omega
                try clear hF hF2 hr0 hs0
                refine SA.region ok (by kernel_rfl) [] ?_
                intro R r
                simp only [go_sem, strip]
                iterate 5 (refine opsA_cons fun Z q1 => ?_; simp only [go_sem, seval, -List.reduceReplicate]; (repeat' with_reducible refine And.intro ?_ ?_); all_goals first | (refine q1 _ ?_; clear q1 Z) | omega | rfl | decide | assumption | (intro _; omega) | (simp; done) | (simp; omega) | (simp [roomFor, maxLen, by39, by3, by68, by70, by23] <;> omega))
                refine opsA_cons fun Z q1 => ?_
                simp only [go_sem, seval, -List.reduceReplicate]
                repeat' with_reducible refine And.intro ?_ ?_
                all_goals try (first | omega | assumption | (intro _; omega))
                first | refine ⟨_, _, rfl, .inr (CallE.ctr ok (ih mid (mid + m - r0) b hB3 hB.1 hB.2 hb) (by first | rfl | (simp [argsV, toVs, contentV, toV, capsV, capsE, ty22, ty25, ty3, ty4, ty81, ty39, ty40, ty42, ty37, ty2, ty23, ty24, ty46, ty68, ty65, ty70, ty69, ty90, ty77, ty59, ty98, List.length_map, List.take_of_length_le])) ?_)⟩ | refine ⟨_, _, rfl, .inr ⟨fun _ => CallE.ctr ok (ih mid (mid + m - r0) b hB3 hB.1 hB.2 hb) (by first | rfl | (simp [argsV, toVs, contentV, toV, capsV, capsE, ty22, ty25, ty3, ty4, ty81, ty39, ty40, ty42, ty37, ty2, ty23, ty24, ty46, ty68, ty65, ty70, ty69, ty90, ty77, ty59, ty98, List.length_map, List.take_of_length_le])) ?_, ?_⟩⟩
                simp only [go_sem, seval, -List.reduceReplicate]
                repeat' with_reducible refine And.intro ?_ ?_
                all_goals first | (refine q1 _ ?_; clear q1 Z) | omega | rfl | decide | assumption | (intro _; omega) | (simp; done) | (simp; omega) | (simp [roomFor, maxLen, by39, by3, by68, by70, by23] <;> omega)
                refine opsA_nil (r _ ?_)
                clear r R
                try simp only [go_sem, Nat.reduceBEq]
                refine ctrK.normal ?_
                simp only [resA, evalO, resV, backK, outE, toV, ty4, ty3, List.lookup_cons, List.lookup_nil, beq_self_eq_true, forall_const, true_and, and_true]
                all_goals exact ⟨trivial, trivial⟩
              · intro hb21
                skip
                refine SA.skip ?_
                refine ctrK.normal ?_
                simp only [resA, evalO, resV, backK, outE, toV, ty4, ty3, List.lookup_cons, List.lookup_nil, beq_self_eq_true, forall_const, true_and, and_true]
                all_goals exact ⟨trivial, trivial⟩

end Go.Eng.Try
