/- A part of the proof: walks through the program's functions, and what they compute. -/
import Derived.Test.YtipodgpcbkoopaaE3
import Derived.Test.YtipodgpcbkoopaaM1
import Derived.Test.YtipodgpcbkoopaaE4
import Derived.Test.YtipodgpcbkoopaaGW22
namespace Go.Eng.Try
open Go.RowKit Go.Eng
set_option linter.unusedSimpArgs false
set_option linter.unusedVariables false

theorem symMerge_ctr (l : List Edge) (hl : l.length ≤ 100000) (hs : l.Pairwise elt) : ∀ (a m b : Nat), a < m → m < b → b ≤ l.length → Ctr Go.Proofs.Try.prog tab 70 [46, 3, 3, 3, 98] [] [.list (l.map Edge.v), .int a, .int m, .int b, .fnv 57] [] := by
  have key : ∀ (n a m b : Nat), b - a ≤ n → a < m → m < b → b ≤ l.length → Ctr Go.Proofs.Try.prog tab 70 [46, 3, 3, 3, 98] [] [.list (l.map Edge.v), .int a, .int m, .int b, .fnv 57] [] := by
    intro n
    induction n with
    | zero => intro a m b h1 h2 h3 h4; omega
    | succ n ih => intro a m b h1 h2 h3 h4; exact symMerge_step l hl hs a m b h2 h3 h4 (fun a' m' b' g1 g2 g3 g4 => ih a' m' b' (by omega) g2 g3 g4)
  exact fun a m b h1 h2 h3 => key (b - a) a m b (Nat.le_refl _) h1 h2 h3

attribute [local go_sem] argsV contentV fromVs Option.getD_some St.keep List.filterMap_cons List.filterMap_nil Option.map_some Option.map_none opG opQ opB newEs outE CallStepB guardA putK putE pureA evalO evalL constE pickA capsE capsV loadA fieldAddrA indexAddrA indexA sliceA evalOptI builtinA binA plainA shiftA eqA nilA arith shifts effA storeA appendA appB freshA St.kill Tm.kill E.kill E.killL Obj.kill elemsOf evalVs buildA okAt toV fromV zeroE V.get V.put V.sub V.setSub args0 CallStep CallStepQ i64min i64max u64min u64max u32min u32max u8min u8max Nat.zero_add List.length_map List.lookup_cons List.lookup_nil List.getElem?_cons_zero List.getElem?_cons_succ List.getElem?_toArray List.getElem?_nil Option.bind_some Option.bind_none List.size_toArray List.length_cons List.length_nil List.nil_append List.append_nil List.cons_append List.getD_cons_zero List.getD_cons_succ List.map_cons List.map_nil List.set_cons_zero List.set_cons_succ true_and and_true forall_const true_implies Bool.true_and Bool.and_true Bool.not_true Bool.not_false Bool.false_and Bool.and_false beq_self_eq_true Bool.true_beq Bool.false_beq beq_true beq_false eq_self false_implies V.toInt_int V.toBool_bool V.toList_list V.toList_agg V.toStr_str V.deref_ref if_true if_false Bool.false_eq_true Option.isSome_none Option.isSome_some Bool.false_or Bool.true_or Bool.or_false Bool.or_true cond_true cond_false implies_true and_self imp_self ty22 ty25 ty3 ty4 ty81 ty39 ty40 ty42 ty37 ty2 ty23 ty24 ty46 ty68 ty65 ty70 ty69 ty90 ty77 ty59 concat_at List.length_range zero39 z39 z3 z4 z70 z68 z42 z40 z37 z2 zero40 z69 z90 zero70 zero69 zero90 zero68 zero42 Int.toNat_natCast Int.natCast_zero Event.v0 Event.v3 Event.v5 Event.v7 Event.v8 Access.v0 Access.v1 Access.v2 beq_acc Edge.v0 Edge.v1 Edge.v2 Edge.v3 heldOf_len locksTo_len heldsTo_len nowL_len
-- slices.stableCmpFunc[scarab/api.LockEdge]
theorem stable_ctr (l : List Edge) (hl : l.length ≤ 100000) (hs : l.Pairwise elt) : Ctr Go.Proofs.Try.prog tab 67 [46, 3, 98] [] [.list (l.map Edge.v), .int l.length, .fnv 57] [] := by
  refine Ctr.body ok Go.Proofs.Try.func67 rfl rfl 63 rfl [] rfl (by simp [fromVs]) ?_
  simp only [fromVs, fromV, args0, V.toList_list, V.toInt_int, V.toBool_bool, Nat.zero_add, Nat.reduceAdd, ty3, ty46, ty98]
  refine SA.seq ?_
  refine SA.region ok (by kernel_rfl) [0, 1, 2, 6] ?_
  intro R r
  simp only [go_sem, strip]
  iterate 1 (refine opsA_cons fun Z q1 => ?_; simp only [go_sem, seval, -List.reduceReplicate]; (repeat' with_reducible refine And.intro ?_ ?_); all_goals first | (refine q1 _ ?_; clear q1 Z) | omega | rfl | decide | assumption | (intro _; omega) | (simp; done) | (simp; omega))
  refine opsA_nil (r _ ?_)
  clear r R
  try simp only [go_sem, Nat.reduceBEq]
  refine thenK.normal (SA.seq ?_)
  refine SA.region ok (by kernel_rfl) [0, 1, 2, 6, 7, 8] ?_
  intro R r
  simp only [go_sem, strip]
  iterate 3 (refine opsA_cons fun Z q1 => ?_; simp only [go_sem, seval, -List.reduceReplicate]; (repeat' with_reducible refine And.intro ?_ ?_); all_goals first | (refine q1 _ ?_; clear q1 Z) | omega | rfl | decide | assumption | (intro _; omega) | (simp; done) | (simp; omega))
  refine opsA_nil (r _ ?_)
  clear r R
  try simp only [go_sem, Nat.reduceBEq]
  refine thenK.normal (SA.seq ?_)
  refine SA.block ?_
  refine SA.weaken (St.le.of_eq (by first | rfl | simp)) (SA.loop (fun n τ => ∃ (a : Nat), n = l.length - a ∧ (a ≤ l.length) ∧ τ = { tm := [(0, true, .fs 68 (l.map Edge.v) false), (1, true, .int .i64 l.length), (2, true, .fn 57 []), (6, true, .int .i64 20), (7, true, .int .i64 a), (8, true, .int .i64 (a + 20 : Nat))], ob := [], out := [], nt := 63 }) (l.length) ⟨0, rfl, Nat.zero_le _, rfl⟩ ?_)
  rintro n τ ⟨a, hn, ha, rfl⟩
  refine SA.seq ?_
  refine SA.seq ?_
  refine SA.region ok (by kernel_rfl) [0, 1, 2, 6, 7, 8, 13] ?_
  intro R r
  simp only [go_sem, strip]
  iterate 3 (refine opsA_cons fun Z q1 => ?_; simp only [go_sem, seval, -List.reduceReplicate]; (repeat' with_reducible refine And.intro ?_ ?_); all_goals first | (refine q1 _ ?_; clear q1 Z) | omega | rfl | decide | assumption | (intro _; omega) | (simp; done) | (simp; omega))
  refine opsA_nil (r _ ?_)
  clear r R
  try simp only [go_sem, Nat.reduceBEq]
  refine thenK.normal ?_
  refine SA.cond rfl ?_ ?_
  · intro hb1
    simp only [decide_eq_true_eq, decide_eq_false_iff_not, Int.not_lt, Int.not_le] at hb1
    refine SA.skip ?_
    refine thenK.normal (SA.block ?_)
    refine SA.seq ?_
    refine SA.region ok (by kernel_rfl) [0, 1, 2, 6, 8] ?_
    intro R r
    simp only [go_sem, strip]
    iterate 4 (refine opsA_cons fun Z q1 => ?_; simp only [go_sem, seval, -List.reduceReplicate]; (repeat' with_reducible refine And.intro ?_ ?_); all_goals first | (refine q1 _ ?_; clear q1 Z) | omega | rfl | decide | assumption | (intro _; omega) | (simp; done) | (simp; omega) | (simp [roomFor, maxLen, by39, by3, by68, by70, by23] <;> omega))
    refine opsA_cons fun Z q1 => ?_
    simp only [go_sem, seval, -List.reduceReplicate]
    repeat' with_reducible refine And.intro ?_ ?_
    all_goals try (first | omega | assumption | (intro _; omega))
    first | refine ⟨_, _, rfl, .inr (CallE.ctr ok (insertion_ctr l hl hs a (a + 20) (by omega) (by omega)) (by first | rfl | (simp [argsV, toVs, contentV, toV, capsV, capsE, ty22, ty25, ty3, ty4, ty81, ty39, ty40, ty42, ty37, ty2, ty23, ty24, ty46, ty68, ty65, ty70, ty69, ty90, ty77, ty59, List.length_map, List.take_of_length_le])) ?_)⟩ | refine ⟨_, _, rfl, .inr ⟨fun _ => CallE.ctr ok (insertion_ctr l hl hs a (a + 20) (by omega) (by omega)) (by first | rfl | (simp [argsV, toVs, contentV, toV, capsV, capsE, ty22, ty25, ty3, ty4, ty81, ty39, ty40, ty42, ty37, ty2, ty23, ty24, ty46, ty68, ty65, ty70, ty69, ty90, ty77, ty59, List.length_map, List.take_of_length_le])) ?_, ?_⟩⟩
    simp only [go_sem, seval, -List.reduceReplicate]
    repeat' with_reducible refine And.intro ?_ ?_
    all_goals first | (refine q1 _ ?_; clear q1 Z) | omega | rfl | decide | assumption | (intro _; omega) | (simp; done) | (simp; omega) | (simp [roomFor, maxLen, by39, by3, by68, by70, by23] <;> omega)
    refine opsA_nil (r _ ?_)
    clear r R
    try simp only [go_sem, Nat.reduceBEq]
    refine thenK.normal (SA.seq ?_)
    refine SA.region ok (by kernel_rfl) [0, 1, 2, 6, 7, 8] ?_
    intro R r
    simp only [go_sem, strip]
    iterate 2 (refine opsA_cons fun Z q1 => ?_; simp only [go_sem, seval, -List.reduceReplicate]; (repeat' with_reducible refine And.intro ?_ ?_); all_goals first | (refine q1 _ ?_; clear q1 Z) | omega | rfl | decide | assumption | (intro _; omega) | (simp; done) | (simp; omega))
    refine opsA_nil (r _ ?_)
    clear r R
    try simp only [go_sem, Nat.reduceBEq]
    refine thenK.normal ?_
    have hw0 : IntKind.i64.wrap (((a + 20 : Nat) : Int) + 20) = ((a + 20 + 20 : Nat) : Int) := by rw [wrap64_ok (by omega) (by omega)]; omega
    refine SA.region ok (by kernel_rfl) [0, 1, 2, 6, 7, 8] ?_
    intro R r
    simp only [go_sem, strip]
    iterate 4 (refine opsA_cons fun Z q1 => ?_; simp only [go_sem, seval, -List.reduceReplicate, hw0]; (repeat' with_reducible refine And.intro ?_ ?_); all_goals first | (refine q1 _ ?_; clear q1 Z) | omega | rfl | decide | assumption | (intro _; omega) | (simp; done) | (simp; omega))
    refine opsA_nil (r _ ?_)
    clear r R
    try simp only [go_sem, Nat.reduceBEq]
    refine blockK.normal ?_
    refine loopK.normal (l.length - (a + 20)) _ (by omega) St.le.refl ⟨a + 20, rfl, by omega, rfl⟩
  · intro hb1
    simp only [decide_eq_true_eq, decide_eq_false_iff_not, Int.not_lt, Int.not_le] at hb1
    refine SA.exit ?_
    refine thenK.exit ?_
    refine loopK.exit ?_
    refine blockK.hit ?_
    refine thenK.normal (SA.seq ?_)
    refine SA.region ok (by kernel_rfl) [0, 1, 2, 6] ?_
    intro R r
    simp only [go_sem, strip]
    iterate 4 (refine opsA_cons fun Z q1 => ?_; simp only [go_sem, seval, -List.reduceReplicate]; (repeat' with_reducible refine And.intro ?_ ?_); all_goals first | (refine q1 _ ?_; clear q1 Z) | omega | rfl | decide | assumption | (intro _; omega) | (simp; done) | (simp; omega) | (simp [roomFor, maxLen, by39, by3, by68, by70, by23] <;> omega))
    refine opsA_cons fun Z q1 => ?_
    simp only [go_sem, seval, -List.reduceReplicate]
    repeat' with_reducible refine And.intro ?_ ?_
    all_goals try (first | omega | assumption | (intro _; omega))
    first | refine ⟨_, _, rfl, .inr (CallE.ctr ok (insertion_ctr l hl hs a l.length (by omega) (Nat.le_refl _)) (by first | rfl | (simp [argsV, toVs, contentV, toV, capsV, capsE, ty22, ty25, ty3, ty4, ty81, ty39, ty40, ty42, ty37, ty2, ty23, ty24, ty46, ty68, ty65, ty70, ty69, ty90, ty77, ty59, List.length_map, List.take_of_length_le])) ?_)⟩ | refine ⟨_, _, rfl, .inr ⟨fun _ => CallE.ctr ok (insertion_ctr l hl hs a l.length (by omega) (Nat.le_refl _)) (by first | rfl | (simp [argsV, toVs, contentV, toV, capsV, capsE, ty22, ty25, ty3, ty4, ty81, ty39, ty40, ty42, ty37, ty2, ty23, ty24, ty46, ty68, ty65, ty70, ty69, ty90, ty77, ty59, List.length_map, List.take_of_length_le])) ?_, ?_⟩⟩
    simp only [go_sem, seval, -List.reduceReplicate]
    repeat' with_reducible refine And.intro ?_ ?_
    all_goals first | (refine q1 _ ?_; clear q1 Z) | omega | rfl | decide | assumption | (intro _; omega) | (simp; done) | (simp; omega) | (simp [roomFor, maxLen, by39, by3, by68, by70, by23] <;> omega)
    refine opsA_nil (r _ ?_)
    clear r R
    try simp only [go_sem, Nat.reduceBEq]
    refine thenK.normal (SA.block ?_)
    refine SA.weaken (St.le.of_eq (by first | rfl | simp)) (SA.loop (fun n τ => ∃ (k : Nat), n = l.length - k ∧ (1 ≤ k ∧ k ≤ 200000) ∧ τ = { tm := [(0, true, .fs 68 (l.map Edge.v) false), (1, true, .int .i64 l.length), (2, true, .fn 57 []), (6, true, .int .i64 k)], ob := [], out := [], nt := 63 }) (l.length - 20) ⟨20, rfl, by omega, rfl⟩ ?_)
    rintro n τ ⟨k, hn, ⟨hk1, hk2⟩, rfl⟩
    refine SA.seq ?_
    refine SA.seq ?_
    refine SA.region ok (by kernel_rfl) [0, 1, 2, 6, 30] ?_
    intro R r
    simp only [go_sem, strip]
    iterate 3 (refine opsA_cons fun Z q1 => ?_; simp only [go_sem, seval, -List.reduceReplicate]; (repeat' with_reducible refine And.intro ?_ ?_); all_goals first | (refine q1 _ ?_; clear q1 Z) | omega | rfl | decide | assumption | (intro _; omega) | (simp; done) | (simp; omega))
    refine opsA_nil (r _ ?_)
    clear r R
    try simp only [go_sem, Nat.reduceBEq]
    refine thenK.normal ?_
    refine SA.cond rfl ?_ ?_
    · intro hb2
      simp only [decide_eq_true_eq, decide_eq_false_iff_not, Int.not_lt, Int.not_le] at hb2
      refine SA.skip ?_
      refine thenK.normal (SA.block ?_)
      refine SA.seq ?_
      have hw1 : IntKind.i64.wrap (2 * (k : Int)) = ((0 + 2 * k : Nat) : Int) := by rw [wrap64_ok (by omega) (by omega)]; omega
      have hw1b : IntKind.i64.wrap ((k : Int) * 2) = ((2 * k : Nat) : Int) := by rw [wrap64_ok (by omega) (by omega)]; omega
      refine SA.region ok (by kernel_rfl) [0, 1, 2, 6, 7, 8] ?_
      intro R r
      simp only [go_sem, strip]
      iterate 4 (refine opsA_cons fun Z q1 => ?_; simp only [go_sem, seval, -List.reduceReplicate, hw1]; (repeat' with_reducible refine And.intro ?_ ?_); all_goals first | (refine q1 _ ?_; clear q1 Z) | omega | rfl | decide | assumption | (intro _; omega) | (simp; done) | (simp; omega))
      refine opsA_nil (r _ ?_)
      clear r R
      try simp only [go_sem, Nat.reduceBEq]
      refine thenK.normal (SA.seq ?_)
      refine SA.block ?_
      refine SA.weaken (St.le.of_eq (by first | rfl | simp)) (SA.loop (fun n τ => ∃ (a : Nat), n = l.length - a ∧ (a ≤ l.length) ∧ τ = { tm := [(0, true, .fs 68 (l.map Edge.v) false), (1, true, .int .i64 l.length), (2, true, .fn 57 []), (6, true, .int .i64 k), (7, true, .int .i64 a), (8, true, .int .i64 (a + 2 * k : Nat))], ob := [], out := [], nt := 63 }) (l.length) ⟨0, rfl, Nat.zero_le _, rfl⟩ ?_)
      rintro n τ ⟨a, hn, ha2, rfl⟩
      refine SA.seq ?_
      refine SA.seq ?_
      refine SA.region ok (by kernel_rfl) [0, 1, 2, 6, 7, 8, 35] ?_
      intro R r
      simp only [go_sem, strip]
      iterate 3 (refine opsA_cons fun Z q1 => ?_; simp only [go_sem, seval, -List.reduceReplicate]; (repeat' with_reducible refine And.intro ?_ ?_); all_goals first | (refine q1 _ ?_; clear q1 Z) | omega | rfl | decide | assumption | (intro _; omega) | (simp; done) | (simp; omega))
      refine opsA_nil (r _ ?_)
      clear r R
      try simp only [go_sem, Nat.reduceBEq]
      refine thenK.normal ?_
      refine SA.cond rfl ?_ ?_
      · intro hb3
        simp only [decide_eq_true_eq, decide_eq_false_iff_not, Int.not_lt, Int.not_le] at hb3
        refine SA.skip ?_
        refine thenK.normal (SA.block ?_)
        refine SA.seq ?_
        have hw2 : IntKind.i64.wrap ((a : Int) + (k : Int)) = ((a + k : Nat) : Int) := by rw [wrap64_ok (by omega) (by omega)]; omega
        refine SA.region ok (by kernel_rfl) [0, 1, 2, 6, 8] ?_
        intro R r
        simp only [go_sem, strip]
        iterate 7 (refine opsA_cons fun Z q1 => ?_; simp only [go_sem, seval, -List.reduceReplicate, hw2]; (repeat' with_reducible refine And.intro ?_ ?_); all_goals first | (refine q1 _ ?_; clear q1 Z) | omega | rfl | decide | assumption | (intro _; omega) | (simp; done) | (simp; omega) | (simp [roomFor, maxLen, by39, by3, by68, by70, by23] <;> omega))
        refine opsA_cons fun Z q1 => ?_
        simp only [go_sem, seval, -List.reduceReplicate, hw2]
        repeat' with_reducible refine And.intro ?_ ?_
        all_goals try (first | omega | assumption | (intro _; omega))
        first | refine ⟨_, _, rfl, .inr (CallE.ctr ok (symMerge_ctr l hl hs a (a + k) (a + 2 * k) (by omega) (by omega) (by omega)) (by first | rfl | (simp [argsV, toVs, contentV, toV, capsV, capsE, ty22, ty25, ty3, ty4, ty81, ty39, ty40, ty42, ty37, ty2, ty23, ty24, ty46, ty68, ty65, ty70, ty69, ty90, ty77, ty59, List.length_map, List.take_of_length_le])) ?_)⟩ | refine ⟨_, _, rfl, .inr ⟨fun _ => CallE.ctr ok (symMerge_ctr l hl hs a (a + k) (a + 2 * k) (by omega) (by omega) (by omega)) (by first | rfl | (simp [argsV, toVs, contentV, toV, capsV, capsE, ty22, ty25, ty3, ty4, ty81, ty39, ty40, ty42, ty37, ty2, ty23, ty24, ty46, ty68, ty65, ty70, ty69, ty90, ty77, ty59, List.length_map, List.take_of_length_le])) ?_, ?_⟩⟩
        simp only [go_sem, seval, -List.reduceReplicate, hw2]
        repeat' with_reducible refine And.intro ?_ ?_
        all_goals first | (refine q1 _ ?_; clear q1 Z) | omega | rfl | decide | assumption | (intro _; omega) | (simp; done) | (simp; omega) | (simp [roomFor, maxLen, by39, by3, by68, by70, by23] <;> omega)
        refine opsA_nil (r _ ?_)
        clear r R
        try simp only [go_sem, Nat.reduceBEq]
        refine thenK.normal (SA.seq ?_)
        refine SA.region ok (by kernel_rfl) [0, 1, 2, 6, 7, 8] ?_
        intro R r
        simp only [go_sem, strip]
        iterate 2 (refine opsA_cons fun Z q1 => ?_; simp only [go_sem, seval, -List.reduceReplicate]; (repeat' with_reducible refine And.intro ?_ ?_); all_goals first | (refine q1 _ ?_; clear q1 Z) | omega | rfl | decide | assumption | (intro _; omega) | (simp; done) | (simp; omega))
        refine opsA_nil (r _ ?_)
        clear r R
        try simp only [go_sem, Nat.reduceBEq]
        refine thenK.normal ?_
        have hw3 : IntKind.i64.wrap (2 * (k : Int)) = ((2 * k : Nat) : Int) := by rw [wrap64_ok (by omega) (by omega)]; omega
        have hw3b : IntKind.i64.wrap (((a + 2 * k : Nat) : Int) + ((2 * k : Nat) : Int)) = ((a + 2 * k + 2 * k : Nat) : Int) := by rw [wrap64_ok (by omega) (by omega)]; omega
        refine SA.region ok (by kernel_rfl) [0, 1, 2, 6, 7, 8] ?_
        intro R r
        simp only [go_sem, strip]
        iterate 5 (refine opsA_cons fun Z q1 => ?_; simp only [go_sem, seval, -List.reduceReplicate, hw3, hw3b]; (repeat' with_reducible refine And.intro ?_ ?_); all_goals first | (refine q1 _ ?_; clear q1 Z) | omega | rfl | decide | assumption | (intro _; omega) | (simp; done) | (simp; omega))
        refine opsA_nil (r _ ?_)
        clear r R
        try simp only [go_sem, Nat.reduceBEq]
        refine blockK.normal ?_
        refine loopK.normal (l.length - (a + 2 * k)) _ (by omega) St.le.refl ⟨a + 2 * k, rfl, by omega, rfl⟩
      · intro hb3
        simp only [decide_eq_true_eq, decide_eq_false_iff_not, Int.not_lt, Int.not_le] at hb3
        refine SA.exit ?_
        refine thenK.exit ?_
        refine loopK.exit ?_
        refine blockK.hit ?_
        refine thenK.normal (SA.seq ?_)
        refine SA.seq ?_
        have hw2 : IntKind.i64.wrap ((a : Int) + (k : Int)) = ((a + k : Nat) : Int) := by rw [wrap64_ok (by omega) (by omega)]; omega
        refine SA.region ok (by kernel_rfl) [0, 1, 2, 6, 7, 9] ?_
        intro R r
        simp only [go_sem, strip]
        iterate 4 (refine opsA_cons fun Z q1 => ?_; simp only [go_sem, seval, -List.reduceReplicate, hw2]; (repeat' with_reducible refine And.intro ?_ ?_); all_goals first | (refine q1 _ ?_; clear q1 Z) | omega | rfl | decide | assumption | (intro _; omega) | (simp; done) | (simp; omega))
        refine opsA_nil (r _ ?_)
        clear r R
        try simp only [go_sem, Nat.reduceBEq]
        refine thenK.normal (SA.seq ?_)
        refine SA.region ok (by kernel_rfl) [0, 1, 2, 6, 7, 9, 54] ?_
        intro R r
        simp only [go_sem, strip]
        iterate 3 (refine opsA_cons fun Z q1 => ?_; simp only [go_sem, seval, -List.reduceReplicate]; (repeat' with_reducible refine And.intro ?_ ?_); all_goals first | (refine q1 _ ?_; clear q1 Z) | omega | rfl | decide | assumption | (intro _; omega) | (simp; done) | (simp; omega))
        refine opsA_nil (r _ ?_)
        clear r R
        try simp only [go_sem, Nat.reduceBEq]
        refine thenK.normal ?_
        refine SA.cond rfl ?_ ?_
        · intro hb4
          simp only [decide_eq_true_eq, decide_eq_false_iff_not, Int.not_lt, Int.not_le] at hb4
          refine SA.region ok (by kernel_rfl) [0, 1, 2, 6] ?_
          intro R r
          simp only [go_sem, strip]
          iterate 5 (refine opsA_cons fun Z q1 => ?_; simp only [go_sem, seval, -List.reduceReplicate]; (repeat' with_reducible refine And.intro ?_ ?_); all_goals first | (refine q1 _ ?_; clear q1 Z) | omega | rfl | decide | assumption | (intro _; omega) | (simp; done) | (simp; omega) | (simp [roomFor, maxLen, by39, by3, by68, by70, by23] <;> omega))
          refine opsA_cons fun Z q1 => ?_
          simp only [go_sem, seval, -List.reduceReplicate]
          repeat' with_reducible refine And.intro ?_ ?_
          all_goals try (first | omega | assumption | (intro _; omega))
          first | refine ⟨_, _, rfl, .inr (CallE.ctr ok (symMerge_ctr l hl hs a (a + k) l.length (by omega) (by omega) (Nat.le_refl _)) (by first | rfl | (simp [argsV, toVs, contentV, toV, capsV, capsE, ty22, ty25, ty3, ty4, ty81, ty39, ty40, ty42, ty37, ty2, ty23, ty24, ty46, ty68, ty65, ty70, ty69, ty90, ty77, ty59, List.length_map, List.take_of_length_le])) ?_)⟩ | refine ⟨_, _, rfl, .inr ⟨fun _ => CallE.ctr ok (symMerge_ctr l hl hs a (a + k) l.length (by omega) (by omega) (Nat.le_refl _)) (by first | rfl | (simp [argsV, toVs, contentV, toV, capsV, capsE, ty22, ty25, ty3, ty4, ty81, ty39, ty40, ty42, ty37, ty2, ty23, ty24, ty46, ty68, ty65, ty70, ty69, ty90, ty77, ty59, List.length_map, List.take_of_length_le])) ?_, ?_⟩⟩
          simp only [go_sem, seval, -List.reduceReplicate]
          repeat' with_reducible refine And.intro ?_ ?_
          all_goals first | (refine q1 _ ?_; clear q1 Z) | omega | rfl | decide | assumption | (intro _; omega) | (simp; done) | (simp; omega) | (simp [roomFor, maxLen, by39, by3, by68, by70, by23] <;> omega)
          refine opsA_nil (r _ ?_)
          clear r R
          try simp only [go_sem, Nat.reduceBEq]
          refine thenK.normal ?_
          refine SA.region ok (by kernel_rfl) [0, 1, 2, 6] ?_
          intro R r
          simp only [go_sem, strip]
          iterate 3 (refine opsA_cons fun Z q1 => ?_; simp only [go_sem, seval, -List.reduceReplicate, hw1b]; (repeat' with_reducible refine And.intro ?_ ?_); all_goals first | (refine q1 _ ?_; clear q1 Z) | omega | rfl | decide | assumption | (intro _; omega) | (simp; done) | (simp; omega))
          refine opsA_nil (r _ ?_)
          clear r R
          try simp only [go_sem, Nat.reduceBEq]
          refine blockK.normal ?_
          refine loopK.normal (l.length - 2 * k) _ (by omega) St.le.refl ⟨2 * k, rfl, by omega, rfl⟩
        · intro hb4
          simp only [decide_eq_true_eq, decide_eq_false_iff_not, Int.not_lt, Int.not_le] at hb4
          refine SA.skip ?_
          refine thenK.normal ?_
          refine SA.region ok (by kernel_rfl) [0, 1, 2, 6] ?_
          intro R r
          simp only [go_sem, strip]
          iterate 3 (refine opsA_cons fun Z q1 => ?_; simp only [go_sem, seval, -List.reduceReplicate, hw1b]; (repeat' with_reducible refine And.intro ?_ ?_); all_goals first | (refine q1 _ ?_; clear q1 Z) | omega | rfl | decide | assumption | (intro _; omega) | (simp; done) | (simp; omega))
          refine opsA_nil (r _ ?_)
          clear r R
          try simp only [go_sem, Nat.reduceBEq]
          refine blockK.normal ?_
          refine loopK.normal (l.length - 2 * k) _ (by omega) St.le.refl ⟨2 * k, rfl, by omega, rfl⟩
    · intro hb2
      simp only [decide_eq_true_eq, decide_eq_false_iff_not, Int.not_lt, Int.not_le] at hb2
      refine SA.exit ?_
      refine thenK.exit ?_
      refine loopK.exit ?_
      refine blockK.hit ?_
      refine ctrK.normal ?_
      simp only [resA, evalO, resV, backK, outE, toV, ty4, ty3, List.lookup_cons, List.lookup_nil, beq_self_eq_true, forall_const, true_and, and_true]
      all_goals exact ⟨trivial, trivial⟩

-- slices.SortStableFunc[[]scarab/api.LockEdge,scarab/api.LockEdge]
theorem sort_ctr (l : List Edge) (hl : l.length ≤ 100000) (hs : l.Pairwise elt) : Ctr Go.Proofs.Try.prog tab 56 [46, 98] [] [.list (l.map Edge.v), .fnv 57] [] := by
  have hlm : l.length ≤ maxLen := Nat.le_trans hl (by decide)
  refine Ctr.body ok Go.Proofs.Try.func56 rfl rfl 9 rfl [] rfl (by simp [fromVs]) ?_
  simp only [fromVs, fromV, args0, V.toList_list, V.toInt_int, V.toBool_bool, Nat.zero_add, Nat.reduceAdd, ty46, ty98]
  refine SA.region ok (by kernel_rfl) [] ?_
  intro R r
  simp only [go_sem, strip]
  iterate 4 (refine opsA_cons fun Z q1 => ?_; simp only [go_sem, seval, -List.reduceReplicate]; (repeat' with_reducible refine And.intro ?_ ?_); all_goals first | (refine q1 _ ?_; clear q1 Z) | omega | rfl | decide | assumption | (intro _; omega) | (simp; done) | (simp; omega) | (simp [roomFor, maxLen, by39, by3, by68, by70, by23] <;> omega))
  refine opsA_cons fun Z q1 => ?_
  simp only [go_sem, seval, -List.reduceReplicate]
  repeat' with_reducible refine And.intro ?_ ?_
  all_goals try (first | omega | assumption | (intro _; omega))
  first | refine ⟨_, _, rfl, .inr (CallE.ctr ok (stable_ctr l hl hs) (by first | rfl | (simp [argsV, toVs, contentV, toV, capsV, capsE, ty22, ty25, ty3, ty4, ty81, ty39, ty40, ty42, ty37, ty2, ty23, ty24, ty46, ty68, ty65, ty70, ty69, ty90, ty77, ty59, List.length_map, List.take_of_length_le])) ?_)⟩ | refine ⟨_, _, rfl, .inr ⟨fun _ => CallE.ctr ok (stable_ctr l hl hs) (by first | rfl | (simp [argsV, toVs, contentV, toV, capsV, capsE, ty22, ty25, ty3, ty4, ty81, ty39, ty40, ty42, ty37, ty2, ty23, ty24, ty46, ty68, ty65, ty70, ty69, ty90, ty77, ty59, List.length_map, List.take_of_length_le])) ?_, ?_⟩⟩
  simp only [go_sem, seval, -List.reduceReplicate]
  repeat' with_reducible refine And.intro ?_ ?_
  all_goals first | (refine q1 _ ?_; clear q1 Z) | omega | rfl | decide | assumption | (intro _; omega) | (simp; done) | (simp; omega) | (simp [roomFor, maxLen, by39, by3, by68, by70, by23] <;> omega)
  refine opsA_nil (r _ ?_)
  clear r R
  try simp only [go_sem, Nat.reduceBEq]
  refine ctrK.normal ?_
  simp only [resA, evalO, resV, backK, outE, toV, ty4, ty3, List.lookup_cons, List.lookup_nil, beq_self_eq_true, forall_const, true_and, and_true]
  all_goals exact ⟨trivial, trivial⟩

end Go.Eng.Try
