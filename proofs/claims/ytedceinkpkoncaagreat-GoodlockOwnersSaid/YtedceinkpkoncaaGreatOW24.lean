/- A part of the proof: walks through the program's functions, and what they compute. -/
import Derived.Test.YtedceinkpkoncaaGreatSAttr
import Derived.Test.YtedceinkpkoncaaGreatM1
import Derived.Test.YtedceinkpkoncaaGreatE4
import Derived.Test.YtedceinkpkoncaaGreatOW22
namespace Go.Eng.Tryz.O
set_option maxHeartbeats 0
set_option maxRecDepth 20000
open Go.RowKit Go.Eng
set_option linter.unusedSimpArgs false
set_option linter.unusedVariables false

theorem symMerge_ctr (l : List Edge) (hl : l.length ≤ 100000) (hs : l.Pairwise elt) : ∀ (a m b : Nat), a < m → m < b → b ≤ l.length → Ctr Go.Proofs.Tryz.prog tab 89 [92, 3, 3, 3, 133] [] [.list (l.map Edge.v), .int a, .int m, .int b, .fnv 57] [] := by
  have key : ∀ (n a m b : Nat), b - a ≤ n → a < m → m < b → b ≤ l.length → Ctr Go.Proofs.Tryz.prog tab 89 [92, 3, 3, 3, 133] [] [.list (l.map Edge.v), .int a, .int m, .int b, .fnv 57] [] := by
    intro n
    induction n with
    | zero => intro a m b h1 h2 h3 h4; omega
    | succ n ih => intro a m b h1 h2 h3 h4; exact symMerge_step l hl hs a m b h2 h3 h4 (fun a' m' b' g1 g2 g3 g4 => ih a' m' b' (by omega) g2 g3 g4)
  exact fun a m b h1 h2 h3 => key (b - a) a m b (Nat.le_refl _) h1 h2 h3

attribute [local go_sem] concat_at List.length_map List.length_range zero52 z52 z3 z4 z79 z89 z55 z53 z50 z2 zero53 z78 z117 zero79 zero78 zero117 zero89 zero55 Int.toNat_natCast Int.natCast_zero Event.v0 Event.v3 Event.v5 Event.v7 Event.v8 Access.v0 Access.v1 Access.v2 beq_acc Edge.v0 Edge.v1 Edge.v2 Edge.v3 heldOf_len locksTo_len heldsTo_len nowL_len
def lv75 : List (Nat × List Nat) := [(0, [0, 1, 2, 6]), (1, [0, 1, 2, 6, 7, 8]), (2, [0, 1, 2, 6, 7, 8, 13]), (3, [0, 1, 2, 6, 8]), (4, [0, 1, 2, 6, 7, 8]), (5, [0, 1, 2, 6, 7, 8]), (6, [0, 1, 2, 6]), (7, [0, 1, 2, 6, 30]), (8, [0, 1, 2, 6, 7, 8]), (9, [0, 1, 2, 6, 7, 8, 35]), (10, [0, 1, 2, 6, 8]), (11, [0, 1, 2, 6, 7, 8]), (12, [0, 1, 2, 6, 7, 8]), (13, [0, 1, 2, 6, 7, 9]), (14, [0, 1, 2, 6, 7, 9, 54]), (15, [0, 1, 2, 6]), (16, [0, 1, 2, 6])]
-- slices.stableCmpFunc[scarab/api.LockEdge]
theorem stable_ctr (l : List Edge) (hl : l.length ≤ 100000) (hs : l.Pairwise elt) : Ctr Go.Proofs.Tryz.prog tab 75 [92, 3, 133] [] [.list (l.map Edge.v), .int l.length, .fnv 57] [] := by
  refine Ctr.body ok Go.Proofs.Tryz.func75 rfl rfl 63 rfl [] rfl (by simp [fromVs]) ?_
  simp only [fromVs, fromV, args0, V.toList_list, V.toInt_int, V.toBool_bool, Nat.zero_add, Nat.reduceAdd, ty3, ty92, ty133]
  repeat' first
    | ((with_reducible refine SARA.told 5 _ ?_); try simp only [hw0])
    | ((with_reducible refine SARA.told 8 _ ?_); try simp only [hw1])
    | ((with_reducible refine SARA.told 10 _ ?_); try simp only [hw2])
    | ((with_reducible refine SARA.told 12 _ ?_); try simp only [hw3, hw3b])
    | ((with_reducible refine SARA.told 13 _ ?_); try simp only [hw2])
    | ((with_reducible refine SARA.told 16 _ ?_); try simp only [hw1b])
    | ((with_reducible refine SARA.do fun R1 hR1 => ?_); (simp only [go_sem, seval, -List.reduceReplicate]); (repeat' with_reducible refine And.intro ?_ ?_); all_goals first | (refine hR1 _ ?_; clear hR1 R1) | ((first | refine ⟨_, _, rfl, .inr (CallE.ctr ok (insertion_ctr l hl hs a (a + 20) (by omega) (by omega)) (by first | rfl | (simp [go_sem, List.length_map, List.take_of_length_le]; done) | fail) ?_)⟩ | refine ⟨_, _, rfl, .inr (CallE.ctr ok (insertion_ctr l hl hs a l.length (by omega) (Nat.le_refl _)) (by first | rfl | (simp [go_sem, List.length_map, List.take_of_length_le]; done) | fail) ?_)⟩ | refine ⟨_, _, rfl, .inr (CallE.ctr ok (symMerge_ctr l hl hs a (a + k) (a + 2 * k) (by omega) (by omega) (by omega)) (by first | rfl | (simp [go_sem, List.length_map, List.take_of_length_le]; done) | fail) ?_)⟩ | refine ⟨_, _, rfl, .inr (CallE.ctr ok (symMerge_ctr l hl hs a (a + k) l.length (by omega) (by omega) (Nat.le_refl _)) (by first | rfl | (simp [go_sem, List.length_map, List.take_of_length_le]; done) | fail) ?_)⟩); all_goals ((try simp only [go_sem, seval, -List.reduceReplicate]); (repeat' with_reducible refine And.intro ?_ ?_); all_goals first | (refine hR1 _ ?_; clear hR1 R1) | omega | rfl | decide | assumption | (intro _; omega) | (simp; done) | (simp; omega) | (simp [roomFor, maxLen, by52, by3, by89, by79, by23] <;> omega))) | omega | rfl | decide | assumption | (intro _; omega) | (simp; done) | (simp; omega) | (simp [roomFor, maxLen, by52, by3, by89, by79, by23] <;> omega))
    | ((with_reducible refine SARA.nil ?_); refine hR _ ?_; clear hR R; try simp only [go_sem, lv75, lvOf, Nat.reduceBEq, Option.getD_some])
    | (with_reducible first | refine thenK.normal ?_ | refine SA.seq ?_ | refine SA.skip ?_ | refine SA.block ?_ | refine blockK.normal ?_ | refine SA.exit ?_ | refine blockK.hit ?_ | refine blockK.miss (by decide) ?_ | refine thenK.exit ?_ | refine loopK.exit ?_ | refine SA.ret ?_ | refine thenK.ret ?_ | refine blockK.ret ?_ | refine loopK.ret ?_ | refine SA.scope ?_ | refine scopeK.normal ?_ | refine scopeK.exit ?_ | refine scopeK.ret ?_ | refine SA.label ?_)
    | ((with_reducible refine SA.at 5 ?_)
       have hw0 : IntKind.i64.wrap (((a + 20 : Nat) : Int) + 20) = ((a + 20 + 20 : Nat) : Int) := by rw [wrap64_ok (by omega) (by omega)]; omega
       (with_reducible refine SA.regionN ok (by kernel_rfl) lv75 ?_); intro R hR; simp only [go_sem, strip])
    | ((with_reducible refine SA.at 8 ?_)
       have hw1 : IntKind.i64.wrap (2 * (k : Int)) = ((0 + 2 * k : Nat) : Int) := by rw [wrap64_ok (by omega) (by omega)]; omega
       have hw1b : IntKind.i64.wrap ((k : Int) * 2) = ((2 * k : Nat) : Int) := by rw [wrap64_ok (by omega) (by omega)]; omega
       (with_reducible refine SA.regionN ok (by kernel_rfl) lv75 ?_); intro R hR; simp only [go_sem, strip])
    | ((with_reducible refine SA.at 10 ?_)
       have hw2 : IntKind.i64.wrap ((a : Int) + (k : Int)) = ((a + k : Nat) : Int) := by rw [wrap64_ok (by omega) (by omega)]; omega
       (with_reducible refine SA.regionN ok (by kernel_rfl) lv75 ?_); intro R hR; simp only [go_sem, strip])
    | ((with_reducible refine SA.at 12 ?_)
       have hw3 : IntKind.i64.wrap (2 * (k : Int)) = ((2 * k : Nat) : Int) := by rw [wrap64_ok (by omega) (by omega)]; omega
       have hw3b : IntKind.i64.wrap (((a + 2 * k : Nat) : Int) + ((2 * k : Nat) : Int)) = ((a + 2 * k + 2 * k : Nat) : Int) := by rw [wrap64_ok (by omega) (by omega)]; omega
       (with_reducible refine SA.regionN ok (by kernel_rfl) lv75 ?_); intro R hR; simp only [go_sem, strip])
    | ((with_reducible refine SA.at 13 ?_)
       have hw2 : IntKind.i64.wrap ((a : Int) + (k : Int)) = ((a + k : Nat) : Int) := by rw [wrap64_ok (by omega) (by omega)]; omega
       (with_reducible refine SA.regionN ok (by kernel_rfl) lv75 ?_); intro R hR; simp only [go_sem, strip])
    | ((with_reducible refine SA.regionN ok (by kernel_rfl) lv75 ?_); intro R hR; simp only [go_sem, strip])
    | ((with_reducible refine SA.condAt 13 rfl (fun hb13 => ?_) (fun hf13 => ?_))
       all_goals
         try
           (simp only [decide_eq_true_eq, decide_eq_false_iff_not, Int.not_lt, Int.not_le] at hb13)
         try
           (simp only [decide_eq_true_eq, decide_eq_false_iff_not, Int.not_lt, Int.not_le] at hf13))
    | ((with_reducible refine SA.condAt 30 rfl (fun hb30 => ?_) (fun hf30 => ?_))
       all_goals
         try
           (simp only [decide_eq_true_eq, decide_eq_false_iff_not, Int.not_lt, Int.not_le] at hb30)
         try
           (simp only [decide_eq_true_eq, decide_eq_false_iff_not, Int.not_lt, Int.not_le] at hf30))
    | ((with_reducible refine SA.condAt 35 rfl (fun hb35 => ?_) (fun hf35 => ?_))
       all_goals
         try
           (simp only [decide_eq_true_eq, decide_eq_false_iff_not, Int.not_lt, Int.not_le] at hb35)
         try
           (simp only [decide_eq_true_eq, decide_eq_false_iff_not, Int.not_lt, Int.not_le] at hf35))
    | ((with_reducible refine SA.condAt 54 rfl (fun hb54 => ?_) (fun hf54 => ?_))
       all_goals
         try
           (simp only [decide_eq_true_eq, decide_eq_false_iff_not, Int.not_lt, Int.not_le] at hb54)
         try
           (simp only [decide_eq_true_eq, decide_eq_false_iff_not, Int.not_lt, Int.not_le] at hf54))
    | ((with_reducible refine SA.atLoop ?_)
       refine SA.weaken (St.le.of_eq (by first | rfl | (simp; done) | fail)) (SA.loop (fun n τ => ∃ (a : Nat), n = l.length - a ∧ (a ≤ l.length) ∧ τ = { tm := [(0, true, .fs 89 (l.map Edge.v) false), (1, true, .int .i64 l.length), (2, true, .fn 57 []), (6, true, .int .i64 20), (7, true, .int .i64 a), (8, true, .int .i64 (a + 20 : Nat))], ob := [], out := [], nt := 63 }) (l.length) ⟨0, rfl, Nat.zero_le _, rfl⟩ ?_)
       rintro n τ ⟨a, hn, ha, rfl⟩)
    | ((with_reducible refine SA.atLoop ?_)
       refine SA.weaken (St.le.of_eq (by first | rfl | (simp; done) | fail)) (SA.loop (fun n τ => ∃ (k : Nat), n = l.length - k ∧ (1 ≤ k ∧ k ≤ 200000) ∧ τ = { tm := [(0, true, .fs 89 (l.map Edge.v) false), (1, true, .int .i64 l.length), (2, true, .fn 57 []), (6, true, .int .i64 k)], ob := [], out := [], nt := 63 }) (l.length - 20) ⟨20, rfl, by omega, rfl⟩ ?_)
       rintro n τ ⟨k, hn, ⟨hk1, hk2⟩, rfl⟩)
    | ((with_reducible refine SA.atLoop ?_)
       refine SA.weaken (St.le.of_eq (by first | rfl | (simp; done) | fail)) (SA.loop (fun n τ => ∃ (a : Nat), n = l.length - a ∧ (a ≤ l.length) ∧ τ = { tm := [(0, true, .fs 89 (l.map Edge.v) false), (1, true, .int .i64 l.length), (2, true, .fn 57 []), (6, true, .int .i64 k), (7, true, .int .i64 a), (8, true, .int .i64 (a + 2 * k : Nat))], ob := [], out := [], nt := 63 }) (l.length) ⟨0, rfl, Nat.zero_le _, rfl⟩ ?_)
       rintro n τ ⟨a, hn, ha2, rfl⟩)
    | ((with_reducible refine loopK.round ?_)
       first
         | (refine loopK.normal (l.length - (a + 20)) _ (by omega) St.le.refl ⟨a + 20, rfl, by omega, rfl⟩)
         | (refine loopK.normal (l.length - 2 * k) _ (by omega) St.le.refl ⟨2 * k, rfl, by omega, rfl⟩)
         | (refine loopK.normal (l.length - (a + 2 * k)) _ (by omega) St.le.refl ⟨a + 2 * k, rfl, by omega, rfl⟩))
    | ((with_reducible first | refine ctrK.normal ?_ | refine ctrK.ret ?_)
       simp only [resA, evalO, resV, backK, outE, toV, ty4, ty3, List.lookup_cons, List.lookup_nil, beq_self_eq_true, forall_const, true_and, and_true]
       all_goals exact ⟨trivial, trivial⟩)

def lv56 : List (Nat × List Nat) := [(0, [])]
-- slices.SortStableFunc[[]scarab/api.LockEdge,scarab/api.LockEdge]
theorem sort_ctr (l : List Edge) (hl : l.length ≤ 100000) (hs : l.Pairwise elt) : Ctr Go.Proofs.Tryz.prog tab 56 [92, 133] [] [.list (l.map Edge.v), .fnv 57] [] := by
  have hlm : l.length ≤ maxLen := Nat.le_trans hl (by decide)
  refine Ctr.body ok Go.Proofs.Tryz.func56 rfl rfl 9 rfl [] rfl (by simp [fromVs]) ?_
  simp only [fromVs, fromV, args0, V.toList_list, V.toInt_int, V.toBool_bool, Nat.zero_add, Nat.reduceAdd, ty92, ty133]
  repeat' first
    | ((with_reducible refine SARA.do fun R1 hR1 => ?_); (simp only [go_sem, seval, -List.reduceReplicate]); (repeat' with_reducible refine And.intro ?_ ?_); all_goals first | (refine hR1 _ ?_; clear hR1 R1) | ((first | refine ⟨_, _, rfl, .inr (CallE.ctr ok (stable_ctr l hl hs) (by first | rfl | (simp [go_sem, List.length_map, List.take_of_length_le]; done) | fail) ?_)⟩); all_goals ((try simp only [go_sem, seval, -List.reduceReplicate]); (repeat' with_reducible refine And.intro ?_ ?_); all_goals first | (refine hR1 _ ?_; clear hR1 R1) | omega | rfl | decide | assumption | (intro _; omega) | (simp; done) | (simp; omega) | (simp [roomFor, maxLen, by52, by3, by89, by79, by23] <;> omega))) | omega | rfl | decide | assumption | (intro _; omega) | (simp; done) | (simp; omega) | (simp [roomFor, maxLen, by52, by3, by89, by79, by23] <;> omega))
    | ((with_reducible refine SARA.nil ?_); refine hR _ ?_; clear hR R; try simp only [go_sem, lv56, lvOf, Nat.reduceBEq, Option.getD_some])
    | (with_reducible first | refine thenK.normal ?_ | refine SA.seq ?_ | refine SA.skip ?_ | refine SA.block ?_ | refine blockK.normal ?_ | refine SA.exit ?_ | refine blockK.hit ?_ | refine blockK.miss (by decide) ?_ | refine thenK.exit ?_ | refine loopK.exit ?_ | refine SA.ret ?_ | refine thenK.ret ?_ | refine blockK.ret ?_ | refine loopK.ret ?_ | refine SA.scope ?_ | refine scopeK.normal ?_ | refine scopeK.exit ?_ | refine scopeK.ret ?_ | refine SA.label ?_)
    | ((with_reducible refine SA.regionN ok (by kernel_rfl) lv56 ?_); intro R hR; simp only [go_sem, strip])
    | ((with_reducible first | refine ctrK.normal ?_ | refine ctrK.ret ?_)
       simp only [resA, evalO, resV, backK, outE, toV, ty4, ty3, List.lookup_cons, List.lookup_nil, beq_self_eq_true, forall_const, true_and, and_true]
       all_goals exact ⟨trivial, trivial⟩)

end Go.Eng.Tryz.O
