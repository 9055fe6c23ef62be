/- A part of the proof: walks through the program's functions, and what they compute. -/
import Derived.Test.YtbfihoopgcmkpaaTryTab
import Derived.Test.YtbfihoopgcmkpaaMdl
import Derived.Test.YtbfihoopgcmkpaaEngT
import Derived.Test.YtbfihoopgcmkpaaW8
namespace Go.Eng.Try
open Go.RowKit Go.Eng
set_option linter.unusedSimpArgs false
set_option linter.unusedVariables false

def refTo (t : List Event) (k u : Int) (i : Nat) : List Int := (List.range i).flatMap fun j => List.replicate ((t.getD j default).of.countP (isAt k u)) (j : Int)
theorem refTo_succ (t : List Event) (k u : Int) (i : Nat) : refTo t k u (i + 1) = refTo t k u i ++ List.replicate ((t.getD i default).of.countP (isAt k u)) (i : Int) := by
  simp [refTo, List.range_succ]
theorem countP_take {p : Access → Bool} (l : List Access) {j : Nat} (h : j < l.length) : (l.take (j + 1)).countP p = (l.take j).countP p + (if p (l.getD j default) then 1 else 0) := by
  rw [List.take_succ_eq_append_getElem h, List.countP_append]
  simp [List.countP_cons, List.getD_eq_getElem?_getD, h]
theorem refTo_len (t : List Event) (k u : Int) (h6 : ∀ e ∈ t, e.touch.length = 6) : ∀ (i : Nat), i ≤ t.length → (refTo t k u i).length ≤ 6 * i
  | 0, _ => by simp [refTo]
  | i + 1, h => by
    have := refTo_len t k u h6 i (by omega)
    rw [refTo_succ, List.length_append, List.length_replicate]
    have h1 := List.countP_le_length (p := isAt k u) (l := (t.getD i default).of)
    have h2 := Event.of_len _ (h6 _ (getD_mem t (show i < t.length by omega)))
    omega
/-- The row after so many accesses of the event at hand. -/
def refAt (t : List Event) (k u : Int) (i j : Nat) : List Int := refTo t k u i ++ List.replicate (((t.getD i default).of.take j).countP (isAt k u)) (i : Int)
theorem refAt_len (t : List Event) (k u : Int) (h6 : ∀ e ∈ t, e.touch.length = 6) {i j : Nat} (hi : i < t.length) : (refAt t k u i j).length ≤ 6 * i + 6 := by
  have h0 := refTo_len t k u h6 i (by omega)
  have h1 := List.countP_le_length (p := isAt k u) (l := (t.getD i default).of.take j)
  have h2 := Event.of_len _ (h6 _ (getD_mem t hi))
  simp only [refAt, List.length_append, List.length_replicate]
  simp only [List.length_take] at h1
  omega
theorem refAt_hit {t : List Event} {k u : Int} {i j : Nat} (hj : j < (t.getD i default).of.length) (h : isAt k u ((t.getD i default).of.getD j default) = true) : refAt t k u i (j + 1) = refAt t k u i j ++ [(i : Int)] := by
  simp only [refAt, countP_take _ hj, h, if_true, List.replicate_succ', List.append_assoc]
theorem refAt_miss {t : List Event} {k u : Int} {i j : Nat} (hj : j < (t.getD i default).of.length) (h : isAt k u ((t.getD i default).of.getD j default) = false) : refAt t k u i (j + 1) = refAt t k u i j := by
  simp only [refAt, countP_take _ hj, h, Bool.false_eq_true, if_false, Nat.add_zero]

attribute [local go_sem] Option.getD_some St.keep List.filterMap_cons List.filterMap_nil Option.map_some Option.map_none opG opQ opB newEs outE CallStepB guardA putK putE pureA evalO evalL constE pickA loadA fieldAddrA indexAddrA indexA sliceA evalOptI builtinA binA plainA shiftA eqA arith shifts effA storeA appendA St.kill Tm.kill E.kill E.killL Obj.kill elemsOf evalVs buildA okAt toV fromV zeroE V.get V.put V.sub V.setSub fromVs args0 CallStep CallStepQ i64min i64max u64min u64max u32min u32max u8min u8max Nat.zero_add List.length_map List.lookup_cons List.lookup_nil List.getElem?_cons_zero List.getElem?_cons_succ List.getElem?_toArray List.getElem?_nil Option.bind_some Option.bind_none List.size_toArray List.length_cons List.length_nil List.nil_append List.append_nil List.cons_append List.getD_cons_zero List.getD_cons_succ List.map_cons List.map_nil List.set_cons_zero List.set_cons_succ true_and and_true forall_const true_implies Bool.true_and Bool.and_true Bool.not_true Bool.not_false Bool.false_and Bool.and_false beq_self_eq_true Bool.true_beq Bool.false_beq beq_true beq_false eq_self false_implies V.toInt_int V.toBool_bool V.toList_list V.toList_agg V.toStr_str V.deref_ref if_true if_false Bool.false_eq_true Option.isSome_none Option.isSome_some Bool.false_or Bool.true_or Bool.or_false Bool.or_true cond_true cond_false implies_true and_self imp_self ty33 ty32 ty34 ty3 ty4 ty22 ty27 ty28 ty30 ty25 ty2 concat_at zero27 z27 z3 z4 Int.toNat_natCast Int.natCast_zero Event.v0 Event.v7 Event.v8 Access.v0 Access.v1 Access.v2 beq_acc
-- scarab/scarabref10.Users
theorem refUsers_ctr (t : List Event) (k u : Int) (ht : t.length ≤ 256) (h6 : ∀ e ∈ t, e.touch.length = 6) : Ctr Go.Proofs.Try.prog tab 15 [32, 3, 3] [33] [.list (t.map Event.v), .int k, .int u] [.list ((refTo t k u t.length).map V.int)] := by
  have hm : t.length ≤ maxLen := Nat.le_trans ht (by decide)
  refine Ctr.body ok Go.Proofs.Try.func15 rfl rfl 49 rfl [.tmp 6] rfl (by simp [fromVs]) ?_
  simp only [fromVs, fromV, args0, V.toList_list, V.toInt_int, V.toBool_bool, Nat.zero_add, Nat.reduceAdd, ty3, ty32]
  refine SA.seq ?_
  refine SA.region ok (by kernel_rfl) [0, 1, 2] ?_
  intro R hR
  simp only [go_sem, strip]
  iterate 1 (refine opsA_cons fun R1 hR1 => ?_; simp only [go_sem, Nat.reduceBEq, Nat.reduceLT, Nat.reduceEqDiff, Nat.reduceAdd, Int.reduceLE, Int.reduceLT, Int.reduceNeg, Int.reduceEq, Int.reduceToNat, reduceCtorEq]; (repeat' with_reducible refine And.intro ?_ ?_); all_goals first | (refine hR1 _ ?_; clear hR1 R1) | omega | rfl | decide | assumption | (intro _; omega) | (simp; done) | (simp; omega) | (simp [roomFor, maxLen, by27, by3] <;> omega))
  refine opsA_nil (hR _ ?_)
  clear hR R
  try simp only [go_sem, Nat.reduceBEq]
  refine thenK.normal ?_
  refine SA.seq ?_
  refine SA.region ok (by kernel_rfl) [0, 1, 2, 7] ?_
  intro R hR
  simp only [go_sem, strip]
  iterate 1 (refine opsA_cons fun R1 hR1 => ?_; simp only [go_sem, Nat.reduceBEq, Nat.reduceLT, Nat.reduceEqDiff, Nat.reduceAdd, Int.reduceLE, Int.reduceLT, Int.reduceNeg, Int.reduceEq, Int.reduceToNat, reduceCtorEq]; (repeat' with_reducible refine And.intro ?_ ?_); all_goals first | (refine hR1 _ ?_; clear hR1 R1) | omega | rfl | decide | assumption | (intro _; omega) | (simp; done) | (simp; omega) | (simp [roomFor, maxLen, by27, by3] <;> omega))
  refine opsA_nil (hR _ ?_)
  clear hR R
  try simp only [go_sem, Nat.reduceBEq]
  refine thenK.normal ?_
  refine SA.seq ?_
  refine SA.seq ?_
  refine SA.region ok (by kernel_rfl) [0, 1, 2, 7, 8] ?_
  intro R hR
  simp only [go_sem, strip]
  iterate 1 (refine opsA_cons fun R1 hR1 => ?_; simp only [go_sem, Nat.reduceBEq, Nat.reduceLT, Nat.reduceEqDiff, Nat.reduceAdd, Int.reduceLE, Int.reduceLT, Int.reduceNeg, Int.reduceEq, Int.reduceToNat, reduceCtorEq]; (repeat' with_reducible refine And.intro ?_ ?_); all_goals first | (refine hR1 _ ?_; clear hR1 R1) | omega | rfl | decide | assumption | (intro _; omega) | (simp; done) | (simp; omega) | (simp [roomFor, maxLen, by27, by3] <;> omega))
  refine opsA_nil (hR _ ?_)
  clear hR R
  try simp only [go_sem, Nat.reduceBEq]
  refine thenK.normal ?_
  refine SA.block ?_
  refine SA.weaken ((St.le.own (t := 7) 3 rfl).trans ((St.le.keep [0, 1, 2, 7, 8]).trans (St.le.of_eq (by first | rfl | simp)))) (SA.loop (fun n τ => ∃ (i : Nat), n = t.length - i ∧ (i ≤ t.length) ∧ τ = { tm := [(0, true, .fs 30 (t.map Event.v) false), (1, true, .int .i64 k), (2, true, .int .i64 u), (7, true, .sl 0 3 0 (refTo t k u i).length false), (8, true, .int .i64 i)], ob := [.row 3 ((refTo t k u i).map V.int)], out := [], nt := 49 }) (t.length) ⟨0, rfl, Nat.zero_le _, rfl⟩ ?_)
  rintro n τ ⟨i, hn, hi, rfl⟩
  refine SA.seq ?_
  refine SA.seq ?_
  refine SA.region ok (by kernel_rfl) [0, 1, 2, 7, 8, 14] ?_
  intro R hR
  simp only [go_sem, strip]
  iterate 4 (refine opsA_cons fun R1 hR1 => ?_; simp only [go_sem, Nat.reduceBEq, Nat.reduceLT, Nat.reduceEqDiff, Nat.reduceAdd, Int.reduceLE, Int.reduceLT, Int.reduceNeg, Int.reduceEq, Int.reduceToNat, reduceCtorEq]; (repeat' with_reducible refine And.intro ?_ ?_); all_goals first | (refine hR1 _ ?_; clear hR1 R1) | omega | rfl | decide | assumption | (intro _; omega) | (simp; done) | (simp; omega) | (simp [roomFor, maxLen, by27, by3] <;> omega))
  refine opsA_nil (hR _ ?_)
  clear hR R
  try simp only [go_sem, Nat.reduceBEq]
  refine thenK.normal ?_
  refine SA.cond rfl ?_ ?_
  · intro hb1
    simp at hb1
    refine SA.skip ?_
    refine thenK.normal ?_
    refine SA.seq ?_
    refine SA.block ?_
    refine SA.seq ?_
    refine SA.region ok (by kernel_rfl) [0, 1, 2, 7, 8, 9] ?_
    intro R hR
    simp only [go_sem, strip]
    iterate 3 (refine opsA_cons fun R1 hR1 => ?_; simp only [go_sem, Nat.reduceBEq, Nat.reduceLT, Nat.reduceEqDiff, Nat.reduceAdd, Int.reduceLE, Int.reduceLT, Int.reduceNeg, Int.reduceEq, Int.reduceToNat, reduceCtorEq]; (repeat' with_reducible refine And.intro ?_ ?_); all_goals first | (refine hR1 _ ?_; clear hR1 R1) | omega | rfl | decide | assumption | (intro _; omega) | (simp; done) | (simp; omega) | (simp [roomFor, maxLen, by27, by3] <;> omega))
    refine opsA_cons fun R1 hR1 => ?_
    simp only [go_sem, Nat.reduceBEq, Nat.reduceLT, Nat.reduceEqDiff, Nat.reduceAdd, Int.reduceLE, Int.reduceLT, Int.reduceNeg, Int.reduceEq, Int.reduceToNat, reduceCtorEq]
    repeat' with_reducible refine And.intro ?_ ?_
    all_goals first | (refine hR1 _ ?_; clear hR1 R1) | omega | rfl | decide | assumption | (intro _; omega) | (simp; done) | (simp; omega) | (simp [roomFor, maxLen, by27, by3] <;> omega)
    have hlt : i < t.length := by omega
    rw [getD_map Event.v t hlt]
    refine opsA_cons fun R1 hR1 => ?_
    simp only [go_sem, Nat.reduceBEq, Nat.reduceLT, Nat.reduceEqDiff, Nat.reduceAdd, Int.reduceLE, Int.reduceLT, Int.reduceNeg, Int.reduceEq, Int.reduceToNat, reduceCtorEq]
    repeat' with_reducible refine And.intro ?_ ?_
    all_goals try (first | omega | assumption | (intro _; omega))
    first | refine ⟨_, _, rfl, .inr (CallE.ctr ok (of_ctr _ (h6 _ (getD_mem t hlt))) (by first | rfl | (simp [argsV, contentV, toV, ty33, ty32, ty34, ty3, ty4, ty22, ty27, ty28, ty30, ty25, ty2, List.length_map, List.take_of_length_le])) ?_)⟩ | refine ⟨_, _, rfl, .inr ⟨fun _ => CallE.ctr ok (of_ctr _ (h6 _ (getD_mem t hlt))) (by first | rfl | (simp [argsV, contentV, toV, ty33, ty32, ty34, ty3, ty4, ty22, ty27, ty28, ty30, ty25, ty2, List.length_map, List.take_of_length_le])) ?_, ?_⟩⟩
    simp only [go_sem, Nat.reduceBEq, Nat.reduceLT, Nat.reduceEqDiff, Nat.reduceAdd, Int.reduceLE, Int.reduceLT, Int.reduceNeg, Int.reduceEq, Int.reduceToNat, reduceCtorEq]
    repeat' with_reducible refine And.intro ?_ ?_
    all_goals first | (refine hR1 _ ?_; clear hR1 R1) | omega | rfl | decide | assumption | (intro _; omega) | (simp; done) | (simp; omega) | (simp [roomFor, maxLen, by27, by3] <;> omega)
    iterate 1 (refine opsA_cons fun R1 hR1 => ?_; simp only [go_sem, Nat.reduceBEq, Nat.reduceLT, Nat.reduceEqDiff, Nat.reduceAdd, Int.reduceLE, Int.reduceLT, Int.reduceNeg, Int.reduceEq, Int.reduceToNat, reduceCtorEq]; (repeat' with_reducible refine And.intro ?_ ?_); all_goals first | (refine hR1 _ ?_; clear hR1 R1) | omega | rfl | decide | assumption | (intro _; omega) | (simp; done) | (simp; omega) | (simp [roomFor, maxLen, by27, by3] <;> omega))
    refine opsA_nil (hR _ ?_)
    clear hR R
    try simp only [go_sem, Nat.reduceBEq]
    have h7 : (t.getD i default).of.length ≤ maxLen := Nat.le_trans (Event.of_len _ (h6 _ (getD_mem t hlt))) (by decide)
    refine thenK.normal ?_
    refine SA.seq ?_
    refine SA.region ok (by kernel_rfl) [0, 1, 2, 7, 8, 9, 10] ?_
    intro R hR
    simp only [go_sem, strip]
    iterate 1 (refine opsA_cons fun R1 hR1 => ?_; simp only [go_sem, Nat.reduceBEq, Nat.reduceLT, Nat.reduceEqDiff, Nat.reduceAdd, Int.reduceLE, Int.reduceLT, Int.reduceNeg, Int.reduceEq, Int.reduceToNat, reduceCtorEq]; (repeat' with_reducible refine And.intro ?_ ?_); all_goals first | (refine hR1 _ ?_; clear hR1 R1) | omega | rfl | decide | assumption | (intro _; omega) | (simp; done) | (simp; omega) | (simp [roomFor, maxLen, by27, by3] <;> omega))
    refine opsA_nil (hR _ ?_)
    clear hR R
    try simp only [go_sem, Nat.reduceBEq]
    refine thenK.normal ?_
    refine SA.block ?_
    refine SA.weaken (St.le.of_eq (by simp [refAt])) (SA.loop (fun n τ => ∃ (j : Nat), n = (t.getD i default).of.length - j ∧ (j ≤ (t.getD i default).of.length) ∧ τ = { tm := [(0, true, .fs 30 (t.map Event.v) false), (1, true, .int .i64 k), (2, true, .int .i64 u), (7, true, .sl 0 3 0 (refAt t k u i j).length false), (8, true, .int .i64 i), (9, true, .sl 1 27 0 (t.getD i default).of.length false), (10, true, .int .i64 j)], ob := [.row 3 ((refAt t k u i j).map V.int), .row 27 ((t.getD i default).of.map Access.v)], out := [], nt := 49 }) ((t.getD i default).of.length) ⟨0, rfl, Nat.zero_le _, rfl⟩ ?_)
    rintro n τ ⟨j, hn, hj, rfl⟩
    refine SA.seq ?_
    refine SA.seq ?_
    refine SA.region ok (by kernel_rfl) [0, 1, 2, 7, 8, 9, 10, 25] ?_
    intro R hR
    simp only [go_sem, strip]
    iterate 4 (refine opsA_cons fun R1 hR1 => ?_; simp only [go_sem, Nat.reduceBEq, Nat.reduceLT, Nat.reduceEqDiff, Nat.reduceAdd, Int.reduceLE, Int.reduceLT, Int.reduceNeg, Int.reduceEq, Int.reduceToNat, reduceCtorEq]; (repeat' with_reducible refine And.intro ?_ ?_); all_goals first | (refine hR1 _ ?_; clear hR1 R1) | omega | rfl | decide | assumption | (intro _; omega) | (simp; done) | (simp; omega) | (simp [roomFor, maxLen, by27, by3] <;> omega))
    refine opsA_nil (hR _ ?_)
    clear hR R
    try simp only [go_sem, Nat.reduceBEq]
    refine thenK.normal ?_
    refine SA.cond rfl ?_ ?_
    · intro hb2
      simp only [decide_eq_true_eq] at hb2
      refine SA.skip ?_
      refine thenK.normal ?_
      refine SA.seq ?_
      refine SA.block ?_
      refine SA.seq ?_
      refine SA.region ok (by kernel_rfl) [0, 1, 2, 7, 8, 9, 10, 43] ?_
      intro R hR
      simp only [go_sem, strip]
      iterate 16 (refine opsA_cons fun R1 hR1 => ?_; simp only [go_sem, Nat.reduceBEq, Nat.reduceLT, Nat.reduceEqDiff, Nat.reduceAdd, Int.reduceLE, Int.reduceLT, Int.reduceNeg, Int.reduceEq, Int.reduceToNat, reduceCtorEq]; (repeat' with_reducible refine And.intro ?_ ?_); all_goals first | (refine hR1 _ ?_; clear hR1 R1) | omega | rfl | decide | assumption | (intro _; omega) | (simp; done) | (simp; omega) | (simp [roomFor, maxLen, by27, by3] <;> omega))
      refine opsA_nil (hR _ ?_)
      clear hR R
      try simp only [go_sem, Nat.reduceBEq]
      refine thenK.normal ?_
      refine SA.cond rfl ?_ ?_
      · intro hb3
        skip
        refine SA.region ok (by kernel_rfl) [0, 1, 2, 7, 8, 9, 10] ?_
        intro R hR
        simp only [go_sem, strip]
        iterate 3 (refine opsA_cons fun R1 hR1 => ?_; simp only [go_sem, Nat.reduceBEq, Nat.reduceLT, Nat.reduceEqDiff, Nat.reduceAdd, Int.reduceLE, Int.reduceLT, Int.reduceNeg, Int.reduceEq, Int.reduceToNat, reduceCtorEq]; (repeat' with_reducible refine And.intro ?_ ?_); all_goals first | (refine hR1 _ ?_; clear hR1 R1) | omega | rfl | decide | assumption | (intro _; omega) | (simp; done) | (simp; omega) | (simp [roomFor, maxLen, by27, by3] <;> omega))
        refine opsA_cons fun R1 hR1 => ?_
        simp only [go_sem, Nat.reduceBEq, Nat.reduceLT, Nat.reduceEqDiff, Nat.reduceAdd, Int.reduceLE, Int.reduceLT, Int.reduceNeg, Int.reduceEq, Int.reduceToNat, reduceCtorEq]
        repeat' with_reducible refine And.intro ?_ ?_
        all_goals first | (refine hR1 _ ?_; clear hR1 R1) | omega | rfl | decide | assumption | (have := refAt_len t k u h6 (j := j) (show i < t.length by omega); simp [roomFor, maxLen, by3] <;> omega)
        iterate 1 (refine opsA_cons fun R1 hR1 => ?_; simp only [go_sem, Nat.reduceBEq, Nat.reduceLT, Nat.reduceEqDiff, Nat.reduceAdd, Int.reduceLE, Int.reduceLT, Int.reduceNeg, Int.reduceEq, Int.reduceToNat, reduceCtorEq]; (repeat' with_reducible refine And.intro ?_ ?_); all_goals first | (refine hR1 _ ?_; clear hR1 R1) | omega | rfl | decide | assumption | (intro _; omega) | (simp; done) | (simp; omega) | (simp [roomFor, maxLen, by27, by3] <;> omega))
        refine opsA_nil (hR _ ?_)
        clear hR R
        try simp only [go_sem, Nat.reduceBEq]
        refine blockK.normal ?_
        refine thenK.normal ?_
        refine SA.region ok (by kernel_rfl) [0, 1, 2, 7, 8, 9, 10] ?_
        intro R hR
        simp only [go_sem, strip]
        iterate 3 (refine opsA_cons fun R1 hR1 => ?_; simp only [go_sem, Nat.reduceBEq, Nat.reduceLT, Nat.reduceEqDiff, Nat.reduceAdd, Int.reduceLE, Int.reduceLT, Int.reduceNeg, Int.reduceEq, Int.reduceToNat, reduceCtorEq]; (repeat' with_reducible refine And.intro ?_ ?_); all_goals first | (refine hR1 _ ?_; clear hR1 R1) | omega | rfl | decide | assumption | (intro _; omega) | (simp; done) | (simp; omega) | (simp [roomFor, maxLen, by27, by3] <;> omega))
        refine opsA_nil (hR _ ?_)
        clear hR R
        try simp only [go_sem, Nat.reduceBEq]
        have hlt : i < t.length := by omega
        have hjl : j < (t.getD i default).of.length := by omega
        have h7 : (t.getD i default).of.length ≤ maxLen := Nat.le_trans (Event.of_len _ (h6 _ (getD_mem t hlt))) (by decide)
        simp only [getD_map Access.v _ hjl] at hb3
        have h3 : isAt k u ((t.getD i default).of.getD j default) = true := by simpa [isAt, Access.v] using hb3
        have e1 : List.take (refAt t k u i j).length (List.map V.int (refAt t k u i j)) ++ List.take 1 (List.drop 0 [V.int i]) = List.map V.int (refAt t k u i (j + 1)) := by
          rw [refAt_hit hjl h3]; simp [List.take_of_length_le]
        have e3 : (refAt t k u i (j + 1)).length = (refAt t k u i j).length + 1 := by rw [refAt_hit hjl h3]; simp
        refine loopK.normal ((t.getD i default).of.length - (j + 1)) _ (by omega) ((St.le.cut 2 rfl).trans (St.le.of_eq (by rw [e1, e3, wrap_succ hjl h7]; rfl))) ⟨j + 1, rfl, hjl, rfl⟩
      · intro hb3
        skip
        refine SA.skip ?_
        refine blockK.normal ?_
        refine thenK.normal ?_
        refine SA.region ok (by kernel_rfl) [0, 1, 2, 7, 8, 9, 10] ?_
        intro R hR
        simp only [go_sem, strip]
        iterate 3 (refine opsA_cons fun R1 hR1 => ?_; simp only [go_sem, Nat.reduceBEq, Nat.reduceLT, Nat.reduceEqDiff, Nat.reduceAdd, Int.reduceLE, Int.reduceLT, Int.reduceNeg, Int.reduceEq, Int.reduceToNat, reduceCtorEq]; (repeat' with_reducible refine And.intro ?_ ?_); all_goals first | (refine hR1 _ ?_; clear hR1 R1) | omega | rfl | decide | assumption | (intro _; omega) | (simp; done) | (simp; omega) | (simp [roomFor, maxLen, by27, by3] <;> omega))
        refine opsA_nil (hR _ ?_)
        clear hR R
        try simp only [go_sem, Nat.reduceBEq]
        have hlt : i < t.length := by omega
        have hjl : j < (t.getD i default).of.length := by omega
        have h7 : (t.getD i default).of.length ≤ maxLen := Nat.le_trans (Event.of_len _ (h6 _ (getD_mem t hlt))) (by decide)
        simp only [getD_map Access.v _ hjl] at hb3
        have h3 : isAt k u ((t.getD i default).of.getD j default) = false := by simpa [isAt, Access.v] using hb3
        refine loopK.normal ((t.getD i default).of.length - (j + 1)) _ (by omega) (St.le.of_eq (by rw [refAt_miss hjl h3, wrap_succ hjl h7])) ⟨j + 1, rfl, hjl, rfl⟩
    · intro hb2
      simp only [decide_eq_false_iff_not] at hb2
      refine SA.exit ?_
      refine thenK.exit ?_
      refine loopK.exit ?_
      refine blockK.hit ?_
      refine blockK.normal ?_
      refine thenK.normal ?_
      refine SA.region ok (by kernel_rfl) [0, 1, 2, 7, 8] ?_
      intro R hR
      simp only [go_sem, strip]
      iterate 3 (refine opsA_cons fun R1 hR1 => ?_; simp only [go_sem, Nat.reduceBEq, Nat.reduceLT, Nat.reduceEqDiff, Nat.reduceAdd, Int.reduceLE, Int.reduceLT, Int.reduceNeg, Int.reduceEq, Int.reduceToNat, reduceCtorEq]; (repeat' with_reducible refine And.intro ?_ ?_); all_goals first | (refine hR1 _ ?_; clear hR1 R1) | omega | rfl | decide | assumption | (intro _; omega) | (simp; done) | (simp; omega) | (simp [roomFor, maxLen, by27, by3] <;> omega))
      refine opsA_nil (hR _ ?_)
      clear hR R
      try simp only [go_sem, Nat.reduceBEq]
      have hlt : i < t.length := by omega
      have hj : j = (t.getD i default).of.length := by omega
      subst hj
      have e1 : refAt t k u i (t.getD i default).of.length = refTo t k u (i + 1) := by rw [refAt, List.take_length, refTo_succ]
      refine loopK.normal (t.length - (i + 1)) _ (by omega) ((St.le.cut 1 rfl).trans (St.le.of_eq (by rw [e1, wrap_succ hlt hm]; rfl))) ⟨i + 1, rfl, hlt, rfl⟩
  · intro hb1
    simp at hb1
    refine SA.exit ?_
    refine thenK.exit ?_
    refine loopK.exit ?_
    refine blockK.hit ?_
    refine thenK.normal ?_
    refine SA.seq ?_
    refine SA.region ok (by kernel_rfl) [6] ?_
    intro R hR
    simp only [go_sem, strip]
    iterate 2 (refine opsA_cons fun R1 hR1 => ?_; simp only [go_sem, Nat.reduceBEq, Nat.reduceLT, Nat.reduceEqDiff, Nat.reduceAdd, Int.reduceLE, Int.reduceLT, Int.reduceNeg, Int.reduceEq, Int.reduceToNat, reduceCtorEq]; (repeat' with_reducible refine And.intro ?_ ?_); all_goals first | (refine hR1 _ ?_; clear hR1 R1) | omega | rfl | decide | assumption | (intro _; omega) | (simp; done) | (simp; omega) | (simp [roomFor, maxLen, by27, by3] <;> omega))
    refine opsA_nil (hR _ ?_)
    clear hR R
    try simp only [go_sem, Nat.reduceBEq]
    refine thenK.normal ?_
    refine SA.ret ?_
    refine ctrK.ret ?_
    simp only [resA, evalO, resV, backK, outE, toV, ty4, ty3, List.lookup_cons, List.lookup_nil, beq_self_eq_true, forall_const, true_and, and_true]
    simp only [go_sem, Nat.reduceBEq, Nat.reduceLT, Nat.reduceEqDiff, Nat.reduceAdd, Int.reduceLE, Int.reduceLT, Int.reduceNeg, Int.reduceEq, Int.reduceToNat, reduceCtorEq]
    have : i = t.length := by omega
    subst this
    refine ⟨rfl, ?_, by simp⟩
    simp [List.take_of_length_le]

end Go.Eng.Try
