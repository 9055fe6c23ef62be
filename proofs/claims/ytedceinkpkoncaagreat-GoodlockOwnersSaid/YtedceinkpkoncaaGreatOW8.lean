/- A part of the proof: walks through the program's functions, and what they compute. -/
import Derived.Test.YtedceinkpkoncaaGreatSAttr
import Derived.Test.YtedceinkpkoncaaGreatE3
import Derived.Test.YtedceinkpkoncaaGreatE4
import Derived.Test.YtedceinkpkoncaaGreatOW3
namespace Go.Eng.Tryz.O
set_option maxHeartbeats 0
set_option maxRecDepth 20000
open Go.RowKit Go.Eng
set_option linter.unusedSimpArgs false
set_option linter.unusedVariables false

theorem cmp_neg (a b : Access) : cmp a b < 0 ↔ a.kind < b.kind ∨ a.kind = b.kind ∧ a.num < b.num := by
  unfold cmp
  split
  · rename_i h; constructor
    · intro _; omega
    · intro _; omega
  · rename_i h
    split
    · constructor
      · intro h; omega
      · intro h; omega
    · constructor
      · intro h; omega
      · intro h'; omega
theorem acc_eq (a : Access) (k n : Int) : decide (a = ⟨k, n, true⟩) = (decide (a.kind = k) && decide (a.num = n) && a.write) := by
  obtain ⟨k', n', w⟩ := a
  by_cases h1 : k' = k <;> by_cases h2 : n' = n <;> cases w <;> simp [h1, h2]

attribute [local go_sem] concat_at List.length_map zero52 z52 z3 z4 Int.toNat_natCast Int.natCast_zero Event.v0 Event.v7 Event.v8 Access.v0 Access.v1 Access.v2 beq_acc
def lv9 : List (Nat × List Nat) := [(0, [0, 1]), (1, [0, 1, 10]), (2, [4]), (3, [0, 1, 12, 13]), (4, [0, 1, 12, 13, 14]), (5, [0, 1, 5, 12, 13]), (6, [0, 1, 12, 13, 24]), (7, [4]), (8, [0, 1, 12, 13]), (9, [4])]
-- scarab/scarabplain.SameInts
theorem sameInts_ctr (a b : List Int) (ha : a.length ≤ maxLen) (hb : b.length ≤ maxLen) : Ctr Go.Proofs.Tryz.prog tab 9 [23, 23] [4] [.list (a.map V.int), .list (b.map V.int)] [.bool (decide (a = b))] := by
  refine Ctr.body ok Go.Proofs.Tryz.func9 rfl rfl 26 rfl [.tmp 4] rfl (by simp [fromVs]) ?_
  simp only [fromVs, fromV, args0, V.toList_list, V.toInt_int, V.toBool_bool, Nat.zero_add, Nat.reduceAdd, ty23]
  repeat' first
    | ((with_reducible first | refine SARA.do fun R1 hR1 => ?_ | refine SARQ.do fun R1 hR1 => ?_); (simp only [go_sem, seval, -List.reduceReplicate]); (repeat' with_reducible refine And.intro ?_ ?_); all_goals first | (refine hR1 _ ?_; clear hR1 R1) | omega | rfl | decide | assumption | (intro _; omega) | (simp; done) | (simp; omega) | (simp [roomFor, maxLen, by52, by3] <;> omega))
    | ((with_reducible refine SARA.nil ?_); refine hR _ ?_; clear hR R; try simp only [go_sem, lv9, lvOf, Nat.reduceBEq, Option.getD_some])
    | ((with_reducible refine SARQ.nil ?_); refine hR _ ?_; clear hR R; try simp only [go_sem, lv9, lvOf, Nat.reduceBEq, Option.getD_some])
    | (with_reducible first | refine thenK.normal ?_ | refine SA.seq ?_ | refine SA.skip ?_ | refine SA.block ?_ | refine blockK.normal ?_ | refine SA.exit ?_ | refine blockK.hit ?_ | refine blockK.miss (by decide) ?_ | refine thenK.exit ?_ | refine loopK.exit ?_ | refine SA.ret ?_ | refine thenK.ret ?_ | refine blockK.ret ?_ | refine loopK.ret ?_ | refine SA.scope ?_ | refine scopeK.normal ?_ | refine scopeK.exit ?_ | refine scopeK.ret ?_ | refine SA.label ?_)
    | ((with_reducible refine SA.regionN ok (by kernel_rfl) lv9 ?_); intro R hR; simp only [go_sem, strip])
    | ((with_reducible refine SA.regionD ok mixed (by kernel_rfl) (by kernel_rfl) lv9 ?_); intro R hR; simp only [go_sem, strip])
    | ((with_reducible refine SA.condAt 10 rfl (fun hb10 => ?_) (fun hf10 => ?_))
       all_goals
         try
           (simp at hb10)
         try
           (simp at hf10))
    | ((with_reducible refine SA.condAt 14 rfl (fun hb14 => ?_) (fun hf14 => ?_))
       all_goals
         try
           (simp at hb14)
         try
           (simp at hf14))
    | ((with_reducible refine SA.condAt 24 rfl (fun hb24 => ?_) (fun hf24 => ?_))
       all_goals
         try
           (simp at hb24)
         try
           (simp at hf24))
    | ((with_reducible refine SA.atLoop ?_)
       refine SA.weaken (St.le.of_eq (by first | rfl | (simp; done) | fail)) (SA.loop (fun n τ => ∃ (i : Nat), n = a.length - i ∧ (i ≤ a.length ∧ a.length = b.length ∧ a.take i = b.take i) ∧ τ = { tm := [(0, true, .fs 3 (a.map V.int) false), (1, true, .fs 3 (b.map V.int) false), (12, true, .int .i64 a.length), (13, true, .int .i64 i)], ob := [], out := [], nt := 26 }) (a.length) ⟨0, rfl, ⟨Nat.zero_le _, by omega, rfl⟩, rfl⟩ ?_)
       rintro n τ ⟨i, hn, ⟨hi, hl, hc⟩, rfl⟩)
    | ((with_reducible refine loopK.round ?_)
       first
         | (have _ := hf10
            have _ := hb14
            have _ := hf24
            have hlt : i < a.length := by omega
            refine loopK.normal (a.length - (i + 1)) _ (by omega) (St.le.of_eq (by simp only [wrap_succ hlt ha])) ⟨i + 1, rfl, ⟨hlt, hl, ?_⟩, rfl⟩
            have hlt' : i < b.length := by omega
            rw [List.take_succ_eq_append_getElem hlt, List.take_succ_eq_append_getElem hlt', hc]
            have : a[i] = b[i] := by simpa [hlt, hlt'] using hf24
            rw [this]))
    | ((with_reducible first | refine ctrK.normal ?_ | refine ctrK.ret ?_)
       simp only [resA, evalO, resV, backK, outE, toV, ty4, ty3, List.lookup_cons, List.lookup_nil, beq_self_eq_true, forall_const, true_and, and_true]
       first
         | (have _ := hb10
            refine ⟨rfl, ?_⟩
            have : decide (a = b) = false := by simpa using fun h => by subst h; omega
            rw [this]; rfl)
         | (have _ := hf10
            have _ := hb14
            have _ := hb24
            refine ⟨rfl, ?_⟩
            have hlt : i < a.length := by omega
            have hlt' : i < b.length := by omega
            have : decide (a = b) = false := by
              simp only [decide_eq_false_iff_not]
              intro h
              subst h
              simp at hb24
            rw [this]; rfl)
         | (have _ := hf10
            have _ := hf14
            refine ⟨rfl, ?_⟩
            have : i = a.length := by omega
            subst this
            rw [List.take_length, hl, List.take_length] at hc
            simp [hc]))

end Go.Eng.Tryz.O
