/- A part of the proof: walks through the program's functions, and what they compute. -/
import Derived.Test.YtedceinkpkoncaaGreatSAttr
import Derived.Test.YtedceinkpkoncaaGreatM1
import Derived.Test.YtedceinkpkoncaaGreatE4
import Derived.Test.YtedceinkpkoncaaGreatOW31
import Derived.Test.YtedceinkpkoncaaGreatOW8
namespace Go.Eng.Tryz.O
set_option maxHeartbeats 0
set_option maxRecDepth 20000
open Go.RowKit Go.Eng
set_option linter.unusedSimpArgs false
set_option linter.unusedVariables false

theorem beq_edge (a b : Edge) : V.beq a.v b.v = decide (a = b) := by
  obtain ⟨f, o, g, h⟩ := a
  obtain ⟨f', o', g', h'⟩ := b
  simp only [Edge.v, V.beq, V.beqL]
  by_cases h1 : f = f' <;> by_cases h2 : o = o' <;> by_cases h3 : g = g' <;> by_cases h4 : h = h' <;> simp [h1, h2, h3, h4]
theorem beqL_acc : ∀ (a b : List Access), V.beqL (a.map Access.v) (b.map Access.v) = decide (a = b)
  | [], [] => rfl
  | [], _ :: _ => rfl
  | _ :: _, [] => rfl
  | x :: a, y :: b => by
    simp only [List.map_cons, V.beqL, beqL_acc a b]
    have : V.beq x.v y.v = decide (x = y) := beq_acc x y.kind y.num y.write
    rw [this]
    by_cases h1 : x = y <;> by_cases h2 : a = b <;> simp [h1, h2]
theorem beq_event (a b : Event) : V.beq a.v b.v = decide (a = b) := by
  obtain ⟨a1, a2, a3, a4, a5, a6, a7, a8, a9⟩ := a
  obtain ⟨b1, b2, b3, b4, b5, b6, b7, b8, b9⟩ := b
  simp only [Event.v, V.beq, V.beqL, beqL_acc]
  rw [Bool.eq_iff_iff]
  simp only [Bool.and_eq_true, decide_eq_true_eq, beq_iff_eq, Event.mk.injEq]
  simp [and_assoc]
def acc0 : Access := ⟨0, 0, false⟩
def takingE (g l : Int) : Event := ⟨g, 0, 0, 55, 0, 0, 0, [⟨2, l, true⟩, ⟨5, g, true⟩, acc0, acc0, acc0, acc0], 2⟩
def givingE (g l : Int) : Event := { takingE g l with op := 56 }

attribute [local go_sem] concat_at List.length_map List.length_range zero52 z52 z3 z4 z79 z89 z55 z53 z50 z2 zero53 z78 z117 zero79 zero78 zero117 zero89 zero55 Int.toNat_natCast Int.natCast_zero Event.v0 Event.v3 Event.v5 Event.v7 Event.v8 Access.v0 Access.v1 Access.v2 beq_acc Edge.v0 Edge.v1 Edge.v2 Edge.v3 heldOf_len locksTo_len heldsTo_len nowL_len ringsV_len Kind.v0 Kind.v1 Kind.v2 Kind.v3 beq_kind beq_edge beq_event
def lv15 : List (Nat × List Nat) := [(0, [0, 1]), (1, [0, 1, 10]), (2, [4]), (3, [0, 1, 12, 13]), (4, [0, 1, 12, 13, 14]), (5, [0, 1, 5, 12, 13]), (6, [0, 1, 12, 13, 25]), (7, [4]), (8, [0, 1, 12, 13]), (9, [4])]
-- scarab/scarabplain.SameRows
theorem sameRows_ctr (a b : List (List Int)) (ha : a.length ≤ maxLen) (hb : b.length ≤ maxLen) (ha5 : ∀ r ∈ a, r.length ≤ maxLen) (hb5 : ∀ r ∈ b, r.length ≤ maxLen) : Ctr Go.Proofs.Tryz.prog tab 15 [67, 67] [4] [.list (ringsV a), .list (ringsV b)] [.bool (decide (a = b))] := by
  refine Ctr.body ok Go.Proofs.Tryz.func15 rfl rfl 27 rfl [.tmp 4] rfl (by simp [fromVs]) ?_
  simp only [fromVs, fromV, args0, V.toList_list, V.toInt_int, V.toBool_bool, Nat.zero_add, Nat.reduceAdd, ty67]
  repeat' first
    | ((with_reducible refine SART.told 6 _ ?_); try simp only [ringsV_at hlt, ringsV_at hlt'])
    | ((with_reducible first | refine SARA.do fun R1 hR1 => ?_ | refine SART.do fun R1 hR1 => ?_ | refine SARB.keep fun R1 hR1 => ?_ | refine SARB.any fun R1 hR1 => ?_); (simp only [go_sem, seval, -List.reduceReplicate]); (repeat' with_reducible refine And.intro ?_ ?_); all_goals first | (refine hR1 _ ?_; clear hR1 R1) | ((first | refine ⟨_, _, rfl, .inl ⟨_, CallQ.ctr ok (sameInts_ctr _ _ hx1 hx2) (by first | rfl | (simp [go_sem, List.length_map, List.take_of_length_le]; done) | fail) rfl, ?_⟩⟩); all_goals ((try simp only [go_sem, seval, -List.reduceReplicate]); (repeat' with_reducible refine And.intro ?_ ?_); all_goals first | (refine hR1 _ ?_; clear hR1 R1) | omega | rfl | decide | assumption | (intro _; omega) | (simp; done) | (simp; omega) | (simp [roomFor, maxLen, by52, by3, by89, by79, by23] <;> omega))) | omega | rfl | decide | assumption | (intro _; omega) | (simp; done) | (simp; omega) | (simp [roomFor, maxLen, by52, by3, by89, by79, by23] <;> omega))
    | ((with_reducible refine SART.done ?_); refine hR _ ?_; clear hR R; try simp only [go_sem, lv15, lvOf, Nat.reduceBEq, Option.getD_some])
    | (with_reducible first | refine SART.br ?_ ?_ | exact SARL.nil | refine SARL.cons ?_ ?_)
    | ((with_reducible refine SARA.nil ?_); refine hR _ ?_; clear hR R; try simp only [go_sem, lv15, lvOf, Nat.reduceBEq, Option.getD_some])
    | (with_reducible first | refine thenK.normal ?_ | refine SA.seq ?_ | refine SA.skip ?_ | refine SA.block ?_ | refine blockK.normal ?_ | refine SA.exit ?_ | refine blockK.hit ?_ | refine blockK.miss (by decide) ?_ | refine thenK.exit ?_ | refine loopK.exit ?_ | refine SA.ret ?_ | refine thenK.ret ?_ | refine blockK.ret ?_ | refine loopK.ret ?_ | refine SA.scope ?_ | refine scopeK.normal ?_ | refine scopeK.exit ?_ | refine scopeK.ret ?_ | refine SA.label ?_)
    | ((with_reducible refine SA.at 6 ?_)
       have hlt : i < a.length := by omega
       have hlt' : i < b.length := by omega
       have hx1 := ha5 _ (getD_mem a hlt)
       have hx2 := hb5 _ (getD_mem b hlt')
       refine SA.regionT ok mixed (.take 0 (.take 1 (.take 2 (.take 3 (.take 4 (.take 5 (.take 6 (.take 7 (.br 8 (.take 9 .done) .nil))))))))) [] lv15 (by kernel_rfl) (fun R hR => ?_); simp only [go_sem, strip])
    | ((with_reducible refine SA.regionN ok (by kernel_rfl) lv15 ?_); intro R hR; simp only [go_sem, strip])
    | ((with_reducible refine SA.condAt 10 rfl (fun hb10 => ?_) (fun hf10 => ?_))
       all_goals
         try
           (simp at hb10)
         try
           (simp at hf10))
    | ((with_reducible refine SA.condAt 14 rfl (fun hb14 => ?_) (fun hf14 => ?_))
       all_goals
         try
           (simp at hb14)
         try
           (simp at hf14))
    | ((with_reducible refine SA.condAt 25 rfl (fun hb25 => ?_) (fun hf25 => ?_))
       all_goals
         try
           (simp at hb25)
         try
           (simp at hf25))
    | ((with_reducible refine SA.atLoop ?_)
       refine SA.weaken (St.le.of_eq (by first | rfl | (simp; done) | fail)) (SA.loop (fun n τ => ∃ (i : Nat), n = a.length - i ∧ (i ≤ a.length ∧ a.length = b.length ∧ a.take i = b.take i) ∧ τ = { tm := [(0, true, .fs 23 (ringsV a) false), (1, true, .fs 23 (ringsV b) false), (12, true, .int .i64 a.length), (13, true, .int .i64 i)], ob := [], out := [], nt := 27 }) (a.length) ⟨0, rfl, ⟨Nat.zero_le _, by omega, rfl⟩, rfl⟩ ?_)
       rintro n τ ⟨i, hn, ⟨hi, hl, hc⟩, rfl⟩)
    | ((with_reducible refine loopK.round ?_)
       first
         | (have _ := hf10
            have _ := hb14
            have _ := hf25
            have hlt : i < a.length := by omega
            refine loopK.normal (a.length - (i + 1)) _ (by omega) (St.le.of_eq (by simp only [wrap_succ hlt ha])) ⟨i + 1, rfl, ⟨hlt, hl, ?_⟩, rfl⟩
            have hlt' : i < b.length := by omega
            rw [List.take_succ_eq_append_getElem hlt, List.take_succ_eq_append_getElem hlt', hc]
            have : a[i] = b[i] := by simpa [hlt, hlt'] using hf25
            rw [this]))
    | ((with_reducible first | refine ctrK.normal ?_ | refine ctrK.ret ?_)
       simp only [resA, evalO, resV, backK, outE, toV, ty4, ty3, List.lookup_cons, List.lookup_nil, beq_self_eq_true, forall_const, true_and, and_true]
       first
         | (have _ := hb10
            refine ⟨rfl, ?_⟩
            have : decide (a = b) = false := by simpa using fun h => by subst h; omega
            rw [this]; rfl)
         | (have _ := hf10
            have _ := hb14
            have _ := hb25
            refine ⟨rfl, ?_⟩
            have hlt : i < a.length := by omega
            have hlt' : i < b.length := by omega
            have : decide (a = b) = false := by
              simp only [decide_eq_false_iff_not]
              intro h
              subst h
              simp at hb25
            rw [this]; rfl)
         | (have _ := hf10
            have _ := hf14
            refine ⟨rfl, ?_⟩
            have : i = a.length := by omega
            subst this
            rw [List.take_length, hl, List.take_length] at hc
            simp [hc]))

def lv11 : List (Nat × List Nat) := [(0, [0, 1, 4]), (1, [0, 1, 4, 5]), (2, [0, 4, 5]), (3, [4, 5]), (4, [4])]
-- scarab/scarablaw25.taking
theorem taking_ctr (g l : Int) : Ctr Go.Proofs.Tryz.prog tab 11 [3, 3] [55] [.int g, .int l] [(takingE g l).v] := by
  refine Ctr.body ok Go.Proofs.Tryz.func11 rfl rfl 17 rfl [.cell 4 55] rfl (by simp [fromVs]) ?_
  simp only [fromVs, fromV, args0, V.toList_list, V.toInt_int, V.toBool_bool, Nat.zero_add, Nat.reduceAdd, ty3]
  repeat' first
    | ((with_reducible refine SARA.do fun R1 hR1 => ?_); (simp only [go_sem, seval, -List.reduceReplicate]); (repeat' with_reducible refine And.intro ?_ ?_); all_goals first | (refine hR1 _ ?_; clear hR1 R1) | omega | rfl | decide | assumption | (intro _; omega) | (simp; done) | (simp; omega) | (simp [roomFor, maxLen, by52, by3, by89, by79, by23] <;> omega))
    | ((with_reducible refine SARA.nil ?_); refine hR _ ?_; clear hR R; try simp only [go_sem, lv11, lvOf, Nat.reduceBEq, Option.getD_some])
    | (with_reducible first | refine thenK.normal ?_ | refine SA.seq ?_ | refine SA.skip ?_ | refine SA.block ?_ | refine blockK.normal ?_ | refine SA.exit ?_ | refine blockK.hit ?_ | refine blockK.miss (by decide) ?_ | refine thenK.exit ?_ | refine loopK.exit ?_ | refine SA.ret ?_ | refine thenK.ret ?_ | refine blockK.ret ?_ | refine loopK.ret ?_ | refine SA.scope ?_ | refine scopeK.normal ?_ | refine scopeK.exit ?_ | refine scopeK.ret ?_ | refine SA.label ?_)
    | ((with_reducible refine SA.regionN ok (by kernel_rfl) lv11 ?_); intro R hR; simp only [go_sem, strip])
    | ((with_reducible first | refine ctrK.normal ?_ | refine ctrK.ret ?_)
       simp only [resA, evalO, resV, backK, outE, toV, ty4, ty3, List.lookup_cons, List.lookup_nil, beq_self_eq_true, forall_const, true_and, and_true]
       simp [go_sem, loadA, flatTy, flatTys, takingE, givingE, Event.v, Access.v, acc0, ty53, ty52, ty3, ty4, ty50, ty2])

def lv12 : List (Nat × List Nat) := [(0, [0, 1, 4]), (1, [4, 5]), (2, [4, 5]), (3, [4])]
-- scarab/scarablaw25.giving
theorem giving_ctr (g l : Int) : Ctr Go.Proofs.Tryz.prog tab 12 [3, 3] [55] [.int g, .int l] [(givingE g l).v] := by
  refine Ctr.body ok Go.Proofs.Tryz.func12 rfl rfl 11 rfl [.cell 4 55] rfl (by simp [fromVs]) ?_
  simp only [fromVs, fromV, args0, V.toList_list, V.toInt_int, V.toBool_bool, Nat.zero_add, Nat.reduceAdd, ty3]
  repeat' first
    | ((with_reducible refine SARA.do fun R1 hR1 => ?_); (simp only [go_sem, seval, -List.reduceReplicate]); (repeat' with_reducible refine And.intro ?_ ?_); all_goals first | (refine hR1 _ ?_; clear hR1 R1) | ((first | refine ⟨_, _, rfl, .inl ⟨_, CallQ.ctr ok (taking_ctr g l) (by first | rfl | (simp [go_sem, List.length_map, List.take_of_length_le]; done) | fail) rfl, ?_⟩⟩); all_goals ((try simp only [go_sem, seval, -List.reduceReplicate]); (repeat' with_reducible refine And.intro ?_ ?_); all_goals first | (refine hR1 _ ?_; clear hR1 R1) | omega | rfl | decide | assumption | (intro _; omega) | (simp; done) | (simp; omega) | (simp [roomFor, maxLen, by52, by3, by89, by79, by23] <;> omega))) | omega | rfl | decide | assumption | (intro _; omega) | (simp; done) | (simp; omega) | (simp [roomFor, maxLen, by52, by3, by89, by79, by23] <;> omega))
    | ((with_reducible refine SARA.nil ?_); refine hR _ ?_; clear hR R; try simp only [go_sem, lv12, lvOf, Nat.reduceBEq, Option.getD_some])
    | (with_reducible first | refine thenK.normal ?_ | refine SA.seq ?_ | refine SA.skip ?_ | refine SA.block ?_ | refine blockK.normal ?_ | refine SA.exit ?_ | refine blockK.hit ?_ | refine blockK.miss (by decide) ?_ | refine thenK.exit ?_ | refine loopK.exit ?_ | refine SA.ret ?_ | refine thenK.ret ?_ | refine blockK.ret ?_ | refine loopK.ret ?_ | refine SA.scope ?_ | refine scopeK.normal ?_ | refine scopeK.exit ?_ | refine scopeK.ret ?_ | refine SA.label ?_)
    | ((with_reducible refine SA.regionN ok (by kernel_rfl) lv12 ?_); intro R hR; simp only [go_sem, strip])
    | ((with_reducible first | refine ctrK.normal ?_ | refine ctrK.ret ?_)
       simp only [resA, evalO, resV, backK, outE, toV, ty4, ty3, List.lookup_cons, List.lookup_nil, beq_self_eq_true, forall_const, true_and, and_true]
       simp [go_sem, loadA, flatTy, flatTys, takingE, givingE, Event.v, Access.v, acc0, ty53, ty52, ty3, ty4, ty50, ty2])

end Go.Eng.Tryz.O
