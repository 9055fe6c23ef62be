/- A part of the proof: walks through the program's functions, and what they compute. -/
import Derived.Test.YtedceinkpkoncaaGreatSAttr
import Derived.Test.YtedceinkpkoncaaGreatM1
import Derived.Test.YtedceinkpkoncaaGreatE4
import Derived.Test.YtedceinkpkoncaaGreatOW30
namespace Go.Eng.Tryz.O
set_option maxHeartbeats 0
set_option maxRecDepth 20000
open Go.RowKit Go.Eng
set_option linter.unusedSimpArgs false
set_option linter.unusedVariables false

theorem check_right {t : List Event} (h : check t = 0) : t.all right = true := by
  unfold check at h
  split at h
  · cases h
  · cases hr : t.all right with
    | true => rfl
    | false => rw [hr] at h; cases h
def heldErr (t : List Event) (i : Int) : Int := if check t ≠ 0 then check t else if i < 0 ∨ (t.length : Int) ≤ i then 1 else 0
def heldRes (t : List Event) (i : Int) : List Int := if heldErr t i = 0 then numsOf (heldOf t i.toNat) 4 else []
def guardErr (t : List Event) (ring : List Int) : Int := if check t ≠ 0 then check t else if 4 < ring.length then 2 else if ring ∈ ringsOf (edges t) then 0 else 9
def guardRes (t : List Event) (ring : List Int) : Bool := if guardErr t ring = 0 then !chosen (apartB t) ring (edges t) ring.length [] else false
theorem any_mem (rs : List (List Int)) (r : List Int) : (rs.any fun l => decide (l = r)) = decide (r ∈ rs) := by
  rw [Bool.eq_iff_iff]
  simp
theorem ringsOn_len (test : List Int → Bool) : ∀ f l x, x ∈ ringsOn test f l → x.length ≤ l.length + f
  | 0, l, x, h => by simp [ringsOn] at h
  | f + 1, l, x, h => by
    rw [ringsOn_succ, List.mem_append] at h
    rcases h with h | h
    · split at h
      · simp at h; rw [h]; omega
      · simp at h
    · unfold ringsFrom at h
      obtain ⟨n, _, h⟩ := List.mem_flatMap.1 h
      have := ringsOn_len test f _ x h
      simp at this
      omega
theorem ringsOf_len {all : List Edge} {x : List Int} (h : x ∈ ringsOf all) : x.length ≤ 5 := by
  unfold ringsOf ringsTo at h
  obtain ⟨n, _, h⟩ := List.mem_flatMap.1 h
  exact ringsOn_len _ 4 _ x h
theorem ringsOf_bound (all : List Edge) : (ringsOf all).length ≤ 5000 := Nat.le_trans (ringsTo_bound _ 4) (by decide)
theorem inRing_ctr (rs : List (List Int)) (hl : rs.length ≤ maxLen) (h5 : ∀ x ∈ rs, x.length ≤ 5) (ring : List Int) (hr : ring.length ≤ maxLen) : Ctr Go.Proofs.Tryz.prog tab 24 [67, 87] [4] [.list (ringsV rs), .clo 25 [23] [.list (ring.map V.int)]] [.bool (decide (ring ∈ rs))] := by
  rw [← any_mem]
  exact containsRing_ctr rs hl _ _ _ rfl (fun l => decide (l = ring)) (fun l hm σ K h => guarded1_call ring hr l (Nat.le_trans (h5 l hm) (by decide)) false h)

attribute [local go_sem] concat_at List.length_map List.length_range zero52 z52 z3 z4 z79 z89 z55 z53 z50 z2 zero53 z78 z117 zero79 zero78 zero117 zero89 zero55 Int.toNat_natCast Int.natCast_zero Event.v0 Event.v3 Event.v5 Event.v7 Event.v8 Access.v0 Access.v1 Access.v2 beq_acc Edge.v0 Edge.v1 Edge.v2 Edge.v3 heldOf_len locksTo_len heldsTo_len nowL_len ringsV_len
def lv13 : List (Nat × List Nat) := [(0, [0]), (1, [0, 4]), (2, [0, 4, 8]), (3, [2, 3]), (4, [2, 3])]
-- scarab/goodlock.Rings
theorem Rings_ctr (t : List Event) (ht : t.length ≤ maxLen) (h6 : ∀ e ∈ t, e.touch.length = 6) : CtrZ Go.Proofs.Tryz.prog tab 13 [30] [67, 58] [.list (t.map Event.v)] [.list (ringsV (if check t = 0 then ringsOf (edges t) else [])), .int (check t)] := by
  refine CtrZ.body ok Go.Proofs.Tryz.func13 rfl rfl 12 rfl [.tmp 2, .tmp 3] rfl (by simp [fromVs]) ?_
  simp only [fromVs, fromV, args0, V.toList_list, V.toInt_int, V.toBool_bool, Nat.zero_add, Nat.reduceAdd, ty30]
  repeat' first
    | ((with_reducible refine SARA.do fun R1 hR1 => ?_); (simp only [go_sem, seval, -List.reduceReplicate]); (repeat' with_reducible refine And.intro ?_ ?_); all_goals first | (refine hR1 _ ?_; clear hR1 R1) | ((first | refine ⟨_, _, rfl, .inl ⟨_, CallQ.ctr ok (check_ctr t ht h6) (by first | rfl | (simp [go_sem, List.length_map, List.take_of_length_le]; done) | fail) rfl, ?_⟩⟩ | refine ⟨_, _, rfl, .inr (CallE.ctrZ (rings_ctr t (by omega) h6 hr) (by first | rfl | (simp [go_sem, List.length_map, List.take_of_length_le]; done) | fail) ?_)⟩); all_goals ((try simp only [go_sem, seval, -List.reduceReplicate]); (repeat' with_reducible refine And.intro ?_ ?_); all_goals first | (refine hR1 _ ?_; clear hR1 R1) | omega | rfl | decide | assumption | (intro _; omega) | (simp; done) | (simp; omega) | (simp [roomFor, maxLen, by52, by3, by89, by79, by23] <;> omega))) | omega | rfl | decide | assumption | (intro _; omega) | (simp; done) | (simp; omega) | (simp [roomFor, maxLen, by52, by3, by89, by79, by23] <;> omega))
    | ((with_reducible refine SARA.nil ?_); refine hR _ ?_; clear hR R; try simp only [go_sem, lv13, lvOf, Nat.reduceBEq, Option.getD_some])
    | (with_reducible first | refine thenK.normal ?_ | refine SA.seq ?_ | refine SA.skip ?_ | refine SA.block ?_ | refine blockK.normal ?_ | refine SA.exit ?_ | refine blockK.hit ?_ | refine blockK.miss (by decide) ?_ | refine thenK.exit ?_ | refine loopK.exit ?_ | refine SA.ret ?_ | refine thenK.ret ?_ | refine blockK.ret ?_ | refine loopK.ret ?_ | refine SA.scope ?_ | refine scopeK.normal ?_ | refine scopeK.exit ?_ | refine scopeK.ret ?_ | refine SA.label ?_)
    | ((with_reducible refine SA.regionN ok (by kernel_rfl) lv13 ?_); intro R hR; simp only [go_sem, strip])
    | ((with_reducible refine SA.condAt 8 rfl (fun hb8 => ?_) (fun hf8 => ?_))
       all_goals
         try
           (simp at hb8)
         try
           (simp at hf8
            have h256 := check_len hf8
            have hr := check_right hf8))
    | ((with_reducible first | refine ctrZK.normal ?_ | refine ctrZK.ret ?_)
       simp only [resA, evalO, resV, backK, outE, toV, ty4, ty3, List.lookup_cons, List.lookup_nil, beq_self_eq_true, forall_const, true_and, and_true]
       simp only [go_sem, seval, -List.reduceReplicate]
       first
         | (have _ := hb8
            simp [hb8, ringsV])
         | (have _ := hf8
            simp [hf8, ringsV]))

def lv8 : List (Nat × List Nat) := [(0, [0, 1]), (1, [0, 1, 6]), (2, [0, 1, 6, 13]), (3, [4, 5]), (4, [0, 1, 22]), (5, [4, 5]), (6, [0, 1, 7]), (7, [7, 27, 28]), (8, [7, 27, 28, 29]), (9, [7, 8, 9, 27, 28]), (10, [7, 8, 27, 28, 32]), (11, [7, 27, 28]), (12, [7, 27, 28]), (13, [4, 5])]
-- scarab/goodlock.Held
theorem Held_ctr (t : List Event) (i : Int) (ht : t.length ≤ maxLen) (h6 : ∀ e ∈ t, e.touch.length = 6) : Ctr Go.Proofs.Tryz.prog tab 8 [30, 3] [23, 58] [.list (t.map Event.v), .int i] [.list ((heldRes t i).map V.int), .int (heldErr t i)] := by
  refine Ctr.body ok Go.Proofs.Tryz.func8 rfl rfl 39 rfl [.tmp 4, .tmp 5] rfl (by simp [fromVs]) ?_
  simp only [fromVs, fromV, args0, V.toList_list, V.toInt_int, V.toBool_bool, Nat.zero_add, Nat.reduceAdd, ty3, ty30]
  repeat' first
    | ((with_reducible refine SARA.at 11 3 ?_)
       (with_reducible refine SARA.do fun R1 hR1 => ?_); (simp only [go_sem, seval, -List.reduceReplicate]); (repeat' with_reducible refine And.intro ?_ ?_); all_goals first | (refine hR1 _ ?_; clear hR1 R1) | ((first | refine ⟨_, _, rfl, .inl ⟨_, CallQ.ctr ok (check_ctr t ht h6) (by first | rfl | (simp [go_sem, List.length_map, List.take_of_length_le]; done) | fail) rfl, ?_⟩⟩ | refine ⟨_, _, rfl, .inr (CallE.ctr ok (held_ctr t (by omega) h6 hr) (by first | rfl | (simp [go_sem, List.length_map, List.take_of_length_le]; done) | fail) ?_)⟩); all_goals ((try simp only [go_sem, seval, -List.reduceReplicate]); (repeat' with_reducible refine And.intro ?_ ?_); all_goals first | (refine hR1 _ ?_; clear hR1 R1) | omega | rfl | decide | assumption | (have h1 := numsOf_len (heldOf t k) q; simp [roomFor, maxLen, by52, by3, by89, by79, by23] <;> omega))) | omega | rfl | decide | assumption | (have h1 := numsOf_len (heldOf t k) q; simp [roomFor, maxLen, by52, by3, by89, by79, by23] <;> omega))
    | ((with_reducible refine SARA.told 7 _ ?_); try simp only [rows_getD hkt, heldsTo_at hkt])
    | ((with_reducible refine SARA.told 9 _ ?_); try simp only [getD_map V.bool (heldOf t k) hqk])
    | ((with_reducible refine SARA.do fun R1 hR1 => ?_); (simp only [go_sem, seval, -List.reduceReplicate]); (repeat' with_reducible refine And.intro ?_ ?_); all_goals first | (refine hR1 _ ?_; clear hR1 R1) | ((first | refine ⟨_, _, rfl, .inl ⟨_, CallQ.ctr ok (check_ctr t ht h6) (by first | rfl | (simp [go_sem, List.length_map, List.take_of_length_le]; done) | fail) rfl, ?_⟩⟩ | refine ⟨_, _, rfl, .inr (CallE.ctr ok (held_ctr t (by omega) h6 hr) (by first | rfl | (simp [go_sem, List.length_map, List.take_of_length_le]; done) | fail) ?_)⟩); all_goals ((try simp only [go_sem, seval, -List.reduceReplicate]); (repeat' with_reducible refine And.intro ?_ ?_); all_goals first | (refine hR1 _ ?_; clear hR1 R1) | omega | rfl | decide | assumption | (intro _; omega) | (simp [roomFor, maxLen, by52, by3, by89, by79, by23] <;> omega))) | omega | rfl | decide | assumption | (intro _; omega) | (simp [roomFor, maxLen, by52, by3, by89, by79, by23] <;> omega))
    | ((with_reducible refine SARA.nil ?_); refine hR _ ?_; clear hR R; try simp only [go_sem, lv8, lvOf, Nat.reduceBEq, Option.getD_some])
    | (with_reducible first | refine thenK.normal ?_ | refine SA.seq ?_ | refine SA.skip ?_ | refine SA.block ?_ | refine blockK.normal ?_ | refine SA.exit ?_ | refine blockK.hit ?_ | refine blockK.miss (by decide) ?_ | refine thenK.exit ?_ | refine loopK.exit ?_ | refine SA.ret ?_ | refine thenK.ret ?_ | refine blockK.ret ?_ | refine loopK.ret ?_ | refine SA.scope ?_ | refine scopeK.normal ?_ | refine scopeK.exit ?_ | refine scopeK.ret ?_ | refine SA.label ?_)
    | ((with_reducible refine SA.at 9 ?_)
       have hqk : q < (heldOf t k).length := by rw [heldOf_len]; omega
       (with_reducible refine SA.regionN ok (by kernel_rfl) lv8 ?_); intro R hR; simp only [go_sem, strip])
    | ((with_reducible refine SA.regionN ok (by kernel_rfl) lv8 ?_); intro R hR; simp only [go_sem, strip])
    | ((with_reducible refine SA.condAt 13 rfl (fun hb13 => ?_) (fun hf13 => ?_))
       all_goals
         try
           (simp at hb13)
         try
           (simp at hf13
            have h256 := check_len hf13
            have hr := check_right hf13))
    | ((with_reducible refine SA.condAt 22 rfl (fun hb22 => ?_) (fun hf22 => ?_))
       all_goals
         try
           (have hout : i < 0 ∨ (t.length : Int) ≤ i := by
              cases h1 : decide (i < 0) with
              | true => exact .inl (of_decide_eq_true h1)
              | false => rw [h1] at hb22; exact .inr (of_decide_eq_true hb22))
         try
           (have hin : ¬ (i < 0 ∨ (t.length : Int) ≤ i) := by
              rintro (h | h)
              · rw [decide_eq_true h] at hf22; cases hf22
              · cases h1 : decide (i < 0) <;> rw [h1] at hf22
                · rw [show (false : Bool) = false from rfl] at hf22; exact absurd h (of_decide_eq_false hf22)
                · cases hf22
            obtain ⟨k, rfl⟩ : ∃ k : Nat, i = (k : Int) := ⟨i.toNat, by omega⟩
            have hkt : k < t.length := by omega))
    | ((with_reducible refine SA.condAt 29 rfl (fun hb29 => ?_) (fun hf29 => ?_))
       all_goals
         try
           (simp only [decide_eq_true_eq, decide_eq_false_iff_not, Int.not_lt, Int.not_le] at hb29)
         try
           (simp only [decide_eq_true_eq, decide_eq_false_iff_not, Int.not_lt, Int.not_le] at hf29))
    | ((with_reducible refine SA.condAt 32 rfl (fun hb32 => ?_) (fun hf32 => ?_)))
    | ((with_reducible refine SA.atLoop ?_)
       refine SA.weaken ((St.le.own (t := 7) 3 rfl).trans ((St.le.keep [7, 27, 28]).trans (St.le.of_eq (by first | rfl | (simp; done) | fail)))) (SA.loop (fun n τ => ∃ (q : Nat), n = 4 - q ∧ (q ≤ 4) ∧ τ = { tm := [(7, true, .sl 1 3 0 (numsOf (heldOf t k) q).length false), (27, true, .data 79 (.agg ((heldOf t k).map V.bool))), (28, true, .int .i64 q)], ob := [.row 79 (heldsTo t t.length), .row 3 ((numsOf (heldOf t k) q).map V.int)], out := [], nt := 39 }) (4) ⟨0, rfl, by omega, rfl⟩ ?_)
       rintro n τ ⟨q, hn, hq4, rfl⟩)
    | ((with_reducible refine loopK.round ?_)
       first
         | (have _ := hf13
            have _ := hf22
            have _ := hb29
            have _ := hb32
            have e0 : numsOf (heldOf t k) (q + 1) = numsOf (heldOf t k) q ++ [(q : Int)] := by rw [numsOf_succ, show (heldOf t k).getD q false = true from hb32]; rfl
            have e2 : (numsOf (heldOf t k) (q + 1)).length = (numsOf (heldOf t k) q).length + 1 := by rw [e0]; simp
            have e3 : List.take (numsOf (heldOf t k) q).length (List.map V.int (numsOf (heldOf t k) q)) ++ List.take 1 (List.drop 0 [V.int (q : Int)]) = (numsOf (heldOf t k) (q + 1)).map V.int := by rw [e0, take_map_len, List.map_append]; rfl
            refine loopK.normal (4 - (q + 1)) _ (by omega) ((St.le.cut 2 rfl).trans (St.le.of_eq (by rw [e3, e2, wrap_succ (show q < 4 by omega) (by decide)]; rfl))) ⟨q + 1, rfl, by omega, rfl⟩)
         | (have _ := hf13
            have _ := hf22
            have _ := hb29
            have _ := hf32
            have e0 : numsOf (heldOf t k) (q + 1) = numsOf (heldOf t k) q := by rw [numsOf_succ, show (heldOf t k).getD q false = false from hf32]; simp
            refine loopK.normal (4 - (q + 1)) _ (by omega) (St.le.of_eq (by rw [e0, wrap_succ (show q < 4 by omega) (by decide)])) ⟨q + 1, rfl, by omega, rfl⟩))
    | ((with_reducible first | refine ctrK.normal ?_ | refine ctrK.ret ?_)
       simp only [resA, evalO, resV, backK, outE, toV, ty4, ty3, List.lookup_cons, List.lookup_nil, beq_self_eq_true, forall_const, true_and, and_true]
       simp only [go_sem, seval, -List.reduceReplicate]
       first
         | (have _ := hb13
            simp [flatTy, ty3, ty4, ty58, heldRes, heldErr, hb13])
         | (have _ := hf13
            have _ := hb22
            simp [flatTy, ty3, ty4, ty58, heldRes, heldErr, hf13, hout])
         | (have _ := hf13
            have _ := hf22
            have _ := hf29
            have hq : q = 4 := by omega
            subst hq
            simp [flatTy, ty3, ty4, ty58, heldRes, heldErr, hf13, hkt, take_map_len]))

def lv14 : List (Nat × List Nat) := [(0, [0, 3]), (1, [0, 3, 6]), (2, [0, 3, 6, 12]), (3, [4, 5]), (4, [0, 3, 16]), (5, [4, 5]), (6, [0, 3, 21]), (7, [4, 5]), (8, [0, 3, 7]), (9, [0, 3, 8]), (10, [4, 5])]
-- scarab/goodlock.Guarded
theorem Guarded_ctr (t : List Event) (ring : List Int) (ht : t.length ≤ maxLen) (hrl : ring.length ≤ maxLen) (h6 : ∀ e ∈ t, e.touch.length = 6) : Ctr Go.Proofs.Tryz.prog tab 14 [30, 23] [4, 58] [.list (t.map Event.v), .list (ring.map V.int)] [.bool (guardRes t ring), .int (guardErr t ring)] := by
  refine Ctr.body ok Go.Proofs.Tryz.func14 rfl rfl 31 rfl [.tmp 4, .tmp 5] rfl (by simp [fromVs]) ?_
  simp only [fromVs, fromV, args0, V.toList_list, V.toInt_int, V.toBool_bool, Nat.zero_add, Nat.reduceAdd, ty23, ty30]
  repeat' first
    | ((with_reducible first | refine SARA.do fun R1 hR1 => ?_ | refine SART.do fun R1 hR1 => ?_ | refine SARB.keep fun R1 hR1 => ?_ | refine SARB.any fun R1 hR1 => ?_); (simp only [go_sem, seval, -List.reduceReplicate]); (repeat' with_reducible refine And.intro ?_ ?_); all_goals first | (refine hR1 _ ?_; clear hR1 R1) | ((first | refine ⟨_, _, rfl, .inl ⟨_, CallQ.ctr ok (check_ctr t ht h6) (by first | rfl | (simp [go_sem, List.length_map, List.take_of_length_le]; done) | fail) rfl, ?_⟩⟩ | refine ⟨_, _, rfl, .inr (CallE.ctrZ (rings_ctr t (by omega) h6 hr) (by first | rfl | (simp [go_sem, List.length_map, List.take_of_length_le]; done) | fail) ?_)⟩ | refine ⟨_, _, rfl, .inr (CallB.ctrZ (rings_ctr t (by omega) h6 hr) (by first | rfl | (simp [go_sem, List.length_map, List.take_of_length_le]; done) | fail) ?_)⟩ | refine ⟨_, _, rfl, .inr (CallE.ctr ok (held_ctr t (by omega) h6 hr) (by first | rfl | (simp [go_sem, List.length_map, List.take_of_length_le]; done) | fail) ?_)⟩ | refine ⟨_, _, rfl, .inr (CallB.ctr ok (held_ctr t (by omega) h6 hr) (by first | rfl | (simp [go_sem, List.length_map, List.take_of_length_le]; done) | fail) ?_)⟩ | refine ⟨_, _, rfl, .inr (CallE.ctrZ (edges_ctr t (by omega) h6 hr) (by first | rfl | (simp [go_sem, List.length_map, List.take_of_length_le]; done) | fail) ?_)⟩ | refine ⟨_, _, rfl, .inr (CallB.ctrZ (edges_ctr t (by omega) h6 hr) (by first | rfl | (simp [go_sem, List.length_map, List.take_of_length_le]; done) | fail) ?_)⟩ | refine ⟨_, _, rfl, .inl ⟨_, CallQ.ctr ok (inRing_ctr (ringsOf (edges t)) (Nat.le_trans (ringsOf_bound _) (by decide)) (fun x hx => ringsOf_len hx) ring hrl) (by first | rfl | (simp [go_sem, List.length_map, List.take_of_length_le]; done) | fail) rfl, ?_⟩⟩ | refine ⟨_, _, rfl, .inl ⟨_, CallQ.ctr ok (chosen_ctr (ts := [80]) rfl (apart_call t (by omega)) hal ring (by omega) ring.length [] (by simp) (by simp)) (by first | rfl | (simp [go_sem, List.length_map, List.take_of_length_le]; done) | fail) rfl, ?_⟩⟩); all_goals ((try simp only [go_sem, seval, -List.reduceReplicate]); (repeat' with_reducible refine And.intro ?_ ?_); all_goals first | (refine hR1 _ ?_; clear hR1 R1) | omega | rfl | decide | assumption | (intro _; omega) | (simp [roomFor, maxLen, by52, by3, by89, by79, by23] <;> omega))) | omega | rfl | decide | assumption | (intro _; omega) | (simp [roomFor, maxLen, by52, by3, by89, by79, by23] <;> omega))
    | ((with_reducible refine SART.done ?_); refine hR _ ?_; clear hR R; try simp only [go_sem, lv14, lvOf, Nat.reduceBEq, Option.getD_some])
    | (with_reducible first | refine SART.br ?_ ?_ | exact SARL.nil | refine SARL.cons ?_ ?_)
    | ((with_reducible refine SARA.nil ?_); refine hR _ ?_; clear hR R; try simp only [go_sem, lv14, lvOf, Nat.reduceBEq, Option.getD_some])
    | (with_reducible first | refine thenK.normal ?_ | refine SA.seq ?_ | refine SA.skip ?_ | refine SA.block ?_ | refine blockK.normal ?_ | refine SA.exit ?_ | refine blockK.hit ?_ | refine blockK.miss (by decide) ?_ | refine thenK.exit ?_ | refine loopK.exit ?_ | refine SA.ret ?_ | refine thenK.ret ?_ | refine blockK.ret ?_ | refine loopK.ret ?_ | refine SA.scope ?_ | refine scopeK.normal ?_ | refine scopeK.exit ?_ | refine scopeK.ret ?_ | refine SA.label ?_)
    | ((with_reducible refine SA.at 1 ?_)
       refine SA.weaken (St.le.frzVal ok.sized 0 (v := .list (ring.map V.int)) rfl (by simp [toV, ty23])) ?_
       simp only [St.frz, Tm.frz, E.frz, E.frzL, Obj.frz, List.map_cons, List.map_nil, List.set_cons_zero, List.set_cons_succ, Nat.reduceBEq, Nat.beq_refl, if_true, if_false, Nat.beq_eq_true_eq, reduceCtorEq, Bool.false_eq_true, V.get, Nat.reduceEqDiff]
       (with_reducible refine SA.regionN ok (by kernel_rfl) lv14 ?_); intro R hR; simp only [go_sem, strip])
    | ((with_reducible refine SA.at 9 ?_)
       refine SA.weaken (St.le.frzRow ok.sized 1 rfl) ?_
       simp only [St.frz, Tm.frz, E.frz, E.frzL, Obj.frz, List.map_cons, List.map_nil, List.set_cons_zero, List.set_cons_succ, Nat.reduceBEq, Nat.beq_refl, if_true, if_false, Nat.beq_eq_true_eq, reduceCtorEq, Bool.false_eq_true, V.get, Nat.reduceEqDiff]
       refine SA.weaken (St.le.frzVal ok.sized 2 (v := .list (heldsTo t t.length)) rfl (by simp [toV, ty80, List.take_of_length_le, heldsTo_len])) ?_
       simp only [St.frz, Tm.frz, E.frz, E.frzL, Obj.frz, List.map_cons, List.map_nil, List.set_cons_zero, List.set_cons_succ, Nat.reduceBEq, Nat.beq_refl, if_true, if_false, Nat.beq_eq_true_eq, reduceCtorEq, Bool.false_eq_true, V.get, Nat.reduceEqDiff]
       (with_reducible refine SA.regionN ok (by kernel_rfl) lv14 ?_); intro R hR; simp only [go_sem, strip])
    | ((with_reducible refine SA.at 10 ?_)
       refine SA.regionT ok mixed (.take 0 (.take 1 (.take 3 (.br 2 (.br 4 (.take 5 (.take 6 (.take 7 .done))) .nil) .nil)))) [] lv14 (by kernel_rfl) (fun R hR => ?_); simp only [go_sem, strip])
    | ((with_reducible refine SA.regionN ok (by kernel_rfl) lv14 ?_); intro R hR; simp only [go_sem, strip])
    | ((with_reducible refine SA.condAt 12 rfl (fun hb12 => ?_) (fun hf12 => ?_))
       all_goals
         try
           (simp at hb12)
         try
           (simp at hf12
            have h256 := check_len hf12
            have hr := check_right hf12
            have hal : (edges t).length ≤ 100000 := Nat.le_trans (edgesTo_len t _) (by omega)))
    | ((with_reducible refine SA.condAt 16 rfl (fun hb16 => ?_) (fun hf16 => ?_))
       all_goals
         try
           (simp only [decide_eq_true_eq, decide_eq_false_iff_not, Int.not_lt, Int.not_le] at hb16)
         try
           (simp only [decide_eq_true_eq, decide_eq_false_iff_not, Int.not_lt, Int.not_le] at hf16))
    | ((with_reducible refine SA.condAt 21 rfl (fun hb21 => ?_) (fun hf21 => ?_))
       all_goals
         try
           (have hin : ¬ ring ∈ ringsOf (edges t) := by simpa using hb21)
         try
           (have hin : ring ∈ ringsOf (edges t) := by simpa using hf21))
    | ((with_reducible first | refine ctrK.normal ?_ | refine ctrK.ret ?_)
       simp only [resA, evalO, resV, backK, outE, toV, ty4, ty3, List.lookup_cons, List.lookup_nil, beq_self_eq_true, forall_const, true_and, and_true]
       simp only [go_sem, seval, -List.reduceReplicate]
       first
         | (have _ := hb12
            simp [flatTy, ty3, ty4, ty58, guardRes, guardErr, hb12])
         | (have _ := hf12
            have _ := hb16
            simp [flatTy, ty3, ty4, ty58, guardRes, guardErr, hf12, show 4 < ring.length by omega])
         | (have _ := hf12
            have _ := hf16
            have _ := hb21
            simp [flatTy, ty3, ty4, ty58, guardRes, guardErr, hf12, show ¬ 4 < ring.length by omega, hin])
         | (have _ := hf12
            have _ := hf16
            have _ := hf21
            simp [flatTy, ty3, ty4, ty58, guardRes, guardErr, hf12, show ¬ 4 < ring.length by omega, hin]))

end Go.Eng.Tryz.O
