/- A part of the proof: walks through the program's functions, and what they compute. -/
import Derived.Test.YtedceinkpkoncaaGreatSAttr
import Derived.Test.YtedceinkpkoncaaGreatM1
import Derived.Test.YtedceinkpkoncaaGreatE4
import Derived.Test.YtedceinkpkoncaaGreatOW29
namespace Go.Eng.Tryz.O
set_option maxHeartbeats 0
set_option maxRecDepth 20000
open Go.RowKit Go.Eng
set_option linter.unusedSimpArgs false
set_option linter.unusedVariables false

theorem concat_at1 (l : List Obj) (x y : Obj) : (l ++ [x] ++ [y])[l.length]? = some x := by simp
theorem concat_at2 (l : List Obj) (x y : Obj) : (l ++ [x] ++ [y])[l.length + 1]? = some y := by simp
theorem concat_at3 (l : List Obj) (x y : Obj) : (l ++ [x, y])[l.length]? = some x := by simp
theorem concat_at4 (l : List Obj) (x y : Obj) : (l ++ [x, y])[l.length + 1]? = some y := by simp
theorem list_ext {a b : List Int} (hl : a.length = b.length) (h : ∀ k, k < a.length → a.getD k default = b.getD k default) : a = b := by
  apply List.ext_getElem hl
  intro k h1 h2
  have := h k h1
  simpa [List.getD_eq_getElem?_getD, h1, h2] using this
/-- The first place of which p holds, or -1. -/
def findR (p : List Int → Bool) (l : List (List Int)) : Int := if l.any p then (l.findIdx p : Nat) else -1
theorem findR_hit {p : List Int → Bool} {l : List (List Int)} {i : Nat} (hi : i < l.length) (h0 : (l.take i).any p = false) (h1 : p (l.getD i default) = true) : findR p l = i := by
  have hi' : l.getD i default = l[i] := by simp [List.getD_eq_getElem?_getD, hi]
  have : l.any p = true := List.any_eq_true.2 ⟨_, getD_mem l hi, h1⟩
  unfold findR
  rw [if_pos this]
  have : l.findIdx p = i := by
    rw [List.findIdx_eq hi]
    rw [hi'] at h1
    refine ⟨h1, fun j hj => ?_⟩
    have := List.any_eq_false.1 h0 l[j] (List.mem_take_iff_getElem.2 ⟨j, by omega, rfl⟩)
    simpa using this
  rw [this]
theorem findR_miss {p : List Int → Bool} {l : List (List Int)} (h : l.any p = false) : findR p l = -1 := by simp [findR, h]
theorem findR_ge {p : List Int → Bool} {l : List (List Int)} : decide (0 ≤ findR p l) = l.any p := by
  unfold findR; cases l.any p <;> simp
theorem ringsV_at {r : List (List Int)} {i : Nat} (h : i < r.length) : (ringsV r).getD i default = V.list ((r.getD i default).map V.int) := getD_map (fun (l : List Int) => V.list (l.map V.int)) r h default
/-- Do two edges' goroutines hold no lock in common? -/
def apartB (t : List Event) (a b : Edge) : Bool := !((List.range 4).any fun n => (heldOf t a.event.toNat).getD n default && (heldOf t b.event.toNat).getD n default)
theorem edges_in {t : List Event} {e : Edge} (h : e ∈ edges t) : 0 ≤ e.event ∧ e.event.toNat < t.length ∧ e.event < t.length := by
  obtain ⟨k, h1, _, h2⟩ := edgesTo_mem h
  have := edgesAt_mem h2
  omega

attribute [local go_sem] concat_at List.length_map List.length_range zero52 z52 z3 z4 z79 z89 z55 z53 z50 z2 zero53 z78 z117 zero79 zero78 zero117 zero89 zero55 Int.toNat_natCast Int.natCast_zero Event.v0 Event.v3 Event.v5 Event.v7 Event.v8 Access.v0 Access.v1 Access.v2 beq_acc Edge.v0 Edge.v1 Edge.v2 Edge.v3 heldOf_len locksTo_len heldsTo_len nowL_len concat_at1 concat_at2 concat_at3 concat_at4 ringsV_len
def lv26 : List (Nat × List Nat) := [(0, [0, 1]), (1, [0, 1, 10]), (2, [4]), (3, [0, 1, 12, 13]), (4, [0, 1, 12, 13, 14]), (5, [0, 1, 5, 12, 13]), (6, [0, 1, 12, 13, 24]), (7, [4]), (8, [0, 1, 12, 13]), (9, [4])]
-- slices.Equal[[]int,int]
theorem equal_ctr (a b : List Int) (ha : a.length ≤ maxLen) (hb : b.length ≤ maxLen) : Ctr Go.Proofs.Tryz.prog tab 26 [23, 23] [4] [.list (a.map V.int), .list (b.map V.int)] [.bool (decide (a = b))] := by
  refine Ctr.body ok Go.Proofs.Tryz.func26 rfl rfl 26 rfl [.tmp 4] rfl (by simp [fromVs]) ?_
  simp only [fromVs, fromV, args0, V.toList_list, V.toInt_int, V.toBool_bool, Nat.zero_add, Nat.reduceAdd, ty23]
  repeat' first
    | ((with_reducible refine SARQ.told 6 _ ?_); try simp only [getD_map V.int a hia, getD_map V.int b hib])
    | ((with_reducible first | refine SARA.do fun R1 hR1 => ?_ | refine SARQ.do fun R1 hR1 => ?_); (simp only [go_sem, seval, -List.reduceReplicate]); (repeat' with_reducible refine And.intro ?_ ?_); all_goals first | (refine hR1 _ ?_; clear hR1 R1) | omega | rfl | decide | assumption | (intro _; omega) | (simp; done) | (simp; omega) | (simp [roomFor, maxLen, by52, by3, by89, by79, by23] <;> omega))
    | ((with_reducible refine SARA.nil ?_); refine hR _ ?_; clear hR R; try simp only [go_sem, lv26, lvOf, Nat.reduceBEq, Option.getD_some])
    | ((with_reducible refine SARQ.nil ?_); refine hR _ ?_; clear hR R; try simp only [go_sem, lv26, lvOf, Nat.reduceBEq, Option.getD_some])
    | (with_reducible first | refine thenK.normal ?_ | refine SA.seq ?_ | refine SA.skip ?_ | refine SA.block ?_ | refine blockK.normal ?_ | refine SA.exit ?_ | refine blockK.hit ?_ | refine blockK.miss (by decide) ?_ | refine thenK.exit ?_ | refine loopK.exit ?_ | refine SA.ret ?_ | refine thenK.ret ?_ | refine blockK.ret ?_ | refine loopK.ret ?_ | refine SA.scope ?_ | refine scopeK.normal ?_ | refine scopeK.exit ?_ | refine scopeK.ret ?_ | refine SA.label ?_)
    | ((with_reducible refine SA.at 6 ?_)
       have hia : i < a.length := by omega
       have hib : i < b.length := by omega
       (with_reducible refine SA.regionD ok mixed (by kernel_rfl) (by kernel_rfl) lv26 ?_); intro R hR; simp only [go_sem, strip])
    | ((with_reducible refine SA.regionN ok (by kernel_rfl) lv26 ?_); intro R hR; simp only [go_sem, strip])
    | ((with_reducible refine SA.regionD ok mixed (by kernel_rfl) (by kernel_rfl) lv26 ?_); intro R hR; simp only [go_sem, strip])
    | ((with_reducible refine SA.condAt 10 rfl (fun hb10 => ?_) (fun hf10 => ?_))
       all_goals
         try
           (have hne : a.length ≠ b.length := by
              intro h
              rw [h] at hb10
              simp at hb10)
         try
           (have hel : a.length = b.length := by
              have hx := hf10
              simp at hx
              omega))
    | ((with_reducible refine SA.condAt 14 rfl (fun hb14 => ?_) (fun hf14 => ?_))
       all_goals
         try
           (simp only [decide_eq_true_eq, decide_eq_false_iff_not, Int.not_lt, Int.not_le] at hb14)
         try
           (simp only [decide_eq_true_eq, decide_eq_false_iff_not, Int.not_lt, Int.not_le] at hf14))
    | ((with_reducible refine SA.condAt 24 rfl (fun hb24 => ?_) (fun hf24 => ?_))
       all_goals
         try
           (have hne : a.getD i default ≠ b.getD i default := by simpa using hb24)
         try
           (have heq : a.getD i default = b.getD i default := by simpa using hf24))
    | ((with_reducible refine SA.atLoop ?_)
       refine SA.weaken (St.le.of_eq (by first | rfl | (simp; done) | fail)) (SA.loop (fun n τ => ∃ (i : Nat), n = a.length - i ∧ (i ≤ a.length ∧ ∀ k, k < i → a.getD k default = b.getD k default) ∧ τ = { tm := [(0, true, .fs 3 (a.map V.int) false), (1, true, .fs 3 (b.map V.int) false), (12, true, .int .i64 a.length), (13, true, .int .i64 i)], ob := [], out := [], nt := 26 }) (a.length) ⟨0, rfl, ⟨Nat.zero_le _, fun k hk => by omega⟩, rfl⟩ ?_)
       rintro n τ ⟨i, hn, ⟨hi, hc⟩, rfl⟩)
    | ((with_reducible refine loopK.round ?_)
       first
         | (refine loopK.normal (a.length - (i + 1)) _ (by omega) (St.le.of_eq (by rw [wrap_succ hia ha])) ⟨i + 1, rfl, ⟨hia, fun k hk => ?_⟩, rfl⟩
            by_cases hki : k = i
            · subst hki; exact heq
            · exact hc k (by omega)))
    | ((with_reducible first | refine ctrK.normal ?_ | refine ctrK.ret ?_)
       simp only [resA, evalO, resV, backK, outE, toV, ty4, ty3, List.lookup_cons, List.lookup_nil, beq_self_eq_true, forall_const, true_and, and_true]
       first
         | (have _ := hb10
            refine ⟨rfl, ?_⟩
            simp only [if_true, Option.some.injEq, V.bool.injEq]
            exact (decide_eq_false fun h => hne (by rw [h])).symm)
         | (have _ := hf10
            have _ := hb14
            have _ := hb24
            refine ⟨rfl, ?_⟩
            simp only [if_true, Option.some.injEq, V.bool.injEq]
            exact (decide_eq_false fun h => hne (by rw [h])).symm)
         | (have _ := hf10
            have _ := hf14
            refine ⟨rfl, ?_⟩
            simp only [if_true, Option.some.injEq, V.bool.injEq]
            exact (decide_eq_true (list_ext hel fun k hk => hc k (by omega))).symm))

def lv52 : List (Nat × List Nat) := [(0, [0, 1]), (1, [0, 1, 7, 8]), (2, [0, 1, 7, 8, 9]), (3, [0, 1, 5, 7, 8]), (4, [0, 1, 5, 7, 8, 16]), (5, [4]), (6, [0, 1, 7, 8]), (7, [4])]
-- slices.IndexFunc[[][]int,[]int]
theorem indexRing_ctr (rs : List (List Int)) (hl : rs.length ≤ maxLen) (f : FuncId) (ts : List TypeId) (vs : List V) (p : List Int → Bool) (hf : ∀ l ∈ rs, ∀ (σ : St) (K : St → E → Prop), (∀ xs, K { σ with ob := σ.ob ++ xs } (.bool (p l))) → CallE Go.Proofs.Tryz.prog tab σ f (.fs 3 (l.map V.int) false :: capsE ts vs) K) : Ctr Go.Proofs.Tryz.prog tab 52 [67, 87] [3] [.list (ringsV rs), .clo f ts vs] [.int (findR p rs)] := by
  refine Ctr.body ok Go.Proofs.Tryz.func52 rfl rfl 19 rfl [.tmp 4] rfl (by simp [fromVs]) ?_
  simp only [fromVs, fromV, args0, V.toList_list, V.toInt_int, V.toBool_bool, Nat.zero_add, Nat.reduceAdd, ty67, ty87]
  repeat' first
    | ((with_reducible refine SARA.told 4 _ ?_); try simp only [ringsV_at hlt])
    | ((with_reducible refine SARA.do fun R1 hR1 => ?_); (simp only [go_sem, seval, -List.reduceReplicate]); (repeat' with_reducible refine And.intro ?_ ?_); all_goals first | (refine hR1 _ ?_; clear hR1 R1) | ((first | refine ⟨_, _, rfl, .inr (hf _ (getD_mem rs hlt) _ _ fun ys => ?_)⟩); all_goals ((try simp only [go_sem, seval, -List.reduceReplicate]); (repeat' with_reducible refine And.intro ?_ ?_); all_goals first | (refine hR1 _ ?_; clear hR1 R1) | omega | rfl | decide | assumption | (intro _; omega) | (simp; done) | (simp; omega) | (simp [roomFor, maxLen, by52, by3, by89, by79, by23] <;> omega))) | omega | rfl | decide | assumption | (intro _; omega) | (simp; done) | (simp; omega) | (simp [roomFor, maxLen, by52, by3, by89, by79, by23] <;> omega))
    | ((with_reducible refine SARA.nil ?_); refine hR _ ?_; clear hR R; try simp only [go_sem, lv52, lvOf, Nat.reduceBEq, Option.getD_some])
    | (with_reducible first | refine thenK.normal ?_ | refine SA.seq ?_ | refine SA.skip ?_ | refine SA.block ?_ | refine blockK.normal ?_ | refine SA.exit ?_ | refine blockK.hit ?_ | refine blockK.miss (by decide) ?_ | refine thenK.exit ?_ | refine loopK.exit ?_ | refine SA.ret ?_ | refine thenK.ret ?_ | refine blockK.ret ?_ | refine loopK.ret ?_ | refine SA.scope ?_ | refine scopeK.normal ?_ | refine scopeK.exit ?_ | refine scopeK.ret ?_ | refine SA.label ?_)
    | ((with_reducible refine SA.at 4 ?_)
       have hlt : i < rs.length := by omega
       (with_reducible refine SA.regionN ok (by kernel_rfl) lv52 ?_); intro R hR; simp only [go_sem, strip])
    | ((with_reducible refine SA.regionN ok (by kernel_rfl) lv52 ?_); intro R hR; simp only [go_sem, strip])
    | ((with_reducible refine SA.condAt 9 rfl (fun hb9 => ?_) (fun hf9 => ?_))
       all_goals
         try
           (simp only [decide_eq_true_eq, decide_eq_false_iff_not, Int.not_lt, Int.not_le] at hb9)
         try
           (simp only [decide_eq_true_eq, decide_eq_false_iff_not, Int.not_lt, Int.not_le] at hf9))
    | ((with_reducible refine SA.condAt 16 rfl (fun hb16 => ?_) (fun hf16 => ?_)))
    | ((with_reducible refine SA.atLoop ?_)
       refine SA.weaken (St.le.of_eq (by first | rfl | (simp; done) | fail)) (SA.loop (fun n τ => ∃ (i : Nat) (xs : List Obj), n = rs.length - i ∧ (i ≤ rs.length ∧ (rs.take i).any p = false) ∧ τ = { tm := [(0, true, .fs 23 (ringsV rs) false), (1, true, .fn f (capsE ts vs)), (7, true, .int .i64 rs.length), (8, true, .int .i64 i)], ob := xs, out := [], nt := 19 }) (rs.length) ⟨0, [], rfl, ⟨Nat.zero_le _, rfl⟩, rfl⟩ ?_)
       rintro n τ ⟨i, xs, hn, ⟨hi, hc⟩, rfl⟩)
    | ((with_reducible refine loopK.round ?_)
       first
         | (have _ := hb9
            have _ := hf16
            refine loopK.normal (rs.length - (i + 1)) _ (by omega) (St.le.of_eq (by rw [wrap_succ hlt hl])) ⟨i + 1, xs ++ ys, rfl, ⟨hlt, ?_⟩, rfl⟩
            rw [any_take _ rs hlt, hc, hf16]; rfl))
    | ((with_reducible first | refine ctrK.normal ?_ | refine ctrK.ret ?_)
       simp only [resA, evalO, resV, backK, outE, toV, ty4, ty3, List.lookup_cons, List.lookup_nil, beq_self_eq_true, forall_const, true_and, and_true]
       first
         | (have _ := hb9
            have _ := hb16
            refine ⟨rfl, ?_⟩
            simp only [if_true, Option.some.injEq, V.int.injEq]
            exact (findR_hit hlt hc hb16).symm)
         | (have _ := hf9
            have : i = rs.length := by omega
            subst this
            rw [List.take_length] at hc
            refine ⟨rfl, ?_⟩
            simp only [if_true, Option.some.injEq, V.int.injEq]
            exact (findR_miss hc).symm))

def lv24 : List (Nat × List Nat) := [(0, [0, 1]), (1, [4])]
-- slices.ContainsFunc[[][]int,[]int]
theorem containsRing_ctr (rs : List (List Int)) (hl : rs.length ≤ maxLen) (f : FuncId) (ts : List TypeId) (vs : List V) (htl : ts.length = vs.length) (p : List Int → Bool) (hf : ∀ l ∈ rs, ∀ (σ : St) (K : St → E → Prop), (∀ xs, K { σ with ob := σ.ob ++ xs } (.bool (p l))) → CallE Go.Proofs.Tryz.prog tab σ f (.fs 3 (l.map V.int) false :: capsE ts vs) K) : Ctr Go.Proofs.Tryz.prog tab 24 [67, 87] [4] [.list (ringsV rs), .clo f ts vs] [.bool (rs.any p)] := by
  refine Ctr.body ok Go.Proofs.Tryz.func24 rfl rfl 9 rfl [.tmp 4] rfl (by simp [fromVs]) ?_
  simp only [fromVs, fromV, args0, V.toList_list, V.toInt_int, V.toBool_bool, Nat.zero_add, Nat.reduceAdd, ty67, ty87]
  repeat' first
    | ((with_reducible refine SARA.do fun R1 hR1 => ?_); (simp only [go_sem, seval, -List.reduceReplicate]); (repeat' with_reducible refine And.intro ?_ ?_); all_goals first | (refine hR1 _ ?_; clear hR1 R1) | ((first | refine ⟨_, _, rfl, .inl ⟨_, CallQ.ctr ok (indexRing_ctr rs hl f ts vs p hf) (by simp [argsV, toVs, contentV, toV, ty67, ty87, ty23, capsV_capsE htl]) rfl, ?_⟩⟩); all_goals ((try simp only [go_sem, seval, -List.reduceReplicate]); (repeat' with_reducible refine And.intro ?_ ?_); all_goals first | (refine hR1 _ ?_; clear hR1 R1) | omega | rfl | decide | assumption | (intro _; omega) | (simp; done) | (simp; omega) | (simp [roomFor, maxLen, by52, by3, by89, by79, by23] <;> omega))) | omega | rfl | decide | assumption | (intro _; omega) | (simp; done) | (simp; omega) | (simp [roomFor, maxLen, by52, by3, by89, by79, by23] <;> omega))
    | ((with_reducible refine SARA.nil ?_); refine hR _ ?_; clear hR R; try simp only [go_sem, lv24, lvOf, Nat.reduceBEq, Option.getD_some])
    | (with_reducible first | refine thenK.normal ?_ | refine SA.seq ?_ | refine SA.skip ?_ | refine SA.block ?_ | refine blockK.normal ?_ | refine SA.exit ?_ | refine blockK.hit ?_ | refine blockK.miss (by decide) ?_ | refine thenK.exit ?_ | refine loopK.exit ?_ | refine SA.ret ?_ | refine thenK.ret ?_ | refine blockK.ret ?_ | refine loopK.ret ?_ | refine SA.scope ?_ | refine scopeK.normal ?_ | refine scopeK.exit ?_ | refine scopeK.ret ?_ | refine SA.label ?_)
    | ((with_reducible refine SA.regionN ok (by kernel_rfl) lv24 ?_); intro R hR; simp only [go_sem, strip])
    | ((with_reducible first | refine ctrK.normal ?_ | refine ctrK.ret ?_)
       simp only [resA, evalO, resV, backK, outE, toV, ty4, ty3, List.lookup_cons, List.lookup_nil, beq_self_eq_true, forall_const, true_and, and_true]
       refine ⟨rfl, ?_⟩
       simp only [if_true, Option.some.injEq, V.bool.injEq]
       exact findR_ge)

def lv25 : List (Nat × List Nat) := [(0, [0, 1]), (1, [3])]
-- scarab/goodlock.Guarded$1
theorem guarded1_call (ring : List Int) (hr : ring.length ≤ maxLen) (l : List Int) (hl : l.length ≤ maxLen) (c : Bool) {σ : St} {K : St → E → Prop} (h : ∀ xs, K { σ with ob := σ.ob ++ xs } (.bool (decide (l = ring)))) : CallE Go.Proofs.Tryz.prog tab σ 25 [.fs 3 (l.map V.int) c, .fptr 23 (.list (ring.map V.int))] K := by
  refine CallE.body ok Go.Proofs.Tryz.func25 rfl rfl 7 rfl [.tmp 3] rfl (by simp) ?_
  simp only [enter, args0, Nat.zero_add, Nat.reduceAdd]
  repeat' first
    | ((with_reducible refine SARA.do fun R1 hR1 => ?_); (simp only [go_sem, seval, -List.reduceReplicate]); (repeat' with_reducible refine And.intro ?_ ?_); all_goals first | (refine hR1 _ ?_; clear hR1 R1) | ((first | refine ⟨_, _, rfl, .inl ⟨_, CallQ.ctr ok (equal_ctr l ring hl hr) (by first | rfl | (simp [go_sem, List.length_map, List.take_of_length_le]; done) | fail) rfl, ?_⟩⟩); all_goals ((try simp only [go_sem, seval, -List.reduceReplicate]); (repeat' with_reducible refine And.intro ?_ ?_); all_goals first | (refine hR1 _ ?_; clear hR1 R1) | omega | rfl | decide | assumption | (intro _; omega) | (simp; done) | (simp; omega) | (simp [roomFor, maxLen, by52, by3, by89, by79, by23] <;> omega))) | omega | rfl | decide | assumption | (intro _; omega) | (simp; done) | (simp; omega) | (simp [roomFor, maxLen, by52, by3, by89, by79, by23] <;> omega))
    | ((with_reducible refine SARA.nil ?_); refine hR _ ?_; clear hR R; try simp only [go_sem, lv25, lvOf, Nat.reduceBEq, Option.getD_some])
    | (with_reducible first | refine thenK.normal ?_ | refine SA.seq ?_ | refine SA.skip ?_ | refine SA.block ?_ | refine blockK.normal ?_ | refine SA.exit ?_ | refine blockK.hit ?_ | refine blockK.miss (by decide) ?_ | refine thenK.exit ?_ | refine loopK.exit ?_ | refine SA.ret ?_ | refine thenK.ret ?_ | refine blockK.ret ?_ | refine loopK.ret ?_ | refine SA.scope ?_ | refine scopeK.normal ?_ | refine scopeK.exit ?_ | refine scopeK.ret ?_ | refine SA.label ?_)
    | ((with_reducible refine SA.regionN ok (by kernel_rfl) lv25 ?_); intro R hR; simp only [go_sem, strip])
    | ((with_reducible first | refine bodyK.normal ?_ | refine bodyK.ret ?_)
       simp only [resA, evalO, resV, backK, outE, toV, ty4, ty3, List.lookup_cons, List.lookup_nil, beq_self_eq_true, forall_const, true_and, and_true]
       simpa using h [])

def lv27 : List (Nat × List Nat) := [(0, [2, 3, 4]), (1, [2, 4, 12, 13]), (2, [2, 4, 12, 13, 14]), (3, [2, 4, 6, 7, 12, 13]), (4, [2, 4, 12, 13, 26]), (5, [5]), (6, [2, 4, 12, 13]), (7, [5])]
-- scarab/goodlock.Guarded$2
theorem apart_call (t : List Event) (ht : t.length ≤ 257) : Tests 27 [80] [.list (heldsTo t t.length)] (edges t) (apartB t) := by
  intro a b ha hb σ K h
  show CallE Go.Proofs.Tryz.prog tab σ 27 [.data 89 a.v, .data 89 b.v, .fptr 80 (.list (heldsTo t t.length))] K
  obtain ⟨a0, a1, a2⟩ := edges_in ha
  obtain ⟨b0, b1, b2⟩ := edges_in hb
  have htm : t.length ≤ maxLen := Nat.le_trans ht (by decide)
  refine CallE.body ok Go.Proofs.Tryz.func27 rfl rfl 28 rfl [.tmp 5] rfl (by simp) ?_
  simp only [enter, args0, Nat.zero_add, Nat.reduceAdd]
  repeat' first
    | ((with_reducible refine SARA.told 1 _ ?_); try simp only [heldsTo_at a1])
    | ((with_reducible refine SARA.told 3 _ ?_); try simp only [getD_map V.bool (heldOf t a.event.toNat) hqa])
    | ((with_reducible refine SARA.told 4 _ ?_); try simp only [heldsTo_at b1, getD_map V.bool (heldOf t b.event.toNat) hqb])
    | ((with_reducible refine SARA.do fun R1 hR1 => ?_); (simp only [go_sem, seval, -List.reduceReplicate]); (repeat' with_reducible refine And.intro ?_ ?_); all_goals first | (refine hR1 _ ?_; clear hR1 R1) | omega | rfl | decide | assumption | (intro _; omega) | (simp; done))
    | ((with_reducible refine SARA.nil ?_); refine hR _ ?_; clear hR R; try simp only [go_sem, lv27, lvOf, Nat.reduceBEq, Option.getD_some])
    | (with_reducible first | refine thenK.normal ?_ | refine SA.seq ?_ | refine SA.skip ?_ | refine SA.block ?_ | refine blockK.normal ?_ | refine SA.exit ?_ | refine blockK.hit ?_ | refine blockK.miss (by decide) ?_ | refine thenK.exit ?_ | refine loopK.exit ?_ | refine SA.ret ?_ | refine thenK.ret ?_ | refine blockK.ret ?_ | refine loopK.ret ?_ | refine SA.scope ?_ | refine scopeK.normal ?_ | refine scopeK.exit ?_ | refine scopeK.ret ?_ | refine SA.label ?_)
    | ((with_reducible refine SA.at 3 ?_)
       have hqa : q < (heldOf t a.event.toNat).length := by rw [heldOf_len]; omega
       have hqb : q < (heldOf t b.event.toNat).length := by rw [heldOf_len]; omega
       (with_reducible refine SA.regionN ok (by kernel_rfl) lv27 ?_); intro R hR; simp only [go_sem, strip])
    | ((with_reducible refine SA.regionN ok (by kernel_rfl) lv27 ?_); intro R hR; simp only [go_sem, strip])
    | ((with_reducible refine SA.condAt 14 rfl (fun hb14 => ?_) (fun hf14 => ?_))
       all_goals
         try
           (simp only [decide_eq_true_eq, decide_eq_false_iff_not, Int.not_lt, Int.not_le] at hb14)
         try
           (simp only [decide_eq_true_eq, decide_eq_false_iff_not, Int.not_lt, Int.not_le] at hf14))
    | ((with_reducible refine SA.condAt 26 rfl (fun hb26 => ?_) (fun hf26 => ?_)))
    | ((with_reducible refine SA.atLoop ?_)
       refine SA.weaken (St.le.of_eq (by first | rfl | (simp; done) | fail)) (SA.loop (fun n τ => ∃ (q : Nat), n = 4 - q ∧ (q ≤ 4 ∧ ((List.range q).any fun n => (heldOf t a.event.toNat).getD n default && (heldOf t b.event.toNat).getD n default) = false) ∧ τ = { tm := [(2, true, .fptr 80 (.list (heldsTo t t.length))), (4, true, .ptr (σ.ob.length + 1) [] 89), (12, true, .data 79 (.agg ((heldOf t a.event.toNat).map V.bool))), (13, true, .int .i64 q)], ob := σ.ob ++ [.var 89 (.data 89 a.v), .var 89 (.data 89 b.v)], out := σ.tm :: σ.out, nt := 28 }) (4) ⟨0, rfl, ⟨by omega, rfl⟩, rfl⟩ ?_)
       rintro n τ ⟨q, hn, ⟨hq4, hc⟩, rfl⟩)
    | ((with_reducible refine loopK.round ?_)
       first
         | (have _ := hb14
            have _ := hf26
            have hqq : ((heldOf t a.event.toNat).getD q default && (heldOf t b.event.toNat).getD q default) = false := by
              cases h1 : (heldOf t a.event.toNat).getD q default <;> rw [h1] at hf26 <;> first | rfl | exact hf26
            refine loopK.normal (4 - (q + 1)) _ (by omega) (St.le.of_eq (by rw [wrap_succ (show q < 4 by omega) (by decide)])) ⟨q + 1, rfl, ⟨by omega, by rw [any_range_succ, hc, hqq]; rfl⟩, rfl⟩))
    | ((with_reducible first | refine bodyK.normal ?_ | refine bodyK.ret ?_)
       simp only [resA, evalO, resV, backK, outE, toV, ty4, ty3, List.lookup_cons, List.lookup_nil, beq_self_eq_true, forall_const, true_and, and_true]
       first
         | (have _ := hb14
            have _ := hb26
            have hqq : ((heldOf t a.event.toNat).getD q default && (heldOf t b.event.toNat).getD q default) = true := by
              cases h1 : (heldOf t a.event.toNat).getD q default <;> rw [h1] at hb26 <;> first | (cases hb26; done) | exact hb26
            have hap : apartB t a b = false := by
              unfold apartB
              rw [List.any_eq_true.2 ⟨q, List.mem_range.2 (by omega), hqq⟩]; rfl
            rw [hap] at h
            exact h [.var 89 (.data 89 a.v), .var 89 (.data 89 b.v)])
         | (have _ := hf14
            have hq : q = 4 := by omega
            subst hq
            have hap : apartB t a b = true := by unfold apartB; rw [hc]; rfl
            rw [hap] at h
            exact h [.var 89 (.data 89 a.v), .var 89 (.data 89 b.v)]))

end Go.Eng.Tryz.O
