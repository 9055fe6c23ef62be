/- A part of the proof: walks through the program's functions, and what they compute. -/
import Derived.Test.YtedceinkpkoncaaGreatSAttr
import Derived.Test.YtedceinkpkoncaaGreatM1
import Derived.Test.YtedceinkpkoncaaGreatE4
import Derived.Test.YtedceinkpkoncaaGreatOW21
namespace Go.Eng.Tryz.O
set_option maxHeartbeats 0
set_option maxRecDepth 20000
open Go.RowKit Go.Eng
set_option linter.unusedSimpArgs false
set_option linter.unusedVariables false

theorem halfway {i j n : Nat} (hi : i ≤ j) (hj : j ≤ n) (hn : n ≤ maxLen) : IntKind.i64.wrap ((IntKind.u64.wrap (IntKind.i64.wrap (↑i + ↑j))).fdiv (2 ^ min 1 64)) = (((i + j) / 2 : Nat) : Int) := by
  unfold maxLen at hn
  have h1 : IntKind.u64.wrap (IntKind.i64.wrap ((i : Int) + j)) = (i : Int) + j := by
    simp [IntKind.wrap, IntKind.signed, IntKind.bits]
    omega
  rw [h1, Int.fdiv_eq_ediv_of_nonneg _ (by decide)]
  rw [show ((2 : Int) ^ min 1 64) = 2 from rfl, wrap64_ok (by omega) (by omega)]
  omega


def orOf : List Int → Int
  | [] => 0
  | a :: l => if a ≠ 0 then a else orOf l
theorem orOf_hit : ∀ {l : List Int} {j : Nat}, j < l.length → (∀ k, k < j → l.getD k default = 0) → l.getD j default ≠ 0 → orOf l = l.getD j default
  | a :: l, 0, _, _, h => by simp at h; simp [orOf, h]
  | a :: l, j + 1, hj, h0, h => by
    have ha := h0 0 (by omega)
    simp at ha
    unfold orOf
    rw [if_neg (by omega)]
    simpa using orOf_hit (l := l) (j := j) (by simpa using hj) (fun k hk => by simpa using h0 (k + 1) (by omega)) (by simpa using h)
theorem orOf_miss : ∀ {l : List Int}, (∀ k, k < l.length → l.getD k default = 0) → orOf l = 0
  | [], _ => rfl
  | a :: l, h => by
    have ha := h 0 (by simp)
    simp at ha
    unfold orOf
    rw [if_neg (by omega)]
    exact orOf_miss fun k hk => by simpa using h (k + 1) (by simpa using hk)
theorem or_two (x y : Int) : orOf [x, y] = if x ≠ 0 then x else y := by
  simp only [orOf]
  by_cases hx : x = 0
  · by_cases hy : y = 0 <;> simp [hx, hy]
  · simp [hx]
theorem later {l : List Edge} (hs : l.Pairwise elt) {i j : Nat} (hij : i < j) (hj : j < l.length) : ¬ ecmp (l.getD j default) (l.getD i default) < 0 := (ecmp_lt (esorted_at hs hij hj)).2

attribute [local go_sem] concat_at List.length_map List.length_range zero52 z52 z3 z4 z79 z89 z55 z53 z50 z2 zero53 z78 z117 zero79 zero78 zero117 zero89 zero55 Int.toNat_natCast Int.natCast_zero Event.v0 Event.v3 Event.v5 Event.v7 Event.v8 Access.v0 Access.v1 Access.v2 beq_acc Edge.v0 Edge.v1 Edge.v2 Edge.v3 heldOf_len locksTo_len heldsTo_len nowL_len
def lv76 : List (Nat × List Nat) := [(0, [0]), (1, [2])]
-- cmp.isNaN[int]
theorem isNaN_ctr (x : Int) : Ctr Go.Proofs.Tryz.prog tab 76 [3] [4] [.int x] [.bool false] := by
  refine Ctr.body ok Go.Proofs.Tryz.func76 rfl rfl 6 rfl [.tmp 2] rfl (by simp [fromVs]) ?_
  simp only [fromVs, fromV, args0, V.toList_list, V.toInt_int, V.toBool_bool, Nat.zero_add, Nat.reduceAdd, ty3]
  repeat' first
    | ((with_reducible refine SARA.do fun R1 hR1 => ?_); (simp only [go_sem, seval, -List.reduceReplicate]); (repeat' with_reducible refine And.intro ?_ ?_); all_goals first | (refine hR1 _ ?_; clear hR1 R1) | omega | rfl | decide | assumption | (intro _; omega) | (simp; done) | (simp; omega))
    | ((with_reducible refine SARA.nil ?_); refine hR _ ?_; clear hR R; try simp only [go_sem, lv76, lvOf, Nat.reduceBEq, Option.getD_some])
    | (with_reducible first | refine thenK.normal ?_ | refine SA.seq ?_ | refine SA.skip ?_ | refine SA.block ?_ | refine blockK.normal ?_ | refine SA.exit ?_ | refine blockK.hit ?_ | refine blockK.miss (by decide) ?_ | refine thenK.exit ?_ | refine loopK.exit ?_ | refine SA.ret ?_ | refine thenK.ret ?_ | refine blockK.ret ?_ | refine loopK.ret ?_ | refine SA.scope ?_ | refine scopeK.normal ?_ | refine scopeK.exit ?_ | refine scopeK.ret ?_ | refine SA.label ?_)
    | ((with_reducible refine SA.regionN ok (by kernel_rfl) lv76 ?_); intro R hR; simp only [go_sem, strip])
    | ((with_reducible first | refine ctrK.normal ?_ | refine ctrK.ret ?_)
       simp only [resA, evalO, resV, backK, outE, toV, ty4, ty3, List.lookup_cons, List.lookup_nil, beq_self_eq_true, forall_const, true_and, and_true]
       simp [flatTy, ty4])

def lv59 : List (Nat × List Nat) := [(0, [0, 1]), (1, [0, 1, 5]), (2, [0, 1, 5, 6]), (3, [0, 1, 6, 11]), (4, [12]), (5, [4]), (6, [4]), (7, [0, 1, 13]), (8, [4]), (9, [0, 1, 16]), (10, [4]), (11, [19]), (12, [4]), (13, [4])]
-- cmp.Compare[int]
theorem icmp_ctr (a b : Int) : Ctr Go.Proofs.Tryz.prog tab 59 [3, 3] [3] [.int a, .int b] [.int (icmp a b)] := by
  refine Ctr.body ok Go.Proofs.Tryz.func59 rfl rfl 20 rfl [.tmp 4] rfl (by simp [fromVs]) ?_
  simp only [fromVs, fromV, args0, V.toList_list, V.toInt_int, V.toBool_bool, Nat.zero_add, Nat.reduceAdd, ty3]
  repeat' first
    | ((with_reducible refine SARA.do fun R1 hR1 => ?_); (simp only [go_sem, seval, -List.reduceReplicate]); (repeat' with_reducible refine And.intro ?_ ?_); all_goals first | (refine hR1 _ ?_; clear hR1 R1) | ((first | refine ⟨_, _, rfl, .inl ⟨_, CallQ.ctr ok (isNaN_ctr _) (by first | rfl | (simp [go_sem, List.length_map, List.take_of_length_le]; done) | fail) rfl, ?_⟩⟩); all_goals ((try simp only [go_sem, seval, -List.reduceReplicate]); (repeat' with_reducible refine And.intro ?_ ?_); all_goals first | (refine hR1 _ ?_; clear hR1 R1) | omega | rfl | decide | assumption | (intro _; omega) | (simp; done) | (simp; omega) | (simp [roomFor, maxLen, by52, by3, by89, by79, by23] <;> omega))) | omega | rfl | decide | assumption | (intro _; omega) | (simp; done) | (simp; omega) | (simp [roomFor, maxLen, by52, by3, by89, by79, by23] <;> omega))
    | ((with_reducible refine SARA.nil ?_); refine hR _ ?_; clear hR R; try simp only [go_sem, lv59, lvOf, Nat.reduceBEq, Option.getD_some])
    | (with_reducible first | refine thenK.normal ?_ | refine SA.seq ?_ | refine SA.skip ?_ | refine SA.block ?_ | refine blockK.normal ?_ | refine SA.exit ?_ | refine blockK.hit ?_ | refine blockK.miss (by decide) ?_ | refine thenK.exit ?_ | refine loopK.exit ?_ | refine SA.ret ?_ | refine thenK.ret ?_ | refine blockK.ret ?_ | refine loopK.ret ?_ | refine SA.scope ?_ | refine scopeK.normal ?_ | refine scopeK.exit ?_ | refine scopeK.ret ?_ | refine SA.label ?_)
    | ((with_reducible refine SA.regionN ok (by kernel_rfl) lv59 ?_); intro R hR; simp only [go_sem, strip])
    | ((with_reducible refine SA.condAt 11 rfl (fun hb11 => ?_) (fun hf11 => ?_))
       all_goals
         try
           (cases hb11))
    | ((with_reducible refine SA.condAt 13 rfl (fun hb13 => ?_) (fun hf13 => ?_))
       all_goals
         try
           (cases hb13))
    | ((with_reducible refine SA.condAt 16 rfl (fun hb16 => ?_) (fun hf16 => ?_))
       all_goals
         try
           (simp only [decide_eq_true_eq, decide_eq_false_iff_not, Int.not_lt, Int.not_le] at hb16)
         try
           (simp only [decide_eq_true_eq, decide_eq_false_iff_not, Int.not_lt, Int.not_le] at hf16))
    | ((with_reducible refine SA.condAt 19 rfl (fun hb19 => ?_) (fun hf19 => ?_))
       all_goals
         try
           (simp only [decide_eq_true_eq, decide_eq_false_iff_not, Int.not_lt, Int.not_le] at hb19)
         try
           (simp only [decide_eq_true_eq, decide_eq_false_iff_not, Int.not_lt, Int.not_le] at hf19))
    | ((with_reducible refine SA.cond rfl ?_ ?_)
       all_goals
         intro hb
         simp only [decide_eq_true_eq, decide_eq_false_iff_not, Int.not_lt, Int.not_le] at hb)
    | ((with_reducible first | refine ctrK.normal ?_ | refine ctrK.ret ?_)
       simp only [resA, evalO, resV, backK, outE, toV, ty4, ty3, List.lookup_cons, List.lookup_nil, beq_self_eq_true, forall_const, true_and, and_true]
       refine ⟨rfl, ?_⟩
       simp only [if_true, Option.some.injEq, V.int.injEq]
       unfold icmp
       first | (rw [if_pos (by omega)]; done) | (rw [if_neg (by omega), if_pos (by omega)]; done) | (rw [if_neg (by omega), if_neg (by omega)]))

def lv58 : List (Nat × List Nat) := [(0, [0]), (1, [0, 3]), (2, [3, 6, 7, 8]), (3, [3, 6, 7, 8, 9]), (4, [3, 5, 6, 7, 8]), (5, [3, 5, 6, 7, 8, 14]), (6, [2]), (7, [3, 6, 7, 8]), (8, [2])]
-- cmp.Or[int]
theorem or_ctr (l : List Int) (hl : l.length ≤ maxLen) : Ctr Go.Proofs.Tryz.prog tab 58 [23] [3] [.list (l.map V.int)] [.int (orOf l)] := by
  refine Ctr.body ok Go.Proofs.Tryz.func58 rfl rfl 18 rfl [.tmp 2] rfl (by simp [fromVs]) ?_
  simp only [fromVs, fromV, args0, V.toList_list, V.toInt_int, V.toBool_bool, Nat.zero_add, Nat.reduceAdd, ty23]
  repeat' first
    | ((with_reducible refine SARA.told 4 _ ?_); try simp only [getD_map V.int l hjl])
    | ((with_reducible refine SARA.do fun R1 hR1 => ?_); (simp only [go_sem, seval, -List.reduceReplicate]); (repeat' with_reducible refine And.intro ?_ ?_); all_goals first | (refine hR1 _ ?_; clear hR1 R1) | omega | rfl | decide | assumption | (intro _; omega) | (simp; done) | (simp; omega) | (simp [roomFor, maxLen, by52, by3, by89, by79, by23] <;> omega))
    | ((with_reducible refine SARA.nil ?_); refine hR _ ?_; clear hR R; try simp only [go_sem, lv58, lvOf, Nat.reduceBEq, Option.getD_some])
    | (with_reducible first | refine thenK.normal ?_ | refine SA.seq ?_ | refine SA.skip ?_ | refine SA.block ?_ | refine blockK.normal ?_ | refine SA.exit ?_ | refine blockK.hit ?_ | refine blockK.miss (by decide) ?_ | refine thenK.exit ?_ | refine loopK.exit ?_ | refine SA.ret ?_ | refine thenK.ret ?_ | refine blockK.ret ?_ | refine loopK.ret ?_ | refine SA.scope ?_ | refine scopeK.normal ?_ | refine scopeK.exit ?_ | refine scopeK.ret ?_ | refine SA.label ?_)
    | ((with_reducible refine SA.at 4 ?_)
       have hjl : j < l.length := by omega
       (with_reducible refine SA.regionN ok (by kernel_rfl) lv58 ?_); intro R hR; simp only [go_sem, strip])
    | ((with_reducible refine SA.regionN ok (by kernel_rfl) lv58 ?_); intro R hR; simp only [go_sem, strip])
    | ((with_reducible refine SA.condAt 9 rfl (fun hb9 => ?_) (fun hf9 => ?_))
       all_goals
         try
           (simp only [decide_eq_true_eq, decide_eq_false_iff_not, Int.not_lt, Int.not_le] at hb9)
         try
           (simp only [decide_eq_true_eq, decide_eq_false_iff_not, Int.not_lt, Int.not_le] at hf9))
    | ((with_reducible refine SA.condAt 14 rfl (fun hb14 => ?_) (fun hf14 => ?_))
       all_goals
         try
           (have hb14n : l.getD j default ≠ 0 := by simpa using hb14)
         try
           (have hf14n : l.getD j default = 0 := by simpa using hf14))
    | ((with_reducible refine SA.atLoop ?_)
       refine SA.weaken (St.le.of_eq (by first | rfl | (simp; done) | fail)) (SA.loop (fun n τ => ∃ (j : Nat), n = l.length - j ∧ (j ≤ l.length ∧ ∀ k, k < j → l.getD k default = 0) ∧ τ = { tm := [(3, true, .int .i64 0), (6, true, .fs 3 (l.map V.int) false), (7, true, .int .i64 l.length), (8, true, .int .i64 j)], ob := [], out := [], nt := 18 }) (l.length) ⟨0, rfl, ⟨Nat.zero_le _, fun k hk => by omega⟩, rfl⟩ ?_)
       rintro n τ ⟨j, hn, ⟨hj, hc⟩, rfl⟩)
    | ((with_reducible refine loopK.round ?_)
       first
         | (have _ := hb9
            have _ := hf14
            refine loopK.normal (l.length - (j + 1)) _ (by omega) (St.le.of_eq (by rw [wrap_succ hjl hl])) ⟨j + 1, rfl, ⟨hjl, fun k hk => ?_⟩, rfl⟩
            by_cases hkj : k = j
            · subst hkj; exact hf14n
            · exact hc k (by omega)))
    | ((with_reducible first | refine ctrK.normal ?_ | refine ctrK.ret ?_)
       simp only [resA, evalO, resV, backK, outE, toV, ty4, ty3, List.lookup_cons, List.lookup_nil, beq_self_eq_true, forall_const, true_and, and_true]
       first
         | (have _ := hb9
            have _ := hb14
            refine ⟨rfl, ?_⟩
            simp only [if_true, Option.some.injEq, V.int.injEq]
            exact (orOf_hit hjl hc hb14n).symm)
         | (have _ := hf9
            refine ⟨rfl, ?_⟩
            simp only [if_true, Option.some.injEq, V.int.injEq]
            exact (orOf_miss fun k hk => hc k (by omega)).symm))

def lv57 : List (Nat × List Nat) := [(0, [2, 3]), (1, [4])]
-- scarab/goodlock.edges$1
theorem ecmp_ctr (a b : Edge) : Ctr Go.Proofs.Tryz.prog tab 57 [89, 89] [3] [a.v, b.v] [.int (ecmp a b)] := by
  refine Ctr.body ok Go.Proofs.Tryz.func57 rfl rfl 17 rfl [.tmp 4] rfl (by simp [fromVs]) ?_
  simp only [fromVs, fromV, args0, V.toList_list, V.toInt_int, V.toBool_bool, Nat.zero_add, Nat.reduceAdd, ty89]
  repeat' first
    | ((with_reducible first | refine SARA.do fun R1 hR1 => ?_ | refine SART.do fun R1 hR1 => ?_ | refine SARB.keep fun R1 hR1 => ?_ | refine SARB.any fun R1 hR1 => ?_); (simp only [go_sem, seval, -List.reduceReplicate]); (repeat' with_reducible refine And.intro ?_ ?_); all_goals first | (refine hR1 _ ?_; clear hR1 R1) | ((first | refine ⟨_, _, rfl, .inl ⟨_, CallQ.ctr ok (icmp_ctr a.event b.event) (by first | rfl | (simp [go_sem, List.length_map, List.take_of_length_le]; done) | fail) rfl, ?_⟩⟩ | refine ⟨_, _, rfl, .inl ⟨_, CallQ.ctr ok (icmp_ctr a.from_ b.from_) (by first | rfl | (simp [go_sem, List.length_map, List.take_of_length_le]; done) | fail) rfl, ?_⟩⟩ | refine ⟨_, _, rfl, .inl ⟨_, CallQ.ctr ok (or_ctr [icmp a.event b.event, icmp a.from_ b.from_] (by simp [maxLen])) (by first | rfl | (simp [go_sem, List.length_map, List.take_of_length_le]; done) | fail) rfl, ?_⟩⟩); all_goals ((try simp only [go_sem, seval, -List.reduceReplicate]); (repeat' with_reducible refine And.intro ?_ ?_); all_goals first | (refine hR1 _ ?_; clear hR1 R1) | omega | rfl | decide | assumption | (intro _; omega) | (simp; done) | (simp; omega) | (simp [roomFor, maxLen, by52, by3, by89, by79, by23] <;> omega))) | omega | rfl | decide | assumption | (intro _; omega) | (simp; done) | (simp; omega) | (simp [roomFor, maxLen, by52, by3, by89, by79, by23] <;> omega))
    | ((with_reducible refine SART.done ?_); refine hR _ ?_; clear hR R; try simp only [go_sem, lv57, lvOf, Nat.reduceBEq, Option.getD_some])
    | (with_reducible first | refine SART.br ?_ ?_ | exact SARL.nil | refine SARL.cons ?_ ?_)
    | ((with_reducible refine SARA.nil ?_); refine hR _ ?_; clear hR R; try simp only [go_sem, lv57, lvOf, Nat.reduceBEq, Option.getD_some])
    | (with_reducible first | refine thenK.normal ?_ | refine SA.seq ?_ | refine SA.skip ?_ | refine SA.block ?_ | refine blockK.normal ?_ | refine SA.exit ?_ | refine blockK.hit ?_ | refine blockK.miss (by decide) ?_ | refine thenK.exit ?_ | refine loopK.exit ?_ | refine SA.ret ?_ | refine thenK.ret ?_ | refine blockK.ret ?_ | refine loopK.ret ?_ | refine SA.scope ?_ | refine scopeK.normal ?_ | refine scopeK.exit ?_ | refine scopeK.ret ?_ | refine SA.label ?_)
    | ((with_reducible refine SA.at 1 ?_)
       refine SA.regionT ok mixed (.take 0 (.take 1 (.take 2 (.take 3 (.take 5 (.take 6 (.take 7 (.take 8 (.br 4 (.br 9 (.br 10 (.br 11 (.take 12 .done) .nil) .nil) .nil) .nil))))))))) [] lv57 (by kernel_rfl) (fun R hR => ?_); simp only [go_sem, strip])
    | ((with_reducible refine SA.regionN ok (by kernel_rfl) lv57 ?_); intro R hR; simp only [go_sem, strip])
    | ((with_reducible first | refine ctrK.normal ?_ | refine ctrK.ret ?_)
       simp only [resA, evalO, resV, backK, outE, toV, ty4, ty3, List.lookup_cons, List.lookup_nil, beq_self_eq_true, forall_const, true_and, and_true]
       refine ⟨rfl, ?_⟩
       simp only [if_true, Option.some.injEq, V.int.injEq]
       exact or_two _ _)

def lv88 : List (Nat × List Nat) := [(0, [0, 1, 2, 3, 8]), (1, [0, 1, 2, 3, 8, 14]), (2, [0, 1, 2, 3, 8]), (3, [0, 1, 2, 3, 8, 9]), (4, [0, 1, 2, 3, 8, 9, 34]), (5, [0, 1, 2, 3, 8, 9]), (6, [0, 1, 2, 3, 8, 9])]
-- slices.insertionSortCmpFunc[scarab/api.LockEdge]
theorem insertion_ctr (l : List Edge) (hl : l.length ≤ 100000) (hs : l.Pairwise elt) (a b : Nat) (hab : a ≤ b) (hb : b ≤ l.length) : Ctr Go.Proofs.Tryz.prog tab 88 [92, 3, 3, 133] [] [.list (l.map Edge.v), .int a, .int b, .fnv 57] [] := by
  have hm : l.length + 1 ≤ maxLen := Nat.le_trans (Nat.succ_le_succ hl) (by decide)
  refine Ctr.body ok Go.Proofs.Tryz.func88 rfl rfl 53 rfl [] rfl (by simp [fromVs]) ?_
  simp only [fromVs, fromV, args0, V.toList_list, V.toInt_int, V.toBool_bool, Nat.zero_add, Nat.reduceAdd, ty3, ty92, ty133]
  repeat' first
    | ((with_reducible refine SARQ.told 4 _ ?_); try simp only [hwm, getD_map Edge.v l hlt, getD_map Edge.v l (show i - 1 < l.length by omega)])
    | ((with_reducible first | refine SARA.do fun R1 hR1 => ?_ | refine SARQ.do fun R1 hR1 => ?_ | refine SART.do fun R1 hR1 => ?_ | refine SARB.keep fun R1 hR1 => ?_ | refine SARB.any fun R1 hR1 => ?_); (simp only [go_sem, seval, -List.reduceReplicate]); (repeat' with_reducible refine And.intro ?_ ?_); all_goals first | (refine hR1 _ ?_; clear hR1 R1) | ((first | refine ⟨_, _, rfl, _, CallQ.ctr ok (ecmp_ctr (l.getD i default) (l.getD (i - 1) default)) (by first | rfl | (simp [go_sem, List.length_map, List.take_of_length_le]; done) | fail) rfl, ?_⟩ | refine ⟨_, _, rfl, _, fun hg => CallQ.ctr ok (ecmp_ctr (l.getD i default) (l.getD (i - 1) default)) (by first | rfl | (simp [go_sem, List.length_map, List.take_of_length_le]; done) | fail) rfl, ?_⟩ | refine ⟨_, _, rfl, .inl ⟨_, CallQ.ctr ok (ecmp_ctr (l.getD i default) (l.getD (i - 1) default)) (by first | rfl | (simp [go_sem, List.length_map, List.take_of_length_le]; done) | fail) rfl, ?_⟩⟩ | refine ⟨_, _, rfl, .inl ⟨_, fun hg => CallQ.ctr ok (ecmp_ctr (l.getD i default) (l.getD (i - 1) default)) (by first | rfl | (simp [go_sem, List.length_map, List.take_of_length_le]; done) | fail) rfl, ?_⟩⟩); all_goals ((try simp only [go_sem, seval, -List.reduceReplicate]); (repeat' with_reducible refine And.intro ?_ ?_); all_goals first | (refine hR1 _ ?_; clear hR1 R1) | omega | rfl | decide | assumption | (intro _; omega) | (simp; done) | (simp; omega) | (simp [roomFor, maxLen, by52, by3, by89, by79, by23] <;> omega))) | omega | rfl | decide | assumption | (intro _; omega) | (simp; done) | (simp; omega) | (simp [roomFor, maxLen, by52, by3, by89, by79, by23] <;> omega))
    | ((with_reducible refine SART.done ?_); refine hR _ ?_; clear hR R; try simp only [go_sem, lv88, lvOf, Nat.reduceBEq, Option.getD_some])
    | (with_reducible first | refine SART.br ?_ ?_ | exact SARL.nil | refine SARL.cons ?_ ?_)
    | ((with_reducible refine SARA.nil ?_); refine hR _ ?_; clear hR R; try simp only [go_sem, lv88, lvOf, Nat.reduceBEq, Option.getD_some])
    | ((with_reducible refine SARQ.nil ?_); refine hR _ ?_; clear hR R; try simp only [go_sem, lv88, lvOf, Nat.reduceBEq, Option.getD_some])
    | (with_reducible first | refine thenK.normal ?_ | refine SA.seq ?_ | refine SA.skip ?_ | refine SA.block ?_ | refine blockK.normal ?_ | refine SA.exit ?_ | refine blockK.hit ?_ | refine blockK.miss (by decide) ?_ | refine thenK.exit ?_ | refine loopK.exit ?_ | refine SA.ret ?_ | refine thenK.ret ?_ | refine blockK.ret ?_ | refine loopK.ret ?_ | refine SA.scope ?_ | refine scopeK.normal ?_ | refine scopeK.exit ?_ | refine scopeK.ret ?_ | refine SA.label ?_)
    | ((with_reducible refine SA.at 4 ?_)
       have hlt : i < l.length := by omega
       have hlate : decide (ecmp (l.getD i default) (l.getD (i - 1) default) < 0) = false := decide_eq_false (later hs (show i - 1 < i by omega) hlt)
       have hwm : IntKind.i64.wrap ((i : Int) - 1) = ((i - 1 : Nat) : Int) := by rw [wrap64_ok (by omega) (by omega)]; omega
       (with_reducible refine SA.regionD ok mixed (by kernel_rfl) (by kernel_rfl) lv88 ?_); intro R hR; simp only [go_sem, strip])
    | ((with_reducible refine SA.regionN ok (by kernel_rfl) lv88 ?_); intro R hR; simp only [go_sem, strip])
    | ((with_reducible refine SA.regionD ok mixed (by kernel_rfl) (by kernel_rfl) lv88 ?_); intro R hR; simp only [go_sem, strip])
    | ((with_reducible refine SA.condAt 14 rfl (fun hb14 => ?_) (fun hf14 => ?_))
       all_goals
         try
           (simp only [decide_eq_true_eq, decide_eq_false_iff_not, Int.not_lt, Int.not_le] at hb14)
         try
           (simp only [decide_eq_true_eq, decide_eq_false_iff_not, Int.not_lt, Int.not_le] at hf14))
    | ((with_reducible refine SA.condAt 34 rfl (fun hb34 => ?_) (fun hf34 => ?_))
       all_goals
         try
           (simp only [hlate, Bool.cond_false_right, Bool.and_false, Bool.false_eq_true] at hb34))
    | ((with_reducible refine SA.atLoop ?_)
       refine SA.weaken (St.le.of_eq (by first | (rw [wrap_succ (show a < l.length + 1 by omega) hm]; done) | (rw [wrap_succ (show a < l.length + 1 by omega) hm]; rfl))) (SA.loop (fun n τ => ∃ (i : Nat), n = b - i ∧ (a < i ∧ i ≤ b + 1) ∧ τ = { tm := [(0, true, .fs 89 (l.map Edge.v) false), (1, true, .int .i64 a), (2, true, .int .i64 b), (3, true, .fn 57 []), (8, true, .int .i64 i)], ob := [], out := [], nt := 53 }) (b - (a + 1)) ⟨a + 1, rfl, by omega, rfl⟩ ?_)
       rintro n τ ⟨i, hn, ⟨hi, hib⟩, rfl⟩)
    | ((with_reducible refine SA.atLoop ?_)
       refine SA.weaken (St.le.of_eq (by first | rfl | (simp; done) | fail)) (SA.loop (fun n τ => ∃ (u : Unit), n = 0 ∧ (i < b) ∧ τ = { tm := [(0, true, .fs 89 (l.map Edge.v) false), (1, true, .int .i64 a), (2, true, .int .i64 b), (3, true, .fn 57 []), (8, true, .int .i64 i), (9, true, .int .i64 i)], ob := [], out := [], nt := 53 }) (0) ⟨(), rfl, by omega, rfl⟩ ?_)
       rintro n τ ⟨u, hn, hib2, rfl⟩)
    | ((with_reducible refine loopK.round ?_)
       first
         | (refine loopK.normal (b - (i + 1)) _ (by omega) (St.le.of_eq (by rw [wrap_succ (show i < l.length + 1 by omega) hm])) ⟨i + 1, rfl, by omega, rfl⟩))
    | ((with_reducible first | refine ctrK.normal ?_ | refine ctrK.ret ?_)
       simp only [resA, evalO, resV, backK, outE, toV, ty4, ty3, List.lookup_cons, List.lookup_nil, beq_self_eq_true, forall_const, true_and, and_true]
       all_goals exact ⟨trivial, trivial⟩)

def lv89 : List (Nat × List Nat) := [(0, [0, 1, 2, 3, 4, 28]), (1, [0, 1, 3, 4, 10]), (2, [0, 1, 4, 10, 11]), (3, [0, 1, 4, 10, 11, 33]), (4, [0, 1, 4, 10, 11, 12]), (5, [0, 1, 4, 10, 11, 12, 50]), (6, [0, 1, 4, 10, 11]), (7, [0, 1, 4, 10, 11]), (8, [0, 10, 13]), (9, [0, 10, 13, 58]), (10, [0, 10, 13]), (11, [0, 10, 13]), (12, [0, 1, 2, 3, 4, 80]), (13, [0, 2, 4, 14]), (14, [0, 2, 4, 14, 15]), (15, [0, 2, 4, 14, 15, 85]), (16, [0, 2, 4, 14, 15, 16]), (17, [0, 2, 4, 14, 15, 16, 103]), (18, [0, 2, 4, 14, 15]), (19, [0, 2, 4, 14, 15]), (20, [0, 14, 17]), (21, [0, 14, 17, 110]), (22, [0, 14, 17]), (23, [0, 14, 17]), (24, [0, 1, 2, 3, 4, 18]), (25, [0, 1, 2, 3, 4, 18, 19]), (26, [0, 1, 2, 3, 4, 18, 19]), (27, [0, 1, 2, 3, 4, 18, 19, 140]), (28, [0, 1, 2, 3, 4, 18, 19, 20]), (29, [0, 1, 2, 3, 4, 18, 19, 20, 21]), (30, [0, 1, 2, 3, 4, 18, 19, 20]), (31, [0, 1, 2, 3, 4, 18, 19, 20, 21]), (32, [0, 1, 2, 3, 4, 18, 19, 20, 21, 22]), (33, [0, 1, 2, 3, 4, 18, 19, 20, 21, 22, 151]), (34, [0, 1, 2, 3, 4, 18, 19, 20, 21, 22, 23]), (35, [0, 1, 2, 3, 4, 18, 19, 20, 21, 22, 23, 171]), (36, [0, 1, 2, 3, 4, 18, 19, 20, 21, 22]), (37, [0, 1, 2, 3, 4, 18, 19, 20, 21, 22]), (38, [0, 1, 2, 3, 4, 18, 20, 24]), (39, [0, 1, 2, 3, 4, 18, 20, 24, 185]), (40, [0, 1, 3, 4, 18, 20, 24]), (41, [0, 1, 3, 4, 18, 20, 24, 199]), (42, [0, 3, 4, 18, 24]), (43, [0, 3, 4, 18, 24, 213]), (44, [])]
-- slices.symMergeCmpFunc[scarab/api.LockEdge]
set_option maxHeartbeats 4000000 in
theorem symMerge_step (l : List Edge) (hl : l.length ≤ 100000) (hs : l.Pairwise elt) (a m b : Nat) (ham : a < m) (hmb : m < b) (hb : b ≤ l.length) (ih : ∀ a' m' b' : Nat, b' - a' < b - a → a' < m' → m' < b' → b' ≤ l.length → Ctr Go.Proofs.Tryz.prog tab 89 [92, 3, 3, 3, 133] [] [.list (l.map Edge.v), .int a', .int m', .int b', .fnv 57] []) : Ctr Go.Proofs.Tryz.prog tab 89 [92, 3, 3, 3, 133] [] [.list (l.map Edge.v), .int a, .int m, .int b, .fnv 57] [] := by
  have hm : l.length + 1 ≤ maxLen := Nat.le_trans (Nat.succ_le_succ hl) (by decide)
  have hml : b ≤ maxLen := by omega
  have hwma : IntKind.i64.wrap ((m : Int) - a) = ((m - a : Nat) : Int) := by rw [wrap64_ok (by omega) (by omega)]; omega
  have hwbm : IntKind.i64.wrap ((b : Int) - m) = ((b - m : Nat) : Int) := by rw [wrap64_ok (by omega) (by omega)]; omega
  have hwm1 : IntKind.i64.wrap ((m : Int) - 1) = ((m - 1 : Nat) : Int) := by rw [wrap64_ok (by omega) (by omega)]; omega
  have hal : a < l.length := by omega
  have hmlt : m < l.length := by omega
  obtain ⟨mid, hmid⟩ : ∃ mid : Nat, mid = (a + b) / 2 := ⟨_, rfl⟩
  have hwn : IntKind.i64.wrap ((mid : Int) + m) = ((mid + m : Nat) : Int) := by rw [wrap64_ok (by omega) (by omega)]; omega
  have hwp : IntKind.i64.wrap (((mid + m : Nat) : Int) - 1) = ((mid + m - 1 : Nat) : Int) := by rw [wrap64_ok (by omega) (by omega)]; omega
  have e20t : mid < m → IntKind.i64.wrap (((mid + m : Nat) : Int) - b) = ((mid + m - b : Nat) : Int) := by intro h; rw [wrap64_ok (by omega) (by omega)]; omega
  refine Ctr.body ok Go.Proofs.Tryz.func89 rfl rfl 220 rfl [] rfl (by simp [fromVs]) ?_
  simp only [fromVs, fromV, args0, V.toList_list, V.toInt_int, V.toBool_bool, Nat.zero_add, Nat.reduceAdd, ty3, ty92, ty133]
  repeat' first
    | ((with_reducible refine SARA.told 4 6 ?_)
       rw [halfway (n := b) (show m ≤ j by omega) (by omega) hml])
    | ((with_reducible refine SARA.told 16 6 ?_)
       rw [halfway (n := m) (show i ≤ m by omega) (by omega) (by omega)])
    | ((with_reducible refine SARA.told 24 6 ?_)
       rw [halfway (n := b) (show a ≤ b by omega) (by omega) hml, ← hmid])
    | ((with_reducible refine SARA.told 34 6 ?_)
       rw [halfway (n := m) (show s ≤ r0 by omega) (by omega) (by omega)])
    | ((with_reducible refine SARA.told 0 _ ?_); try simp only [hwma])
    | ((with_reducible refine SARA.told 12 _ ?_); try simp only [hwbm])
    | ((with_reducible refine SARA.told 9 _ ?_); try simp only [hwm1])
    | ((with_reducible refine SARA.told 25 _ ?_); try simp only [hwn])
    | ((with_reducible refine SARA.told 32 _ ?_); try simp only [hwp])
    | ((with_reducible refine SARQ.told 5 _ ?_); try simp only [getD_map Edge.v l (show (m + j) / 2 < l.length by omega), getD_map Edge.v l hal])
    | ((with_reducible refine SARQ.told 17 _ ?_); try simp only [getD_map Edge.v l (show (i + m) / 2 < l.length by omega), getD_map Edge.v l hmlt])
    | ((with_reducible refine SARQ.told 35 _ ?_); try simp only [hwpc, getD_map Edge.v l (show mid + m - 1 - (s + r0) / 2 < l.length by omega), getD_map Edge.v l (show (s + r0) / 2 < l.length by omega)])
    | ((with_reducible refine SARA.told 38 _ ?_); try simp only [hwe])
    | ((with_reducible first | refine SARA.do fun R1 hR1 => ?_ | refine SARQ.do fun R1 hR1 => ?_ | refine SART.do fun R1 hR1 => ?_ | refine SARB.keep fun R1 hR1 => ?_ | refine SARB.any fun R1 hR1 => ?_); (simp only [go_sem, seval, -List.reduceReplicate]); (repeat' with_reducible refine And.intro ?_ ?_); all_goals first | (refine hR1 _ ?_; clear hR1 R1) | ((first | refine ⟨_, _, rfl, _, CallQ.ctr ok (ecmp_ctr (l.getD ((m + j) / 2) default) (l.getD a default)) (by first | rfl | (simp [go_sem, List.length_map, List.take_of_length_le]; done) | fail) rfl, ?_⟩ | refine ⟨_, _, rfl, .inl ⟨_, CallQ.ctr ok (ecmp_ctr (l.getD ((m + j) / 2) default) (l.getD a default)) (by first | rfl | (simp [go_sem, List.length_map, List.take_of_length_le]; done) | fail) rfl, ?_⟩⟩ | refine ⟨_, _, rfl, _, CallQ.ctr ok (ecmp_ctr (l.getD m default) (l.getD ((i + m) / 2) default)) (by first | rfl | (simp [go_sem, List.length_map, List.take_of_length_le]; done) | fail) rfl, ?_⟩ | refine ⟨_, _, rfl, .inl ⟨_, CallQ.ctr ok (ecmp_ctr (l.getD m default) (l.getD ((i + m) / 2) default)) (by first | rfl | (simp [go_sem, List.length_map, List.take_of_length_le]; done) | fail) rfl, ?_⟩⟩ | refine ⟨_, _, rfl, _, CallQ.ctr ok (ecmp_ctr (l.getD (mid + m - 1 - (s + r0) / 2) default) (l.getD ((s + r0) / 2) default)) (by first | rfl | (simp [go_sem, List.length_map, List.take_of_length_le]; done) | fail) rfl, ?_⟩ | refine ⟨_, _, rfl, .inl ⟨_, CallQ.ctr ok (ecmp_ctr (l.getD (mid + m - 1 - (s + r0) / 2) default) (l.getD ((s + r0) / 2) default)) (by first | rfl | (simp [go_sem, List.length_map, List.take_of_length_le]; done) | fail) rfl, ?_⟩⟩ | refine ⟨_, _, rfl, .inr (CallE.ctr ok (ih a r0 mid (by omega) hA.1 hA.2 (by omega)) (by first | rfl | (simp [go_sem, List.length_map, List.take_of_length_le]; done) | fail) ?_)⟩ | refine ⟨_, _, rfl, .inr (CallB.ctr ok (ih a r0 mid (by omega) hA.1 hA.2 (by omega)) (by first | rfl | (simp [go_sem, List.length_map, List.take_of_length_le]; done) | fail) ?_)⟩ | refine ⟨_, _, rfl, .inr (CallE.ctr ok (ih mid (mid + m - r0) b hB3 hB.1 hB.2 hb) (by first | rfl | (simp [go_sem, List.length_map, List.take_of_length_le]; done) | fail) ?_)⟩ | refine ⟨_, _, rfl, .inr (CallB.ctr ok (ih mid (mid + m - r0) b hB3 hB.1 hB.2 hb) (by first | rfl | (simp [go_sem, List.length_map, List.take_of_length_le]; done) | fail) ?_)⟩); all_goals ((try simp only [go_sem, seval, -List.reduceReplicate]); (repeat' with_reducible refine And.intro ?_ ?_); all_goals first | (refine hR1 _ ?_; clear hR1 R1) | omega | rfl | decide | assumption | (intro _; omega) | (simp; done) | (simp; omega) | (simp [roomFor, maxLen, by52, by3, by89, by79, by23] <;> omega))) | omega | rfl | decide | assumption | (intro _; omega) | (simp; done) | (simp; omega) | (simp [roomFor, maxLen, by52, by3, by89, by79, by23] <;> omega))
    | ((with_reducible refine SARA.nilAt 29 ?_); refine hR _ ?_; clear hR R; try simp only [go_sem, lv89, lvOf, Nat.reduceBEq, Option.getD_some]
       obtain ⟨s0, r0, hs0, hr0⟩ : ∃ s0 r0 : Nat, s0 = mid + m - b ∧ r0 = mid := ⟨_, _, rfl, rfl⟩
       have hF : s0 ≤ r0 ∧ r0 ≤ m ∧ (r0 = mid ∧ mid < m ∨ r0 = m ∧ m ≤ mid) := by omega
       have hF2 : ∀ c, s0 ≤ c → c < r0 → m + c + 1 ≤ mid + m ∧ mid + m - 1 - c < b ∧ c < mid + m - 1 - c := by intro c h1 h2; omega)
    | ((with_reducible refine SARA.nilAt 31 ?_); refine hR _ ?_; clear hR R; try simp only [go_sem, lv89, lvOf, Nat.reduceBEq, Option.getD_some]
       obtain ⟨s0, r0, hs0, hr0⟩ : ∃ s0 r0 : Nat, s0 = a ∧ r0 = m := ⟨_, _, rfl, rfl⟩
       have hF : s0 ≤ r0 ∧ r0 ≤ m ∧ (r0 = mid ∧ mid < m ∨ r0 = m ∧ m ≤ mid) := by omega
       have hF2 : ∀ c, s0 ≤ c → c < r0 → m + c + 1 ≤ mid + m ∧ mid + m - 1 - c < b ∧ c < mid + m - 1 - c := by intro c h1 h2; omega)
    | ((with_reducible refine SART.done ?_); refine hR _ ?_; clear hR R; try simp only [go_sem, lv89, lvOf, Nat.reduceBEq, Option.getD_some])
    | (with_reducible first | refine SART.br ?_ ?_ | exact SARL.nil | refine SARL.cons ?_ ?_)
    | ((with_reducible refine SARA.nil ?_); refine hR _ ?_; clear hR R; try simp only [go_sem, lv89, lvOf, Nat.reduceBEq, Option.getD_some])
    | ((with_reducible refine SARQ.nil ?_); refine hR _ ?_; clear hR R; try simp only [go_sem, lv89, lvOf, Nat.reduceBEq, Option.getD_some])
    | (with_reducible first | refine thenK.normal ?_ | refine SA.seq ?_ | refine SA.skip ?_ | refine SA.block ?_ | refine blockK.normal ?_ | refine SA.exit ?_ | refine blockK.hit ?_ | refine blockK.miss (by decide) ?_ | refine thenK.exit ?_ | refine loopK.exit ?_ | refine SA.ret ?_ | refine thenK.ret ?_ | refine blockK.ret ?_ | refine loopK.ret ?_ | refine SA.scope ?_ | refine scopeK.normal ?_ | refine scopeK.exit ?_ | refine scopeK.ret ?_ | refine SA.label ?_)
    | ((with_reducible refine SA.at 35 ?_)
       have hc4 := hF2 ((s + r0) / 2) (by omega) (by omega)
       have hwpc : IntKind.i64.wrap (((mid + m - 1 : Nat) : Int) - (((s + r0) / 2 : Nat) : Int)) = ((mid + m - 1 - (s + r0) / 2 : Nat) : Int) := by rw [wrap64_ok (by omega) (by omega)]; omega
       (with_reducible refine SA.regionD ok mixed (by kernel_rfl) (by kernel_rfl) lv89 ?_); intro R hR; simp only [go_sem, strip])
    | ((with_reducible refine SA.at 38 ?_)
       obtain rfl : r0 = s := by omega
       have hwe : IntKind.i64.wrap (((mid + m : Nat) : Int) - (r0 : Int)) = ((mid + m - r0 : Nat) : Int) := by rw [wrap64_ok (by omega) (by omega)]; omega
       (with_reducible refine SA.regionN ok (by kernel_rfl) lv89 ?_); intro R hR; simp only [go_sem, strip])
    | ((with_reducible refine SA.regionN ok (by kernel_rfl) lv89 ?_); intro R hR; simp only [go_sem, strip])
    | ((with_reducible refine SA.regionD ok mixed (by kernel_rfl) (by kernel_rfl) lv89 ?_); intro R hR; simp only [go_sem, strip])
    | ((with_reducible refine SA.condAt 28 rfl (fun hb28 => ?_) (fun hf28 => ?_))
       all_goals
         try
           (simp only [decide_eq_true_eq, decide_eq_false_iff_not, Int.not_lt, Int.not_le] at hb28)
         try
           (simp only [decide_eq_true_eq, decide_eq_false_iff_not, Int.not_lt, Int.not_le] at hf28))
    | ((with_reducible refine SA.condAt 33 rfl (fun hb33 => ?_) (fun hf33 => ?_))
       all_goals
         try
           (simp only [decide_eq_true_eq, decide_eq_false_iff_not, Int.not_lt, Int.not_le] at hb33)
         try
           (simp only [decide_eq_true_eq, decide_eq_false_iff_not, Int.not_lt, Int.not_le] at hf33))
    | ((with_reducible refine SA.condAt 50 rfl (fun hb50 => ?_) (fun hf50 => ?_))
       all_goals
         try
           (simp only [decide_eq_true_eq, decide_eq_false_iff_not, Int.not_lt, Int.not_le] at hb50
            exact absurd hb50 (later hs (show a < (m + j) / 2 by omega) (by omega)))
         try
           (simp only [decide_eq_true_eq, decide_eq_false_iff_not, Int.not_lt, Int.not_le] at hf50))
    | ((with_reducible refine SA.condAt 58 rfl (fun hb58 => ?_) (fun hf58 => ?_))
       all_goals
         try
           (simp only [decide_eq_true_eq, decide_eq_false_iff_not, Int.not_lt, Int.not_le] at hb58
            exfalso; omega)
         try
           (simp only [decide_eq_true_eq, decide_eq_false_iff_not, Int.not_lt, Int.not_le] at hf58))
    | ((with_reducible refine SA.condAt 80 rfl (fun hb80 => ?_) (fun hf80 => ?_))
       all_goals
         try
           (simp only [decide_eq_true_eq, decide_eq_false_iff_not, Int.not_lt, Int.not_le] at hb80)
         try
           (simp only [decide_eq_true_eq, decide_eq_false_iff_not, Int.not_lt, Int.not_le] at hf80))
    | ((with_reducible refine SA.condAt 85 rfl (fun hb85 => ?_) (fun hf85 => ?_))
       all_goals
         try
           (simp only [decide_eq_true_eq, decide_eq_false_iff_not, Int.not_lt, Int.not_le] at hb85)
         try
           (simp only [decide_eq_true_eq, decide_eq_false_iff_not, Int.not_lt, Int.not_le] at hf85))
    | ((with_reducible refine SA.condAt 103 rfl (fun hb103 => ?_) (fun hf103 => ?_))
       all_goals
         try
           (have hlt2 := later hs (show (i + m) / 2 < m by omega) hmlt
            simp only [decide_eq_false hlt2, Bool.not_false, Bool.true_eq_false] at hf103))
    | ((with_reducible refine SA.condAt 110 rfl (fun hb110 => ?_) (fun hf110 => ?_))
       all_goals
         try
           (simp only [decide_eq_true_eq, decide_eq_false_iff_not, Int.not_lt, Int.not_le] at hb110
            exfalso; omega)
         try
           (simp only [decide_eq_true_eq, decide_eq_false_iff_not, Int.not_lt, Int.not_le] at hf110))
    | ((with_reducible refine SA.condAt 140 rfl (fun hb140 => ?_) (fun hf140 => ?_))
       all_goals
         try
           (simp only [decide_eq_true_eq, decide_eq_false_iff_not, Int.not_lt, Int.not_le] at hb140)
         try
           (simp only [decide_eq_true_eq, decide_eq_false_iff_not, Int.not_lt, Int.not_le] at hf140))
    | ((with_reducible refine SA.condAt 151 rfl (fun hb151 => ?_) (fun hf151 => ?_))
       all_goals
         try
           (simp only [decide_eq_true_eq, decide_eq_false_iff_not, Int.not_lt, Int.not_le] at hb151)
         try
           (simp only [decide_eq_true_eq, decide_eq_false_iff_not, Int.not_lt, Int.not_le] at hf151))
    | ((with_reducible refine SA.condAt 171 rfl (fun hb171 => ?_) (fun hf171 => ?_))
       all_goals
         try
           (have hlt2 := later hs hc4.2.2 (show mid + m - 1 - (s + r0) / 2 < l.length by omega)
            simp only [decide_eq_false hlt2, Bool.not_false, Bool.true_eq_false] at hf171))
    | ((with_reducible refine SA.condAt 185 rfl (fun hb185 => ?_) (fun hf185 => ?_))
       all_goals
         try
           (exfalso
            simp at hb185
            omega))
    | ((with_reducible refine SA.condAt 199 rfl (fun hb199 => ?_) (fun hf199 => ?_))
       all_goals
         try
           (have hA : a < r0 ∧ r0 < mid := by simp at hb199; omega
            try clear hF hF2 hr0 hs0))
    | ((with_reducible refine SA.condAt 213 rfl (fun hb213 => ?_) (fun hf213 => ?_))
       all_goals
         try
           (have hB : mid < mid + m - r0 ∧ mid + m - r0 < b := by simp at hb213; omega
            have hB3 : b - mid < b - a := by omega
            try clear hF hF2 hr0 hs0))
    | ((with_reducible refine SA.atLoop ?_)
       refine SA.weaken (St.le.of_eq (by first | rfl | (simp; done) | fail)) (SA.loop (fun n τ => ∃ (j : Nat), n = j - m ∧ (m ≤ j ∧ j ≤ b) ∧ τ = { tm := [(0, true, .fs 89 (l.map Edge.v) false), (1, true, .int .i64 a), (4, true, .fn 57 []), (10, true, .int .i64 m), (11, true, .int .i64 j)], ob := [], out := [], nt := 220 }) (b - m) ⟨b, rfl, by omega, rfl⟩ ?_)
       rintro n τ ⟨j, hn, ⟨hmj, hjb⟩, rfl⟩)
    | ((with_reducible refine SA.atLoop ?_)
       refine SA.weaken (St.le.of_eq (by first | rfl | (simp; done) | fail)) (SA.loop (fun n τ => ∃ (u : Unit), n = 0 ∧ (True) ∧ τ = { tm := [(0, true, .fs 89 (l.map Edge.v) false), (10, true, .int .i64 m), (13, true, .int .i64 a)], ob := [], out := [], nt := 220 }) (0) ⟨(), rfl, trivial, rfl⟩ ?_)
       rintro n τ ⟨u, hn, hu1, rfl⟩)
    | ((with_reducible refine SA.atLoop ?_)
       refine SA.weaken (St.le.of_eq (by first | rfl | (simp; done) | fail)) (SA.loop (fun n τ => ∃ (i : Nat), n = m - i ∧ (a ≤ i ∧ i ≤ m) ∧ τ = { tm := [(0, true, .fs 89 (l.map Edge.v) false), (2, true, .int .i64 m), (4, true, .fn 57 []), (14, true, .int .i64 i), (15, true, .int .i64 m)], ob := [], out := [], nt := 220 }) (m - a) ⟨a, rfl, by omega, rfl⟩ ?_)
       rintro n τ ⟨i, hn, ⟨hai, him⟩, rfl⟩)
    | ((with_reducible refine SA.atLoop ?_)
       refine SA.weaken (St.le.of_eq (by rw [show i = m by omega])) (SA.loop (fun n τ => ∃ (u : Unit), n = 0 ∧ (True) ∧ τ = { tm := [(0, true, .fs 89 (l.map Edge.v) false), (14, true, .int .i64 i), (17, true, .int .i64 m)], ob := [], out := [], nt := 220 }) (0) ⟨(), rfl, trivial, rfl⟩ ?_)
       rintro n τ ⟨u, hn, hu3, rfl⟩)
    | ((with_reducible refine SA.atLoop ?_)
       refine SA.weaken (St.le.of_eq (by first | (rw [hs0, hr0, ← e20t (by omega)]; done) | (rw [hs0, hr0]; done) | (rw [hs0, hr0, ← e20t (by omega)]; rfl) | (rw [hs0, hr0]; rfl))) (SA.loop (fun n τ => ∃ (s : Nat), n = r0 - s ∧ (s0 ≤ s ∧ s ≤ r0) ∧ τ = { tm := [(0, true, .fs 89 (l.map Edge.v) false), (1, true, .int .i64 a), (2, true, .int .i64 m), (3, true, .int .i64 b), (4, true, .fn 57 []), (18, true, .int .i64 mid), (19, true, .int .i64 (mid + m : Nat)), (20, true, .int .i64 s), (21, true, .int .i64 r0), (22, true, .int .i64 (mid + m - 1 : Nat))], ob := [], out := [], nt := 220 }) (r0 - s0) ⟨s0, rfl, ⟨Nat.le_refl _, hF.1⟩, rfl⟩ ?_)
       rintro n τ ⟨s, hn, ⟨hs0s, hsr⟩, rfl⟩)
    | ((with_reducible refine loopK.round ?_)
       first
         | (refine loopK.normal ((m + j) / 2 - m) _ (by omega) St.le.refl ⟨(m + j) / 2, rfl, by omega, rfl⟩)
         | (refine loopK.normal (m - ((i + m) / 2 + 1)) _ (by omega) (St.le.of_eq (by rw [wrap_succ (show (i + m) / 2 < m by omega) (by omega)])) ⟨(i + m) / 2 + 1, rfl, by omega, rfl⟩)
         | (refine loopK.normal (r0 - ((s + r0) / 2 + 1)) _ (by omega) (St.le.of_eq (by rw [wrap_succ (show (s + r0) / 2 < m by omega) (by omega)])) ⟨(s + r0) / 2 + 1, rfl, by omega, rfl⟩))
    | ((with_reducible first | refine ctrK.normal ?_ | refine ctrK.ret ?_)
       simp only [resA, evalO, resV, backK, outE, toV, ty4, ty3, List.lookup_cons, List.lookup_nil, beq_self_eq_true, forall_const, true_and, and_true]
       all_goals exact ⟨trivial, trivial⟩)

end Go.Eng.Tryz.O
