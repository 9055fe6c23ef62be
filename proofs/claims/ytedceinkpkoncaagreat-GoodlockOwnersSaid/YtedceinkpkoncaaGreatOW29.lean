/- A part of the proof: walks through the program's functions, and what they compute. -/
import Derived.Test.YtedceinkpkoncaaGreatSAttr
import Derived.Test.YtedceinkpkoncaaGreatM1
import Derived.Test.YtedceinkpkoncaaGreatE4
import Derived.Test.YtedceinkpkoncaaGreatOW28
namespace Go.Eng.Tryz.O
set_option maxHeartbeats 0
set_option maxRecDepth 20000
open Go.RowKit Go.Eng
set_option linter.unusedSimpArgs false
set_option linter.unusedVariables false

theorem on_all (all : List Edge) (hal : all.length ≤ 100000) : ∀ f, OnSays all f
  | 0 => fun l c tm out nt L xs K hg => by cases hg
  | f + 1 => on_step all hal f (on_all all hal f)
/-- All rings, as far as those that begin below n. -/
def ringsTo (test : List Int → Bool) (n : Nat) : List (List Int) := (List.range n).flatMap fun (n : Nat) => ringsOn test 4 [(n : Int)]
def ringsOf (all : List Edge) : List (List Int) := ringsTo (isRing (fun _ _ => true) all) 4
theorem ringsTo_succ (test : List Int → Bool) (n : Nat) : ringsTo test (n + 1) = ringsTo test n ++ ringsOn test 4 [(n : Int)] := by
  unfold ringsTo
  rw [List.range_succ, List.flatMap_append]; simp
theorem good_one {n : Nat} (h : n < 4) : good 4 [(n : Int)] = true := by
  rcases (show n = 0 ∨ n = 1 ∨ n = 2 ∨ n = 3 by omega) with rfl | rfl | rfl | rfl <;> decide
theorem ringsOn_bound (test : List Int → Bool) : ∀ f l, (ringsOn test f l).length ≤ 5 ^ f
  | 0, l => by simp [ringsOn]
  | f + 1, l => by
    rw [ringsOn_succ, List.length_append]
    have h1 : (if test l then [l] else []).length ≤ 1 := by split <;> simp
    have h2 : ∀ n, (ringsFrom test f l n).length ≤ n * 5 ^ f := by
      intro n
      induction n with
      | zero => simp [ringsFrom]
      | succ n ih =>
        have h3 : ringsFrom test f l (n + 1) = ringsFrom test f l n ∨ ringsFrom test f l (n + 1) = ringsFrom test f l n ++ ringsOn test f (l ++ [(n : Int)]) := by
          unfold ringsFrom
          rw [List.range_succ, List.filter_append, List.flatMap_append]
          cases h : (decide (l.getD 0 default < (n : Int)) && !l.contains (n : Int)) with
          | false => left; simp only [List.filter_cons, List.filter_nil, h, Bool.false_eq_true, if_false, List.flatMap_nil, List.append_nil]
          | true => right; simp only [List.filter_cons, List.filter_nil, h, if_true, List.flatMap_cons, List.flatMap_nil, List.append_nil]
        have h4 := ringsOn_bound test f (l ++ [(n : Int)])
        rw [Nat.succ_mul]
        rcases h3 with h3 | h3 <;> rw [h3]
        · omega
        · rw [List.length_append]; omega
    have h3 := h2 4
    have h4 : 0 < 5 ^ f := Nat.pos_of_ne_zero (by simp)
    rw [Nat.pow_succ]
    omega
theorem ringsTo_bound (test : List Int → Bool) : ∀ n, (ringsTo test n).length ≤ n * 625
  | 0 => by simp [ringsTo]
  | n + 1 => by
    rw [ringsTo_succ, List.length_append]
    have h1 := ringsTo_bound test n
    have h2 := ringsOn_bound test 4 [(n : Int)]
    omega

attribute [local go_sem] concat_at List.length_map List.length_range zero52 z52 z3 z4 z79 z89 z55 z53 z50 z2 zero53 z78 z117 zero79 zero78 zero117 zero89 zero55 Int.toNat_natCast Int.natCast_zero Event.v0 Event.v3 Event.v5 Event.v7 Event.v8 Access.v0 Access.v1 Access.v2 beq_acc Edge.v0 Edge.v1 Edge.v2 Edge.v3 heldOf_len locksTo_len heldsTo_len nowL_len
def lv23 : List (Nat × List Nat) := [(0, [0]), (1, [3]), (2, [3, 4]), (3, [3, 4, 5]), (4, [4, 5]), (5, [4, 5, 10]), (6, [4, 5, 10, 11]), (7, [4, 5, 6, 10]), (8, [4, 5, 10]), (9, [4, 5, 10]), (10, [2])]
-- scarab/goodlock.rings
theorem rings_ctr (t : List Event) (ht : t.length ≤ 257) (h6 : ∀ e ∈ t, e.touch.length = 6) (hr : t.all right = true) : CtrZ Go.Proofs.Tryz.prog tab 23 [30] [67] [.list (t.map Event.v)] [.list (ringsV (ringsOf (edges t)))] := by
  have hal : (edges t).length ≤ 100000 := Nat.le_trans (edgesTo_len t _) (by omega)
  refine CtrZ.body ok Go.Proofs.Tryz.func23 rfl rfl 19 rfl [.tmp 2] rfl (by simp [fromVs]) ?_
  simp only [fromVs, fromV, args0, V.toList_list, V.toInt_int, V.toBool_bool, Nat.zero_add, Nat.reduceAdd, ty30]
  repeat' first
    | ((with_reducible refine SARA.do fun R1 hR1 => ?_); (simp only [go_sem, seval, -List.reduceReplicate]); (repeat' with_reducible refine And.intro ?_ ?_); all_goals first | (refine hR1 _ ?_; clear hR1 R1) | ((first | refine ⟨_, _, rfl, .inr (CallE.ctrZ (edges_ctr t ht h6 hr) (by first | rfl | (simp [go_sem, List.length_map, List.take_of_length_le]; done) | fail) ?_)⟩ | ((refine ⟨_, _, rfl, .inr (CallE.frzRow (i := 4) ok.sized rfl ?_)⟩); (simp only [St.frz, Tm.frz, E.frz, E.frzL, Obj.frz, List.map_cons, List.map_nil, List.set_cons_zero, List.set_cons_succ, Nat.reduceBEq, Nat.beq_refl, if_true, if_false, Nat.beq_eq_true_eq, reduceCtorEq, Bool.false_eq_true, V.get, Nat.reduceEqDiff]); (refine on_all (edges t) hal 4 [(q : Int)] false _ [] 19 _ _ _ (good_one (by omega)) hB2 (by rfl) (by rfl) (by rfl) (by rfl) ?_))); all_goals ((try simp only [go_sem, seval, -List.reduceReplicate]); (repeat' with_reducible refine And.intro ?_ ?_); all_goals first | (refine hR1 _ ?_; clear hR1 R1) | omega | rfl | decide | assumption | (intro _; omega) | (simp [roomFor, maxLen, by52, by3, by89, by79, by23, ringsV_len] <;> omega))) | omega | rfl | decide | assumption | (intro _; omega) | (simp [roomFor, maxLen, by52, by3, by89, by79, by23, ringsV_len] <;> omega))
    | ((with_reducible refine SARA.nil ?_); refine hR _ ?_; clear hR R; try simp only [go_sem, lv23, lvOf, Nat.reduceBEq, Option.getD_some])
    | (with_reducible first | refine thenK.normal ?_ | refine SA.seq ?_ | refine SA.skip ?_ | refine SA.block ?_ | refine blockK.normal ?_ | refine SA.exit ?_ | refine blockK.hit ?_ | refine blockK.miss (by decide) ?_ | refine thenK.exit ?_ | refine loopK.exit ?_ | refine SA.ret ?_ | refine thenK.ret ?_ | refine blockK.ret ?_ | refine loopK.ret ?_ | refine SA.scope ?_ | refine scopeK.normal ?_ | refine scopeK.exit ?_ | refine scopeK.ret ?_ | refine SA.label ?_)
    | ((with_reducible refine SA.at 4 ?_)
       refine SA.weaken (St.le.frzVal ok.sized 0 (v := .list ((edges t).map Edge.v)) rfl (by simp [toV, ty92])) ?_
       simp only [St.frz, Tm.frz, E.frz, E.frzL, Obj.frz, List.map_cons, List.map_nil, List.set_cons_zero, List.set_cons_succ, Nat.reduceBEq, Nat.beq_refl, if_true, if_false, Nat.beq_eq_true_eq, reduceCtorEq, Bool.false_eq_true, V.get, Nat.reduceEqDiff]
       (with_reducible refine SA.regionN ok (by kernel_rfl) lv23 ?_); intro R hR; simp only [go_sem, strip])
    | ((with_reducible refine SA.at 8 ?_)
       have hB1 := ringsTo_bound (isRing (fun _ _ => true) (edges t)) q
       have hB3 := ringsOn_bound (isRing (fun _ _ => true) (edges t)) 4 [(q : Int)]
       have hB2 : (ringsV (ringsTo (isRing (fun _ _ => true) (edges t)) q)).length + (ringsOn (isRing (fun _ _ => true) (edges t)) 4 [(q : Int)]).length ≤ 5000 := by rw [ringsV_len]; omega
       (with_reducible refine SA.regionN ok (by kernel_rfl) lv23 ?_); intro R hR; simp only [go_sem, strip])
    | ((with_reducible refine SA.regionN ok (by kernel_rfl) lv23 ?_); intro R hR; simp only [go_sem, strip])
    | ((with_reducible refine SA.condAt 11 rfl (fun hb11 => ?_) (fun hf11 => ?_))
       all_goals
         try
           (simp only [decide_eq_true_eq, decide_eq_false_iff_not, Int.not_lt, Int.not_le] at hb11)
         try
           (simp only [decide_eq_true_eq, decide_eq_false_iff_not, Int.not_lt, Int.not_le] at hf11))
    | ((with_reducible refine SA.atLoop ?_)
       refine SA.weaken ((St.le.ownVar 1 (e := 23) rfl).trans (St.le.of_eq rfl)) (SA.loop (fun n τ => ∃ (q : Nat), n = 4 - q ∧ (q ≤ 4) ∧ τ = { tm := [(4, true, .ptr 1 [] 67), (5, true, .ptr 2 [] 123), (10, true, .int .i64 q)], ob := [.dead, .var 67 (.sl 3 23 0 (ringsV (ringsTo (isRing (fun _ _ => true) (edges t)) q)).length false), .var 123 (.fn 47 [.fptr 92 (.list ((edges t).map Edge.v)), .ptr 1 [] 67, .ptr 2 [] 123]), .row 23 (ringsV (ringsTo (isRing (fun _ _ => true) (edges t)) q))], out := [], nt := 19 }) (4) ⟨0, rfl, by omega, rfl⟩ ?_)
       rintro n τ ⟨q, hn, hq4, rfl⟩)
    | ((with_reducible refine loopK.round ?_)
       first
         | (refine loopK.normal (4 - (q + 1)) _ (by omega) ((St.le.cut 4 rfl).trans (St.le.of_eq (by rw [ringsTo_succ, ringsV_append, wrap_succ (show q < 4 by omega) (by decide)]; rfl))) ⟨q + 1, rfl, by omega, rfl⟩))
    | ((with_reducible first | refine ctrZK.normal ?_ | refine ctrZK.ret ?_)
       simp only [resA, evalO, resV, backK, outE, toV, ty4, ty3, List.lookup_cons, List.lookup_nil, beq_self_eq_true, forall_const, true_and, and_true]
       simp only [go_sem, seval, -List.reduceReplicate]
       have hq : q = 4 := by omega
       subst hq
       simp [ringsOf, List.take_of_length_le])

end Go.Eng.Tryz.O
