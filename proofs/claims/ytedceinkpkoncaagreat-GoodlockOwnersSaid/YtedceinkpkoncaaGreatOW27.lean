/- A part of the proof: walks through the program's functions, and what they compute. -/
import Derived.Test.YtedceinkpkoncaaGreatSAttr
import Derived.Test.YtedceinkpkoncaaGreatM1
import Derived.Test.YtedceinkpkoncaaGreatE4
import Derived.Test.YtedceinkpkoncaaGreatOW26
namespace Go.Eng.Tryz.O
set_option maxHeartbeats 0
set_option maxRecDepth 20000
open Go.RowKit Go.Eng
set_option linter.unusedSimpArgs false
set_option linter.unusedVariables false

theorem chosen_ctr {F : FuncId} {ts : List TypeId} {vs : List V} (htl : ts.length = vs.length) {all : List Edge} {fit : Edge → Edge → Bool} (hfit : Tests F ts vs all fit) (hal : all.length ≤ 100000) (ring : List Int) (hrl : ring.length ≤ 100) : ∀ (n : Nat) (so : List Edge), so.length + n = ring.length → (∀ a ∈ so, a ∈ all) →
    Ctr Go.Proofs.Tryz.prog tab 28 [23, 92, 92, 90] [4] [.list (ring.map V.int), .list (all.map Edge.v), .list (so.map Edge.v), .clo F ts vs] [.bool (chosen fit ring all n so)] := by
  intro n
  induction n with
  | zero => intro so h1 h2; exact chosen_step htl hfit hal ring hrl 0 so h1 h2 (fun m so' h => by omega)
  | succ n ih => intro so h1 h2; exact chosen_step htl hfit hal ring hrl (n + 1) so h1 h2 (fun m so' h g1 g2 => by cases h; exact ih so' g1 g2)

/-- The first place of a number, or -1. -/
def findI (x : Int) (l : List Int) : Int := if l.contains x then (l.findIdx fun y => decide (x = y) : Nat) else -1
theorem contains_any (x : Int) (l : List Int) : l.contains x = l.any fun y => decide (x = y) := by
  induction l with
  | nil => rfl
  | cons a l ih => rw [List.contains_cons, List.any_cons, ih]; rfl
theorem findI_hit {x : Int} {l : List Int} {i : Nat} (hi : i < l.length) (h0 : (l.take i).any (fun y => decide (x = y)) = false) (h1 : x = l.getD i default) : findI x l = i := by
  have hi' : l.getD i default = l[i] := by simp [List.getD_eq_getElem?_getD, hi]
  have : l.contains x = true := by rw [contains_any]; exact List.any_eq_true.2 ⟨_, getD_mem l hi, by simpa using h1⟩
  unfold findI
  rw [if_pos this]
  have : l.findIdx (fun y => decide (x = y)) = i := by
    rw [List.findIdx_eq hi]
    rw [hi'] at h1
    refine ⟨by simpa using h1, fun j hj => ?_⟩
    have := List.any_eq_false.1 h0 l[j] (List.mem_take_iff_getElem.2 ⟨j, by omega, rfl⟩)
    simpa using this
  rw [this]
theorem findI_miss {x : Int} {l : List Int} (h : l.any (fun y => decide (x = y)) = false) : findI x l = -1 := by
  unfold findI; rw [contains_any, h]; rfl
theorem findI_ge {x : Int} {l : List Int} : decide (0 ≤ findI x l) = l.contains x := by
  unfold findI; cases l.contains x <;> simp

/-- The rings that go on behind a beginning. -/
def ringsOn (test : List Int → Bool) : Nat → List Int → List (List Int)
  | 0, _ => []
  | f + 1, l => (if test l then [l] else []) ++ ((List.range 4).filter fun (n : Nat) => decide (l.getD 0 default < (n : Int)) && !l.contains (n : Int)).flatMap fun (n : Nat) => ringsOn test f (l ++ [(n : Int)])
def ringsFrom (test : List Int → Bool) (f : Nat) (l : List Int) (n : Nat) : List (List Int) := ((List.range n).filter fun (n : Nat) => decide (l.getD 0 default < (n : Int)) && !l.contains (n : Int)).flatMap fun (n : Nat) => ringsOn test f (l ++ [(n : Int)])
theorem ringsOn_succ (test : List Int → Bool) (f : Nat) (l : List Int) : ringsOn test (f + 1) l = (if test l then [l] else []) ++ ringsFrom test f l 4 := rfl
theorem ringsFrom_hit {test : List Int → Bool} {f : Nat} {l : List Int} {n : Nat} (h1 : l.getD 0 default < (n : Int)) (h2 : l.contains (n : Int) = false) : ringsFrom test f l (n + 1) = ringsFrom test f l n ++ ringsOn test f (l ++ [(n : Int)]) := by
  unfold ringsFrom
  rw [List.range_succ, List.filter_append, List.flatMap_append]
  congr 1
  have : (decide (l.getD 0 default < (n : Int)) && !l.contains (n : Int)) = true := by rw [h2, decide_eq_true h1]; rfl
  simp only [List.filter_cons, List.filter_nil, this, if_true, List.flatMap_cons, List.flatMap_nil, List.append_nil]
theorem ringsFrom_miss {test : List Int → Bool} {f : Nat} {l : List Int} {n : Nat} (h2 : l.contains (n : Int) = true) : ringsFrom test f l (n + 1) = ringsFrom test f l n := by
  unfold ringsFrom
  rw [List.range_succ, List.filter_append, List.flatMap_append]
  have : (decide (l.getD 0 default < (n : Int)) && !l.contains (n : Int)) = false := by rw [h2]; simp
  simp only [List.filter_cons, List.filter_nil, this, Bool.false_eq_true, if_false, List.flatMap_nil, List.append_nil]
theorem ringsFrom_start {test : List Int → Bool} {f : Nat} {l : List Int} {k : Nat} (h : l.getD 0 default = (k : Int)) : ringsFrom test f l (k + 1) = [] := by
  unfold ringsFrom
  have : ((List.range (k + 1)).filter fun (n : Nat) => decide (l.getD 0 default < (n : Int)) && !l.contains (n : Int)) = [] := by
    rw [List.filter_eq_nil_iff]
    intro n hn
    have := List.mem_range.1 hn
    rw [h]
    simp
    omega
  rw [this]; rfl
/-- A beginning that can be gone on with so often. -/
def good : Nat → List Int → Bool
  | 0, _ => false
  | f + 1, l => decide (l.length + (f + 1) = 5) && decide (0 < l.length) && decide (0 ≤ l.getD 0 default) && decide (l.getD 0 default ≤ 3) && (List.range 4).all fun (n : Nat) => !(decide (l.getD 0 default < (n : Int)) && !l.contains (n : Int)) || good f (l ++ [(n : Int)])
theorem good_succ {f : Nat} {l : List Int} (h : good (f + 1) l = true) : l.length + (f + 1) = 5 ∧ 0 < l.length ∧ 0 ≤ l.getD 0 default ∧ l.getD 0 default ≤ 3 ∧ ∀ n : Nat, n < 4 → l.getD 0 default < (n : Int) → l.contains (n : Int) = false → good f (l ++ [(n : Int)]) = true := by
  simp only [good, Bool.and_eq_true, decide_eq_true_eq] at h
  refine ⟨h.1.1.1.1, h.1.1.1.2, h.1.1.2, h.1.2, fun n hn h1 h2 => ?_⟩
  have := List.all_eq_true.1 h.2 n (List.mem_range.2 hn)
  rw [decide_eq_true h1, h2] at this
  simpa using this
def ringsV (r : List (List Int)) : List V := r.map fun l => V.list (l.map V.int)
theorem ringsV_append (a b : List (List Int)) : ringsV (a ++ b) = ringsV a ++ ringsV b := by simp [ringsV]
theorem ringsV_len (r : List (List Int)) : (ringsV r).length = r.length := by simp [ringsV]
/-- Is it a ring? -/
def isRing (fit : Edge → Edge → Bool) (all : List Edge) (l : List Int) : Bool := decide (1 < l.length) && chosen fit l all l.length []
def free2 (_ _ : Edge) : Bool := true

attribute [local go_sem] concat_at List.length_map List.length_range zero52 z52 z3 z4 z79 z89 z55 z53 z50 z2 zero53 z78 z117 zero79 zero78 zero117 zero89 zero55 Int.toNat_natCast Int.natCast_zero Event.v0 Event.v3 Event.v5 Event.v7 Event.v8 Access.v0 Access.v1 Access.v2 beq_acc Edge.v0 Edge.v1 Edge.v2 Edge.v3 heldOf_len locksTo_len heldsTo_len nowL_len
def lv49 : List (Nat × List Nat) := [(0, [0]), (1, [0, 4]), (2, [2]), (3, [2])]
-- slices.Clone[[]int,int]
theorem clone_ctr (l : List Int) (hl : l.length ≤ 1000000) (hpos : 0 < l.length) : Ctr Go.Proofs.Tryz.prog tab 49 [23] [23] [.list (l.map V.int)] [.list (l.map V.int)] := by
  refine Ctr.body ok Go.Proofs.Tryz.func49 rfl rfl 8 rfl [.tmp 2] rfl (by simp [fromVs]) ?_
  simp only [fromVs, fromV, args0, V.toList_list, V.toInt_int, V.toBool_bool, Nat.zero_add, Nat.reduceAdd, ty23]
  repeat' first
    | ((with_reducible refine SARA.do fun R1 hR1 => ?_); (simp only [go_sem, seval, -List.reduceReplicate]); (repeat' with_reducible refine And.intro ?_ ?_); all_goals first | (refine hR1 _ ?_; clear hR1 R1) | omega | rfl | decide | assumption | (intro _; omega) | (simp [roomFor, maxLen, by52, by3, by89, by79, by23] <;> omega))
    | ((with_reducible refine SARA.nil ?_); refine hR _ ?_; clear hR R; try simp only [go_sem, lv49, lvOf, Nat.reduceBEq, Option.getD_some])
    | (with_reducible first | refine thenK.normal ?_ | refine SA.seq ?_ | refine SA.skip ?_ | refine SA.block ?_ | refine blockK.normal ?_ | refine SA.exit ?_ | refine blockK.hit ?_ | refine blockK.miss (by decide) ?_ | refine thenK.exit ?_ | refine loopK.exit ?_ | refine SA.ret ?_ | refine thenK.ret ?_ | refine blockK.ret ?_ | refine loopK.ret ?_ | refine SA.scope ?_ | refine scopeK.normal ?_ | refine scopeK.exit ?_ | refine scopeK.ret ?_ | refine SA.label ?_)
    | ((with_reducible refine SA.regionN ok (by kernel_rfl) lv49 ?_); intro R hR; simp only [go_sem, strip])
    | ((with_reducible refine SA.condAt 4 rfl (fun hb4 => ?_) (fun hf4 => ?_))
       all_goals
         try
           (cases hb4))
    | ((with_reducible first | refine ctrK.normal ?_ | refine ctrK.ret ?_)
       simp only [resA, evalO, resV, backK, outE, toV, ty4, ty3, List.lookup_cons, List.lookup_nil, beq_self_eq_true, forall_const, true_and, and_true]
       simp only [go_sem, seval, -List.reduceReplicate]
       refine ⟨rfl, ?_⟩
       simp [List.take_of_length_le])

def lv73 : List (Nat × List Nat) := [(0, [0, 1]), (1, [0, 1, 7, 8]), (2, [0, 1, 7, 8, 9]), (3, [0, 1, 5, 7, 8]), (4, [0, 1, 5, 7, 8, 16]), (5, [4]), (6, [0, 1, 7, 8]), (7, [4])]
-- slices.Index[[]int,int]
theorem indexInt_ctr (l : List Int) (x : Int) (hl : l.length ≤ maxLen) : Ctr Go.Proofs.Tryz.prog tab 73 [23, 3] [3] [.list (l.map V.int), .int x] [.int (findI x l)] := by
  refine Ctr.body ok Go.Proofs.Tryz.func73 rfl rfl 19 rfl [.tmp 4] rfl (by simp [fromVs]) ?_
  simp only [fromVs, fromV, args0, V.toList_list, V.toInt_int, V.toBool_bool, Nat.zero_add, Nat.reduceAdd, ty3, ty23]
  repeat' first
    | ((with_reducible refine SARA.told 4 _ ?_); try simp only [getD_map V.int l hlt])
    | ((with_reducible refine SARA.do fun R1 hR1 => ?_); (simp only [go_sem, seval, -List.reduceReplicate]); (repeat' with_reducible refine And.intro ?_ ?_); all_goals first | (refine hR1 _ ?_; clear hR1 R1) | omega | rfl | decide | assumption | (intro _; omega) | (simp; done) | (simp; omega) | (simp [roomFor, maxLen, by52, by3, by89, by79, by23] <;> omega))
    | ((with_reducible refine SARA.nil ?_); refine hR _ ?_; clear hR R; try simp only [go_sem, lv73, lvOf, Nat.reduceBEq, Option.getD_some])
    | (with_reducible first | refine thenK.normal ?_ | refine SA.seq ?_ | refine SA.skip ?_ | refine SA.block ?_ | refine blockK.normal ?_ | refine SA.exit ?_ | refine blockK.hit ?_ | refine blockK.miss (by decide) ?_ | refine thenK.exit ?_ | refine loopK.exit ?_ | refine SA.ret ?_ | refine thenK.ret ?_ | refine blockK.ret ?_ | refine loopK.ret ?_ | refine SA.scope ?_ | refine scopeK.normal ?_ | refine scopeK.exit ?_ | refine scopeK.ret ?_ | refine SA.label ?_)
    | ((with_reducible refine SA.at 4 ?_)
       have hlt : i < l.length := by omega
       (with_reducible refine SA.regionN ok (by kernel_rfl) lv73 ?_); intro R hR; simp only [go_sem, strip])
    | ((with_reducible refine SA.regionN ok (by kernel_rfl) lv73 ?_); intro R hR; simp only [go_sem, strip])
    | ((with_reducible refine SA.condAt 9 rfl (fun hb9 => ?_) (fun hf9 => ?_))
       all_goals
         try
           (simp only [decide_eq_true_eq, decide_eq_false_iff_not, Int.not_lt, Int.not_le] at hb9)
         try
           (simp only [decide_eq_true_eq, decide_eq_false_iff_not, Int.not_lt, Int.not_le] at hf9))
    | ((with_reducible refine SA.condAt 16 rfl (fun hb16 => ?_) (fun hf16 => ?_))
       all_goals
         try
           (simp only [decide_eq_true_eq, decide_eq_false_iff_not, Int.not_lt, Int.not_le] at hb16)
         try
           (simp only [decide_eq_true_eq, decide_eq_false_iff_not, Int.not_lt, Int.not_le] at hf16))
    | ((with_reducible refine SA.atLoop ?_)
       refine SA.weaken (St.le.of_eq (by first | rfl | (simp; done) | fail)) (SA.loop (fun n τ => ∃ (i : Nat), n = l.length - i ∧ (i ≤ l.length ∧ (l.take i).any (fun y => decide (x = y)) = false) ∧ τ = { tm := [(0, true, .fs 3 (l.map V.int) false), (1, true, .int .i64 x), (7, true, .int .i64 l.length), (8, true, .int .i64 i)], ob := [], out := [], nt := 19 }) (l.length) ⟨0, rfl, ⟨Nat.zero_le _, rfl⟩, rfl⟩ ?_)
       rintro n τ ⟨i, hn, ⟨hi, hc⟩, rfl⟩)
    | ((with_reducible refine loopK.round ?_)
       first
         | (have _ := hb9
            have _ := hf16
            refine loopK.normal (l.length - (i + 1)) _ (by omega) (St.le.of_eq (by rw [wrap_succ hlt hl])) ⟨i + 1, rfl, ⟨hlt, ?_⟩, rfl⟩
            rw [any_take _ l hlt, hc, decide_eq_false (show ¬x = l.getD i default from hf16)]; rfl))
    | ((with_reducible first | refine ctrK.normal ?_ | refine ctrK.ret ?_)
       simp only [resA, evalO, resV, backK, outE, toV, ty4, ty3, List.lookup_cons, List.lookup_nil, beq_self_eq_true, forall_const, true_and, and_true]
       first
         | (have _ := hb9
            have _ := hb16
            refine ⟨rfl, ?_⟩
            simp only [if_true, Option.some.injEq, V.int.injEq]
            exact (findI_hit hlt hc hb16).symm)
         | (have _ := hf9
            have : i = l.length := by omega
            subst this
            rw [List.take_length] at hc
            refine ⟨rfl, ?_⟩
            simp only [if_true, Option.some.injEq, V.int.injEq]
            exact (findI_miss hc).symm))

def lv50 : List (Nat × List Nat) := [(0, [0, 1]), (1, [4])]
-- slices.Contains[[]int,int]
theorem containsInt_ctr (l : List Int) (x : Int) (hl : l.length ≤ maxLen) : Ctr Go.Proofs.Tryz.prog tab 50 [23, 3] [4] [.list (l.map V.int), .int x] [.bool (l.contains x)] := by
  refine Ctr.body ok Go.Proofs.Tryz.func50 rfl rfl 9 rfl [.tmp 4] rfl (by simp [fromVs]) ?_
  simp only [fromVs, fromV, args0, V.toList_list, V.toInt_int, V.toBool_bool, Nat.zero_add, Nat.reduceAdd, ty3, ty23]
  repeat' first
    | ((with_reducible refine SARA.do fun R1 hR1 => ?_); (simp only [go_sem, seval, -List.reduceReplicate]); (repeat' with_reducible refine And.intro ?_ ?_); all_goals first | (refine hR1 _ ?_; clear hR1 R1) | ((first | refine ⟨_, _, rfl, .inl ⟨_, CallQ.ctr ok (indexInt_ctr l x hl) (by first | rfl | (simp [go_sem, List.length_map, List.take_of_length_le]; done) | fail) rfl, ?_⟩⟩); all_goals ((try simp only [go_sem, seval, -List.reduceReplicate]); (repeat' with_reducible refine And.intro ?_ ?_); all_goals first | (refine hR1 _ ?_; clear hR1 R1) | omega | rfl | decide | assumption | (intro _; omega) | (simp; done) | (simp; omega) | (simp [roomFor, maxLen, by52, by3, by89, by79, by23] <;> omega))) | omega | rfl | decide | assumption | (intro _; omega) | (simp; done) | (simp; omega) | (simp [roomFor, maxLen, by52, by3, by89, by79, by23] <;> omega))
    | ((with_reducible refine SARA.nil ?_); refine hR _ ?_; clear hR R; try simp only [go_sem, lv50, lvOf, Nat.reduceBEq, Option.getD_some])
    | (with_reducible first | refine thenK.normal ?_ | refine SA.seq ?_ | refine SA.skip ?_ | refine SA.block ?_ | refine blockK.normal ?_ | refine SA.exit ?_ | refine blockK.hit ?_ | refine blockK.miss (by decide) ?_ | refine thenK.exit ?_ | refine loopK.exit ?_ | refine SA.ret ?_ | refine thenK.ret ?_ | refine blockK.ret ?_ | refine loopK.ret ?_ | refine SA.scope ?_ | refine scopeK.normal ?_ | refine scopeK.exit ?_ | refine scopeK.ret ?_ | refine SA.label ?_)
    | ((with_reducible refine SA.regionN ok (by kernel_rfl) lv50 ?_); intro R hR; simp only [go_sem, strip])
    | ((with_reducible first | refine ctrK.normal ?_ | refine ctrK.ret ?_)
       simp only [resA, evalO, resV, backK, outE, toV, ty4, ty3, List.lookup_cons, List.lookup_nil, beq_self_eq_true, forall_const, true_and, and_true]
       refine ⟨rfl, ?_⟩
       simp only [if_true, Option.some.injEq, V.bool.injEq]
       exact findI_ge)

end Go.Eng.Tryz.O
