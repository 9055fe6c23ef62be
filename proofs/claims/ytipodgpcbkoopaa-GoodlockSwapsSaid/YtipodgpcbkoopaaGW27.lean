/- A part of the proof: walks through the program's functions, and what they compute. -/
import Derived.Test.YtipodgpcbkoopaaE3
import Derived.Test.YtipodgpcbkoopaaM1
import Derived.Test.YtipodgpcbkoopaaE4
import Derived.Test.YtipodgpcbkoopaaGW26
namespace Go.Eng.Try
open Go.RowKit Go.Eng
set_option linter.unusedSimpArgs false
set_option linter.unusedVariables false

theorem chosen_ctr {F : FuncId} {ts : List TypeId} {vs : List V} (htl : ts.length = vs.length) {all : List Edge} {fit : Edge → Edge → Bool} (hfit : Tests F ts vs all fit) (hal : all.length ≤ 100000) (ring : List Int) (hrl : ring.length ≤ 100) : ∀ (n : Nat) (so : List Edge), so.length + n = ring.length → (∀ a ∈ so, a ∈ all) →
    Ctr Go.Proofs.Try.prog tab 32 [23, 46, 46, 71] [4] [.list (ring.map V.int), .list (all.map Edge.v), .list (so.map Edge.v), .clo F ts vs] [.bool (chosen fit ring all n so)] := by
  intro n
  induction n with
  | zero => intro so h1 h2; exact chosen_step htl hfit hal ring hrl 0 so h1 h2 (fun m so' h => by omega)
  | succ n ih => intro so h1 h2; exact chosen_step htl hfit hal ring hrl (n + 1) so h1 h2 (fun m so' h g1 g2 => by cases h; exact ih so' g1 g2)

/-- The first place of a number, or -1. -/
def findI (x : Int) (l : List Int) : Int := if l.contains x then (l.findIdx fun y => decide (x = y) : Nat) else -1
theorem contains_any (x : Int) (l : List Int) : l.contains x = l.any fun y => decide (x = y) := by
  induction l with
  | nil => rfl
  | cons a l ih => rw [List.contains_cons, List.any_cons, ih]; rfl
theorem findI_hit {x : Int} {l : List Int} {i : Nat} (hi : i < l.length) (h0 : (l.take i).any (fun y => decide (x = y)) = false) (h1 : x = l.getD i default) : findI x l = i := by
  have hi' : l.getD i default = l[i] := by simp [List.getD_eq_getElem?_getD, hi]
  have : l.contains x = true := by rw [contains_any]; exact List.any_eq_true.2 ⟨_, getD_mem l hi, by simpa using h1⟩
  unfold findI
  rw [if_pos this]
  have : l.findIdx (fun y => decide (x = y)) = i := by
    rw [List.findIdx_eq hi]
    rw [hi'] at h1
    refine ⟨by simpa using h1, fun j hj => ?_⟩
    have := List.any_eq_false.1 h0 l[j] (List.mem_take_iff_getElem.2 ⟨j, by omega, rfl⟩)
    simpa using this
  rw [this]
theorem findI_miss {x : Int} {l : List Int} (h : l.any (fun y => decide (x = y)) = false) : findI x l = -1 := by
  unfold findI; rw [contains_any, h]; rfl
theorem findI_ge {x : Int} {l : List Int} : decide (0 ≤ findI x l) = l.contains x := by
  unfold findI; cases l.contains x <;> simp

/-- The rings that go on behind a beginning. -/
def ringsOn (test : List Int → Bool) : Nat → List Int → List (List Int)
  | 0, _ => []
  | f + 1, l => (if test l then [l] else []) ++ ((List.range 4).filter fun (n : Nat) => decide (l.getD 0 default < (n : Int)) && !l.contains (n : Int)).flatMap fun (n : Nat) => ringsOn test f (l ++ [(n : Int)])
def ringsFrom (test : List Int → Bool) (f : Nat) (l : List Int) (n : Nat) : List (List Int) := ((List.range n).filter fun (n : Nat) => decide (l.getD 0 default < (n : Int)) && !l.contains (n : Int)).flatMap fun (n : Nat) => ringsOn test f (l ++ [(n : Int)])
theorem ringsOn_succ (test : List Int → Bool) (f : Nat) (l : List Int) : ringsOn test (f + 1) l = (if test l then [l] else []) ++ ringsFrom test f l 4 := rfl
theorem ringsFrom_hit {test : List Int → Bool} {f : Nat} {l : List Int} {n : Nat} (h1 : l.getD 0 default < (n : Int)) (h2 : l.contains (n : Int) = false) : ringsFrom test f l (n + 1) = ringsFrom test f l n ++ ringsOn test f (l ++ [(n : Int)]) := by
  unfold ringsFrom
  rw [List.range_succ, List.filter_append, List.flatMap_append]
  congr 1
  have : (decide (l.getD 0 default < (n : Int)) && !l.contains (n : Int)) = true := by rw [h2, decide_eq_true h1]; rfl
  simp only [List.filter_cons, List.filter_nil, this, if_true, List.flatMap_cons, List.flatMap_nil, List.append_nil]
theorem ringsFrom_miss {test : List Int → Bool} {f : Nat} {l : List Int} {n : Nat} (h2 : l.contains (n : Int) = true) : ringsFrom test f l (n + 1) = ringsFrom test f l n := by
  unfold ringsFrom
  rw [List.range_succ, List.filter_append, List.flatMap_append]
  have : (decide (l.getD 0 default < (n : Int)) && !l.contains (n : Int)) = false := by rw [h2]; simp
  simp only [List.filter_cons, List.filter_nil, this, Bool.false_eq_true, if_false, List.flatMap_nil, List.append_nil]
theorem ringsFrom_start {test : List Int → Bool} {f : Nat} {l : List Int} {k : Nat} (h : l.getD 0 default = (k : Int)) : ringsFrom test f l (k + 1) = [] := by
  unfold ringsFrom
  have : ((List.range (k + 1)).filter fun (n : Nat) => decide (l.getD 0 default < (n : Int)) && !l.contains (n : Int)) = [] := by
    rw [List.filter_eq_nil_iff]
    intro n hn
    have := List.mem_range.1 hn
    rw [h]
    simp
    omega
  rw [this]; rfl
/-- A beginning that can be gone on with so often. -/
def good : Nat → List Int → Bool
  | 0, _ => false
  | f + 1, l => decide (l.length + (f + 1) = 5) && decide (0 < l.length) && decide (0 ≤ l.getD 0 default) && decide (l.getD 0 default ≤ 3) && (List.range 4).all fun (n : Nat) => !(decide (l.getD 0 default < (n : Int)) && !l.contains (n : Int)) || good f (l ++ [(n : Int)])
theorem good_succ {f : Nat} {l : List Int} (h : good (f + 1) l = true) : l.length + (f + 1) = 5 ∧ 0 < l.length ∧ 0 ≤ l.getD 0 default ∧ l.getD 0 default ≤ 3 ∧ ∀ n : Nat, n < 4 → l.getD 0 default < (n : Int) → l.contains (n : Int) = false → good f (l ++ [(n : Int)]) = true := by
  simp only [good, Bool.and_eq_true, decide_eq_true_eq] at h
  refine ⟨h.1.1.1.1, h.1.1.1.2, h.1.1.2, h.1.2, fun n hn h1 h2 => ?_⟩
  have := List.all_eq_true.1 h.2 n (List.mem_range.2 hn)
  rw [decide_eq_true h1, h2] at this
  simpa using this
def ringsV (r : List (List Int)) : List V := r.map fun l => V.list (l.map V.int)
theorem ringsV_append (a b : List (List Int)) : ringsV (a ++ b) = ringsV a ++ ringsV b := by simp [ringsV]
theorem ringsV_len (r : List (List Int)) : (ringsV r).length = r.length := by simp [ringsV]
/-- Is it a ring? -/
def isRing (fit : Edge → Edge → Bool) (all : List Edge) (l : List Int) : Bool := decide (1 < l.length) && chosen fit l all l.length []
def free2 (_ _ : Edge) : Bool := true

attribute [local go_sem] argsV contentV fromVs Option.getD_some St.keep List.filterMap_cons List.filterMap_nil Option.map_some Option.map_none opG opQ opB newEs outE CallStepB guardA putK putE pureA evalO evalL constE pickA capsE capsV loadA fieldAddrA indexAddrA indexA sliceA evalOptI builtinA binA plainA shiftA eqA nilA arith shifts effA storeA appendA appB freshA St.kill Tm.kill E.kill E.killL Obj.kill elemsOf evalVs buildA okAt toV fromV zeroE V.get V.put V.sub V.setSub args0 CallStep CallStepQ i64min i64max u64min u64max u32min u32max u8min u8max Nat.zero_add List.length_map List.lookup_cons List.lookup_nil List.getElem?_cons_zero List.getElem?_cons_succ List.getElem?_toArray List.getElem?_nil Option.bind_some Option.bind_none List.size_toArray List.length_cons List.length_nil List.nil_append List.append_nil List.cons_append List.getD_cons_zero List.getD_cons_succ List.map_cons List.map_nil List.set_cons_zero List.set_cons_succ true_and and_true forall_const true_implies Bool.true_and Bool.and_true Bool.not_true Bool.not_false Bool.false_and Bool.and_false beq_self_eq_true Bool.true_beq Bool.false_beq beq_true beq_false eq_self false_implies V.toInt_int V.toBool_bool V.toList_list V.toList_agg V.toStr_str V.deref_ref if_true if_false Bool.false_eq_true Option.isSome_none Option.isSome_some Bool.false_or Bool.true_or Bool.or_false Bool.or_true cond_true cond_false implies_true and_self imp_self ty22 ty25 ty3 ty4 ty81 ty39 ty40 ty42 ty37 ty2 ty23 ty24 ty46 ty68 ty65 ty70 ty69 ty90 ty77 ty59 ty98 ty71 ty93 ty64 ty85 concat_at List.length_range zero39 z39 z3 z4 z70 z68 z42 z40 z37 z2 zero40 z69 z90 zero70 zero69 zero90 zero68 zero42 Int.toNat_natCast Int.natCast_zero Event.v0 Event.v3 Event.v5 Event.v7 Event.v8 Access.v0 Access.v1 Access.v2 beq_acc Edge.v0 Edge.v1 Edge.v2 Edge.v3 heldOf_len locksTo_len heldsTo_len nowL_len
-- slices.Clone[[]int,int]
theorem clone_ctr (l : List Int) (hl : l.length ≤ 1000000) (hpos : 0 < l.length) : Ctr Go.Proofs.Try.prog tab 47 [23] [23] [.list (l.map V.int)] [.list (l.map V.int)] := by
  refine Ctr.body ok Go.Proofs.Try.func47 rfl rfl 8 rfl [.tmp 2] rfl (by simp [fromVs]) ?_
  simp only [fromVs, fromV, args0, V.toList_list, V.toInt_int, V.toBool_bool, Nat.zero_add, Nat.reduceAdd, ty23]
  refine SA.seq ?_
  refine SA.region ok (by kernel_rfl) [0] ?_
  intro R r
  simp only [go_sem, strip]
  iterate 1 (refine opsA_cons fun Z q1 => ?_; simp only [go_sem, seval, -List.reduceReplicate]; (repeat' with_reducible refine And.intro ?_ ?_); all_goals first | (refine q1 _ ?_; clear q1 Z) | omega | rfl | decide | assumption | (intro _; omega) | (simp [roomFor, maxLen, by39, by3, by68, by70, by23] <;> omega))
  refine opsA_nil (r _ ?_)
  clear r R
  try simp only [go_sem, Nat.reduceBEq]
  refine thenK.normal (SA.seq ?_)
  refine SA.seq ?_
  refine SA.region ok (by kernel_rfl) [0, 4] ?_
  intro R r
  simp only [go_sem, strip]
  iterate 2 (refine opsA_cons fun Z q1 => ?_; simp only [go_sem, seval, -List.reduceReplicate]; (repeat' with_reducible refine And.intro ?_ ?_); all_goals first | (refine q1 _ ?_; clear q1 Z) | omega | rfl | decide | assumption | (intro _; omega) | (simp [roomFor, maxLen, by39, by3, by68, by70, by23] <;> omega))
  refine opsA_nil (r _ ?_)
  clear r R
  try simp only [go_sem, Nat.reduceBEq]
  refine thenK.normal ?_
  refine SA.cond rfl ?_ ?_
  · intro hb1
    skip
    cases hb1
  · intro hb1
    skip
    refine SA.skip ?_
    refine thenK.normal (SA.seq ?_)
    refine SA.region ok (by kernel_rfl) [2] ?_
    intro R r
    simp only [go_sem, strip]
    iterate 4 (refine opsA_cons fun Z q1 => ?_; simp only [go_sem, seval, -List.reduceReplicate]; (repeat' with_reducible refine And.intro ?_ ?_); all_goals first | (refine q1 _ ?_; clear q1 Z) | omega | rfl | decide | assumption | (intro _; omega) | (simp [roomFor, maxLen, by39, by3, by68, by70, by23] <;> omega))
    refine opsA_nil (r _ ?_)
    clear r R
    try simp only [go_sem, Nat.reduceBEq]
    refine thenK.normal (SA.ret ?_)
    refine ctrK.ret ?_
    simp only [resA, evalO, resV, backK, outE, toV, ty4, ty3, List.lookup_cons, List.lookup_nil, beq_self_eq_true, forall_const, true_and, and_true]
    simp only [go_sem, seval, -List.reduceReplicate]
    refine ⟨rfl, ?_⟩
    simp [List.take_of_length_le]

-- slices.Index[[]int,int]
theorem indexInt_ctr (l : List Int) (x : Int) (hl : l.length ≤ maxLen) : Ctr Go.Proofs.Try.prog tab 65 [23, 3] [3] [.list (l.map V.int), .int x] [.int (findI x l)] := by
  refine Ctr.body ok Go.Proofs.Try.func65 rfl rfl 19 rfl [.tmp 4] rfl (by simp [fromVs]) ?_
  simp only [fromVs, fromV, args0, V.toList_list, V.toInt_int, V.toBool_bool, Nat.zero_add, Nat.reduceAdd, ty3, ty23]
  refine SA.seq ?_
  refine SA.region ok (by kernel_rfl) [0, 1] ?_
  intro R r
  simp only [go_sem, strip]
  iterate 1 (refine opsA_cons fun Z q1 => ?_; simp only [go_sem, seval, -List.reduceReplicate]; (repeat' with_reducible refine And.intro ?_ ?_); all_goals first | (refine q1 _ ?_; clear q1 Z) | omega | rfl | decide | assumption | (intro _; omega) | (simp; done) | (simp; omega))
  refine opsA_nil (r _ ?_)
  clear r R
  try simp only [go_sem, Nat.reduceBEq]
  refine thenK.normal (SA.seq ?_)
  refine SA.seq ?_
  refine SA.region ok (by kernel_rfl) [0, 1, 7, 8] ?_
  intro R r
  simp only [go_sem, strip]
  iterate 3 (refine opsA_cons fun Z q1 => ?_; simp only [go_sem, seval, -List.reduceReplicate]; (repeat' with_reducible refine And.intro ?_ ?_); all_goals first | (refine q1 _ ?_; clear q1 Z) | omega | rfl | decide | assumption | (intro _; omega) | (simp; done) | (simp; omega) | (simp [roomFor, maxLen, by39, by3, by68, by70, by23] <;> omega))
  refine opsA_nil (r _ ?_)
  clear r R
  try simp only [go_sem, Nat.reduceBEq]
  refine thenK.normal (SA.block ?_)
  refine SA.weaken (St.le.of_eq (by first | rfl | simp)) (SA.loop (fun n τ => ∃ (i : Nat), n = l.length - i ∧ (i ≤ l.length ∧ (l.take i).any (fun y => decide (x = y)) = false) ∧ τ = { tm := [(0, true, .fs 3 (l.map V.int) false), (1, true, .int .i64 x), (7, true, .int .i64 l.length), (8, true, .int .i64 i)], ob := [], out := [], nt := 19 }) (l.length) ⟨0, rfl, ⟨Nat.zero_le _, rfl⟩, rfl⟩ ?_)
  rintro n τ ⟨i, hn, ⟨hi, hc⟩, rfl⟩
  refine SA.seq ?_
  refine SA.region ok (by kernel_rfl) [0, 1, 7, 8, 9] ?_
  intro R r
  simp only [go_sem, strip]
  iterate 1 (refine opsA_cons fun Z q1 => ?_; simp only [go_sem, seval, -List.reduceReplicate]; (repeat' with_reducible refine And.intro ?_ ?_); all_goals first | (refine q1 _ ?_; clear q1 Z) | omega | rfl | decide | assumption | (intro _; omega) | (simp; done) | (simp; omega))
  refine opsA_nil (r _ ?_)
  clear r R
  try simp only [go_sem, Nat.reduceBEq]
  refine thenK.normal (SA.seq ?_)
  refine SA.cond rfl ?_ ?_
  · intro hb1
    simp only [decide_eq_true_eq, decide_eq_false_iff_not, Int.not_lt, Int.not_le] at hb1
    refine SA.skip ?_
    refine thenK.normal (SA.seq ?_)
    refine SA.block ?_
    refine SA.seq ?_
    refine SA.region ok (by kernel_rfl) [0, 1, 5, 7, 8] ?_
    intro R r
    simp only [go_sem, strip]
    iterate 2 (refine opsA_cons fun Z q1 => ?_; simp only [go_sem, seval, -List.reduceReplicate]; (repeat' with_reducible refine And.intro ?_ ?_); all_goals first | (refine q1 _ ?_; clear q1 Z) | omega | rfl | decide | assumption | (intro _; omega) | (simp; done) | (simp; omega))
    refine opsA_nil (r _ ?_)
    clear r R
    try simp only [go_sem, Nat.reduceBEq]
    refine thenK.normal (SA.seq ?_)
    have hlt : i < l.length := by omega
    refine SA.region ok (by kernel_rfl) [0, 1, 5, 7, 8, 16] ?_
    intro R r
    simp only [go_sem, strip]
    iterate 6 (refine opsA_cons fun Z q1 => ?_; simp only [go_sem, seval, -List.reduceReplicate, getD_map V.int l hlt]; (repeat' with_reducible refine And.intro ?_ ?_); all_goals first | (refine q1 _ ?_; clear q1 Z) | omega | rfl | decide | assumption | (intro _; omega) | (simp; done) | (simp; omega))
    refine opsA_nil (r _ ?_)
    clear r R
    try simp only [go_sem, Nat.reduceBEq]
    refine thenK.normal ?_
    refine SA.cond rfl ?_ ?_
    · intro hb2
      simp only [decide_eq_true_eq, decide_eq_false_iff_not, Int.not_lt, Int.not_le] at hb2
      refine SA.seq ?_
      refine SA.region ok (by kernel_rfl) [4] ?_
      intro R r
      simp only [go_sem, strip]
      iterate 2 (refine opsA_cons fun Z q1 => ?_; simp only [go_sem, seval, -List.reduceReplicate]; (repeat' with_reducible refine And.intro ?_ ?_); all_goals first | (refine q1 _ ?_; clear q1 Z) | omega | rfl | decide | assumption | (intro _; omega) | (simp; done) | (simp; omega))
      refine opsA_nil (r _ ?_)
      clear r R
      try simp only [go_sem, Nat.reduceBEq]
      refine thenK.normal (SA.ret ?_)
      refine blockK.ret ?_
      refine thenK.ret ?_
      refine loopK.ret ?_
      refine blockK.ret ?_
      refine thenK.ret ?_
      refine ctrK.ret ?_
      simp only [resA, evalO, resV, backK, outE, toV, ty4, ty3, List.lookup_cons, List.lookup_nil, beq_self_eq_true, forall_const, true_and, and_true]
      refine ⟨rfl, ?_⟩
      simp only [if_true, Option.some.injEq, V.int.injEq]
      exact (findI_hit hlt hc hb2).symm
    · intro hb2
      simp only [decide_eq_true_eq, decide_eq_false_iff_not, Int.not_lt, Int.not_le] at hb2
      refine SA.skip ?_
      refine blockK.normal (thenK.normal ?_)
      refine SA.region ok (by kernel_rfl) [0, 1, 7, 8] ?_
      intro R r
      simp only [go_sem, strip]
      iterate 2 (refine opsA_cons fun Z q1 => ?_; simp only [go_sem, seval, -List.reduceReplicate]; (repeat' with_reducible refine And.intro ?_ ?_); all_goals first | (refine q1 _ ?_; clear q1 Z) | omega | rfl | decide | assumption | (intro _; omega) | (simp; done) | (simp; omega))
      refine opsA_nil (r _ ?_)
      clear r R
      try simp only [go_sem, Nat.reduceBEq]
      refine loopK.normal (l.length - (i + 1)) _ (by omega) (St.le.of_eq (by rw [wrap_succ hlt hl])) ⟨i + 1, rfl, ⟨hlt, ?_⟩, rfl⟩
      rw [any_take _ l hlt, hc, decide_eq_false hb2]; rfl
  · intro hb1
    simp only [decide_eq_true_eq, decide_eq_false_iff_not, Int.not_lt, Int.not_le] at hb1
    refine SA.exit ?_
    refine thenK.exit ?_
    refine loopK.exit ?_
    refine blockK.hit ?_
    refine thenK.normal (SA.seq ?_)
    refine SA.region ok (by kernel_rfl) [4] ?_
    intro R r
    simp only [go_sem, strip]
    iterate 1 (refine opsA_cons fun Z q1 => ?_; simp only [go_sem, seval, -List.reduceReplicate]; (repeat' with_reducible refine And.intro ?_ ?_); all_goals first | (refine q1 _ ?_; clear q1 Z) | omega | rfl | decide | assumption | (intro _; omega) | (simp; done) | (simp; omega))
    refine opsA_nil (r _ ?_)
    clear r R
    try simp only [go_sem, Nat.reduceBEq]
    refine thenK.normal (SA.ret ?_)
    refine ctrK.ret ?_
    simp only [resA, evalO, resV, backK, outE, toV, ty4, ty3, List.lookup_cons, List.lookup_nil, beq_self_eq_true, forall_const, true_and, and_true]
    have : i = l.length := by omega
    subst this
    rw [List.take_length] at hc
    refine ⟨rfl, ?_⟩
    simp only [if_true, Option.some.injEq, V.int.injEq]
    exact (findI_miss hc).symm

-- slices.Contains[[]int,int]
theorem containsInt_ctr (l : List Int) (x : Int) (hl : l.length ≤ maxLen) : Ctr Go.Proofs.Try.prog tab 48 [23, 3] [4] [.list (l.map V.int), .int x] [.bool (l.contains x)] := by
  refine Ctr.body ok Go.Proofs.Try.func48 rfl rfl 9 rfl [.tmp 4] rfl (by simp [fromVs]) ?_
  simp only [fromVs, fromV, args0, V.toList_list, V.toInt_int, V.toBool_bool, Nat.zero_add, Nat.reduceAdd, ty3, ty23]
  refine SA.seq ?_
  refine SA.region ok (by kernel_rfl) [0, 1] ?_
  intro R r
  simp only [go_sem, strip]
  iterate 1 (refine opsA_cons fun Z q1 => ?_; simp only [go_sem, seval, -List.reduceReplicate]; (repeat' with_reducible refine And.intro ?_ ?_); all_goals first | (refine q1 _ ?_; clear q1 Z) | omega | rfl | decide | assumption | (intro _; omega) | (simp; done) | (simp; omega))
  refine opsA_nil (r _ ?_)
  clear r R
  try simp only [go_sem, Nat.reduceBEq]
  refine thenK.normal (SA.seq ?_)
  refine SA.region ok (by kernel_rfl) [4] ?_
  intro R r
  simp only [go_sem, strip]
  iterate 2 (refine opsA_cons fun Z q1 => ?_; simp only [go_sem, seval, -List.reduceReplicate]; (repeat' with_reducible refine And.intro ?_ ?_); all_goals first | (refine q1 _ ?_; clear q1 Z) | omega | rfl | decide | assumption | (intro _; omega) | (simp; done) | (simp; omega) | (simp [roomFor, maxLen, by39, by3, by68, by70, by23] <;> omega))
  refine opsA_cons fun Z q1 => ?_
  simp only [go_sem, seval, -List.reduceReplicate]
  repeat' with_reducible refine And.intro ?_ ?_
  all_goals try (first | omega | assumption | (intro _; omega))
  first | refine ⟨_, _, rfl, .inl ⟨_, CallQ.ctr ok (indexInt_ctr l x hl) (by first | rfl | (simp [argsV, toVs, contentV, toV, capsV, capsE, ty22, ty25, ty3, ty4, ty81, ty39, ty40, ty42, ty37, ty2, ty23, ty24, ty46, ty68, ty65, ty70, ty69, ty90, ty77, ty59, ty98, ty71, ty93, ty64, ty85, List.length_map, List.take_of_length_le])) rfl, ?_⟩⟩ | refine ⟨_, _, rfl, .inl ⟨_, fun hg => CallQ.ctr ok (indexInt_ctr l x hl) (by first | rfl | (simp [argsV, toVs, contentV, toV, capsV, capsE, ty22, ty25, ty3, ty4, ty81, ty39, ty40, ty42, ty37, ty2, ty23, ty24, ty46, ty68, ty65, ty70, ty69, ty90, ty77, ty59, ty98, ty71, ty93, ty64, ty85, List.length_map, List.take_of_length_le])) rfl, ?_⟩⟩
  simp only [go_sem, seval, -List.reduceReplicate]
  repeat' with_reducible refine And.intro ?_ ?_
  all_goals first | (refine q1 _ ?_; clear q1 Z) | omega | rfl | decide | assumption | (intro _; omega) | (simp; done) | (simp; omega) | (simp [roomFor, maxLen, by39, by3, by68, by70, by23] <;> omega)
  iterate 2 (refine opsA_cons fun Z q1 => ?_; simp only [go_sem, seval, -List.reduceReplicate]; (repeat' with_reducible refine And.intro ?_ ?_); all_goals first | (refine q1 _ ?_; clear q1 Z) | omega | rfl | decide | assumption | (intro _; omega) | (simp; done) | (simp; omega) | (simp [roomFor, maxLen, by39, by3, by68, by70, by23] <;> omega))
  refine opsA_nil (r _ ?_)
  clear r R
  try simp only [go_sem, Nat.reduceBEq]
  refine thenK.normal (SA.ret ?_)
  refine ctrK.ret ?_
  simp only [resA, evalO, resV, backK, outE, toV, ty4, ty3, List.lookup_cons, List.lookup_nil, beq_self_eq_true, forall_const, true_and, and_true]
  refine ⟨rfl, ?_⟩
  simp only [if_true, Option.some.injEq, V.bool.injEq]
  exact findI_ge

end Go.Eng.Try
