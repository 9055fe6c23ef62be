/- A part of the proof: walks through the program's functions, and what they compute. -/
import Derived.Test.YtipodgpcbkoopaaE3
import Derived.Test.YtipodgpcbkoopaaM1
import Derived.Test.YtipodgpcbkoopaaE4
import Derived.Test.YtipodgpcbkoopaaGW32
namespace Go.Eng.Try
open Go.RowKit Go.Eng
set_option linter.unusedSimpArgs false
set_option linter.unusedVariables false

theorem picksK_no {ring : List Int} {k : Nat} {e : Kind} {b : Bool} (h : (bif (bif !decide (e.from_ = ring.getD k default) then true else !decide (e.to_ = ring.getD ((k + 1) % ring.length) default)) then true else b) = true) : (picksK ring k e && !b) = false := by
  unfold picksK
  generalize decide (e.from_ = ring.getD k default) = x at h ⊢
  generalize decide (e.to_ = ring.getD ((k + 1) % ring.length) default) = y at h ⊢
  cases x <;> cases y <;> cases b <;> first | rfl | cases h
theorem picksK_yes {ring : List Int} {k : Nat} {e : Kind} {b : Bool} (h : (bif (bif !decide (e.from_ = ring.getD k default) then true else !decide (e.to_ = ring.getD ((k + 1) % ring.length) default)) then true else b) = false) : (picksK ring k e && !b) = true := by
  unfold picksK
  generalize decide (e.from_ = ring.getD k default) = x at h ⊢
  generalize decide (e.to_ = ring.getD ((k + 1) % ring.length) default) = y at h ⊢
  cases x <;> cases y <;> cases b <;> first | rfl | cases h
def mergeTo (a b : List Bool) (n : Nat) : List Bool := (List.range n).map (fun n => a.getD n default || b.getD n default) ++ a.drop n
theorem mergeTo_zero (a b : List Bool) : mergeTo a b 0 = a := by simp [mergeTo]
theorem mergeTo_four {a b : List Bool} (h : a.length = 4) : mergeTo a b 4 = merge a b := by unfold mergeTo merge; rw [List.drop_eq_nil_of_le (by omega), List.append_nil]
theorem mergeTo_succ {a b : List Bool} {n : Nat} (h : n < a.length) : (mergeTo a b n).set n (a.getD n default || b.getD n default) = mergeTo a b (n + 1) := by
  unfold mergeTo
  rw [List.range_succ, List.map_append, List.set_append_right _ _ (by simp)]
  simp only [List.length_map, List.length_range, Nat.sub_self, List.append_assoc]
  congr 1
  rw [List.drop_eq_getElem_cons h, List.set_cons_zero]
  simp
theorem merge_len (a b : List Bool) : (merge a b).length = 4 := by simp [merge]
def bodyK (l : List Kind) (ring : List Int) (ap : Bool) (m p : Nat) (taken locks : List Bool) (k : Kind) : Bool := picksK ring p k && !taken.getD k.g.toNat default && !(ap && meets locks k.held) && closes l ring ap m (p + 1) (taken.set k.g.toNat true) (merge locks k.held)

attribute [local go_sem] argsV contentV fromVs Option.getD_some St.keep List.filterMap_cons List.filterMap_nil Option.map_some Option.map_none opG opQ opB newEs outE CallStepB guardA putK putE pureA evalO evalL constE pickA capsE capsV loadA fieldAddrA indexAddrA indexA sliceA evalOptI builtinA binA plainA shiftA eqA nilA arith shifts effA storeA appendA appB freshA St.kill Tm.kill E.kill E.killL Obj.kill elemsOf evalVs buildA okAt toV fromV zeroE V.get V.put V.sub V.setSub args0 CallStep CallStepQ i64min i64max u64min u64max u32min u32max u8min u8max Nat.zero_add List.length_map List.lookup_cons List.lookup_nil List.getElem?_cons_zero List.getElem?_cons_succ List.getElem?_toArray List.getElem?_nil Option.bind_some Option.bind_none List.size_toArray List.length_cons List.length_nil List.nil_append List.append_nil List.cons_append List.getD_cons_zero List.getD_cons_succ List.map_cons List.map_nil List.set_cons_zero List.set_cons_succ true_and and_true forall_const true_implies Bool.true_and Bool.and_true Bool.not_true Bool.not_false Bool.false_and Bool.and_false beq_self_eq_true Bool.true_beq Bool.false_beq beq_true beq_false eq_self false_implies V.toInt_int V.toBool_bool V.toList_list V.toList_agg V.toStr_str V.deref_ref if_true if_false Bool.false_eq_true Option.isSome_none Option.isSome_some Bool.false_or Bool.true_or Bool.or_false Bool.or_true cond_true cond_false implies_true and_self imp_self ty22 ty25 ty3 ty4 ty81 ty39 ty40 ty42 ty37 ty2 ty23 ty24 ty46 ty68 ty65 ty70 ty69 ty90 ty77 ty59 ty100 ty75 ty98 ty71 ty93 ty64 ty85 concat_at List.length_range zero39 z39 z3 z4 z70 z68 z42 z40 z37 z2 zero40 z69 z90 zero70 zero69 zero90 zero68 zero42 Int.toNat_natCast Int.natCast_zero Event.v0 Event.v3 Event.v5 Event.v7 Event.v8 Access.v0 Access.v1 Access.v2 beq_acc Edge.v0 Edge.v1 Edge.v2 Edge.v3 heldOf_len locksTo_len heldsTo_len nowL_len ringsV_len Kind.v0 Kind.v1 Kind.v2 Kind.v3 beq_kind z100 zero100
set_option maxHeartbeats 4000000 in
theorem closes_step (l : List Kind) (hll : l.length ≤ 100000) (hgo : ∀ k ∈ l, 0 ≤ k.g ∧ k.g < 6 ∧ k.held.length = 4) (ring : List Int) (hrl : ring.length ≤ 100) (ap : Bool) (n p : Nat) (taken locks : List Bool) (hn : p + n = ring.length) (ht6 : taken.length = 6) (hl4 : locks.length = 4) (ih : ∀ m taken' locks', m + 1 = n → taken'.length = 6 → locks'.length = 4 → Ctr Go.Proofs.Try.prog tab 34 [75, 23, 3, 77, 69, 4] [4] [.list (l.map Kind.v), .list (ring.map V.int), .int ((p + 1) : Nat), .agg (taken'.map V.bool), .agg (locks'.map V.bool), .bool ap] [.bool (closes l ring ap m (p + 1) taken' locks')]) : Ctr Go.Proofs.Try.prog tab 34 [75, 23, 3, 77, 69, 4] [4] [.list (l.map Kind.v), .list (ring.map V.int), .int (p : Nat), .agg (taken.map V.bool), .agg (locks.map V.bool), .bool ap] [.bool (closes l ring ap n p taken locks)] := by
  have hrm : ring.length ≤ maxLen := Nat.le_trans hrl (by decide)
  have hlm : l.length ≤ maxLen := Nat.le_trans hll (by decide)
  refine Ctr.body ok Go.Proofs.Try.func34 rfl rfl 100 rfl [.tmp 12] rfl (by simp [fromVs]) ?_
  simp only [fromVs, fromV, args0, V.toList_list, V.toInt_int, V.toBool_bool, Nat.zero_add, Nat.reduceAdd, ty3, ty4, ty23, ty69, ty75, ty77]
  refine SA.seq ?_
  refine SA.region ok (by kernel_rfl) [0, 1, 2, 5, 9, 10] ?_
  intro R r
  simp only [go_sem, strip]
  iterate 3 (refine opsA_cons fun Z q1 => ?_; simp only [go_sem, seval, -List.reduceReplicate]; (repeat' with_reducible refine And.intro ?_ ?_); all_goals first | (refine q1 _ ?_; clear q1 Z) | omega | rfl | decide | assumption | (intro _; omega) | (simp [roomFor, maxLen, by39, by3, by68, by70, by23, by100] <;> omega))
  refine opsA_nil (r _ ?_)
  clear r R
  try simp only [go_sem, Nat.reduceBEq]
  refine thenK.normal (SA.seq ?_)
  refine SA.seq ?_
  refine SA.region ok (by kernel_rfl) [0, 1, 2, 5, 9, 10, 22] ?_
  intro R r
  simp only [go_sem, strip]
  iterate 4 (refine opsA_cons fun Z q1 => ?_; simp only [go_sem, seval, -List.reduceReplicate]; (repeat' with_reducible refine And.intro ?_ ?_); all_goals first | (refine q1 _ ?_; clear q1 Z) | omega | rfl | decide | assumption | (intro _; omega) | (simp [roomFor, maxLen, by39, by3, by68, by70, by23, by100] <;> omega))
  refine opsA_nil (r _ ?_)
  clear r R
  try simp only [go_sem, Nat.reduceBEq]
  refine thenK.normal ?_
  refine SA.cond rfl ?_ ?_
  · intro hb1
    simp only [decide_eq_true_eq, decide_eq_false_iff_not, Int.not_lt, Int.not_le] at hb1
    refine SA.seq ?_
    refine SA.region ok (by kernel_rfl) [12] ?_
    intro R r
    simp only [go_sem, strip]
    iterate 1 (refine opsA_cons fun Z q1 => ?_; simp only [go_sem, seval, -List.reduceReplicate]; (repeat' with_reducible refine And.intro ?_ ?_); all_goals first | (refine q1 _ ?_; clear q1 Z) | omega | rfl | decide | assumption | (intro _; omega) | (simp [roomFor, maxLen, by39, by3, by68, by70, by23, by100] <;> omega))
    refine opsA_nil (r _ ?_)
    clear r R
    try simp only [go_sem, Nat.reduceBEq]
    refine thenK.normal (SA.ret ?_)
    refine thenK.ret ?_
    refine ctrK.ret ?_
    simp only [resA, evalO, resV, backK, outE, toV, ty4, ty3, List.lookup_cons, List.lookup_nil, beq_self_eq_true, forall_const, true_and, and_true]
    have : n = 0 := by omega
    subst this
    exact ⟨rfl, rfl⟩
  · intro hb1
    simp only [decide_eq_false_iff_not] at hb1
    obtain ⟨m, rfl⟩ : ∃ m, n = m + 1 := ⟨n - 1, by omega⟩
    have hk1 : p < ring.length := by omega
    have hmod : (p + 1) % ring.length < ring.length := Nat.mod_lt _ (by omega)
    refine SA.skip ?_
    refine thenK.normal (SA.seq ?_)
    refine SA.seq ?_
    refine SA.region ok (by kernel_rfl) [0, 1, 2, 5, 9, 10, 23, 24, 25] ?_
    intro R r
    simp only [go_sem, strip]
    iterate 3 (refine opsA_cons fun Z q1 => ?_; simp only [go_sem, seval, -List.reduceReplicate]; (repeat' with_reducible refine And.intro ?_ ?_); all_goals first | (refine q1 _ ?_; clear q1 Z) | omega | rfl | decide | assumption | (intro _; omega) | (simp [roomFor, maxLen, by39, by3, by68, by70, by23, by100] <;> omega))
    refine opsA_nil (r _ ?_)
    clear r R
    try simp only [go_sem, Nat.reduceBEq]
    refine thenK.normal (SA.block ?_)
    refine SA.weaken (St.le.of_eq (by first | rfl | simp)) (SA.loop (fun n τ => ∃ (i : Nat), n = l.length - i ∧ (i ≤ l.length ∧ (l.take i).any (bodyK l ring ap m p taken locks) = false) ∧ τ = { tm := [(0, true, .fs 100 (l.map Kind.v) false), (1, true, .fs 3 (ring.map V.int) false), (2, true, .int .i64 p), (5, true, .bool ap), (9, true, .ptr 0 [] 77), (10, true, .ptr 1 [] 69), (23, true, .fs 100 (l.map Kind.v) false), (24, true, .int .i64 l.length), (25, true, .int .i64 i)], ob := [.var 77 (.data 77 (.agg (taken.map V.bool))), .var 69 (.data 69 (.agg (locks.map V.bool)))], out := [], nt := 100 }) (l.length) ⟨0, rfl, ⟨Nat.zero_le _, rfl⟩, rfl⟩ ?_)
    rintro n τ ⟨i, hn, ⟨hi, hc⟩, rfl⟩
    refine SA.seq ?_
    refine SA.region ok (by kernel_rfl) [0, 1, 2, 5, 9, 10, 23, 24, 25, 26] ?_
    intro R r
    simp only [go_sem, strip]
    iterate 1 (refine opsA_cons fun Z q1 => ?_; simp only [go_sem, seval, -List.reduceReplicate]; (repeat' with_reducible refine And.intro ?_ ?_); all_goals first | (refine q1 _ ?_; clear q1 Z) | omega | rfl | decide | assumption | (intro _; omega) | (simp [roomFor, maxLen, by39, by3, by68, by70, by23, by100] <;> omega))
    refine opsA_nil (r _ ?_)
    clear r R
    try simp only [go_sem, Nat.reduceBEq]
    refine thenK.normal (SA.seq ?_)
    refine SA.cond rfl ?_ ?_
    · intro hb2
      simp only [decide_eq_true_eq, decide_eq_false_iff_not, Int.not_lt, Int.not_le] at hb2
      refine SA.skip ?_
      refine thenK.normal (SA.seq ?_)
      refine SA.block ?_
      refine SA.seq ?_
      have hlt : i < l.length := by omega
      have hmem := getD_mem l hlt
      have hg := hgo _ hmem
      have hg0 := hg.1
      have hg6 := hg.2.1
      have hgt : (l.getD i default).g.toNat < taken.length := by omega
      refine SA.region ok (by kernel_rfl) [0, 1, 2, 5, 9, 10, 14, 23, 24, 25] ?_
      intro R r
      simp only [go_sem, strip]
      iterate 4 (refine opsA_cons fun Z q1 => ?_; simp only [go_sem, seval, -List.reduceReplicate, getD_map Kind.v l hlt]; (repeat' with_reducible refine And.intro ?_ ?_); all_goals first | (refine q1 _ ?_; clear q1 Z) | omega | rfl | decide | assumption | (intro _; omega) | (simp [roomFor, maxLen, by39, by3, by68, by70, by23, by100] <;> omega))
      refine opsA_nil (r _ ?_)
      clear r R
      try simp only [go_sem, Nat.reduceBEq]
      refine thenK.normal (SA.seq ?_)
      refine SA.seq ?_
      refine SA.regionQ ok mixed (by kernel_rfl) (by kernel_rfl) [0, 1, 2, 5, 9, 10, 14, 23, 24, 25, 54] ?_
      intro R r
      simp only [go_sem, strip]
      iterate 26 (refine opsQ_cons fun Z q1 => ?_; simp only [go_sem, seval, -List.reduceReplicate, wrap_succ hk1 hrm, tmod_nat, getD_map V.int ring hk1, getD_map V.int ring hmod, getD_map V.bool taken hgt]; (repeat' with_reducible refine And.intro ?_ ?_); all_goals first | (refine q1 _ ?_; clear q1 Z) | omega | rfl | decide | assumption | (intro _; omega) | (simp [roomFor, maxLen, by39, by3, by68, by70, by23, by100] <;> omega))
      refine opsQ_nil (r _ ?_)
      clear r R
      try simp only [go_sem, Nat.reduceBEq]
      refine thenK.normal ?_
      refine SA.cond rfl ?_ ?_
      · intro hb3
        have hpk := picksK_no hb3
        refine SA.exit ?_
        refine thenK.exit ?_
        refine blockK.hit ?_
        refine thenK.normal ?_
        refine SA.region ok (by kernel_rfl) [0, 1, 2, 5, 9, 10, 23, 24, 25] ?_
        intro R r
        simp only [go_sem, strip]
        iterate 2 (refine opsA_cons fun Z q1 => ?_; simp only [go_sem, seval, -List.reduceReplicate]; (repeat' with_reducible refine And.intro ?_ ?_); all_goals first | (refine q1 _ ?_; clear q1 Z) | omega | rfl | decide | assumption | (intro _; omega) | (simp [roomFor, maxLen, by39, by3, by68, by70, by23, by100] <;> omega))
        refine opsA_nil (r _ ?_)
        clear r R
        try simp only [go_sem, Nat.reduceBEq]
        have hbd : bodyK l ring ap m p taken locks (l.getD i default) = false := by unfold bodyK; rw [hpk]; rfl
        refine loopK.normal (l.length - (i + 1)) _ (by omega) ((St.le.cut 2 rfl).trans (St.le.of_eq (by rw [wrap_succ hlt hlm]; rfl))) ⟨i + 1, rfl, ⟨hlt, ?_⟩, rfl⟩
        rw [any_take _ l hlt, hc, hbd]; rfl
      · intro hb3
        have hpk := picksK_yes hb3
        refine SA.skip ?_
        refine thenK.normal (SA.seq ?_)
        refine SA.region ok (by kernel_rfl) [0, 1, 2, 5, 9, 10, 14, 15, 23, 24, 25] ?_
        intro R r
        simp only [go_sem, strip]
        iterate 3 (refine opsA_cons fun Z q1 => ?_; simp only [go_sem, seval, -List.reduceReplicate]; (repeat' with_reducible refine And.intro ?_ ?_); all_goals first | (refine q1 _ ?_; clear q1 Z) | omega | rfl | decide | assumption | (intro _; omega) | (simp [roomFor, maxLen, by39, by3, by68, by70, by23, by100] <;> omega))
        refine opsA_nil (r _ ?_)
        clear r R
        try simp only [go_sem, Nat.reduceBEq]
        refine thenK.normal (SA.seq ?_)
        refine SA.region ok (by kernel_rfl) [0, 1, 2, 5, 9, 10, 14, 15, 16, 23, 24, 25] ?_
        intro R r
        simp only [go_sem, strip]
        iterate 1 (refine opsA_cons fun Z q1 => ?_; simp only [go_sem, seval, -List.reduceReplicate]; (repeat' with_reducible refine And.intro ?_ ?_); all_goals first | (refine q1 _ ?_; clear q1 Z) | omega | rfl | decide | assumption | (intro _; omega) | (simp [roomFor, maxLen, by39, by3, by68, by70, by23, by100] <;> omega))
        refine opsA_nil (r _ ?_)
        clear r R
        try simp only [go_sem, Nat.reduceBEq]
        refine thenK.normal (SA.seq ?_)
        refine SA.seq ?_
        refine SA.region ok (by kernel_rfl) [0, 1, 2, 5, 9, 10, 14, 15, 16, 23, 24, 25, 56] ?_
        intro R r
        simp only [go_sem, strip]
        iterate 1 (refine opsA_cons fun Z q1 => ?_; simp only [go_sem, seval, -List.reduceReplicate]; (repeat' with_reducible refine And.intro ?_ ?_); all_goals first | (refine q1 _ ?_; clear q1 Z) | omega | rfl | decide | assumption | (intro _; omega) | (simp [roomFor, maxLen, by39, by3, by68, by70, by23, by100] <;> omega))
        refine opsA_nil (r _ ?_)
        clear r R
        try simp only [go_sem, Nat.reduceBEq]
        refine thenK.normal (SA.block ?_)
        refine SA.weaken (St.le.of_eq (by rw [mergeTo_zero]; rfl)) (SA.loop (fun n τ => ∃ (q : Nat), n = 4 - q ∧ (q ≤ 4) ∧ τ = { tm := [(0, true, .fs 100 (l.map Kind.v) false), (1, true, .fs 3 (ring.map V.int) false), (2, true, .int .i64 p), (5, true, .bool ap), (9, true, .ptr 0 [] 77), (10, true, .ptr 1 [] 69), (14, true, .ptr 2 [] 100), (15, true, .ptr 3 [] 69), (16, true, .bool ((List.range q).any fun n => locks.getD n default && (l.getD i default).held.getD n default)), (23, true, .fs 100 (l.map Kind.v) false), (24, true, .int .i64 l.length), (25, true, .int .i64 i), (56, true, .int .i64 q)], ob := [.var 77 (.data 77 (.agg (taken.map V.bool))), .var 69 (.data 69 (.agg (locks.map V.bool))), .var 100 (.data 100 (l.getD i default).v), .var 69 (.data 69 (.agg ((mergeTo locks (l.getD i default).held q).map V.bool)))], out := [], nt := 100 }) (4) ⟨0, rfl, by omega, rfl⟩ ?_)
        rintro n τ ⟨q, hn, hq4, rfl⟩
        refine SA.seq ?_
        refine SA.region ok (by kernel_rfl) [0, 1, 2, 5, 9, 10, 14, 15, 16, 23, 24, 25, 56, 57] ?_
        intro R r
        simp only [go_sem, strip]
        iterate 1 (refine opsA_cons fun Z q1 => ?_; simp only [go_sem, seval, -List.reduceReplicate]; (repeat' with_reducible refine And.intro ?_ ?_); all_goals first | (refine q1 _ ?_; clear q1 Z) | omega | rfl | decide | assumption | (intro _; omega) | (simp [roomFor, maxLen, by39, by3, by68, by70, by23, by100] <;> omega))
        refine opsA_nil (r _ ?_)
        clear r R
        try simp only [go_sem, Nat.reduceBEq]
        refine thenK.normal (SA.seq ?_)
        refine SA.cond rfl ?_ ?_
        · intro hb4
          simp only [decide_eq_true_eq, decide_eq_false_iff_not, Int.not_lt, Int.not_le] at hb4
          refine SA.skip ?_
          refine thenK.normal (SA.seq ?_)
          refine SA.block ?_
          refine SA.seq ?_
          refine SA.region ok (by kernel_rfl) [0, 1, 2, 5, 9, 10, 14, 15, 16, 17, 23, 24, 25, 56] ?_
          intro R r
          simp only [go_sem, strip]
          iterate 2 (refine opsA_cons fun Z q1 => ?_; simp only [go_sem, seval, -List.reduceReplicate]; (repeat' with_reducible refine And.intro ?_ ?_); all_goals first | (refine q1 _ ?_; clear q1 Z) | omega | rfl | decide | assumption | (intro _; omega) | (simp [roomFor, maxLen, by39, by3, by68, by70, by23, by100] <;> omega))
          refine opsA_nil (r _ ?_)
          clear r R
          try simp only [go_sem, Nat.reduceBEq]
          refine thenK.normal (SA.seq ?_)
          have hq1 : q < locks.length := by omega
          have hq2 : q < (l.getD i default).held.length := by omega
          refine SA.region ok (by kernel_rfl) [0, 1, 2, 5, 9, 10, 14, 15, 16, 17, 23, 24, 25, 56] ?_
          intro R r
          simp only [go_sem, strip]
          iterate 13 (refine opsA_cons fun Z q1 => ?_; simp only [go_sem, seval, -List.reduceReplicate, getD_map V.bool locks hq1, getD_map V.bool (l.getD i default).held hq2]; (repeat' with_reducible refine And.intro ?_ ?_); all_goals first | (refine q1 _ ?_; clear q1 Z) | omega | rfl | decide | assumption | (intro _; omega) | (simp [roomFor, maxLen, by39, by3, by68, by70, by23, by100] <;> omega))
          refine opsA_nil (r _ ?_)
          clear r R
          try simp only [go_sem, Nat.reduceBEq]
          refine thenK.normal ?_
          refine SA.region ok (by kernel_rfl) [0, 1, 2, 5, 9, 10, 14, 15, 16, 23, 24, 25, 56] ?_
          intro R r
          simp only [go_sem, strip]
          iterate 12 (refine opsA_cons fun Z q1 => ?_; simp only [go_sem, seval, -List.reduceReplicate, getD_map V.bool locks hq1, getD_map V.bool (l.getD i default).held hq2]; (repeat' with_reducible refine And.intro ?_ ?_); all_goals first | (refine q1 _ ?_; clear q1 Z) | omega | rfl | decide | assumption | (intro _; omega) | (simp [roomFor, maxLen, by39, by3, by68, by70, by23, by100] <;> omega))
          refine opsA_nil (r _ ?_)
          clear r R
          try simp only [go_sem, Nat.reduceBEq]
          refine blockK.normal (thenK.normal ?_)
          refine SA.region ok (by kernel_rfl) [0, 1, 2, 5, 9, 10, 14, 15, 16, 23, 24, 25, 56] ?_
          intro R r
          simp only [go_sem, strip]
          iterate 2 (refine opsA_cons fun Z q1 => ?_; simp only [go_sem, seval, -List.reduceReplicate]; (repeat' with_reducible refine And.intro ?_ ?_); all_goals first | (refine q1 _ ?_; clear q1 Z) | omega | rfl | decide | assumption | (intro _; omega) | (simp [roomFor, maxLen, by39, by3, by68, by70, by23, by100] <;> omega))
          refine opsA_nil (r _ ?_)
          clear r R
          try simp only [go_sem, Nat.reduceBEq]
          have e1 : (bif (List.range q).any (fun n => locks.getD n default && (l.getD i default).held.getD n default) then true else bif locks.getD q default then (l.getD i default).held.getD q default else false) = (List.range (q + 1)).any fun n => locks.getD n default && (l.getD i default).held.getD n default := by
            rw [any_range_succ]
            cases (List.range q).any (fun n => locks.getD n default && (l.getD i default).held.getD n default) <;> cases locks.getD q default <;> rfl
          have e2 : ((mergeTo locks (l.getD i default).held q).map V.bool).set q (V.bool (bif locks.getD q default then true else (l.getD i default).held.getD q default)) = (mergeTo locks (l.getD i default).held (q + 1)).map V.bool := by
            rw [← mergeTo_succ hq1, List.map_set, Bool.cond_true_left]
          refine loopK.normal (4 - (q + 1)) _ (by omega) (St.le.of_eq (by rw [e1, e2, wrap_succ (show q < 4 by omega) (by decide)])) ⟨q + 1, rfl, by omega, rfl⟩
        · intro hb4
          simp only [decide_eq_true_eq, decide_eq_false_iff_not, Int.not_lt, Int.not_le] at hb4
          refine SA.exit ?_
          refine thenK.exit ?_
          refine loopK.exit ?_
          refine blockK.hit ?_
          refine thenK.normal (SA.seq ?_)
          refine SA.seq ?_
          have hqq : q = 4 := by omega
          subst hqq
          rw [mergeTo_four hl4]
          refine SA.region ok (by kernel_rfl) [0, 1, 2, 5, 9, 10, 14, 15, 23, 24, 25, 86] ?_
          intro R r
          simp only [go_sem, strip]
          iterate 4 (refine opsA_cons fun Z q1 => ?_; simp only [go_sem, seval, -List.reduceReplicate]; (repeat' with_reducible refine And.intro ?_ ?_); all_goals first | (refine q1 _ ?_; clear q1 Z) | omega | rfl | decide | assumption | (intro _; omega) | (simp [roomFor, maxLen, by39, by3, by68, by70, by23, by100] <;> omega))
          refine opsA_nil (r _ ?_)
          clear r R
          try simp only [go_sem, Nat.reduceBEq]
          refine thenK.normal ?_
          refine SA.cond rfl ?_ ?_
          · intro hb5
            skip
            refine SA.exit ?_
            refine thenK.exit ?_
            refine blockK.hit ?_
            refine thenK.normal ?_
            refine SA.region ok (by kernel_rfl) [0, 1, 2, 5, 9, 10, 23, 24, 25] ?_
            intro R r
            simp only [go_sem, strip]
            iterate 2 (refine opsA_cons fun Z q1 => ?_; simp only [go_sem, seval, -List.reduceReplicate]; (repeat' with_reducible refine And.intro ?_ ?_); all_goals first | (refine q1 _ ?_; clear q1 Z) | omega | rfl | decide | assumption | (intro _; omega) | (simp [roomFor, maxLen, by39, by3, by68, by70, by23, by100] <;> omega))
            refine opsA_nil (r _ ?_)
            clear r R
            try simp only [go_sem, Nat.reduceBEq]
            have hap : (ap && meets locks (l.getD i default).held) = true := by
              cases ap with
              | false => cases hb5
              | true => exact hb5
            have hbd : bodyK l ring ap m p taken locks (l.getD i default) = false := by unfold bodyK; rw [hap]; simp
            refine loopK.normal (l.length - (i + 1)) _ (by omega) ((St.le.cut 2 rfl).trans (St.le.of_eq (by rw [wrap_succ hlt hlm]; rfl))) ⟨i + 1, rfl, ⟨hlt, ?_⟩, rfl⟩
            rw [any_take _ l hlt, hc, hbd]; rfl
          · intro hb5
            skip
            refine SA.skip ?_
            refine thenK.normal (SA.seq ?_)
            refine SA.region ok (by kernel_rfl) [0, 1, 2, 5, 9, 10, 14, 15, 18, 23, 24, 25] ?_
            intro R r
            simp only [go_sem, strip]
            iterate 3 (refine opsA_cons fun Z q1 => ?_; simp only [go_sem, seval, -List.reduceReplicate]; (repeat' with_reducible refine And.intro ?_ ?_); all_goals first | (refine q1 _ ?_; clear q1 Z) | omega | rfl | decide | assumption | (intro _; omega) | (simp [roomFor, maxLen, by39, by3, by68, by70, by23, by100] <;> omega))
            refine opsA_nil (r _ ?_)
            clear r R
            try simp only [go_sem, Nat.reduceBEq]
            refine thenK.normal (SA.seq ?_)
            refine SA.region ok (by kernel_rfl) [0, 1, 2, 5, 9, 10, 15, 18, 23, 24, 25] ?_
            intro R r
            simp only [go_sem, strip]
            iterate 4 (refine opsA_cons fun Z q1 => ?_; simp only [go_sem, seval, -List.reduceReplicate]; (repeat' with_reducible refine And.intro ?_ ?_); all_goals first | (refine q1 _ ?_; clear q1 Z) | omega | rfl | decide | assumption | (intro _; omega) | (simp [roomFor, maxLen, by39, by3, by68, by70, by23, by100] <;> omega))
            refine opsA_nil (r _ ?_)
            clear r R
            try simp only [go_sem, Nat.reduceBEq]
            refine thenK.normal (SA.seq ?_)
            refine SA.region ok (by kernel_rfl) [0, 1, 2, 5, 9, 10, 23, 24, 25, 98] ?_
            intro R r
            simp only [go_sem, strip]
            iterate 7 (refine opsA_cons fun Z q1 => ?_; simp only [go_sem, seval, -List.reduceReplicate, wrap_succ hk1 hrm]; (repeat' with_reducible refine And.intro ?_ ?_); all_goals first | (refine q1 _ ?_; clear q1 Z) | omega | rfl | decide | assumption | (intro _; omega) | (simp [roomFor, maxLen, by39, by3, by68, by70, by23, by100] <;> omega))
            refine opsA_cons fun Z q1 => ?_
            simp only [go_sem, seval, -List.reduceReplicate, wrap_succ hk1 hrm]
            repeat' with_reducible refine And.intro ?_ ?_
            all_goals try (first | omega | assumption | (intro _; omega))
            first | refine ⟨_, _, rfl, .inl ⟨_, CallQ.ctr ok (ih m (taken.set (l.getD i default).g.toNat true) (merge locks (l.getD i default).held) rfl (by rw [List.length_set]; exact ht6) (merge_len _ _)) (by first | rfl | (simp [argsV, toVs, contentV, toV, capsV, capsE, ty22, ty25, ty3, ty4, ty81, ty39, ty40, ty42, ty37, ty2, ty23, ty24, ty46, ty68, ty65, ty70, ty69, ty90, ty77, ty59, ty100, ty75, ty98, ty71, ty93, ty64, ty85, List.length_map, List.take_of_length_le])) rfl, ?_⟩⟩ | refine ⟨_, _, rfl, .inl ⟨_, fun hg => CallQ.ctr ok (ih m (taken.set (l.getD i default).g.toNat true) (merge locks (l.getD i default).held) rfl (by rw [List.length_set]; exact ht6) (merge_len _ _)) (by first | rfl | (simp [argsV, toVs, contentV, toV, capsV, capsE, ty22, ty25, ty3, ty4, ty81, ty39, ty40, ty42, ty37, ty2, ty23, ty24, ty46, ty68, ty65, ty70, ty69, ty90, ty77, ty59, ty100, ty75, ty98, ty71, ty93, ty64, ty85, List.length_map, List.take_of_length_le])) rfl, ?_⟩⟩
            simp only [go_sem, seval, -List.reduceReplicate, wrap_succ hk1 hrm]
            repeat' with_reducible refine And.intro ?_ ?_
            all_goals first | (refine q1 _ ?_; clear q1 Z) | omega | rfl | decide | assumption | (intro _; omega) | (simp [roomFor, maxLen, by39, by3, by68, by70, by23, by100] <;> omega)
            refine opsA_nil (r _ ?_)
            clear r R
            try simp only [go_sem, Nat.reduceBEq]
            refine thenK.normal ?_
            refine SA.cond rfl ?_ ?_
            · intro hb6
              skip
              refine SA.seq ?_
              refine SA.region ok (by kernel_rfl) [12] ?_
              intro R r
              simp only [go_sem, strip]
              iterate 1 (refine opsA_cons fun Z q1 => ?_; simp only [go_sem, seval, -List.reduceReplicate]; (repeat' with_reducible refine And.intro ?_ ?_); all_goals first | (refine q1 _ ?_; clear q1 Z) | omega | rfl | decide | assumption | (intro _; omega) | (simp [roomFor, maxLen, by39, by3, by68, by70, by23, by100] <;> omega))
              refine opsA_nil (r _ ?_)
              clear r R
              try simp only [go_sem, Nat.reduceBEq]
              refine thenK.normal (SA.ret ?_)
              refine blockK.ret ?_
              refine thenK.ret ?_
              refine loopK.ret ?_
              refine blockK.ret ?_
              refine thenK.ret ?_
              refine ctrK.ret ?_
              simp only [resA, evalO, resV, backK, outE, toV, ty4, ty3, List.lookup_cons, List.lookup_nil, beq_self_eq_true, forall_const, true_and, and_true]
              have hap : (ap && meets locks (l.getD i default).held) = false := by
                cases ap with
                | false => rfl
                | true => exact hb5
              refine ⟨rfl, ?_⟩
              simp only [if_true, Option.some.injEq, V.bool.injEq]
              symm
              show l.any (bodyK l ring ap m p taken locks) = true
              exact List.any_eq_true.2 ⟨_, hmem, by unfold bodyK; rw [hpk, hap, hb6]; rfl⟩
            · intro hb6
              skip
              refine SA.skip ?_
              refine blockK.normal (thenK.normal ?_)
              refine SA.region ok (by kernel_rfl) [0, 1, 2, 5, 9, 10, 23, 24, 25] ?_
              intro R r
              simp only [go_sem, strip]
              iterate 2 (refine opsA_cons fun Z q1 => ?_; simp only [go_sem, seval, -List.reduceReplicate]; (repeat' with_reducible refine And.intro ?_ ?_); all_goals first | (refine q1 _ ?_; clear q1 Z) | omega | rfl | decide | assumption | (intro _; omega) | (simp [roomFor, maxLen, by39, by3, by68, by70, by23, by100] <;> omega))
              refine opsA_nil (r _ ?_)
              clear r R
              try simp only [go_sem, Nat.reduceBEq]
              have hap : (ap && meets locks (l.getD i default).held) = false := by
                cases ap with
                | false => rfl
                | true => exact hb5
              have hbd : bodyK l ring ap m p taken locks (l.getD i default) = false := by unfold bodyK; rw [hb6]; simp
              refine loopK.normal (l.length - (i + 1)) _ (by omega) ((St.le.cut 2 rfl).trans (St.le.of_eq (by rw [wrap_succ hlt hlm]; rfl))) ⟨i + 1, rfl, ⟨hlt, ?_⟩, rfl⟩
              rw [any_take _ l hlt, hc, hbd]; rfl
    · intro hb2
      simp only [decide_eq_true_eq, decide_eq_false_iff_not, Int.not_lt, Int.not_le] at hb2
      refine SA.exit ?_
      refine thenK.exit ?_
      refine loopK.exit ?_
      refine blockK.hit ?_
      refine thenK.normal (SA.seq ?_)
      refine SA.region ok (by kernel_rfl) [12] ?_
      intro R r
      simp only [go_sem, strip]
      iterate 1 (refine opsA_cons fun Z q1 => ?_; simp only [go_sem, seval, -List.reduceReplicate]; (repeat' with_reducible refine And.intro ?_ ?_); all_goals first | (refine q1 _ ?_; clear q1 Z) | omega | rfl | decide | assumption | (intro _; omega) | (simp [roomFor, maxLen, by39, by3, by68, by70, by23, by100] <;> omega))
      refine opsA_nil (r _ ?_)
      clear r R
      try simp only [go_sem, Nat.reduceBEq]
      refine thenK.normal (SA.ret ?_)
      refine ctrK.ret ?_
      simp only [resA, evalO, resV, backK, outE, toV, ty4, ty3, List.lookup_cons, List.lookup_nil, beq_self_eq_true, forall_const, true_and, and_true]
      have hii : i = l.length := by omega
      subst hii
      rw [List.take_length] at hc
      refine ⟨rfl, ?_⟩
      simp only [if_true, Option.some.injEq, V.bool.injEq]
      exact hc.symm

end Go.Eng.Try
