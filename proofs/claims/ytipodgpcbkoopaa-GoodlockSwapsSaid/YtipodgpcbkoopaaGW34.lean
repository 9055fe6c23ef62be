/- A part of the proof: walks through the program's functions, and what they compute. -/
import Derived.Test.YtipodgpcbkoopaaE3
import Derived.Test.YtipodgpcbkoopaaM1
import Derived.Test.YtipodgpcbkoopaaE4
import Derived.Test.YtipodgpcbkoopaaGW33
namespace Go.Eng.Try
open Go.RowKit Go.Eng
set_option linter.unusedSimpArgs false
set_option linter.unusedVariables false

theorem closes_ctr (l : List Kind) (hll : l.length ≤ 100000) (hgo : ∀ k ∈ l, 0 ≤ k.g ∧ k.g < 6 ∧ k.held.length = 4) (ring : List Int) (hrl : ring.length ≤ 100) (ap : Bool) : ∀ (n p : Nat) (taken locks : List Bool), p + n = ring.length → taken.length = 6 → locks.length = 4 →
    Ctr Go.Proofs.Try.prog tab 34 [75, 23, 3, 77, 69, 4] [4] [.list (l.map Kind.v), .list (ring.map V.int), .int (p : Nat), .agg (taken.map V.bool), .agg (locks.map V.bool), .bool ap] [.bool (closes l ring ap n p taken locks)] := by
  intro n
  induction n with
  | zero => intro p taken locks h1 h2 h3; exact closes_step l hll hgo ring hrl ap 0 p taken locks h1 h2 h3 (fun m _ _ h => by omega)
  | succ n ih => intro p taken locks h1 h2 h3; exact closes_step l hll hgo ring hrl ap (n + 1) p taken locks h1 h2 h3 (fun m taken' locks' h g2 g3 => by cases h; exact ih (p + 1) taken' locks' (by omega) g2 g3)
def closesFrom (l : List Kind) (ring : List Int) (ap : Bool) : Bool := closes l ring ap ring.length 0 (List.replicate 6 false) (List.replicate 4 false)
theorem closes0_ctr (l : List Kind) (hll : l.length ≤ 100000) (hgo : ∀ k ∈ l, 0 ≤ k.g ∧ k.g < 6 ∧ k.held.length = 4) (ring : List Int) (hrl : ring.length ≤ 100) (ap : Bool) :
    Ctr Go.Proofs.Try.prog tab 34 [75, 23, 3, 77, 69, 4] [4] [.list (l.map Kind.v), .list (ring.map V.int), .int 0, .agg (List.replicate 6 (V.bool false)), .agg (List.replicate 4 (V.bool false)), .bool ap] [.bool (closesFrom l ring ap)] :=
  closes_ctr l hll hgo ring hrl ap ring.length 0 (List.replicate 6 false) (List.replicate 4 false) (by omega) rfl rfl
theorem take_self (r : List (List Int)) : List.take r.length (ringsV r) = ringsV r := List.take_of_length_le (by rw [ringsV_len]; exact Nat.le_refl _)
theorem app_len (a b : List (List Int)) : (a ++ b).length = a.length + b.length := List.length_append
theorem kinds_ok {t : List Event} (h6 : ∀ e ∈ t, e.touch.length = 6) (hr : t.all right = true) : ∀ k ∈ kinds t, 0 ≤ k.g ∧ k.g < 6 ∧ k.held.length = 4 := by
  intro k hk
  obtain ⟨e, he, rfl⟩ := kinds_mem.1 hk
  obtain ⟨i, hi, _, hm⟩ := edgesTo_mem he
  have hgo : e.go = (t.getD i default).go := by
    unfold edgesAt at hm
    simp only [List.mem_map, List.mem_filter, List.mem_range] at hm
    obtain ⟨f, _, rfl⟩ := hm
    rfl
  have hmem := getD_mem t hi
  have hf := right_facts (h6 _ hmem) (List.all_eq_true.1 hr _ hmem)
  refine ⟨?_, ?_, heldOf_len _ _⟩ <;> (show _ ; simp only [kindOf]; omega)
theorem kinds_len (t : List Event) (ht : t.length ≤ 257) : (kinds t).length ≤ 100000 := Nat.le_trans (kindsTo_len t _ (Nat.le_refl _)) (Nat.le_trans (edgesTo_len t _) (by omega))
def testK (l : List Kind) (ring : List Int) : Bool := decide (1 < ring.length) && closesFrom l ring false
def RefOn (l : List Kind) (f : Nat) : Prop := ∀ ring : List Int, good f ring = true → CtrZ Go.Proofs.Try.prog tab 50 [75, 23] [24] [.list (l.map Kind.v), .list (ring.map V.int)] [.list (ringsV (ringsOn (testK l) f ring))]

attribute [local go_sem] argsV contentV fromVs Option.getD_some St.keep List.filterMap_cons List.filterMap_nil Option.map_some Option.map_none opG opQ opB newEs outE CallStepB guardA putK putE pureA evalO evalL constE pickA capsE capsV loadA fieldAddrA indexAddrA indexA sliceA evalOptI builtinA binA plainA shiftA eqA nilA arith shifts effA storeA appendA appB freshA St.kill Tm.kill E.kill E.killL Obj.kill elemsOf evalVs buildA okAt toV fromV zeroE V.get V.put V.sub V.setSub args0 CallStep CallStepQ i64min i64max u64min u64max u32min u32max u8min u8max Nat.zero_add List.length_map List.lookup_cons List.lookup_nil List.getElem?_cons_zero List.getElem?_cons_succ List.getElem?_toArray List.getElem?_nil Option.bind_some Option.bind_none List.size_toArray List.length_cons List.length_nil List.nil_append List.append_nil List.cons_append List.getD_cons_zero List.getD_cons_succ List.map_cons List.map_nil List.set_cons_zero List.set_cons_succ true_and and_true forall_const true_implies Bool.true_and Bool.and_true Bool.not_true Bool.not_false Bool.false_and Bool.and_false beq_self_eq_true Bool.true_beq Bool.false_beq beq_true beq_false eq_self false_implies V.toInt_int V.toBool_bool V.toList_list V.toList_agg V.toStr_str V.deref_ref if_true if_false Bool.false_eq_true Option.isSome_none Option.isSome_some Bool.false_or Bool.true_or Bool.or_false Bool.or_true cond_true cond_false implies_true and_self imp_self ty22 ty25 ty3 ty4 ty81 ty39 ty40 ty42 ty37 ty2 ty23 ty24 ty46 ty68 ty65 ty70 ty69 ty90 ty77 ty59 ty100 ty75 ty98 ty71 ty93 ty64 ty85 concat_at List.length_range zero39 z39 z3 z4 z70 z68 z42 z40 z37 z2 zero40 z69 z90 zero70 zero69 zero90 zero68 zero42 Int.toNat_natCast Int.natCast_zero Event.v0 Event.v3 Event.v5 Event.v7 Event.v8 Access.v0 Access.v1 Access.v2 beq_acc Edge.v0 Edge.v1 Edge.v2 Edge.v3 heldOf_len locksTo_len heldsTo_len nowL_len ringsV_len Kind.v0 Kind.v1 Kind.v2 Kind.v3 beq_kind z100 zero100 z77 zero77
set_option maxHeartbeats 4000000 in
theorem ref_step (l : List Kind) (hll : l.length ≤ 100000) (hgo : ∀ k ∈ l, 0 ≤ k.g ∧ k.g < 6 ∧ k.held.length = 4) (f : Nat) (ih : RefOn l f) : RefOn l (f + 1) := by
  intro ring hg
  obtain ⟨g1, g2, g3, g4, g5⟩ := good_succ hg
  have hrm : ring.length ≤ maxLen := by unfold maxLen; omega
  obtain ⟨k0, hk0⟩ : ∃ k0 : Nat, ring.getD 0 default = (k0 : Int) := ⟨(ring.getD 0 default).toNat, by omega⟩
  have hw0 : IntKind.i64.wrap ((k0 : Int) + 1) = ((k0 + 1 : Nat) : Int) := wrap_succ (show k0 < 10 by omega) (by decide)
  rw [ringsOn_succ]
  have hbd : ∀ q, q ≤ 4 → (ringsFrom (testK l) f ring q).length ≤ 5 ^ (f + 1) := fun q hq => Nat.le_trans (ringsFrom_le hq) (by have := ringsOn_bound (testK l) (f + 1) ring; rw [ringsOn_succ, List.length_append] at this; omega)
  have hf5 : 5 ^ (f + 1) ≤ 3125 := Nat.pow_le_pow_right (by decide) (show f + 1 ≤ 5 by omega)
  refine CtrZ.body ok Go.Proofs.Try.func50 rfl rfl 65 rfl [.tmp 4] rfl (by simp [fromVs]) ?_
  simp only [fromVs, fromV, args0, V.toList_list, V.toInt_int, V.toBool_bool, Nat.zero_add, Nat.reduceAdd, ty23, ty75]
  refine SA.seq ?_
  refine SA.region ok (by kernel_rfl) [0, 1] ?_
  intro R r
  simp only [go_sem, strip]
  iterate 1 (refine opsA_cons fun Z q1 => ?_; simp only [go_sem, seval, -List.reduceReplicate]; (repeat' with_reducible refine And.intro ?_ ?_); all_goals first | (refine q1 _ ?_; clear q1 Z) | omega | rfl | decide | assumption | (intro _; omega) | (simp [roomFor, maxLen, by39, by3, by68, by70, by23, by100, ringsV_len] <;> omega))
  refine opsA_nil (r _ ?_)
  clear r R
  try simp only [go_sem, Nat.reduceBEq]
  refine thenK.normal (SA.seq ?_)
  refine SA.region ok (by kernel_rfl) [0, 1, 5] ?_
  intro R r
  simp only [go_sem, strip]
  iterate 1 (refine opsA_cons fun Z q1 => ?_; simp only [go_sem, seval, -List.reduceReplicate]; (repeat' with_reducible refine And.intro ?_ ?_); all_goals first | (refine q1 _ ?_; clear q1 Z) | omega | rfl | decide | assumption | (intro _; omega) | (simp [roomFor, maxLen, by39, by3, by68, by70, by23, by100, ringsV_len] <;> omega))
  refine opsA_nil (r _ ?_)
  clear r R
  try simp only [go_sem, Nat.reduceBEq]
  refine thenK.normal (SA.seq ?_)
  refine SA.seq ?_
  refine SA.weaken (St.le.own (t := 5) 23 rfl) ?_
  refine SA.region ok (by kernel_rfl) [0, 1, 5, 20] ?_
  intro R r
  simp only [go_sem, strip]
  iterate 8 (refine opsA_cons fun Z q1 => ?_; simp only [go_sem, seval, -List.reduceReplicate]; (repeat' with_reducible refine And.intro ?_ ?_); all_goals first | (refine q1 _ ?_; clear q1 Z) | omega | rfl | decide | assumption | (intro _; omega) | (simp [roomFor, maxLen, by39, by3, by68, by70, by23, by100, ringsV_len] <;> omega))
  refine opsA_cons fun Z q1 => ?_
  simp only [go_sem, seval, -List.reduceReplicate]
  repeat' with_reducible refine And.intro ?_ ?_
  all_goals try (first | omega | assumption | (intro _; omega))
  first | refine ⟨_, _, rfl, .inl ⟨_, CallQ.ctr ok (closes0_ctr l hll hgo ring (by omega) false) (by first | rfl | (simp [argsV, toVs, contentV, toV, capsV, capsE, ty22, ty25, ty3, ty4, ty81, ty39, ty40, ty42, ty37, ty2, ty23, ty24, ty46, ty68, ty65, ty70, ty69, ty90, ty77, ty59, ty100, ty75, ty98, ty71, ty93, ty64, ty85, List.length_map, List.take_of_length_le])) rfl, ?_⟩⟩ | refine ⟨_, _, rfl, .inl ⟨_, fun hg => CallQ.ctr ok (closes0_ctr l hll hgo ring (by omega) false) (by first | rfl | (simp [argsV, toVs, contentV, toV, capsV, capsE, ty22, ty25, ty3, ty4, ty81, ty39, ty40, ty42, ty37, ty2, ty23, ty24, ty46, ty68, ty65, ty70, ty69, ty90, ty77, ty59, ty100, ty75, ty98, ty71, ty93, ty64, ty85, List.length_map, List.take_of_length_le])) rfl, ?_⟩⟩
  simp only [go_sem, seval, -List.reduceReplicate]
  repeat' with_reducible refine And.intro ?_ ?_
  all_goals first | (refine q1 _ ?_; clear q1 Z) | omega | rfl | decide | assumption | (intro _; omega) | (simp [roomFor, maxLen, by39, by3, by68, by70, by23, by100, ringsV_len] <;> omega)
  iterate 1 (refine opsA_cons fun Z q1 => ?_; simp only [go_sem, seval, -List.reduceReplicate]; (repeat' with_reducible refine And.intro ?_ ?_); all_goals first | (refine q1 _ ?_; clear q1 Z) | omega | rfl | decide | assumption | (intro _; omega) | (simp [roomFor, maxLen, by39, by3, by68, by70, by23, by100, ringsV_len] <;> omega))
  refine opsA_nil (r _ ?_)
  clear r R
  try simp only [go_sem, Nat.reduceBEq]
  refine thenK.normal ?_
  refine SA.cond rfl ?_ ?_
  · intro hb1
    have hT : testK l ring = true := by
      unfold testK
      rw [show decide (1 < ring.length) = decide ((1 : Int) < (ring.length : Int)) from by rw [decide_eq_decide]; omega]
      cases hd : decide ((1 : Int) < (ring.length : Int)) <;> rw [hd] at hb1 <;> first | (simp at hb1; done) | (simp; done) | (simp at hb1; simp [hb1])
    obtain ⟨RR, hTe⟩ : ∃ RR, RR = (if testK l ring = true then [ring] else []) := ⟨_, rfl⟩
    rw [← hTe]
    rw [if_pos hT] at hTe
    have hRR : RR.length ≤ 1 := by rw [hTe]; simp
    refine SA.seq ?_
    refine SA.region ok (by kernel_rfl) [0, 1, 5, 6] ?_
    intro R r
    simp only [go_sem, strip]
    iterate 1 (refine opsA_cons fun Z q1 => ?_; simp only [go_sem, seval, -List.reduceReplicate]; (repeat' with_reducible refine And.intro ?_ ?_); all_goals first | (refine q1 _ ?_; clear q1 Z) | omega | rfl | decide | assumption | (intro _; omega) | (simp [roomFor, maxLen, by39, by3, by68, by70, by23, by100, ringsV_len] <;> omega))
    refine opsA_nil (r _ ?_)
    clear r R
    try simp only [go_sem, Nat.reduceBEq]
    refine thenK.normal (SA.seq ?_)
    refine SA.region ok (by kernel_rfl) [0, 1, 5, 6] ?_
    intro R r
    simp only [go_sem, strip]
    iterate 4 (refine opsA_cons fun Z q1 => ?_; simp only [go_sem, seval, -List.reduceReplicate]; (repeat' with_reducible refine And.intro ?_ ?_); all_goals first | (refine q1 _ ?_; clear q1 Z) | omega | rfl | decide | assumption | (intro _; omega) | (simp [roomFor, maxLen, by39, by3, by68, by70, by23, by100, ringsV_len] <;> omega))
    refine opsA_nil (r _ ?_)
    clear r R
    try simp only [go_sem, Nat.reduceBEq]
    refine thenK.normal ?_
    refine SA.weaken (St.le.frzRow ok.sized 1 rfl) ?_
    simp only [St.frz, Tm.frz, E.frz, E.frzL, Obj.frz, List.map_cons, List.map_nil, List.set_cons_zero, List.set_cons_succ, Nat.reduceBEq, Nat.beq_refl, if_true, if_false, Nat.beq_eq_true_eq, reduceCtorEq, Bool.false_eq_true, V.get, Nat.reduceEqDiff]
    refine SA.region ok (by kernel_rfl) [0, 1, 5] ?_
    intro R r
    simp only [go_sem, strip]
    iterate 5 (refine opsA_cons fun Z q1 => ?_; simp only [go_sem, seval, -List.reduceReplicate]; (repeat' with_reducible refine And.intro ?_ ?_); all_goals first | (refine q1 _ ?_; clear q1 Z) | omega | rfl | decide | assumption | (intro _; omega) | (simp [roomFor, maxLen, by39, by3, by68, by70, by23, by100, ringsV_len] <;> omega))
    refine opsA_nil (r _ ?_)
    clear r R
    try simp only [go_sem, Nat.reduceBEq]
    refine thenK.normal (SA.seq ?_)
    refine SA.seq ?_
    refine SA.region ok (by kernel_rfl) [0, 1, 5, 7] ?_
    intro R r
    simp only [go_sem, strip]
    iterate 5 (refine opsA_cons fun Z q1 => ?_; simp only [go_sem, seval, -List.reduceReplicate, getD_map V.int ring g2, hk0, hw0]; (repeat' with_reducible refine And.intro ?_ ?_); all_goals first | (refine q1 _ ?_; clear q1 Z) | omega | rfl | decide | assumption | (intro _; omega) | (simp [roomFor, maxLen, by39, by3, by68, by70, by23, by100, ringsV_len] <;> omega))
    refine opsA_nil (r _ ?_)
    clear r R
    try simp only [go_sem, Nat.reduceBEq]
    refine thenK.normal (SA.block ?_)
    refine SA.weaken ((St.le.cut 1 rfl).trans (St.le.of_eq (by rw [ringsFrom_start hk0, hTe]; simp [ringsV, List.take_of_length_le]))) (SA.loop (fun n τ => ∃ (q : Nat), n = 4 - q ∧ (k0 < q ∧ q ≤ 4) ∧ τ = { tm := [(0, true, .fs 100 (l.map Kind.v) false), (1, true, .fs 3 (ring.map V.int) false), (5, true, .sl 0 23 0 (RR ++ ringsFrom (testK l) f ring q).length false), (7, true, .int .i64 q)], ob := [.row 23 (ringsV (RR ++ ringsFrom (testK l) f ring q))], out := [], nt := 65 }) (4 - (k0 + 1)) ⟨k0 + 1, rfl, by omega, rfl⟩ ?_)
    rintro n τ ⟨q, hn, ⟨hn1, hn4⟩, rfl⟩
    refine SA.seq ?_
    refine SA.seq ?_
    refine SA.region ok (by kernel_rfl) [0, 1, 5, 7, 33] ?_
    intro R r
    simp only [go_sem, strip]
    iterate 2 (refine opsA_cons fun Z q1 => ?_; simp only [go_sem, seval, -List.reduceReplicate]; (repeat' with_reducible refine And.intro ?_ ?_); all_goals first | (refine q1 _ ?_; clear q1 Z) | omega | rfl | decide | assumption | (intro _; omega) | (simp [roomFor, maxLen, by39, by3, by68, by70, by23, by100, ringsV_len] <;> omega))
    refine opsA_nil (r _ ?_)
    clear r R
    try simp only [go_sem, Nat.reduceBEq]
    refine thenK.normal ?_
    refine SA.cond rfl ?_ ?_
    · intro hb2
      simp only [decide_eq_true_eq, decide_eq_false_iff_not, Int.not_lt, Int.not_le] at hb2
      refine SA.skip ?_
      refine thenK.normal (SA.seq ?_)
      refine SA.block ?_
      refine SA.seq ?_
      refine SA.region ok (by kernel_rfl) [0, 1, 5, 7, 8] ?_
      intro R r
      simp only [go_sem, strip]
      iterate 1 (refine opsA_cons fun Z q1 => ?_; simp only [go_sem, seval, -List.reduceReplicate]; (repeat' with_reducible refine And.intro ?_ ?_); all_goals first | (refine q1 _ ?_; clear q1 Z) | omega | rfl | decide | assumption | (intro _; omega) | (simp [roomFor, maxLen, by39, by3, by68, by70, by23, by100, ringsV_len] <;> omega))
      refine opsA_nil (r _ ?_)
      clear r R
      try simp only [go_sem, Nat.reduceBEq]
      refine thenK.normal (SA.seq ?_)
      refine SA.seq ?_
      refine SA.region ok (by kernel_rfl) [0, 1, 5, 7, 8, 36, 37, 38] ?_
      intro R r
      simp only [go_sem, strip]
      iterate 3 (refine opsA_cons fun Z q1 => ?_; simp only [go_sem, seval, -List.reduceReplicate]; (repeat' with_reducible refine And.intro ?_ ?_); all_goals first | (refine q1 _ ?_; clear q1 Z) | omega | rfl | decide | assumption | (intro _; omega) | (simp [roomFor, maxLen, by39, by3, by68, by70, by23, by100, ringsV_len] <;> omega))
      refine opsA_nil (r _ ?_)
      clear r R
      try simp only [go_sem, Nat.reduceBEq]
      refine thenK.normal (SA.block ?_)
      refine SA.weaken (St.le.of_eq (by first | rfl | simp)) (SA.loop (fun n τ => ∃ (j : Nat), n = ring.length - j ∧ (j ≤ ring.length) ∧ τ = { tm := [(0, true, .fs 100 (l.map Kind.v) false), (1, true, .fs 3 (ring.map V.int) false), (5, true, .sl 0 23 0 (RR ++ ringsFrom (testK l) f ring q).length false), (7, true, .int .i64 q), (8, true, .bool ((ring.take j).any fun y => decide ((q : Int) = y))), (36, true, .fs 3 (ring.map V.int) false), (37, true, .int .i64 ring.length), (38, true, .int .i64 j)], ob := [.row 23 (ringsV (RR ++ ringsFrom (testK l) f ring q))], out := [], nt := 65 }) (ring.length) ⟨0, rfl, Nat.zero_le _, rfl⟩ ?_)
      rintro n τ ⟨j, hn, hj, rfl⟩
      refine SA.seq ?_
      refine SA.region ok (by kernel_rfl) [0, 1, 5, 7, 8, 36, 37, 38, 39] ?_
      intro R r
      simp only [go_sem, strip]
      iterate 1 (refine opsA_cons fun Z q1 => ?_; simp only [go_sem, seval, -List.reduceReplicate]; (repeat' with_reducible refine And.intro ?_ ?_); all_goals first | (refine q1 _ ?_; clear q1 Z) | omega | rfl | decide | assumption | (intro _; omega) | (simp [roomFor, maxLen, by39, by3, by68, by70, by23, by100, ringsV_len] <;> omega))
      refine opsA_nil (r _ ?_)
      clear r R
      try simp only [go_sem, Nat.reduceBEq]
      refine thenK.normal (SA.seq ?_)
      refine SA.cond rfl ?_ ?_
      · intro hb3
        simp only [decide_eq_true_eq, decide_eq_false_iff_not, Int.not_lt, Int.not_le] at hb3
        refine SA.skip ?_
        refine thenK.normal (SA.seq ?_)
        refine SA.block ?_
        refine SA.seq ?_
        have hjl : j < ring.length := by omega
        refine SA.region ok (by kernel_rfl) [0, 1, 5, 7, 8, 10, 36, 37, 38] ?_
        intro R r
        simp only [go_sem, strip]
        iterate 3 (refine opsA_cons fun Z q1 => ?_; simp only [go_sem, seval, -List.reduceReplicate, getD_map V.int ring hjl]; (repeat' with_reducible refine And.intro ?_ ?_); all_goals first | (refine q1 _ ?_; clear q1 Z) | omega | rfl | decide | assumption | (intro _; omega) | (simp [roomFor, maxLen, by39, by3, by68, by70, by23, by100, ringsV_len] <;> omega))
        refine opsA_nil (r _ ?_)
        clear r R
        try simp only [go_sem, Nat.reduceBEq]
        refine thenK.normal ?_
        refine SA.region ok (by kernel_rfl) [0, 1, 5, 7, 8, 36, 37, 38] ?_
        intro R r
        simp only [go_sem, strip]
        iterate 7 (refine opsA_cons fun Z q1 => ?_; simp only [go_sem, seval, -List.reduceReplicate]; (repeat' with_reducible refine And.intro ?_ ?_); all_goals first | (refine q1 _ ?_; clear q1 Z) | omega | rfl | decide | assumption | (intro _; omega) | (simp [roomFor, maxLen, by39, by3, by68, by70, by23, by100, ringsV_len] <;> omega))
        refine opsA_nil (r _ ?_)
        clear r R
        try simp only [go_sem, Nat.reduceBEq]
        refine blockK.normal (thenK.normal ?_)
        refine SA.region ok (by kernel_rfl) [0, 1, 5, 7, 8, 36, 37, 38] ?_
        intro R r
        simp only [go_sem, strip]
        iterate 2 (refine opsA_cons fun Z q1 => ?_; simp only [go_sem, seval, -List.reduceReplicate]; (repeat' with_reducible refine And.intro ?_ ?_); all_goals first | (refine q1 _ ?_; clear q1 Z) | omega | rfl | decide | assumption | (intro _; omega) | (simp [roomFor, maxLen, by39, by3, by68, by70, by23, by100, ringsV_len] <;> omega))
        refine opsA_nil (r _ ?_)
        clear r R
        try simp only [go_sem, Nat.reduceBEq]
        refine loopK.normal (ring.length - (j + 1)) _ (by omega) (St.le.of_eq (by rw [any_take _ ring hjl, wrap_succ hjl hrm, Bool.cond_true_left])) ⟨j + 1, rfl, hjl, rfl⟩
      · intro hb3
        simp only [decide_eq_true_eq, decide_eq_false_iff_not, Int.not_lt, Int.not_le] at hb3
        refine SA.exit ?_
        refine thenK.exit ?_
        refine loopK.exit ?_
        refine blockK.hit ?_
        refine thenK.normal (SA.seq ?_)
        have hjj : j = ring.length := by omega
        subst hjj
        rw [List.take_length]
        refine SA.region ok (by kernel_rfl) [0, 1, 5, 7, 50] ?_
        intro R r
        simp only [go_sem, strip]
        iterate 2 (refine opsA_cons fun Z q1 => ?_; simp only [go_sem, seval, -List.reduceReplicate]; (repeat' with_reducible refine And.intro ?_ ?_); all_goals first | (refine q1 _ ?_; clear q1 Z) | omega | rfl | decide | assumption | (intro _; omega) | (simp [roomFor, maxLen, by39, by3, by68, by70, by23, by100, ringsV_len] <;> omega))
        refine opsA_nil (r _ ?_)
        clear r R
        try simp only [go_sem, Nat.reduceBEq]
        refine thenK.normal ?_
        refine SA.cond rfl ?_ ?_
        · intro hb4
          have hct : ring.contains (q : Int) = false := by rw [contains_any]; simpa using hb4
          have hgn := g5 q (by omega) (by omega) hct
          have hstep := ringsFrom_hit (test := testK l) (f := f) (show ring.getD 0 default < (q : Int) by omega) hct
          have hb6 := hbd (q + 1) (by omega)
          rw [hstep, List.length_append] at hb6
          refine SA.region ok (by kernel_rfl) [0, 1, 5, 7] ?_
          intro R r
          simp only [go_sem, strip]
          iterate 11 (refine opsA_cons fun Z q1 => ?_; simp only [go_sem, seval, -List.reduceReplicate]; (repeat' with_reducible refine And.intro ?_ ?_); all_goals first | (refine q1 _ ?_; clear q1 Z) | omega | rfl | decide | assumption | (intro _; omega) | (simp [roomFor, maxLen, by39, by3, by68, by70, by23, by100, ringsV_len] <;> omega))
          refine opsA_cons fun Z q1 => ?_
          simp only [go_sem, seval, -List.reduceReplicate]
          repeat' with_reducible refine And.intro ?_ ?_
          all_goals try (first | omega | assumption | (intro _; omega))
          refine ⟨_, _, rfl, .inr (CallE.frzRow (i := 2) ok.sized rfl ?_)⟩
          simp only [St.frz, Tm.frz, E.frz, E.frzL, Obj.frz, List.map_cons, List.map_nil, List.set_cons_zero, List.set_cons_succ, Nat.reduceBEq, Nat.beq_refl, if_true, if_false, Nat.beq_eq_true_eq, reduceCtorEq, Bool.false_eq_true, V.get, Nat.reduceEqDiff]
          refine CallE.ctrZ (ih (ring ++ [(q : Int)]) hgn) (by simp [toVs, toV, ty75, ty23, List.take_of_length_le]) ?_
          try simp only [go_sem, seval, -List.reduceReplicate]
          repeat' with_reducible refine And.intro ?_ ?_
          all_goals first | (refine q1 _ ?_; clear q1 Z) | omega | rfl | decide | assumption | (intro _; omega) | (simp [roomFor, maxLen, by39, by3, by68, by70, by23, by100, ringsV_len] <;> omega)
          iterate 2 (refine opsA_cons fun Z q1 => ?_; simp only [go_sem, seval, -List.reduceReplicate]; (repeat' with_reducible refine And.intro ?_ ?_); all_goals first | (refine q1 _ ?_; clear q1 Z) | omega | rfl | decide | assumption | (intro _; omega) | (simp [roomFor, maxLen, by39, by3, by68, by70, by23, by100, ringsV_len] <;> omega))
          refine opsA_nil (r _ ?_)
          clear r R
          try simp only [go_sem, Nat.reduceBEq]
          refine blockK.normal (thenK.normal ?_)
          refine SA.region ok (by kernel_rfl) [0, 1, 5, 7] ?_
          intro R r
          simp only [go_sem, strip]
          iterate 3 (refine opsA_cons fun Z q1 => ?_; simp only [go_sem, seval, -List.reduceReplicate]; (repeat' with_reducible refine And.intro ?_ ?_); all_goals first | (refine q1 _ ?_; clear q1 Z) | omega | rfl | decide | assumption | (intro _; omega) | (simp [roomFor, maxLen, by39, by3, by68, by70, by23, by100, ringsV_len] <;> omega))
          refine opsA_nil (r _ ?_)
          clear r R
          try simp only [go_sem, Nat.reduceBEq]
          refine loopK.normal (4 - (q + 1)) _ (by omega) ((St.le.cut 1 rfl).trans (St.le.of_eq (by rw [take_self, ← ringsV_append, hstep, ← List.append_assoc, app_len (RR ++ ringsFrom (testK l) f ring q), wrap_succ (show q < 4 by omega) (by decide)]; rfl))) ⟨q + 1, rfl, by omega, rfl⟩
        · intro hb4
          have hct : ring.contains (q : Int) = true := by rw [contains_any]; simpa using hb4
          have hstep := ringsFrom_miss (test := testK l) (f := f) hct
          refine SA.skip ?_
          refine blockK.normal (thenK.normal ?_)
          refine SA.region ok (by kernel_rfl) [0, 1, 5, 7] ?_
          intro R r
          simp only [go_sem, strip]
          iterate 3 (refine opsA_cons fun Z q1 => ?_; simp only [go_sem, seval, -List.reduceReplicate]; (repeat' with_reducible refine And.intro ?_ ?_); all_goals first | (refine q1 _ ?_; clear q1 Z) | omega | rfl | decide | assumption | (intro _; omega) | (simp [roomFor, maxLen, by39, by3, by68, by70, by23, by100, ringsV_len] <;> omega))
          refine opsA_nil (r _ ?_)
          clear r R
          try simp only [go_sem, Nat.reduceBEq]
          refine loopK.normal (4 - (q + 1)) _ (by omega) ((St.le.cut 1 rfl).trans (St.le.of_eq (by rw [hstep, wrap_succ (show q < 4 by omega) (by decide)]; rfl))) ⟨q + 1, rfl, by omega, rfl⟩
    · intro hb2
      simp only [decide_eq_true_eq, decide_eq_false_iff_not, Int.not_lt, Int.not_le] at hb2
      refine SA.exit ?_
      refine thenK.exit ?_
      refine loopK.exit ?_
      refine blockK.hit ?_
      refine thenK.normal (SA.seq ?_)
      refine SA.region ok (by kernel_rfl) [4] ?_
      intro R r
      simp only [go_sem, strip]
      iterate 2 (refine opsA_cons fun Z q1 => ?_; simp only [go_sem, seval, -List.reduceReplicate]; (repeat' with_reducible refine And.intro ?_ ?_); all_goals first | (refine q1 _ ?_; clear q1 Z) | omega | rfl | decide | assumption | (intro _; omega) | (simp [roomFor, maxLen, by39, by3, by68, by70, by23, by100, ringsV_len] <;> omega))
      refine opsA_nil (r _ ?_)
      clear r R
      try simp only [go_sem, Nat.reduceBEq]
      refine thenK.normal (SA.ret ?_)
      refine ctrZK.ret ?_
      simp only [resA, evalO, resV, backK, outE, toV, ty4, ty3, List.lookup_cons, List.lookup_nil, beq_self_eq_true, forall_const, true_and, and_true]
      simp only [go_sem, seval, -List.reduceReplicate]
      have hq4 : q = 4 := by omega
      subst hq4
      rw [List.drop_zero, take_self]
  · intro hb1
    have hT : testK l ring = false := by
      unfold testK
      rw [show decide (1 < ring.length) = decide ((1 : Int) < (ring.length : Int)) from by rw [decide_eq_decide]; omega]
      cases hd : decide ((1 : Int) < (ring.length : Int)) <;> rw [hd] at hb1 <;> first | (simp at hb1; done) | (simp; done) | (simp at hb1; simp [hb1])
    obtain ⟨RR, hTe⟩ : ∃ RR, RR = (if testK l ring = true then [ring] else []) := ⟨_, rfl⟩
    rw [← hTe]
    rw [if_neg (by rw [hT]; decide)] at hTe
    have hRR : RR.length ≤ 1 := by rw [hTe]; simp
    refine SA.skip ?_
    refine thenK.normal (SA.seq ?_)
    refine SA.seq ?_
    refine SA.region ok (by kernel_rfl) [0, 1, 5, 7] ?_
    intro R r
    simp only [go_sem, strip]
    iterate 5 (refine opsA_cons fun Z q1 => ?_; simp only [go_sem, seval, -List.reduceReplicate, getD_map V.int ring g2, hk0, hw0]; (repeat' with_reducible refine And.intro ?_ ?_); all_goals first | (refine q1 _ ?_; clear q1 Z) | omega | rfl | decide | assumption | (intro _; omega) | (simp [roomFor, maxLen, by39, by3, by68, by70, by23, by100, ringsV_len] <;> omega))
    refine opsA_nil (r _ ?_)
    clear r R
    try simp only [go_sem, Nat.reduceBEq]
    refine thenK.normal (SA.block ?_)
    refine SA.weaken ((St.le.cut 1 rfl).trans (St.le.of_eq (by rw [ringsFrom_start hk0, hTe]; simp [ringsV, List.take_of_length_le]))) (SA.loop (fun n τ => ∃ (q : Nat), n = 4 - q ∧ (k0 < q ∧ q ≤ 4) ∧ τ = { tm := [(0, true, .fs 100 (l.map Kind.v) false), (1, true, .fs 3 (ring.map V.int) false), (5, true, .sl 0 23 0 (RR ++ ringsFrom (testK l) f ring q).length false), (7, true, .int .i64 q)], ob := [.row 23 (ringsV (RR ++ ringsFrom (testK l) f ring q))], out := [], nt := 65 }) (4 - (k0 + 1)) ⟨k0 + 1, rfl, by omega, rfl⟩ ?_)
    rintro n τ ⟨q, hn, ⟨hn1, hn4⟩, rfl⟩
    refine SA.seq ?_
    refine SA.seq ?_
    refine SA.region ok (by kernel_rfl) [0, 1, 5, 7, 33] ?_
    intro R r
    simp only [go_sem, strip]
    iterate 2 (refine opsA_cons fun Z q1 => ?_; simp only [go_sem, seval, -List.reduceReplicate]; (repeat' with_reducible refine And.intro ?_ ?_); all_goals first | (refine q1 _ ?_; clear q1 Z) | omega | rfl | decide | assumption | (intro _; omega) | (simp [roomFor, maxLen, by39, by3, by68, by70, by23, by100, ringsV_len] <;> omega))
    refine opsA_nil (r _ ?_)
    clear r R
    try simp only [go_sem, Nat.reduceBEq]
    refine thenK.normal ?_
    refine SA.cond rfl ?_ ?_
    · intro hb5
      simp only [decide_eq_true_eq, decide_eq_false_iff_not, Int.not_lt, Int.not_le] at hb5
      refine SA.skip ?_
      refine thenK.normal (SA.seq ?_)
      refine SA.block ?_
      refine SA.seq ?_
      refine SA.region ok (by kernel_rfl) [0, 1, 5, 7, 8] ?_
      intro R r
      simp only [go_sem, strip]
      iterate 1 (refine opsA_cons fun Z q1 => ?_; simp only [go_sem, seval, -List.reduceReplicate]; (repeat' with_reducible refine And.intro ?_ ?_); all_goals first | (refine q1 _ ?_; clear q1 Z) | omega | rfl | decide | assumption | (intro _; omega) | (simp [roomFor, maxLen, by39, by3, by68, by70, by23, by100, ringsV_len] <;> omega))
      refine opsA_nil (r _ ?_)
      clear r R
      try simp only [go_sem, Nat.reduceBEq]
      refine thenK.normal (SA.seq ?_)
      refine SA.seq ?_
      refine SA.region ok (by kernel_rfl) [0, 1, 5, 7, 8, 36, 37, 38] ?_
      intro R r
      simp only [go_sem, strip]
      iterate 3 (refine opsA_cons fun Z q1 => ?_; simp only [go_sem, seval, -List.reduceReplicate]; (repeat' with_reducible refine And.intro ?_ ?_); all_goals first | (refine q1 _ ?_; clear q1 Z) | omega | rfl | decide | assumption | (intro _; omega) | (simp [roomFor, maxLen, by39, by3, by68, by70, by23, by100, ringsV_len] <;> omega))
      refine opsA_nil (r _ ?_)
      clear r R
      try simp only [go_sem, Nat.reduceBEq]
      refine thenK.normal (SA.block ?_)
      refine SA.weaken (St.le.of_eq (by first | rfl | simp)) (SA.loop (fun n τ => ∃ (j : Nat), n = ring.length - j ∧ (j ≤ ring.length) ∧ τ = { tm := [(0, true, .fs 100 (l.map Kind.v) false), (1, true, .fs 3 (ring.map V.int) false), (5, true, .sl 0 23 0 (RR ++ ringsFrom (testK l) f ring q).length false), (7, true, .int .i64 q), (8, true, .bool ((ring.take j).any fun y => decide ((q : Int) = y))), (36, true, .fs 3 (ring.map V.int) false), (37, true, .int .i64 ring.length), (38, true, .int .i64 j)], ob := [.row 23 (ringsV (RR ++ ringsFrom (testK l) f ring q))], out := [], nt := 65 }) (ring.length) ⟨0, rfl, Nat.zero_le _, rfl⟩ ?_)
      rintro n τ ⟨j, hn, hj, rfl⟩
      refine SA.seq ?_
      refine SA.region ok (by kernel_rfl) [0, 1, 5, 7, 8, 36, 37, 38, 39] ?_
      intro R r
      simp only [go_sem, strip]
      iterate 1 (refine opsA_cons fun Z q1 => ?_; simp only [go_sem, seval, -List.reduceReplicate]; (repeat' with_reducible refine And.intro ?_ ?_); all_goals first | (refine q1 _ ?_; clear q1 Z) | omega | rfl | decide | assumption | (intro _; omega) | (simp [roomFor, maxLen, by39, by3, by68, by70, by23, by100, ringsV_len] <;> omega))
      refine opsA_nil (r _ ?_)
      clear r R
      try simp only [go_sem, Nat.reduceBEq]
      refine thenK.normal (SA.seq ?_)
      refine SA.cond rfl ?_ ?_
      · intro hb6
        simp only [decide_eq_true_eq, decide_eq_false_iff_not, Int.not_lt, Int.not_le] at hb6
        refine SA.skip ?_
        refine thenK.normal (SA.seq ?_)
        refine SA.block ?_
        refine SA.seq ?_
        have hjl : j < ring.length := by omega
        refine SA.region ok (by kernel_rfl) [0, 1, 5, 7, 8, 10, 36, 37, 38] ?_
        intro R r
        simp only [go_sem, strip]
        iterate 3 (refine opsA_cons fun Z q1 => ?_; simp only [go_sem, seval, -List.reduceReplicate, getD_map V.int ring hjl]; (repeat' with_reducible refine And.intro ?_ ?_); all_goals first | (refine q1 _ ?_; clear q1 Z) | omega | rfl | decide | assumption | (intro _; omega) | (simp [roomFor, maxLen, by39, by3, by68, by70, by23, by100, ringsV_len] <;> omega))
        refine opsA_nil (r _ ?_)
        clear r R
        try simp only [go_sem, Nat.reduceBEq]
        refine thenK.normal ?_
        refine SA.region ok (by kernel_rfl) [0, 1, 5, 7, 8, 36, 37, 38] ?_
        intro R r
        simp only [go_sem, strip]
        iterate 7 (refine opsA_cons fun Z q1 => ?_; simp only [go_sem, seval, -List.reduceReplicate]; (repeat' with_reducible refine And.intro ?_ ?_); all_goals first | (refine q1 _ ?_; clear q1 Z) | omega | rfl | decide | assumption | (intro _; omega) | (simp [roomFor, maxLen, by39, by3, by68, by70, by23, by100, ringsV_len] <;> omega))
        refine opsA_nil (r _ ?_)
        clear r R
        try simp only [go_sem, Nat.reduceBEq]
        refine blockK.normal (thenK.normal ?_)
        refine SA.region ok (by kernel_rfl) [0, 1, 5, 7, 8, 36, 37, 38] ?_
        intro R r
        simp only [go_sem, strip]
        iterate 2 (refine opsA_cons fun Z q1 => ?_; simp only [go_sem, seval, -List.reduceReplicate]; (repeat' with_reducible refine And.intro ?_ ?_); all_goals first | (refine q1 _ ?_; clear q1 Z) | omega | rfl | decide | assumption | (intro _; omega) | (simp [roomFor, maxLen, by39, by3, by68, by70, by23, by100, ringsV_len] <;> omega))
        refine opsA_nil (r _ ?_)
        clear r R
        try simp only [go_sem, Nat.reduceBEq]
        refine loopK.normal (ring.length - (j + 1)) _ (by omega) (St.le.of_eq (by rw [any_take _ ring hjl, wrap_succ hjl hrm, Bool.cond_true_left])) ⟨j + 1, rfl, hjl, rfl⟩
      · intro hb6
        simp only [decide_eq_true_eq, decide_eq_false_iff_not, Int.not_lt, Int.not_le] at hb6
        refine SA.exit ?_
        refine thenK.exit ?_
        refine loopK.exit ?_
        refine blockK.hit ?_
        refine thenK.normal (SA.seq ?_)
        have hjj : j = ring.length := by omega
        subst hjj
        rw [List.take_length]
        refine SA.region ok (by kernel_rfl) [0, 1, 5, 7, 50] ?_
        intro R r
        simp only [go_sem, strip]
        iterate 2 (refine opsA_cons fun Z q1 => ?_; simp only [go_sem, seval, -List.reduceReplicate]; (repeat' with_reducible refine And.intro ?_ ?_); all_goals first | (refine q1 _ ?_; clear q1 Z) | omega | rfl | decide | assumption | (intro _; omega) | (simp [roomFor, maxLen, by39, by3, by68, by70, by23, by100, ringsV_len] <;> omega))
        refine opsA_nil (r _ ?_)
        clear r R
        try simp only [go_sem, Nat.reduceBEq]
        refine thenK.normal ?_
        refine SA.cond rfl ?_ ?_
        · intro hb7
          have hct : ring.contains (q : Int) = false := by rw [contains_any]; simpa using hb7
          have hgn := g5 q (by omega) (by omega) hct
          have hstep := ringsFrom_hit (test := testK l) (f := f) (show ring.getD 0 default < (q : Int) by omega) hct
          have hb6 := hbd (q + 1) (by omega)
          rw [hstep, List.length_append] at hb6
          refine SA.region ok (by kernel_rfl) [0, 1, 5, 7] ?_
          intro R r
          simp only [go_sem, strip]
          iterate 11 (refine opsA_cons fun Z q1 => ?_; simp only [go_sem, seval, -List.reduceReplicate]; (repeat' with_reducible refine And.intro ?_ ?_); all_goals first | (refine q1 _ ?_; clear q1 Z) | omega | rfl | decide | assumption | (intro _; omega) | (simp [roomFor, maxLen, by39, by3, by68, by70, by23, by100, ringsV_len] <;> omega))
          refine opsA_cons fun Z q1 => ?_
          simp only [go_sem, seval, -List.reduceReplicate]
          repeat' with_reducible refine And.intro ?_ ?_
          all_goals try (first | omega | assumption | (intro _; omega))
          refine ⟨_, _, rfl, .inr (CallE.frzRow (i := 2) ok.sized rfl ?_)⟩
          simp only [St.frz, Tm.frz, E.frz, E.frzL, Obj.frz, List.map_cons, List.map_nil, List.set_cons_zero, List.set_cons_succ, Nat.reduceBEq, Nat.beq_refl, if_true, if_false, Nat.beq_eq_true_eq, reduceCtorEq, Bool.false_eq_true, V.get, Nat.reduceEqDiff]
          refine CallE.ctrZ (ih (ring ++ [(q : Int)]) hgn) (by simp [toVs, toV, ty75, ty23, List.take_of_length_le]) ?_
          try simp only [go_sem, seval, -List.reduceReplicate]
          repeat' with_reducible refine And.intro ?_ ?_
          all_goals first | (refine q1 _ ?_; clear q1 Z) | omega | rfl | decide | assumption | (intro _; omega) | (simp [roomFor, maxLen, by39, by3, by68, by70, by23, by100, ringsV_len] <;> omega)
          iterate 2 (refine opsA_cons fun Z q1 => ?_; simp only [go_sem, seval, -List.reduceReplicate]; (repeat' with_reducible refine And.intro ?_ ?_); all_goals first | (refine q1 _ ?_; clear q1 Z) | omega | rfl | decide | assumption | (intro _; omega) | (simp [roomFor, maxLen, by39, by3, by68, by70, by23, by100, ringsV_len] <;> omega))
          refine opsA_nil (r _ ?_)
          clear r R
          try simp only [go_sem, Nat.reduceBEq]
          refine blockK.normal (thenK.normal ?_)
          refine SA.region ok (by kernel_rfl) [0, 1, 5, 7] ?_
          intro R r
          simp only [go_sem, strip]
          iterate 3 (refine opsA_cons fun Z q1 => ?_; simp only [go_sem, seval, -List.reduceReplicate]; (repeat' with_reducible refine And.intro ?_ ?_); all_goals first | (refine q1 _ ?_; clear q1 Z) | omega | rfl | decide | assumption | (intro _; omega) | (simp [roomFor, maxLen, by39, by3, by68, by70, by23, by100, ringsV_len] <;> omega))
          refine opsA_nil (r _ ?_)
          clear r R
          try simp only [go_sem, Nat.reduceBEq]
          refine loopK.normal (4 - (q + 1)) _ (by omega) ((St.le.cut 1 rfl).trans (St.le.of_eq (by rw [take_self, ← ringsV_append, hstep, ← List.append_assoc, app_len (RR ++ ringsFrom (testK l) f ring q), wrap_succ (show q < 4 by omega) (by decide)]; rfl))) ⟨q + 1, rfl, by omega, rfl⟩
        · intro hb7
          have hct : ring.contains (q : Int) = true := by rw [contains_any]; simpa using hb7
          have hstep := ringsFrom_miss (test := testK l) (f := f) hct
          refine SA.skip ?_
          refine blockK.normal (thenK.normal ?_)
          refine SA.region ok (by kernel_rfl) [0, 1, 5, 7] ?_
          intro R r
          simp only [go_sem, strip]
          iterate 3 (refine opsA_cons fun Z q1 => ?_; simp only [go_sem, seval, -List.reduceReplicate]; (repeat' with_reducible refine And.intro ?_ ?_); all_goals first | (refine q1 _ ?_; clear q1 Z) | omega | rfl | decide | assumption | (intro _; omega) | (simp [roomFor, maxLen, by39, by3, by68, by70, by23, by100, ringsV_len] <;> omega))
          refine opsA_nil (r _ ?_)
          clear r R
          try simp only [go_sem, Nat.reduceBEq]
          refine loopK.normal (4 - (q + 1)) _ (by omega) ((St.le.cut 1 rfl).trans (St.le.of_eq (by rw [hstep, wrap_succ (show q < 4 by omega) (by decide)]; rfl))) ⟨q + 1, rfl, by omega, rfl⟩
    · intro hb5
      simp only [decide_eq_true_eq, decide_eq_false_iff_not, Int.not_lt, Int.not_le] at hb5
      refine SA.exit ?_
      refine thenK.exit ?_
      refine loopK.exit ?_
      refine blockK.hit ?_
      refine thenK.normal (SA.seq ?_)
      refine SA.region ok (by kernel_rfl) [4] ?_
      intro R r
      simp only [go_sem, strip]
      iterate 2 (refine opsA_cons fun Z q1 => ?_; simp only [go_sem, seval, -List.reduceReplicate]; (repeat' with_reducible refine And.intro ?_ ?_); all_goals first | (refine q1 _ ?_; clear q1 Z) | omega | rfl | decide | assumption | (intro _; omega) | (simp [roomFor, maxLen, by39, by3, by68, by70, by23, by100, ringsV_len] <;> omega))
      refine opsA_nil (r _ ?_)
      clear r R
      try simp only [go_sem, Nat.reduceBEq]
      refine thenK.normal (SA.ret ?_)
      refine ctrZK.ret ?_
      simp only [resA, evalO, resV, backK, outE, toV, ty4, ty3, List.lookup_cons, List.lookup_nil, beq_self_eq_true, forall_const, true_and, and_true]
      simp only [go_sem, seval, -List.reduceReplicate]
      have hq4 : q = 4 := by omega
      subst hq4
      rw [List.drop_zero, take_self]

theorem all_ctr (t : List Event) (ht : t.length ≤ 257) (h6 : ∀ e ∈ t, e.touch.length = 6) (hr : t.all right = true) (hon : ∀ f, RefOn (kinds t) f) : CtrZ Go.Proofs.Try.prog tab 26 [22] [24] [.list (t.map Event.v)] [.list (ringsV (ringsTo (testK (kinds t)) 4))] := by
  refine CtrZ.body ok Go.Proofs.Try.func26 rfl rfl 19 rfl [.tmp 2] rfl (by simp [fromVs]) ?_
  simp only [fromVs, fromV, args0, V.toList_list, V.toInt_int, V.toBool_bool, Nat.zero_add, Nat.reduceAdd, ty22]
  refine SA.seq ?_
  refine SA.region ok (by kernel_rfl) [0] ?_
  intro R r
  simp only [go_sem, strip]
  iterate 1 (refine opsA_cons fun Z q1 => ?_; simp only [go_sem, seval, -List.reduceReplicate]; (repeat' with_reducible refine And.intro ?_ ?_); all_goals first | (refine q1 _ ?_; clear q1 Z) | omega | rfl | decide | assumption | (intro _; omega) | (simp [roomFor, maxLen, by39, by3, by68, by70, by23, by100, ringsV_len] <;> omega))
  refine opsA_nil (r _ ?_)
  clear r R
  try simp only [go_sem, Nat.reduceBEq]
  refine thenK.normal (SA.seq ?_)
  refine SA.region ok (by kernel_rfl) [3] ?_
  intro R r
  simp only [go_sem, strip]
  iterate 1 (refine opsA_cons fun Z q1 => ?_; simp only [go_sem, seval, -List.reduceReplicate]; (repeat' with_reducible refine And.intro ?_ ?_); all_goals first | (refine q1 _ ?_; clear q1 Z) | omega | rfl | decide | assumption | (intro _; omega) | (simp [roomFor, maxLen, by39, by3, by68, by70, by23, by100, ringsV_len] <;> omega))
  refine opsA_cons fun Z q1 => ?_
  simp only [go_sem, seval, -List.reduceReplicate]
  repeat' with_reducible refine And.intro ?_ ?_
  all_goals try (first | omega | assumption | (intro _; omega))
  first | refine ⟨_, _, rfl, .inr (CallE.ctr ok (kinds_ctr t ht h6 hr) (by first | rfl | (simp [argsV, toVs, contentV, toV, capsV, capsE, ty22, ty25, ty3, ty4, ty81, ty39, ty40, ty42, ty37, ty2, ty23, ty24, ty46, ty68, ty65, ty70, ty69, ty90, ty77, ty59, ty100, ty75, ty98, ty71, ty93, ty64, ty85, List.length_map, List.take_of_length_le])) ?_)⟩ | refine ⟨_, _, rfl, .inr ⟨fun _ => CallE.ctr ok (kinds_ctr t ht h6 hr) (by first | rfl | (simp [argsV, toVs, contentV, toV, capsV, capsE, ty22, ty25, ty3, ty4, ty81, ty39, ty40, ty42, ty37, ty2, ty23, ty24, ty46, ty68, ty65, ty70, ty69, ty90, ty77, ty59, ty100, ty75, ty98, ty71, ty93, ty64, ty85, List.length_map, List.take_of_length_le])) ?_, ?_⟩⟩
  simp only [go_sem, seval, -List.reduceReplicate]
  repeat' with_reducible refine And.intro ?_ ?_
  all_goals first | (refine q1 _ ?_; clear q1 Z) | omega | rfl | decide | assumption | (intro _; omega) | (simp [roomFor, maxLen, by39, by3, by68, by70, by23, by100, ringsV_len] <;> omega)
  iterate 1 (refine opsA_cons fun Z q1 => ?_; simp only [go_sem, seval, -List.reduceReplicate]; (repeat' with_reducible refine And.intro ?_ ?_); all_goals first | (refine q1 _ ?_; clear q1 Z) | omega | rfl | decide | assumption | (intro _; omega) | (simp [roomFor, maxLen, by39, by3, by68, by70, by23, by100, ringsV_len] <;> omega))
  refine opsA_nil (r _ ?_)
  clear r R
  try simp only [go_sem, Nat.reduceBEq]
  refine thenK.normal (SA.seq ?_)
  refine SA.weaken (St.le.frzRow ok.sized 0 rfl) ?_
  simp only [St.frz, Tm.frz, E.frz, E.frzL, Obj.frz, List.map_cons, List.map_nil, List.set_cons_zero, List.set_cons_succ, Nat.reduceBEq, Nat.beq_refl, if_true, if_false, Nat.beq_eq_true_eq, reduceCtorEq, Bool.false_eq_true, V.get, Nat.reduceEqDiff]
  rw [show List.take (kinds t).length (List.drop 0 (List.map Kind.v (kinds t))) = (kinds t).map Kind.v from by rw [List.drop_zero]; exact take_map_len _ _]
  refine SA.region ok (by kernel_rfl) [3, 4] ?_
  intro R r
  simp only [go_sem, strip]
  iterate 1 (refine opsA_cons fun Z q1 => ?_; simp only [go_sem, seval, -List.reduceReplicate]; (repeat' with_reducible refine And.intro ?_ ?_); all_goals first | (refine q1 _ ?_; clear q1 Z) | omega | rfl | decide | assumption | (intro _; omega) | (simp [roomFor, maxLen, by39, by3, by68, by70, by23, by100, ringsV_len] <;> omega))
  refine opsA_nil (r _ ?_)
  clear r R
  try simp only [go_sem, Nat.reduceBEq]
  refine thenK.normal (SA.seq ?_)
  refine SA.seq ?_
  refine SA.region ok (by kernel_rfl) [3, 4, 5] ?_
  intro R r
  simp only [go_sem, strip]
  iterate 1 (refine opsA_cons fun Z q1 => ?_; simp only [go_sem, seval, -List.reduceReplicate]; (repeat' with_reducible refine And.intro ?_ ?_); all_goals first | (refine q1 _ ?_; clear q1 Z) | omega | rfl | decide | assumption | (intro _; omega) | (simp [roomFor, maxLen, by39, by3, by68, by70, by23, by100, ringsV_len] <;> omega))
  refine opsA_nil (r _ ?_)
  clear r R
  try simp only [go_sem, Nat.reduceBEq]
  refine thenK.normal (SA.block ?_)
  refine SA.weaken ((St.le.own (t := 4) 23 rfl).trans ((St.le.keep [3, 4, 5]).trans (St.le.of_eq (by first | rfl | simp [ringsTo, ringsV])))) (SA.loop (fun n τ => ∃ (q : Nat), n = 4 - q ∧ (q ≤ 4) ∧ τ = { tm := [(3, true, .fs 100 ((kinds t).map Kind.v) false), (4, true, .sl 1 23 0 (ringsTo (testK (kinds t)) q).length false), (5, true, .int .i64 q)], ob := [.dead, .row 23 (ringsV (ringsTo (testK (kinds t)) q))], out := [], nt := 19 }) (4) ⟨0, rfl, by omega, rfl⟩ ?_)
  rintro n τ ⟨q, hn, hq4, rfl⟩
  refine SA.seq ?_
  refine SA.seq ?_
  refine SA.region ok (by kernel_rfl) [3, 4, 5, 9] ?_
  intro R r
  simp only [go_sem, strip]
  iterate 2 (refine opsA_cons fun Z q1 => ?_; simp only [go_sem, seval, -List.reduceReplicate]; (repeat' with_reducible refine And.intro ?_ ?_); all_goals first | (refine q1 _ ?_; clear q1 Z) | omega | rfl | decide | assumption | (intro _; omega) | (simp [roomFor, maxLen, by39, by3, by68, by70, by23, by100, ringsV_len] <;> omega))
  refine opsA_nil (r _ ?_)
  clear r R
  try simp only [go_sem, Nat.reduceBEq]
  refine thenK.normal ?_
  refine SA.cond rfl ?_ ?_
  · intro hb1
    simp only [decide_eq_true_eq, decide_eq_false_iff_not, Int.not_lt, Int.not_le] at hb1
    refine SA.skip ?_
    refine thenK.normal (SA.seq ?_)
    refine SA.block ?_
    refine SA.region ok (by kernel_rfl) [3, 4, 5] ?_
    intro R r
    simp only [go_sem, strip]
    iterate 4 (refine opsA_cons fun Z q1 => ?_; simp only [go_sem, seval, -List.reduceReplicate]; (repeat' with_reducible refine And.intro ?_ ?_); all_goals first | (refine q1 _ ?_; clear q1 Z) | omega | rfl | decide | assumption | (intro _; omega) | (simp [roomFor, maxLen, by39, by3, by68, by70, by23, by100, ringsV_len] <;> omega))
    refine opsA_cons fun Z q1 => ?_
    simp only [go_sem, seval, -List.reduceReplicate]
    repeat' with_reducible refine And.intro ?_ ?_
    all_goals try (first | omega | assumption | (intro _; omega))
    refine ⟨_, _, rfl, .inr (CallE.frzRow (i := 2) ok.sized rfl ?_)⟩
    simp only [St.frz, Tm.frz, E.frz, E.frzL, Obj.frz, List.map_cons, List.map_nil, List.set_cons_zero, List.set_cons_succ, Nat.reduceBEq, Nat.beq_refl, if_true, if_false, Nat.beq_eq_true_eq, reduceCtorEq, Bool.false_eq_true, V.get, Nat.reduceEqDiff]
    refine CallE.ctrZ (hon 4 [(q : Int)] (good_one (by omega))) (by simp [toVs, toV, ty75, ty23, List.take_of_length_le]) ?_
    try simp only [go_sem, seval, -List.reduceReplicate]
    repeat' with_reducible refine And.intro ?_ ?_
    all_goals first | (refine q1 _ ?_; clear q1 Z) | omega | rfl | decide | assumption | (intro _; omega) | (simp [roomFor, maxLen, by39, by3, by68, by70, by23, by100, ringsV_len] <;> omega)
    refine opsA_cons fun Z q1 => ?_
    simp only [go_sem, seval, -List.reduceReplicate]
    repeat' with_reducible refine And.intro ?_ ?_
    all_goals first | (refine q1 _ ?_; clear q1 Z) | omega | rfl | decide | assumption | (intro _; omega) | (have h1 := ringsTo_bound (testK (kinds t)) q; have h2 := ringsOn_bound (testK (kinds t)) 4 [(q : Int)]; simp [roomFor, maxLen, by39, by3, by68, by70, by23, by100, ringsV_len] <;> omega)
    iterate 1 (refine opsA_cons fun Z q1 => ?_; simp only [go_sem, seval, -List.reduceReplicate]; (repeat' with_reducible refine And.intro ?_ ?_); all_goals first | (refine q1 _ ?_; clear q1 Z) | omega | rfl | decide | assumption | (intro _; omega) | (simp [roomFor, maxLen, by39, by3, by68, by70, by23, by100, ringsV_len] <;> omega))
    refine opsA_nil (r _ ?_)
    clear r R
    try simp only [go_sem, Nat.reduceBEq]
    refine blockK.normal (thenK.normal ?_)
    refine SA.region ok (by kernel_rfl) [3, 4, 5] ?_
    intro R r
    simp only [go_sem, strip]
    iterate 3 (refine opsA_cons fun Z q1 => ?_; simp only [go_sem, seval, -List.reduceReplicate]; (repeat' with_reducible refine And.intro ?_ ?_); all_goals first | (refine q1 _ ?_; clear q1 Z) | omega | rfl | decide | assumption | (intro _; omega) | (simp [roomFor, maxLen, by39, by3, by68, by70, by23, by100, ringsV_len] <;> omega))
    refine opsA_nil (r _ ?_)
    clear r R
    try simp only [go_sem, Nat.reduceBEq]
    refine loopK.normal (4 - (q + 1)) _ (by omega) ((St.le.cut 2 rfl).trans (St.le.of_eq (by rw [take_self, ← ringsV_append, ringsTo_succ, List.length_append, wrap_succ (show q < 4 by omega) (by decide)]; rfl))) ⟨q + 1, rfl, by omega, rfl⟩
  · intro hb1
    simp only [decide_eq_true_eq, decide_eq_false_iff_not, Int.not_lt, Int.not_le] at hb1
    refine SA.exit ?_
    refine thenK.exit ?_
    refine loopK.exit ?_
    refine blockK.hit ?_
    refine thenK.normal (SA.seq ?_)
    refine SA.region ok (by kernel_rfl) [2] ?_
    intro R r
    simp only [go_sem, strip]
    iterate 2 (refine opsA_cons fun Z q1 => ?_; simp only [go_sem, seval, -List.reduceReplicate]; (repeat' with_reducible refine And.intro ?_ ?_); all_goals first | (refine q1 _ ?_; clear q1 Z) | omega | rfl | decide | assumption | (intro _; omega) | (simp [roomFor, maxLen, by39, by3, by68, by70, by23, by100, ringsV_len] <;> omega))
    refine opsA_nil (r _ ?_)
    clear r R
    try simp only [go_sem, Nat.reduceBEq]
    refine thenK.normal (SA.ret ?_)
    refine ctrZK.ret ?_
    simp only [resA, evalO, resV, backK, outE, toV, ty4, ty3, List.lookup_cons, List.lookup_nil, beq_self_eq_true, forall_const, true_and, and_true]
    simp only [go_sem, seval, -List.reduceReplicate]
    have hqq : q = 4 := by omega
    subst hqq
    rw [List.drop_zero, take_self]

end Go.Eng.Try
