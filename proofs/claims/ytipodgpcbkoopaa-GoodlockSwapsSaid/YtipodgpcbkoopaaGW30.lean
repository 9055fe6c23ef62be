/- A part of the proof: walks through the program's functions, and what they compute. -/
import Derived.Test.YtipodgpcbkoopaaE3
import Derived.Test.YtipodgpcbkoopaaM1
import Derived.Test.YtipodgpcbkoopaaE4
import Derived.Test.YtipodgpcbkoopaaGW29
namespace Go.Eng.Try
open Go.RowKit Go.Eng
set_option linter.unusedSimpArgs false
set_option linter.unusedVariables false

theorem concat_at1 (l : List Obj) (x y : Obj) : (l ++ [x] ++ [y])[l.length]? = some x := by simp
theorem concat_at2 (l : List Obj) (x y : Obj) : (l ++ [x] ++ [y])[l.length + 1]? = some y := by simp
theorem concat_at3 (l : List Obj) (x y : Obj) : (l ++ [x, y])[l.length]? = some x := by simp
theorem concat_at4 (l : List Obj) (x y : Obj) : (l ++ [x, y])[l.length + 1]? = some y := by simp
theorem list_ext {a b : List Int} (hl : a.length = b.length) (h : ∀ k, k < a.length → a.getD k default = b.getD k default) : a = b := by
  apply List.ext_getElem hl
  intro k h1 h2
  have := h k h1
  simpa [List.getD_eq_getElem?_getD, h1, h2] using this
/-- The first place of which p holds, or -1. -/
def findR (p : List Int → Bool) (l : List (List Int)) : Int := if l.any p then (l.findIdx p : Nat) else -1
theorem findR_hit {p : List Int → Bool} {l : List (List Int)} {i : Nat} (hi : i < l.length) (h0 : (l.take i).any p = false) (h1 : p (l.getD i default) = true) : findR p l = i := by
  have hi' : l.getD i default = l[i] := by simp [List.getD_eq_getElem?_getD, hi]
  have : l.any p = true := List.any_eq_true.2 ⟨_, getD_mem l hi, h1⟩
  unfold findR
  rw [if_pos this]
  have : l.findIdx p = i := by
    rw [List.findIdx_eq hi]
    rw [hi'] at h1
    refine ⟨h1, fun j hj => ?_⟩
    have := List.any_eq_false.1 h0 l[j] (List.mem_take_iff_getElem.2 ⟨j, by omega, rfl⟩)
    simpa using this
  rw [this]
theorem findR_miss {p : List Int → Bool} {l : List (List Int)} (h : l.any p = false) : findR p l = -1 := by simp [findR, h]
theorem findR_ge {p : List Int → Bool} {l : List (List Int)} : decide (0 ≤ findR p l) = l.any p := by
  unfold findR; cases l.any p <;> simp
theorem ringsV_at {r : List (List Int)} {i : Nat} (h : i < r.length) : (ringsV r).getD i default = V.list ((r.getD i default).map V.int) := getD_map (fun (l : List Int) => V.list (l.map V.int)) r h default
/-- Do two edges' goroutines hold no lock in common? -/
def apartB (t : List Event) (a b : Edge) : Bool := !((List.range 4).any fun n => (heldOf t a.event.toNat).getD n default && (heldOf t b.event.toNat).getD n default)
theorem edges_in {t : List Event} {e : Edge} (h : e ∈ edges t) : 0 ≤ e.event ∧ e.event.toNat < t.length ∧ e.event < t.length := by
  obtain ⟨k, h1, _, h2⟩ := edgesTo_mem h
  have := edgesAt_mem h2
  omega

attribute [local go_sem] argsV contentV fromVs Option.getD_some St.keep List.filterMap_cons List.filterMap_nil Option.map_some Option.map_none opG opQ opB newEs outE CallStepB guardA putK putE pureA evalO evalL constE pickA capsE capsV loadA fieldAddrA indexAddrA indexA sliceA evalOptI builtinA binA plainA shiftA eqA nilA arith shifts effA storeA appendA appB freshA St.kill Tm.kill E.kill E.killL Obj.kill elemsOf evalVs buildA okAt toV fromV zeroE V.get V.put V.sub V.setSub args0 CallStep CallStepQ i64min i64max u64min u64max u32min u32max u8min u8max Nat.zero_add List.length_map List.lookup_cons List.lookup_nil List.getElem?_cons_zero List.getElem?_cons_succ List.getElem?_toArray List.getElem?_nil Option.bind_some Option.bind_none List.size_toArray List.length_cons List.length_nil List.nil_append List.append_nil List.cons_append List.getD_cons_zero List.getD_cons_succ List.map_cons List.map_nil List.set_cons_zero List.set_cons_succ true_and and_true forall_const true_implies Bool.true_and Bool.and_true Bool.not_true Bool.not_false Bool.false_and Bool.and_false beq_self_eq_true Bool.true_beq Bool.false_beq beq_true beq_false eq_self false_implies V.toInt_int V.toBool_bool V.toList_list V.toList_agg V.toStr_str V.deref_ref if_true if_false Bool.false_eq_true Option.isSome_none Option.isSome_some Bool.false_or Bool.true_or Bool.or_false Bool.or_true cond_true cond_false implies_true and_self imp_self ty22 ty25 ty3 ty4 ty81 ty39 ty40 ty42 ty37 ty2 ty23 ty24 ty46 ty68 ty65 ty70 ty69 ty90 ty77 ty59 ty98 ty71 ty93 ty64 ty85 concat_at List.length_range zero39 z39 z3 z4 z70 z68 z42 z40 z37 z2 zero40 z69 z90 zero70 zero69 zero90 zero68 zero42 Int.toNat_natCast Int.natCast_zero Event.v0 Event.v3 Event.v5 Event.v7 Event.v8 Access.v0 Access.v1 Access.v2 beq_acc Edge.v0 Edge.v1 Edge.v2 Edge.v3 heldOf_len locksTo_len heldsTo_len nowL_len concat_at1 concat_at2 concat_at3 concat_at4 ringsV_len
-- slices.Equal[[]int,int]
theorem equal_ctr (a b : List Int) (ha : a.length ≤ maxLen) (hb : b.length ≤ maxLen) : Ctr Go.Proofs.Try.prog tab 29 [23, 23] [4] [.list (a.map V.int), .list (b.map V.int)] [.bool (decide (a = b))] := by
  refine Ctr.body ok Go.Proofs.Try.func29 rfl rfl 26 rfl [.tmp 4] rfl (by simp [fromVs]) ?_
  simp only [fromVs, fromV, args0, V.toList_list, V.toInt_int, V.toBool_bool, Nat.zero_add, Nat.reduceAdd, ty23]
  refine SA.seq ?_
  refine SA.region ok (by kernel_rfl) [0, 1] ?_
  intro R r
  simp only [go_sem, strip]
  iterate 1 (refine opsA_cons fun Z q1 => ?_; simp only [go_sem, seval, -List.reduceReplicate]; (repeat' with_reducible refine And.intro ?_ ?_); all_goals first | (refine q1 _ ?_; clear q1 Z) | omega | rfl | decide | assumption | (intro _; omega) | (simp; done) | (simp; omega))
  refine opsA_nil (r _ ?_)
  clear r R
  try simp only [go_sem, Nat.reduceBEq]
  refine thenK.normal (SA.seq ?_)
  refine SA.seq ?_
  refine SA.region ok (by kernel_rfl) [0, 1, 10] ?_
  intro R r
  simp only [go_sem, strip]
  iterate 5 (refine opsA_cons fun Z q1 => ?_; simp only [go_sem, seval, -List.reduceReplicate]; (repeat' with_reducible refine And.intro ?_ ?_); all_goals first | (refine q1 _ ?_; clear q1 Z) | omega | rfl | decide | assumption | (intro _; omega) | (simp; done) | (simp; omega) | (simp [roomFor, maxLen, by39, by3, by68, by70, by23] <;> omega))
  refine opsA_nil (r _ ?_)
  clear r R
  try simp only [go_sem, Nat.reduceBEq]
  refine thenK.normal ?_
  refine SA.cond rfl ?_ ?_
  · intro hb1
    have hne : a.length ≠ b.length := by
      intro h
      rw [h] at hb1
      simp at hb1
    refine SA.seq ?_
    refine SA.region ok (by kernel_rfl) [4] ?_
    intro R r
    simp only [go_sem, strip]
    iterate 1 (refine opsA_cons fun Z q1 => ?_; simp only [go_sem, seval, -List.reduceReplicate]; (repeat' with_reducible refine And.intro ?_ ?_); all_goals first | (refine q1 _ ?_; clear q1 Z) | omega | rfl | decide | assumption | (intro _; omega) | (simp; done) | (simp; omega))
    refine opsA_nil (r _ ?_)
    clear r R
    try simp only [go_sem, Nat.reduceBEq]
    refine thenK.normal (SA.ret ?_)
    refine thenK.ret ?_
    refine ctrK.ret ?_
    simp only [resA, evalO, resV, backK, outE, toV, ty4, ty3, List.lookup_cons, List.lookup_nil, beq_self_eq_true, forall_const, true_and, and_true]
    refine ⟨rfl, ?_⟩
    simp only [if_true, Option.some.injEq, V.bool.injEq]
    exact (decide_eq_false fun h => hne (by rw [h])).symm
  · intro hb1
    have hel : a.length = b.length := by
      have hx := hb1
      simp at hx
      omega
    refine SA.skip ?_
    refine thenK.normal (SA.seq ?_)
    refine SA.seq ?_
    refine SA.region ok (by kernel_rfl) [0, 1, 12, 13] ?_
    intro R r
    simp only [go_sem, strip]
    iterate 3 (refine opsA_cons fun Z q1 => ?_; simp only [go_sem, seval, -List.reduceReplicate]; (repeat' with_reducible refine And.intro ?_ ?_); all_goals first | (refine q1 _ ?_; clear q1 Z) | omega | rfl | decide | assumption | (intro _; omega) | (simp; done) | (simp; omega) | (simp [roomFor, maxLen, by39, by3, by68, by70, by23] <;> omega))
    refine opsA_nil (r _ ?_)
    clear r R
    try simp only [go_sem, Nat.reduceBEq]
    refine thenK.normal (SA.block ?_)
    refine SA.weaken (St.le.of_eq (by first | rfl | simp)) (SA.loop (fun n τ => ∃ (i : Nat), n = a.length - i ∧ (i ≤ a.length ∧ ∀ k, k < i → a.getD k default = b.getD k default) ∧ τ = { tm := [(0, true, .fs 3 (a.map V.int) false), (1, true, .fs 3 (b.map V.int) false), (12, true, .int .i64 a.length), (13, true, .int .i64 i)], ob := [], out := [], nt := 26 }) (a.length) ⟨0, rfl, ⟨Nat.zero_le _, fun k hk => by omega⟩, rfl⟩ ?_)
    rintro n τ ⟨i, hn, ⟨hi, hc⟩, rfl⟩
    refine SA.seq ?_
    refine SA.region ok (by kernel_rfl) [0, 1, 12, 13, 14] ?_
    intro R r
    simp only [go_sem, strip]
    iterate 1 (refine opsA_cons fun Z q1 => ?_; simp only [go_sem, seval, -List.reduceReplicate]; (repeat' with_reducible refine And.intro ?_ ?_); all_goals first | (refine q1 _ ?_; clear q1 Z) | omega | rfl | decide | assumption | (intro _; omega) | (simp; done) | (simp; omega))
    refine opsA_nil (r _ ?_)
    clear r R
    try simp only [go_sem, Nat.reduceBEq]
    refine thenK.normal (SA.seq ?_)
    refine SA.cond rfl ?_ ?_
    · intro hb2
      simp only [decide_eq_true_eq, decide_eq_false_iff_not, Int.not_lt, Int.not_le] at hb2
      refine SA.skip ?_
      refine thenK.normal (SA.seq ?_)
      refine SA.block ?_
      refine SA.seq ?_
      refine SA.region ok (by kernel_rfl) [0, 1, 5, 12, 13] ?_
      intro R r
      simp only [go_sem, strip]
      iterate 2 (refine opsA_cons fun Z q1 => ?_; simp only [go_sem, seval, -List.reduceReplicate]; (repeat' with_reducible refine And.intro ?_ ?_); all_goals first | (refine q1 _ ?_; clear q1 Z) | omega | rfl | decide | assumption | (intro _; omega) | (simp; done) | (simp; omega))
      refine opsA_nil (r _ ?_)
      clear r R
      try simp only [go_sem, Nat.reduceBEq]
      refine thenK.normal (SA.seq ?_)
      have hia : i < a.length := by omega
      have hib : i < b.length := by omega
      refine SA.regionQ ok mixed (by kernel_rfl) (by kernel_rfl) [0, 1, 12, 13, 24] ?_
      intro R r
      simp only [go_sem, strip]
      iterate 9 (refine opsQ_cons fun Z q1 => ?_; simp only [go_sem, seval, -List.reduceReplicate, getD_map V.int a hia, getD_map V.int b hib]; (repeat' with_reducible refine And.intro ?_ ?_); all_goals first | (refine q1 _ ?_; clear q1 Z) | omega | rfl | decide | assumption | (intro _; omega) | (simp; done) | (simp; omega))
      refine opsQ_nil (r _ ?_)
      clear r R
      try simp only [go_sem, Nat.reduceBEq]
      refine thenK.normal ?_
      refine SA.cond rfl ?_ ?_
      · intro hb3
        have hne : a.getD i default ≠ b.getD i default := by simpa using hb3
        refine SA.seq ?_
        refine SA.region ok (by kernel_rfl) [4] ?_
        intro R r
        simp only [go_sem, strip]
        iterate 1 (refine opsA_cons fun Z q1 => ?_; simp only [go_sem, seval, -List.reduceReplicate]; (repeat' with_reducible refine And.intro ?_ ?_); all_goals first | (refine q1 _ ?_; clear q1 Z) | omega | rfl | decide | assumption | (intro _; omega) | (simp; done) | (simp; omega))
        refine opsA_nil (r _ ?_)
        clear r R
        try simp only [go_sem, Nat.reduceBEq]
        refine thenK.normal (SA.ret ?_)
        refine blockK.ret ?_
        refine thenK.ret ?_
        refine loopK.ret ?_
        refine blockK.ret ?_
        refine thenK.ret ?_
        refine ctrK.ret ?_
        simp only [resA, evalO, resV, backK, outE, toV, ty4, ty3, List.lookup_cons, List.lookup_nil, beq_self_eq_true, forall_const, true_and, and_true]
        refine ⟨rfl, ?_⟩
        simp only [if_true, Option.some.injEq, V.bool.injEq]
        exact (decide_eq_false fun h => hne (by rw [h])).symm
      · intro hb3
        have heq : a.getD i default = b.getD i default := by simpa using hb3
        refine SA.skip ?_
        refine blockK.normal (thenK.normal ?_)
        refine SA.region ok (by kernel_rfl) [0, 1, 12, 13] ?_
        intro R r
        simp only [go_sem, strip]
        iterate 2 (refine opsA_cons fun Z q1 => ?_; simp only [go_sem, seval, -List.reduceReplicate]; (repeat' with_reducible refine And.intro ?_ ?_); all_goals first | (refine q1 _ ?_; clear q1 Z) | omega | rfl | decide | assumption | (intro _; omega) | (simp; done) | (simp; omega))
        refine opsA_nil (r _ ?_)
        clear r R
        try simp only [go_sem, Nat.reduceBEq]
        refine loopK.normal (a.length - (i + 1)) _ (by omega) (St.le.of_eq (by rw [wrap_succ hia ha])) ⟨i + 1, rfl, ⟨hia, fun k hk => ?_⟩, rfl⟩
        by_cases hki : k = i
        · subst hki; exact heq
        · exact hc k (by omega)
    · intro hb2
      simp only [decide_eq_true_eq, decide_eq_false_iff_not, Int.not_lt, Int.not_le] at hb2
      refine SA.exit ?_
      refine thenK.exit ?_
      refine loopK.exit ?_
      refine blockK.hit ?_
      refine thenK.normal (SA.seq ?_)
      refine SA.region ok (by kernel_rfl) [4] ?_
      intro R r
      simp only [go_sem, strip]
      iterate 1 (refine opsA_cons fun Z q1 => ?_; simp only [go_sem, seval, -List.reduceReplicate]; (repeat' with_reducible refine And.intro ?_ ?_); all_goals first | (refine q1 _ ?_; clear q1 Z) | omega | rfl | decide | assumption | (intro _; omega) | (simp; done) | (simp; omega))
      refine opsA_nil (r _ ?_)
      clear r R
      try simp only [go_sem, Nat.reduceBEq]
      refine thenK.normal (SA.ret ?_)
      refine ctrK.ret ?_
      simp only [resA, evalO, resV, backK, outE, toV, ty4, ty3, List.lookup_cons, List.lookup_nil, beq_self_eq_true, forall_const, true_and, and_true]
      refine ⟨rfl, ?_⟩
      simp only [if_true, Option.some.injEq, V.bool.injEq]
      exact (decide_eq_true (list_ext hel fun k hk => hc k (by omega))).symm

-- slices.IndexFunc[[][]int,[]int]
theorem indexRing_ctr (rs : List (List Int)) (hl : rs.length ≤ maxLen) (f : FuncId) (ts : List TypeId) (vs : List V) (p : List Int → Bool) (hf : ∀ l ∈ rs, ∀ (σ : St) (K : St → E → Prop), (∀ xs, K { σ with ob := σ.ob ++ xs } (.bool (p l))) → CallE Go.Proofs.Try.prog tab σ f (.fs 3 (l.map V.int) false :: capsE ts vs) K) : Ctr Go.Proofs.Try.prog tab 51 [24, 64] [3] [.list (ringsV rs), .clo f ts vs] [.int (findR p rs)] := by
  refine Ctr.body ok Go.Proofs.Try.func51 rfl rfl 19 rfl [.tmp 4] rfl (by simp [fromVs]) ?_
  simp only [fromVs, fromV, args0, V.toList_list, V.toInt_int, V.toBool_bool, Nat.zero_add, Nat.reduceAdd, ty24, ty64]
  refine SA.seq ?_
  refine SA.region ok (by kernel_rfl) [0, 1] ?_
  intro R r
  simp only [go_sem, strip]
  iterate 1 (refine opsA_cons fun Z q1 => ?_; simp only [go_sem, seval, -List.reduceReplicate]; (repeat' with_reducible refine And.intro ?_ ?_); all_goals first | (refine q1 _ ?_; clear q1 Z) | omega | rfl | decide | assumption | (intro _; omega) | (simp; done) | (simp; omega))
  refine opsA_nil (r _ ?_)
  clear r R
  try simp only [go_sem, Nat.reduceBEq]
  refine thenK.normal (SA.seq ?_)
  refine SA.seq ?_
  refine SA.region ok (by kernel_rfl) [0, 1, 7, 8] ?_
  intro R r
  simp only [go_sem, strip]
  iterate 3 (refine opsA_cons fun Z q1 => ?_; simp only [go_sem, seval, -List.reduceReplicate]; (repeat' with_reducible refine And.intro ?_ ?_); all_goals first | (refine q1 _ ?_; clear q1 Z) | omega | rfl | decide | assumption | (intro _; omega) | (simp; done) | (simp; omega) | (simp [roomFor, maxLen, by39, by3, by68, by70, by23] <;> omega))
  refine opsA_nil (r _ ?_)
  clear r R
  try simp only [go_sem, Nat.reduceBEq]
  refine thenK.normal (SA.block ?_)
  refine SA.weaken (St.le.of_eq (by first | rfl | simp)) (SA.loop (fun n τ => ∃ (i : Nat) (xs : List Obj), n = rs.length - i ∧ (i ≤ rs.length ∧ (rs.take i).any p = false) ∧ τ = { tm := [(0, true, .fs 23 (ringsV rs) false), (1, true, .fn f (capsE ts vs)), (7, true, .int .i64 rs.length), (8, true, .int .i64 i)], ob := xs, out := [], nt := 19 }) (rs.length) ⟨0, [], rfl, ⟨Nat.zero_le _, rfl⟩, rfl⟩ ?_)
  rintro n τ ⟨i, xs, hn, ⟨hi, hc⟩, rfl⟩
  refine SA.seq ?_
  refine SA.region ok (by kernel_rfl) [0, 1, 7, 8, 9] ?_
  intro R r
  simp only [go_sem, strip]
  iterate 1 (refine opsA_cons fun Z q1 => ?_; simp only [go_sem, seval, -List.reduceReplicate]; (repeat' with_reducible refine And.intro ?_ ?_); all_goals first | (refine q1 _ ?_; clear q1 Z) | omega | rfl | decide | assumption | (intro _; omega) | (simp; done) | (simp; omega))
  refine opsA_nil (r _ ?_)
  clear r R
  try simp only [go_sem, Nat.reduceBEq]
  refine thenK.normal (SA.seq ?_)
  refine SA.cond rfl ?_ ?_
  · intro hb1
    simp only [decide_eq_true_eq, decide_eq_false_iff_not, Int.not_lt, Int.not_le] at hb1
    refine SA.skip ?_
    refine thenK.normal (SA.seq ?_)
    refine SA.block ?_
    refine SA.seq ?_
    refine SA.region ok (by kernel_rfl) [0, 1, 5, 7, 8] ?_
    intro R r
    simp only [go_sem, strip]
    iterate 2 (refine opsA_cons fun Z q1 => ?_; simp only [go_sem, seval, -List.reduceReplicate]; (repeat' with_reducible refine And.intro ?_ ?_); all_goals first | (refine q1 _ ?_; clear q1 Z) | omega | rfl | decide | assumption | (intro _; omega) | (simp; done) | (simp; omega))
    refine opsA_nil (r _ ?_)
    clear r R
    try simp only [go_sem, Nat.reduceBEq]
    refine thenK.normal (SA.seq ?_)
    have hlt : i < rs.length := by omega
    refine SA.region ok (by kernel_rfl) [0, 1, 5, 7, 8, 16] ?_
    intro R r
    simp only [go_sem, strip]
    iterate 5 (refine opsA_cons fun Z q1 => ?_; simp only [go_sem, seval, -List.reduceReplicate, ringsV_at hlt]; (repeat' with_reducible refine And.intro ?_ ?_); all_goals first | (refine q1 _ ?_; clear q1 Z) | omega | rfl | decide | assumption | (intro _; omega) | (simp; done) | (simp; omega) | (simp [roomFor, maxLen, by39, by3, by68, by70, by23] <;> omega))
    refine opsA_cons fun Z q1 => ?_
    simp only [go_sem, seval, -List.reduceReplicate, ringsV_at hlt]
    repeat' with_reducible refine And.intro ?_ ?_
    all_goals try (first | omega | assumption | (intro _; omega))
    refine ⟨_, _, rfl, .inr (hf _ (getD_mem rs hlt) _ _ fun ys => ?_)⟩
    try simp only [go_sem, seval, -List.reduceReplicate, ringsV_at hlt]
    repeat' with_reducible refine And.intro ?_ ?_
    all_goals first | (refine q1 _ ?_; clear q1 Z) | omega | rfl | decide | assumption | (intro _; omega) | (simp; done) | (simp; omega) | (simp [roomFor, maxLen, by39, by3, by68, by70, by23] <;> omega)
    refine opsA_nil (r _ ?_)
    clear r R
    try simp only [go_sem, Nat.reduceBEq]
    refine thenK.normal ?_
    refine SA.cond rfl ?_ ?_
    · intro hb2
      skip
      refine SA.seq ?_
      refine SA.region ok (by kernel_rfl) [4] ?_
      intro R r
      simp only [go_sem, strip]
      iterate 2 (refine opsA_cons fun Z q1 => ?_; simp only [go_sem, seval, -List.reduceReplicate]; (repeat' with_reducible refine And.intro ?_ ?_); all_goals first | (refine q1 _ ?_; clear q1 Z) | omega | rfl | decide | assumption | (intro _; omega) | (simp; done) | (simp; omega))
      refine opsA_nil (r _ ?_)
      clear r R
      try simp only [go_sem, Nat.reduceBEq]
      refine thenK.normal (SA.ret ?_)
      refine blockK.ret ?_
      refine thenK.ret ?_
      refine loopK.ret ?_
      refine blockK.ret ?_
      refine thenK.ret ?_
      refine ctrK.ret ?_
      simp only [resA, evalO, resV, backK, outE, toV, ty4, ty3, List.lookup_cons, List.lookup_nil, beq_self_eq_true, forall_const, true_and, and_true]
      refine ⟨rfl, ?_⟩
      simp only [if_true, Option.some.injEq, V.int.injEq]
      exact (findR_hit hlt hc hb2).symm
    · intro hb2
      skip
      refine SA.skip ?_
      refine blockK.normal (thenK.normal ?_)
      refine SA.region ok (by kernel_rfl) [0, 1, 7, 8] ?_
      intro R r
      simp only [go_sem, strip]
      iterate 2 (refine opsA_cons fun Z q1 => ?_; simp only [go_sem, seval, -List.reduceReplicate]; (repeat' with_reducible refine And.intro ?_ ?_); all_goals first | (refine q1 _ ?_; clear q1 Z) | omega | rfl | decide | assumption | (intro _; omega) | (simp; done) | (simp; omega))
      refine opsA_nil (r _ ?_)
      clear r R
      try simp only [go_sem, Nat.reduceBEq]
      refine loopK.normal (rs.length - (i + 1)) _ (by omega) (St.le.of_eq (by rw [wrap_succ hlt hl])) ⟨i + 1, xs ++ ys, rfl, ⟨hlt, ?_⟩, rfl⟩
      rw [any_take _ rs hlt, hc, hb2]; rfl
  · intro hb1
    simp only [decide_eq_true_eq, decide_eq_false_iff_not, Int.not_lt, Int.not_le] at hb1
    refine SA.exit ?_
    refine thenK.exit ?_
    refine loopK.exit ?_
    refine blockK.hit ?_
    refine thenK.normal (SA.seq ?_)
    refine SA.region ok (by kernel_rfl) [4] ?_
    intro R r
    simp only [go_sem, strip]
    iterate 1 (refine opsA_cons fun Z q1 => ?_; simp only [go_sem, seval, -List.reduceReplicate]; (repeat' with_reducible refine And.intro ?_ ?_); all_goals first | (refine q1 _ ?_; clear q1 Z) | omega | rfl | decide | assumption | (intro _; omega) | (simp; done) | (simp; omega))
    refine opsA_nil (r _ ?_)
    clear r R
    try simp only [go_sem, Nat.reduceBEq]
    refine thenK.normal (SA.ret ?_)
    refine ctrK.ret ?_
    simp only [resA, evalO, resV, backK, outE, toV, ty4, ty3, List.lookup_cons, List.lookup_nil, beq_self_eq_true, forall_const, true_and, and_true]
    have : i = rs.length := by omega
    subst this
    rw [List.take_length] at hc
    refine ⟨rfl, ?_⟩
    simp only [if_true, Option.some.injEq, V.int.injEq]
    exact (findR_miss hc).symm

-- slices.ContainsFunc[[][]int,[]int]
theorem containsRing_ctr (rs : List (List Int)) (hl : rs.length ≤ maxLen) (f : FuncId) (ts : List TypeId) (vs : List V) (htl : ts.length = vs.length) (p : List Int → Bool) (hf : ∀ l ∈ rs, ∀ (σ : St) (K : St → E → Prop), (∀ xs, K { σ with ob := σ.ob ++ xs } (.bool (p l))) → CallE Go.Proofs.Try.prog tab σ f (.fs 3 (l.map V.int) false :: capsE ts vs) K) : Ctr Go.Proofs.Try.prog tab 27 [24, 64] [4] [.list (ringsV rs), .clo f ts vs] [.bool (rs.any p)] := by
  refine Ctr.body ok Go.Proofs.Try.func27 rfl rfl 9 rfl [.tmp 4] rfl (by simp [fromVs]) ?_
  simp only [fromVs, fromV, args0, V.toList_list, V.toInt_int, V.toBool_bool, Nat.zero_add, Nat.reduceAdd, ty24, ty64]
  refine SA.seq ?_
  refine SA.region ok (by kernel_rfl) [0, 1] ?_
  intro R r
  simp only [go_sem, strip]
  iterate 1 (refine opsA_cons fun Z q1 => ?_; simp only [go_sem, seval, -List.reduceReplicate]; (repeat' with_reducible refine And.intro ?_ ?_); all_goals first | (refine q1 _ ?_; clear q1 Z) | omega | rfl | decide | assumption | (intro _; omega) | (simp; done) | (simp; omega))
  refine opsA_nil (r _ ?_)
  clear r R
  try simp only [go_sem, Nat.reduceBEq]
  refine thenK.normal (SA.seq ?_)
  refine SA.region ok (by kernel_rfl) [4] ?_
  intro R r
  simp only [go_sem, strip]
  iterate 2 (refine opsA_cons fun Z q1 => ?_; simp only [go_sem, seval, -List.reduceReplicate]; (repeat' with_reducible refine And.intro ?_ ?_); all_goals first | (refine q1 _ ?_; clear q1 Z) | omega | rfl | decide | assumption | (intro _; omega) | (simp; done) | (simp; omega) | (simp [roomFor, maxLen, by39, by3, by68, by70, by23] <;> omega))
  refine opsA_cons fun Z q1 => ?_
  simp only [go_sem, seval, -List.reduceReplicate]
  repeat' with_reducible refine And.intro ?_ ?_
  all_goals try (first | omega | assumption | (intro _; omega))
  refine ⟨_, _, rfl, .inl ⟨_, CallQ.ctr ok (indexRing_ctr rs hl f ts vs p hf) (by simp [argsV, toVs, contentV, toV, ty24, ty64, ty23, capsV_capsE htl]) rfl, ?_⟩⟩
  try simp only [go_sem, seval, -List.reduceReplicate]
  repeat' with_reducible refine And.intro ?_ ?_
  all_goals first | (refine q1 _ ?_; clear q1 Z) | omega | rfl | decide | assumption | (intro _; omega) | (simp; done) | (simp; omega) | (simp [roomFor, maxLen, by39, by3, by68, by70, by23] <;> omega)
  iterate 2 (refine opsA_cons fun Z q1 => ?_; simp only [go_sem, seval, -List.reduceReplicate]; (repeat' with_reducible refine And.intro ?_ ?_); all_goals first | (refine q1 _ ?_; clear q1 Z) | omega | rfl | decide | assumption | (intro _; omega) | (simp; done) | (simp; omega) | (simp [roomFor, maxLen, by39, by3, by68, by70, by23] <;> omega))
  refine opsA_nil (r _ ?_)
  clear r R
  try simp only [go_sem, Nat.reduceBEq]
  refine thenK.normal (SA.ret ?_)
  refine ctrK.ret ?_
  simp only [resA, evalO, resV, backK, outE, toV, ty4, ty3, List.lookup_cons, List.lookup_nil, beq_self_eq_true, forall_const, true_and, and_true]
  refine ⟨rfl, ?_⟩
  simp only [if_true, Option.some.injEq, V.bool.injEq]
  exact findR_ge

theorem guarded1_call (ring : List Int) (hr : ring.length ≤ maxLen) (l : List Int) (hl : l.length ≤ maxLen) (c : Bool) {σ : St} {K : St → E → Prop} (h : ∀ xs, K { σ with ob := σ.ob ++ xs } (.bool (decide (l = ring)))) : CallE Go.Proofs.Try.prog tab σ 28 [.fs 3 (l.map V.int) c, .fptr 23 (.list (ring.map V.int))] K := by
  refine CallE.body ok Go.Proofs.Try.func28 rfl rfl 7 rfl [.tmp 3] rfl (by simp) ?_
  simp only [enter, args0, Nat.zero_add, Nat.reduceAdd]
  refine SA.seq ?_
  refine SA.region ok (by kernel_rfl) [0, 1] ?_
  intro R r
  simp only [go_sem, strip]
  iterate 1 (refine opsA_cons fun Z q1 => ?_; simp only [go_sem, seval, -List.reduceReplicate]; (repeat' with_reducible refine And.intro ?_ ?_); all_goals first | (refine q1 _ ?_; clear q1 Z) | omega | rfl | decide | assumption | (intro _; omega) | (simp; done) | (simp; omega))
  refine opsA_nil (r _ ?_)
  clear r R
  try simp only [go_sem, Nat.reduceBEq]
  refine thenK.normal (SA.seq ?_)
  refine SA.region ok (by kernel_rfl) [3] ?_
  intro R r
  simp only [go_sem, strip]
  iterate 2 (refine opsA_cons fun Z q1 => ?_; simp only [go_sem, seval, -List.reduceReplicate]; (repeat' with_reducible refine And.intro ?_ ?_); all_goals first | (refine q1 _ ?_; clear q1 Z) | omega | rfl | decide | assumption | (intro _; omega) | (simp; done) | (simp; omega) | (simp [roomFor, maxLen, by39, by3, by68, by70, by23] <;> omega))
  refine opsA_cons fun Z q1 => ?_
  simp only [go_sem, seval, -List.reduceReplicate]
  repeat' with_reducible refine And.intro ?_ ?_
  all_goals try (first | omega | assumption | (intro _; omega))
  first | refine ⟨_, _, rfl, .inl ⟨_, CallQ.ctr ok (equal_ctr l ring hl hr) (by first | rfl | (simp [argsV, toVs, contentV, toV, capsV, capsE, ty22, ty25, ty3, ty4, ty81, ty39, ty40, ty42, ty37, ty2, ty23, ty24, ty46, ty68, ty65, ty70, ty69, ty90, ty77, ty59, ty98, ty71, ty93, ty64, ty85, List.length_map, List.take_of_length_le])) rfl, ?_⟩⟩ | refine ⟨_, _, rfl, .inl ⟨_, fun hg => CallQ.ctr ok (equal_ctr l ring hl hr) (by first | rfl | (simp [argsV, toVs, contentV, toV, capsV, capsE, ty22, ty25, ty3, ty4, ty81, ty39, ty40, ty42, ty37, ty2, ty23, ty24, ty46, ty68, ty65, ty70, ty69, ty90, ty77, ty59, ty98, ty71, ty93, ty64, ty85, List.length_map, List.take_of_length_le])) rfl, ?_⟩⟩
  simp only [go_sem, seval, -List.reduceReplicate]
  repeat' with_reducible refine And.intro ?_ ?_
  all_goals first | (refine q1 _ ?_; clear q1 Z) | omega | rfl | decide | assumption | (intro _; omega) | (simp; done) | (simp; omega) | (simp [roomFor, maxLen, by39, by3, by68, by70, by23] <;> omega)
  iterate 1 (refine opsA_cons fun Z q1 => ?_; simp only [go_sem, seval, -List.reduceReplicate]; (repeat' with_reducible refine And.intro ?_ ?_); all_goals first | (refine q1 _ ?_; clear q1 Z) | omega | rfl | decide | assumption | (intro _; omega) | (simp; done) | (simp; omega) | (simp [roomFor, maxLen, by39, by3, by68, by70, by23] <;> omega))
  refine opsA_nil (r _ ?_)
  clear r R
  try simp only [go_sem, Nat.reduceBEq]
  refine thenK.normal (SA.ret ?_)
  refine bodyK.ret ?_
  simp only [resA, evalO, resV, backK, outE, toV, ty4, ty3, List.lookup_cons, List.lookup_nil, beq_self_eq_true, forall_const, true_and, and_true]
  simpa using h []

theorem apart_call (t : List Event) (ht : t.length ≤ 257) : Tests 31 [65] [.list (heldsTo t t.length)] (edges t) (apartB t) := by
  intro a b ha hb σ K h
  show CallE Go.Proofs.Try.prog tab σ 31 [.data 68 a.v, .data 68 b.v, .fptr 65 (.list (heldsTo t t.length))] K
  obtain ⟨a0, a1, a2⟩ := edges_in ha
  obtain ⟨b0, b1, b2⟩ := edges_in hb
  have htm : t.length ≤ maxLen := Nat.le_trans ht (by decide)
  refine CallE.body ok Go.Proofs.Try.func31 rfl rfl 28 rfl [.tmp 5] rfl (by simp) ?_
  simp only [enter, args0, Nat.zero_add, Nat.reduceAdd]
  refine SA.seq ?_
  refine SA.region ok (by kernel_rfl) [2, 3, 4] ?_
  intro R r
  simp only [go_sem, strip]
  iterate 3 (refine opsA_cons fun Z q1 => ?_; simp only [go_sem, seval, -List.reduceReplicate]; (repeat' with_reducible refine And.intro ?_ ?_); all_goals first | (refine q1 _ ?_; clear q1 Z) | omega | rfl | decide | assumption | (intro _; omega) | (simp; done))
  refine opsA_nil (r _ ?_)
  clear r R
  try simp only [go_sem, Nat.reduceBEq]
  refine thenK.normal (SA.seq ?_)
  refine SA.seq ?_
  refine SA.region ok (by kernel_rfl) [2, 4, 12, 13] ?_
  intro R r
  simp only [go_sem, strip]
  iterate 6 (refine opsA_cons fun Z q1 => ?_; simp only [go_sem, seval, -List.reduceReplicate, heldsTo_at a1]; (repeat' with_reducible refine And.intro ?_ ?_); all_goals first | (refine q1 _ ?_; clear q1 Z) | omega | rfl | decide | assumption | (intro _; omega) | (simp; done))
  refine opsA_nil (r _ ?_)
  clear r R
  try simp only [go_sem, Nat.reduceBEq]
  refine thenK.normal (SA.block ?_)
  refine SA.weaken (St.le.of_eq (by first | rfl | simp)) (SA.loop (fun n τ => ∃ (q : Nat), n = 4 - q ∧ (q ≤ 4 ∧ ((List.range q).any fun n => (heldOf t a.event.toNat).getD n default && (heldOf t b.event.toNat).getD n default) = false) ∧ τ = { tm := [(2, true, .fptr 65 (.list (heldsTo t t.length))), (4, true, .ptr (σ.ob.length + 1) [] 68), (12, true, .data 70 (.agg ((heldOf t a.event.toNat).map V.bool))), (13, true, .int .i64 q)], ob := σ.ob ++ [.var 68 (.data 68 a.v), .var 68 (.data 68 b.v)], out := σ.tm :: σ.out, nt := 28 }) (4) ⟨0, rfl, ⟨by omega, rfl⟩, rfl⟩ ?_)
  rintro n τ ⟨q, hn, ⟨hq4, hc⟩, rfl⟩
  refine SA.seq ?_
  refine SA.region ok (by kernel_rfl) [2, 4, 12, 13, 14] ?_
  intro R r
  simp only [go_sem, strip]
  iterate 1 (refine opsA_cons fun Z q1 => ?_; simp only [go_sem, seval, -List.reduceReplicate]; (repeat' with_reducible refine And.intro ?_ ?_); all_goals first | (refine q1 _ ?_; clear q1 Z) | omega | rfl | decide | assumption | (intro _; omega) | (simp; done))
  refine opsA_nil (r _ ?_)
  clear r R
  try simp only [go_sem, Nat.reduceBEq]
  refine thenK.normal (SA.seq ?_)
  refine SA.cond rfl ?_ ?_
  · intro hb1
    simp only [decide_eq_true_eq, decide_eq_false_iff_not, Int.not_lt, Int.not_le] at hb1
    refine SA.skip ?_
    refine thenK.normal (SA.seq ?_)
    refine SA.block ?_
    refine SA.seq ?_
    have hqa : q < (heldOf t a.event.toNat).length := by rw [heldOf_len]; omega
    have hqb : q < (heldOf t b.event.toNat).length := by rw [heldOf_len]; omega
    refine SA.region ok (by kernel_rfl) [2, 4, 6, 7, 12, 13] ?_
    intro R r
    simp only [go_sem, strip]
    iterate 4 (refine opsA_cons fun Z q1 => ?_; simp only [go_sem, seval, -List.reduceReplicate, getD_map V.bool (heldOf t a.event.toNat) hqa]; (repeat' with_reducible refine And.intro ?_ ?_); all_goals first | (refine q1 _ ?_; clear q1 Z) | omega | rfl | decide | assumption | (intro _; omega) | (simp; done))
    refine opsA_nil (r _ ?_)
    clear r R
    try simp only [go_sem, Nat.reduceBEq]
    refine thenK.normal (SA.seq ?_)
    refine SA.region ok (by kernel_rfl) [2, 4, 12, 13, 26] ?_
    intro R r
    simp only [go_sem, strip]
    iterate 10 (refine opsA_cons fun Z q1 => ?_; simp only [go_sem, seval, -List.reduceReplicate, heldsTo_at b1, getD_map V.bool (heldOf t b.event.toNat) hqb]; (repeat' with_reducible refine And.intro ?_ ?_); all_goals first | (refine q1 _ ?_; clear q1 Z) | omega | rfl | decide | assumption | (intro _; omega) | (simp; done))
    refine opsA_nil (r _ ?_)
    clear r R
    try simp only [go_sem, Nat.reduceBEq]
    refine thenK.normal ?_
    refine SA.cond rfl ?_ ?_
    · intro hb2
      skip
      refine SA.seq ?_
      refine SA.region ok (by kernel_rfl) [5] ?_
      intro R r
      simp only [go_sem, strip]
      iterate 1 (refine opsA_cons fun Z q1 => ?_; simp only [go_sem, seval, -List.reduceReplicate]; (repeat' with_reducible refine And.intro ?_ ?_); all_goals first | (refine q1 _ ?_; clear q1 Z) | omega | rfl | decide | assumption | (intro _; omega) | (simp; done))
      refine opsA_nil (r _ ?_)
      clear r R
      try simp only [go_sem, Nat.reduceBEq]
      refine thenK.normal (SA.ret ?_)
      refine blockK.ret ?_
      refine thenK.ret ?_
      refine loopK.ret ?_
      refine blockK.ret ?_
      refine thenK.ret ?_
      refine bodyK.ret ?_
      simp only [resA, evalO, resV, backK, outE, toV, ty4, ty3, List.lookup_cons, List.lookup_nil, beq_self_eq_true, forall_const, true_and, and_true]
      have hqq : ((heldOf t a.event.toNat).getD q default && (heldOf t b.event.toNat).getD q default) = true := by
        cases h1 : (heldOf t a.event.toNat).getD q default <;> rw [h1] at hb2 <;> first | (cases hb2; done) | exact hb2
      have hap : apartB t a b = false := by
        unfold apartB
        rw [List.any_eq_true.2 ⟨q, List.mem_range.2 (by omega), hqq⟩]; rfl
      rw [hap] at h
      exact h [.var 68 (.data 68 a.v), .var 68 (.data 68 b.v)]
    · intro hb2
      skip
      refine SA.skip ?_
      refine blockK.normal (thenK.normal ?_)
      refine SA.region ok (by kernel_rfl) [2, 4, 12, 13] ?_
      intro R r
      simp only [go_sem, strip]
      iterate 2 (refine opsA_cons fun Z q1 => ?_; simp only [go_sem, seval, -List.reduceReplicate]; (repeat' with_reducible refine And.intro ?_ ?_); all_goals first | (refine q1 _ ?_; clear q1 Z) | omega | rfl | decide | assumption | (intro _; omega) | (simp; done))
      refine opsA_nil (r _ ?_)
      clear r R
      try simp only [go_sem, Nat.reduceBEq]
      have hqq : ((heldOf t a.event.toNat).getD q default && (heldOf t b.event.toNat).getD q default) = false := by
        cases h1 : (heldOf t a.event.toNat).getD q default <;> rw [h1] at hb2 <;> first | rfl | exact hb2
      refine loopK.normal (4 - (q + 1)) _ (by omega) (St.le.of_eq (by rw [wrap_succ (show q < 4 by omega) (by decide)])) ⟨q + 1, rfl, ⟨by omega, by rw [any_range_succ, hc, hqq]; rfl⟩, rfl⟩
  · intro hb1
    simp only [decide_eq_true_eq, decide_eq_false_iff_not, Int.not_lt, Int.not_le] at hb1
    refine SA.exit ?_
    refine thenK.exit ?_
    refine loopK.exit ?_
    refine blockK.hit ?_
    refine thenK.normal (SA.seq ?_)
    refine SA.region ok (by kernel_rfl) [5] ?_
    intro R r
    simp only [go_sem, strip]
    iterate 1 (refine opsA_cons fun Z q1 => ?_; simp only [go_sem, seval, -List.reduceReplicate]; (repeat' with_reducible refine And.intro ?_ ?_); all_goals first | (refine q1 _ ?_; clear q1 Z) | omega | rfl | decide | assumption | (intro _; omega) | (simp; done))
    refine opsA_nil (r _ ?_)
    clear r R
    try simp only [go_sem, Nat.reduceBEq]
    refine thenK.normal (SA.ret ?_)
    refine bodyK.ret ?_
    simp only [resA, evalO, resV, backK, outE, toV, ty4, ty3, List.lookup_cons, List.lookup_nil, beq_self_eq_true, forall_const, true_and, and_true]
    have hq : q = 4 := by omega
    subst hq
    have hap : apartB t a b = true := by unfold apartB; rw [hc]; rfl
    rw [hap] at h
    exact h [.var 68 (.data 68 a.v), .var 68 (.data 68 b.v)]

end Go.Eng.Try
