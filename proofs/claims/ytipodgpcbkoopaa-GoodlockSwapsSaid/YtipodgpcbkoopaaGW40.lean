/- A part of the proof: walks through the program's functions, and what they compute. -/
import Derived.Test.YtipodgpcbkoopaaE3
import Derived.Test.YtipodgpcbkoopaaM1
import Derived.Test.YtipodgpcbkoopaaE4
import Derived.Test.YtipodgpcbkoopaaGW38
namespace Go.Eng.Try
open Go.RowKit Go.Eng
set_option linter.unusedSimpArgs false
set_option linter.unusedVariables false

def alone (t : List Event) (i : Nat) : List Event := (t.take i).filter fun e => decide (e.go = (t.getD 0 default).go)
theorem alone_hit {t : List Event} {i : Nat} (h : i < t.length) (hg : (t.getD i default).go = (t.getD 0 default).go) : alone t (i + 1) = alone t i ++ [t.getD i default] := by
  unfold alone
  have e : t.getD i default = t[i] := by simp [List.getD_eq_getElem?_getD, h]
  rw [e] at hg ⊢
  rw [List.take_succ_eq_append_getElem h, List.filter_append]
  simp [hg]
theorem alone_miss {t : List Event} {i : Nat} (h : i < t.length) (hg : ¬ (t.getD i default).go = (t.getD 0 default).go) : alone t (i + 1) = alone t i := by
  unfold alone
  have e : t.getD i default = t[i] := by simp [List.getD_eq_getElem?_getD, h]
  rw [e] at hg
  rw [List.take_succ_eq_append_getElem h, List.filter_append, List.filter_cons_of_neg (by simpa using hg)]
  simp
theorem alone_len (t : List Event) (i : Nat) : (alone t i).length ≤ i := by
  unfold alone
  exact Nat.le_trans (List.length_filter_le _ _) (by simp; omega)
theorem alone_6 {t : List Event} (h6 : ∀ e ∈ t, e.touch.length = 6) (i : Nat) : ∀ e ∈ alone t i, e.touch.length = 6 := fun e he => h6 e (List.mem_of_mem_take (List.mem_filter.1 he).1)
theorem alone_go {t : List Event} {i : Nat} {e : Event} (he : e ∈ alone t i) : e.go = (t.getD 0 default).go := of_decide_eq_true (List.mem_filter.1 he).2

theorem edge_of {t : List Event} {e : Edge} (h : e ∈ edges t) : ∃ k : Nat, k < t.length ∧ e.event = k ∧ e.go = (t.getD k default).go ∧ takes (t.getD k default) = true ∧ ∃ f : Nat, f < 4 ∧ (heldOf t k).getD f false = true ∧ (f : Int) ≠ lockOf (t.getD k default) ∧ e.from_ = f ∧ e.to_ = lockOf (t.getD k default) := by
  obtain ⟨k, h1, h0, h2⟩ := edgesTo_mem h
  unfold edgesAt at h2
  simp only [List.mem_map, List.mem_filter, List.mem_range, Bool.and_eq_true, decide_eq_true_eq] at h2
  obtain ⟨f, ⟨hf, h3, h4⟩, rfl⟩ := h2
  exact ⟨k, h1, rfl, rfl, h0, f, hf, h3, h4, rfl, rfl⟩
theorem chosen_two {fit : Edge → Edge → Bool} {ring : List Int} {all : List Edge} (h : ∀ a ∈ all, ∀ b ∈ all, a.go = b.go ∨ fit a b = false) {n : Nat} (hn : 2 ≤ n) : chosen fit ring all n [] = false := by
  obtain ⟨m, rfl⟩ : ∃ m, n = m + 2 := ⟨n - 2, by omega⟩
  rw [Bool.eq_false_iff]
  intro hc
  unfold chosen at hc
  obtain ⟨a, ha, hc⟩ := List.any_eq_true.1 hc
  simp only [Bool.and_eq_true] at hc
  obtain ⟨_, hc⟩ := hc
  unfold chosen at hc
  obtain ⟨b, hb, hc⟩ := List.any_eq_true.1 hc
  simp only [Bool.and_eq_true, Bool.not_eq_true'] at hc
  obtain ⟨⟨_, hc⟩, _⟩ := hc
  unfold clashes at hc
  simp only [List.nil_append, List.any_cons, List.any_nil, Bool.or_false, Bool.or_eq_false_iff, decide_eq_false_iff_not, Bool.not_eq_false'] at hc
  rcases h a ha b hb with h | h
  · exact hc.1 h
  · rw [h] at hc; exact absurd hc.2 (by simp)
theorem ringsOn_none {test : List Int → Bool} (h : ∀ l, test l = false) : ∀ f l, ringsOn test f l = []
  | 0, _ => rfl
  | f + 1, l => by
    rw [ringsOn, h l]
    simp only [Bool.false_eq_true, if_false, List.nil_append]
    rw [List.flatMap_eq_nil_iff]
    exact fun n _ => ringsOn_none h f _
theorem alone_rings {t : List Event} (h6 : ∀ e ∈ t, e.touch.length = 6) (i : Nat) : ringsD (alone t i) = [] := by
  rw [← ringsD_eq (alone_6 h6 i)]
  split
  · unfold ringsOf ringsTo
    rw [List.flatMap_eq_nil_iff]
    intro n _
    refine ringsOn_none (fun l => ?_) 4 _
    unfold isRing
    by_cases hl : 1 < l.length
    · rw [chosen_two (fun a ha b hb => .inl ?_) hl]; simp
      have hgo : ∀ x ∈ edges (alone t i), x.go = (t.getD 0 default).go := fun x hx => by
        obtain ⟨k, hk, _, h, _⟩ := edge_of hx
        rw [h]
        exact alone_go (getD_mem _ hk)
      rw [hgo a ha, hgo b hb]
    · simp [hl]
  · rfl

attribute [local go_sem] argsV contentV fromVs Option.getD_some St.keep List.filterMap_cons List.filterMap_nil Option.map_some Option.map_none opG opQ opB newEs outE CallStepB guardA putK putE pureA evalO evalL constE pickA capsE capsV loadA fieldAddrA indexAddrA indexA sliceA evalOptI builtinA binA plainA shiftA eqA nilA arith shifts effA storeA appendA appB freshA St.kill Tm.kill E.kill E.killL Obj.kill elemsOf evalVs buildA okAt toV fromV zeroE V.get V.put V.sub V.setSub args0 CallStep CallStepQ i64min i64max u64min u64max u32min u32max u8min u8max Nat.zero_add List.length_map List.lookup_cons List.lookup_nil List.getElem?_cons_zero List.getElem?_cons_succ List.getElem?_toArray List.getElem?_nil Option.bind_some Option.bind_none List.size_toArray List.length_cons List.length_nil List.nil_append List.append_nil List.cons_append List.getD_cons_zero List.getD_cons_succ List.map_cons List.map_nil List.set_cons_zero List.set_cons_succ true_and and_true forall_const true_implies Bool.true_and Bool.and_true Bool.not_true Bool.not_false Bool.false_and Bool.and_false beq_self_eq_true Bool.true_beq Bool.false_beq beq_true beq_false eq_self false_implies V.toInt_int V.toBool_bool V.toList_list V.toList_agg V.toStr_str V.deref_ref if_true if_false Bool.false_eq_true Option.isSome_none Option.isSome_some Bool.false_or Bool.true_or Bool.or_false Bool.or_true cond_true cond_false implies_true and_self imp_self ty22 ty25 ty3 ty4 ty81 ty39 ty40 ty42 ty37 ty2 ty23 ty24 ty46 ty68 ty65 ty70 ty69 ty90 ty77 ty59 ty100 ty75 ty98 ty71 ty93 ty64 ty85 concat_at List.length_range zero39 z39 z3 z4 z70 z68 z42 z40 z37 z2 zero40 z69 z90 zero70 zero69 zero90 zero68 zero42 Int.toNat_natCast Int.natCast_zero Event.v0 Event.v3 Event.v5 Event.v7 Event.v8 Access.v0 Access.v1 Access.v2 beq_acc Edge.v0 Edge.v1 Edge.v2 Edge.v3 heldOf_len locksTo_len heldsTo_len nowL_len ringsV_len Kind.v0 Kind.v1 Kind.v2 Kind.v3 beq_kind z100 zero100 z77 zero77
theorem lawAlone_ctr (t : List Event) (ht : t.length ≤ maxLen) (hby : t.length * 208 ≤ 140737488355328) (h6 : ∀ e ∈ t, e.touch.length = 6) : Ctr Go.Proofs.Try.prog tab 4 [22] [4] [.list (t.map Event.v)] [.bool true] := by
  refine Ctr.body ok Go.Proofs.Try.func4 rfl rfl 48 rfl [.tmp 2] rfl (by simp [fromVs]) ?_
  simp only [fromVs, fromV, args0, V.toList_list, V.toInt_int, V.toBool_bool, Nat.zero_add, Nat.reduceAdd, ty22]
  refine SA.seq ?_
  refine SA.region ok (by kernel_rfl) [0] ?_
  intro R r
  simp only [go_sem, strip]
  iterate 1 (refine opsA_cons fun Z q1 => ?_; simp only [go_sem, seval, -List.reduceReplicate]; (repeat' with_reducible refine And.intro ?_ ?_); all_goals first | (refine q1 _ ?_; clear q1 Z) | omega | rfl | decide | assumption | (intro _; omega) | (simp; done) | (simp; omega))
  refine opsA_nil (r _ ?_)
  clear r R
  try simp only [go_sem, Nat.reduceBEq]
  refine thenK.normal (SA.seq ?_)
  refine SA.region ok (by kernel_rfl) [0, 3] ?_
  intro R r
  simp only [go_sem, strip]
  iterate 1 (refine opsA_cons fun Z q1 => ?_; simp only [go_sem, seval, -List.reduceReplicate]; (repeat' with_reducible refine And.intro ?_ ?_); all_goals first | (refine q1 _ ?_; clear q1 Z) | omega | rfl | decide | assumption | (intro _; omega) | (simp; done) | (simp; omega))
  refine opsA_nil (r _ ?_)
  clear r R
  try simp only [go_sem, Nat.reduceBEq]
  refine thenK.normal (SA.seq ?_)
  refine SA.seq ?_
  refine SA.weaken (St.le.own (t := 3) 42 rfl) ?_
  refine SA.region ok (by kernel_rfl) [0, 3, 8, 9, 10] ?_
  intro R r
  simp only [go_sem, strip]
  iterate 3 (refine opsA_cons fun Z q1 => ?_; simp only [go_sem, seval, -List.reduceReplicate]; (repeat' with_reducible refine And.intro ?_ ?_); all_goals first | (refine q1 _ ?_; clear q1 Z) | omega | rfl | decide | assumption | (intro _; omega) | (simp; done) | (simp; omega) | (simp [roomFor, maxLen, by39, by3, by68, by70, by23, by100] <;> omega))
  refine opsA_nil (r _ ?_)
  clear r R
  try simp only [go_sem, Nat.reduceBEq]
  refine thenK.normal (SA.block ?_)
  refine SA.weaken (St.le.of_eq (by first | rfl | simp)) (SA.loop (fun n τ => ∃ (i : Nat), n = t.length - i ∧ (i ≤ t.length) ∧ τ = { tm := [(0, true, .fs 42 (t.map Event.v) false), (3, true, .sl 0 42 0 (alone t i).length false), (8, true, .fs 42 (t.map Event.v) false), (9, true, .int .i64 t.length), (10, true, .int .i64 i)], ob := [.row 42 ((alone t i).map Event.v)], out := [], nt := 48 }) (t.length) ⟨0, rfl, Nat.zero_le _, rfl⟩ ?_)
  rintro n τ ⟨i, hn, hi, rfl⟩
  refine SA.seq ?_
  refine SA.region ok (by kernel_rfl) [0, 3, 8, 9, 10, 11] ?_
  intro R r
  simp only [go_sem, strip]
  iterate 1 (refine opsA_cons fun Z q1 => ?_; simp only [go_sem, seval, -List.reduceReplicate]; (repeat' with_reducible refine And.intro ?_ ?_); all_goals first | (refine q1 _ ?_; clear q1 Z) | omega | rfl | decide | assumption | (intro _; omega) | (simp; done) | (simp; omega))
  refine opsA_nil (r _ ?_)
  clear r R
  try simp only [go_sem, Nat.reduceBEq]
  refine thenK.normal (SA.seq ?_)
  refine SA.cond rfl ?_ ?_
  · intro hb1
    try simp only [decide_eq_true_eq, decide_eq_false_iff_not] at hb1
    refine SA.skip ?_
    refine thenK.normal (SA.seq ?_)
    refine SA.block ?_
    refine SA.seq ?_
    have hlt : i < t.length := by omega
    have h0 : 0 < t.length := by omega
    have h0' : decide ((0 : Int) < t.length) = true := by simpa using h0
    have hal := alone_len t i
    refine SA.region ok (by kernel_rfl) [0, 3, 5, 8, 9, 10] ?_
    intro R r
    simp only [go_sem, strip]
    iterate 4 (refine opsA_cons fun Z q1 => ?_; simp only [go_sem, seval, -List.reduceReplicate, getD_map Event.v t hlt]; (repeat' with_reducible refine And.intro ?_ ?_); all_goals first | (refine q1 _ ?_; clear q1 Z) | omega | rfl | decide | assumption | (intro _; omega) | (simp; done) | (simp; omega) | (simp [roomFor, maxLen, by39, by3, by68, by70, by23, by100] <;> omega))
    refine opsA_nil (r _ ?_)
    clear r R
    try simp only [go_sem, Nat.reduceBEq]
    refine thenK.normal (SA.seq ?_)
    refine SA.regionQ ok mixed (by kernel_rfl) (by kernel_rfl) [0, 3, 5, 8, 9, 10, 25] ?_
    intro R r
    simp only [go_sem, strip]
    iterate 12 (refine opsQ_cons fun Z q1 => ?_; simp only [go_sem, seval, -List.reduceReplicate, h0', getD_map Event.v t hlt, getD_map Event.v t h0]; (repeat' with_reducible refine And.intro ?_ ?_); all_goals first | (refine q1 _ ?_; clear q1 Z) | omega | rfl | decide | assumption | (intro _; omega) | (simp; done) | (simp; omega) | (simp [roomFor, maxLen, by39, by3, by68, by70, by23, by100] <;> omega))
    refine opsQ_nil (r _ ?_)
    clear r R
    try simp only [go_sem, Nat.reduceBEq]
    refine thenK.normal ?_
    refine SA.cond rfl ?_ ?_
    · intro hb2
      simp at hb2
      refine SA.region ok (by kernel_rfl) [0, 3, 8, 9, 10] ?_
      intro R r
      simp only [go_sem, strip]
      iterate 3 (refine opsA_cons fun Z q1 => ?_; simp only [go_sem, seval, -List.reduceReplicate, List.drop_zero, List.take_succ_cons, List.take_zero, getD_map Event.v t hlt]; (repeat' with_reducible refine And.intro ?_ ?_); all_goals first | (refine q1 _ ?_; clear q1 Z) | omega | rfl | decide | assumption | (intro _; omega) | (simp; done) | (simp; omega) | (simp [roomFor, maxLen, by39, by3, by68, by70, by23, by100] <;> omega))
      refine opsA_cons fun Z q1 => ?_
      simp only [go_sem, seval, -List.reduceReplicate, List.drop_zero, List.take_succ_cons, List.take_zero, getD_map Event.v t hlt]
      repeat' with_reducible refine And.intro ?_ ?_
      all_goals first | (refine q1 _ ?_; clear q1 Z) | omega | rfl | (simp; done) | exact ⟨by omega, by rw [by42]; omega⟩
      iterate 1 (refine opsA_cons fun Z q1 => ?_; simp only [go_sem, seval, -List.reduceReplicate, List.drop_zero, List.take_succ_cons, List.take_zero, getD_map Event.v t hlt]; (repeat' with_reducible refine And.intro ?_ ?_); all_goals first | (refine q1 _ ?_; clear q1 Z) | omega | rfl | decide | assumption | (intro _; omega) | (simp; done) | (simp; omega) | (simp [roomFor, maxLen, by39, by3, by68, by70, by23, by100] <;> omega))
      refine opsA_nil (r _ ?_)
      clear r R
      try simp only [go_sem, Nat.reduceBEq]
      refine blockK.normal (thenK.normal ?_)
      refine SA.region ok (by kernel_rfl) [0, 3, 8, 9, 10] ?_
      intro R r
      simp only [go_sem, strip]
      iterate 2 (refine opsA_cons fun Z q1 => ?_; simp only [go_sem, seval, -List.reduceReplicate]; (repeat' with_reducible refine And.intro ?_ ?_); all_goals first | (refine q1 _ ?_; clear q1 Z) | omega | rfl | decide | assumption | (intro _; omega) | (simp; done) | (simp; omega))
      refine opsA_nil (r _ ?_)
      clear r R
      try simp only [go_sem, Nat.reduceBEq]
      refine loopK.normal (t.length - (i + 1)) _ (by omega) ((St.le.cut 1 rfl).trans (St.le.of_eq (by rw [wrap_succ hlt ht, alone_hit hlt (by simpa using hb2)]; simp [List.take_of_length_le]))) ⟨i + 1, rfl, hlt, rfl⟩
    · intro hb2
      simp at hb2
      refine SA.skip ?_
      refine blockK.normal (thenK.normal ?_)
      refine SA.region ok (by kernel_rfl) [0, 3, 8, 9, 10] ?_
      intro R r
      simp only [go_sem, strip]
      iterate 2 (refine opsA_cons fun Z q1 => ?_; simp only [go_sem, seval, -List.reduceReplicate]; (repeat' with_reducible refine And.intro ?_ ?_); all_goals first | (refine q1 _ ?_; clear q1 Z) | omega | rfl | decide | assumption | (intro _; omega) | (simp; done) | (simp; omega))
      refine opsA_nil (r _ ?_)
      clear r R
      try simp only [go_sem, Nat.reduceBEq]
      refine loopK.normal (t.length - (i + 1)) _ (by omega) ((St.le.cut 1 rfl).trans (St.le.of_eq (by rw [wrap_succ hlt ht, alone_miss hlt (by simpa using hb2)]; rfl))) ⟨i + 1, rfl, hlt, rfl⟩
  · intro hb1
    try simp only [decide_eq_true_eq, decide_eq_false_iff_not] at hb1
    refine SA.exit ?_
    refine thenK.exit ?_
    refine loopK.exit ?_
    refine blockK.hit ?_
    refine thenK.normal (SA.seq ?_)
    have hit : i = t.length := by omega
    subst hit
    refine SA.weaken (St.le.frzRow ok.sized 0 rfl) ?_
    simp only [St.frz, Tm.frz, E.frz, E.frzL, Obj.frz, List.map_cons, List.map_nil, List.set_cons_zero, List.set_cons_succ, Nat.reduceBEq, Nat.beq_refl, if_true, if_false, Nat.beq_eq_true_eq, reduceCtorEq, Bool.false_eq_true, V.get, Nat.reduceEqDiff]
    rw [show List.take (alone t t.length).length (List.drop 0 (List.map Event.v (alone t t.length))) = (alone t t.length).map Event.v from by rw [List.drop_zero]; exact List.take_of_length_le (by simp)]
    have hcl : (alone t t.length).length ≤ maxLen := Nat.le_trans (alone_len t _) ht
    have hc6 := alone_6 h6 t.length
    have hcr := alone_rings h6 t.length
    refine SA.region ok (by kernel_rfl) [3, 6, 7] ?_
    intro R r
    simp only [go_sem, strip]
    iterate 1 (refine opsA_cons fun Z q1 => ?_; simp only [go_sem, seval, -List.reduceReplicate, hcr]; (repeat' with_reducible refine And.intro ?_ ?_); all_goals first | (refine q1 _ ?_; clear q1 Z) | omega | rfl | decide | assumption | (intro _; omega) | (simp; done) | (simp; omega) | (simp [roomFor, maxLen, by39, by3, by68, by70, by23, by100] <;> omega))
    refine opsA_cons fun Z q1 => ?_
    simp only [go_sem, seval, -List.reduceReplicate, hcr]
    repeat' with_reducible refine And.intro ?_ ?_
    all_goals try (first | omega | assumption | (intro _; omega))
    first | refine ⟨_, _, rfl, .inr (CallE.ctrZ (ringsP (alone t t.length) hcl hc6) (by first | rfl | (simp [argsV, toVs, contentV, toV, capsV, capsE, ty22, ty25, ty3, ty4, ty81, ty39, ty40, ty42, ty37, ty2, ty23, ty24, ty46, ty68, ty65, ty70, ty69, ty90, ty77, ty59, ty100, ty75, ty98, ty71, ty93, ty64, ty85, List.length_map, List.take_of_length_le])) ?_)⟩ | refine ⟨_, _, rfl, .inr ⟨fun _ => CallE.ctrZ (ringsP (alone t t.length) hcl hc6) (by first | rfl | (simp [argsV, toVs, contentV, toV, capsV, capsE, ty22, ty25, ty3, ty4, ty81, ty39, ty40, ty42, ty37, ty2, ty23, ty24, ty46, ty68, ty65, ty70, ty69, ty90, ty77, ty59, ty100, ty75, ty98, ty71, ty93, ty64, ty85, List.length_map, List.take_of_length_le])) ?_, ?_⟩⟩
    simp only [go_sem, seval, -List.reduceReplicate, hcr]
    repeat' with_reducible refine And.intro ?_ ?_
    all_goals first | (refine q1 _ ?_; clear q1 Z) | omega | rfl | decide | assumption | (intro _; omega) | (simp; done) | (simp; omega) | (simp [roomFor, maxLen, by39, by3, by68, by70, by23, by100] <;> omega)
    iterate 5 (refine opsA_cons fun Z q1 => ?_; simp only [go_sem, seval, -List.reduceReplicate, hcr]; (repeat' with_reducible refine And.intro ?_ ?_); all_goals first | (refine q1 _ ?_; clear q1 Z) | omega | rfl | decide | assumption | (intro _; omega) | (simp; done) | (simp; omega) | (simp [roomFor, maxLen, by39, by3, by68, by70, by23, by100] <;> omega))
    refine opsA_nil (r _ ?_)
    clear r R
    try simp only [go_sem, Nat.reduceBEq]
    refine thenK.normal (SA.seq ?_)
    refine SA.region ok (by kernel_rfl) [2] ?_
    intro R r
    simp only [go_sem, strip]
    iterate 6 (refine opsA_cons fun Z q1 => ?_; simp only [go_sem, seval, -List.reduceReplicate, hcr, decide_true, ringsV]; (repeat' with_reducible refine And.intro ?_ ?_); all_goals first | (refine q1 _ ?_; clear q1 Z) | omega | rfl | decide | assumption | (intro _; omega) | (simp; done) | (simp; omega) | (simp [roomFor, maxLen, by39, by3, by68, by70, by23, by100] <;> omega))
    refine opsA_cons fun Z q1 => ?_
    simp only [go_sem, seval, -List.reduceReplicate, hcr, decide_true, ringsV]
    repeat' with_reducible refine And.intro ?_ ?_
    all_goals try (first | omega | assumption | (intro _; omega))
    first | refine ⟨_, _, rfl, .inl ⟨_, CallQ.ctr ok (refCheck_ctr (alone t t.length) hcl hc6) (by first | rfl | (simp [argsV, toVs, contentV, toV, capsV, capsE, ty22, ty25, ty3, ty4, ty81, ty39, ty40, ty42, ty37, ty2, ty23, ty24, ty46, ty68, ty65, ty70, ty69, ty90, ty77, ty59, ty100, ty75, ty98, ty71, ty93, ty64, ty85, List.length_map, List.take_of_length_le])) rfl, ?_⟩⟩ | refine ⟨_, _, rfl, .inl ⟨_, fun hg => CallQ.ctr ok (refCheck_ctr (alone t t.length) hcl hc6) (by first | rfl | (simp [argsV, toVs, contentV, toV, capsV, capsE, ty22, ty25, ty3, ty4, ty81, ty39, ty40, ty42, ty37, ty2, ty23, ty24, ty46, ty68, ty65, ty70, ty69, ty90, ty77, ty59, ty100, ty75, ty98, ty71, ty93, ty64, ty85, List.length_map, List.take_of_length_le])) rfl, ?_⟩⟩
    simp only [go_sem, seval, -List.reduceReplicate, hcr, decide_true, ringsV]
    repeat' with_reducible refine And.intro ?_ ?_
    all_goals first | (refine q1 _ ?_; clear q1 Z) | omega | rfl | decide | assumption | (intro _; omega) | (simp; done) | (simp; omega) | (simp [roomFor, maxLen, by39, by3, by68, by70, by23, by100] <;> omega)
    iterate 3 (refine opsA_cons fun Z q1 => ?_; simp only [go_sem, seval, -List.reduceReplicate, hcr, decide_true, ringsV]; (repeat' with_reducible refine And.intro ?_ ?_); all_goals first | (refine q1 _ ?_; clear q1 Z) | omega | rfl | decide | assumption | (intro _; omega) | (simp; done) | (simp; omega) | (simp [roomFor, maxLen, by39, by3, by68, by70, by23, by100] <;> omega))
    refine opsA_cons fun Z q1 => ?_
    simp only [go_sem, seval, -List.reduceReplicate, hcr, decide_true, ringsV]
    repeat' with_reducible refine And.intro ?_ ?_
    all_goals try (first | omega | assumption | (intro _; omega))
    first | refine ⟨_, _, rfl, .inl ⟨_, CallQ.ctr ok (small_ctr) (by first | rfl | (simp [argsV, toVs, contentV, toV, capsV, capsE, ty22, ty25, ty3, ty4, ty81, ty39, ty40, ty42, ty37, ty2, ty23, ty24, ty46, ty68, ty65, ty70, ty69, ty90, ty77, ty59, ty100, ty75, ty98, ty71, ty93, ty64, ty85, List.length_map, List.take_of_length_le])) rfl, ?_⟩⟩ | refine ⟨_, _, rfl, .inl ⟨_, fun hg => CallQ.ctr ok (small_ctr) (by first | rfl | (simp [argsV, toVs, contentV, toV, capsV, capsE, ty22, ty25, ty3, ty4, ty81, ty39, ty40, ty42, ty37, ty2, ty23, ty24, ty46, ty68, ty65, ty70, ty69, ty90, ty77, ty59, ty100, ty75, ty98, ty71, ty93, ty64, ty85, List.length_map, List.take_of_length_le])) rfl, ?_⟩⟩
    simp only [go_sem, seval, -List.reduceReplicate, hcr, decide_true, ringsV]
    repeat' with_reducible refine And.intro ?_ ?_
    all_goals first | (refine q1 _ ?_; clear q1 Z) | omega | rfl | decide | assumption | (intro _; omega) | (simp; done) | (simp; omega) | (simp [roomFor, maxLen, by39, by3, by68, by70, by23, by100] <;> omega)
    iterate 2 (refine opsA_cons fun Z q1 => ?_; simp only [go_sem, seval, -List.reduceReplicate, hcr, decide_true, ringsV]; (repeat' with_reducible refine And.intro ?_ ?_); all_goals first | (refine q1 _ ?_; clear q1 Z) | omega | rfl | decide | assumption | (intro _; omega) | (simp; done) | (simp; omega) | (simp [roomFor, maxLen, by39, by3, by68, by70, by23, by100] <;> omega))
    refine opsA_nil (r _ ?_)
    clear r R
    try simp only [go_sem, Nat.reduceBEq]
    refine thenK.normal (SA.ret ?_)
    refine ctrK.ret ?_
    simp only [resA, evalO, resV, backK, outE, toV, ty4, ty3, List.lookup_cons, List.lookup_nil, beq_self_eq_true, forall_const, true_and, and_true]
    simp [flatTy, ty4]

end Go.Eng.Try
