/- A part of the proof: walks through the program's functions, and what they compute. -/
import Derived.Test.YtedceinkpkoncaaGreatSAttr
import Derived.Test.YtedceinkpkoncaaGreatM1
import Derived.Test.YtedceinkpkoncaaGreatE4
import Derived.Test.YtedceinkpkoncaaGreatOW25
namespace Go.Eng.Tryz.O
set_option maxHeartbeats 0
set_option maxRecDepth 20000
open Go.RowKit Go.Eng
set_option linter.unusedSimpArgs false
set_option linter.unusedVariables false

set_option maxRecDepth 100000 in
theorem clipEdge_run (ad : Addr) (n cap : Nat) (hn : n ≤ cap) (hc : n ≤ maxLen) (w : World) : Calls Go.Proofs.Tryz.prog 55 #[.slice (some ad) n cap] w fun e w' => e = .returned (.slice (some ad) n n) ∧ w' = w := by
  unfold maxLen at hc
  have h1 : (0 : Int) ≤ (n : Int) := by omega
  have h2 : (n : Int) ≤ (cap : Int) := by omega
  have h3 : (n : Int).toNat = n := by omega
  go_enter Go.Proofs.Tryz.func55, Go.Proofs.Tryz.ntmps55
  go_wp2
  all_goals (go_ret; exact ⟨rfl, rfl⟩)
set_option maxRecDepth 100000 in
theorem clipEdge_nil (w : World) : Calls Go.Proofs.Tryz.prog 55 #[.slice none 0 0] w fun e w' => e = .returned (.slice none 0 0) ∧ w' = w := by
  go_enter Go.Proofs.Tryz.func55, Go.Proofs.Tryz.ntmps55
  go_wp2
  all_goals (go_ret; exact ⟨rfl, rfl⟩)
theorem clipEdgeQ (l : List V) (c : Bool) (hl : l.length ≤ maxLen) {σ : St} : CallQ Go.Proofs.Tryz.prog tab σ 55 [.fs 89 l c] (.fs 89 l true) := by
  refine ⟨enters_of Go.Proofs.Tryz.func55 (by kernel_rfl) (by kernel_rfl), ?_⟩
  intro w0 w F ρ tmps outs xs hR hx
  obtain ⟨v, rfl, hv⟩ : ∃ v, xs = [v] ∧ FRow tab w F 89 l c v := by
    cases xs with
    | nil => exact hx.elim
    | cons v xs => cases xs with
      | nil => exact ⟨v, rfl, hx.1⟩
      | cons => exact hx.2.elim
  rcases hv with ⟨ad, c0, rfl, rfl, hc0, _⟩ | ⟨b, off, cap, cs, rfl, h2, h3, h4, h5, h6⟩
  · cases ad with
    | none => rw [hc0 rfl]; exact ⟨.slice none 0 0, .inl ⟨none, 0, rfl, rfl, fun _ => rfl, fun _ => rfl⟩, fun w' _ => (clipEdge_nil w').mono fun e w'' ⟨h1, h2⟩ => ⟨h1, h2 ▸ Below.refl _ _⟩⟩
    | some ad => exact ⟨.slice (some ad) 0 0, .inl ⟨some ad, 0, rfl, rfl, fun _ => rfl, fun _ => rfl⟩, fun w' _ => (clipEdge_run ad 0 c0 (Nat.zero_le _) (Nat.zero_le _) w').mono fun e w'' ⟨h1, h2⟩ => ⟨h1, h2 ▸ Below.refl _ _⟩⟩
  · exact ⟨_, .inr ⟨b, off, _, cs, rfl, Nat.le_refl _, fun _ => rfl, h4, h5, h6⟩, fun w' _ => (clipEdge_run ⟨b, off, none⟩ l.length cap h2 hl w').mono fun e w'' ⟨h1, h2⟩ => ⟨h1, h2 ▸ Below.refl _ _⟩⟩

set_option maxRecDepth 100000 in
theorem clipInt_run (ad : Addr) (n cap : Nat) (hn : n ≤ cap) (hc : n ≤ maxLen) (w : World) : Calls Go.Proofs.Tryz.prog 51 #[.slice (some ad) n cap] w fun e w' => e = .returned (.slice (some ad) n n) ∧ w' = w := by
  unfold maxLen at hc
  have h1 : (0 : Int) ≤ (n : Int) := by omega
  have h2 : (n : Int) ≤ (cap : Int) := by omega
  have h3 : (n : Int).toNat = n := by omega
  go_enter Go.Proofs.Tryz.func51, Go.Proofs.Tryz.ntmps51
  go_wp2
  all_goals (go_ret; exact ⟨rfl, rfl⟩)
set_option maxRecDepth 100000 in
theorem clipInt_nil (w : World) : Calls Go.Proofs.Tryz.prog 51 #[.slice none 0 0] w fun e w' => e = .returned (.slice none 0 0) ∧ w' = w := by
  go_enter Go.Proofs.Tryz.func51, Go.Proofs.Tryz.ntmps51
  go_wp2
  all_goals (go_ret; exact ⟨rfl, rfl⟩)
theorem clipIntQ (l : List V) (c : Bool) (hl : l.length ≤ maxLen) {σ : St} : CallQ Go.Proofs.Tryz.prog tab σ 51 [.fs 3 l c] (.fs 3 l true) := by
  refine ⟨enters_of Go.Proofs.Tryz.func51 (by kernel_rfl) (by kernel_rfl), ?_⟩
  intro w0 w F ρ tmps outs xs hR hx
  obtain ⟨v, rfl, hv⟩ : ∃ v, xs = [v] ∧ FRow tab w F 3 l c v := by
    cases xs with
    | nil => exact hx.elim
    | cons v xs => cases xs with
      | nil => exact ⟨v, rfl, hx.1⟩
      | cons => exact hx.2.elim
  rcases hv with ⟨ad, c0, rfl, rfl, hc0, _⟩ | ⟨b, off, cap, cs, rfl, h2, h3, h4, h5, h6⟩
  · cases ad with
    | none => rw [hc0 rfl]; exact ⟨.slice none 0 0, .inl ⟨none, 0, rfl, rfl, fun _ => rfl, fun _ => rfl⟩, fun w' _ => (clipInt_nil w').mono fun e w'' ⟨h1, h2⟩ => ⟨h1, h2 ▸ Below.refl _ _⟩⟩
    | some ad => exact ⟨.slice (some ad) 0 0, .inl ⟨some ad, 0, rfl, rfl, fun _ => rfl, fun _ => rfl⟩, fun w' _ => (clipInt_run ad 0 c0 (Nat.zero_le _) (Nat.zero_le _) w').mono fun e w'' ⟨h1, h2⟩ => ⟨h1, h2 ▸ Below.refl _ _⟩⟩
  · exact ⟨_, .inr ⟨b, off, _, cs, rfl, Nat.le_refl _, fun _ => rfl, h4, h5, h6⟩, fun w' _ => (clipInt_run ⟨b, off, none⟩ l.length cap h2 hl w').mono fun e w'' ⟨h1, h2⟩ => ⟨h1, h2 ▸ Below.refl _ _⟩⟩

theorem tmod_nat (a b : Nat) : Int.tmod (a : Int) (b : Int) = ((a % b : Nat) : Int) := rfl
theorem clash_ctr {F : FuncId} {ts : List TypeId} {vs : List V} {all : List Edge} {fit : Edge → Edge → Bool} (hfit : Tests F ts vs all fit) (so : List Edge) (hl : so.length ≤ maxLen) (hso : ∀ a ∈ so, a ∈ all) (e : Edge) (he : e ∈ all) :
    Ctr Go.Proofs.Tryz.prog tab 53 [92, 128] [4] [.list (so.map Edge.v), .clo 54 [89, 90] [e.v, .clo F ts vs]] [.bool (clashes fit so e)] :=
  containsEdge_ctr so hl _ _ _ rfl (fun a => decide (a.go = e.go) || !fit a e) (fun a ha σ K h => chosen1_call hfit a e (hso a ha) he h)
theorem picks_no {ring : List Int} {k : Nat} {e : Edge} {a b : Int} (ha : a = ring.getD k default) (hb : b = ring.getD ((k + 1) % ring.length) default) (h : (bif !decide (e.from_ = a) then true else !decide (e.to_ = b)) = true) : picks ring k e = false := by
  subst ha hb
  unfold picks
  cases h1 : decide (e.from_ = ring.getD k default) with
  | false => rfl
  | true => rw [h1] at h; simpa using h
theorem picks_yes {ring : List Int} {k : Nat} {e : Edge} {a b : Int} (ha : a = ring.getD k default) (hb : b = ring.getD ((k + 1) % ring.length) default) (h : (bif !decide (e.from_ = a) then true else !decide (e.to_ = b)) = false) : picks ring k e = true := by
  subst ha hb
  unfold picks
  cases h1 : decide (e.from_ = ring.getD k default) with
  | false => rw [h1] at h; cases h
  | true => rw [h1] at h; simpa using h
def body (fit : Edge → Edge → Bool) (ring : List Int) (all : List Edge) (m : Nat) (so : List Edge) (e : Edge) : Bool := picks ring so.length e && !clashes fit so e && chosen fit ring all m (so ++ [e])

attribute [local go_sem] concat_at List.length_map List.length_range zero52 z52 z3 z4 z79 z89 z55 z53 z50 z2 zero53 z78 z117 zero79 zero78 zero117 zero89 zero55 Int.toNat_natCast Int.natCast_zero Event.v0 Event.v3 Event.v5 Event.v7 Event.v8 Access.v0 Access.v1 Access.v2 beq_acc Edge.v0 Edge.v1 Edge.v2 Edge.v3 heldOf_len locksTo_len heldsTo_len nowL_len
-- scarab/goodlock.chosen
set_option maxHeartbeats 8000000 in
theorem chosen_step {F : FuncId} {ts : List TypeId} {vs : List V} (htl : ts.length = vs.length) {all : List Edge} {fit : Edge → Edge → Bool} (hfit : Tests F ts vs all fit) (hal : all.length ≤ 100000) (ring : List Int) (hrl : ring.length ≤ 100) (n : Nat) (so : List Edge) (hn : so.length + n = ring.length) (hso : ∀ a ∈ so, a ∈ all) (ih : ∀ m so', m + 1 = n → so'.length + m = ring.length → (∀ a ∈ so', a ∈ all) → Ctr Go.Proofs.Tryz.prog tab 28 [23, 92, 92, 90] [4] [.list (ring.map V.int), .list (all.map Edge.v), .list (so'.map Edge.v), .clo F ts vs] [.bool (chosen fit ring all m so')]) : Ctr Go.Proofs.Tryz.prog tab 28 [23, 92, 92, 90] [4] [.list (ring.map V.int), .list (all.map Edge.v), .list (so.map Edge.v), .clo F ts vs] [.bool (chosen fit ring all n so)] := by
  have hrm : ring.length ≤ maxLen := Nat.le_trans hrl (by decide)
  have ham : all.length ≤ maxLen := Nat.le_trans hal (by decide)
  have hsm : so.length ≤ maxLen := by omega
  refine Ctr.body ok Go.Proofs.Tryz.func28 rfl rfl 62 rfl [.tmp 8] rfl (by simp [fromVs]) ?_
  simp only [fromVs, fromV, args0, V.toList_list, V.toInt_int, V.toBool_bool, Nat.zero_add, Nat.reduceAdd, ty23, ty90, ty92]
  refine SA.seq ?_
  refine SA.region ok (by kernel_rfl) [0, 1, 2, 7] ?_
  intro R hR
  simp only [go_sem, strip]
  iterate 2 (refine opsA_cons fun R1 hR1 => ?_; simp only [go_sem, seval, -List.reduceReplicate]; (repeat' with_reducible refine And.intro ?_ ?_); all_goals first | (refine hR1 _ ?_; clear hR1 R1) | omega | rfl | decide | assumption | (intro _; omega) | (simp [roomFor, maxLen, by52, by3, by89, by79, by23] <;> omega))
  refine opsA_nil (hR _ ?_)
  clear hR R
  try simp only [go_sem, Nat.reduceBEq]
  refine thenK.normal (SA.seq ?_)
  refine SA.weaken (St.le.frzVal ok.sized 0 (v := .clo F ts vs) rfl (by simp [toV, ty90, capsV_capsE htl])) ?_
  simp only [St.frz, Tm.frz, E.frz, E.frzL, Obj.frz, List.map_cons, List.map_nil, List.set_cons_zero, List.set_cons_succ, Nat.reduceBEq, Nat.beq_refl, if_true, if_false, Nat.beq_eq_true_eq, reduceCtorEq, Bool.false_eq_true, V.get, Nat.reduceEqDiff]
  refine SA.region ok (by kernel_rfl) [0, 1, 2, 7, 9] ?_
  intro R hR
  simp only [go_sem, strip]
  iterate 3 (refine opsA_cons fun R1 hR1 => ?_; simp only [go_sem, seval, -List.reduceReplicate]; (repeat' with_reducible refine And.intro ?_ ?_); all_goals first | (refine hR1 _ ?_; clear hR1 R1) | omega | rfl | decide | assumption | (intro _; omega) | (simp [roomFor, maxLen, by52, by3, by89, by79, by23] <;> omega))
  refine opsA_nil (hR _ ?_)
  clear hR R
  try simp only [go_sem, Nat.reduceBEq]
  refine thenK.normal (SA.seq ?_)
  refine SA.seq ?_
  refine SA.region ok (by kernel_rfl) [0, 1, 2, 7, 9, 18] ?_
  intro R hR
  simp only [go_sem, strip]
  iterate 4 (refine opsA_cons fun R1 hR1 => ?_; simp only [go_sem, seval, -List.reduceReplicate]; (repeat' with_reducible refine And.intro ?_ ?_); all_goals first | (refine hR1 _ ?_; clear hR1 R1) | omega | rfl | decide | assumption | (intro _; omega) | (simp [roomFor, maxLen, by52, by3, by89, by79, by23] <;> omega))
  refine opsA_nil (hR _ ?_)
  clear hR R
  try simp only [go_sem, Nat.reduceBEq]
  refine thenK.normal ?_
  refine SA.cond rfl ?_ ?_
  · intro hb1
    simp only [decide_eq_true_eq, decide_eq_false_iff_not, Int.not_lt, Int.not_le] at hb1
    refine SA.seq ?_
    refine SA.region ok (by kernel_rfl) [8] ?_
    intro R hR
    simp only [go_sem, strip]
    iterate 1 (refine opsA_cons fun R1 hR1 => ?_; simp only [go_sem, seval, -List.reduceReplicate]; (repeat' with_reducible refine And.intro ?_ ?_); all_goals first | (refine hR1 _ ?_; clear hR1 R1) | omega | rfl | decide | assumption | (intro _; omega) | (simp [roomFor, maxLen, by52, by3, by89, by79, by23] <;> omega))
    refine opsA_nil (hR _ ?_)
    clear hR R
    try simp only [go_sem, Nat.reduceBEq]
    refine thenK.normal (SA.ret ?_)
    refine thenK.ret ?_
    refine ctrK.ret ?_
    simp only [resA, evalO, resV, backK, outE, toV, ty4, ty3, List.lookup_cons, List.lookup_nil, beq_self_eq_true, forall_const, true_and, and_true]
    have : n = 0 := by omega
    subst this
    exact ⟨rfl, rfl⟩
  · intro hb1
    simp only [decide_eq_false_iff_not] at hb1
    obtain ⟨m, rfl⟩ : ∃ m, n = m + 1 := ⟨n - 1, by omega⟩
    have hk1 : so.length < ring.length := by omega
    have hmod : (so.length + 1) % ring.length < ring.length := Nat.mod_lt _ (by omega)
    refine SA.skip ?_
    refine thenK.normal (SA.seq ?_)
    refine SA.seq ?_
    refine SA.region ok (by kernel_rfl) [0, 1, 2, 7, 9, 19, 20, 21] ?_
    intro R hR
    simp only [go_sem, strip]
    iterate 3 (refine opsA_cons fun R1 hR1 => ?_; simp only [go_sem, seval, -List.reduceReplicate]; (repeat' with_reducible refine And.intro ?_ ?_); all_goals first | (refine hR1 _ ?_; clear hR1 R1) | omega | rfl | decide | assumption | (intro _; omega) | (simp [roomFor, maxLen, by52, by3, by89, by79, by23] <;> omega))
    refine opsA_nil (hR _ ?_)
    clear hR R
    try simp only [go_sem, Nat.reduceBEq]
    refine thenK.normal (SA.block ?_)
    refine SA.weaken (St.le.of_eq (by first | rfl | (simp; done) | fail)) (SA.loop (fun n τ => ∃ (i : Nat), n = all.length - i ∧ (i ≤ all.length ∧ (all.take i).any (body fit ring all m so) = false) ∧ τ = { tm := [(0, true, .fs 3 (ring.map V.int) false), (1, true, .fs 89 (all.map Edge.v) false), (2, true, .fs 89 (so.map Edge.v) false), (7, true, .fptr 90 (.clo F ts vs)), (9, true, .int .i64 so.length), (19, true, .fs 89 (all.map Edge.v) false), (20, true, .int .i64 all.length), (21, true, .int .i64 i)], ob := [.dead], out := [], nt := 62 }) (all.length) ⟨0, rfl, ⟨Nat.zero_le _, rfl⟩, rfl⟩ ?_)
    rintro n τ ⟨i, hn, ⟨hi, hc⟩, rfl⟩
    refine SA.seq ?_
    refine SA.region ok (by kernel_rfl) [0, 1, 2, 7, 9, 19, 20, 21, 22] ?_
    intro R hR
    simp only [go_sem, strip]
    iterate 1 (refine opsA_cons fun R1 hR1 => ?_; simp only [go_sem, seval, -List.reduceReplicate]; (repeat' with_reducible refine And.intro ?_ ?_); all_goals first | (refine hR1 _ ?_; clear hR1 R1) | omega | rfl | decide | assumption | (intro _; omega) | (simp [roomFor, maxLen, by52, by3, by89, by79, by23] <;> omega))
    refine opsA_nil (hR _ ?_)
    clear hR R
    try simp only [go_sem, Nat.reduceBEq]
    refine thenK.normal (SA.seq ?_)
    refine SA.cond rfl ?_ ?_
    · intro hb2
      simp only [decide_eq_true_eq, decide_eq_false_iff_not, Int.not_lt, Int.not_le] at hb2
      refine SA.skip ?_
      refine thenK.normal (SA.seq ?_)
      refine SA.block ?_
      refine SA.seq ?_
      have hlt : i < all.length := by omega
      have hmem := getD_mem all hlt
      refine SA.region ok (by kernel_rfl) [0, 1, 2, 7, 9, 11, 19, 20, 21] ?_
      intro R hR
      simp only [go_sem, strip]
      iterate 4 (refine opsA_cons fun R1 hR1 => ?_; simp only [go_sem, seval, -List.reduceReplicate, getD_map Edge.v all hlt]; (repeat' with_reducible refine And.intro ?_ ?_); all_goals first | (refine hR1 _ ?_; clear hR1 R1) | omega | rfl | decide | assumption | (intro _; omega) | (simp [roomFor, maxLen, by52, by3, by89, by79, by23] <;> omega))
      refine opsA_nil (hR _ ?_)
      clear hR R
      try simp only [go_sem, Nat.reduceBEq]
      refine thenK.normal (SA.seq ?_)
      refine SA.seq ?_
      refine SA.regionQ ok mixed (by kernel_rfl) (by kernel_rfl) [0, 1, 2, 7, 9, 11, 19, 20, 21, 44] ?_
      intro R hR
      simp only [go_sem, strip]
      iterate 20 (refine opsQ_cons fun R1 hR1 => ?_; simp only [go_sem, seval, -List.reduceReplicate, wrap_succ hk1 hrm, tmod_nat, getD_map V.int ring hk1, getD_map V.int ring hmod]; (repeat' with_reducible refine And.intro ?_ ?_); all_goals first | (refine hR1 _ ?_; clear hR1 R1) | omega | rfl | decide | assumption | (intro _; omega) | (simp [roomFor, maxLen, by52, by3, by89, by79, by23] <;> omega))
      refine opsQ_nil (hR _ ?_)
      clear hR R
      try simp only [go_sem, Nat.reduceBEq]
      refine thenK.normal ?_
      refine SA.cond rfl ?_ ?_
      · intro hb3
        have hpk := picks_no rfl rfl hb3
        refine SA.exit ?_
        refine thenK.exit ?_
        refine blockK.hit ?_
        refine thenK.normal ?_
        refine SA.region ok (by kernel_rfl) [0, 1, 2, 7, 9, 19, 20, 21] ?_
        intro R hR
        simp only [go_sem, strip]
        iterate 2 (refine opsA_cons fun R1 hR1 => ?_; simp only [go_sem, seval, -List.reduceReplicate]; (repeat' with_reducible refine And.intro ?_ ?_); all_goals first | (refine hR1 _ ?_; clear hR1 R1) | omega | rfl | decide | assumption | (intro _; omega) | (simp [roomFor, maxLen, by52, by3, by89, by79, by23] <;> omega))
        refine opsA_nil (hR _ ?_)
        clear hR R
        try simp only [go_sem, Nat.reduceBEq]
        have hbd : body fit ring all m so (all.getD i default) = false := by unfold body; rw [hpk]; rfl
        refine loopK.normal (all.length - (i + 1)) _ (by omega) ((St.le.cut 1 rfl).trans (St.le.of_eq (by rw [wrap_succ hlt ham]; rfl))) ⟨i + 1, rfl, ⟨hlt, ?_⟩, rfl⟩
        rw [any_take _ all hlt, hc, hbd]; rfl
      · intro hb3
        have hpk := picks_yes rfl rfl hb3
        refine SA.skip ?_
        refine thenK.normal (SA.seq ?_)
        refine SA.weaken (St.le.frz ok.sized 1 rfl) ?_
        simp only [St.frz, Tm.frz, E.frz, E.frzL, Obj.frz, List.map_cons, List.map_nil, List.set_cons_zero, List.set_cons_succ, Nat.reduceBEq, Nat.beq_refl, if_true, if_false, Nat.beq_eq_true_eq, reduceCtorEq, Bool.false_eq_true, V.get, Nat.reduceEqDiff]
        refine SA.region ok (by kernel_rfl) [0, 1, 2, 7, 9, 11, 12, 19, 20, 21] ?_
        intro R hR
        simp only [go_sem, strip]
        iterate 2 (refine opsA_cons fun R1 hR1 => ?_; simp only [go_sem, seval, -List.reduceReplicate]; (repeat' with_reducible refine And.intro ?_ ?_); all_goals first | (refine hR1 _ ?_; clear hR1 R1) | omega | rfl | decide | assumption | (intro _; omega) | (simp [roomFor, maxLen, by52, by3, by89, by79, by23] <;> omega))
        refine opsA_cons fun R1 hR1 => ?_
        simp only [go_sem, seval, -List.reduceReplicate]
        repeat' with_reducible refine And.intro ?_ ?_
        all_goals try (first | omega | assumption | (intro _; omega))
        first | refine ⟨_, _, rfl, .inl ⟨_, CallQ.ctr ok (clash_ctr hfit so hsm hso _ hmem) (by first | rfl | (simp [argsV, toVs, contentV, toV, capsV, capsE, ty30, ty58, ty3, ty4, ty140, ty52, ty53, ty55, ty50, ty2, ty23, ty67, ty92, ty89, ty80, ty79, ty78, ty117, ty175, ty133, ty90, ty128, ty87, ty123, List.length_map, List.take_of_length_le])) rfl, ?_⟩⟩ | refine ⟨_, _, rfl, .inl ⟨_, fun hg => CallQ.ctr ok (clash_ctr hfit so hsm hso _ hmem) (by first | rfl | (simp [argsV, toVs, contentV, toV, capsV, capsE, ty30, ty58, ty3, ty4, ty140, ty52, ty53, ty55, ty50, ty2, ty23, ty67, ty92, ty89, ty80, ty79, ty78, ty117, ty175, ty133, ty90, ty128, ty87, ty123, List.length_map, List.take_of_length_le])) rfl, ?_⟩⟩
        simp only [go_sem, seval, -List.reduceReplicate]
        repeat' with_reducible refine And.intro ?_ ?_
        all_goals first | (refine hR1 _ ?_; clear hR1 R1) | omega | rfl | decide | assumption | (intro _; omega) | (simp [roomFor, maxLen, by52, by3, by89, by79, by23] <;> omega)
        iterate 1 (refine opsA_cons fun R1 hR1 => ?_; simp only [go_sem, seval, -List.reduceReplicate]; (repeat' with_reducible refine And.intro ?_ ?_); all_goals first | (refine hR1 _ ?_; clear hR1 R1) | omega | rfl | decide | assumption | (intro _; omega) | (simp [roomFor, maxLen, by52, by3, by89, by79, by23] <;> omega))
        refine opsA_nil (hR _ ?_)
        clear hR R
        try simp only [go_sem, Nat.reduceBEq]
        refine thenK.normal (SA.seq ?_)
        rcases Bool.eq_false_or_eq_true (clashes fit so (all.getD i default)) with hcl | hcl
        · skip
          refine SA.regionAnyPost mixed 13 (by kernel_rfl) #[false, false, false, false, false, false, false, false, false, false, false, false, false] (by kernel_rfl) [] [0, 1, 2, 7, 9, 19, 20, 21, 60] ({ tm := [(0, true, .fs 3 (ring.map V.int) false), (1, true, .fs 89 (all.map Edge.v) false), (2, true, .fs 89 (so.map Edge.v) false), (7, true, .fptr 90 (.clo F ts vs)), (9, true, .int .i64 so.length), (19, true, .fs 89 (all.map Edge.v) false), (20, true, .int .i64 all.length), (21, true, .int .i64 i), (60, true, .bool false)], ob := [.dead, .dead], out := [], nt := 62 }) ?_ ?_
          · intro R hR
            refine AnyA.take ok 0 ⟨some 48, (Go.Op.move (Go.Operand.tmp 12)), none⟩ (by kernel_rfl) (by kernel_rfl) (by kernel_rfl) (by kernel_rfl) (by kernel_rfl) #[true, false, false, false, false, false, false, false, false, false, false, false, false] (by kernel_rfl) fun R1 hR1 => ?_
            simp only [go_sem, seval, -List.reduceReplicate, hcl]
            repeat' with_reducible refine And.intro ?_ ?_
            all_goals first | (refine hR1 _ ?_; clear hR1 R1) | omega | rfl | decide | assumption | (intro _; omega) | (simp [roomFor, maxLen, by52, by3, by89, by79, by23] <;> omega)
            refine AnyA.take ok 1 ⟨some 49, (Go.Op.unOp Go.UnOp.not 4 (Go.Operand.tmp 48)), none⟩ (by kernel_rfl) (by kernel_rfl) (by kernel_rfl) (by kernel_rfl) (by kernel_rfl) #[true, true, false, false, false, false, false, false, false, false, false, false, false] (by kernel_rfl) fun R1 hR1 => ?_
            simp only [go_sem, seval, -List.reduceReplicate, hcl]
            repeat' with_reducible refine And.intro ?_ ?_
            all_goals first | (refine hR1 _ ?_; clear hR1 R1) | omega | rfl | decide | assumption | (intro _; omega) | (simp [roomFor, maxLen, by52, by3, by89, by79, by23] <;> omega)
            refine AnyA.take ok 2 ⟨some 50, (Go.Op.move (Go.Operand.tmp 49)), none⟩ (by kernel_rfl) (by kernel_rfl) (by kernel_rfl) (by kernel_rfl) (by kernel_rfl) #[true, true, true, false, false, false, false, false, false, false, false, false, false] (by kernel_rfl) fun R1 hR1 => ?_
            simp only [go_sem, seval, -List.reduceReplicate, hcl]
            repeat' with_reducible refine And.intro ?_ ?_
            all_goals first | (refine hR1 _ ?_; clear hR1 R1) | omega | rfl | decide | assumption | (intro _; omega) | (simp [roomFor, maxLen, by52, by3, by89, by79, by23] <;> omega)
            refine AnyA.take ok 3 ⟨some 51, (Go.Op.move (Go.Operand.tmp 0)), some (50, true)⟩ (by kernel_rfl) (by kernel_rfl) (by kernel_rfl) (by kernel_rfl) (by kernel_rfl) #[true, true, true, true, false, false, false, false, false, false, false, false, false] (by kernel_rfl) fun R1 hR1 => ?_
            simp only [go_sem, seval, -List.reduceReplicate, hcl]
            repeat' with_reducible refine And.intro ?_ ?_
            all_goals first | (refine hR1 _ ?_; clear hR1 R1) | omega | rfl | decide | assumption | (intro _; omega) | (simp [roomFor, maxLen, by52, by3, by89, by79, by23] <;> omega)
            refine AnyA.take ok 4 ⟨some 52, (Go.Op.move (Go.Operand.tmp 1)), some (50, true)⟩ (by kernel_rfl) (by kernel_rfl) (by kernel_rfl) (by kernel_rfl) (by kernel_rfl) #[true, true, true, true, true, false, false, false, false, false, false, false, false] (by kernel_rfl) fun R1 hR1 => ?_
            simp only [go_sem, seval, -List.reduceReplicate, hcl]
            repeat' with_reducible refine And.intro ?_ ?_
            all_goals first | (refine hR1 _ ?_; clear hR1 R1) | omega | rfl | decide | assumption | (intro _; omega) | (simp [roomFor, maxLen, by52, by3, by89, by79, by23] <;> omega)
            refine AnyA.take ok 5 ⟨some 53, (Go.Op.move (Go.Operand.tmp 2)), some (50, true)⟩ (by kernel_rfl) (by kernel_rfl) (by kernel_rfl) (by kernel_rfl) (by kernel_rfl) #[true, true, true, true, true, true, false, false, false, false, false, false, false] (by kernel_rfl) fun R1 hR1 => ?_
            simp only [go_sem, seval, -List.reduceReplicate, hcl]
            repeat' with_reducible refine And.intro ?_ ?_
            all_goals first | (refine hR1 _ ?_; clear hR1 R1) | omega | rfl | decide | assumption | (intro _; omega) | (simp [roomFor, maxLen, by52, by3, by89, by79, by23] <;> omega)
            refine AnyA.take ok 7 ⟨some 55, (Go.Op.load 89 (Go.Operand.tmp 11)), some (50, true)⟩ (by kernel_rfl) (by kernel_rfl) (by kernel_rfl) (by kernel_rfl) (by kernel_rfl) #[true, true, true, true, true, true, false, true, false, false, false, false, false] (by kernel_rfl) fun R1 hR1 => ?_
            simp only [go_sem, seval, -List.reduceReplicate, hcl]
            repeat' with_reducible refine And.intro ?_ ?_
            all_goals first | (refine hR1 _ ?_; clear hR1 R1) | omega | rfl | decide | assumption | (intro _; omega) | (simp [roomFor, maxLen, by52, by3, by89, by79, by23] <;> omega)
            refine AnyA.take ok 10 ⟨some 58, (Go.Op.load 90 (Go.Operand.tmp 7)), some (50, true)⟩ (by kernel_rfl) (by kernel_rfl) (by kernel_rfl) (by kernel_rfl) (by kernel_rfl) #[true, true, true, true, true, true, false, true, false, false, true, false, false] (by kernel_rfl) fun R1 hR1 => ?_
            simp only [go_sem, seval, -List.reduceReplicate, hcl]
            repeat' with_reducible refine And.intro ?_ ?_
            all_goals first | (refine hR1 _ ?_; clear hR1 R1) | omega | rfl | decide | assumption | (intro _; omega) | (simp [roomFor, maxLen, by52, by3, by89, by79, by23] <;> omega)
            refine AnyA.all (rs := [6, 8]) ok (by kernel_rfl) (by kernel_rfl) rfl ?_
            refine Branches.keep (i := 6) ⟨some 54, (Go.Op.call (Go.Call.mk (Go.Callee.value (Go.Operand.func 55)) #[(Go.Operand.tmp 53)] #[92])), some (50, true)⟩ (by kernel_rfl) rfl #[true, true, true, true, true, true, true, true, false, false, true, false, false] (by kernel_rfl) (fun R1 hR1 => ?_) ?_
            · skip
              simp only [go_sem, seval, -List.reduceReplicate, hcl]
              repeat' with_reducible refine And.intro ?_ ?_
              all_goals try (first | omega | assumption | (intro _; omega))
              refine ⟨_, _, rfl, .inl ⟨.undef, ?_⟩⟩
              repeat' with_reducible refine And.intro ?_ ?_
              all_goals first | (refine hR1 _ ?_; clear hR1 R1) | omega | rfl | decide | assumption | (intro _; omega) | (simp [roomFor, maxLen, by52, by3, by89, by79, by23] <;> omega)
              refine AnyA.all (rs := [8]) ok (by kernel_rfl) (by kernel_rfl) rfl ?_
              refine Branches.keep (i := 8) ⟨some 56, (Go.Op.buildSlice 92 1 #[(0, (Go.Operand.tmp 55))]), some (50, true)⟩ (by kernel_rfl) rfl #[true, true, true, true, true, true, true, true, true, false, true, false, false] (by kernel_rfl) (fun R1 hR1 => ?_) ?_
              rotate_left
              exact Branches.nil
              simp only [go_sem, seval, -List.reduceReplicate, hcl]
              repeat' with_reducible refine And.intro ?_ ?_
              all_goals first | (refine hR1 _ ?_; clear hR1 R1) | omega | rfl | decide | assumption | (intro _; omega) | (simp [roomFor, maxLen, by52, by3, by89, by79, by23] <;> omega)
              refine AnyA.all (rs := [9]) ok (by kernel_rfl) (by kernel_rfl) rfl ?_
              refine Branches.keep (i := 9) ⟨some 57, (Go.Op.call (Go.Call.mk (Go.Callee.builtin Go.Builtin.append) #[(Go.Operand.tmp 54), (Go.Operand.tmp 56)] #[92, 92])), some (50, true)⟩ (by kernel_rfl) rfl #[true, true, true, true, true, true, true, true, true, true, true, false, false] (by kernel_rfl) (fun R1 hR1 => ?_) ?_
              rotate_left
              exact Branches.nil
              simp only [go_sem, seval, -List.reduceReplicate, hcl]
              repeat' with_reducible refine And.intro ?_ ?_
              all_goals first | (refine hR1 _ ?_; clear hR1 R1) | omega | rfl | decide | assumption | (intro _; omega) | (simp [roomFor, maxLen, by52, by3, by89, by79, by23] <;> omega)
              refine AnyA.all (rs := [11]) ok (by kernel_rfl) (by kernel_rfl) rfl ?_
              refine Branches.keep (i := 11) ⟨some 59, (Go.Op.call (Go.Call.mk (Go.Callee.value (Go.Operand.func 28)) #[(Go.Operand.tmp 51), (Go.Operand.tmp 52), (Go.Operand.tmp 57), (Go.Operand.tmp 58)] #[23, 92, 92, 90])), some (50, true)⟩ (by kernel_rfl) rfl #[true, true, true, true, true, true, true, true, true, true, true, true, false] (by kernel_rfl) (fun R1 hR1 => ?_) ?_
              rotate_left
              exact Branches.nil
              simp only [go_sem, seval, -List.reduceReplicate, hcl]
              repeat' with_reducible refine And.intro ?_ ?_
              all_goals try (first | omega | assumption | (intro _; omega))
              refine ⟨_, _, rfl, .inl ⟨.bool true, ?_⟩⟩
              repeat' with_reducible refine And.intro ?_ ?_
              all_goals first | (refine hR1 _ ?_; clear hR1 R1) | omega | rfl | decide | assumption | (intro _; omega) | (simp [roomFor, maxLen, by52, by3, by89, by79, by23] <;> omega)
              refine AnyA.take ok 12 ⟨some 60, (Go.Op.pick (Go.Operand.tmp 50) (Go.Operand.tmp 59) (Go.Operand.const (Go.Value.bool false))), none⟩ (by kernel_rfl) (by kernel_rfl) (by kernel_rfl) (by kernel_rfl) (by kernel_rfl) #[true, true, true, true, true, true, true, true, true, true, true, true, true] (by kernel_rfl) fun R1 hR1 => ?_
              simp only [go_sem, seval, -List.reduceReplicate, hcl]
              repeat' with_reducible refine And.intro ?_ ?_
              all_goals first | (refine hR1 _ ?_; clear hR1 R1) | omega | rfl | decide | assumption | (intro _; omega) | (simp [roomFor, maxLen, by52, by3, by89, by79, by23] <;> omega)
              refine AnyA.done (by kernel_rfl) (hR _ ?_)
              clear hR R
              exact St.le.of_eq (by simp only [St.keep, List.filterMap_cons, List.filterMap_nil, List.lookup_cons, List.lookup_nil, Option.map_some, Option.map_none, beq_self_eq_true, Nat.reduceBEq])
            refine Branches.keep (i := 8) ⟨some 56, (Go.Op.buildSlice 92 1 #[(0, (Go.Operand.tmp 55))]), some (50, true)⟩ (by kernel_rfl) rfl #[true, true, true, true, true, true, false, true, true, false, true, false, false] (by kernel_rfl) (fun R1 hR1 => ?_) ?_
            · skip
              simp only [go_sem, seval, -List.reduceReplicate, hcl]
              repeat' with_reducible refine And.intro ?_ ?_
              all_goals first | (refine hR1 _ ?_; clear hR1 R1) | omega | rfl | decide | assumption | (intro _; omega) | (simp [roomFor, maxLen, by52, by3, by89, by79, by23] <;> omega)
              refine AnyA.all (rs := [6]) ok (by kernel_rfl) (by kernel_rfl) rfl ?_
              refine Branches.keep (i := 6) ⟨some 54, (Go.Op.call (Go.Call.mk (Go.Callee.value (Go.Operand.func 55)) #[(Go.Operand.tmp 53)] #[92])), some (50, true)⟩ (by kernel_rfl) rfl #[true, true, true, true, true, true, true, true, true, false, true, false, false] (by kernel_rfl) (fun R1 hR1 => ?_) ?_
              rotate_left
              exact Branches.nil
              simp only [go_sem, seval, -List.reduceReplicate, hcl]
              repeat' with_reducible refine And.intro ?_ ?_
              all_goals try (first | omega | assumption | (intro _; omega))
              refine ⟨_, _, rfl, .inl ⟨.undef, ?_⟩⟩
              repeat' with_reducible refine And.intro ?_ ?_
              all_goals first | (refine hR1 _ ?_; clear hR1 R1) | omega | rfl | decide | assumption | (intro _; omega) | (simp [roomFor, maxLen, by52, by3, by89, by79, by23] <;> omega)
              refine AnyA.all (rs := [9]) ok (by kernel_rfl) (by kernel_rfl) rfl ?_
              refine Branches.keep (i := 9) ⟨some 57, (Go.Op.call (Go.Call.mk (Go.Callee.builtin Go.Builtin.append) #[(Go.Operand.tmp 54), (Go.Operand.tmp 56)] #[92, 92])), some (50, true)⟩ (by kernel_rfl) rfl #[true, true, true, true, true, true, true, true, true, true, true, false, false] (by kernel_rfl) (fun R1 hR1 => ?_) ?_
              rotate_left
              exact Branches.nil
              simp only [go_sem, seval, -List.reduceReplicate, hcl]
              repeat' with_reducible refine And.intro ?_ ?_
              all_goals first | (refine hR1 _ ?_; clear hR1 R1) | omega | rfl | decide | assumption | (intro _; omega) | (simp [roomFor, maxLen, by52, by3, by89, by79, by23] <;> omega)
              refine AnyA.all (rs := [11]) ok (by kernel_rfl) (by kernel_rfl) rfl ?_
              refine Branches.keep (i := 11) ⟨some 59, (Go.Op.call (Go.Call.mk (Go.Callee.value (Go.Operand.func 28)) #[(Go.Operand.tmp 51), (Go.Operand.tmp 52), (Go.Operand.tmp 57), (Go.Operand.tmp 58)] #[23, 92, 92, 90])), some (50, true)⟩ (by kernel_rfl) rfl #[true, true, true, true, true, true, true, true, true, true, true, true, false] (by kernel_rfl) (fun R1 hR1 => ?_) ?_
              rotate_left
              exact Branches.nil
              simp only [go_sem, seval, -List.reduceReplicate, hcl]
              repeat' with_reducible refine And.intro ?_ ?_
              all_goals try (first | omega | assumption | (intro _; omega))
              refine ⟨_, _, rfl, .inl ⟨.bool true, ?_⟩⟩
              repeat' with_reducible refine And.intro ?_ ?_
              all_goals first | (refine hR1 _ ?_; clear hR1 R1) | omega | rfl | decide | assumption | (intro _; omega) | (simp [roomFor, maxLen, by52, by3, by89, by79, by23] <;> omega)
              refine AnyA.take ok 12 ⟨some 60, (Go.Op.pick (Go.Operand.tmp 50) (Go.Operand.tmp 59) (Go.Operand.const (Go.Value.bool false))), none⟩ (by kernel_rfl) (by kernel_rfl) (by kernel_rfl) (by kernel_rfl) (by kernel_rfl) #[true, true, true, true, true, true, true, true, true, true, true, true, true] (by kernel_rfl) fun R1 hR1 => ?_
              simp only [go_sem, seval, -List.reduceReplicate, hcl]
              repeat' with_reducible refine And.intro ?_ ?_
              all_goals first | (refine hR1 _ ?_; clear hR1 R1) | omega | rfl | decide | assumption | (intro _; omega) | (simp [roomFor, maxLen, by52, by3, by89, by79, by23] <;> omega)
              refine AnyA.done (by kernel_rfl) (hR _ ?_)
              clear hR R
              exact St.le.of_eq (by simp only [St.keep, List.filterMap_cons, List.filterMap_nil, List.lookup_cons, List.lookup_nil, Option.map_some, Option.map_none, beq_self_eq_true, Nat.reduceBEq])
            exact Branches.nil
          refine thenK.normal ?_
          refine SA.cond rfl ?_ ?_
          · intro hb4
            skip
            cases hb4
          · intro hb4
            skip
            refine SA.skip ?_
            refine blockK.normal (thenK.normal ?_)
            refine SA.region ok (by kernel_rfl) [0, 1, 2, 7, 9, 19, 20, 21] ?_
            intro R hR
            simp only [go_sem, strip]
            iterate 2 (refine opsA_cons fun R1 hR1 => ?_; simp only [go_sem, seval, -List.reduceReplicate]; (repeat' with_reducible refine And.intro ?_ ?_); all_goals first | (refine hR1 _ ?_; clear hR1 R1) | omega | rfl | decide | assumption | (intro _; omega) | (simp [roomFor, maxLen, by52, by3, by89, by79, by23] <;> omega))
            refine opsA_nil (hR _ ?_)
            clear hR R
            try simp only [go_sem, Nat.reduceBEq]
            have hbd : body fit ring all m so (all.getD i default) = false := by unfold body; rw [hcl, hpk]; rfl
            refine loopK.normal (all.length - (i + 1)) _ (by omega) ((St.le.cut 1 rfl).trans (St.le.of_eq (by rw [wrap_succ hlt ham]; rfl))) ⟨i + 1, rfl, ⟨hlt, ?_⟩, rfl⟩
            rw [any_take _ all hlt, hc, hbd]; rfl
        · skip
          have hlen' : (so ++ [all.getD i default]).length + m = ring.length := by rw [List.length_append, List.length_cons, List.length_nil]; omega
          have hso' : ∀ a ∈ so ++ [all.getD i default], a ∈ all := by
            intro a ha
            rcases List.mem_append.1 ha with h | h
            · exact hso a h
            · simp only [List.mem_singleton] at h; rw [h]; exact hmem
          refine SA.regionAnyPost mixed 13 (by kernel_rfl) #[false, false, false, false, false, false, false, false, false, false, false, false, false] (by kernel_rfl) [] [0, 1, 2, 7, 9, 19, 20, 21, 60] ({ tm := [(0, true, .fs 3 (ring.map V.int) false), (1, true, .fs 89 (all.map Edge.v) false), (2, true, .fs 89 (so.map Edge.v) false), (7, true, .fptr 90 (.clo F ts vs)), (9, true, .int .i64 so.length), (19, true, .fs 89 (all.map Edge.v) false), (20, true, .int .i64 all.length), (21, true, .int .i64 i), (60, true, .bool (chosen fit ring all m (so ++ [all.getD i default])))], ob := [.dead, .dead, .row 89 [(all.getD i default).v], .row 89 ((so ++ [all.getD i default]).map Edge.v)], out := [], nt := 62 }) ?_ ?_
          · intro R hR
            refine AnyA.take ok 0 ⟨some 48, (Go.Op.move (Go.Operand.tmp 12)), none⟩ (by kernel_rfl) (by kernel_rfl) (by kernel_rfl) (by kernel_rfl) (by kernel_rfl) #[true, false, false, false, false, false, false, false, false, false, false, false, false] (by kernel_rfl) fun R1 hR1 => ?_
            simp only [go_sem, seval, -List.reduceReplicate, hcl]
            repeat' with_reducible refine And.intro ?_ ?_
            all_goals first | (refine hR1 _ ?_; clear hR1 R1) | omega | rfl | decide | assumption | (intro _; omega) | (simp [roomFor, maxLen, by52, by3, by89, by79, by23] <;> omega)
            refine AnyA.take ok 1 ⟨some 49, (Go.Op.unOp Go.UnOp.not 4 (Go.Operand.tmp 48)), none⟩ (by kernel_rfl) (by kernel_rfl) (by kernel_rfl) (by kernel_rfl) (by kernel_rfl) #[true, true, false, false, false, false, false, false, false, false, false, false, false] (by kernel_rfl) fun R1 hR1 => ?_
            simp only [go_sem, seval, -List.reduceReplicate, hcl]
            repeat' with_reducible refine And.intro ?_ ?_
            all_goals first | (refine hR1 _ ?_; clear hR1 R1) | omega | rfl | decide | assumption | (intro _; omega) | (simp [roomFor, maxLen, by52, by3, by89, by79, by23] <;> omega)
            refine AnyA.take ok 2 ⟨some 50, (Go.Op.move (Go.Operand.tmp 49)), none⟩ (by kernel_rfl) (by kernel_rfl) (by kernel_rfl) (by kernel_rfl) (by kernel_rfl) #[true, true, true, false, false, false, false, false, false, false, false, false, false] (by kernel_rfl) fun R1 hR1 => ?_
            simp only [go_sem, seval, -List.reduceReplicate, hcl]
            repeat' with_reducible refine And.intro ?_ ?_
            all_goals first | (refine hR1 _ ?_; clear hR1 R1) | omega | rfl | decide | assumption | (intro _; omega) | (simp [roomFor, maxLen, by52, by3, by89, by79, by23] <;> omega)
            refine AnyA.take ok 3 ⟨some 51, (Go.Op.move (Go.Operand.tmp 0)), some (50, true)⟩ (by kernel_rfl) (by kernel_rfl) (by kernel_rfl) (by kernel_rfl) (by kernel_rfl) #[true, true, true, true, false, false, false, false, false, false, false, false, false] (by kernel_rfl) fun R1 hR1 => ?_
            simp only [go_sem, seval, -List.reduceReplicate, hcl]
            repeat' with_reducible refine And.intro ?_ ?_
            all_goals first | (refine hR1 _ ?_; clear hR1 R1) | omega | rfl | decide | assumption | (intro _; omega) | (simp [roomFor, maxLen, by52, by3, by89, by79, by23] <;> omega)
            refine AnyA.take ok 4 ⟨some 52, (Go.Op.move (Go.Operand.tmp 1)), some (50, true)⟩ (by kernel_rfl) (by kernel_rfl) (by kernel_rfl) (by kernel_rfl) (by kernel_rfl) #[true, true, true, true, true, false, false, false, false, false, false, false, false] (by kernel_rfl) fun R1 hR1 => ?_
            simp only [go_sem, seval, -List.reduceReplicate, hcl]
            repeat' with_reducible refine And.intro ?_ ?_
            all_goals first | (refine hR1 _ ?_; clear hR1 R1) | omega | rfl | decide | assumption | (intro _; omega) | (simp [roomFor, maxLen, by52, by3, by89, by79, by23] <;> omega)
            refine AnyA.take ok 5 ⟨some 53, (Go.Op.move (Go.Operand.tmp 2)), some (50, true)⟩ (by kernel_rfl) (by kernel_rfl) (by kernel_rfl) (by kernel_rfl) (by kernel_rfl) #[true, true, true, true, true, true, false, false, false, false, false, false, false] (by kernel_rfl) fun R1 hR1 => ?_
            simp only [go_sem, seval, -List.reduceReplicate, hcl]
            repeat' with_reducible refine And.intro ?_ ?_
            all_goals first | (refine hR1 _ ?_; clear hR1 R1) | omega | rfl | decide | assumption | (intro _; omega) | (simp [roomFor, maxLen, by52, by3, by89, by79, by23] <;> omega)
            refine AnyA.take ok 7 ⟨some 55, (Go.Op.load 89 (Go.Operand.tmp 11)), some (50, true)⟩ (by kernel_rfl) (by kernel_rfl) (by kernel_rfl) (by kernel_rfl) (by kernel_rfl) #[true, true, true, true, true, true, false, true, false, false, false, false, false] (by kernel_rfl) fun R1 hR1 => ?_
            simp only [go_sem, seval, -List.reduceReplicate, hcl]
            repeat' with_reducible refine And.intro ?_ ?_
            all_goals first | (refine hR1 _ ?_; clear hR1 R1) | omega | rfl | decide | assumption | (intro _; omega) | (simp [roomFor, maxLen, by52, by3, by89, by79, by23] <;> omega)
            refine AnyA.take ok 10 ⟨some 58, (Go.Op.load 90 (Go.Operand.tmp 7)), some (50, true)⟩ (by kernel_rfl) (by kernel_rfl) (by kernel_rfl) (by kernel_rfl) (by kernel_rfl) #[true, true, true, true, true, true, false, true, false, false, true, false, false] (by kernel_rfl) fun R1 hR1 => ?_
            simp only [go_sem, seval, -List.reduceReplicate, hcl]
            repeat' with_reducible refine And.intro ?_ ?_
            all_goals first | (refine hR1 _ ?_; clear hR1 R1) | omega | rfl | decide | assumption | (intro _; omega) | (simp [roomFor, maxLen, by52, by3, by89, by79, by23] <;> omega)
            refine AnyA.all (rs := [6, 8]) ok (by kernel_rfl) (by kernel_rfl) rfl ?_
            refine Branches.keep (i := 6) ⟨some 54, (Go.Op.call (Go.Call.mk (Go.Callee.value (Go.Operand.func 55)) #[(Go.Operand.tmp 53)] #[92])), some (50, true)⟩ (by kernel_rfl) rfl #[true, true, true, true, true, true, true, true, false, false, true, false, false] (by kernel_rfl) (fun R1 hR1 => ?_) ?_
            · skip
              simp only [go_sem, seval, -List.reduceReplicate, hcl]
              repeat' with_reducible refine And.intro ?_ ?_
              all_goals try (first | omega | assumption | (intro _; omega))
              refine ⟨_, _, rfl, .inl ⟨_, clipEdgeQ (so.map Edge.v) false (by rw [List.length_map]; exact hsm), ?_⟩⟩
              try simp only [go_sem, seval, -List.reduceReplicate, hcl]
              repeat' with_reducible refine And.intro ?_ ?_
              all_goals first | (refine hR1 _ ?_; clear hR1 R1) | omega | rfl | decide | assumption | (intro _; omega) | (simp [roomFor, maxLen, by52, by3, by89, by79, by23] <;> omega)
              refine AnyA.all (rs := [8]) ok (by kernel_rfl) (by kernel_rfl) rfl ?_
              refine Branches.keep (i := 8) ⟨some 56, (Go.Op.buildSlice 92 1 #[(0, (Go.Operand.tmp 55))]), some (50, true)⟩ (by kernel_rfl) rfl #[true, true, true, true, true, true, true, true, true, false, true, false, false] (by kernel_rfl) (fun R1 hR1 => ?_) ?_
              rotate_left
              exact Branches.nil
              simp only [go_sem, seval, -List.reduceReplicate, hcl]
              repeat' with_reducible refine And.intro ?_ ?_
              all_goals first | (refine hR1 _ ?_; clear hR1 R1) | omega | rfl | decide | assumption | (intro _; omega) | (simp [roomFor, maxLen, by52, by3, by89, by79, by23] <;> omega)
              refine AnyA.all (rs := [9]) ok (by kernel_rfl) (by kernel_rfl) rfl ?_
              refine Branches.keep (i := 9) ⟨some 57, (Go.Op.call (Go.Call.mk (Go.Callee.builtin Go.Builtin.append) #[(Go.Operand.tmp 54), (Go.Operand.tmp 56)] #[92, 92])), some (50, true)⟩ (by kernel_rfl) rfl #[true, true, true, true, true, true, true, true, true, true, true, false, false] (by kernel_rfl) (fun R1 hR1 => ?_) ?_
              rotate_left
              exact Branches.nil
              simp only [go_sem, seval, -List.reduceReplicate, hcl]
              repeat' with_reducible refine And.intro ?_ ?_
              all_goals first | (refine hR1 _ ?_; clear hR1 R1) | omega | rfl | decide | assumption | (intro _; omega) | (simp [roomFor, maxLen, by52, by3, by89, by79, by23] <;> omega)
              refine AnyA.all (rs := [11]) ok (by kernel_rfl) (by kernel_rfl) rfl ?_
              refine Branches.keep (i := 11) ⟨some 59, (Go.Op.call (Go.Call.mk (Go.Callee.value (Go.Operand.func 28)) #[(Go.Operand.tmp 51), (Go.Operand.tmp 52), (Go.Operand.tmp 57), (Go.Operand.tmp 58)] #[23, 92, 92, 90])), some (50, true)⟩ (by kernel_rfl) rfl #[true, true, true, true, true, true, true, true, true, true, true, true, false] (by kernel_rfl) (fun R1 hR1 => ?_) ?_
              rotate_left
              exact Branches.nil
              simp only [go_sem, seval, -List.reduceReplicate, hcl]
              repeat' with_reducible refine And.intro ?_ ?_
              all_goals try (first | omega | assumption | (intro _; omega))
              refine ⟨_, _, rfl, .inl ⟨_, CallQ.ctr ok (ih m (so ++ [all.getD i default]) rfl hlen' hso') (by simp [argsV, toVs, contentV, toV, ty23, ty92, ty90, capsV_capsE htl, List.take_of_length_le]) rfl, ?_⟩⟩
              try simp only [go_sem, seval, -List.reduceReplicate, hcl]
              repeat' with_reducible refine And.intro ?_ ?_
              all_goals first | (refine hR1 _ ?_; clear hR1 R1) | omega | rfl | decide | assumption | (intro _; omega) | (simp [roomFor, maxLen, by52, by3, by89, by79, by23] <;> omega)
              refine AnyA.take ok 12 ⟨some 60, (Go.Op.pick (Go.Operand.tmp 50) (Go.Operand.tmp 59) (Go.Operand.const (Go.Value.bool false))), none⟩ (by kernel_rfl) (by kernel_rfl) (by kernel_rfl) (by kernel_rfl) (by kernel_rfl) #[true, true, true, true, true, true, true, true, true, true, true, true, true] (by kernel_rfl) fun R1 hR1 => ?_
              simp only [go_sem, seval, -List.reduceReplicate, hcl]
              repeat' with_reducible refine And.intro ?_ ?_
              all_goals first | (refine hR1 _ ?_; clear hR1 R1) | omega | rfl | decide | assumption | (intro _; omega) | (simp [roomFor, maxLen, by52, by3, by89, by79, by23] <;> omega)
              refine AnyA.done (by kernel_rfl) (hR _ ?_)
              clear hR R
              exact St.le.of_eq (by simp only [St.keep, List.filterMap_cons, List.filterMap_nil, List.lookup_cons, List.lookup_nil, Option.map_some, Option.map_none, beq_self_eq_true, Nat.reduceBEq, List.map_append, List.map_cons, List.map_nil, List.drop_zero, List.take_succ_cons, List.take_zero])
            refine Branches.keep (i := 8) ⟨some 56, (Go.Op.buildSlice 92 1 #[(0, (Go.Operand.tmp 55))]), some (50, true)⟩ (by kernel_rfl) rfl #[true, true, true, true, true, true, false, true, true, false, true, false, false] (by kernel_rfl) (fun R1 hR1 => ?_) ?_
            · skip
              simp only [go_sem, seval, -List.reduceReplicate, hcl]
              repeat' with_reducible refine And.intro ?_ ?_
              all_goals first | (refine hR1 _ ?_; clear hR1 R1) | omega | rfl | decide | assumption | (intro _; omega) | (simp [roomFor, maxLen, by52, by3, by89, by79, by23] <;> omega)
              refine AnyA.all (rs := [6]) ok (by kernel_rfl) (by kernel_rfl) rfl ?_
              refine Branches.keep (i := 6) ⟨some 54, (Go.Op.call (Go.Call.mk (Go.Callee.value (Go.Operand.func 55)) #[(Go.Operand.tmp 53)] #[92])), some (50, true)⟩ (by kernel_rfl) rfl #[true, true, true, true, true, true, true, true, true, false, true, false, false] (by kernel_rfl) (fun R1 hR1 => ?_) ?_
              rotate_left
              exact Branches.nil
              simp only [go_sem, seval, -List.reduceReplicate, hcl]
              repeat' with_reducible refine And.intro ?_ ?_
              all_goals try (first | omega | assumption | (intro _; omega))
              refine ⟨_, _, rfl, .inl ⟨_, clipEdgeQ (so.map Edge.v) false (by rw [List.length_map]; exact hsm), ?_⟩⟩
              try simp only [go_sem, seval, -List.reduceReplicate, hcl]
              repeat' with_reducible refine And.intro ?_ ?_
              all_goals first | (refine hR1 _ ?_; clear hR1 R1) | omega | rfl | decide | assumption | (intro _; omega) | (simp [roomFor, maxLen, by52, by3, by89, by79, by23] <;> omega)
              refine AnyA.all (rs := [9]) ok (by kernel_rfl) (by kernel_rfl) rfl ?_
              refine Branches.keep (i := 9) ⟨some 57, (Go.Op.call (Go.Call.mk (Go.Callee.builtin Go.Builtin.append) #[(Go.Operand.tmp 54), (Go.Operand.tmp 56)] #[92, 92])), some (50, true)⟩ (by kernel_rfl) rfl #[true, true, true, true, true, true, true, true, true, true, true, false, false] (by kernel_rfl) (fun R1 hR1 => ?_) ?_
              rotate_left
              exact Branches.nil
              simp only [go_sem, seval, -List.reduceReplicate, hcl]
              repeat' with_reducible refine And.intro ?_ ?_
              all_goals first | (refine hR1 _ ?_; clear hR1 R1) | omega | rfl | decide | assumption | (intro _; omega) | (simp [roomFor, maxLen, by52, by3, by89, by79, by23] <;> omega)
              refine AnyA.all (rs := [11]) ok (by kernel_rfl) (by kernel_rfl) rfl ?_
              refine Branches.keep (i := 11) ⟨some 59, (Go.Op.call (Go.Call.mk (Go.Callee.value (Go.Operand.func 28)) #[(Go.Operand.tmp 51), (Go.Operand.tmp 52), (Go.Operand.tmp 57), (Go.Operand.tmp 58)] #[23, 92, 92, 90])), some (50, true)⟩ (by kernel_rfl) rfl #[true, true, true, true, true, true, true, true, true, true, true, true, false] (by kernel_rfl) (fun R1 hR1 => ?_) ?_
              rotate_left
              exact Branches.nil
              simp only [go_sem, seval, -List.reduceReplicate, hcl]
              repeat' with_reducible refine And.intro ?_ ?_
              all_goals try (first | omega | assumption | (intro _; omega))
              refine ⟨_, _, rfl, .inl ⟨_, CallQ.ctr ok (ih m (so ++ [all.getD i default]) rfl hlen' hso') (by simp [argsV, toVs, contentV, toV, ty23, ty92, ty90, capsV_capsE htl, List.take_of_length_le]) rfl, ?_⟩⟩
              try simp only [go_sem, seval, -List.reduceReplicate, hcl]
              repeat' with_reducible refine And.intro ?_ ?_
              all_goals first | (refine hR1 _ ?_; clear hR1 R1) | omega | rfl | decide | assumption | (intro _; omega) | (simp [roomFor, maxLen, by52, by3, by89, by79, by23] <;> omega)
              refine AnyA.take ok 12 ⟨some 60, (Go.Op.pick (Go.Operand.tmp 50) (Go.Operand.tmp 59) (Go.Operand.const (Go.Value.bool false))), none⟩ (by kernel_rfl) (by kernel_rfl) (by kernel_rfl) (by kernel_rfl) (by kernel_rfl) #[true, true, true, true, true, true, true, true, true, true, true, true, true] (by kernel_rfl) fun R1 hR1 => ?_
              simp only [go_sem, seval, -List.reduceReplicate, hcl]
              repeat' with_reducible refine And.intro ?_ ?_
              all_goals first | (refine hR1 _ ?_; clear hR1 R1) | omega | rfl | decide | assumption | (intro _; omega) | (simp [roomFor, maxLen, by52, by3, by89, by79, by23] <;> omega)
              refine AnyA.done (by kernel_rfl) (hR _ ?_)
              clear hR R
              exact St.le.of_eq (by simp only [St.keep, List.filterMap_cons, List.filterMap_nil, List.lookup_cons, List.lookup_nil, Option.map_some, Option.map_none, beq_self_eq_true, Nat.reduceBEq, List.map_append, List.map_cons, List.map_nil, List.drop_zero, List.take_succ_cons, List.take_zero])
            exact Branches.nil
          refine thenK.normal ?_
          refine SA.cond rfl ?_ ?_
          · intro hb5
            skip
            refine SA.seq ?_
            refine SA.region ok (by kernel_rfl) [8] ?_
            intro R hR
            simp only [go_sem, strip]
            iterate 1 (refine opsA_cons fun R1 hR1 => ?_; simp only [go_sem, seval, -List.reduceReplicate]; (repeat' with_reducible refine And.intro ?_ ?_); all_goals first | (refine hR1 _ ?_; clear hR1 R1) | omega | rfl | decide | assumption | (intro _; omega) | (simp [roomFor, maxLen, by52, by3, by89, by79, by23] <;> omega))
            refine opsA_nil (hR _ ?_)
            clear hR R
            try simp only [go_sem, Nat.reduceBEq]
            refine thenK.normal (SA.ret ?_)
            refine blockK.ret ?_
            refine thenK.ret ?_
            refine loopK.ret ?_
            refine blockK.ret ?_
            refine thenK.ret ?_
            refine ctrK.ret ?_
            simp only [resA, evalO, resV, backK, outE, toV, ty4, ty3, List.lookup_cons, List.lookup_nil, beq_self_eq_true, forall_const, true_and, and_true]
            refine ⟨rfl, ?_⟩
            simp only [if_true, Option.some.injEq, V.bool.injEq]
            symm
            show all.any (body fit ring all m so) = true
            exact List.any_eq_true.2 ⟨_, hmem, by unfold body; rw [hcl, hpk, hb5]; rfl⟩
          · intro hb5
            skip
            refine SA.skip ?_
            refine blockK.normal (thenK.normal ?_)
            refine SA.region ok (by kernel_rfl) [0, 1, 2, 7, 9, 19, 20, 21] ?_
            intro R hR
            simp only [go_sem, strip]
            iterate 2 (refine opsA_cons fun R1 hR1 => ?_; simp only [go_sem, seval, -List.reduceReplicate]; (repeat' with_reducible refine And.intro ?_ ?_); all_goals first | (refine hR1 _ ?_; clear hR1 R1) | omega | rfl | decide | assumption | (intro _; omega) | (simp [roomFor, maxLen, by52, by3, by89, by79, by23] <;> omega))
            refine opsA_nil (hR _ ?_)
            clear hR R
            try simp only [go_sem, Nat.reduceBEq]
            have hbd : body fit ring all m so (all.getD i default) = false := by unfold body; rw [hcl, hpk, hb5]; rfl
            refine loopK.normal (all.length - (i + 1)) _ (by omega) ((St.le.cut 1 rfl).trans (St.le.of_eq (by rw [wrap_succ hlt ham]; rfl))) ⟨i + 1, rfl, ⟨hlt, ?_⟩, rfl⟩
            rw [any_take _ all hlt, hc, hbd]; rfl
    · intro hb2
      simp only [decide_eq_true_eq, decide_eq_false_iff_not, Int.not_lt, Int.not_le] at hb2
      refine SA.exit ?_
      refine thenK.exit ?_
      refine loopK.exit ?_
      refine blockK.hit ?_
      refine thenK.normal (SA.seq ?_)
      refine SA.region ok (by kernel_rfl) [8] ?_
      intro R hR
      simp only [go_sem, strip]
      iterate 1 (refine opsA_cons fun R1 hR1 => ?_; simp only [go_sem, seval, -List.reduceReplicate]; (repeat' with_reducible refine And.intro ?_ ?_); all_goals first | (refine hR1 _ ?_; clear hR1 R1) | omega | rfl | decide | assumption | (intro _; omega) | (simp [roomFor, maxLen, by52, by3, by89, by79, by23] <;> omega))
      refine opsA_nil (hR _ ?_)
      clear hR R
      try simp only [go_sem, Nat.reduceBEq]
      refine thenK.normal (SA.ret ?_)
      refine ctrK.ret ?_
      simp only [resA, evalO, resV, backK, outE, toV, ty4, ty3, List.lookup_cons, List.lookup_nil, beq_self_eq_true, forall_const, true_and, and_true]
      have hii : i = all.length := by omega
      subst hii
      rw [List.take_length] at hc
      refine ⟨rfl, ?_⟩
      simp only [if_true, Option.some.injEq, V.bool.injEq]
      exact hc.symm

end Go.Eng.Tryz.O
