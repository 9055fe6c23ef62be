/- A part of the proof: walks through the program's functions, and what they compute. -/
import Derived.Test.YtedceinkpkoncaaGreatSAttr
import Derived.Test.YtedceinkpkoncaaGreatM1
import Derived.Test.YtedceinkpkoncaaGreatE4
import Derived.Test.YtedceinkpkoncaaGreatOW23
namespace Go.Eng.Tryz.O
set_option maxHeartbeats 0
set_option maxRecDepth 20000
open Go.RowKit Go.Eng
set_option linter.unusedSimpArgs false
set_option linter.unusedVariables false

/-- The first place of which p holds, or -1. -/
def findE (p : Edge → Bool) (l : List Edge) : Int := if l.any p then (l.findIdx p : Nat) else -1
theorem findE_hit {p : Edge → Bool} {l : List Edge} {i : Nat} (hi : i < l.length) (h0 : (l.take i).any p = false) (h1 : p (l.getD i default) = true) : findE p l = i := by
  have hi' : l.getD i default = l[i] := by simp [List.getD_eq_getElem?_getD, hi]
  have : l.any p = true := List.any_eq_true.2 ⟨_, getD_mem l hi, h1⟩
  unfold findE
  rw [if_pos this]
  have : l.findIdx p = i := by
    rw [List.findIdx_eq hi]
    rw [hi'] at h1
    refine ⟨h1, fun j hj => ?_⟩
    have := List.any_eq_false.1 h0 l[j] (List.mem_take_iff_getElem.2 ⟨j, by omega, rfl⟩)
    simpa using this
  rw [this]
theorem findE_miss {p : Edge → Bool} {l : List Edge} (h : l.any p = false) : findE p l = -1 := by simp [findE, h]
theorem findE_ge {p : Edge → Bool} {l : List Edge} : decide (0 ≤ findE p l) = l.any p := by
  unfold findE; cases l.any p <;> simp

/-- A function that holds what it needs, as a test of two edges. -/
def Tests (F : FuncId) (ts : List TypeId) (vs : List V) (all : List Edge) (fit : Edge → Edge → Bool) : Prop := ∀ (a b : Edge), a ∈ all → b ∈ all → ∀ (σ : St) (K : St → E → Prop), (∀ xs, K { σ with ob := σ.ob ++ xs } (.bool (fit a b))) → CallE Go.Proofs.Tryz.prog tab σ F (.data 89 a.v :: .data 89 b.v :: capsE ts vs) K

def picks (ring : List Int) (k : Nat) (e : Edge) : Bool := decide (e.from_ = ring.getD k default) && decide (e.to_ = ring.getD ((k + 1) % ring.length) default)
def clashes (fit : Edge → Edge → Bool) (so : List Edge) (e : Edge) : Bool := so.any fun a => decide (a.go = e.go) || !fit a e
/-- Can edges be chosen for the rest of a ring? -/
def chosen (fit : Edge → Edge → Bool) (ring : List Int) (all : List Edge) : Nat → List Edge → Bool
  | 0, _ => true
  | n + 1, so => all.any fun e => picks ring so.length e && !clashes fit so e && chosen fit ring all n (so ++ [e])
theorem capsV_capsE : ∀ {ts : List TypeId} {l : List V}, ts.length = l.length → capsV (capsE ts l) = some (ts, l)
  | [], [], _ => rfl
  | t :: ts, v :: l, h => by simp [capsE, capsV, capsV_capsE (ts := ts) (l := l) (by simpa using h)]
  | [], _ :: _, h => by simp at h
  | _ :: _, [], h => by simp at h

attribute [local go_sem] concat_at List.length_map List.length_range zero52 z52 z3 z4 z79 z89 z55 z53 z50 z2 zero53 z78 z117 zero79 zero78 zero117 zero89 zero55 Int.toNat_natCast Int.natCast_zero Event.v0 Event.v3 Event.v5 Event.v7 Event.v8 Access.v0 Access.v1 Access.v2 beq_acc Edge.v0 Edge.v1 Edge.v2 Edge.v3 heldOf_len locksTo_len heldsTo_len nowL_len
def lv48 : List (Nat × List Nat) := [(0, []), (1, [4])]
-- scarab/goodlock.free
theorem free_call (all : List Edge) : Tests 48 [] [] all (fun _ _ => true) := by
  intro a b _ _ σ K h
  show CallE Go.Proofs.Tryz.prog tab σ 48 [.data 89 a.v, .data 89 b.v] K
  refine CallE.body ok Go.Proofs.Tryz.func48 rfl rfl 5 rfl [.tmp 4] rfl (by simp) ?_
  simp only [enter, args0, Nat.zero_add, Nat.reduceAdd]
  repeat' first
    | ((with_reducible refine SARA.do fun R1 hR1 => ?_); (simp only [go_sem, seval, -List.reduceReplicate]); (repeat' with_reducible refine And.intro ?_ ?_); all_goals first | (refine hR1 _ ?_; clear hR1 R1) | omega | rfl | decide | assumption | (intro _; omega) | (simp; done) | (simp; omega) | (simp [roomFor, maxLen, by52, by3, by89, by79, by23] <;> omega))
    | ((with_reducible refine SARA.nil ?_); refine hR _ ?_; clear hR R; try simp only [go_sem, lv48, lvOf, Nat.reduceBEq, Option.getD_some])
    | (with_reducible first | refine thenK.normal ?_ | refine SA.seq ?_ | refine SA.skip ?_ | refine SA.block ?_ | refine blockK.normal ?_ | refine SA.exit ?_ | refine blockK.hit ?_ | refine blockK.miss (by decide) ?_ | refine thenK.exit ?_ | refine loopK.exit ?_ | refine SA.ret ?_ | refine thenK.ret ?_ | refine blockK.ret ?_ | refine loopK.ret ?_ | refine SA.scope ?_ | refine scopeK.normal ?_ | refine scopeK.exit ?_ | refine scopeK.ret ?_ | refine SA.label ?_)
    | ((with_reducible refine SA.regionN ok (by kernel_rfl) lv48 ?_); intro R hR; simp only [go_sem, strip])
    | ((with_reducible first | refine bodyK.normal ?_ | refine bodyK.ret ?_)
       simp only [resA, evalO, resV, backK, outE, toV, ty4, ty3, List.lookup_cons, List.lookup_nil, beq_self_eq_true, forall_const, true_and, and_true]
       simpa using h [.var 89 (.data 89 a.v), .var 89 (.data 89 b.v)])

-- scarab/goodlock.chosen$1
theorem chosen1_call {F : FuncId} {ts : List TypeId} {vs : List V} {all : List Edge} {fit : Edge → Edge → Bool} (hfit : Tests F ts vs all fit) (a e : Edge) (ha : a ∈ all) (he : e ∈ all) {σ : St} {K : St → E → Prop} (h : ∀ xs, K { σ with ob := σ.ob ++ xs } (.bool (decide (a.go = e.go) || !fit a e))) : CallE Go.Proofs.Tryz.prog tab σ 54 [.data 89 a.v, .fptr 89 e.v, .fptr 90 (.clo F ts vs)] K := by
  refine CallE.body ok Go.Proofs.Tryz.func54 rfl rfl 17 rfl [.tmp 4] rfl (by simp) ?_
  simp only [enter, args0, Nat.zero_add, Nat.reduceAdd]
  refine SA.seq ?_
  refine SA.region ok (by kernel_rfl) [1, 2, 3] ?_
  intro R hR
  simp only [go_sem, strip]
  iterate 2 (refine opsA_cons fun R1 hR1 => ?_; simp only [go_sem, seval, -List.reduceReplicate]; (repeat' with_reducible refine And.intro ?_ ?_); all_goals first | (refine hR1 _ ?_; clear hR1 R1) | omega | rfl | decide | assumption | (intro _; omega) | (simp; done) | (simp; omega) | (simp [roomFor, maxLen, by52, by3, by89, by79, by23] <;> omega))
  refine opsA_nil (hR _ ?_)
  clear hR R
  try simp only [go_sem, Nat.reduceBEq]
  refine thenK.normal (SA.seq ?_)
  rcases Bool.eq_false_or_eq_true (decide (a.go = e.go)) with hgo | hgo
  · skip
    rw [hgo] at h
    refine SA.region ok (by kernel_rfl) [4] ?_
    intro R hR
    simp only [go_sem, strip]
    iterate 9 (refine opsA_cons fun R1 hR1 => ?_; simp only [go_sem, seval, -List.reduceReplicate, hgo]; (repeat' with_reducible refine And.intro ?_ ?_); all_goals first | (refine hR1 _ ?_; clear hR1 R1) | omega | rfl | decide | assumption | (intro _; omega) | (simp; done) | (simp; omega) | (simp [roomFor, maxLen, by52, by3, by89, by79, by23] <;> omega))
    refine opsA_cons fun R1 hR1 => ?_
    simp only [go_sem, seval, -List.reduceReplicate, hgo]
    repeat' with_reducible refine And.intro ?_ ?_
    all_goals try (first | omega | assumption | (intro _; omega))
    refine ⟨_, _, rfl, .inl ⟨.bool true, ?_⟩⟩
    repeat' with_reducible refine And.intro ?_ ?_
    all_goals first | (refine hR1 _ ?_; clear hR1 R1) | omega | rfl | decide | assumption | (intro _; omega) | (simp; done) | (simp; omega) | (simp [roomFor, maxLen, by52, by3, by89, by79, by23] <;> omega)
    iterate 3 (refine opsA_cons fun R1 hR1 => ?_; simp only [go_sem, seval, -List.reduceReplicate, hgo]; (repeat' with_reducible refine And.intro ?_ ?_); all_goals first | (refine hR1 _ ?_; clear hR1 R1) | omega | rfl | decide | assumption | (intro _; omega) | (simp; done) | (simp; omega) | (simp [roomFor, maxLen, by52, by3, by89, by79, by23] <;> omega))
    refine opsA_nil (hR _ ?_)
    clear hR R
    try simp only [go_sem, Nat.reduceBEq]
    refine thenK.normal (SA.ret ?_)
    refine bodyK.ret ?_
    simp only [resA, evalO, resV, backK, outE, toV, ty4, ty3, List.lookup_cons, List.lookup_nil, beq_self_eq_true, forall_const, true_and, and_true]
    simpa using h [.var 89 (.data 89 a.v)]
  · skip
    rw [hgo] at h
    refine SA.region ok (by kernel_rfl) [4] ?_
    intro R hR
    simp only [go_sem, strip]
    iterate 9 (refine opsA_cons fun R1 hR1 => ?_; simp only [go_sem, seval, -List.reduceReplicate, hgo]; (repeat' with_reducible refine And.intro ?_ ?_); all_goals first | (refine hR1 _ ?_; clear hR1 R1) | omega | rfl | decide | assumption | (intro _; omega) | (simp; done) | (simp; omega) | (simp [roomFor, maxLen, by52, by3, by89, by79, by23] <;> omega))
    refine opsA_cons fun R1 hR1 => ?_
    simp only [go_sem, seval, -List.reduceReplicate, hgo]
    repeat' with_reducible refine And.intro ?_ ?_
    all_goals try (first | omega | assumption | (intro _; omega))
    refine ⟨_, _, rfl, .inr (hfit a e ha he _ _ fun xs => ?_)⟩
    try simp only [go_sem, seval, -List.reduceReplicate, hgo]
    repeat' with_reducible refine And.intro ?_ ?_
    all_goals first | (refine hR1 _ ?_; clear hR1 R1) | omega | rfl | decide | assumption | (intro _; omega) | (simp; done) | (simp; omega) | (simp [roomFor, maxLen, by52, by3, by89, by79, by23] <;> omega)
    iterate 3 (refine opsA_cons fun R1 hR1 => ?_; simp only [go_sem, seval, -List.reduceReplicate, hgo]; (repeat' with_reducible refine And.intro ?_ ?_); all_goals first | (refine hR1 _ ?_; clear hR1 R1) | omega | rfl | decide | assumption | (intro _; omega) | (simp; done) | (simp; omega) | (simp [roomFor, maxLen, by52, by3, by89, by79, by23] <;> omega))
    refine opsA_nil (hR _ ?_)
    clear hR R
    try simp only [go_sem, Nat.reduceBEq]
    refine thenK.normal (SA.ret ?_)
    refine bodyK.ret ?_
    simp only [resA, evalO, resV, backK, outE, toV, ty4, ty3, List.lookup_cons, List.lookup_nil, beq_self_eq_true, forall_const, true_and, and_true]
    rw [List.append_assoc]
    simpa using h (.var 89 (.data 89 a.v) :: xs)

def lv74 : List (Nat × List Nat) := [(0, [0, 1]), (1, [0, 1, 7, 8]), (2, [0, 1, 7, 8, 9]), (3, [0, 1, 5, 7, 8]), (4, [0, 1, 5, 7, 8, 16]), (5, [4]), (6, [0, 1, 7, 8]), (7, [4])]
-- slices.IndexFunc[[]scarab/api.LockEdge,scarab/api.LockEdge]
theorem indexEdge_ctr (l : List Edge) (hl : l.length ≤ maxLen) (f : FuncId) (ts : List TypeId) (vs : List V) (p : Edge → Bool) (hf : ∀ a ∈ l, ∀ (σ : St) (K : St → E → Prop), (∀ xs, K { σ with ob := σ.ob ++ xs } (.bool (p a))) → CallE Go.Proofs.Tryz.prog tab σ f (.data 89 a.v :: capsE ts vs) K) : Ctr Go.Proofs.Tryz.prog tab 74 [92, 128] [3] [.list (l.map Edge.v), .clo f ts vs] [.int (findE p l)] := by
  refine Ctr.body ok Go.Proofs.Tryz.func74 rfl rfl 19 rfl [.tmp 4] rfl (by simp [fromVs]) ?_
  simp only [fromVs, fromV, args0, V.toList_list, V.toInt_int, V.toBool_bool, Nat.zero_add, Nat.reduceAdd, ty92, ty128]
  repeat' first
    | ((with_reducible refine SARA.told 4 _ ?_); try simp only [getD_map Edge.v l hlt])
    | ((with_reducible refine SARA.do fun R1 hR1 => ?_); (simp only [go_sem, seval, -List.reduceReplicate]); (repeat' with_reducible refine And.intro ?_ ?_); all_goals first | (refine hR1 _ ?_; clear hR1 R1) | ((first | refine ⟨_, _, rfl, .inr (hf _ (getD_mem l hlt) _ _ fun ys => ?_)⟩); all_goals ((try simp only [go_sem, seval, -List.reduceReplicate]); (repeat' with_reducible refine And.intro ?_ ?_); all_goals first | (refine hR1 _ ?_; clear hR1 R1) | omega | rfl | decide | assumption | (intro _; omega) | (simp; done) | (simp; omega) | (simp [roomFor, maxLen, by52, by3, by89, by79, by23] <;> omega))) | omega | rfl | decide | assumption | (intro _; omega) | (simp; done) | (simp; omega) | (simp [roomFor, maxLen, by52, by3, by89, by79, by23] <;> omega))
    | ((with_reducible refine SARA.nil ?_); refine hR _ ?_; clear hR R; try simp only [go_sem, lv74, lvOf, Nat.reduceBEq, Option.getD_some])
    | (with_reducible first | refine thenK.normal ?_ | refine SA.seq ?_ | refine SA.skip ?_ | refine SA.block ?_ | refine blockK.normal ?_ | refine SA.exit ?_ | refine blockK.hit ?_ | refine blockK.miss (by decide) ?_ | refine thenK.exit ?_ | refine loopK.exit ?_ | refine SA.ret ?_ | refine thenK.ret ?_ | refine blockK.ret ?_ | refine loopK.ret ?_ | refine SA.scope ?_ | refine scopeK.normal ?_ | refine scopeK.exit ?_ | refine scopeK.ret ?_ | refine SA.label ?_)
    | ((with_reducible refine SA.at 4 ?_)
       have hlt : i < l.length := by omega
       (with_reducible refine SA.regionN ok (by kernel_rfl) lv74 ?_); intro R hR; simp only [go_sem, strip])
    | ((with_reducible refine SA.regionN ok (by kernel_rfl) lv74 ?_); intro R hR; simp only [go_sem, strip])
    | ((with_reducible refine SA.condAt 9 rfl (fun hb9 => ?_) (fun hf9 => ?_))
       all_goals
         try
           (simp only [decide_eq_true_eq, decide_eq_false_iff_not, Int.not_lt, Int.not_le] at hb9)
         try
           (simp only [decide_eq_true_eq, decide_eq_false_iff_not, Int.not_lt, Int.not_le] at hf9))
    | ((with_reducible refine SA.condAt 16 rfl (fun hb16 => ?_) (fun hf16 => ?_)))
    | ((with_reducible refine SA.atLoop ?_)
       refine SA.weaken (St.le.of_eq (by first | rfl | (simp; done) | fail)) (SA.loop (fun n τ => ∃ (i : Nat) (xs : List Obj), n = l.length - i ∧ (i ≤ l.length ∧ (l.take i).any p = false) ∧ τ = { tm := [(0, true, .fs 89 (l.map Edge.v) false), (1, true, .fn f (capsE ts vs)), (7, true, .int .i64 l.length), (8, true, .int .i64 i)], ob := xs, out := [], nt := 19 }) (l.length) ⟨0, [], rfl, ⟨Nat.zero_le _, rfl⟩, rfl⟩ ?_)
       rintro n τ ⟨i, xs, hn, ⟨hi, hc⟩, rfl⟩)
    | ((with_reducible refine loopK.round ?_)
       first
         | (have _ := hb9
            have _ := hf16
            refine loopK.normal (l.length - (i + 1)) _ (by omega) (St.le.of_eq (by rw [wrap_succ hlt hl])) ⟨i + 1, xs ++ ys, rfl, ⟨hlt, ?_⟩, rfl⟩
            rw [any_take _ l hlt, hc, hf16]; rfl))
    | ((with_reducible first | refine ctrK.normal ?_ | refine ctrK.ret ?_)
       simp only [resA, evalO, resV, backK, outE, toV, ty4, ty3, List.lookup_cons, List.lookup_nil, beq_self_eq_true, forall_const, true_and, and_true]
       first
         | (have _ := hb9
            have _ := hb16
            refine ⟨rfl, ?_⟩
            simp only [if_true, Option.some.injEq, V.int.injEq]
            exact (findE_hit hlt hc hb16).symm)
         | (have _ := hf9
            have : i = l.length := by omega
            subst this
            rw [List.take_length] at hc
            refine ⟨rfl, ?_⟩
            simp only [if_true, Option.some.injEq, V.int.injEq]
            exact (findE_miss hc).symm))

def lv53 : List (Nat × List Nat) := [(0, [0, 1]), (1, [4])]
-- slices.ContainsFunc[[]scarab/api.LockEdge,scarab/api.LockEdge]
theorem containsEdge_ctr (l : List Edge) (hl : l.length ≤ maxLen) (f : FuncId) (ts : List TypeId) (vs : List V) (htl : ts.length = vs.length) (p : Edge → Bool) (hf : ∀ a ∈ l, ∀ (σ : St) (K : St → E → Prop), (∀ xs, K { σ with ob := σ.ob ++ xs } (.bool (p a))) → CallE Go.Proofs.Tryz.prog tab σ f (.data 89 a.v :: capsE ts vs) K) : Ctr Go.Proofs.Tryz.prog tab 53 [92, 128] [4] [.list (l.map Edge.v), .clo f ts vs] [.bool (l.any p)] := by
  refine Ctr.body ok Go.Proofs.Tryz.func53 rfl rfl 9 rfl [.tmp 4] rfl (by simp [fromVs]) ?_
  simp only [fromVs, fromV, args0, V.toList_list, V.toInt_int, V.toBool_bool, Nat.zero_add, Nat.reduceAdd, ty92, ty128]
  repeat' first
    | ((with_reducible refine SARA.do fun R1 hR1 => ?_); (simp only [go_sem, seval, -List.reduceReplicate]); (repeat' with_reducible refine And.intro ?_ ?_); all_goals first | (refine hR1 _ ?_; clear hR1 R1) | ((first | refine ⟨_, _, rfl, .inl ⟨_, CallQ.ctr ok (indexEdge_ctr l hl f ts vs p hf) (by simp [argsV, toVs, contentV, toV, ty92, ty128, ty89, ty90, ty23, capsV_capsE htl]) rfl, ?_⟩⟩); all_goals ((try simp only [go_sem, seval, -List.reduceReplicate]); (repeat' with_reducible refine And.intro ?_ ?_); all_goals first | (refine hR1 _ ?_; clear hR1 R1) | omega | rfl | decide | assumption | (intro _; omega) | (simp; done) | (simp; omega) | (simp [roomFor, maxLen, by52, by3, by89, by79, by23] <;> omega))) | omega | rfl | decide | assumption | (intro _; omega) | (simp; done) | (simp; omega) | (simp [roomFor, maxLen, by52, by3, by89, by79, by23] <;> omega))
    | ((with_reducible refine SARA.nil ?_); refine hR _ ?_; clear hR R; try simp only [go_sem, lv53, lvOf, Nat.reduceBEq, Option.getD_some])
    | (with_reducible first | refine thenK.normal ?_ | refine SA.seq ?_ | refine SA.skip ?_ | refine SA.block ?_ | refine blockK.normal ?_ | refine SA.exit ?_ | refine blockK.hit ?_ | refine blockK.miss (by decide) ?_ | refine thenK.exit ?_ | refine loopK.exit ?_ | refine SA.ret ?_ | refine thenK.ret ?_ | refine blockK.ret ?_ | refine loopK.ret ?_ | refine SA.scope ?_ | refine scopeK.normal ?_ | refine scopeK.exit ?_ | refine scopeK.ret ?_ | refine SA.label ?_)
    | ((with_reducible refine SA.regionN ok (by kernel_rfl) lv53 ?_); intro R hR; simp only [go_sem, strip])
    | ((with_reducible first | refine ctrK.normal ?_ | refine ctrK.ret ?_)
       simp only [resA, evalO, resV, backK, outE, toV, ty4, ty3, List.lookup_cons, List.lookup_nil, beq_self_eq_true, forall_const, true_and, and_true]
       refine ⟨rfl, ?_⟩
       simp only [if_true, Option.some.injEq, V.bool.injEq]
       exact findE_ge)

def lv55 : List (Nat × List Nat) := [(0, [0]), (1, [2])]
-- slices.Clip[[]scarab/api.LockEdge,scarab/api.LockEdge]
theorem clipEdge_call (l : List Edge) (c : Bool) (hl : l.length ≤ maxLen) {σ : St} {K : St → E → Prop} (h : K σ (.fs 89 (l.map Edge.v) true)) : CallE Go.Proofs.Tryz.prog tab σ 55 [.fs 89 (l.map Edge.v) c] K := by
  refine CallE.body ok Go.Proofs.Tryz.func55 rfl rfl 9 rfl [.tmp 2] rfl (by simp) ?_
  simp only [enter, args0, Nat.zero_add, Nat.reduceAdd]
  repeat' first
    | ((with_reducible refine SARA.do fun R1 hR1 => ?_); (simp only [go_sem, seval, -List.reduceReplicate]); (repeat' with_reducible refine And.intro ?_ ?_); all_goals first | (refine hR1 _ ?_; clear hR1 R1) | omega | rfl | decide | assumption | (intro _; omega) | (simp; done) | (simp; omega) | (simp [roomFor, maxLen, by52, by3, by89, by79, by23] <;> omega))
    | ((with_reducible refine SARA.nil ?_); refine hR _ ?_; clear hR R; try simp only [go_sem, lv55, lvOf, Nat.reduceBEq, Option.getD_some])
    | (with_reducible first | refine thenK.normal ?_ | refine SA.seq ?_ | refine SA.skip ?_ | refine SA.block ?_ | refine blockK.normal ?_ | refine SA.exit ?_ | refine blockK.hit ?_ | refine blockK.miss (by decide) ?_ | refine thenK.exit ?_ | refine loopK.exit ?_ | refine SA.ret ?_ | refine thenK.ret ?_ | refine blockK.ret ?_ | refine loopK.ret ?_ | refine SA.scope ?_ | refine scopeK.normal ?_ | refine scopeK.exit ?_ | refine scopeK.ret ?_ | refine SA.label ?_)
    | ((with_reducible refine SA.regionN ok (by kernel_rfl) lv55 ?_); intro R hR; simp only [go_sem, strip])
    | ((with_reducible first | refine bodyK.normal ?_ | refine bodyK.ret ?_)
       simp only [resA, evalO, resV, backK, outE, toV, ty4, ty3, List.lookup_cons, List.lookup_nil, beq_self_eq_true, forall_const, true_and, and_true]
       simpa [List.take_of_length_le] using h)

end Go.Eng.Tryz.O
