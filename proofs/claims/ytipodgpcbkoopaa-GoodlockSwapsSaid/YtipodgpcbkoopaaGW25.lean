/- A part of the proof: walks through the program's functions, and what they compute. -/
import Derived.Test.YtipodgpcbkoopaaE3
import Derived.Test.YtipodgpcbkoopaaM1
import Derived.Test.YtipodgpcbkoopaaE4
import Derived.Test.YtipodgpcbkoopaaGW23
namespace Go.Eng.Try
open Go.RowKit Go.Eng
set_option linter.unusedSimpArgs false
set_option linter.unusedVariables false

/-- The first place of which p holds, or -1. -/
def findE (p : Edge → Bool) (l : List Edge) : Int := if l.any p then (l.findIdx p : Nat) else -1
theorem findE_hit {p : Edge → Bool} {l : List Edge} {i : Nat} (hi : i < l.length) (h0 : (l.take i).any p = false) (h1 : p (l.getD i default) = true) : findE p l = i := by
  have hi' : l.getD i default = l[i] := by simp [List.getD_eq_getElem?_getD, hi]
  have : l.any p = true := List.any_eq_true.2 ⟨_, getD_mem l hi, h1⟩
  unfold findE
  rw [if_pos this]
  have : l.findIdx p = i := by
    rw [List.findIdx_eq hi]
    rw [hi'] at h1
    refine ⟨h1, fun j hj => ?_⟩
    have := List.any_eq_false.1 h0 l[j] (List.mem_take_iff_getElem.2 ⟨j, by omega, rfl⟩)
    simpa using this
  rw [this]
theorem findE_miss {p : Edge → Bool} {l : List Edge} (h : l.any p = false) : findE p l = -1 := by simp [findE, h]
theorem findE_ge {p : Edge → Bool} {l : List Edge} : decide (0 ≤ findE p l) = l.any p := by
  unfold findE; cases l.any p <;> simp

/-- A function that holds what it needs, as a test of two edges. -/
def Tests (F : FuncId) (ts : List TypeId) (vs : List V) (all : List Edge) (fit : Edge → Edge → Bool) : Prop := ∀ (a b : Edge), a ∈ all → b ∈ all → ∀ (σ : St) (K : St → E → Prop), (∀ xs, K { σ with ob := σ.ob ++ xs } (.bool (fit a b))) → CallE Go.Proofs.Try.prog tab σ F (.data 68 a.v :: .data 68 b.v :: capsE ts vs) K

def picks (ring : List Int) (k : Nat) (e : Edge) : Bool := decide (e.from_ = ring.getD k default) && decide (e.to_ = ring.getD ((k + 1) % ring.length) default)
def clashes (fit : Edge → Edge → Bool) (so : List Edge) (e : Edge) : Bool := so.any fun a => decide (a.go = e.go) || !fit a e
/-- Can edges be chosen for the rest of a ring? -/
def chosen (fit : Edge → Edge → Bool) (ring : List Int) (all : List Edge) : Nat → List Edge → Bool
  | 0, _ => true
  | n + 1, so => all.any fun e => picks ring so.length e && !clashes fit so e && chosen fit ring all n (so ++ [e])
theorem capsV_capsE : ∀ {ts : List TypeId} {l : List V}, ts.length = l.length → capsV (capsE ts l) = some (ts, l)
  | [], [], _ => rfl
  | t :: ts, v :: l, h => by simp [capsE, capsV, capsV_capsE (ts := ts) (l := l) (by simpa using h)]
  | [], _ :: _, h => by simp at h
  | _ :: _, [], h => by simp at h

attribute [local go_sem] argsV contentV fromVs Option.getD_some St.keep List.filterMap_cons List.filterMap_nil Option.map_some Option.map_none opG opQ opB newEs outE CallStepB guardA putK putE pureA evalO evalL constE pickA capsE capsV loadA fieldAddrA indexAddrA indexA sliceA evalOptI builtinA binA plainA shiftA eqA nilA arith shifts effA storeA appendA appB freshA St.kill Tm.kill E.kill E.killL Obj.kill elemsOf evalVs buildA okAt toV fromV zeroE V.get V.put V.sub V.setSub args0 CallStep CallStepQ i64min i64max u64min u64max u32min u32max u8min u8max Nat.zero_add List.length_map List.lookup_cons List.lookup_nil List.getElem?_cons_zero List.getElem?_cons_succ List.getElem?_toArray List.getElem?_nil Option.bind_some Option.bind_none List.size_toArray List.length_cons List.length_nil List.nil_append List.append_nil List.cons_append List.getD_cons_zero List.getD_cons_succ List.map_cons List.map_nil List.set_cons_zero List.set_cons_succ true_and and_true forall_const true_implies Bool.true_and Bool.and_true Bool.not_true Bool.not_false Bool.false_and Bool.and_false beq_self_eq_true Bool.true_beq Bool.false_beq beq_true beq_false eq_self false_implies V.toInt_int V.toBool_bool V.toList_list V.toList_agg V.toStr_str V.deref_ref if_true if_false Bool.false_eq_true Option.isSome_none Option.isSome_some Bool.false_or Bool.true_or Bool.or_false Bool.or_true cond_true cond_false implies_true and_self imp_self ty22 ty25 ty3 ty4 ty81 ty39 ty40 ty42 ty37 ty2 ty23 ty24 ty46 ty68 ty65 ty70 ty69 ty90 ty77 ty59 ty98 ty71 ty93 ty64 ty85 concat_at List.length_range zero39 z39 z3 z4 z70 z68 z42 z40 z37 z2 zero40 z69 z90 zero70 zero69 zero90 zero68 zero42 Int.toNat_natCast Int.natCast_zero Event.v0 Event.v3 Event.v5 Event.v7 Event.v8 Access.v0 Access.v1 Access.v2 beq_acc Edge.v0 Edge.v1 Edge.v2 Edge.v3 heldOf_len locksTo_len heldsTo_len nowL_len
theorem free_call (all : List Edge) : Tests 46 [] [] all (fun _ _ => true) := by
  intro a b _ _ σ K h
  show CallE Go.Proofs.Try.prog tab σ 46 [.data 68 a.v, .data 68 b.v] K
  refine CallE.body ok Go.Proofs.Try.func46 rfl rfl 5 rfl [.tmp 4] rfl (by simp) ?_
  simp only [enter, args0, Nat.zero_add, Nat.reduceAdd]
  refine SA.seq ?_
  refine SA.region ok (by kernel_rfl) [] ?_
  intro R r
  simp only [go_sem, strip]
  iterate 3 (refine opsA_cons fun Z q1 => ?_; simp only [go_sem, seval, -List.reduceReplicate]; (repeat' with_reducible refine And.intro ?_ ?_); all_goals first | (refine q1 _ ?_; clear q1 Z) | omega | rfl | decide | assumption | (intro _; omega) | (simp; done) | (simp; omega) | (simp [roomFor, maxLen, by39, by3, by68, by70, by23] <;> omega))
  refine opsA_nil (r _ ?_)
  clear r R
  try simp only [go_sem, Nat.reduceBEq]
  refine thenK.normal (SA.seq ?_)
  refine SA.region ok (by kernel_rfl) [4] ?_
  intro R r
  simp only [go_sem, strip]
  iterate 1 (refine opsA_cons fun Z q1 => ?_; simp only [go_sem, seval, -List.reduceReplicate]; (repeat' with_reducible refine And.intro ?_ ?_); all_goals first | (refine q1 _ ?_; clear q1 Z) | omega | rfl | decide | assumption | (intro _; omega) | (simp; done) | (simp; omega))
  refine opsA_nil (r _ ?_)
  clear r R
  try simp only [go_sem, Nat.reduceBEq]
  refine thenK.normal (SA.ret ?_)
  refine bodyK.ret ?_
  simp only [resA, evalO, resV, backK, outE, toV, ty4, ty3, List.lookup_cons, List.lookup_nil, beq_self_eq_true, forall_const, true_and, and_true]
  simpa using h [.var 68 (.data 68 a.v), .var 68 (.data 68 b.v)]

theorem chosen1_call {F : FuncId} {ts : List TypeId} {vs : List V} {all : List Edge} {fit : Edge → Edge → Bool} (hfit : Tests F ts vs all fit) (a e : Edge) (ha : a ∈ all) (he : e ∈ all) {σ : St} {K : St → E → Prop} (h : ∀ xs, K { σ with ob := σ.ob ++ xs } (.bool (decide (a.go = e.go) || !fit a e))) : CallE Go.Proofs.Try.prog tab σ 54 [.data 68 a.v, .fptr 68 e.v, .fptr 71 (.clo F ts vs)] K := by
  refine CallE.body ok Go.Proofs.Try.func54 rfl rfl 17 rfl [.tmp 4] rfl (by simp) ?_
  simp only [enter, args0, Nat.zero_add, Nat.reduceAdd]
  refine SA.seq ?_
  refine SA.region ok (by kernel_rfl) [1, 2, 3] ?_
  intro R r
  simp only [go_sem, strip]
  iterate 2 (refine opsA_cons fun Z q1 => ?_; simp only [go_sem, seval, -List.reduceReplicate]; (repeat' with_reducible refine And.intro ?_ ?_); all_goals first | (refine q1 _ ?_; clear q1 Z) | omega | rfl | decide | assumption | (intro _; omega) | (simp; done) | (simp; omega) | (simp [roomFor, maxLen, by39, by3, by68, by70, by23] <;> omega))
  refine opsA_nil (r _ ?_)
  clear r R
  try simp only [go_sem, Nat.reduceBEq]
  refine thenK.normal (SA.seq ?_)
  rcases Bool.eq_false_or_eq_true (decide (a.go = e.go)) with hgo | hgo
  · skip
    rw [hgo] at h
    refine SA.region ok (by kernel_rfl) [4] ?_
    intro R r
    simp only [go_sem, strip]
    iterate 9 (refine opsA_cons fun Z q1 => ?_; simp only [go_sem, seval, -List.reduceReplicate, hgo]; (repeat' with_reducible refine And.intro ?_ ?_); all_goals first | (refine q1 _ ?_; clear q1 Z) | omega | rfl | decide | assumption | (intro _; omega) | (simp; done) | (simp; omega) | (simp [roomFor, maxLen, by39, by3, by68, by70, by23] <;> omega))
    refine opsA_cons fun Z q1 => ?_
    simp only [go_sem, seval, -List.reduceReplicate, hgo]
    repeat' with_reducible refine And.intro ?_ ?_
    all_goals try (first | omega | assumption | (intro _; omega))
    refine ⟨_, _, rfl, .inl ⟨.bool true, ?_⟩⟩
    repeat' with_reducible refine And.intro ?_ ?_
    all_goals first | (refine q1 _ ?_; clear q1 Z) | omega | rfl | decide | assumption | (intro _; omega) | (simp; done) | (simp; omega) | (simp [roomFor, maxLen, by39, by3, by68, by70, by23] <;> omega)
    iterate 3 (refine opsA_cons fun Z q1 => ?_; simp only [go_sem, seval, -List.reduceReplicate, hgo]; (repeat' with_reducible refine And.intro ?_ ?_); all_goals first | (refine q1 _ ?_; clear q1 Z) | omega | rfl | decide | assumption | (intro _; omega) | (simp; done) | (simp; omega) | (simp [roomFor, maxLen, by39, by3, by68, by70, by23] <;> omega))
    refine opsA_nil (r _ ?_)
    clear r R
    try simp only [go_sem, Nat.reduceBEq]
    refine thenK.normal (SA.ret ?_)
    refine bodyK.ret ?_
    simp only [resA, evalO, resV, backK, outE, toV, ty4, ty3, List.lookup_cons, List.lookup_nil, beq_self_eq_true, forall_const, true_and, and_true]
    simpa using h [.var 68 (.data 68 a.v)]
  · skip
    rw [hgo] at h
    refine SA.region ok (by kernel_rfl) [4] ?_
    intro R r
    simp only [go_sem, strip]
    iterate 9 (refine opsA_cons fun Z q1 => ?_; simp only [go_sem, seval, -List.reduceReplicate, hgo]; (repeat' with_reducible refine And.intro ?_ ?_); all_goals first | (refine q1 _ ?_; clear q1 Z) | omega | rfl | decide | assumption | (intro _; omega) | (simp; done) | (simp; omega) | (simp [roomFor, maxLen, by39, by3, by68, by70, by23] <;> omega))
    refine opsA_cons fun Z q1 => ?_
    simp only [go_sem, seval, -List.reduceReplicate, hgo]
    repeat' with_reducible refine And.intro ?_ ?_
    all_goals try (first | omega | assumption | (intro _; omega))
    refine ⟨_, _, rfl, .inr (hfit a e ha he _ _ fun xs => ?_)⟩
    try simp only [go_sem, seval, -List.reduceReplicate, hgo]
    repeat' with_reducible refine And.intro ?_ ?_
    all_goals first | (refine q1 _ ?_; clear q1 Z) | omega | rfl | decide | assumption | (intro _; omega) | (simp; done) | (simp; omega) | (simp [roomFor, maxLen, by39, by3, by68, by70, by23] <;> omega)
    iterate 3 (refine opsA_cons fun Z q1 => ?_; simp only [go_sem, seval, -List.reduceReplicate, hgo]; (repeat' with_reducible refine And.intro ?_ ?_); all_goals first | (refine q1 _ ?_; clear q1 Z) | omega | rfl | decide | assumption | (intro _; omega) | (simp; done) | (simp; omega) | (simp [roomFor, maxLen, by39, by3, by68, by70, by23] <;> omega))
    refine opsA_nil (r _ ?_)
    clear r R
    try simp only [go_sem, Nat.reduceBEq]
    refine thenK.normal (SA.ret ?_)
    refine bodyK.ret ?_
    simp only [resA, evalO, resV, backK, outE, toV, ty4, ty3, List.lookup_cons, List.lookup_nil, beq_self_eq_true, forall_const, true_and, and_true]
    rw [List.append_assoc]
    simpa using h (.var 68 (.data 68 a.v) :: xs)

-- slices.IndexFunc[[]scarab/api.LockEdge,scarab/api.LockEdge]
theorem indexEdge_ctr (l : List Edge) (hl : l.length ≤ maxLen) (f : FuncId) (ts : List TypeId) (vs : List V) (p : Edge → Bool) (hf : ∀ a ∈ l, ∀ (σ : St) (K : St → E → Prop), (∀ xs, K { σ with ob := σ.ob ++ xs } (.bool (p a))) → CallE Go.Proofs.Try.prog tab σ f (.data 68 a.v :: capsE ts vs) K) : Ctr Go.Proofs.Try.prog tab 66 [46, 93] [3] [.list (l.map Edge.v), .clo f ts vs] [.int (findE p l)] := by
  refine Ctr.body ok Go.Proofs.Try.func66 rfl rfl 19 rfl [.tmp 4] rfl (by simp [fromVs]) ?_
  simp only [fromVs, fromV, args0, V.toList_list, V.toInt_int, V.toBool_bool, Nat.zero_add, Nat.reduceAdd, ty46, ty93]
  refine SA.seq ?_
  refine SA.region ok (by kernel_rfl) [0, 1] ?_
  intro R r
  simp only [go_sem, strip]
  iterate 1 (refine opsA_cons fun Z q1 => ?_; simp only [go_sem, seval, -List.reduceReplicate]; (repeat' with_reducible refine And.intro ?_ ?_); all_goals first | (refine q1 _ ?_; clear q1 Z) | omega | rfl | decide | assumption | (intro _; omega) | (simp; done) | (simp; omega))
  refine opsA_nil (r _ ?_)
  clear r R
  try simp only [go_sem, Nat.reduceBEq]
  refine thenK.normal (SA.seq ?_)
  refine SA.seq ?_
  refine SA.region ok (by kernel_rfl) [0, 1, 7, 8] ?_
  intro R r
  simp only [go_sem, strip]
  iterate 3 (refine opsA_cons fun Z q1 => ?_; simp only [go_sem, seval, -List.reduceReplicate]; (repeat' with_reducible refine And.intro ?_ ?_); all_goals first | (refine q1 _ ?_; clear q1 Z) | omega | rfl | decide | assumption | (intro _; omega) | (simp; done) | (simp; omega) | (simp [roomFor, maxLen, by39, by3, by68, by70, by23] <;> omega))
  refine opsA_nil (r _ ?_)
  clear r R
  try simp only [go_sem, Nat.reduceBEq]
  refine thenK.normal (SA.block ?_)
  refine SA.weaken (St.le.of_eq (by first | rfl | simp)) (SA.loop (fun n τ => ∃ (i : Nat) (xs : List Obj), n = l.length - i ∧ (i ≤ l.length ∧ (l.take i).any p = false) ∧ τ = { tm := [(0, true, .fs 68 (l.map Edge.v) false), (1, true, .fn f (capsE ts vs)), (7, true, .int .i64 l.length), (8, true, .int .i64 i)], ob := xs, out := [], nt := 19 }) (l.length) ⟨0, [], rfl, ⟨Nat.zero_le _, rfl⟩, rfl⟩ ?_)
  rintro n τ ⟨i, xs, hn, ⟨hi, hc⟩, rfl⟩
  refine SA.seq ?_
  refine SA.region ok (by kernel_rfl) [0, 1, 7, 8, 9] ?_
  intro R r
  simp only [go_sem, strip]
  iterate 1 (refine opsA_cons fun Z q1 => ?_; simp only [go_sem, seval, -List.reduceReplicate]; (repeat' with_reducible refine And.intro ?_ ?_); all_goals first | (refine q1 _ ?_; clear q1 Z) | omega | rfl | decide | assumption | (intro _; omega) | (simp; done) | (simp; omega))
  refine opsA_nil (r _ ?_)
  clear r R
  try simp only [go_sem, Nat.reduceBEq]
  refine thenK.normal (SA.seq ?_)
  refine SA.cond rfl ?_ ?_
  · intro hb1
    simp only [decide_eq_true_eq, decide_eq_false_iff_not, Int.not_lt, Int.not_le] at hb1
    refine SA.skip ?_
    refine thenK.normal (SA.seq ?_)
    refine SA.block ?_
    refine SA.seq ?_
    refine SA.region ok (by kernel_rfl) [0, 1, 5, 7, 8] ?_
    intro R r
    simp only [go_sem, strip]
    iterate 2 (refine opsA_cons fun Z q1 => ?_; simp only [go_sem, seval, -List.reduceReplicate]; (repeat' with_reducible refine And.intro ?_ ?_); all_goals first | (refine q1 _ ?_; clear q1 Z) | omega | rfl | decide | assumption | (intro _; omega) | (simp; done) | (simp; omega))
    refine opsA_nil (r _ ?_)
    clear r R
    try simp only [go_sem, Nat.reduceBEq]
    refine thenK.normal (SA.seq ?_)
    have hlt : i < l.length := by omega
    refine SA.region ok (by kernel_rfl) [0, 1, 5, 7, 8, 16] ?_
    intro R r
    simp only [go_sem, strip]
    iterate 5 (refine opsA_cons fun Z q1 => ?_; simp only [go_sem, seval, -List.reduceReplicate, getD_map Edge.v l hlt]; (repeat' with_reducible refine And.intro ?_ ?_); all_goals first | (refine q1 _ ?_; clear q1 Z) | omega | rfl | decide | assumption | (intro _; omega) | (simp; done) | (simp; omega) | (simp [roomFor, maxLen, by39, by3, by68, by70, by23] <;> omega))
    refine opsA_cons fun Z q1 => ?_
    simp only [go_sem, seval, -List.reduceReplicate, getD_map Edge.v l hlt]
    repeat' with_reducible refine And.intro ?_ ?_
    all_goals try (first | omega | assumption | (intro _; omega))
    refine ⟨_, _, rfl, .inr (hf _ (getD_mem l hlt) _ _ fun ys => ?_)⟩
    try simp only [go_sem, seval, -List.reduceReplicate, getD_map Edge.v l hlt]
    repeat' with_reducible refine And.intro ?_ ?_
    all_goals first | (refine q1 _ ?_; clear q1 Z) | omega | rfl | decide | assumption | (intro _; omega) | (simp; done) | (simp; omega) | (simp [roomFor, maxLen, by39, by3, by68, by70, by23] <;> omega)
    refine opsA_nil (r _ ?_)
    clear r R
    try simp only [go_sem, Nat.reduceBEq]
    refine thenK.normal ?_
    refine SA.cond rfl ?_ ?_
    · intro hb2
      skip
      refine SA.seq ?_
      refine SA.region ok (by kernel_rfl) [4] ?_
      intro R r
      simp only [go_sem, strip]
      iterate 2 (refine opsA_cons fun Z q1 => ?_; simp only [go_sem, seval, -List.reduceReplicate]; (repeat' with_reducible refine And.intro ?_ ?_); all_goals first | (refine q1 _ ?_; clear q1 Z) | omega | rfl | decide | assumption | (intro _; omega) | (simp; done) | (simp; omega))
      refine opsA_nil (r _ ?_)
      clear r R
      try simp only [go_sem, Nat.reduceBEq]
      refine thenK.normal (SA.ret ?_)
      refine blockK.ret ?_
      refine thenK.ret ?_
      refine loopK.ret ?_
      refine blockK.ret ?_
      refine thenK.ret ?_
      refine ctrK.ret ?_
      simp only [resA, evalO, resV, backK, outE, toV, ty4, ty3, List.lookup_cons, List.lookup_nil, beq_self_eq_true, forall_const, true_and, and_true]
      refine ⟨rfl, ?_⟩
      simp only [if_true, Option.some.injEq, V.int.injEq]
      exact (findE_hit hlt hc hb2).symm
    · intro hb2
      skip
      refine SA.skip ?_
      refine blockK.normal (thenK.normal ?_)
      refine SA.region ok (by kernel_rfl) [0, 1, 7, 8] ?_
      intro R r
      simp only [go_sem, strip]
      iterate 2 (refine opsA_cons fun Z q1 => ?_; simp only [go_sem, seval, -List.reduceReplicate]; (repeat' with_reducible refine And.intro ?_ ?_); all_goals first | (refine q1 _ ?_; clear q1 Z) | omega | rfl | decide | assumption | (intro _; omega) | (simp; done) | (simp; omega))
      refine opsA_nil (r _ ?_)
      clear r R
      try simp only [go_sem, Nat.reduceBEq]
      refine loopK.normal (l.length - (i + 1)) _ (by omega) (St.le.of_eq (by rw [wrap_succ hlt hl])) ⟨i + 1, xs ++ ys, rfl, ⟨hlt, ?_⟩, rfl⟩
      rw [any_take _ l hlt, hc, hb2]; rfl
  · intro hb1
    simp only [decide_eq_true_eq, decide_eq_false_iff_not, Int.not_lt, Int.not_le] at hb1
    refine SA.exit ?_
    refine thenK.exit ?_
    refine loopK.exit ?_
    refine blockK.hit ?_
    refine thenK.normal (SA.seq ?_)
    refine SA.region ok (by kernel_rfl) [4] ?_
    intro R r
    simp only [go_sem, strip]
    iterate 1 (refine opsA_cons fun Z q1 => ?_; simp only [go_sem, seval, -List.reduceReplicate]; (repeat' with_reducible refine And.intro ?_ ?_); all_goals first | (refine q1 _ ?_; clear q1 Z) | omega | rfl | decide | assumption | (intro _; omega) | (simp; done) | (simp; omega))
    refine opsA_nil (r _ ?_)
    clear r R
    try simp only [go_sem, Nat.reduceBEq]
    refine thenK.normal (SA.ret ?_)
    refine ctrK.ret ?_
    simp only [resA, evalO, resV, backK, outE, toV, ty4, ty3, List.lookup_cons, List.lookup_nil, beq_self_eq_true, forall_const, true_and, and_true]
    have : i = l.length := by omega
    subst this
    rw [List.take_length] at hc
    refine ⟨rfl, ?_⟩
    simp only [if_true, Option.some.injEq, V.int.injEq]
    exact (findE_miss hc).symm

-- slices.ContainsFunc[[]scarab/api.LockEdge,scarab/api.LockEdge]
theorem containsEdge_ctr (l : List Edge) (hl : l.length ≤ maxLen) (f : FuncId) (ts : List TypeId) (vs : List V) (htl : ts.length = vs.length) (p : Edge → Bool) (hf : ∀ a ∈ l, ∀ (σ : St) (K : St → E → Prop), (∀ xs, K { σ with ob := σ.ob ++ xs } (.bool (p a))) → CallE Go.Proofs.Try.prog tab σ f (.data 68 a.v :: capsE ts vs) K) : Ctr Go.Proofs.Try.prog tab 53 [46, 93] [4] [.list (l.map Edge.v), .clo f ts vs] [.bool (l.any p)] := by
  refine Ctr.body ok Go.Proofs.Try.func53 rfl rfl 9 rfl [.tmp 4] rfl (by simp [fromVs]) ?_
  simp only [fromVs, fromV, args0, V.toList_list, V.toInt_int, V.toBool_bool, Nat.zero_add, Nat.reduceAdd, ty46, ty93]
  refine SA.seq ?_
  refine SA.region ok (by kernel_rfl) [0, 1] ?_
  intro R r
  simp only [go_sem, strip]
  iterate 1 (refine opsA_cons fun Z q1 => ?_; simp only [go_sem, seval, -List.reduceReplicate]; (repeat' with_reducible refine And.intro ?_ ?_); all_goals first | (refine q1 _ ?_; clear q1 Z) | omega | rfl | decide | assumption | (intro _; omega) | (simp; done) | (simp; omega))
  refine opsA_nil (r _ ?_)
  clear r R
  try simp only [go_sem, Nat.reduceBEq]
  refine thenK.normal (SA.seq ?_)
  refine SA.region ok (by kernel_rfl) [4] ?_
  intro R r
  simp only [go_sem, strip]
  iterate 2 (refine opsA_cons fun Z q1 => ?_; simp only [go_sem, seval, -List.reduceReplicate]; (repeat' with_reducible refine And.intro ?_ ?_); all_goals first | (refine q1 _ ?_; clear q1 Z) | omega | rfl | decide | assumption | (intro _; omega) | (simp; done) | (simp; omega) | (simp [roomFor, maxLen, by39, by3, by68, by70, by23] <;> omega))
  refine opsA_cons fun Z q1 => ?_
  simp only [go_sem, seval, -List.reduceReplicate]
  repeat' with_reducible refine And.intro ?_ ?_
  all_goals try (first | omega | assumption | (intro _; omega))
  refine ⟨_, _, rfl, .inl ⟨_, CallQ.ctr ok (indexEdge_ctr l hl f ts vs p hf) (by simp [argsV, toVs, contentV, toV, ty46, ty93, ty68, ty71, ty23, capsV_capsE htl]) rfl, ?_⟩⟩
  try simp only [go_sem, seval, -List.reduceReplicate]
  repeat' with_reducible refine And.intro ?_ ?_
  all_goals first | (refine q1 _ ?_; clear q1 Z) | omega | rfl | decide | assumption | (intro _; omega) | (simp; done) | (simp; omega) | (simp [roomFor, maxLen, by39, by3, by68, by70, by23] <;> omega)
  iterate 2 (refine opsA_cons fun Z q1 => ?_; simp only [go_sem, seval, -List.reduceReplicate]; (repeat' with_reducible refine And.intro ?_ ?_); all_goals first | (refine q1 _ ?_; clear q1 Z) | omega | rfl | decide | assumption | (intro _; omega) | (simp; done) | (simp; omega) | (simp [roomFor, maxLen, by39, by3, by68, by70, by23] <;> omega))
  refine opsA_nil (r _ ?_)
  clear r R
  try simp only [go_sem, Nat.reduceBEq]
  refine thenK.normal (SA.ret ?_)
  refine ctrK.ret ?_
  simp only [resA, evalO, resV, backK, outE, toV, ty4, ty3, List.lookup_cons, List.lookup_nil, beq_self_eq_true, forall_const, true_and, and_true]
  refine ⟨rfl, ?_⟩
  simp only [if_true, Option.some.injEq, V.bool.injEq]
  exact findE_ge

-- slices.Clip[[]scarab/api.LockEdge,scarab/api.LockEdge]
theorem clipEdge_call (l : List Edge) (c : Bool) (hl : l.length ≤ maxLen) {σ : St} {K : St → E → Prop} (h : K σ (.fs 68 (l.map Edge.v) true)) : CallE Go.Proofs.Try.prog tab σ 55 [.fs 68 (l.map Edge.v) c] K := by
  refine CallE.body ok Go.Proofs.Try.func55 rfl rfl 9 rfl [.tmp 2] rfl (by simp) ?_
  simp only [enter, args0, Nat.zero_add, Nat.reduceAdd]
  refine SA.seq ?_
  refine SA.region ok (by kernel_rfl) [0] ?_
  intro R r
  simp only [go_sem, strip]
  iterate 1 (refine opsA_cons fun Z q1 => ?_; simp only [go_sem, seval, -List.reduceReplicate]; (repeat' with_reducible refine And.intro ?_ ?_); all_goals first | (refine q1 _ ?_; clear q1 Z) | omega | rfl | decide | assumption | (intro _; omega) | (simp; done) | (simp; omega))
  refine opsA_nil (r _ ?_)
  clear r R
  try simp only [go_sem, Nat.reduceBEq]
  refine thenK.normal (SA.seq ?_)
  refine SA.region ok (by kernel_rfl) [2] ?_
  intro R r
  simp only [go_sem, strip]
  iterate 7 (refine opsA_cons fun Z q1 => ?_; simp only [go_sem, seval, -List.reduceReplicate]; (repeat' with_reducible refine And.intro ?_ ?_); all_goals first | (refine q1 _ ?_; clear q1 Z) | omega | rfl | decide | assumption | (intro _; omega) | (simp; done) | (simp; omega) | (simp [roomFor, maxLen, by39, by3, by68, by70, by23] <;> omega))
  refine opsA_nil (r _ ?_)
  clear r R
  try simp only [go_sem, Nat.reduceBEq]
  refine thenK.normal (SA.ret ?_)
  refine bodyK.ret ?_
  simp only [resA, evalO, resV, backK, outE, toV, ty4, ty3, List.lookup_cons, List.lookup_nil, beq_self_eq_true, forall_const, true_and, and_true]
  simpa [List.take_of_length_le] using h

end Go.Eng.Try
