/- A part of the proof: walks through the program's functions, and what they compute. -/
import Derived.Test.YtipodgpcbkoopaaE3
import Derived.Test.YtipodgpcbkoopaaM1
import Derived.Test.YtipodgpcbkoopaaE4
import Derived.Test.YtipodgpcbkoopaaGW27
namespace Go.Eng.Try
open Go.RowKit Go.Eng
set_option linter.unusedSimpArgs false
set_option linter.unusedVariables false

theorem ringsFrom_le {test : List Int → Bool} {f : Nat} {l : List Int} {n m : Nat} (h : n ≤ m) : (ringsFrom test f l n).length ≤ (ringsFrom test f l m).length := by
  unfold ringsFrom
  obtain ⟨k, rfl⟩ : ∃ k, m = n + k := ⟨m - n, by omega⟩
  rw [List.range_add, List.filter_append, List.flatMap_append, List.length_append]
  omega
/-- What the closure that looks for rings does. -/
def OnSays (all : List Edge) (f : Nat) : Prop := ∀ (l : List Int) (c : Bool) (tm : Tm) (out : List Tm) (nt : Nat) (L : List V) (xs : List Obj) (K : St → E → Prop), good f l = true → L.length + (ringsOn (isRing (fun _ _ => true) all) f l).length ≤ 5000 →
  Tm.under 4 tm = true → outUnder 4 out = true → Tm.kill 3 tm = tm → out.map (Tm.kill 3) = out →
  K { tm := tm, ob := [.dead, .var 24 (.sl 3 23 0 (L ++ ringsV (ringsOn (isRing (fun _ _ => true) all) f l)).length false), .var 85 (.fn 45 [.fptr 46 (.list (all.map Edge.v)), .ptr 1 [] 24, .ptr 2 [] 85]), .row 23 (L ++ ringsV (ringsOn (isRing (fun _ _ => true) all) f l))], out := out, nt := nt } (.tup []) →
  CallE Go.Proofs.Try.prog tab { tm := tm, ob := .dead :: .var 24 (.sl 3 23 0 L.length false) :: .var 85 (.fn 45 [.fptr 46 (.list (all.map Edge.v)), .ptr 1 [] 24, .ptr 2 [] 85]) :: .row 23 L :: xs, out := out, nt := nt } 45 [.fs 3 (l.map V.int) c, .fptr 46 (.list (all.map Edge.v)), .ptr 1 [] 24, .ptr 2 [] 85] K

attribute [local go_sem] argsV contentV fromVs Option.getD_some St.keep List.filterMap_cons List.filterMap_nil Option.map_some Option.map_none opG opQ opB newEs outE CallStepB guardA putK putE pureA evalO evalL constE pickA capsE capsV loadA fieldAddrA indexAddrA indexA sliceA evalOptI builtinA binA plainA shiftA eqA nilA arith shifts effA storeA appendA appB freshA St.kill Tm.kill E.kill E.killL Obj.kill elemsOf evalVs buildA okAt toV fromV zeroE V.get V.put V.sub V.setSub args0 CallStep CallStepQ i64min i64max u64min u64max u32min u32max u8min u8max Nat.zero_add List.length_map List.lookup_cons List.lookup_nil List.getElem?_cons_zero List.getElem?_cons_succ List.getElem?_toArray List.getElem?_nil Option.bind_some Option.bind_none List.size_toArray List.length_cons List.length_nil List.nil_append List.append_nil List.cons_append List.getD_cons_zero List.getD_cons_succ List.map_cons List.map_nil List.set_cons_zero List.set_cons_succ true_and and_true forall_const true_implies Bool.true_and Bool.and_true Bool.not_true Bool.not_false Bool.false_and Bool.and_false beq_self_eq_true Bool.true_beq Bool.false_beq beq_true beq_false eq_self false_implies V.toInt_int V.toBool_bool V.toList_list V.toList_agg V.toStr_str V.deref_ref if_true if_false Bool.false_eq_true Option.isSome_none Option.isSome_some Bool.false_or Bool.true_or Bool.or_false Bool.or_true cond_true cond_false implies_true and_self imp_self ty22 ty25 ty3 ty4 ty81 ty39 ty40 ty42 ty37 ty2 ty23 ty24 ty46 ty68 ty65 ty70 ty69 ty90 ty77 ty59 ty98 ty71 ty93 ty64 ty85 concat_at List.length_range zero39 z39 z3 z4 z70 z68 z42 z40 z37 z2 zero40 z69 z90 zero70 zero69 zero90 zero68 zero42 Int.toNat_natCast Int.natCast_zero Event.v0 Event.v3 Event.v5 Event.v7 Event.v8 Access.v0 Access.v1 Access.v2 beq_acc Edge.v0 Edge.v1 Edge.v2 Edge.v3 heldOf_len locksTo_len heldsTo_len nowL_len
set_option maxHeartbeats 4000000 in
theorem on_step (all : List Edge) (hal : all.length ≤ 100000) (f : Nat) (ih : OnSays all f) : OnSays all (f + 1) := by
  intro l c tm out nt L xs K hg hB hu1 hu2 hk1 hk2 h
  obtain ⟨g1, g2, g3, g4, g5⟩ := good_succ hg
  have hlm : l.length ≤ maxLen := by unfold maxLen; omega
  obtain ⟨k0, hk0⟩ : ∃ k0 : Nat, l.getD 0 default = (k0 : Int) := ⟨(l.getD 0 default).toNat, by omega⟩
  have hz1 : ∀ (v : V) (m : List V), (tm.map fun x => (x.1, x.2.1, E.frz 4 v m x.2.2)) = tm := fun v m => Tm.under_frz (Nat.le_refl 4) hu1
  have hz2 : ∀ (v : V) (m : List V), out.map (Tm.frz 4 v m) = out := fun v m => out_under_frz (Nat.le_refl 4) hu2
  have hz3 : ∀ (v : V) (m : List V), (tm.map fun x => (x.1, x.2.1, E.frz 5 v m x.2.2)) = tm := fun v m => Tm.under_frz (k := 4) (by omega) hu1
  have hz4 : ∀ (v : V) (m : List V), out.map (Tm.frz 5 v m) = out := fun v m => out_under_frz (k := 4) (by omega) hu2
  have hlq : ∀ q : Nat, List.take (l.length + (List.take 1 (List.drop 0 [V.int (q : Int)])).length) (List.drop 0 (List.map V.int l ++ List.take 1 (List.drop 0 [V.int (q : Int)]))) = (l ++ [(q : Int)]).map V.int := by intro q; simp [List.take_of_length_le]
  have hw0 : IntKind.i64.wrap ((k0 : Int) + 1) = ((k0 + 1 : Nat) : Int) := wrap_succ (show k0 < 10 by omega) (by decide)
  have hk1' : (tm.map fun x => (x.1, x.2.1, E.kill 3 x.2.2)) = tm := hk1
  rw [ringsOn_succ, List.length_append] at hB
  rw [ringsOn_succ] at h
  have hf3 : ∀ n, n ≤ 4 → (ringsFrom (isRing (fun _ _ => true) all) f l n).length ≤ (ringsFrom (isRing (fun _ _ => true) all) f l 4).length := fun n hn => ringsFrom_le hn
  refine CallE.body ok Go.Proofs.Try.func45 rfl rfl 38 rfl [] rfl (by simp) ?_
  simp only [enter, args0, Nat.zero_add, Nat.reduceAdd]
  refine SA.seq ?_
  refine SA.seq ?_
  refine SA.weaken (St.le.cut 4 (by simp [St.under, Tm.under, outUnder, obUnder, E.under, E.underL, hu1, hu2])) ?_
  simp only [List.take_succ_cons, List.take_zero]
  refine SA.region ok (by kernel_rfl) [0, 2, 3, 13] ?_
  intro R r
  simp only [go_sem, strip]
  iterate 6 (refine opsA_cons fun Z q1 => ?_; simp only [go_sem, seval, -List.reduceReplicate]; (repeat' with_reducible refine And.intro ?_ ?_); all_goals first | (refine q1 _ ?_; clear q1 Z) | omega | rfl | decide | assumption | (intro _; omega) | (simp [roomFor, maxLen, by39, by3, by68, by70, by23, ringsV_len] <;> omega))
  refine opsA_cons fun Z q1 => ?_
  simp only [go_sem, seval, -List.reduceReplicate]
  repeat' with_reducible refine And.intro ?_ ?_
  all_goals try (first | omega | assumption | (intro _; omega))
  first | refine ⟨_, _, rfl, .inl ⟨_, CallQ.ctr ok (chosen_ctr rfl (free_call all) hal l (by omega) l.length [] (by simp) (by simp)) (by first | rfl | (simp [argsV, toVs, contentV, toV, capsV, capsE, ty22, ty25, ty3, ty4, ty81, ty39, ty40, ty42, ty37, ty2, ty23, ty24, ty46, ty68, ty65, ty70, ty69, ty90, ty77, ty59, ty98, ty71, ty93, ty64, ty85, List.length_map, List.take_of_length_le])) rfl, ?_⟩⟩ | refine ⟨_, _, rfl, .inl ⟨_, fun hg => CallQ.ctr ok (chosen_ctr rfl (free_call all) hal l (by omega) l.length [] (by simp) (by simp)) (by first | rfl | (simp [argsV, toVs, contentV, toV, capsV, capsE, ty22, ty25, ty3, ty4, ty81, ty39, ty40, ty42, ty37, ty2, ty23, ty24, ty46, ty68, ty65, ty70, ty69, ty90, ty77, ty59, ty98, ty71, ty93, ty64, ty85, List.length_map, List.take_of_length_le])) rfl, ?_⟩⟩
  simp only [go_sem, seval, -List.reduceReplicate]
  repeat' with_reducible refine And.intro ?_ ?_
  all_goals first | (refine q1 _ ?_; clear q1 Z) | omega | rfl | decide | assumption | (intro _; omega) | (simp [roomFor, maxLen, by39, by3, by68, by70, by23, ringsV_len] <;> omega)
  iterate 1 (refine opsA_cons fun Z q1 => ?_; simp only [go_sem, seval, -List.reduceReplicate]; (repeat' with_reducible refine And.intro ?_ ?_); all_goals first | (refine q1 _ ?_; clear q1 Z) | omega | rfl | decide | assumption | (intro _; omega) | (simp [roomFor, maxLen, by39, by3, by68, by70, by23, ringsV_len] <;> omega))
  refine opsA_nil (r _ ?_)
  clear r R
  try simp only [go_sem, Nat.reduceBEq]
  refine thenK.normal ?_
  refine SA.cond rfl ?_ ?_
  · intro hb1
    have hT : isRing (fun _ _ => true) all l = true := by
      unfold isRing
      rw [show decide (1 < l.length) = decide ((1 : Int) < (l.length : Int)) from by rw [decide_eq_decide]; omega]
      cases hd : decide ((1 : Int) < (l.length : Int)) <;> rw [hd] at hb1 <;> first | (simp at hb1; done) | (simp; done) | (simp at hb1; simp [hb1])
    obtain ⟨RR, hTe⟩ : ∃ RR, RR = (if isRing (fun _ _ => true) all l = true then [l] else []) := ⟨_, rfl⟩
    rw [← hTe] at h hB
    rw [if_pos hT] at hTe
    refine SA.regionAny mixed 6 (by kernel_rfl) #[false, false, false, false, false, false] (by kernel_rfl) [4, 5] [0, 3] ?_
    intro R r
    refine AnyA.take ok 0 ⟨some 14, (Go.Op.load 24 (Go.Operand.tmp 2)), none⟩ (by kernel_rfl) (by kernel_rfl) (by kernel_rfl) (by kernel_rfl) (by kernel_rfl) #[true, false, false, false, false, false] (by kernel_rfl) fun Z q1 => ?_
    simp only [go_sem, seval, -List.reduceReplicate, hk1', hk2]
    repeat' with_reducible refine And.intro ?_ ?_
    all_goals first | (refine q1 _ ?_; clear q1 Z) | omega | rfl | decide | assumption | (intro _; omega) | (simp [roomFor, maxLen, by39, by3, by68, by70, by23, ringsV_len] <;> omega)
    refine AnyA.take ok 1 ⟨some 15, (Go.Op.move (Go.Operand.tmp 0)), none⟩ (by kernel_rfl) (by kernel_rfl) (by kernel_rfl) (by kernel_rfl) (by kernel_rfl) #[true, true, false, false, false, false] (by kernel_rfl) fun Z q1 => ?_
    simp only [go_sem, seval, -List.reduceReplicate, hk1', hk2]
    repeat' with_reducible refine And.intro ?_ ?_
    all_goals first | (refine q1 _ ?_; clear q1 Z) | omega | rfl | decide | assumption | (intro _; omega) | (simp [roomFor, maxLen, by39, by3, by68, by70, by23, ringsV_len] <;> omega)
    refine AnyA.all (rs := [2]) ok (by kernel_rfl) (by kernel_rfl) rfl ?_
    refine Branches.keep (i := 2) ⟨some 16, (Go.Op.call (Go.Call.mk (Go.Callee.value (Go.Operand.func 47)) #[(Go.Operand.tmp 15)] #[23])), none⟩ (by kernel_rfl) rfl #[true, true, true, false, false, false] (by kernel_rfl) (fun Z q1 => ?_) ?_
    rotate_left
    exact Branches.nil
    simp only [go_sem, seval, -List.reduceReplicate, hk1', hk2]
    repeat' with_reducible refine And.intro ?_ ?_
    all_goals try (first | omega | assumption | (intro _; omega))
    first | refine ⟨_, _, rfl, .inr (CallB.ctr ok (clone_ctr l (by omega) g2) (by first | rfl | (simp [argsV, toVs, contentV, toV, capsV, capsE, ty22, ty25, ty3, ty4, ty81, ty39, ty40, ty42, ty37, ty2, ty23, ty24, ty46, ty68, ty65, ty70, ty69, ty90, ty77, ty59, ty98, ty71, ty93, ty64, ty85, List.length_map, List.take_of_length_le])) ?_)⟩ | refine ⟨_, _, rfl, .inr ⟨fun _ => CallB.ctr ok (clone_ctr l (by omega) g2) (by first | rfl | (simp [argsV, toVs, contentV, toV, capsV, capsE, ty22, ty25, ty3, ty4, ty81, ty39, ty40, ty42, ty37, ty2, ty23, ty24, ty46, ty68, ty65, ty70, ty69, ty90, ty77, ty59, ty98, ty71, ty93, ty64, ty85, List.length_map, List.take_of_length_le])) ?_, ?_⟩⟩
    simp only [go_sem, seval, -List.reduceReplicate, hk1', hk2]
    repeat' with_reducible refine And.intro ?_ ?_
    all_goals first | (refine q1 _ ?_; clear q1 Z) | omega | rfl | decide | assumption | (intro _; omega) | (simp [roomFor, maxLen, by39, by3, by68, by70, by23, ringsV_len] <;> omega)
    refine AnyA.weaken (St.le.frzRow ok.sized 4 rfl) ?_
    simp only [St.frz, Tm.frz, E.frz, E.frzL, Obj.frz, List.map_cons, List.map_nil, List.set_cons_zero, List.set_cons_succ, Nat.reduceBEq, Nat.beq_refl, if_true, if_false, Nat.beq_eq_true_eq, reduceCtorEq, Bool.false_eq_true, V.get, Nat.reduceEqDiff]
    simp only [hz1, hz2]
    refine AnyA.all (rs := [3]) ok (by kernel_rfl) (by kernel_rfl) rfl ?_
    refine Branches.keep (i := 3) ⟨some 17, (Go.Op.buildSlice 24 1 #[(0, (Go.Operand.tmp 16))]), none⟩ (by kernel_rfl) rfl #[true, true, true, true, false, false] (by kernel_rfl) (fun Z q1 => ?_) ?_
    rotate_left
    exact Branches.nil
    simp only [go_sem, seval, -List.reduceReplicate, hk1', hk2]
    repeat' with_reducible refine And.intro ?_ ?_
    all_goals first | (refine q1 _ ?_; clear q1 Z) | omega | rfl | decide | assumption | (intro _; omega) | (simp [roomFor, maxLen, by39, by3, by68, by70, by23, ringsV_len] <;> omega)
    refine AnyA.all (rs := [4]) ok (by kernel_rfl) (by kernel_rfl) rfl ?_
    refine Branches.any (i := 4) ⟨some 18, (Go.Op.call (Go.Call.mk (Go.Callee.builtin Go.Builtin.append) #[(Go.Operand.tmp 14), (Go.Operand.tmp 17)] #[24, 24])), none⟩ (by kernel_rfl) rfl #[true, true, true, true, true, false] (by kernel_rfl) (fun Z q1 => ?_) ?_
    rotate_left
    exact Branches.nil
    simp only [go_sem, seval, -List.reduceReplicate, hk1', hk2]
    repeat' with_reducible refine And.intro ?_ ?_
    all_goals first | (refine q1 _ ?_; clear q1 Z) | omega | rfl | decide | assumption | (intro _; omega) | (simp [roomFor, maxLen, by39, by3, by68, by70, by23, ringsV_len] <;> omega)
    refine AnyA.all (rs := [5]) ok (by kernel_rfl) (by kernel_rfl) rfl ?_
    refine Branches.any (i := 5) ⟨none, (Go.Op.store 24 (Go.Operand.tmp 2) (Go.Operand.tmp 18)), none⟩ (by kernel_rfl) rfl #[true, true, true, true, true, true] (by kernel_rfl) (fun Z q1 => ?_) ?_
    rotate_left
    exact Branches.nil
    simp only [go_sem, seval, -List.reduceReplicate, hk1', hk2]
    repeat' with_reducible refine And.intro ?_ ?_
    all_goals first | (refine q1 _ ?_; clear q1 Z) | omega | rfl | decide | assumption | (intro _; omega) | (simp [roomFor, maxLen, by39, by3, by68, by70, by23, ringsV_len] <;> omega)
    refine AnyA.done (by kernel_rfl) (r _ ?_)
    clear r R
    try simp only [go_sem, Nat.reduceBEq]
    refine thenK.normal (SA.seq ?_)
    refine SA.region ok (by kernel_rfl) [0, 3, 5] ?_
    intro R r
    simp only [go_sem, strip]
    iterate 5 (refine opsA_cons fun Z q1 => ?_; simp only [go_sem, seval, -List.reduceReplicate, getD_map V.int l g2, hk0, hw0]; (repeat' with_reducible refine And.intro ?_ ?_); all_goals first | (refine q1 _ ?_; clear q1 Z) | omega | rfl | decide | assumption | (intro _; omega) | (simp [roomFor, maxLen, by39, by3, by68, by70, by23, ringsV_len] <;> omega))
    refine opsA_nil (r _ ?_)
    clear r R
    try simp only [go_sem, Nat.reduceBEq]
    refine thenK.normal (SA.block ?_)
    refine SA.weaken ((St.le.cut 4 (by simp [St.under, Tm.under, outUnder, obUnder, E.under, E.underL, hu1, hu2])).trans (St.le.of_eq (by rw [ringsFrom_start hk0, hTe]; simp [ringsV, List.take_of_length_le]))) (SA.loop (fun n τ => ∃ (q : Nat), n = 4 - q ∧ (k0 < q ∧ q ≤ 4) ∧ τ = { tm := [(0, true, .fs 3 (l.map V.int) c), (3, true, .ptr 2 [] 85), (5, true, .int .i64 q)], ob := [.dead, .var 24 (.sl 3 23 0 (L ++ ringsV (RR ++ ringsFrom (isRing (fun _ _ => true) all) f l q)).length false), .var 85 (.fn 45 [.fptr 46 (.list (all.map Edge.v)), .ptr 1 [] 24, .ptr 2 [] 85]), .row 23 (L ++ ringsV (RR ++ ringsFrom (isRing (fun _ _ => true) all) f l q))], out := tm :: out, nt := 38 }) (4 - (k0 + 1)) ⟨k0 + 1, rfl, by omega, rfl⟩ ?_)
    rintro n τ ⟨q, hn, ⟨hn1, hn4⟩, rfl⟩
    refine SA.seq ?_
    refine SA.seq ?_
    refine SA.region ok (by kernel_rfl) [0, 3, 5, 24] ?_
    intro R r
    simp only [go_sem, strip]
    iterate 2 (refine opsA_cons fun Z q1 => ?_; simp only [go_sem, seval, -List.reduceReplicate]; (repeat' with_reducible refine And.intro ?_ ?_); all_goals first | (refine q1 _ ?_; clear q1 Z) | omega | rfl | decide | assumption | (intro _; omega) | (simp [roomFor, maxLen, by39, by3, by68, by70, by23, ringsV_len] <;> omega))
    refine opsA_nil (r _ ?_)
    clear r R
    try simp only [go_sem, Nat.reduceBEq]
    refine thenK.normal ?_
    refine SA.cond rfl ?_ ?_
    · intro hb2
      simp only [decide_eq_true_eq, decide_eq_false_iff_not, Int.not_lt, Int.not_le] at hb2
      refine SA.skip ?_
      refine thenK.normal (SA.seq ?_)
      refine SA.block ?_
      refine SA.seq ?_
      refine SA.region ok (by kernel_rfl) [0, 3, 5, 30] ?_
      intro R r
      simp only [go_sem, strip]
      iterate 2 (refine opsA_cons fun Z q1 => ?_; simp only [go_sem, seval, -List.reduceReplicate]; (repeat' with_reducible refine And.intro ?_ ?_); all_goals first | (refine q1 _ ?_; clear q1 Z) | omega | rfl | decide | assumption | (intro _; omega) | (simp [roomFor, maxLen, by39, by3, by68, by70, by23, ringsV_len] <;> omega))
      refine opsA_cons fun Z q1 => ?_
      simp only [go_sem, seval, -List.reduceReplicate]
      repeat' with_reducible refine And.intro ?_ ?_
      all_goals try (first | omega | assumption | (intro _; omega))
      first | refine ⟨_, _, rfl, .inl ⟨_, CallQ.ctr ok (containsInt_ctr l q hlm) (by first | rfl | (simp [argsV, toVs, contentV, toV, capsV, capsE, ty22, ty25, ty3, ty4, ty81, ty39, ty40, ty42, ty37, ty2, ty23, ty24, ty46, ty68, ty65, ty70, ty69, ty90, ty77, ty59, ty98, ty71, ty93, ty64, ty85, List.length_map, List.take_of_length_le])) rfl, ?_⟩⟩ | refine ⟨_, _, rfl, .inl ⟨_, fun hg => CallQ.ctr ok (containsInt_ctr l q hlm) (by first | rfl | (simp [argsV, toVs, contentV, toV, capsV, capsE, ty22, ty25, ty3, ty4, ty81, ty39, ty40, ty42, ty37, ty2, ty23, ty24, ty46, ty68, ty65, ty70, ty69, ty90, ty77, ty59, ty98, ty71, ty93, ty64, ty85, List.length_map, List.take_of_length_le])) rfl, ?_⟩⟩
      simp only [go_sem, seval, -List.reduceReplicate]
      repeat' with_reducible refine And.intro ?_ ?_
      all_goals first | (refine q1 _ ?_; clear q1 Z) | omega | rfl | decide | assumption | (intro _; omega) | (simp [roomFor, maxLen, by39, by3, by68, by70, by23, ringsV_len] <;> omega)
      iterate 1 (refine opsA_cons fun Z q1 => ?_; simp only [go_sem, seval, -List.reduceReplicate]; (repeat' with_reducible refine And.intro ?_ ?_); all_goals first | (refine q1 _ ?_; clear q1 Z) | omega | rfl | decide | assumption | (intro _; omega) | (simp [roomFor, maxLen, by39, by3, by68, by70, by23, ringsV_len] <;> omega))
      refine opsA_nil (r _ ?_)
      clear r R
      try simp only [go_sem, Nat.reduceBEq]
      refine thenK.normal ?_
      refine SA.cond rfl ?_ ?_
      · intro hb3
        have hct : l.contains (q : Int) = false := by simpa using hb3
        have hgn := g5 q (by omega) (by omega) hct
        have hstep := ringsFrom_hit (test := isRing (fun _ _ => true) all) (f := f) (show l.getD 0 default < (q : Int) by omega) hct
        have hf4 := hf3 (q + 1) (by omega)
        rw [hstep, List.length_append] at hf4
        have hB2 : (L ++ ringsV (RR ++ ringsFrom (isRing (fun _ _ => true) all) f l q)).length + (ringsOn (isRing (fun _ _ => true) all) f (l ++ [(q : Int)])).length ≤ 5000 := by rw [List.length_append, ringsV_len, List.length_append]; omega
        refine SA.regionAnyPost mixed 7 (by kernel_rfl) #[false, false, false, false, false, false, false] (by kernel_rfl) [6] [0, 3, 5] ({ tm := [(0, true, .fs 3 (l.map V.int) c), (3, true, .ptr 2 [] 85), (5, true, .int .i64 q)], ob := [.dead, .var 24 (.sl 3 23 0 (L ++ ringsV (RR ++ ringsFrom (isRing (fun _ _ => true) all) f l (q + 1))).length false), .var 85 (.fn 45 [.fptr 46 (.list (all.map Edge.v)), .ptr 1 [] 24, .ptr 2 [] 85]), .row 23 (L ++ ringsV (RR ++ ringsFrom (isRing (fun _ _ => true) all) f l (q + 1)))], out := tm :: out, nt := 38 }) ?_ ?_
        · intro R r
          refine AnyA.take ok 0 ⟨some 31, (Go.Op.load 85 (Go.Operand.tmp 3)), none⟩ (by kernel_rfl) (by kernel_rfl) (by kernel_rfl) (by kernel_rfl) (by kernel_rfl) #[true, false, false, false, false, false, false] (by kernel_rfl) fun Z q1 => ?_
          simp only [go_sem, seval, -List.reduceReplicate, hk1', hk2]
          repeat' with_reducible refine And.intro ?_ ?_
          all_goals first | (refine q1 _ ?_; clear q1 Z) | omega | rfl | decide | assumption | (intro _; omega) | (simp [roomFor, maxLen, by39, by3, by68, by70, by23, ringsV_len] <;> omega)
          refine AnyA.take ok 1 ⟨some 32, (Go.Op.move (Go.Operand.tmp 0)), none⟩ (by kernel_rfl) (by kernel_rfl) (by kernel_rfl) (by kernel_rfl) (by kernel_rfl) #[true, true, false, false, false, false, false] (by kernel_rfl) fun Z q1 => ?_
          simp only [go_sem, seval, -List.reduceReplicate, hk1', hk2]
          repeat' with_reducible refine And.intro ?_ ?_
          all_goals first | (refine q1 _ ?_; clear q1 Z) | omega | rfl | decide | assumption | (intro _; omega) | (simp [roomFor, maxLen, by39, by3, by68, by70, by23, ringsV_len] <;> omega)
          refine AnyA.take ok 3 ⟨some 34, (Go.Op.move (Go.Operand.tmp 5)), none⟩ (by kernel_rfl) (by kernel_rfl) (by kernel_rfl) (by kernel_rfl) (by kernel_rfl) #[true, true, false, true, false, false, false] (by kernel_rfl) fun Z q1 => ?_
          simp only [go_sem, seval, -List.reduceReplicate, hk1', hk2]
          repeat' with_reducible refine And.intro ?_ ?_
          all_goals first | (refine q1 _ ?_; clear q1 Z) | omega | rfl | decide | assumption | (intro _; omega) | (simp [roomFor, maxLen, by39, by3, by68, by70, by23, ringsV_len] <;> omega)
          refine AnyA.all (rs := [2, 4]) ok (by kernel_rfl) (by kernel_rfl) rfl ?_
          refine Branches.keep (i := 2) ⟨some 33, (Go.Op.call (Go.Call.mk (Go.Callee.value (Go.Operand.func 49)) #[(Go.Operand.tmp 32)] #[23])), none⟩ (by kernel_rfl) rfl #[true, true, true, true, false, false, false] (by kernel_rfl) (fun Z q1 => ?_) ?_
          · skip
            simp only [go_sem, seval, -List.reduceReplicate, hk1', hk2]
            repeat' with_reducible refine And.intro ?_ ?_
            all_goals try (first | omega | assumption | (intro _; omega))
            refine ⟨_, _, rfl, .inl ⟨_, clipIntQ (l.map V.int) c (by rw [List.length_map]; exact hlm), ?_⟩⟩
            try simp only [go_sem, seval, -List.reduceReplicate, hk1', hk2]
            repeat' with_reducible refine And.intro ?_ ?_
            all_goals first | (refine q1 _ ?_; clear q1 Z) | omega | rfl | decide | assumption | (intro _; omega) | (simp [roomFor, maxLen, by39, by3, by68, by70, by23, ringsV_len] <;> omega)
            refine AnyA.all (rs := [4]) ok (by kernel_rfl) (by kernel_rfl) rfl ?_
            refine Branches.keep (i := 4) ⟨some 35, (Go.Op.buildSlice 23 1 #[(0, (Go.Operand.tmp 34))]), none⟩ (by kernel_rfl) rfl #[true, true, true, true, true, false, false] (by kernel_rfl) (fun Z q1 => ?_) ?_
            rotate_left
            exact Branches.nil
            simp only [go_sem, seval, -List.reduceReplicate, hk1', hk2]
            repeat' with_reducible refine And.intro ?_ ?_
            all_goals first | (refine q1 _ ?_; clear q1 Z) | omega | rfl | decide | assumption | (intro _; omega) | (simp [roomFor, maxLen, by39, by3, by68, by70, by23, ringsV_len] <;> omega)
            refine AnyA.all (rs := [5]) ok (by kernel_rfl) (by kernel_rfl) rfl ?_
            refine Branches.keep (i := 5) ⟨some 36, (Go.Op.call (Go.Call.mk (Go.Callee.builtin Go.Builtin.append) #[(Go.Operand.tmp 33), (Go.Operand.tmp 35)] #[23, 23])), none⟩ (by kernel_rfl) rfl #[true, true, true, true, true, true, false] (by kernel_rfl) (fun Z q1 => ?_) ?_
            rotate_left
            exact Branches.nil
            simp only [go_sem, seval, -List.reduceReplicate, hk1', hk2]
            repeat' with_reducible refine And.intro ?_ ?_
            all_goals first | (refine q1 _ ?_; clear q1 Z) | omega | rfl | decide | assumption | (intro _; omega) | (simp [roomFor, maxLen, by39, by3, by68, by70, by23, ringsV_len] <;> omega)
            refine AnyA.weaken ((St.le.frzRow ok.sized 5 rfl).trans (St.le.keep [0, 3, 5, 31, 36])) ?_
            simp only [St.frz, Tm.frz, E.frz, E.frzL, Obj.frz, List.map_cons, List.map_nil, List.set_cons_zero, List.set_cons_succ, Nat.reduceBEq, Nat.beq_refl, if_true, if_false, Nat.beq_eq_true_eq, reduceCtorEq, Bool.false_eq_true, V.get, Nat.reduceEqDiff]
            simp only [hz3, hz4]
            simp only [St.keep, List.filterMap_cons, List.filterMap_nil, List.lookup_cons, List.lookup_nil, Option.map_some, Option.map_none, beq_self_eq_true, Nat.reduceBEq]
            rw [hlq]
            refine AnyA.all (rs := [6]) ok (by kernel_rfl) (by kernel_rfl) rfl ?_
            refine Branches.any (i := 6) ⟨some 37, (Go.Op.call (Go.Call.mk (Go.Callee.value (Go.Operand.tmp 31)) #[(Go.Operand.tmp 36)] #[23])), none⟩ (by kernel_rfl) rfl #[true, true, true, true, true, true, true] (by kernel_rfl) (fun Z q1 => ?_) ?_
            rotate_left
            exact Branches.nil
            simp only [go_sem, seval, -List.reduceReplicate, hk1', hk2]
            repeat' with_reducible refine And.intro ?_ ?_
            all_goals try (first | omega | assumption | (intro _; omega))
            refine ⟨_, _, rfl, .inr (ih (l ++ [(q : Int)]) false _ (tm :: out) 38 _ _ _ hgn hB2 (by rfl) (by simp [outUnder, hu1, hu2]) (by rfl) (by simp [hk1, hk2]) ?_)⟩
            try simp only [go_sem, seval, -List.reduceReplicate, hk1', hk2]
            repeat' with_reducible refine And.intro ?_ ?_
            all_goals first | (refine q1 _ ?_; clear q1 Z) | omega | rfl | decide | assumption | (intro _; omega) | (simp [roomFor, maxLen, by39, by3, by68, by70, by23, ringsV_len] <;> omega)
            refine AnyA.done (by kernel_rfl) (r _ ?_)
            clear r R
            exact St.le.of_eq (by simp only [St.keep, List.filterMap_cons, List.filterMap_nil, List.lookup_cons, List.lookup_nil, Option.map_some, Option.map_none, beq_self_eq_true, Nat.reduceBEq, hstep, ringsV_append, List.append_assoc])
          refine Branches.keep (i := 4) ⟨some 35, (Go.Op.buildSlice 23 1 #[(0, (Go.Operand.tmp 34))]), none⟩ (by kernel_rfl) rfl #[true, true, false, true, true, false, false] (by kernel_rfl) (fun Z q1 => ?_) ?_
          · skip
            simp only [go_sem, seval, -List.reduceReplicate, hk1', hk2]
            repeat' with_reducible refine And.intro ?_ ?_
            all_goals first | (refine q1 _ ?_; clear q1 Z) | omega | rfl | decide | assumption | (intro _; omega) | (simp [roomFor, maxLen, by39, by3, by68, by70, by23, ringsV_len] <;> omega)
            refine AnyA.all (rs := [2]) ok (by kernel_rfl) (by kernel_rfl) rfl ?_
            refine Branches.keep (i := 2) ⟨some 33, (Go.Op.call (Go.Call.mk (Go.Callee.value (Go.Operand.func 49)) #[(Go.Operand.tmp 32)] #[23])), none⟩ (by kernel_rfl) rfl #[true, true, true, true, true, false, false] (by kernel_rfl) (fun Z q1 => ?_) ?_
            rotate_left
            exact Branches.nil
            simp only [go_sem, seval, -List.reduceReplicate, hk1', hk2]
            repeat' with_reducible refine And.intro ?_ ?_
            all_goals try (first | omega | assumption | (intro _; omega))
            refine ⟨_, _, rfl, .inl ⟨_, clipIntQ (l.map V.int) c (by rw [List.length_map]; exact hlm), ?_⟩⟩
            try simp only [go_sem, seval, -List.reduceReplicate, hk1', hk2]
            repeat' with_reducible refine And.intro ?_ ?_
            all_goals first | (refine q1 _ ?_; clear q1 Z) | omega | rfl | decide | assumption | (intro _; omega) | (simp [roomFor, maxLen, by39, by3, by68, by70, by23, ringsV_len] <;> omega)
            refine AnyA.all (rs := [5]) ok (by kernel_rfl) (by kernel_rfl) rfl ?_
            refine Branches.keep (i := 5) ⟨some 36, (Go.Op.call (Go.Call.mk (Go.Callee.builtin Go.Builtin.append) #[(Go.Operand.tmp 33), (Go.Operand.tmp 35)] #[23, 23])), none⟩ (by kernel_rfl) rfl #[true, true, true, true, true, true, false] (by kernel_rfl) (fun Z q1 => ?_) ?_
            rotate_left
            exact Branches.nil
            simp only [go_sem, seval, -List.reduceReplicate, hk1', hk2]
            repeat' with_reducible refine And.intro ?_ ?_
            all_goals first | (refine q1 _ ?_; clear q1 Z) | omega | rfl | decide | assumption | (intro _; omega) | (simp [roomFor, maxLen, by39, by3, by68, by70, by23, ringsV_len] <;> omega)
            refine AnyA.weaken ((St.le.frzRow ok.sized 5 rfl).trans (St.le.keep [0, 3, 5, 31, 36])) ?_
            simp only [St.frz, Tm.frz, E.frz, E.frzL, Obj.frz, List.map_cons, List.map_nil, List.set_cons_zero, List.set_cons_succ, Nat.reduceBEq, Nat.beq_refl, if_true, if_false, Nat.beq_eq_true_eq, reduceCtorEq, Bool.false_eq_true, V.get, Nat.reduceEqDiff]
            simp only [hz3, hz4]
            simp only [St.keep, List.filterMap_cons, List.filterMap_nil, List.lookup_cons, List.lookup_nil, Option.map_some, Option.map_none, beq_self_eq_true, Nat.reduceBEq]
            rw [hlq]
            refine AnyA.all (rs := [6]) ok (by kernel_rfl) (by kernel_rfl) rfl ?_
            refine Branches.any (i := 6) ⟨some 37, (Go.Op.call (Go.Call.mk (Go.Callee.value (Go.Operand.tmp 31)) #[(Go.Operand.tmp 36)] #[23])), none⟩ (by kernel_rfl) rfl #[true, true, true, true, true, true, true] (by kernel_rfl) (fun Z q1 => ?_) ?_
            rotate_left
            exact Branches.nil
            simp only [go_sem, seval, -List.reduceReplicate, hk1', hk2]
            repeat' with_reducible refine And.intro ?_ ?_
            all_goals try (first | omega | assumption | (intro _; omega))
            refine ⟨_, _, rfl, .inr (ih (l ++ [(q : Int)]) false _ (tm :: out) 38 _ _ _ hgn hB2 (by rfl) (by simp [outUnder, hu1, hu2]) (by rfl) (by simp [hk1, hk2]) ?_)⟩
            try simp only [go_sem, seval, -List.reduceReplicate, hk1', hk2]
            repeat' with_reducible refine And.intro ?_ ?_
            all_goals first | (refine q1 _ ?_; clear q1 Z) | omega | rfl | decide | assumption | (intro _; omega) | (simp [roomFor, maxLen, by39, by3, by68, by70, by23, ringsV_len] <;> omega)
            refine AnyA.done (by kernel_rfl) (r _ ?_)
            clear r R
            exact St.le.of_eq (by simp only [St.keep, List.filterMap_cons, List.filterMap_nil, List.lookup_cons, List.lookup_nil, Option.map_some, Option.map_none, beq_self_eq_true, Nat.reduceBEq, hstep, ringsV_append, List.append_assoc])
          exact Branches.nil
        refine blockK.normal (thenK.normal ?_)
        refine SA.region ok (by kernel_rfl) [0, 3, 5] ?_
        intro R r
        simp only [go_sem, strip]
        iterate 3 (refine opsA_cons fun Z q1 => ?_; simp only [go_sem, seval, -List.reduceReplicate]; (repeat' with_reducible refine And.intro ?_ ?_); all_goals first | (refine q1 _ ?_; clear q1 Z) | omega | rfl | decide | assumption | (intro _; omega) | (simp [roomFor, maxLen, by39, by3, by68, by70, by23, ringsV_len] <;> omega))
        refine opsA_nil (r _ ?_)
        clear r R
        try simp only [go_sem, Nat.reduceBEq]
        refine loopK.normal (4 - (q + 1)) _ (by omega) (St.le.of_eq (by rw [wrap_succ (show q < 4 by omega) (by decide)])) ⟨q + 1, rfl, by omega, rfl⟩
      · intro hb3
        have hct : l.contains (q : Int) = true := by simpa using hb3
        have hstep := ringsFrom_miss (test := isRing (fun _ _ => true) all) (f := f) hct
        refine SA.skip ?_
        refine blockK.normal (thenK.normal ?_)
        refine SA.region ok (by kernel_rfl) [0, 3, 5] ?_
        intro R r
        simp only [go_sem, strip]
        iterate 3 (refine opsA_cons fun Z q1 => ?_; simp only [go_sem, seval, -List.reduceReplicate]; (repeat' with_reducible refine And.intro ?_ ?_); all_goals first | (refine q1 _ ?_; clear q1 Z) | omega | rfl | decide | assumption | (intro _; omega) | (simp [roomFor, maxLen, by39, by3, by68, by70, by23, ringsV_len] <;> omega))
        refine opsA_nil (r _ ?_)
        clear r R
        try simp only [go_sem, Nat.reduceBEq]
        refine loopK.normal (4 - (q + 1)) _ (by omega) (St.le.of_eq (by rw [hstep, wrap_succ (show q < 4 by omega) (by decide)])) ⟨q + 1, rfl, by omega, rfl⟩
    · intro hb2
      simp only [decide_eq_true_eq, decide_eq_false_iff_not, Int.not_lt, Int.not_le] at hb2
      refine SA.exit ?_
      refine thenK.exit ?_
      refine loopK.exit ?_
      refine blockK.hit ?_
      refine bodyK.normal ?_
      simp only [resA, evalO, resV, backK, outE, toV, ty4, ty3, List.lookup_cons, List.lookup_nil, beq_self_eq_true, forall_const, true_and, and_true]
      have hq4 : q = 4 := by omega
      subst hq4
      exact h
  · intro hb1
    have hT : isRing (fun _ _ => true) all l = false := by
      unfold isRing
      rw [show decide (1 < l.length) = decide ((1 : Int) < (l.length : Int)) from by rw [decide_eq_decide]; omega]
      cases hd : decide ((1 : Int) < (l.length : Int)) <;> rw [hd] at hb1 <;> first | (simp at hb1; done) | (simp; done) | (simp at hb1; simp [hb1])
    obtain ⟨RR, hTe⟩ : ∃ RR, RR = (if isRing (fun _ _ => true) all l = true then [l] else []) := ⟨_, rfl⟩
    rw [← hTe] at h hB
    rw [if_neg (by rw [hT]; decide)] at hTe
    refine SA.skip ?_
    refine thenK.normal (SA.seq ?_)
    refine SA.region ok (by kernel_rfl) [0, 3, 5] ?_
    intro R r
    simp only [go_sem, strip]
    iterate 5 (refine opsA_cons fun Z q1 => ?_; simp only [go_sem, seval, -List.reduceReplicate, getD_map V.int l g2, hk0, hw0]; (repeat' with_reducible refine And.intro ?_ ?_); all_goals first | (refine q1 _ ?_; clear q1 Z) | omega | rfl | decide | assumption | (intro _; omega) | (simp [roomFor, maxLen, by39, by3, by68, by70, by23, ringsV_len] <;> omega))
    refine opsA_nil (r _ ?_)
    clear r R
    try simp only [go_sem, Nat.reduceBEq]
    refine thenK.normal (SA.block ?_)
    refine SA.weaken ((St.le.cut 4 (by simp [St.under, Tm.under, outUnder, obUnder, E.under, E.underL, hu1, hu2])).trans (St.le.of_eq (by rw [ringsFrom_start hk0, hTe]; simp [ringsV, List.take_of_length_le]))) (SA.loop (fun n τ => ∃ (q : Nat), n = 4 - q ∧ (k0 < q ∧ q ≤ 4) ∧ τ = { tm := [(0, true, .fs 3 (l.map V.int) c), (3, true, .ptr 2 [] 85), (5, true, .int .i64 q)], ob := [.dead, .var 24 (.sl 3 23 0 (L ++ ringsV (RR ++ ringsFrom (isRing (fun _ _ => true) all) f l q)).length false), .var 85 (.fn 45 [.fptr 46 (.list (all.map Edge.v)), .ptr 1 [] 24, .ptr 2 [] 85]), .row 23 (L ++ ringsV (RR ++ ringsFrom (isRing (fun _ _ => true) all) f l q))], out := tm :: out, nt := 38 }) (4 - (k0 + 1)) ⟨k0 + 1, rfl, by omega, rfl⟩ ?_)
    rintro n τ ⟨q, hn, ⟨hn1, hn4⟩, rfl⟩
    refine SA.seq ?_
    refine SA.seq ?_
    refine SA.region ok (by kernel_rfl) [0, 3, 5, 24] ?_
    intro R r
    simp only [go_sem, strip]
    iterate 2 (refine opsA_cons fun Z q1 => ?_; simp only [go_sem, seval, -List.reduceReplicate]; (repeat' with_reducible refine And.intro ?_ ?_); all_goals first | (refine q1 _ ?_; clear q1 Z) | omega | rfl | decide | assumption | (intro _; omega) | (simp [roomFor, maxLen, by39, by3, by68, by70, by23, ringsV_len] <;> omega))
    refine opsA_nil (r _ ?_)
    clear r R
    try simp only [go_sem, Nat.reduceBEq]
    refine thenK.normal ?_
    refine SA.cond rfl ?_ ?_
    · intro hb4
      simp only [decide_eq_true_eq, decide_eq_false_iff_not, Int.not_lt, Int.not_le] at hb4
      refine SA.skip ?_
      refine thenK.normal (SA.seq ?_)
      refine SA.block ?_
      refine SA.seq ?_
      refine SA.region ok (by kernel_rfl) [0, 3, 5, 30] ?_
      intro R r
      simp only [go_sem, strip]
      iterate 2 (refine opsA_cons fun Z q1 => ?_; simp only [go_sem, seval, -List.reduceReplicate]; (repeat' with_reducible refine And.intro ?_ ?_); all_goals first | (refine q1 _ ?_; clear q1 Z) | omega | rfl | decide | assumption | (intro _; omega) | (simp [roomFor, maxLen, by39, by3, by68, by70, by23, ringsV_len] <;> omega))
      refine opsA_cons fun Z q1 => ?_
      simp only [go_sem, seval, -List.reduceReplicate]
      repeat' with_reducible refine And.intro ?_ ?_
      all_goals try (first | omega | assumption | (intro _; omega))
      first | refine ⟨_, _, rfl, .inl ⟨_, CallQ.ctr ok (containsInt_ctr l q hlm) (by first | rfl | (simp [argsV, toVs, contentV, toV, capsV, capsE, ty22, ty25, ty3, ty4, ty81, ty39, ty40, ty42, ty37, ty2, ty23, ty24, ty46, ty68, ty65, ty70, ty69, ty90, ty77, ty59, ty98, ty71, ty93, ty64, ty85, List.length_map, List.take_of_length_le])) rfl, ?_⟩⟩ | refine ⟨_, _, rfl, .inl ⟨_, fun hg => CallQ.ctr ok (containsInt_ctr l q hlm) (by first | rfl | (simp [argsV, toVs, contentV, toV, capsV, capsE, ty22, ty25, ty3, ty4, ty81, ty39, ty40, ty42, ty37, ty2, ty23, ty24, ty46, ty68, ty65, ty70, ty69, ty90, ty77, ty59, ty98, ty71, ty93, ty64, ty85, List.length_map, List.take_of_length_le])) rfl, ?_⟩⟩
      simp only [go_sem, seval, -List.reduceReplicate]
      repeat' with_reducible refine And.intro ?_ ?_
      all_goals first | (refine q1 _ ?_; clear q1 Z) | omega | rfl | decide | assumption | (intro _; omega) | (simp [roomFor, maxLen, by39, by3, by68, by70, by23, ringsV_len] <;> omega)
      iterate 1 (refine opsA_cons fun Z q1 => ?_; simp only [go_sem, seval, -List.reduceReplicate]; (repeat' with_reducible refine And.intro ?_ ?_); all_goals first | (refine q1 _ ?_; clear q1 Z) | omega | rfl | decide | assumption | (intro _; omega) | (simp [roomFor, maxLen, by39, by3, by68, by70, by23, ringsV_len] <;> omega))
      refine opsA_nil (r _ ?_)
      clear r R
      try simp only [go_sem, Nat.reduceBEq]
      refine thenK.normal ?_
      refine SA.cond rfl ?_ ?_
      · intro hb5
        have hct : l.contains (q : Int) = false := by simpa using hb5
        have hgn := g5 q (by omega) (by omega) hct
        have hstep := ringsFrom_hit (test := isRing (fun _ _ => true) all) (f := f) (show l.getD 0 default < (q : Int) by omega) hct
        have hf4 := hf3 (q + 1) (by omega)
        rw [hstep, List.length_append] at hf4
        have hB2 : (L ++ ringsV (RR ++ ringsFrom (isRing (fun _ _ => true) all) f l q)).length + (ringsOn (isRing (fun _ _ => true) all) f (l ++ [(q : Int)])).length ≤ 5000 := by rw [List.length_append, ringsV_len, List.length_append]; omega
        refine SA.regionAnyPost mixed 7 (by kernel_rfl) #[false, false, false, false, false, false, false] (by kernel_rfl) [6] [0, 3, 5] ({ tm := [(0, true, .fs 3 (l.map V.int) c), (3, true, .ptr 2 [] 85), (5, true, .int .i64 q)], ob := [.dead, .var 24 (.sl 3 23 0 (L ++ ringsV (RR ++ ringsFrom (isRing (fun _ _ => true) all) f l (q + 1))).length false), .var 85 (.fn 45 [.fptr 46 (.list (all.map Edge.v)), .ptr 1 [] 24, .ptr 2 [] 85]), .row 23 (L ++ ringsV (RR ++ ringsFrom (isRing (fun _ _ => true) all) f l (q + 1)))], out := tm :: out, nt := 38 }) ?_ ?_
        · intro R r
          refine AnyA.take ok 0 ⟨some 31, (Go.Op.load 85 (Go.Operand.tmp 3)), none⟩ (by kernel_rfl) (by kernel_rfl) (by kernel_rfl) (by kernel_rfl) (by kernel_rfl) #[true, false, false, false, false, false, false] (by kernel_rfl) fun Z q1 => ?_
          simp only [go_sem, seval, -List.reduceReplicate, hk1', hk2]
          repeat' with_reducible refine And.intro ?_ ?_
          all_goals first | (refine q1 _ ?_; clear q1 Z) | omega | rfl | decide | assumption | (intro _; omega) | (simp [roomFor, maxLen, by39, by3, by68, by70, by23, ringsV_len] <;> omega)
          refine AnyA.take ok 1 ⟨some 32, (Go.Op.move (Go.Operand.tmp 0)), none⟩ (by kernel_rfl) (by kernel_rfl) (by kernel_rfl) (by kernel_rfl) (by kernel_rfl) #[true, true, false, false, false, false, false] (by kernel_rfl) fun Z q1 => ?_
          simp only [go_sem, seval, -List.reduceReplicate, hk1', hk2]
          repeat' with_reducible refine And.intro ?_ ?_
          all_goals first | (refine q1 _ ?_; clear q1 Z) | omega | rfl | decide | assumption | (intro _; omega) | (simp [roomFor, maxLen, by39, by3, by68, by70, by23, ringsV_len] <;> omega)
          refine AnyA.take ok 3 ⟨some 34, (Go.Op.move (Go.Operand.tmp 5)), none⟩ (by kernel_rfl) (by kernel_rfl) (by kernel_rfl) (by kernel_rfl) (by kernel_rfl) #[true, true, false, true, false, false, false] (by kernel_rfl) fun Z q1 => ?_
          simp only [go_sem, seval, -List.reduceReplicate, hk1', hk2]
          repeat' with_reducible refine And.intro ?_ ?_
          all_goals first | (refine q1 _ ?_; clear q1 Z) | omega | rfl | decide | assumption | (intro _; omega) | (simp [roomFor, maxLen, by39, by3, by68, by70, by23, ringsV_len] <;> omega)
          refine AnyA.all (rs := [2, 4]) ok (by kernel_rfl) (by kernel_rfl) rfl ?_
          refine Branches.keep (i := 2) ⟨some 33, (Go.Op.call (Go.Call.mk (Go.Callee.value (Go.Operand.func 49)) #[(Go.Operand.tmp 32)] #[23])), none⟩ (by kernel_rfl) rfl #[true, true, true, true, false, false, false] (by kernel_rfl) (fun Z q1 => ?_) ?_
          · skip
            simp only [go_sem, seval, -List.reduceReplicate, hk1', hk2]
            repeat' with_reducible refine And.intro ?_ ?_
            all_goals try (first | omega | assumption | (intro _; omega))
            refine ⟨_, _, rfl, .inl ⟨_, clipIntQ (l.map V.int) c (by rw [List.length_map]; exact hlm), ?_⟩⟩
            try simp only [go_sem, seval, -List.reduceReplicate, hk1', hk2]
            repeat' with_reducible refine And.intro ?_ ?_
            all_goals first | (refine q1 _ ?_; clear q1 Z) | omega | rfl | decide | assumption | (intro _; omega) | (simp [roomFor, maxLen, by39, by3, by68, by70, by23, ringsV_len] <;> omega)
            refine AnyA.all (rs := [4]) ok (by kernel_rfl) (by kernel_rfl) rfl ?_
            refine Branches.keep (i := 4) ⟨some 35, (Go.Op.buildSlice 23 1 #[(0, (Go.Operand.tmp 34))]), none⟩ (by kernel_rfl) rfl #[true, true, true, true, true, false, false] (by kernel_rfl) (fun Z q1 => ?_) ?_
            rotate_left
            exact Branches.nil
            simp only [go_sem, seval, -List.reduceReplicate, hk1', hk2]
            repeat' with_reducible refine And.intro ?_ ?_
            all_goals first | (refine q1 _ ?_; clear q1 Z) | omega | rfl | decide | assumption | (intro _; omega) | (simp [roomFor, maxLen, by39, by3, by68, by70, by23, ringsV_len] <;> omega)
            refine AnyA.all (rs := [5]) ok (by kernel_rfl) (by kernel_rfl) rfl ?_
            refine Branches.keep (i := 5) ⟨some 36, (Go.Op.call (Go.Call.mk (Go.Callee.builtin Go.Builtin.append) #[(Go.Operand.tmp 33), (Go.Operand.tmp 35)] #[23, 23])), none⟩ (by kernel_rfl) rfl #[true, true, true, true, true, true, false] (by kernel_rfl) (fun Z q1 => ?_) ?_
            rotate_left
            exact Branches.nil
            simp only [go_sem, seval, -List.reduceReplicate, hk1', hk2]
            repeat' with_reducible refine And.intro ?_ ?_
            all_goals first | (refine q1 _ ?_; clear q1 Z) | omega | rfl | decide | assumption | (intro _; omega) | (simp [roomFor, maxLen, by39, by3, by68, by70, by23, ringsV_len] <;> omega)
            refine AnyA.weaken ((St.le.frzRow ok.sized 5 rfl).trans (St.le.keep [0, 3, 5, 31, 36])) ?_
            simp only [St.frz, Tm.frz, E.frz, E.frzL, Obj.frz, List.map_cons, List.map_nil, List.set_cons_zero, List.set_cons_succ, Nat.reduceBEq, Nat.beq_refl, if_true, if_false, Nat.beq_eq_true_eq, reduceCtorEq, Bool.false_eq_true, V.get, Nat.reduceEqDiff]
            simp only [hz3, hz4]
            simp only [St.keep, List.filterMap_cons, List.filterMap_nil, List.lookup_cons, List.lookup_nil, Option.map_some, Option.map_none, beq_self_eq_true, Nat.reduceBEq]
            rw [hlq]
            refine AnyA.all (rs := [6]) ok (by kernel_rfl) (by kernel_rfl) rfl ?_
            refine Branches.any (i := 6) ⟨some 37, (Go.Op.call (Go.Call.mk (Go.Callee.value (Go.Operand.tmp 31)) #[(Go.Operand.tmp 36)] #[23])), none⟩ (by kernel_rfl) rfl #[true, true, true, true, true, true, true] (by kernel_rfl) (fun Z q1 => ?_) ?_
            rotate_left
            exact Branches.nil
            simp only [go_sem, seval, -List.reduceReplicate, hk1', hk2]
            repeat' with_reducible refine And.intro ?_ ?_
            all_goals try (first | omega | assumption | (intro _; omega))
            refine ⟨_, _, rfl, .inr (ih (l ++ [(q : Int)]) false _ (tm :: out) 38 _ _ _ hgn hB2 (by rfl) (by simp [outUnder, hu1, hu2]) (by rfl) (by simp [hk1, hk2]) ?_)⟩
            try simp only [go_sem, seval, -List.reduceReplicate, hk1', hk2]
            repeat' with_reducible refine And.intro ?_ ?_
            all_goals first | (refine q1 _ ?_; clear q1 Z) | omega | rfl | decide | assumption | (intro _; omega) | (simp [roomFor, maxLen, by39, by3, by68, by70, by23, ringsV_len] <;> omega)
            refine AnyA.done (by kernel_rfl) (r _ ?_)
            clear r R
            exact St.le.of_eq (by simp only [St.keep, List.filterMap_cons, List.filterMap_nil, List.lookup_cons, List.lookup_nil, Option.map_some, Option.map_none, beq_self_eq_true, Nat.reduceBEq, hstep, ringsV_append, List.append_assoc])
          refine Branches.keep (i := 4) ⟨some 35, (Go.Op.buildSlice 23 1 #[(0, (Go.Operand.tmp 34))]), none⟩ (by kernel_rfl) rfl #[true, true, false, true, true, false, false] (by kernel_rfl) (fun Z q1 => ?_) ?_
          · skip
            simp only [go_sem, seval, -List.reduceReplicate, hk1', hk2]
            repeat' with_reducible refine And.intro ?_ ?_
            all_goals first | (refine q1 _ ?_; clear q1 Z) | omega | rfl | decide | assumption | (intro _; omega) | (simp [roomFor, maxLen, by39, by3, by68, by70, by23, ringsV_len] <;> omega)
            refine AnyA.all (rs := [2]) ok (by kernel_rfl) (by kernel_rfl) rfl ?_
            refine Branches.keep (i := 2) ⟨some 33, (Go.Op.call (Go.Call.mk (Go.Callee.value (Go.Operand.func 49)) #[(Go.Operand.tmp 32)] #[23])), none⟩ (by kernel_rfl) rfl #[true, true, true, true, true, false, false] (by kernel_rfl) (fun Z q1 => ?_) ?_
            rotate_left
            exact Branches.nil
            simp only [go_sem, seval, -List.reduceReplicate, hk1', hk2]
            repeat' with_reducible refine And.intro ?_ ?_
            all_goals try (first | omega | assumption | (intro _; omega))
            refine ⟨_, _, rfl, .inl ⟨_, clipIntQ (l.map V.int) c (by rw [List.length_map]; exact hlm), ?_⟩⟩
            try simp only [go_sem, seval, -List.reduceReplicate, hk1', hk2]
            repeat' with_reducible refine And.intro ?_ ?_
            all_goals first | (refine q1 _ ?_; clear q1 Z) | omega | rfl | decide | assumption | (intro _; omega) | (simp [roomFor, maxLen, by39, by3, by68, by70, by23, ringsV_len] <;> omega)
            refine AnyA.all (rs := [5]) ok (by kernel_rfl) (by kernel_rfl) rfl ?_
            refine Branches.keep (i := 5) ⟨some 36, (Go.Op.call (Go.Call.mk (Go.Callee.builtin Go.Builtin.append) #[(Go.Operand.tmp 33), (Go.Operand.tmp 35)] #[23, 23])), none⟩ (by kernel_rfl) rfl #[true, true, true, true, true, true, false] (by kernel_rfl) (fun Z q1 => ?_) ?_
            rotate_left
            exact Branches.nil
            simp only [go_sem, seval, -List.reduceReplicate, hk1', hk2]
            repeat' with_reducible refine And.intro ?_ ?_
            all_goals first | (refine q1 _ ?_; clear q1 Z) | omega | rfl | decide | assumption | (intro _; omega) | (simp [roomFor, maxLen, by39, by3, by68, by70, by23, ringsV_len] <;> omega)
            refine AnyA.weaken ((St.le.frzRow ok.sized 5 rfl).trans (St.le.keep [0, 3, 5, 31, 36])) ?_
            simp only [St.frz, Tm.frz, E.frz, E.frzL, Obj.frz, List.map_cons, List.map_nil, List.set_cons_zero, List.set_cons_succ, Nat.reduceBEq, Nat.beq_refl, if_true, if_false, Nat.beq_eq_true_eq, reduceCtorEq, Bool.false_eq_true, V.get, Nat.reduceEqDiff]
            simp only [hz3, hz4]
            simp only [St.keep, List.filterMap_cons, List.filterMap_nil, List.lookup_cons, List.lookup_nil, Option.map_some, Option.map_none, beq_self_eq_true, Nat.reduceBEq]
            rw [hlq]
            refine AnyA.all (rs := [6]) ok (by kernel_rfl) (by kernel_rfl) rfl ?_
            refine Branches.any (i := 6) ⟨some 37, (Go.Op.call (Go.Call.mk (Go.Callee.value (Go.Operand.tmp 31)) #[(Go.Operand.tmp 36)] #[23])), none⟩ (by kernel_rfl) rfl #[true, true, true, true, true, true, true] (by kernel_rfl) (fun Z q1 => ?_) ?_
            rotate_left
            exact Branches.nil
            simp only [go_sem, seval, -List.reduceReplicate, hk1', hk2]
            repeat' with_reducible refine And.intro ?_ ?_
            all_goals try (first | omega | assumption | (intro _; omega))
            refine ⟨_, _, rfl, .inr (ih (l ++ [(q : Int)]) false _ (tm :: out) 38 _ _ _ hgn hB2 (by rfl) (by simp [outUnder, hu1, hu2]) (by rfl) (by simp [hk1, hk2]) ?_)⟩
            try simp only [go_sem, seval, -List.reduceReplicate, hk1', hk2]
            repeat' with_reducible refine And.intro ?_ ?_
            all_goals first | (refine q1 _ ?_; clear q1 Z) | omega | rfl | decide | assumption | (intro _; omega) | (simp [roomFor, maxLen, by39, by3, by68, by70, by23, ringsV_len] <;> omega)
            refine AnyA.done (by kernel_rfl) (r _ ?_)
            clear r R
            exact St.le.of_eq (by simp only [St.keep, List.filterMap_cons, List.filterMap_nil, List.lookup_cons, List.lookup_nil, Option.map_some, Option.map_none, beq_self_eq_true, Nat.reduceBEq, hstep, ringsV_append, List.append_assoc])
          exact Branches.nil
        refine blockK.normal (thenK.normal ?_)
        refine SA.region ok (by kernel_rfl) [0, 3, 5] ?_
        intro R r
        simp only [go_sem, strip]
        iterate 3 (refine opsA_cons fun Z q1 => ?_; simp only [go_sem, seval, -List.reduceReplicate]; (repeat' with_reducible refine And.intro ?_ ?_); all_goals first | (refine q1 _ ?_; clear q1 Z) | omega | rfl | decide | assumption | (intro _; omega) | (simp [roomFor, maxLen, by39, by3, by68, by70, by23, ringsV_len] <;> omega))
        refine opsA_nil (r _ ?_)
        clear r R
        try simp only [go_sem, Nat.reduceBEq]
        refine loopK.normal (4 - (q + 1)) _ (by omega) (St.le.of_eq (by rw [wrap_succ (show q < 4 by omega) (by decide)])) ⟨q + 1, rfl, by omega, rfl⟩
      · intro hb5
        have hct : l.contains (q : Int) = true := by simpa using hb5
        have hstep := ringsFrom_miss (test := isRing (fun _ _ => true) all) (f := f) hct
        refine SA.skip ?_
        refine blockK.normal (thenK.normal ?_)
        refine SA.region ok (by kernel_rfl) [0, 3, 5] ?_
        intro R r
        simp only [go_sem, strip]
        iterate 3 (refine opsA_cons fun Z q1 => ?_; simp only [go_sem, seval, -List.reduceReplicate]; (repeat' with_reducible refine And.intro ?_ ?_); all_goals first | (refine q1 _ ?_; clear q1 Z) | omega | rfl | decide | assumption | (intro _; omega) | (simp [roomFor, maxLen, by39, by3, by68, by70, by23, ringsV_len] <;> omega))
        refine opsA_nil (r _ ?_)
        clear r R
        try simp only [go_sem, Nat.reduceBEq]
        refine loopK.normal (4 - (q + 1)) _ (by omega) (St.le.of_eq (by rw [hstep, wrap_succ (show q < 4 by omega) (by decide)])) ⟨q + 1, rfl, by omega, rfl⟩
    · intro hb4
      simp only [decide_eq_true_eq, decide_eq_false_iff_not, Int.not_lt, Int.not_le] at hb4
      refine SA.exit ?_
      refine thenK.exit ?_
      refine loopK.exit ?_
      refine blockK.hit ?_
      refine bodyK.normal ?_
      simp only [resA, evalO, resV, backK, outE, toV, ty4, ty3, List.lookup_cons, List.lookup_nil, beq_self_eq_true, forall_const, true_and, and_true]
      have hq4 : q = 4 := by omega
      subst hq4
      exact h

end Go.Eng.Try
