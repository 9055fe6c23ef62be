/- A part of the proof: walks through the program's functions, and what they compute. -/
import Derived.Test.YtedceinkpkoncaaGreatSAttr
import Derived.Test.YtedceinkpkoncaaGreatM1
import Derived.Test.YtedceinkpkoncaaGreatE4
import Derived.Test.YtedceinkpkoncaaGreatOW27
namespace Go.Eng.Tryz.O
set_option maxHeartbeats 0
set_option maxRecDepth 20000
open Go.RowKit Go.Eng
set_option linter.unusedSimpArgs false
set_option linter.unusedVariables false

theorem ringsFrom_le {test : List Int → Bool} {f : Nat} {l : List Int} {n m : Nat} (h : n ≤ m) : (ringsFrom test f l n).length ≤ (ringsFrom test f l m).length := by
  unfold ringsFrom
  obtain ⟨k, rfl⟩ : ∃ k, m = n + k := ⟨m - n, by omega⟩
  rw [List.range_add, List.filter_append, List.flatMap_append, List.length_append]
  omega
/-- What the closure that looks for rings does. -/
def OnSays (all : List Edge) (f : Nat) : Prop := ∀ (l : List Int) (c : Bool) (tm : Tm) (out : List Tm) (nt : Nat) (L : List V) (xs : List Obj) (K : St → E → Prop), good f l = true → L.length + (ringsOn (isRing (fun _ _ => true) all) f l).length ≤ 5000 →
  Tm.under 4 tm = true → outUnder 4 out = true → Tm.kill 3 tm = tm → out.map (Tm.kill 3) = out →
  K { tm := tm, ob := [.dead, .var 67 (.sl 3 23 0 (L ++ ringsV (ringsOn (isRing (fun _ _ => true) all) f l)).length false), .var 123 (.fn 47 [.fptr 92 (.list (all.map Edge.v)), .ptr 1 [] 67, .ptr 2 [] 123]), .row 23 (L ++ ringsV (ringsOn (isRing (fun _ _ => true) all) f l))], out := out, nt := nt } (.tup []) →
  CallE Go.Proofs.Tryz.prog tab { tm := tm, ob := .dead :: .var 67 (.sl 3 23 0 L.length false) :: .var 123 (.fn 47 [.fptr 92 (.list (all.map Edge.v)), .ptr 1 [] 67, .ptr 2 [] 123]) :: .row 23 L :: xs, out := out, nt := nt } 47 [.fs 3 (l.map V.int) c, .fptr 92 (.list (all.map Edge.v)), .ptr 1 [] 67, .ptr 2 [] 123] K

attribute [local go_sem] concat_at List.length_map List.length_range zero52 z52 z3 z4 z79 z89 z55 z53 z50 z2 zero53 z78 z117 zero79 zero78 zero117 zero89 zero55 Int.toNat_natCast Int.natCast_zero Event.v0 Event.v3 Event.v5 Event.v7 Event.v8 Access.v0 Access.v1 Access.v2 beq_acc Edge.v0 Edge.v1 Edge.v2 Edge.v3 heldOf_len locksTo_len heldsTo_len nowL_len
def lv47 : List (Nat × List Nat) := [(0, [0, 2, 3, 13]), (1, [0, 3]), (2, [0, 3, 5]), (3, [0, 3, 5, 24]), (4, [0, 3, 5]), (5, [0, 3, 5, 30]), (6, [0, 3, 5])]
-- scarab/goodlock.rings$1
set_option maxHeartbeats 4000000 in
theorem on_step (all : List Edge) (hal : all.length ≤ 100000) (f : Nat) (ih : OnSays all f) : OnSays all (f + 1) := by
  intro l c tm out nt L xs K hg hB hu1 hu2 hk1 hk2 h
  obtain ⟨g1, g2, g3, g4, g5⟩ := good_succ hg
  have hlm : l.length ≤ maxLen := by unfold maxLen; omega
  obtain ⟨k0, hk0⟩ : ∃ k0 : Nat, l.getD 0 default = (k0 : Int) := ⟨(l.getD 0 default).toNat, by omega⟩
  have hz1 : ∀ (v : V) (m : List V), (tm.map fun x => (x.1, x.2.1, E.frz 4 v m x.2.2)) = tm := fun v m => Tm.under_frz (Nat.le_refl 4) hu1
  have hz2 : ∀ (v : V) (m : List V), out.map (Tm.frz 4 v m) = out := fun v m => out_under_frz (Nat.le_refl 4) hu2
  have hz3 : ∀ (v : V) (m : List V), (tm.map fun x => (x.1, x.2.1, E.frz 5 v m x.2.2)) = tm := fun v m => Tm.under_frz (k := 4) (by omega) hu1
  have hz4 : ∀ (v : V) (m : List V), out.map (Tm.frz 5 v m) = out := fun v m => out_under_frz (k := 4) (by omega) hu2
  have hlq : ∀ q : Nat, List.take (l.length + (List.take 1 (List.drop 0 [V.int (q : Int)])).length) (List.drop 0 (List.map V.int l ++ List.take 1 (List.drop 0 [V.int (q : Int)]))) = (l ++ [(q : Int)]).map V.int := by intro q; simp [List.take_of_length_le]
  have hw0 : IntKind.i64.wrap ((k0 : Int) + 1) = ((k0 + 1 : Nat) : Int) := wrap_succ (show k0 < 10 by omega) (by decide)
  have hk00 : l.getD 0 0 = (k0 : Int) := hk0
  have hk1' : (tm.map fun x => (x.1, x.2.1, E.kill 3 x.2.2)) = tm := hk1
  rw [ringsOn_succ, List.length_append] at hB
  rw [ringsOn_succ] at h
  have hf3 : ∀ n, n ≤ 4 → (ringsFrom (isRing (fun _ _ => true) all) f l n).length ≤ (ringsFrom (isRing (fun _ _ => true) all) f l 4).length := fun n hn => ringsFrom_le hn
  refine CallE.body ok Go.Proofs.Tryz.func47 rfl rfl 38 rfl [] rfl (by simp) ?_
  simp only [enter, args0, Nat.zero_add, Nat.reduceAdd]
  repeat' first
    | ((with_reducible refine SART.told 1 2 ?_)
       refine SART.weaken (St.le.frzRow ok.sized 4 rfl) ?_
       simp only [St.frz, Tm.frz, E.frz, E.frzL, Obj.frz, List.map_cons, List.map_nil, List.set_cons_zero, List.set_cons_succ, Nat.reduceBEq, Nat.beq_refl, if_true, if_false, Nat.beq_eq_true_eq, reduceCtorEq, Bool.false_eq_true, V.get, Nat.reduceEqDiff]
       simp only [hz1, hz2])
    | ((with_reducible refine SART.told 6 5 ?_)
       refine SART.weaken ((St.le.frzRow ok.sized 5 rfl).trans (St.le.keep [0, 3, 5, 31, 36])) ?_
       simp only [St.frz, Tm.frz, E.frz, E.frzL, Obj.frz, List.map_cons, List.map_nil, List.set_cons_zero, List.set_cons_succ, Nat.reduceBEq, Nat.beq_refl, if_true, if_false, Nat.beq_eq_true_eq, reduceCtorEq, Bool.false_eq_true, V.get, Nat.reduceEqDiff]
       simp only [hz3, hz4]
       simp only [St.keep, List.filterMap_cons, List.filterMap_nil, List.lookup_cons, List.lookup_nil, Option.map_some, Option.map_none, beq_self_eq_true, Nat.reduceBEq]
       rw [hlq])
    | ((with_reducible refine SART.told 1 _ ?_); try simp only [hk1', hk2])
    | ((with_reducible refine SARA.told 2 _ ?_); try simp only [getD_map V.int l g2, hk0, hk00, hw0])
    | ((with_reducible refine SART.told 6 _ ?_); try simp only [hk1', hk2])
    | ((with_reducible first | refine SARA.do fun R1 hR1 => ?_ | refine SART.do fun R1 hR1 => ?_ | refine SARB.keep fun R1 hR1 => ?_ | refine SARB.any fun R1 hR1 => ?_); (simp only [go_sem, seval, -List.reduceReplicate]); (repeat' with_reducible refine And.intro ?_ ?_); all_goals first | (refine hR1 _ ?_; clear hR1 R1) | ((first | refine ⟨_, _, rfl, .inl ⟨_, CallQ.ctr ok (chosen_ctr rfl (free_call all) hal l (by omega) l.length [] (by simp) (by simp)) (by first | rfl | (simp [go_sem, List.length_map, List.take_of_length_le]; done) | fail) rfl, ?_⟩⟩ | refine ⟨_, _, rfl, .inl ⟨_, fun hg => CallQ.ctr ok (chosen_ctr rfl (free_call all) hal l (by omega) l.length [] (by simp) (by simp)) (by first | rfl | (simp [go_sem, List.length_map, List.take_of_length_le]; done) | fail) rfl, ?_⟩⟩ | refine ⟨_, _, rfl, .inr (CallE.ctr ok (clone_ctr l (by omega) g2) (by first | rfl | (simp [go_sem, List.length_map, List.take_of_length_le]; done) | fail) ?_)⟩ | refine ⟨_, _, rfl, .inr ⟨fun _ => CallE.ctr ok (clone_ctr l (by omega) g2) (by first | rfl | (simp [go_sem, List.length_map, List.take_of_length_le]; done) | fail) ?_, ?_⟩⟩ | refine ⟨_, _, rfl, .inr (CallB.ctr ok (clone_ctr l (by omega) g2) (by first | rfl | (simp [go_sem, List.length_map, List.take_of_length_le]; done) | fail) ?_)⟩ | refine ⟨_, _, rfl, .inr ⟨fun _ => CallB.ctr ok (clone_ctr l (by omega) g2) (by first | rfl | (simp [go_sem, List.length_map, List.take_of_length_le]; done) | fail) ?_, ?_⟩⟩ | refine ⟨_, _, rfl, .inl ⟨_, CallQ.ctr ok (containsInt_ctr l q hlm) (by first | rfl | (simp [go_sem, List.length_map, List.take_of_length_le]; done) | fail) rfl, ?_⟩⟩ | refine ⟨_, _, rfl, .inl ⟨_, fun hg => CallQ.ctr ok (containsInt_ctr l q hlm) (by first | rfl | (simp [go_sem, List.length_map, List.take_of_length_le]; done) | fail) rfl, ?_⟩⟩ | refine ⟨_, _, rfl, .inr (ih (l ++ [(q : Int)]) false _ (tm :: out) 38 _ _ _ hgn hB2 (by rfl) (by simp [outUnder, hu1, hu2]) (by rfl) (by simp [hk1, hk2]) ?_)⟩ | refine ⟨_, _, rfl, .inl ⟨_, clipIntQ (l.map V.int) c (by rw [List.length_map]; exact hlm), ?_⟩⟩); all_goals ((try simp only [go_sem, seval, -List.reduceReplicate]); (repeat' with_reducible refine And.intro ?_ ?_); all_goals first | (refine hR1 _ ?_; clear hR1 R1) | omega | rfl | decide | assumption | (intro _; omega) | (simp [roomFor, maxLen, by52, by3, by89, by79, by23, ringsV_len] <;> omega))) | omega | rfl | decide | assumption | (intro _; omega) | (simp [roomFor, maxLen, by52, by3, by89, by79, by23, ringsV_len] <;> omega))
    | ((with_reducible refine SART.doneAt 6 ?_); refine hR _ ?_; clear hR R; try simp only [go_sem, lv47, lvOf, Nat.reduceBEq, Option.getD_some]
       exact St.le.of_eq (by simp only [St.keep, List.filterMap_cons, List.filterMap_nil, List.lookup_cons, List.lookup_nil, Option.map_some, Option.map_none, beq_self_eq_true, Nat.reduceBEq, hstep, ringsV_append, List.append_assoc]))
    | ((with_reducible refine SART.done ?_); refine hR _ ?_; clear hR R; try simp only [go_sem, lv47, lvOf, Nat.reduceBEq, Option.getD_some])
    | (with_reducible first | refine SART.br ?_ ?_ | exact SARL.nil | refine SARL.cons ?_ ?_)
    | ((with_reducible refine SARA.nil ?_); refine hR _ ?_; clear hR R; try simp only [go_sem, lv47, lvOf, Nat.reduceBEq, Option.getD_some])
    | (with_reducible first | refine thenK.normal ?_ | refine SA.seq ?_ | refine SA.skip ?_ | refine SA.block ?_ | refine blockK.normal ?_ | refine SA.exit ?_ | refine blockK.hit ?_ | refine blockK.miss (by decide) ?_ | refine thenK.exit ?_ | refine loopK.exit ?_ | refine SA.ret ?_ | refine thenK.ret ?_ | refine blockK.ret ?_ | refine loopK.ret ?_ | refine SA.scope ?_ | refine scopeK.normal ?_ | refine scopeK.exit ?_ | refine scopeK.ret ?_ | refine SA.label ?_)
    | ((with_reducible refine SA.at 0 ?_)
       refine SA.weaken (St.le.cut 4 (by simp [St.under, Tm.under, outUnder, obUnder, E.under, E.underL, hu1, hu2])) ?_
       simp only [List.take_succ_cons, List.take_zero]
       (with_reducible refine SA.regionN ok (by kernel_rfl) lv47 ?_); intro R hR; simp only [go_sem, strip])
    | ((with_reducible refine SA.at 1 ?_)
       refine SA.regionT ok mixed (.take 0 (.take 1 (.br 2 (.br 3 (.br 4 (.br 5 .done .nil) .nil) .nil) .nil))) [4, 5] lv47 (by kernel_rfl) (fun R hR => ?_); simp only [go_sem, strip])
    | ((with_reducible refine SA.at 6 ?_)
       refine SA.regionTP ok mixed (.take 0 (.take 1 (.take 3 (.br 2 (.br 4 (.br 5 (.br 6 .done .nil) .nil) .nil) (.br 4 (.br 2 (.br 5 (.br 6 .done .nil) .nil) .nil) .nil))))) [6] lv47 (by kernel_rfl) ({ tm := [(0, true, .fs 3 (l.map V.int) c), (3, true, .ptr 2 [] 123), (5, true, .int .i64 q)], ob := [.dead, .var 67 (.sl 3 23 0 (L ++ ringsV (RR ++ ringsFrom (isRing (fun _ _ => true) all) f l (q + 1))).length false), .var 123 (.fn 47 [.fptr 92 (.list (all.map Edge.v)), .ptr 1 [] 67, .ptr 2 [] 123]), .row 23 (L ++ ringsV (RR ++ ringsFrom (isRing (fun _ _ => true) all) f l (q + 1)))], out := tm :: out, nt := 38 }) (fun R hR => ?_) ?_; simp only [go_sem, strip])
    | ((with_reducible refine SA.regionN ok (by kernel_rfl) lv47 ?_); intro R hR; simp only [go_sem, strip])
    | ((with_reducible refine SA.condAt 13 rfl (fun hb13 => ?_) (fun hf13 => ?_))
       all_goals
         try
           (have hT : isRing (fun _ _ => true) all l = true := by
              unfold isRing
              rw [show decide (1 < l.length) = decide ((1 : Int) < (l.length : Int)) from by rw [decide_eq_decide]; omega]
              cases hd : decide ((1 : Int) < (l.length : Int)) <;> rw [hd] at hb13 <;> first | (simp at hb13; done) | (simp; done) | (simp at hb13; simp [hb13])
            obtain ⟨RR, hTe⟩ : ∃ RR, RR = (if isRing (fun _ _ => true) all l = true then [l] else []) := ⟨_, rfl⟩
            rw [← hTe] at h hB
            rw [if_pos hT] at hTe)
         try
           (have hT : isRing (fun _ _ => true) all l = false := by
              unfold isRing
              rw [show decide (1 < l.length) = decide ((1 : Int) < (l.length : Int)) from by rw [decide_eq_decide]; omega]
              cases hd : decide ((1 : Int) < (l.length : Int)) <;> rw [hd] at hf13 <;> first | (simp at hf13; done) | (simp; done) | (simp at hf13; simp [hf13])
            obtain ⟨RR, hTe⟩ : ∃ RR, RR = (if isRing (fun _ _ => true) all l = true then [l] else []) := ⟨_, rfl⟩
            rw [← hTe] at h hB
            rw [if_neg (by rw [hT]; decide)] at hTe))
    | ((with_reducible refine SA.condAt 24 rfl (fun hb24 => ?_) (fun hf24 => ?_))
       all_goals
         try
           (simp only [decide_eq_true_eq, decide_eq_false_iff_not, Int.not_lt, Int.not_le] at hb24)
         try
           (simp only [decide_eq_true_eq, decide_eq_false_iff_not, Int.not_lt, Int.not_le] at hf24))
    | ((with_reducible refine SA.condAt 30 rfl (fun hb30 => ?_) (fun hf30 => ?_))
       all_goals
         try
           (have hct : l.contains (q : Int) = false := by simpa using hb30
            have hgn := g5 q (by omega) (by omega) hct
            have hstep := ringsFrom_hit (test := isRing (fun _ _ => true) all) (f := f) (show l.getD 0 default < (q : Int) by omega) hct
            have hf4 := hf3 (q + 1) (by omega)
            rw [hstep, List.length_append] at hf4
            have hB2 : (L ++ ringsV (RR ++ ringsFrom (isRing (fun _ _ => true) all) f l q)).length + (ringsOn (isRing (fun _ _ => true) all) f (l ++ [(q : Int)])).length ≤ 5000 := by rw [List.length_append, ringsV_len, List.length_append]; omega)
         try
           (have hct : l.contains (q : Int) = true := by simpa using hf30
            have hstep := ringsFrom_miss (test := isRing (fun _ _ => true) all) (f := f) hct))
    | ((with_reducible refine SA.atLoop ?_)
       refine SA.weaken ((St.le.cut 4 (by simp [St.under, Tm.under, outUnder, obUnder, E.under, E.underL, hu1, hu2])).trans (St.le.of_eq (by rw [ringsFrom_start hk0, hTe]; simp [ringsV, List.take_of_length_le]))) (SA.loop (fun n τ => ∃ (q : Nat), n = 4 - q ∧ (k0 < q ∧ q ≤ 4) ∧ τ = { tm := [(0, true, .fs 3 (l.map V.int) c), (3, true, .ptr 2 [] 123), (5, true, .int .i64 q)], ob := [.dead, .var 67 (.sl 3 23 0 (L ++ ringsV (RR ++ ringsFrom (isRing (fun _ _ => true) all) f l q)).length false), .var 123 (.fn 47 [.fptr 92 (.list (all.map Edge.v)), .ptr 1 [] 67, .ptr 2 [] 123]), .row 23 (L ++ ringsV (RR ++ ringsFrom (isRing (fun _ _ => true) all) f l q))], out := tm :: out, nt := 38 }) (4 - (k0 + 1)) ⟨k0 + 1, rfl, by omega, rfl⟩ ?_)
       rintro n τ ⟨q, hn, ⟨hn1, hn4⟩, rfl⟩)
    | ((with_reducible refine loopK.round ?_)
       first
         | (have _ := hb13
            have _ := hb24
            have _ := hb30
            refine loopK.normal (4 - (q + 1)) _ (by omega) (St.le.of_eq (by rw [wrap_succ (show q < 4 by omega) (by decide)])) ⟨q + 1, rfl, by omega, rfl⟩)
         | (have _ := hb13
            have _ := hb24
            have _ := hf30
            refine loopK.normal (4 - (q + 1)) _ (by omega) (St.le.of_eq (by rw [hstep, wrap_succ (show q < 4 by omega) (by decide)])) ⟨q + 1, rfl, by omega, rfl⟩)
         | (have _ := hf13
            have _ := hb24
            have _ := hb30
            refine loopK.normal (4 - (q + 1)) _ (by omega) (St.le.of_eq (by rw [wrap_succ (show q < 4 by omega) (by decide)])) ⟨q + 1, rfl, by omega, rfl⟩)
         | (have _ := hf13
            have _ := hb24
            have _ := hf30
            refine loopK.normal (4 - (q + 1)) _ (by omega) (St.le.of_eq (by rw [hstep, wrap_succ (show q < 4 by omega) (by decide)])) ⟨q + 1, rfl, by omega, rfl⟩))
    | ((with_reducible first | refine bodyK.normal ?_ | refine bodyK.ret ?_)
       simp only [resA, evalO, resV, backK, outE, toV, ty4, ty3, List.lookup_cons, List.lookup_nil, beq_self_eq_true, forall_const, true_and, and_true]
       have hq4 : q = 4 := by omega
       subst hq4
       exact h)

end Go.Eng.Tryz.O
