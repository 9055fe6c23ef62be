/- A part of the proof: walks through the program's functions, and what they compute. -/
import Derived.Test.YtedceinkpkoncaaGreatSAttr
import Derived.Test.YtedceinkpkoncaaGreatE3
import Derived.Test.YtedceinkpkoncaaGreatE4
import Derived.Test.YtedceinkpkoncaaGreatOW2
namespace Go.Eng.Tryz.O
set_option maxHeartbeats 0
set_option maxRecDepth 20000
open Go.RowKit Go.Eng
set_option linter.unusedSimpArgs false
set_option linter.unusedVariables false

attribute [local go_sem] List.length_map zero52 z52 z3 z4 Int.toNat_natCast Int.natCast_zero Event.v0 Event.v7 Event.v8 Access.v0 Access.v1 Access.v2 beq_acc
def lv40 : List (Nat × List Nat) := [(0, [1]), (1, [2])]
-- scarab/depend.Check$1
theorem check1_ctr (e : Event) (he : e.touch.length = 6) : Ctr Go.Proofs.Tryz.prog tab 40 [55] [4] [e.v] [.bool (!right e)] := by
  refine Ctr.body ok Go.Proofs.Tryz.func40 rfl rfl 6 rfl [.tmp 2] rfl (by simp [fromVs]) ?_
  simp only [fromVs, fromV, args0, V.toList_list, V.toInt_int, V.toBool_bool, Nat.zero_add, Nat.reduceAdd, ty55]
  repeat' first
    | ((with_reducible refine SARA.do fun R1 hR1 => ?_); (simp only [go_sem, seval, -List.reduceReplicate]); (repeat' with_reducible refine And.intro ?_ ?_); all_goals first | (refine hR1 _ ?_; clear hR1 R1) | ((first | refine ⟨_, _, rfl, .inl ⟨_, CallQ.ctr ok (right_ctr e he) (by first | rfl | (simp [go_sem, List.length_map, List.take_of_length_le]; done) | fail) rfl, ?_⟩⟩); all_goals ((try simp only [go_sem, seval, -List.reduceReplicate]); (repeat' with_reducible refine And.intro ?_ ?_); all_goals first | (refine hR1 _ ?_; clear hR1 R1) | omega | rfl | decide | assumption | (intro _; omega) | (simp; done) | (simp; omega) | (simp [roomFor, maxLen, by52, by3] <;> omega))) | omega | rfl | decide | assumption | (intro _; omega) | (simp; done) | (simp; omega) | (simp [roomFor, maxLen, by52, by3] <;> omega))
    | ((with_reducible refine SARA.nil ?_); refine hR _ ?_; clear hR R; try simp only [go_sem, lv40, lvOf, Nat.reduceBEq, Option.getD_some])
    | (with_reducible first | refine thenK.normal ?_ | refine SA.seq ?_ | refine SA.skip ?_ | refine SA.block ?_ | refine blockK.normal ?_ | refine SA.exit ?_ | refine blockK.hit ?_ | refine blockK.miss (by decide) ?_ | refine thenK.exit ?_ | refine loopK.exit ?_ | refine SA.ret ?_ | refine thenK.ret ?_ | refine blockK.ret ?_ | refine loopK.ret ?_ | refine SA.scope ?_ | refine scopeK.normal ?_ | refine scopeK.exit ?_ | refine scopeK.ret ?_ | refine SA.label ?_)
    | ((with_reducible refine SA.regionN ok (by kernel_rfl) lv40 ?_); intro R hR; simp only [go_sem, strip])
    | ((with_reducible first | refine ctrK.normal ?_ | refine ctrK.ret ?_)
       simp only [resA, evalO, resV, backK, outE, toV, ty4, ty3, List.lookup_cons, List.lookup_nil, beq_self_eq_true, forall_const, true_and, and_true]
       exact ⟨rfl, rfl⟩)

def lv69 : List (Nat × List Nat) := [(0, [0, 1]), (1, [0, 1, 7, 8]), (2, [0, 1, 7, 8, 9]), (3, [0, 1, 5, 7, 8]), (4, [0, 1, 5, 7, 8, 16]), (5, [4]), (6, [0, 1, 7, 8]), (7, [4])]
-- slices.IndexFunc[[]scarab/api.Event,scarab/api.Event]
theorem indexEvent_call {f : FuncId} {p : Event → Bool} (l : List Event) (c : Bool) (hl : l.length ≤ maxLen) (hf : ∀ e ∈ l, Ctr Go.Proofs.Tryz.prog tab f [55] [4] [e.v] [.bool (p e)]) {σ : St} {K : St → E → Prop} (h : K σ (.int .i64 (find p l))) : CallE Go.Proofs.Tryz.prog tab σ 69 [.fs 55 (l.map Event.v) c, .fn f []] K := by
  refine CallE.body ok Go.Proofs.Tryz.func69 rfl rfl 19 rfl [.tmp 4] rfl (by simp) ?_
  simp only [enter, args0, Nat.zero_add, Nat.reduceAdd]
  repeat' first
    | ((with_reducible refine SARA.told 4 5 ?_)
       have hlt : i < l.length := by omega
       rw [getD_map Event.v l hlt])
    | ((with_reducible refine SARA.do fun R1 hR1 => ?_); (simp only [go_sem, seval, -List.reduceReplicate]); (repeat' with_reducible refine And.intro ?_ ?_); all_goals first | (refine hR1 _ ?_; clear hR1 R1) | ((first | refine ⟨_, _, rfl, .inl ⟨_, CallQ.ctr ok (hf _ (getD_mem l hlt)) (by first | rfl | (simp [go_sem, List.length_map, List.take_of_length_le]; done) | fail) rfl, ?_⟩⟩); all_goals ((try simp only [go_sem, seval, -List.reduceReplicate]); (repeat' with_reducible refine And.intro ?_ ?_); all_goals first | (refine hR1 _ ?_; clear hR1 R1) | omega | rfl | decide | assumption | (intro _; omega) | (simp; done) | (simp; omega) | (simp [roomFor, maxLen, by52, by3] <;> omega))) | omega | rfl | decide | assumption | (intro _; omega) | (simp; done) | (simp; omega) | (simp [roomFor, maxLen, by52, by3] <;> omega))
    | ((with_reducible refine SARA.nil ?_); refine hR _ ?_; clear hR R; try simp only [go_sem, lv69, lvOf, Nat.reduceBEq, Option.getD_some])
    | (with_reducible first | refine thenK.normal ?_ | refine SA.seq ?_ | refine SA.skip ?_ | refine SA.block ?_ | refine blockK.normal ?_ | refine SA.exit ?_ | refine blockK.hit ?_ | refine blockK.miss (by decide) ?_ | refine thenK.exit ?_ | refine loopK.exit ?_ | refine SA.ret ?_ | refine thenK.ret ?_ | refine blockK.ret ?_ | refine loopK.ret ?_ | refine SA.scope ?_ | refine scopeK.normal ?_ | refine scopeK.exit ?_ | refine scopeK.ret ?_ | refine SA.label ?_)
    | ((with_reducible refine SA.regionN ok (by kernel_rfl) lv69 ?_); intro R hR; simp only [go_sem, strip])
    | ((with_reducible refine SA.condAt 9 rfl (fun hb9 => ?_) (fun hf9 => ?_))
       all_goals
         try
           (try simp only [decide_eq_true_eq, decide_eq_false_iff_not] at hb9)
         try
           (try simp only [decide_eq_true_eq, decide_eq_false_iff_not] at hf9))
    | ((with_reducible refine SA.condAt 16 rfl (fun hb16 => ?_) (fun hf16 => ?_))
       all_goals
         try
           (try simp only [decide_eq_true_eq, decide_eq_false_iff_not] at hb16)
         try
           (try simp only [decide_eq_true_eq, decide_eq_false_iff_not] at hf16))
    | ((with_reducible refine SA.atLoop ?_)
       refine SA.weaken (St.le.of_eq (by first | rfl | (simp; done) | fail)) (SA.loop (fun n τ => ∃ (i : Nat), n = l.length - i ∧ (i ≤ l.length ∧ (l.take i).any p = false) ∧ τ = { tm := [(0, true, .fs 55 (l.map Event.v) c), (1, true, .fn f []), (7, true, .int .i64 l.length), (8, true, .int .i64 i)], ob := σ.ob, out := σ.tm :: σ.out, nt := 19 }) (l.length) ⟨0, rfl, ⟨Nat.zero_le _, rfl⟩, rfl⟩ ?_)
       rintro n τ ⟨i, hn, ⟨hi, hc⟩, rfl⟩)
    | ((with_reducible refine loopK.round ?_)
       first
         | (have _ := hb9
            have _ := hf16
            have hlt : i < l.length := by omega
            refine loopK.normal (l.length - (i + 1)) _ (by omega) (St.le.of_eq (by simp only [wrap_succ hlt hl])) ⟨i + 1, rfl, ⟨hlt, ?_⟩, rfl⟩
            rw [any_take _ l hlt, hc, hf16]; rfl))
    | ((with_reducible first | refine bodyK.normal ?_ | refine bodyK.ret ?_)
       simp only [resA, evalO, resV, backK, outE, toV, ty4, ty3, List.lookup_cons, List.lookup_nil, beq_self_eq_true, forall_const, true_and, and_true]
       first
         | (have _ := hb9
            have _ := hb16
            have hlt : i < l.length := by omega
            rw [find_hit hlt hc hb16] at h
            exact h)
         | (have _ := hf9
            have : i = l.length := by omega
            subst this
            rw [List.take_length] at hc
            rw [find_miss hc] at h
            exact h))

def lv39 : List (Nat × List Nat) := [(0, [0, 1]), (1, [4])]
-- slices.ContainsFunc[[]scarab/api.Event,scarab/api.Event]
theorem containsEvent_call {f : FuncId} {p : Event → Bool} (l : List Event) (c : Bool) (hl : l.length ≤ maxLen) (hf : ∀ e ∈ l, Ctr Go.Proofs.Tryz.prog tab f [55] [4] [e.v] [.bool (p e)]) {σ : St} {K : St → E → Prop} (h : K σ (.bool (l.any p))) : CallE Go.Proofs.Tryz.prog tab σ 39 [.fs 55 (l.map Event.v) c, .fn f []] K := by
  refine CallE.body ok Go.Proofs.Tryz.func39 rfl rfl 9 rfl [.tmp 4] rfl (by simp) ?_
  simp only [enter, args0, Nat.zero_add, Nat.reduceAdd]
  repeat' first
    | ((with_reducible refine SARA.do fun R1 hR1 => ?_); (simp only [go_sem, seval, -List.reduceReplicate]); (repeat' with_reducible refine And.intro ?_ ?_); all_goals first | (refine hR1 _ ?_; clear hR1 R1) | ((first | refine ⟨_, _, rfl, .inr (indexEvent_call l c hl hf ?_)⟩); all_goals ((try simp only [go_sem, seval, -List.reduceReplicate]); (repeat' with_reducible refine And.intro ?_ ?_); all_goals first | (refine hR1 _ ?_; clear hR1 R1) | omega | rfl | decide | assumption | (intro _; omega) | (simp; done) | (simp; omega) | (simp [roomFor, maxLen, by52, by3] <;> omega))) | omega | rfl | decide | assumption | (intro _; omega) | (simp; done) | (simp; omega) | (simp [roomFor, maxLen, by52, by3] <;> omega))
    | ((with_reducible refine SARA.nil ?_); refine hR _ ?_; clear hR R; try simp only [go_sem, lv39, lvOf, Nat.reduceBEq, Option.getD_some])
    | (with_reducible first | refine thenK.normal ?_ | refine SA.seq ?_ | refine SA.skip ?_ | refine SA.block ?_ | refine blockK.normal ?_ | refine SA.exit ?_ | refine blockK.hit ?_ | refine blockK.miss (by decide) ?_ | refine thenK.exit ?_ | refine loopK.exit ?_ | refine SA.ret ?_ | refine thenK.ret ?_ | refine blockK.ret ?_ | refine loopK.ret ?_ | refine SA.scope ?_ | refine scopeK.normal ?_ | refine scopeK.exit ?_ | refine scopeK.ret ?_ | refine SA.label ?_)
    | ((with_reducible refine SA.regionN ok (by kernel_rfl) lv39 ?_); intro R hR; simp only [go_sem, strip])
    | ((with_reducible first | refine bodyK.normal ?_ | refine bodyK.ret ?_)
       simp only [resA, evalO, resV, backK, outE, toV, ty4, ty3, List.lookup_cons, List.lookup_nil, beq_self_eq_true, forall_const, true_and, and_true]
       rw [find_ge]
       exact h)

def lv19 : List (Nat × List Nat) := [(0, [0]), (1, [0, 5]), (2, [2]), (3, [7]), (4, [2]), (5, [2])]
-- scarab/depend.Check
theorem check_ctr (t : List Event) (ht : t.length ≤ maxLen) (h6 : ∀ e ∈ t, e.touch.length = 6) : Ctr Go.Proofs.Tryz.prog tab 19 [30] [58] [.list (t.map Event.v)] [.int (check t)] := by
  refine Ctr.body ok Go.Proofs.Tryz.func19 rfl rfl 8 rfl [.tmp 2] rfl (by simp [fromVs]) ?_
  simp only [fromVs, fromV, args0, V.toList_list, V.toInt_int, V.toBool_bool, Nat.zero_add, Nat.reduceAdd, ty30]
  repeat' first
    | ((with_reducible refine SARA.do fun R1 hR1 => ?_); (simp only [go_sem, seval, -List.reduceReplicate]); (repeat' with_reducible refine And.intro ?_ ?_); all_goals first | (refine hR1 _ ?_; clear hR1 R1) | ((first | refine ⟨_, _, rfl, .inr (containsEvent_call (p := fun e => !right e) t false ht (fun e he => check1_ctr e (h6 e he)) ?_)⟩); all_goals ((try simp only [go_sem, seval, -List.reduceReplicate]); (repeat' with_reducible refine And.intro ?_ ?_); all_goals first | (refine hR1 _ ?_; clear hR1 R1) | omega | rfl | decide | assumption | (intro _; omega) | (simp; done) | (simp; omega) | (simp [roomFor, maxLen, by52, by3] <;> omega))) | omega | rfl | decide | assumption | (intro _; omega) | (simp; done) | (simp; omega) | (simp [roomFor, maxLen, by52, by3] <;> omega))
    | ((with_reducible refine SARA.nil ?_); refine hR _ ?_; clear hR R; try simp only [go_sem, lv19, lvOf, Nat.reduceBEq, Option.getD_some])
    | (with_reducible first | refine thenK.normal ?_ | refine SA.seq ?_ | refine SA.skip ?_ | refine SA.block ?_ | refine blockK.normal ?_ | refine SA.exit ?_ | refine blockK.hit ?_ | refine blockK.miss (by decide) ?_ | refine thenK.exit ?_ | refine loopK.exit ?_ | refine SA.ret ?_ | refine thenK.ret ?_ | refine blockK.ret ?_ | refine loopK.ret ?_ | refine SA.scope ?_ | refine scopeK.normal ?_ | refine scopeK.exit ?_ | refine scopeK.ret ?_ | refine SA.label ?_)
    | ((with_reducible refine SA.regionN ok (by kernel_rfl) lv19 ?_); intro R hR; simp only [go_sem, strip])
    | ((with_reducible refine SA.condAt 5 rfl (fun hb5 => ?_) (fun hf5 => ?_))
       all_goals
         try
           (simp at hb5)
         try
           (simp at hf5))
    | ((with_reducible refine SA.condAt 7 rfl (fun hb7 => ?_) (fun hf7 => ?_))
       all_goals
         try
           (simp at hb7)
         try
           (simp at hf7))
    | ((with_reducible first | refine ctrK.normal ?_ | refine ctrK.ret ?_)
       simp only [resA, evalO, resV, backK, outE, toV, ty4, ty3, List.lookup_cons, List.lookup_nil, beq_self_eq_true, forall_const, true_and, and_true]
       first
         | (have _ := hb5
            refine ⟨rfl, ?_⟩
            have : check t = 2 := if_pos (by omega)
            rw [this]; rfl)
         | (have _ := hf5
            have _ := hb7
            refine ⟨rfl, ?_⟩
            have : t.all right = false := by simpa using hb7
            have : check t = 7 := by unfold check; rw [if_neg (by omega), this]; rfl
            rw [this]; rfl)
         | (have _ := hf5
            have _ := hf7
            refine ⟨rfl, ?_⟩
            have : t.all right = true := by simpa using hf7
            have : check t = 0 := by unfold check; rw [if_neg (by omega), this]; rfl
            rw [this]; rfl))

end Go.Eng.Tryz.O
