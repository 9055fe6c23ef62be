/- A part of the proof: walks through the program's functions, and what they compute. -/
import Derived.Test.YtedceinkpkoncaaGreatSAttr
namespace Go.Eng.Tryz
open Go.RowKit Go.Eng
set_option linter.unusedSimpArgs false
set_option linter.unusedVariables false
set_option maxHeartbeats 0
set_option maxRecDepth 20000

def lv94 : List (Nat × List Nat) := [(0, [0, 1]), (1, [4])]
-- scarab/scarabref03.within
theorem within_ctr (x n : Int) : Ctr Go.Proofs.Tryz.prog tab 94 [2, 3] [4] [.int x, .int n] [.bool (within x n)] := by
  refine Ctr.body ok Go.Proofs.Tryz.func94 rfl rfl 12 rfl [.tmp 4] rfl (by simp [fromVs]) ?_
  simp only [fromVs, fromV, args0, V.toList_list, V.toInt_int, V.toBool_bool, Nat.zero_add, Nat.reduceAdd, ty2, ty3]
  repeat' first
    | ((with_reducible refine SARA.do fun R1 hR1 => ?_); (simp only [go_sem, seval, -List.reduceReplicate]); (repeat' with_reducible refine And.intro ?_ ?_); all_goals first | (refine hR1 _ ?_; clear hR1 R1) | omega | rfl | decide | assumption | (intro _; omega) | (simp; done) | (simp; omega))
    | ((with_reducible refine SARA.nil ?_); refine hR _ ?_; clear hR R; try simp only [go_sem, lv94, lvOf, Nat.reduceBEq, Option.getD_some])
    | (with_reducible first | refine thenK.normal ?_ | refine SA.seq ?_ | refine SA.skip ?_ | refine SA.block ?_ | refine blockK.normal ?_ | refine SA.exit ?_ | refine blockK.hit ?_ | refine blockK.miss (by decide) ?_ | refine thenK.exit ?_ | refine loopK.exit ?_ | refine SA.ret ?_ | refine thenK.ret ?_ | refine blockK.ret ?_ | refine loopK.ret ?_ | refine SA.scope ?_ | refine scopeK.normal ?_ | refine scopeK.exit ?_ | refine scopeK.ret ?_ | refine SA.label ?_)
    | ((with_reducible refine SA.regionN ok (by kernel_rfl) lv94 ?_); intro R hR; simp only [go_sem, strip])
    | ((with_reducible first | refine ctrK.normal ?_ | refine ctrK.ret ?_)
       simp only [go_sem, resA, resV, backK, seval]
       refine ⟨rfl, ?_⟩
       simp only [within]
       cases decide (0 ≤ x) <;> rfl)

def lv82 : List (Nat × List Nat) := [(0, [0]), (1, [2])]
-- scarab/scarabref03.Local
theorem local_ctr (x : Int) : Ctr Go.Proofs.Tryz.prog tab 82 [50] [4] [.int x] [.bool (isLocal x)] := by
  refine Ctr.body ok Go.Proofs.Tryz.func82 rfl rfl 17 rfl [.tmp 2] rfl (by simp [fromVs]) ?_
  simp only [fromVs, fromV, args0, V.toList_list, V.toInt_int, V.toBool_bool, Nat.zero_add, Nat.reduceAdd, ty50]
  repeat' first
    | ((with_reducible refine SARA.do fun R1 hR1 => ?_); (simp only [go_sem, seval, -List.reduceReplicate]); (repeat' with_reducible refine And.intro ?_ ?_); all_goals first | (refine hR1 _ ?_; clear hR1 R1) | omega | rfl | decide | assumption | (intro _; omega) | (simp; done) | (simp; omega))
    | ((with_reducible refine SARA.nil ?_); refine hR _ ?_; clear hR R; try simp only [go_sem, lv82, lvOf, Nat.reduceBEq, Option.getD_some])
    | (with_reducible first | refine thenK.normal ?_ | refine SA.seq ?_ | refine SA.skip ?_ | refine SA.block ?_ | refine blockK.normal ?_ | refine SA.exit ?_ | refine blockK.hit ?_ | refine blockK.miss (by decide) ?_ | refine thenK.exit ?_ | refine loopK.exit ?_ | refine SA.ret ?_ | refine thenK.ret ?_ | refine blockK.ret ?_ | refine loopK.ret ?_ | refine SA.scope ?_ | refine scopeK.normal ?_ | refine scopeK.exit ?_ | refine scopeK.ret ?_ | refine SA.label ?_)
    | ((with_reducible refine SA.regionN ok (by kernel_rfl) lv82 ?_); intro R hR; simp only [go_sem, strip])
    | ((with_reducible first | refine ctrK.normal ?_ | refine ctrK.ret ?_)
       simp only [go_sem, resA, resV, backK, seval]
       refine ⟨rfl, ?_⟩
       simp only [isLocal]
       cases decide (1 ≤ x) <;> cases decide (x ≤ 36) <;> cases decide (40 ≤ x) <;> rfl)

def lv95 : List (Nat × List Nat) := [(0, [0]), (1, [2])]
-- scarab/scarabref03.Visible
theorem visible_ctr (x : Int) : Ctr Go.Proofs.Tryz.prog tab 95 [50] [4] [.int x] [.bool (isVisible x)] := by
  refine Ctr.body ok Go.Proofs.Tryz.func95 rfl rfl 9 rfl [.tmp 2] rfl (by simp [fromVs]) ?_
  simp only [fromVs, fromV, args0, V.toList_list, V.toInt_int, V.toBool_bool, Nat.zero_add, Nat.reduceAdd, ty50]
  repeat' first
    | ((with_reducible refine SARA.do fun R1 hR1 => ?_); (simp only [go_sem, seval, -List.reduceReplicate]); (repeat' with_reducible refine And.intro ?_ ?_); all_goals first | (refine hR1 _ ?_; clear hR1 R1) | omega | rfl | decide | assumption | (intro _; omega) | (simp; done) | (simp; omega))
    | ((with_reducible refine SARA.nil ?_); refine hR _ ?_; clear hR R; try simp only [go_sem, lv95, lvOf, Nat.reduceBEq, Option.getD_some])
    | (with_reducible first | refine thenK.normal ?_ | refine SA.seq ?_ | refine SA.skip ?_ | refine SA.block ?_ | refine blockK.normal ?_ | refine SA.exit ?_ | refine blockK.hit ?_ | refine blockK.miss (by decide) ?_ | refine thenK.exit ?_ | refine loopK.exit ?_ | refine SA.ret ?_ | refine thenK.ret ?_ | refine blockK.ret ?_ | refine loopK.ret ?_ | refine SA.scope ?_ | refine scopeK.normal ?_ | refine scopeK.exit ?_ | refine scopeK.ret ?_ | refine SA.label ?_)
    | ((with_reducible refine SA.regionN ok (by kernel_rfl) lv95 ?_); intro R hR; simp only [go_sem, strip])
    | ((with_reducible first | refine ctrK.normal ?_ | refine ctrK.ret ?_)
       simp only [go_sem, resA, resV, backK, seval]
       refine ⟨rfl, ?_⟩
       simp only [isVisible]
       cases decide (50 ≤ x) <;> rfl)

def lv96 : List (Nat × List Nat) := [(0, [0]), (1, [0, 8]), (2, [2]), (3, [0, 14]), (4, [2]), (5, [15]), (6, [15, 16]), (7, [2]), (8, [15, 18]), (9, [2]), (10, [15, 20]), (11, [2]), (12, [15, 22]), (13, [2]), (14, [15, 24]), (15, [2]), (16, [15, 26]), (17, [2]), (18, [15, 28]), (19, [2]), (20, [15, 30]), (21, [2]), (22, [15, 32]), (23, [2]), (24, [15, 34]), (25, [2]), (26, [15, 36]), (27, [2]), (28, [15, 38]), (29, [15, 38]), (30, [2]), (31, [15, 41]), (32, [2]), (33, [15, 43]), (34, [2]), (35, [15, 45]), (36, [2]), (37, [15, 47]), (38, [2]), (39, [15, 49]), (40, [2]), (41, [15, 51]), (42, [2]), (43, [15, 53]), (44, [2]), (45, [15, 55]), (46, [2]), (47, [57]), (48, [2]), (49, [2])]
-- scarab/scarabref03.Form
theorem form_ctr (op : Int) : Ctr Go.Proofs.Tryz.prog tab 96 [50] [9] [.int op] [.str (formB op)] := by
  refine Ctr.body ok Go.Proofs.Tryz.func96 rfl rfl 59 rfl [.tmp 2] rfl (by simp [fromVs]) ?_
  simp only [fromVs, fromV, args0, V.toList_list, V.toInt_int, V.toBool_bool, Nat.zero_add, Nat.reduceAdd, ty50]
  repeat' first
    | ((with_reducible refine SARA.do fun R1 hR1 => ?_); (simp only [go_sem, seval, -List.reduceReplicate]); (repeat' with_reducible refine And.intro ?_ ?_); all_goals first | (refine hR1 _ ?_; clear hR1 R1) | omega | rfl | decide | assumption | (intro _; omega) | (simp; done) | (simp; omega))
    | ((with_reducible refine SARA.nil ?_); refine hR _ ?_; clear hR R; try simp only [go_sem, lv96, lvOf, Nat.reduceBEq, Option.getD_some])
    | (with_reducible first | refine thenK.normal ?_ | refine SA.seq ?_ | refine SA.skip ?_ | refine SA.block ?_ | refine blockK.normal ?_ | refine SA.exit ?_ | refine blockK.hit ?_ | refine blockK.miss (by decide) ?_ | refine thenK.exit ?_ | refine loopK.exit ?_ | refine SA.ret ?_ | refine thenK.ret ?_ | refine blockK.ret ?_ | refine loopK.ret ?_ | refine SA.scope ?_ | refine scopeK.normal ?_ | refine scopeK.exit ?_ | refine scopeK.ret ?_ | refine SA.label ?_)
    | ((with_reducible refine SA.regionN ok (by kernel_rfl) lv96 ?_); intro R hR; simp only [go_sem, strip])
    | ((with_reducible refine SA.condAt 8 rfl (fun hb8 => ?_) (fun hb8 => ?_))
       all_goals
         try simp at hb8
         try (exfalso; omega))
    | ((with_reducible refine SA.condAt 14 rfl (fun hb14 => ?_) (fun hb14 => ?_))
       all_goals
         try simp at hb14
         try (exfalso; omega))
    | ((with_reducible refine SA.condAt 16 rfl (fun hb16 => ?_) (fun hb16 => ?_))
       all_goals
         try simp at hb16
         try (exfalso; omega))
    | ((with_reducible refine SA.condAt 18 rfl (fun hb18 => ?_) (fun hb18 => ?_))
       all_goals
         try simp at hb18
         try (exfalso; omega))
    | ((with_reducible refine SA.condAt 20 rfl (fun hb20 => ?_) (fun hb20 => ?_))
       all_goals
         try simp at hb20
         try (exfalso; omega))
    | ((with_reducible refine SA.cond rfl ?_ ?_)
       all_goals
         intro hb
         try simp at hb
         try (exfalso; omega))
    | ((with_reducible first | refine ctrK.normal ?_ | refine ctrK.ret ?_)
       simp only [go_sem, resA, resV, backK, seval]
       refine ⟨rfl, ?_⟩
       first | (subst_vars; rfl) | (unfold formB formL; (repeat (rw [if_neg (by omega)])); (try rw [if_pos (by omega)]); rfl))

def lv97 : List (Nat × List Nat) := [(0, [2, 3, 5, 6, 9]), (1, [3, 5, 6, 9, 12]), (2, [3, 5, 6, 9, 12, 13]), (3, [3, 5, 6, 9, 12, 13]), (4, [20]), (5, [10]), (6, [3, 5, 6, 9, 12, 21]), (7, [31]), (8, [10]), (9, [3, 5, 6, 9, 12, 32]), (10, [3, 6, 11]), (11, [62]), (12, [10]), (13, [3, 5, 6, 12, 63]), (14, [70]), (15, [10]), (16, [3, 5, 6, 12, 71]), (17, [3, 5, 78]), (18, [10]), (19, [85]), (20, [10]), (21, [3, 5, 6, 12, 86]), (22, [92]), (23, [10]), (24, [3, 5, 6, 12, 93]), (25, [100]), (26, [10]), (27, [3, 5, 6, 12, 101]), (28, [108]), (29, [10]), (30, [3, 5, 6, 12, 109]), (31, [116]), (32, [10]), (33, [3, 6, 117]), (34, [124]), (35, [10]), (36, [10])]
-- scarab/scarabref03.operand
theorem operand_ctr (p : Prg) (f : Fnc) (letter x : Int) (i : Instr) (hp : p.Fit) (hf : f.Fit) (h112 : letter = 112 → 0 ≤ i.b ∧ i.b < p.funcs.length) : Ctr Go.Proofs.Tryz.prog tab 97 [26, 100, 5, 2, 105] [3] [p.v, f.v, .int letter, .int x, i.v] [.int (operandErr p f letter x i)] := by
  obtain ⟨hp1, hp2, hp3, hp4⟩ := hp
  obtain ⟨hf1, hf2, hf3⟩ := hf
  refine Ctr.body ok Go.Proofs.Tryz.func97 rfl rfl 125 rfl [.tmp 10] rfl (by simp [fromVs]) ?_
  simp only [fromVs, fromV, args0, V.toList_list, V.toInt_int, V.toBool_bool, Nat.zero_add, Nat.reduceAdd, ty2, ty5, ty26, ty100, ty105]
  repeat' first
    | ((with_reducible refine SARA.told 19 4 ?_)
       rw [getD_vrs (by omega)])
    | ((with_reducible refine SARA.told 10 5 ?_)
       rw [getD_fncs (by omega)])
    | ((with_reducible refine SARA.do fun R1 hR1 => ?_); (simp only [go_sem, seval, -List.reduceReplicate]); (repeat' with_reducible refine And.intro ?_ ?_); all_goals first | (refine hR1 _ ?_; clear hR1 R1) | ((first | refine ⟨_, _, rfl, .inl ⟨_, CallQ.ctr ok (within_ctr _ _) (by first | rfl | (simp [go_sem]; done) | fail) rfl, ?_⟩⟩ | refine ⟨_, _, rfl, .inl ⟨_, fun hg => CallQ.ctr ok (within_ctr _ _) (by first | rfl | (simp [go_sem]; done) | fail) rfl, ?_⟩⟩); all_goals ((try simp only [go_sem, seval, -List.reduceReplicate]); (repeat' with_reducible refine And.intro ?_ ?_); all_goals first | (refine hR1 _ ?_; clear hR1 R1) | omega | rfl | decide | assumption | (intro _; omega) | (simp; done) | (simp; omega) | (simp [roomFor, maxLen] <;> omega))) | omega | rfl | decide | assumption | (intro _; omega) | (simp; done) | (simp; omega) | (simp [roomFor, maxLen] <;> omega))
    | ((with_reducible refine SARA.nil ?_); refine hR _ ?_; clear hR R; try simp only [go_sem, lv97, lvOf, Nat.reduceBEq, Option.getD_some])
    | (with_reducible first | refine thenK.normal ?_ | refine SA.seq ?_ | refine SA.skip ?_ | refine SA.block ?_ | refine blockK.normal ?_ | refine SA.exit ?_ | refine blockK.hit ?_ | refine blockK.miss (by decide) ?_ | refine thenK.exit ?_ | refine loopK.exit ?_ | refine SA.ret ?_ | refine thenK.ret ?_ | refine blockK.ret ?_ | refine loopK.ret ?_ | refine SA.scope ?_ | refine scopeK.normal ?_ | refine scopeK.exit ?_ | refine scopeK.ret ?_ | refine SA.label ?_)
    | ((with_reducible refine SA.regionN ok (by kernel_rfl) lv97 ?_); intro R hR; simp only [go_sem, strip])
    | ((with_reducible refine SA.condAt 13 rfl (fun hb13 => ?_) (fun hb13 => ?_))
       all_goals
         try simp [within] at hb13
         try (exfalso; omega))
    | ((with_reducible refine SA.condAt 20 rfl (fun hb20 => ?_) (fun hb20 => ?_))
       all_goals
         try simp [within] at hb20
         try (exfalso; omega))
    | ((with_reducible refine SA.condAt 21 rfl (fun hb21 => ?_) (fun hb21 => ?_))
       all_goals
         try simp [within] at hb21
         try (exfalso; omega))
    | ((with_reducible refine SA.condAt 31 rfl (fun hb31 => ?_) (fun hb31 => ?_))
       all_goals
         try simp [within] at hb31
         try (exfalso; omega))
    | ((with_reducible refine SA.condAt 32 rfl (fun hb32 => ?_) (fun hb32 => ?_))
       all_goals
         try simp [within] at hb32
         try (exfalso; omega))
    | ((with_reducible refine SA.condAt 62 rfl (fun hb62 => ?_) (fun hb62 => ?_))
       all_goals
         try simp [within] at hb62
         try (exfalso; omega))
    | ((with_reducible refine SA.condAt 63 rfl (fun hb63 => ?_) (fun hb63 => ?_))
       all_goals
         try simp [within] at hb63
         try (exfalso; omega))
    | ((with_reducible refine SA.condAt 70 rfl (fun hb70 => ?_) (fun hb70 => ?_))
       all_goals
         try simp [within] at hb70
         try (exfalso; omega))
    | ((with_reducible refine SA.condAt 71 rfl (fun hb71 => ?_) (fun hb71 => ?_))
       all_goals
         try simp [within] at hb71
         try (exfalso; omega))
    | ((with_reducible refine SA.condAt 78 rfl (fun hb78 => ?_) (fun hb78 => ?_))
       all_goals
         try simp [within] at hb78
         try (exfalso; omega))
    | ((with_reducible refine SA.condAt 85 rfl (fun hb85 => ?_) (fun hb85 => ?_))
       all_goals
         try simp [within] at hb85
         try (exfalso; omega))
    | ((with_reducible refine SA.condAt 86 rfl (fun hb86 => ?_) (fun hb86 => ?_))
       all_goals
         try simp [within] at hb86
         try (exfalso; omega))
    | ((with_reducible refine SA.condAt 92 rfl (fun hb92 => ?_) (fun hb92 => ?_))
       all_goals
         try simp [within] at hb92
         try (exfalso; omega))
    | ((with_reducible refine SA.condAt 93 rfl (fun hb93 => ?_) (fun hb93 => ?_))
       all_goals
         try simp [within] at hb93
         try (exfalso; omega))
    | ((with_reducible refine SA.condAt 100 rfl (fun hb100 => ?_) (fun hb100 => ?_))
       all_goals
         try simp [within] at hb100
         try (exfalso; omega))
    | ((with_reducible refine SA.condAt 101 rfl (fun hb101 => ?_) (fun hb101 => ?_))
       all_goals
         try simp [within] at hb101
         try (exfalso; omega))
    | ((with_reducible refine SA.condAt 108 rfl (fun hb108 => ?_) (fun hb108 => ?_))
       all_goals
         try simp [within] at hb108
         try (exfalso; omega))
    | ((with_reducible refine SA.condAt 109 rfl (fun hb109 => ?_) (fun hb109 => ?_))
       all_goals
         try simp [within] at hb109
         try (exfalso; omega))
    | ((with_reducible refine SA.condAt 116 rfl (fun hb116 => ?_) (fun hb116 => ?_))
       all_goals
         try simp [within] at hb116
         try (exfalso; omega))
    | ((with_reducible refine SA.condAt 117 rfl (fun hb117 => ?_) (fun hb117 => ?_))
       all_goals
         try simp [within] at hb117
         try (exfalso; omega))
    | ((with_reducible refine SA.condAt 124 rfl (fun hb124 => ?_) (fun hb124 => ?_))
       all_goals
         try simp [within] at hb124
         try (exfalso; omega))
    | ((with_reducible first | refine ctrK.normal ?_ | refine ctrK.ret ?_)
       simp only [go_sem, resA, resV, backK, seval]
       refine ⟨rfl, ?_⟩
       first | (subst_vars; simp [operandErr, within, Prg.fn, w64, *]; done) | (simp only [operandErr, within, Prg.fn, w64]; simp [*]; done) | (simp only [operandErr, within, Prg.fn, w64]; simp [*]; omega) | (simp_all [operandErr, within]; done))

end Go.Eng.Tryz
