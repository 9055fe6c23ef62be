/- A part of the proof: walks through the program's functions, and what they compute. -/
import Derived.Test.YtedceinkpkoncaaGreatV1
import Derived.Test.YtedceinkpkoncaaGreatM2
namespace Go.Eng.Tryz
open Go.RowKit Go.Eng
set_option linter.unusedSimpArgs false
set_option linter.unusedVariables false
set_option maxHeartbeats 0
set_option maxRecDepth 20000

def lv77 : List (Nat × List Nat) := [(0, [1, 2, 3, 4, 8]), (1, [1, 2, 3, 4, 8, 10]), (2, [4, 8]), (3, [8])]
-- scarab/scarabref08.set
theorem set_ctr (s : Stt) (g r v : Int) (hs : s.Shape) (hg : 0 ≤ g ∧ g < 6) (hr : r < 8) : Ctr Go.Proofs.Tryz.prog tab 77 [41, 3, 3, 2] [41] [s.v, .int g, .int r, .int v] [(s.setReg g r v).v] := by
  have hs1 := hs.vars
  have hs2 := hs.owner
  have hs3 := hs.chans
  have hs4 := hs.bufs
  have hs5 := hs.gos
  have hs6 := hs.regs
  have h8 : (s.gos.getD g.toNat default).regs.length = 8 := hs6 _ (getD_mem _ (by omega))
  refine Ctr.body ok Go.Proofs.Tryz.func77 rfl rfl 19 rfl [.cell 8 41] rfl (by simp [fromVs]) ?_
  simp only [fromVs, fromV, args0, V.toList_list, V.toInt_int, V.toBool_bool, Nat.zero_add, Nat.reduceAdd, ty2, ty3, ty41]
  repeat' first
    | ((with_reducible refine SARA.do fun R1 hR1 => ?_); (simp only [go_sem, seval, -List.reduceReplicate]); (repeat' with_reducible refine And.intro ?_ ?_); all_goals first | (refine hR1 _ ?_; clear hR1 R1) | omega | rfl | decide | assumption | (intro _; omega) | (simp; done) | (simp [-List.getD_eq_getElem?_getD]; omega) | exact hcode _ | (intro _; exact hcode _) | exact hsl _ | (intro _; exact hsl _) | (simp [-List.getD_eq_getElem?_getD, roomFor, maxLen, by3, by49, by52, by55, by41]; omega) | (simp [-List.getD_eq_getElem?_getD, roomFor, maxLen, by3, by49, by52, by55, by41]; done))
    | ((with_reducible refine SARA.nil ?_); refine hR _ ?_; clear hR R; try simp only [go_sem, lv77, lvOf, Nat.reduceBEq, Option.getD_some])
    | (with_reducible first | refine thenK.normal ?_ | refine SA.seq ?_ | refine SA.skip ?_ | refine SA.block ?_ | refine blockK.normal ?_ | refine SA.exit ?_ | refine blockK.hit ?_ | refine blockK.miss (by decide) ?_ | refine thenK.exit ?_ | refine loopK.exit ?_ | refine SA.ret ?_ | refine thenK.ret ?_ | refine blockK.ret ?_ | refine loopK.ret ?_ | refine SA.scope ?_ | refine scopeK.normal ?_ | refine scopeK.exit ?_ | refine scopeK.ret ?_ | refine SA.label ?_)
    | ((with_reducible refine SA.regionN ok (by kernel_rfl) lv77 ?_); intro R hR; simp only [go_sem, strip])
    | ((with_reducible refine SA.condAt 10 rfl (fun hb10 => ?_) (fun hb10 => ?_))
       all_goals
         try simp only [decide_eq_true_eq, decide_eq_false_iff_not] at hb10)
    | ((with_reducible first | refine ctrK.normal ?_ | refine ctrK.ret ?_)
       simp only [go_sem, resA, resV, backK, seval]
       first
         | (have q : ¬_ := hb10
            exact ⟨rfl, congrArg (fun s : Stt => some s.v) (show _ = s.setReg g r v from Eq.symm (if_neg hb10))⟩)
         | (exact ⟨rfl, congrArg (fun s : Stt => some s.v) (show _ = s.setReg g r v from Eq.symm (if_pos hb10))⟩))

def lv78 : List (Nat × List Nat) := [(0, [0]), (1, [3]), (2, [2]), (3, [2])]
-- scarab/scarabref08.yes
theorem yes8_ctr (b : Bool) : Ctr Go.Proofs.Tryz.prog tab 78 [4] [2] [.bool b] [.int (yes b)] := by
  refine Ctr.body ok Go.Proofs.Tryz.func78 rfl rfl 4 rfl [.tmp 2] rfl (by simp [fromVs]) ?_
  simp only [fromVs, fromV, args0, V.toList_list, V.toInt_int, V.toBool_bool, Nat.zero_add, Nat.reduceAdd, ty4]
  repeat' first
    | ((with_reducible refine SARA.do fun R1 hR1 => ?_); (simp only [go_sem, seval, -List.reduceReplicate]); (repeat' with_reducible refine And.intro ?_ ?_); all_goals first | (refine hR1 _ ?_; clear hR1 R1) | omega | rfl | decide | assumption | (intro _; omega) | (simp; done) | (simp; omega))
    | ((with_reducible refine SARA.nil ?_); refine hR _ ?_; clear hR R; try simp only [go_sem, lv78, lvOf, Nat.reduceBEq, Option.getD_some])
    | (with_reducible first | refine thenK.normal ?_ | refine SA.seq ?_ | refine SA.skip ?_ | refine SA.block ?_ | refine blockK.normal ?_ | refine SA.exit ?_ | refine blockK.hit ?_ | refine blockK.miss (by decide) ?_ | refine thenK.exit ?_ | refine loopK.exit ?_ | refine SA.ret ?_ | refine thenK.ret ?_ | refine blockK.ret ?_ | refine loopK.ret ?_ | refine SA.scope ?_ | refine scopeK.normal ?_ | refine scopeK.exit ?_ | refine scopeK.ret ?_ | refine SA.label ?_)
    | ((with_reducible refine SA.regionN ok (by kernel_rfl) lv78 ?_); intro R hR; simp only [go_sem, strip])
    | ((with_reducible refine SA.cond rfl ?_ ?_)
       all_goals
         intro hb
         try simp only [decide_eq_true_eq, decide_eq_false_iff_not] at hb)
    | ((with_reducible first | refine ctrK.normal ?_ | refine ctrK.ret ?_)
       simp only [go_sem, resA, resV, backK, seval]
       subst hb
       exact ⟨rfl, rfl⟩)

def lv61 : List (Nat × List Nat) := [(0, [2, 3, 4, 5, 6, 10]), (1, [2, 3, 4, 5, 6, 10, 11]), (2, [2, 3, 4, 5, 6, 10, 11, 18]), (3, [6, 10]), (4, [10]), (5, [2, 3, 4, 6, 10, 11, 26]), (6, [3, 4, 6, 10, 11]), (7, [3, 4, 6, 10, 11]), (8, [2, 3, 4, 6, 10, 11]), (9, [2, 3, 4, 6, 10, 11]), (10, [2, 3, 4, 6, 10, 11]), (11, [3, 4, 6, 10, 11]), (12, [3, 4, 6, 10, 11]), (13, [4, 6, 10]), (14, [6, 10]), (15, [10])]
-- scarab/scarabref08.send
theorem send_ctr (p : Prg) (d : Did) (g c v : Int) (hp : p.Fit) (hs : d.s.Shape) (hg : 0 ≤ g ∧ g < 6) (hc : 0 ≤ c ∧ c < p.chans.length ∧ c < 4) (hl : (d.s.chans.getD c.toNat default).closed = false → 0 < p.chans.getD c.toNat 0 → 0 ≤ (d.s.chans.getD c.toNat default).len ∧ (d.s.chans.getD c.toNat default).len < 4) : Ctr Go.Proofs.Tryz.prog tab 61 [26, 110, 3, 3, 2] [110] [p.v, d.v, .int g, .int c, .int v] [(doSend p d g c v).v] := by
  have hcode := p.code_len hp
  have hsl := p.sels_len hp
  obtain ⟨hp1, hp2, hp3, hp4⟩ := hp
  have hs1 := hs.vars
  have hs2 := hs.owner
  have hs3 := hs.chans
  have hs4 := hs.bufs
  have hs5 := hs.gos
  have hs6 := hs.regs
  refine Ctr.body ok Go.Proofs.Tryz.func61 rfl rfl 55 rfl [.cell 10 110] rfl (by simp [fromVs]) ?_
  simp only [fromVs, fromV, args0, V.toList_list, V.toInt_int, V.toBool_bool, Nat.zero_add, Nat.reduceAdd, ty2, ty3, ty26, ty110]
  repeat' first
    | ((with_reducible refine SARA.told 1 5 ?_)
       rw [getD_chns (by omega)])
    | ((with_reducible refine SARA.told 7 3 ?_)
       rw [wrap64_ok (n := (d.s.chans.getD c.toNat default).len + 1) (by omega) (by omega)])
    | ((with_reducible refine SARA.do fun R1 hR1 => ?_); (simp only [go_sem, seval, -List.reduceReplicate]); (repeat' with_reducible refine And.intro ?_ ?_); all_goals first | (refine hR1 _ ?_; clear hR1 R1) | omega | rfl | decide | assumption | (intro _; omega) | (simp; done) | (simp [-List.getD_eq_getElem?_getD]; omega) | exact hcode _ | (intro _; exact hcode _) | exact hsl _ | (intro _; exact hsl _) | (simp [-List.getD_eq_getElem?_getD, roomFor, maxLen, by3, by49, by52, by55, by41]; omega) | (simp [-List.getD_eq_getElem?_getD, roomFor, maxLen, by3, by49, by52, by55, by41]; done))
    | ((with_reducible refine SARA.nil ?_); refine hR _ ?_; clear hR R; try simp only [go_sem, lv61, lvOf, Nat.reduceBEq, Option.getD_some])
    | (with_reducible first | refine thenK.normal ?_ | refine SA.seq ?_ | refine SA.skip ?_ | refine SA.block ?_ | refine blockK.normal ?_ | refine SA.exit ?_ | refine blockK.hit ?_ | refine blockK.miss (by decide) ?_ | refine thenK.exit ?_ | refine loopK.exit ?_ | refine SA.ret ?_ | refine thenK.ret ?_ | refine blockK.ret ?_ | refine loopK.ret ?_ | refine SA.scope ?_ | refine scopeK.normal ?_ | refine scopeK.exit ?_ | refine scopeK.ret ?_ | refine SA.label ?_)
    | ((with_reducible refine SA.at 6 ?_)
       have hL := hl hb18 hb26
       (with_reducible refine SA.regionN ok (by kernel_rfl) lv61 ?_); intro R hR; simp only [go_sem, strip])
    | ((with_reducible refine SA.regionN ok (by kernel_rfl) lv61 ?_); intro R hR; simp only [go_sem, strip])
    | ((with_reducible refine SA.condAt 18 rfl (fun hb18 => ?_) (fun hb18 => ?_))
       all_goals
         try simp only [decide_eq_true_eq, decide_eq_false_iff_not] at hb18)
    | ((with_reducible refine SA.condAt 26 rfl (fun hb26 => ?_) (fun hb26 => ?_))
       all_goals
         try simp only [decide_eq_true_eq, decide_eq_false_iff_not] at hb26)
    | ((with_reducible first | refine ctrK.normal ?_ | refine ctrK.ret ?_)
       simp only [go_sem, resA, resV, backK, seval]
       first
         | (have q : ¬_ := hb26
            exact ⟨rfl, congrArg (fun d : Did => some d.v) (show _ = doSend p d g c v from Eq.symm ((if_neg (fun q => Bool.noConfusion (hb18.symm.trans q))).trans (if_neg hb26)))⟩)
         | (have q := hb26
            exact ⟨rfl, congrArg (fun d : Did => some d.v) (show _ = doSend p d g c v from Eq.symm ((if_neg (fun q => Bool.noConfusion (hb18.symm.trans q))).trans (if_pos hb26)))⟩)
         | (exact ⟨rfl, congrArg (fun d : Did => some d.v) (show _ = doSend p d g c v from Eq.symm (if_pos hb18))⟩))

def lv63 : List (Nat × List Nat) := [(0, [1, 2, 4]), (1, [1, 2, 4, 5]), (2, [1, 2, 4, 5, 12]), (3, [2, 4]), (4, [4]), (5, [1, 2, 4, 5]), (6, [1, 2, 4, 5, 18]), (7, [1, 2, 4, 5]), (8, [1, 2, 4, 5]), (9, [2, 4]), (10, [4])]
-- scarab/scarabref08.closes
theorem closes_ctr (d : Did) (c : Int) (hs : d.s.Shape) (hc : 0 ≤ c ∧ c < 4) : Ctr Go.Proofs.Tryz.prog tab 63 [110, 3] [110] [d.v, .int c] [(doClose d c).v] := by
  have hs1 := hs.vars
  have hs2 := hs.owner
  have hs3 := hs.chans
  have hs4 := hs.bufs
  have hs5 := hs.gos
  have hs6 := hs.regs
  refine Ctr.body ok Go.Proofs.Tryz.func63 rfl rfl 27 rfl [.cell 4 110] rfl (by simp [fromVs]) ?_
  simp only [fromVs, fromV, args0, V.toList_list, V.toInt_int, V.toBool_bool, Nat.zero_add, Nat.reduceAdd, ty3, ty110]
  repeat' first
    | ((with_reducible refine SARA.told 1 5 ?_)
       rw [getD_chns (by omega)])
    | ((with_reducible refine SARA.do fun R1 hR1 => ?_); (simp only [go_sem, seval, -List.reduceReplicate]); (repeat' with_reducible refine And.intro ?_ ?_); all_goals first | (refine hR1 _ ?_; clear hR1 R1) | omega | rfl | decide | assumption | (intro _; omega) | (simp; done) | (simp [-List.getD_eq_getElem?_getD]; omega) | exact hcode _ | (intro _; exact hcode _) | exact hsl _ | (intro _; exact hsl _) | (simp [-List.getD_eq_getElem?_getD, roomFor, maxLen, by3, by49, by52, by55, by41]; omega) | (simp [-List.getD_eq_getElem?_getD, roomFor, maxLen, by3, by49, by52, by55, by41]; done))
    | ((with_reducible refine SARA.nil ?_); refine hR _ ?_; clear hR R; try simp only [go_sem, lv63, lvOf, Nat.reduceBEq, Option.getD_some])
    | (with_reducible first | refine thenK.normal ?_ | refine SA.seq ?_ | refine SA.skip ?_ | refine SA.block ?_ | refine blockK.normal ?_ | refine SA.exit ?_ | refine blockK.hit ?_ | refine blockK.miss (by decide) ?_ | refine thenK.exit ?_ | refine loopK.exit ?_ | refine SA.ret ?_ | refine thenK.ret ?_ | refine blockK.ret ?_ | refine loopK.ret ?_ | refine SA.scope ?_ | refine scopeK.normal ?_ | refine scopeK.exit ?_ | refine scopeK.ret ?_ | refine SA.label ?_)
    | ((with_reducible refine SA.regionN ok (by kernel_rfl) lv63 ?_); intro R hR; simp only [go_sem, strip])
    | ((with_reducible refine SA.condAt 12 rfl (fun hb12 => ?_) (fun hb12 => ?_))
       all_goals
         try simp only [decide_eq_true_eq, decide_eq_false_iff_not] at hb12)
    | ((with_reducible refine SA.condAt 18 rfl (fun hb18 => ?_) (fun hb18 => ?_))
       all_goals
         try simp only [decide_eq_true_eq, decide_eq_false_iff_not] at hb18)
    | ((with_reducible first | refine ctrK.normal ?_ | refine ctrK.ret ?_)
       simp only [go_sem, resA, resV, backK, seval]
       first
         | (have q : ¬_ := hb18
            exact ⟨rfl, congrArg (fun d : Did => some d.v) (show _ = doClose d c from Eq.symm ((if_neg (fun q => Bool.noConfusion (hb12.symm.trans q))).trans (if_neg hb18)))⟩)
         | (have q := hb18
            exact ⟨rfl, congrArg (fun d : Did => some d.v) (show _ = doClose d c from Eq.symm ((if_neg (fun q => Bool.noConfusion (hb12.symm.trans q))).trans (if_pos hb18)))⟩)
         | (exact ⟨rfl, congrArg (fun d : Did => some d.v) (show _ = doClose d c from Eq.symm (if_pos hb12))⟩))

def lv60 : List (Nat × List Nat) := [(0, [1, 2, 3, 6]), (1, [1, 2, 3, 6, 7]), (2, [1, 2, 3, 6, 7, 15]), (3, [1, 2, 3, 6, 7]), (4, [1, 2, 3, 6, 7]), (5, [1, 2, 3, 6, 7]), (6, [1, 2, 3, 6, 7]), (7, [1, 3, 6]), (8, [3, 6]), (9, [6])]
-- scarab/scarabref08.taken
theorem taken_ctr (d : Did) (g c : Int) (hs : d.s.Shape) (hg : 0 ≤ g ∧ g < 6) (hc : 0 ≤ c ∧ c < 4) : Ctr Go.Proofs.Tryz.prog tab 60 [110, 3, 3] [110] [d.v, .int g, .int c] [(doTaken d g c).v] := by
  have hs1 := hs.vars
  have hs2 := hs.owner
  have hs3 := hs.chans
  have hs4 := hs.bufs
  have hs5 := hs.gos
  have hs6 := hs.regs
  refine Ctr.body ok Go.Proofs.Tryz.func60 rfl rfl 31 rfl [.cell 6 110] rfl (by simp [fromVs]) ?_
  simp only [fromVs, fromV, args0, V.toList_list, V.toInt_int, V.toBool_bool, Nat.zero_add, Nat.reduceAdd, ty3, ty110]
  repeat' first
    | ((with_reducible refine SARA.told 1 5 ?_)
       rw [getD_chns (by omega)])
    | ((with_reducible refine SARA.do fun R1 hR1 => ?_); (simp only [go_sem, seval, -List.reduceReplicate]); (repeat' with_reducible refine And.intro ?_ ?_); all_goals first | (refine hR1 _ ?_; clear hR1 R1) | omega | rfl | decide | assumption | (intro _; omega) | (simp; done) | (simp [-List.getD_eq_getElem?_getD]; omega) | exact hcode _ | (intro _; exact hcode _) | exact hsl _ | (intro _; exact hsl _) | (simp [-List.getD_eq_getElem?_getD, roomFor, maxLen, by3, by49, by52, by55, by41]; omega) | (simp [-List.getD_eq_getElem?_getD, roomFor, maxLen, by3, by49, by52, by55, by41]; done))
    | ((with_reducible refine SARA.nil ?_); refine hR _ ?_; clear hR R; try simp only [go_sem, lv60, lvOf, Nat.reduceBEq, Option.getD_some])
    | (with_reducible first | refine thenK.normal ?_ | refine SA.seq ?_ | refine SA.skip ?_ | refine SA.block ?_ | refine blockK.normal ?_ | refine SA.exit ?_ | refine blockK.hit ?_ | refine blockK.miss (by decide) ?_ | refine thenK.exit ?_ | refine loopK.exit ?_ | refine SA.ret ?_ | refine thenK.ret ?_ | refine blockK.ret ?_ | refine loopK.ret ?_ | refine SA.scope ?_ | refine scopeK.normal ?_ | refine scopeK.exit ?_ | refine scopeK.ret ?_ | refine SA.label ?_)
    | ((with_reducible refine SA.regionN ok (by kernel_rfl) lv60 ?_); intro R hR; simp only [go_sem, strip])
    | ((with_reducible refine SA.condAt 15 rfl (fun hb15 => ?_) (fun hb15 => ?_))
       all_goals
         try simp only [decide_eq_true_eq, decide_eq_false_iff_not] at hb15)
    | ((with_reducible first | refine ctrK.normal ?_ | refine ctrK.ret ?_)
       simp only [go_sem, resA, resV, backK, seval]
       first
         | (have q : ¬_ := hb15
            refine ⟨rfl, congrArg (fun d : Did => some d.v) ?_⟩
            have e : (if (d.s.chn c).offer = 3 then 4 else d.why) = d.why := if_neg hb15
            unfold doTaken
            simp only
            rw [e]
            rfl)
         | (refine ⟨rfl, congrArg (fun d : Did => some d.v) ?_⟩
            have e : (if (d.s.chn c).offer = 3 then 4 else d.why) = 4 := if_pos hb15
            unfold doTaken
            simp only
            rw [e]
            rfl))

end Go.Eng.Tryz
namespace Go.Eng.Tryz
open Go.RowKit Go.Eng
set_option linter.unusedSimpArgs false
set_option linter.unusedVariables false
set_option maxHeartbeats 0
set_option maxRecDepth 20000

def lv62 : List (Nat × List Nat) := [(0, [1, 2, 3, 4, 5, 10]), (1, [1, 2, 3, 4, 5, 10, 11]), (2, [1, 2, 3, 4, 5, 10, 11, 12]), (3, [1, 2, 3, 4, 5, 10, 11, 12, 13]), (4, [1, 2, 3, 4, 5, 10, 11, 12, 13, 22]), (5, [1, 2, 3, 4, 5, 10, 11, 12, 13]), (6, [1, 2, 3, 4, 5, 10, 11, 12, 13, 14]), (7, [1, 2, 3, 4, 5, 10, 11, 12, 13, 14, 30]), (8, [1, 2, 3, 4, 5, 10, 11, 12, 13, 14]), (9, [1, 2, 3, 4, 5, 10, 11, 12, 13, 14]), (10, [1, 2, 3, 4, 5, 10, 11, 12, 13]), (11, [1, 2, 3, 4, 5, 10, 11, 12, 13]), (12, [1, 2, 3, 4, 5, 10, 11, 12, 13, 52]), (13, [1, 2, 3, 4, 5, 10, 11, 12, 13]), (14, [1, 2, 3, 4, 5, 10, 11, 12, 13]), (15, [1, 2, 3, 4, 5, 10, 11, 12, 13]), (16, [1, 2, 3, 4, 5, 10, 11, 12, 13]), (17, [1, 3, 4, 5, 10, 12, 13]), (18, [1, 4, 5, 10, 12, 13]), (19, [5, 10, 12]), (20, [5, 10]), (21, [10])]
-- scarab/scarabref08.recv
theorem recv_ctr (d : Did) (g c r k : Int) (hs : d.s.Shape) (hg : 0 ≤ g ∧ g < 6) (hc : 0 ≤ c ∧ c < 4) (hr : r < 8) (hk : k < 8) (hl : 0 ≤ (d.s.chans.getD c.toNat default).len ∧ (d.s.chans.getD c.toNat default).len ≤ 4) : Ctr Go.Proofs.Tryz.prog tab 62 [110, 3, 3, 3, 3] [110] [d.v, .int g, .int c, .int r, .int k] [(doRecv d g c r k).v] := by
  have hs1 := hs.vars
  have hs2 := hs.owner
  have hs3 := hs.chans
  have hs4 := hs.bufs
  have hs5 := hs.gos
  have hs6 := hs.regs
  have h8 : (d.s.gos.getD g.toNat default).regs.length = 8 := hs6 _ (getD_mem _ (by omega))
  have hbl : (d.s.chans.getD c.toNat default).buf.length = 4 := hs4 _ (getD_mem _ (by omega))
  refine Ctr.body ok Go.Proofs.Tryz.func62 rfl rfl 80 rfl [.cell 10 110] rfl (by simp [fromVs]) ?_
  simp only [fromVs, fromV, args0, V.toList_list, V.toInt_int, V.toBool_bool, Nat.zero_add, Nat.reduceAdd, ty3, ty110]
  repeat' first
    | ((with_reducible refine SARA.told 1 5 ?_)
       rw [getD_chns (by omega)])
    | ((with_reducible refine SARA.told 7 2 ?_)
       rw [wrap_succ (n := i) (m := 256) (by omega) (by decide)])
    | ((with_reducible refine SARA.told 9 3 ?_)
       rw [wrap_succ (n := i) (m := 256) (by omega) (by decide)])
    | ((with_reducible refine SARA.told 10 3 ?_)
       rw [wrap64_ok (n := (d.s.chans.getD c.toNat default).len - 1) (by omega) (by omega)])
    | ((with_reducible refine SARA.told 11 3 ?_)
       rw [wrap64_ok (n := (d.s.chans.getD c.toNat default).len - 1) (by omega) (by omega)])
    | ((with_reducible first | refine SARA.do fun R1 hR1 => ?_ | refine SART.do fun R1 hR1 => ?_ | refine SARB.keep fun R1 hR1 => ?_ | refine SARB.any fun R1 hR1 => ?_); (simp only [go_sem, seval, -List.reduceReplicate]); (repeat' with_reducible refine And.intro ?_ ?_); all_goals first | (refine hR1 _ ?_; clear hR1 R1) | ((first | refine ⟨_, _, rfl, .inl ⟨_, CallQ.ctr ok (set_ctr _ g _ _ ?_ hg hr) (by first | rfl | (simp [go_sem]; done) | fail) rfl, ?_⟩⟩ | refine ⟨_, _, rfl, .inl ⟨_, CallQ.ctr ok (yes8_ctr _) (by first | rfl | (simp [go_sem]; done) | fail) rfl, ?_⟩⟩ | refine ⟨_, _, rfl, .inl ⟨_, CallQ.ctr ok (set_ctr _ g _ _ ?_ hg hk) (by first | rfl | (simp [go_sem]; done) | fail) rfl, ?_⟩⟩); all_goals ((try simp only [go_sem, seval, -List.reduceReplicate]); (repeat' with_reducible refine And.intro ?_ ?_); all_goals first | (refine hR1 _ ?_; clear hR1 R1) | omega | rfl | decide | assumption | (intro _; omega) | (simp; done) | (simp [-List.getD_eq_getElem?_getD]; omega) | exact hcode _ | (intro _; exact hcode _) | exact hsl _ | (intro _; exact hsl _) | (simp [-List.getD_eq_getElem?_getD, roomFor, maxLen, by3, by49, by52, by55, by41]; omega) | (simp [-List.getD_eq_getElem?_getD, roomFor, maxLen, by3, by49, by52, by55, by41]; done) | (simp [shiftTo_len]; omega) | exact shape_chn hs _ hbl | exact shape_chn hs _ (by simpa [shiftTo_len] using hbl) | exact shape_reg (shape_chn hs _ hbl) hg _ _ | exact shape_reg (shape_chn hs _ (by simpa [shiftTo_len] using hbl)) hg _ _)) | omega | rfl | decide | assumption | (intro _; omega) | (simp; done) | (simp [-List.getD_eq_getElem?_getD]; omega) | exact hcode _ | (intro _; exact hcode _) | exact hsl _ | (intro _; exact hsl _) | (simp [-List.getD_eq_getElem?_getD, roomFor, maxLen, by3, by49, by52, by55, by41]; omega) | (simp [-List.getD_eq_getElem?_getD, roomFor, maxLen, by3, by49, by52, by55, by41]; done) | (simp [shiftTo_len]; omega) | exact shape_chn hs _ hbl | exact shape_chn hs _ (by simpa [shiftTo_len] using hbl) | exact shape_reg (shape_chn hs _ hbl) hg _ _ | exact shape_reg (shape_chn hs _ (by simpa [shiftTo_len] using hbl)) hg _ _)
    | ((with_reducible refine SART.done ?_); refine hR _ ?_; clear hR R; try simp only [go_sem, lv62, lvOf, Nat.reduceBEq, Option.getD_some])
    | (with_reducible first | refine SART.br ?_ ?_ | exact SARL.nil | refine SARL.cons ?_ ?_)
    | ((with_reducible refine SARA.nil ?_); refine hR _ ?_; clear hR R; try simp only [go_sem, lv62, lvOf, Nat.reduceBEq, Option.getD_some])
    | (with_reducible first | refine thenK.normal ?_ | refine SA.seq ?_ | refine SA.skip ?_ | refine SA.block ?_ | refine blockK.normal ?_ | refine SA.exit ?_ | refine blockK.hit ?_ | refine blockK.miss (by decide) ?_ | refine thenK.exit ?_ | refine loopK.exit ?_ | refine SA.ret ?_ | refine thenK.ret ?_ | refine blockK.ret ?_ | refine loopK.ret ?_ | refine SA.scope ?_ | refine scopeK.normal ?_ | refine scopeK.exit ?_ | refine scopeK.ret ?_ | refine SA.label ?_)
    | ((with_reducible refine SA.at 19 ?_)
       refine SA.regionT ok mixed (.take 0 (.take 1 (.take 2 (.take 3 (.take 4 (.br 5 (.br 6 (.take 7 (.br 8 .done .nil)) .nil) .nil)))))) [8] lv62 (by kernel_rfl) (fun R hR => ?_); simp only [go_sem, strip])
    | ((with_reducible refine SA.regionN ok (by kernel_rfl) lv62 ?_); intro R hR; simp only [go_sem, strip])
    | ((with_reducible refine SA.condAt 22 rfl (fun hb22 => ?_) (fun hb22 => ?_))
       all_goals
         try simp only [decide_eq_true_eq, decide_eq_false_iff_not] at hb22)
    | ((with_reducible refine SA.condAt 30 rfl (fun hb30 => ?_) (fun hb30 => ?_))
       all_goals
         try simp only [decide_eq_true_eq, decide_eq_false_iff_not] at hb30)
    | ((with_reducible refine SA.condAt 52 rfl (fun hb52 => ?_) (fun hb52 => ?_))
       all_goals
         try simp only [decide_eq_true_eq, decide_eq_false_iff_not] at hb52)
    | ((with_reducible refine SA.atLoop ?_)
       refine SA.weaken (St.le.of_eq (by simp only [shiftTo_zero]; rfl)) (SA.loop (fun n τ => ∃ (i : Nat), n = (d.s.chans.getD c.toNat default).len.toNat - i ∧ ((i : Int) + 1 ≤ (d.s.chans.getD c.toNat default).len) ∧ τ = { tm := [(1, true, .int .i64 g), (2, true, .int .i64 c), (3, true, .int .i64 r), (4, true, .int .i64 k), (5, true, .ptr 0 [] 110), (10, true, .ptr 1 [] 110), (11, true, .ptr 2 [] 35), (12, true, .int .i64 ((d.s.chans.getD c.toNat default).buf.getD 0 0)), (13, true, .bool true), (14, true, .int .i64 i)], ob := [.var 110 (.data 110 d.v), .var 110 (.data 110 (tab.zero 110)), .var 35 (.data 35 (Chn.v ⟨shiftTo (d.s.chans.getD c.toNat default).buf i, (d.s.chans.getD c.toNat default).len, (d.s.chans.getD c.toNat default).closed, (d.s.chans.getD c.toNat default).offer, (d.s.chans.getD c.toNat default).from_, (d.s.chans.getD c.toNat default).val⟩))], out := [], nt := 80 }) ((d.s.chans.getD c.toNat default).len.toNat) ⟨0, rfl, by omega, rfl⟩ ?_)
       rintro n τ ⟨i, hn, hi, rfl⟩)
    | ((with_reducible refine loopK.round ?_)
       first
         | (have hw := wrap_succ (n := i) (m := 256) (by omega) (by decide)
            refine loopK.normal ((d.s.chans.getD c.toNat default).len.toNat - (i + 1)) _ (by omega) (St.le.of_eq (by simp only [hw, shiftTo_at (d.s.chans.getD c.toNat default).buf (n := i) (i := i + 1) (by omega) (by omega), shiftTo_succ (d.s.chans.getD c.toNat default).buf (n := i) (by omega)])) ⟨i + 1, rfl, by omega, rfl⟩))
    | ((with_reducible first | refine ctrK.normal ?_ | refine ctrK.ret ?_)
       simp only [go_sem, resA, resV, backK, seval]
       first
         | (have q : _ = _ := hb52
            exact ⟨rfl, congrArg (fun d : Did => some d.v) (show _ = doRecv d g c r k from Eq.symm ((if_neg hb22).trans (if_pos hb52)))⟩)
         | (have q : ¬_ := hb52
            exact ⟨rfl, congrArg (fun d : Did => some d.v) (show _ = doRecv d g c r k from Eq.symm ((if_neg hb22).trans (if_neg hb52)))⟩)
         | (have e : i = ((d.s.chans.getD c.toNat default).len - 1).toNat := by omega
            subst e
            exact ⟨rfl, congrArg (fun d : Did => some d.v) (show _ = doRecv d g c r k from Eq.symm (if_pos hb22))⟩))

end Go.Eng.Tryz
namespace Go.Eng.Tryz
open Go.RowKit Go.Eng
set_option linter.unusedSimpArgs false
set_option linter.unusedVariables false
set_option maxHeartbeats 0
set_option maxRecDepth 20000

def lv65 : List (Nat × List Nat) := [(0, [1, 3, 5, 6]), (1, [1, 3, 5, 6, 7]), (2, [1, 3, 5, 6, 7, 15]), (3, [1, 3, 5, 6, 7, 15, 16]), (4, [1, 3, 5, 6]), (5, [3, 6]), (6, [1, 3, 5, 6, 7, 15, 34]), (7, [3, 5, 6]), (8, [3, 6]), (9, [1, 3, 5, 6, 7, 15, 48]), (10, [1, 3, 5, 6]), (11, [3, 5, 6]), (12, [3, 6]), (13, [1, 3, 5, 6, 7, 15, 82]), (14, [1, 3, 5, 6, 7]), (15, [1, 3, 5, 6, 7, 99]), (16, [1, 3, 5, 6]), (17, [3, 6]), (18, [1, 3, 5, 6, 7, 15, 118]), (19, [3, 6]), (20, [1, 3, 5, 6, 15, 125]), (21, [3, 6]), (22, [1, 3, 5, 6, 15, 134]), (23, [3, 5, 6, 144]), (24, [3, 6]), (25, [6]), (26, [3, 6]), (27, [1, 3, 5, 6, 152]), (28, [1, 3, 5, 6]), (29, [1, 3, 5, 6, 165]), (30, [1, 3, 5, 6]), (31, [3, 6]), (32, [6])]
-- scarab/scarabref08.variables
theorem variables_ctr (p : Prg) (f : Fnc) (d : Did) (g : Int) (x : Instr) (hs : d.s.Shape) (hg : 0 ≤ g ∧ g < 6) (hin : instrErr p f x = 0) (hrg : f.regs ≤ 8) (hsz : p.vars.length ≤ 8 ∧ p.locks ≤ 4) : Ctr Go.Proofs.Tryz.prog tab 65 [110, 3, 105] [110] [d.v, .int g, x.v] [(doVars d g x).v] := by
  have hs1 := hs.vars
  have hs2 := hs.owner
  have hs3 := hs.chans
  have hs4 := hs.bufs
  have hs5 := hs.gos
  have hs6 := hs.regs
  have h8 : (d.s.gos.getD g.toNat default).regs.length = 8 := hs6 _ (getD_mem _ (by omega))
  refine Ctr.body ok Go.Proofs.Tryz.func65 rfl rfl 183 rfl [.cell 6 110] rfl (by simp [fromVs]) ?_
  simp only [fromVs, fromV, args0, V.toList_list, V.toInt_int, V.toBool_bool, Nat.zero_add, Nat.reduceAdd, ty3, ty105, ty110]
  repeat' first
    | ((with_reducible refine SARA.told 21 4 ?_)
       rw [wrap64_ok (n := g + 1) (by omega) (by omega)])
    | ((with_reducible refine SARA.told 23 8 ?_)
       rw [wrap64_ok (n := g + 1) (by omega) (by omega)])
    | ((with_reducible refine SARA.told 30 4 ?_)
       rw [wrap64_ok (n := g + 1) (by omega) (by omega)])
    | ((with_reducible first | refine SARA.do fun R1 hR1 => ?_ | refine SART.do fun R1 hR1 => ?_ | refine SARB.keep fun R1 hR1 => ?_ | refine SARB.any fun R1 hR1 => ?_); (simp only [go_sem, seval, -List.reduceReplicate]); (repeat' with_reducible refine And.intro ?_ ?_); all_goals first | (refine hR1 _ ?_; clear hR1 R1) | ((first | refine ⟨_, _, rfl, .inl ⟨_, CallQ.ctr ok (set_ctr _ g _ _ ?_ hg ?_) (by first | rfl | (simp [go_sem]; done) | fail) rfl, ?_⟩⟩ | refine ⟨_, _, rfl, .inl ⟨_, CallQ.ctr ok (yes8_ctr _) (by first | rfl | (simp [go_sem]; done) | fail) rfl, ?_⟩⟩); all_goals ((try simp only [go_sem, seval, -List.reduceReplicate]); (repeat' with_reducible refine And.intro ?_ ?_); all_goals first | (refine hR1 _ ?_; clear hR1 R1) | omega | rfl | decide | assumption | (intro _; omega) | (simp; done) | (simp [-List.getD_eq_getElem?_getD]; omega) | exact hcode _ | (intro _; exact hcode _) | exact hsl _ | (intro _; exact hsl _) | (simp [-List.getD_eq_getElem?_getD, roomFor, maxLen, by3, by49, by52, by55, by41]; omega) | (simp [-List.getD_eq_getElem?_getD, roomFor, maxLen, by3, by49, by52, by55, by41]; done) | exact hs | exact shape_vars hs _ _ | exact shape_own hs _ _)) | omega | rfl | decide | assumption | (intro _; omega) | (simp; done) | (simp [-List.getD_eq_getElem?_getD]; omega) | exact hcode _ | (intro _; exact hcode _) | exact hsl _ | (intro _; exact hsl _) | (simp [-List.getD_eq_getElem?_getD, roomFor, maxLen, by3, by49, by52, by55, by41]; omega) | (simp [-List.getD_eq_getElem?_getD, roomFor, maxLen, by3, by49, by52, by55, by41]; done) | exact hs | exact shape_vars hs _ _ | exact shape_own hs _ _)
    | ((with_reducible refine SART.done ?_); refine hR _ ?_; clear hR R; try simp only [go_sem, lv65, lvOf, Nat.reduceBEq, Option.getD_some])
    | (with_reducible first | refine SART.br ?_ ?_ | exact SARL.nil | refine SARL.cons ?_ ?_)
    | ((with_reducible refine SARA.nil ?_); refine hR _ ?_; clear hR R; try simp only [go_sem, lv65, lvOf, Nat.reduceBEq, Option.getD_some])
    | (with_reducible first | refine thenK.normal ?_ | refine SA.seq ?_ | refine SA.skip ?_ | refine SA.block ?_ | refine blockK.normal ?_ | refine SA.exit ?_ | refine blockK.hit ?_ | refine blockK.miss (by decide) ?_ | refine thenK.exit ?_ | refine loopK.exit ?_ | refine SA.ret ?_ | refine thenK.ret ?_ | refine blockK.ret ?_ | refine loopK.ret ?_ | refine SA.scope ?_ | refine scopeK.normal ?_ | refine scopeK.exit ?_ | refine scopeK.ret ?_ | refine SA.label ?_)
    | ((with_reducible refine SA.at 4 ?_)
       have hI := vis50 hin hb16
       (with_reducible refine SA.regionN ok (by kernel_rfl) lv65 ?_); intro R hR; simp only [go_sem, strip])
    | ((with_reducible refine SA.at 7 ?_)
       have hI := vis51 hin hb34
       (with_reducible refine SA.regionN ok (by kernel_rfl) lv65 ?_); intro R hR; simp only [go_sem, strip])
    | ((with_reducible refine SA.at 10 ?_)
       have hI := vis52 hin hb48
       (with_reducible refine SA.regionN ok (by kernel_rfl) lv65 ?_); intro R hR; simp only [go_sem, strip])
    | ((with_reducible refine SA.at 19 ?_)
       have hI := vis54 hin hb118
       (with_reducible refine SA.regionN ok (by kernel_rfl) lv65 ?_); intro R hR; simp only [go_sem, strip])
    | ((with_reducible refine SA.at 21 ?_)
       have hI := vis55 hin (.inl hb125)
       (with_reducible refine SA.regionN ok (by kernel_rfl) lv65 ?_); intro R hR; simp only [go_sem, strip])
    | ((with_reducible refine SA.at 23 ?_)
       have hI := vis55 hin (.inr hb134)
       (with_reducible refine SA.regionN ok (by kernel_rfl) lv65 ?_); intro R hR; simp only [go_sem, strip])
    | ((with_reducible refine SA.at 28 ?_)
       have hI := vis57 hin hb152
       (with_reducible refine SA.regionN ok (by kernel_rfl) lv65 ?_); intro R hR; simp only [go_sem, strip])
    | ((with_reducible refine SA.at 11 ?_)
       refine SA.regionT ok mixed (.take 0 (.take 1 (.take 2 (.take 3 (.take 4 (.take 5 (.take 6 (.take 7 (.take 8 (.take 9 (.take 10 (.br 11 (.take 12 (.br 13 .done .nil)) .nil)))))))))))) [13] lv65 (by kernel_rfl) (fun R hR => ?_); simp only [go_sem, strip])
    | ((with_reducible refine SA.at 12 ?_)
       refine SA.regionT ok mixed (.take 0 (.take 1 (.take 2 (.take 3 (.take 4 (.take 5 (.take 6 (.take 7 (.take 8 (.take 9 (.take 10 (.take 11 (.take 12 (.take 13 (.br 14 .done .nil))))))))))))))) [14] lv65 (by kernel_rfl) (fun R hR => ?_); simp only [go_sem, strip])
    | ((with_reducible refine SA.at 14 ?_)
       have hI := vis53 hin hb82
       refine SA.regionT ok mixed (.take 0 (.take 1 (.take 2 (.take 3 (.take 4 (.take 5 (.take 6 (.take 7 (.take 8 (.take 9 (.take 10 (.br 11 (.take 12 (.br 13 .done .nil)) .nil)))))))))))) [13] lv65 (by kernel_rfl) (fun R hR => ?_); simp only [go_sem, strip])
    | ((with_reducible refine SA.at 16 ?_)
       refine SA.regionT ok mixed (.take 0 (.take 1 (.take 2 (.take 3 (.take 4 (.take 5 (.take 6 (.take 7 (.take 8 (.br 9 .done .nil)))))))))) [9] lv65 (by kernel_rfl) (fun R hR => ?_); simp only [go_sem, strip])
    | ((with_reducible refine SA.regionN ok (by kernel_rfl) lv65 ?_); intro R hR; simp only [go_sem, strip])
    | ((with_reducible refine SA.condAt 16 rfl (fun hb16 => ?_) (fun hb16 => ?_))
       all_goals
         try simp only [decide_eq_true_eq, decide_eq_false_iff_not, Bool.not_eq_eq_eq_not, Bool.not_true, Bool.not_false, ne_eq, decide_not, Bool.not_eq_true'] at hb16)
    | ((with_reducible refine SA.condAt 34 rfl (fun hb34 => ?_) (fun hb34 => ?_))
       all_goals
         try simp only [decide_eq_true_eq, decide_eq_false_iff_not, Bool.not_eq_eq_eq_not, Bool.not_true, Bool.not_false, ne_eq, decide_not, Bool.not_eq_true'] at hb34)
    | ((with_reducible refine SA.condAt 48 rfl (fun hb48 => ?_) (fun hb48 => ?_))
       all_goals
         try simp only [decide_eq_true_eq, decide_eq_false_iff_not, Bool.not_eq_eq_eq_not, Bool.not_true, Bool.not_false, ne_eq, decide_not, Bool.not_eq_true'] at hb48)
    | ((with_reducible refine SA.condAt 82 rfl (fun hb82 => ?_) (fun hb82 => ?_))
       all_goals
         try simp only [decide_eq_true_eq, decide_eq_false_iff_not, Bool.not_eq_eq_eq_not, Bool.not_true, Bool.not_false, ne_eq, decide_not, Bool.not_eq_true'] at hb82)
    | ((with_reducible refine SA.condAt 99 rfl (fun hb99 => ?_) (fun hb99 => ?_))
       all_goals
         try simp only [decide_eq_true_eq, decide_eq_false_iff_not, Bool.not_eq_eq_eq_not, Bool.not_true, Bool.not_false, ne_eq, decide_not, Bool.not_eq_true'] at hb99)
    | ((with_reducible refine SA.condAt 118 rfl (fun hb118 => ?_) (fun hb118 => ?_))
       all_goals
         try simp only [decide_eq_true_eq, decide_eq_false_iff_not, Bool.not_eq_eq_eq_not, Bool.not_true, Bool.not_false, ne_eq, decide_not, Bool.not_eq_true'] at hb118)
    | ((with_reducible refine SA.condAt 125 rfl (fun hb125 => ?_) (fun hb125 => ?_))
       all_goals
         try simp only [decide_eq_true_eq, decide_eq_false_iff_not, Bool.not_eq_eq_eq_not, Bool.not_true, Bool.not_false, ne_eq, decide_not, Bool.not_eq_true'] at hb125)
    | ((with_reducible refine SA.condAt 134 rfl (fun hb134 => ?_) (fun hb134 => ?_))
       all_goals
         try simp only [decide_eq_true_eq, decide_eq_false_iff_not, Bool.not_eq_eq_eq_not, Bool.not_true, Bool.not_false, ne_eq, decide_not, Bool.not_eq_true'] at hb134)
    | ((with_reducible refine SA.condAt 144 rfl (fun hb144 => ?_) (fun hb144 => ?_))
       all_goals
         try simp only [decide_eq_true_eq, decide_eq_false_iff_not, Bool.not_eq_eq_eq_not, Bool.not_true, Bool.not_false, ne_eq, decide_not, Bool.not_eq_true'] at hb144)
    | ((with_reducible refine SA.condAt 152 rfl (fun hb152 => ?_) (fun hb152 => ?_))
       all_goals
         try simp only [decide_eq_true_eq, decide_eq_false_iff_not, Bool.not_eq_eq_eq_not, Bool.not_true, Bool.not_false, ne_eq, decide_not, Bool.not_eq_true'] at hb152)
    | ((with_reducible refine SA.condAt 165 rfl (fun hb165 => ?_) (fun hb165 => ?_))
       all_goals
         try simp only [decide_eq_true_eq, decide_eq_false_iff_not, Bool.not_eq_eq_eq_not, Bool.not_true, Bool.not_false, ne_eq, decide_not, Bool.not_eq_true'] at hb165)
    | ((with_reducible first | refine ctrK.normal ?_ | refine ctrK.ret ?_)
       simp only [go_sem, resA, resV, backK, seval]
       first
         | (have q : _ = _ := hb165
            refine ⟨rfl, congrArg (fun d : Did => some d.v) ?_⟩
            rw [doVars57 hb16 hb34 hb48 hb82 hb118 hb125 hb134 hb152]
            exact (if_pos hb165).symm)
         | (have q : ¬_ := hb165
            refine ⟨rfl, congrArg (fun d : Did => some d.v) ?_⟩
            rw [doVars57 hb16 hb34 hb48 hb82 hb118 hb125 hb134 hb152]
            exact (if_neg hb165).symm)
         | (have q : _ = _ := hb99
            refine ⟨rfl, congrArg (fun d : Did => some d.v) ?_⟩
            rw [doVars53 hb16 hb34 hb48 hb82]
            exact (if_pos hb99).symm)
         | (have q : ¬_ := hb99
            refine ⟨rfl, congrArg (fun d : Did => some d.v) ?_⟩
            rw [doVars53 hb16 hb34 hb48 hb82]
            exact (if_neg hb99).symm)
         | (have q : ¬_ := hb144
            exact ⟨rfl, congrArg (fun d : Did => some d.v) (show _ = doVars d g x from Eq.symm ((if_neg hb16).trans ((if_neg hb34).trans ((if_neg hb48).trans ((if_neg hb82).trans ((if_neg hb118).trans ((if_neg hb125).trans ((if_pos hb134).trans (if_pos hb144)))))))))⟩)
         | (have q := hb144
            exact ⟨rfl, congrArg (fun d : Did => some d.v) (show _ = doVars d g x from Eq.symm ((if_neg hb16).trans ((if_neg hb34).trans ((if_neg hb48).trans ((if_neg hb82).trans ((if_neg hb118).trans ((if_neg hb125).trans ((if_pos hb134).trans (if_neg (fun q => q hb144))))))))))⟩)
         | (exact ⟨rfl, congrArg (fun d : Did => some d.v) (show _ = doVars d g x from Eq.symm (if_pos hb16))⟩)
         | (exact ⟨rfl, congrArg (fun d : Did => some d.v) (show _ = doVars d g x from Eq.symm ((if_neg hb16).trans (if_pos hb34)))⟩)
         | (exact ⟨rfl, congrArg (fun d : Did => some d.v) (show _ = doVars d g x from Eq.symm ((if_neg hb16).trans ((if_neg hb34).trans (if_pos hb48))))⟩)
         | (exact ⟨rfl, congrArg (fun d : Did => some d.v) (show _ = doVars d g x from Eq.symm ((if_neg hb16).trans ((if_neg hb34).trans ((if_neg hb48).trans ((if_neg hb82).trans (if_pos hb118))))))⟩)
         | (exact ⟨rfl, congrArg (fun d : Did => some d.v) (show _ = doVars d g x from Eq.symm ((if_neg hb16).trans ((if_neg hb34).trans ((if_neg hb48).trans ((if_neg hb82).trans ((if_neg hb118).trans (if_pos hb125)))))))⟩)
         | (exact ⟨rfl, congrArg (fun d : Did => some d.v) (show _ = doVars d g x from Eq.symm ((if_neg hb16).trans ((if_neg hb34).trans ((if_neg hb48).trans ((if_neg hb82).trans ((if_neg hb118).trans ((if_neg hb125).trans ((if_neg hb134).trans (if_neg hb152)))))))))⟩))

end Go.Eng.Tryz
namespace Go.Eng.Tryz
open Go.RowKit Go.Eng
set_option linter.unusedSimpArgs false
set_option linter.unusedVariables false
set_option maxHeartbeats 0
set_option maxRecDepth 20000

theorem zeroGo_at2 : tab.zero 38 = zeroGor.v := rfl

def lv64 : List (Nat × List Nat) := [(0, [2, 4, 5, 7, 8]), (1, [2, 4, 5, 7, 8, 16]), (2, [5, 8]), (3, [8]), (4, [2, 4, 5, 7, 8, 9]), (5, [2, 5, 7, 8, 9, 10]), (6, [2, 5, 7, 8, 9, 10, 11]), (7, [2, 5, 7, 8, 9, 10, 11, 12]), (8, [2, 5, 7, 8, 9, 10, 11, 12, 34]), (9, [2, 5, 7, 8, 9, 10, 11, 12]), (10, [2, 5, 7, 8, 9, 10, 11, 12]), (11, [2, 5, 7, 8, 9]), (12, [2, 5, 7, 8, 9]), (13, [5, 8, 9]), (14, [5, 8]), (15, [8])]
-- scarab/scarabref08.spawn
theorem spawn_ctr (p : Prg) (d : Did) (g : Int) (x : Instr) (hs : d.s.Shape) (hg : 0 ≤ g ∧ g < 6) (hc0 : 0 ≤ d.s.count) (ha : x.a < 8) (hb : 0 ≤ x.b ∧ x.b < p.funcs.length) (hpm : 0 ≤ (p.funcs.getD x.b.toNat default).params ∧ (p.funcs.getD x.b.toNat default).params ≤ 8) (hx : 0 < (p.funcs.getD x.b.toNat default).params → 0 ≤ x.c ∧ x.c + (p.funcs.getD x.b.toNat default).params ≤ 8) : Ctr Go.Proofs.Tryz.prog tab 64 [26, 110, 3, 105] [110] [p.v, d.v, .int g, x.v] [(doSpawn p d g x).v] := by
  have hs1 := hs.vars
  have hs2 := hs.owner
  have hs3 := hs.chans
  have hs4 := hs.bufs
  have hs5 := hs.gos
  have hs6 := hs.regs
  have h8 : (d.s.gos.getD g.toNat default).regs.length = 8 := hs6 _ (getD_mem _ (by omega))
  refine Ctr.body ok Go.Proofs.Tryz.func64 rfl rfl 71 rfl [.cell 8 110] rfl (by simp [fromVs]) ?_
  simp only [fromVs, fromV, args0, V.toList_list, V.toInt_int, V.toBool_bool, Nat.zero_add, Nat.reduceAdd, ty3, ty26, ty105, ty110]
  repeat' first
    | ((with_reducible refine SARA.told 5 6 ?_)
       rw [getD_fncs (by omega)])
    | ((with_reducible refine SART.told 10 5 ?_)
       rw [wrap64_ok (n := x.c + (i : Int)) (by omega) (by omega)])
    | ((with_reducible refine SARA.told 12 2 ?_)
       rw [wrap64_ok (n := d.s.count + 1) (by omega) (by omega)])
    | ((with_reducible first | refine SARA.do fun R1 hR1 => ?_ | refine SART.do fun R1 hR1 => ?_ | refine SARB.keep fun R1 hR1 => ?_ | refine SARB.any fun R1 hR1 => ?_); (simp only [go_sem, seval, -List.reduceReplicate, zeroGo_at]); (repeat' with_reducible refine And.intro ?_ ?_); all_goals first | (refine hR1 _ ?_; clear hR1 R1) | ((first | refine ⟨_, _, rfl, .inl ⟨_, CallQ.ctr ok (set_ctr _ g _ _ ?_ hg ha) (by first | rfl | (simp [go_sem]; done) | fail) rfl, ?_⟩⟩); all_goals ((try simp only [go_sem, seval, -List.reduceReplicate, zeroGo_at]); (repeat' with_reducible refine And.intro ?_ ?_); all_goals first | (refine hR1 _ ?_; clear hR1 R1) | omega | rfl | decide | assumption | (intro _; omega) | (simp; done) | (simp [-List.getD_eq_getElem?_getD]; omega) | exact hcode _ | (intro _; exact hcode _) | exact hsl _ | (intro _; exact hsl _) | (simp [-List.getD_eq_getElem?_getD, roomFor, maxLen, by3, by49, by52, by55, by41]; omega) | (simp [-List.getD_eq_getElem?_getD, roomFor, maxLen, by3, by49, by52, by55, by41]; done) | exact shape_gos hs _ _ (by simp [spawnRegs]))) | omega | rfl | decide | assumption | (intro _; omega) | (simp; done) | (simp [-List.getD_eq_getElem?_getD]; omega) | exact hcode _ | (intro _; exact hcode _) | exact hsl _ | (intro _; exact hsl _) | (simp [-List.getD_eq_getElem?_getD, roomFor, maxLen, by3, by49, by52, by55, by41]; omega) | (simp [-List.getD_eq_getElem?_getD, roomFor, maxLen, by3, by49, by52, by55, by41]; done) | exact shape_gos hs _ _ (by simp [spawnRegs]))
    | ((with_reducible refine SART.done ?_); refine hR _ ?_; clear hR R; try simp only [go_sem, lv64, lvOf, Nat.reduceBEq, Option.getD_some])
    | (with_reducible first | refine SART.br ?_ ?_ | exact SARL.nil | refine SARL.cons ?_ ?_)
    | ((with_reducible refine SARA.nil ?_); refine hR _ ?_; clear hR R; try simp only [go_sem, lv64, lvOf, Nat.reduceBEq, Option.getD_some])
    | (with_reducible first | refine thenK.normal ?_ | refine SA.seq ?_ | refine SA.skip ?_ | refine SA.block ?_ | refine blockK.normal ?_ | refine SA.exit ?_ | refine blockK.hit ?_ | refine blockK.miss (by decide) ?_ | refine thenK.exit ?_ | refine loopK.exit ?_ | refine SA.ret ?_ | refine thenK.ret ?_ | refine blockK.ret ?_ | refine loopK.ret ?_ | refine SA.scope ?_ | refine scopeK.normal ?_ | refine scopeK.exit ?_ | refine scopeK.ret ?_ | refine SA.label ?_)
    | ((with_reducible refine SA.at 10 ?_)
       have hxx := hx (by omega)
       refine SA.regionT ok mixed (.take 0 (.take 1 (.take 2 (.take 3 (.take 4 (.take 5 (.take 6 (.take 7 (.take 8 (.take 9 (.take 10 (.take 11 (.take 12 (.take 13 (.br 14 .done .nil))))))))))))))) [14] lv64 (by kernel_rfl) (fun R hR => ?_); simp only [go_sem, strip])
    | ((with_reducible refine SA.regionN ok (by kernel_rfl) lv64 ?_); intro R hR; simp only [go_sem, strip])
    | ((with_reducible refine SA.condAt 16 rfl (fun hb16 => ?_) (fun hb16 => ?_))
       all_goals
         try simp only [decide_eq_true_eq, decide_eq_false_iff_not] at hb16)
    | ((with_reducible refine SA.condAt 34 rfl (fun hb34 => ?_) (fun hb34 => ?_))
       all_goals
         try simp only [decide_eq_true_eq, decide_eq_false_iff_not] at hb34)
    | ((with_reducible refine SA.atLoop ?_)
       refine SA.weaken (St.le.of_eq (by simp only [spawnRegs_zero]; rfl)) (SA.loop (fun n τ => ∃ (i : Nat), n = (p.funcs.getD x.b.toNat default).params.toNat - i ∧ ((i : Int) ≤ (p.funcs.getD x.b.toNat default).params) ∧ τ = { tm := [(2, true, .int .i64 g), (5, true, .ptr 1 [] 110), (7, true, .ptr 2 [] 105), (8, true, .ptr 3 [] 110), (9, true, .int .i64 d.s.count), (10, true, .ptr 4 [] 100), (11, true, .ptr 5 [] 38), (12, true, .int .i64 i)], ob := [.var 26 (.data 26 p.v), .var 110 (.data 110 d.v), .var 105 (.data 105 x.v), .var 110 (.data 110 (tab.zero 110)), .var 100 (.data 100 (p.funcs.getD x.b.toNat default).v), .var 38 (.data 38 (Gor.v ⟨1, x.b, 0, 0, spawnRegs d.s g x.c i⟩))], out := [], nt := 71 }) ((p.funcs.getD x.b.toNat default).params.toNat) ⟨0, rfl, by omega, rfl⟩ ?_)
       rintro n τ ⟨i, hn, hi, rfl⟩)
    | ((with_reducible refine loopK.round ?_)
       first
         | (have hw := wrap_succ (n := i) (m := 256) (by omega) (by decide)
            have hsp : (spawnRegs d.s g x.c i).set i ((d.s.gos.getD g.toNat default).regs.getD (x.c + (i : Int)).toNat 0) = spawnRegs d.s g x.c (i + 1) := spawnRegs_succ d.s g x.c (by omega)
            refine loopK.normal ((p.funcs.getD x.b.toNat default).params.toNat - (i + 1)) _ (by omega) (St.le.of_eq (by simp only [hw, hsp])) ⟨i + 1, rfl, by omega, rfl⟩))
    | ((with_reducible first | refine ctrK.normal ?_ | refine ctrK.ret ?_)
       simp only [go_sem, resA, resV, backK, seval]
       first
         | (have q := hb16
            exact ⟨rfl, congrArg (fun d : Did => some d.v) (show _ = doSpawn p d g x from Eq.symm (if_pos hb16))⟩)
         | (have e : (i : Int) = (p.funcs.getD x.b.toNat default).params := by omega
            have e2 : i = (p.funcs.getD x.b.toNat default).params.toNat := by omega
            subst e2
            exact ⟨rfl, congrArg (fun d : Did => some d.v) (show _ = doSpawn p d g x from Eq.symm (if_neg (show ¬6 ≤ d.s.count by omega)))⟩))

end Go.Eng.Tryz
