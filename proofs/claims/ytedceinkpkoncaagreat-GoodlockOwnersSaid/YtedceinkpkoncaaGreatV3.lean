/- A part of the proof: walks through the program's functions, and what they compute. -/
import Derived.Test.YtedceinkpkoncaaGreatSW19
import Derived.Test.YtedceinkpkoncaaGreatM2
namespace Go.Eng.Tryz
open Go.RowKit Go.Eng
set_option linter.unusedSimpArgs false
set_option linter.unusedVariables false
set_option maxHeartbeats 0
set_option maxRecDepth 20000

def lv79 : List (Nat × List Nat) := [(0, [0, 1, 2, 3]), (1, [0, 1, 2, 3, 9]), (2, [0, 1, 2, 3, 9, 10]), (3, [0, 1, 2, 3, 9, 10, 11]), (4, [0, 1, 2, 3, 9, 10, 11, 16]), (5, [0, 1, 2, 3, 9, 10, 11]), (6, [0, 1, 2, 3, 9, 10, 11, 12]), (7, [0, 1, 2, 3, 9, 10, 11, 12, 36]), (8, [0, 1, 2, 3, 9, 11, 12]), (9, [0, 1, 2, 3, 9, 10, 11, 12]), (10, [0, 1, 2, 3, 9, 10, 11, 12, 62]), (11, [0, 1, 2, 3, 9, 11, 12]), (12, [0, 1, 2, 3, 9, 10, 11, 12]), (13, [0, 1, 2, 3, 9, 10, 11]), (14, [1, 2, 3, 9, 75]), (15, [9]), (16, [8])]
-- scarab/scarabref08.add
theorem add_ctr (l : List Access) (k m : Int) (w : Bool) (hl : l.length ≤ 16) : Ctr Go.Proofs.Tryz.prog tab 79 [140, 3, 3, 4] [140] [.list (l.map Access.v), .int k, .int m, .bool w] [.list ((add k m w l).map Access.v)] := by
  have hmx : 256 ≤ maxLen := by decide
  have hcode : True → True := id
  have hsl : True → True := id
  refine Ctr.body ok Go.Proofs.Tryz.func79 rfl rfl 84 rfl [.tmp 8] rfl (by simp [fromVs]) ?_
  simp only [fromVs, fromV, args0, V.toList_list, V.toInt_int, V.toBool_bool, Nat.zero_add, Nat.reduceAdd, ty3, ty4, ty140]
  repeat' first
    | ((with_reducible refine SARA.told 6 4 ?_)
       rw [getD_map Access.v l (by omega)])
    | ((with_reducible refine SARA.do fun R1 hR1 => ?_); (simp only [go_sem, seval, -List.reduceReplicate, zero52, z52, z3, z4]); (repeat' with_reducible refine And.intro ?_ ?_); all_goals first | (refine hR1 _ ?_; clear hR1 R1) | omega | rfl | decide | assumption | (intro _; omega) | (simp; done) | (simp [-List.getD_eq_getElem?_getD]; omega) | exact hcode _ | (intro _; exact hcode _) | exact hsl _ | (intro _; exact hsl _) | (simp [-List.getD_eq_getElem?_getD, roomFor, maxLen, by3, by49, by52, by55, by41]; omega) | (simp [-List.getD_eq_getElem?_getD, roomFor, maxLen, by3, by49, by52, by55, by41]; done))
    | ((with_reducible refine SARA.nil ?_); refine hR _ ?_; clear hR R; try simp only [go_sem, lv79, lvOf, Nat.reduceBEq, Option.getD_some])
    | (with_reducible first | refine thenK.normal ?_ | refine SA.seq ?_ | refine SA.skip ?_ | refine SA.block ?_ | refine blockK.normal ?_ | refine SA.exit ?_ | refine blockK.hit ?_ | refine blockK.miss (by decide) ?_ | refine thenK.exit ?_ | refine loopK.exit ?_ | refine SA.ret ?_ | refine thenK.ret ?_ | refine blockK.ret ?_ | refine loopK.ret ?_ | refine SA.scope ?_ | refine scopeK.normal ?_ | refine scopeK.exit ?_ | refine scopeK.ret ?_ | refine SA.label ?_)
    | ((with_reducible refine SA.at 6 ?_)
       have hq := addTo_len' k m w l i
       (with_reducible refine SA.regionN ok (by kernel_rfl) lv79 ?_); intro R hR; simp only [go_sem, strip])
    | ((with_reducible refine SA.at 14 ?_)
       have hq := addTo_len' k m w l i
       (with_reducible refine SA.regionN ok (by kernel_rfl) lv79 ?_); intro R hR; simp only [go_sem, strip])
    | ((with_reducible refine SA.regionN ok (by kernel_rfl) lv79 ?_); intro R hR; simp only [go_sem, strip])
    | ((with_reducible refine SA.condAt 16 rfl (fun hb16 => ?_) (fun hb16 => ?_))
       all_goals
         try simp [-List.getD_eq_getElem?_getD] at hb16
         try (exfalso; omega))
    | ((with_reducible refine SA.condAt 36 rfl (fun hb36 => ?_) (fun hb36 => ?_))
       all_goals
         try simp [-List.getD_eq_getElem?_getD] at hb36
         try (exfalso; omega))
    | ((with_reducible refine SA.condAt 62 rfl (fun hb62 => ?_) (fun hb62 => ?_))
       all_goals
         try simp [-List.getD_eq_getElem?_getD] at hb62
         try (exfalso; omega))
    | ((with_reducible refine SA.condAt 75 rfl (fun hb75 => ?_) (fun hb75 => ?_))
       all_goals
         try simp [-List.getD_eq_getElem?_getD] at hb75
         try (exfalso; omega))
    | ((with_reducible refine SA.atLoop ?_)
       refine SA.weaken ((St.le.own (t := 9) 52 rfl).trans ((St.le.keep [0, 1, 2, 3, 9, 10, 11]).trans (St.le.of_eq (by first | rfl | (simp; done) | fail)))) (SA.loop (fun n τ => ∃ (i : Nat), n = l.length - i ∧ (i ≤ l.length) ∧ τ = { tm := [(0, true, .fs 52 (l.map Access.v) false), (1, true, .int .i64 k), (2, true, .int .i64 m), (3, true, .bool w), (9, true, .sl 0 52 0 (addTo k m w l i).1.length false), (10, true, .bool (addTo k m w l i).2), (11, true, .int .i64 i)], ob := [.row 52 ((addTo k m w l i).1.map Access.v)], out := [], nt := 84 }) (l.length) ⟨0, rfl, by omega, rfl⟩ ?_)
       rintro n τ ⟨i, hn, hi, rfl⟩)
    | ((with_reducible refine loopK.round ?_)
       first
         | (have q : (_ ∧ _) ∧ _ := hb36
            have hlt : i < l.length := by omega
            have hw := wrap_succ (n := i) (m := 256) (by omega) (by decide)
            have e := (addTo_succ k m w l hlt).trans (if_pos hb36)
            refine loopK.normal (l.length - (i + 1)) _ (by omega) ((St.le.cut 1 rfl).trans (St.le.of_eq (by simp [-List.getD_eq_getElem?_getD, e, hw, Access.v, List.take_of_length_le, Nat.add_assoc, Bool.or_comm]))) ⟨i + 1, rfl, hlt, rfl⟩)
         | (have q : _ ∧ _ := hb62
            have hlt : i < l.length := by omega
            have hw := wrap_succ (n := i) (m := 256) (by omega) (by decide)
            have e := (addTo_succ k m w l hlt).trans ((if_neg (fun q => absurd (hb36 q.1.1 q.1.2) (fun h => h q.2))).trans (if_pos hb62))
            refine loopK.normal (l.length - (i + 1)) _ (by omega) ((St.le.cut 1 rfl).trans (St.le.of_eq (by simp [-List.getD_eq_getElem?_getD, e, hw, Access.v, List.take_of_length_le, Nat.add_assoc]))) ⟨i + 1, rfl, hlt, rfl⟩)
         | (have hlt : i < l.length := by omega
            have hw := wrap_succ (n := i) (m := 256) (by omega) (by decide)
            have e := (addTo_succ k m w l hlt).trans ((if_neg (fun q => absurd (hb36 q.1.1 q.1.2) (fun h => h q.2))).trans (if_neg (fun q => q.2.elim (fun h => absurd h (Int.not_lt.2 (hb62 q.1).1)) (fun h => absurd h.2 (Int.not_lt.2 ((hb62 q.1).2 h.1))))))
            refine loopK.normal (l.length - (i + 1)) _ (by omega) ((St.le.cut 1 rfl).trans (St.le.of_eq (by simp [-List.getD_eq_getElem?_getD, e, hw, Access.v, List.take_of_length_le, Nat.add_assoc]))) ⟨i + 1, rfl, hlt, rfl⟩))
    | ((with_reducible first | refine ctrK.normal ?_ | refine ctrK.ret ?_)
       simp only [go_sem, resA, resV, backK, seval]
       first
         | (have q : _ = true := hb75
            have e : i = l.length := by omega
            subst e
            refine ⟨rfl, ?_⟩
            rw [add_end, show addOut k m w (addTo k m w l l.length) = (addTo k m w l l.length).1 from if_pos hb75]
            simp [List.take_of_length_le])
         | (have e : i = l.length := by omega
            subst e
            refine ⟨rfl, ?_⟩
            rw [add_end, show addOut k m w (addTo k m w l l.length) = (addTo k m w l l.length).1 ++ [⟨k, m, w⟩] from if_neg (by rw [hb75]; simp)]
            simp [List.take_of_length_le, Access.v]))

end Go.Eng.Tryz
namespace Go.Eng.Tryz
open Go.RowKit Go.Eng
set_option linter.unusedSimpArgs false
set_option linter.unusedVariables false
set_option maxHeartbeats 0
set_option maxRecDepth 20000

theorem add_nil (k n : Int) (w : Bool) : add k n w [] = [⟨k, n, w⟩] := rfl
theorem addChans_succ (q : Sel) {j : Nat} (h : j < q.cases.length) (l : List Access) : addChans q (j + 1) l = add 3 (q.cases.getD j default).chan true (addChans q j l) := by
  unfold addChans
  rw [List.take_succ_eq_append_getElem h, List.foldl_append]
  simp [List.getD_eq_getElem?_getD, h]
theorem addChans_len (q : Sel) (l : List Access) : ∀ j : Nat, (addChans q j l).length ≤ l.length + j
  | 0 => by simp [addChans]
  | j + 1 => by
    by_cases h : j < q.cases.length
    · rw [addChans_succ q h]
      have := add_len 3 (q.cases.getD j default).chan true (addChans q j l)
      have := addChans_len q l j
      omega
    · have e : addChans q (j + 1) l = addChans q j l := by unfold addChans; rw [List.take_of_length_le (by omega), List.take_of_length_le (by omega)]
      rw [e]
      have := addChans_len q l j
      omega
theorem add_four (g : Int) (w : Bool) : add 4 0 w [(⟨5, g, true⟩ : Access)] = [⟨4, 0, w⟩, ⟨5, g, true⟩] := by simp [add]
def touchIx : Nat → Nat
  | 0 => 3
  | j + 1 => 5 + j
def touchOb (p : Prg) (s : Stt) (x : Instr) (q : Sel) (l : List Access) : Nat → List Obj
  | 0 => [.var 26 (.data 26 p.v), .var 41 (.data 41 s.v), .var 105 (.data 105 x.v), .row 52 ((addChans q 0 l).map Access.v), .var 103 (.data 103 q.v)]
  | j + 1 => touchOb p s x q l j ++ [.row 52 ((addChans q (j + 1) l).map Access.v)]
theorem addChans_zero (q : Sel) (l : List Access) : addChans q 0 l = l := rfl

def lv66 : List (Nat × List Nat) := [(0, [2, 3, 4]), (1, [2, 3, 4, 7]), (2, [2, 3, 4, 7, 8]), (3, [2, 3, 4, 7, 8, 21]), (4, [2, 3, 4, 7, 8, 21, 22]), (5, [8]), (6, [2, 3, 4, 7, 8, 21, 28]), (7, [8]), (8, [2, 3, 4, 7, 8, 21, 34]), (9, [8]), (10, [2, 3, 4, 7, 8, 21, 40]), (11, [2, 3, 4, 7, 8, 21, 40]), (12, [8]), (13, [2, 3, 4, 7, 8, 21, 47]), (14, [2, 3, 4, 7, 8, 21, 47]), (15, [8]), (16, [2, 3, 4, 7, 8, 21, 54]), (17, [8]), (18, [2, 3, 4, 7, 8, 21, 60]), (19, [2, 3, 4, 7, 8, 21, 60]), (20, [2, 3, 4, 7, 8, 21, 60]), (21, [8]), (22, [2, 3, 4, 7, 8, 21, 68]), (23, [8]), (24, [2, 3, 4, 7, 8, 21, 74]), (25, [8, 9]), (26, [8, 9, 10]), (27, [8, 9, 10, 94]), (28, [8, 9, 10]), (29, [8, 9, 10]), (30, [2, 4, 7, 8, 21, 105]), (31, [4, 8]), (32, [4, 8, 111]), (33, [8]), (34, [2, 4, 7, 8, 21, 116]), (35, [2, 4, 7, 8]), (36, [4, 8, 11]), (37, [8, 11, 135]), (38, [8]), (39, [8, 139]), (40, [8]), (41, [6])]
-- scarab/scarabref08.Touch
theorem touch_ctr (p : Prg) (s : Stt) (g : Int) (hp : p.Fit) (hr : rightP p = true) (hw : Wf p s) (hg : 0 ≤ g ∧ g < s.count) : Ctr Go.Proofs.Tryz.prog tab 66 [26, 41, 3] [140] [p.v, s.v, .int g] [.list ((touch p s g).map Access.v)] := by
  have hpp := hp
  have hok := Prg.ok hr
  have hs := hw.shape
  have hcnt := hw.count
  have hcode := p.code_len hp
  have hsl := p.sels_len hp
  obtain ⟨hp1, hp2, hp3, hp4⟩ := hp
  have hs1 := hs.vars
  have hs2 := hs.owner
  have hs3 := hs.chans
  have hs5 := hs.gos
  have hsz := hok.sizes
  unfold Sizes at hsz
  have hmx : 256 ≤ maxLen := by decide
  have hg6 : 0 ≤ g ∧ g < 6 := by omega
  have hgi := hw.gos g hg.1 hg.2
  obtain ⟨hf0, hf1, hpc0, hpc1, h8⟩ := hgi
  have hgi := hw.gos g hg.1 hg.2
  have hrt : instrErr p (p.funcs.getD (s.gos.getD g.toNat default).func.toNat default) (instrAt p s g) = 0 := hw.right hok hg.1 hg.2
  have hrg := hok.regs (s.gos.getD g.toNat default).func.toNat
  refine Ctr.body ok Go.Proofs.Tryz.func66 rfl rfl 144 rfl [.tmp 6] rfl (by simp [fromVs]) ?_
  simp only [fromVs, fromV, args0, V.toList_list, V.toInt_int, V.toBool_bool, Nat.zero_add, Nat.reduceAdd, ty3, ty26, ty41]
  repeat' first
    | ((with_reducible refine SART.told 25 13 ?_)
       rw [getD_sels (by omega)])
    | ((with_reducible first | refine SARA.do fun R1 hR1 => ?_ | refine SARQ.do fun R1 hR1 => ?_ | refine SART.do fun R1 hR1 => ?_ | refine SARB.keep fun R1 hR1 => ?_ | refine SARB.any fun R1 hR1 => ?_); (simp only [go_sem, seval, -List.reduceReplicate, add_nil, add_four, addChans_zero]); (repeat' with_reducible refine And.intro ?_ ?_); all_goals first | (refine hR1 _ ?_; clear hR1 R1) | ((first | refine ⟨_, _, rfl, _, CallQ.ctr ok (instr8_ctr p s g hpp hs hg6 hgi) (by first | rfl | (simp [go_sem, List.take_of_length_le, List.length_map, add_nil, add_four]; done) | fail) rfl, ?_⟩ | refine ⟨_, _, rfl, .inl ⟨_, CallQ.ctr ok (instr8_ctr p s g hpp hs hg6 hgi) (by first | rfl | (simp [go_sem, List.take_of_length_le, List.length_map, add_nil, add_four]; done) | fail) rfl, ?_⟩⟩ | refine ⟨_, _, rfl, _, CallQ.ctr ok (at_ctr p s g hpp hs hg6 hgi) (by first | rfl | (simp [go_sem, List.take_of_length_le, List.length_map, add_nil, add_four]; done) | fail) rfl, ?_⟩ | refine ⟨_, _, rfl, .inl ⟨_, CallQ.ctr ok (at_ctr p s g hpp hs hg6 hgi) (by first | rfl | (simp [go_sem, List.take_of_length_le, List.length_map, add_nil, add_four]; done) | fail) rfl, ?_⟩⟩ | refine ⟨_, _, rfl, .inr (CallE.ctr ok (add_ctr [] _ _ _ (by simp)) (by first | rfl | (simp [go_sem, List.take_of_length_le, List.length_map, add_nil, add_four]; done) | fail) ?_)⟩ | refine ⟨_, _, rfl, .inr (CallE.ctr ok (add_ctr [(⟨5, g, true⟩ : Access)] _ _ _ (by simp)) (by first | rfl | (simp [go_sem, List.take_of_length_le, List.length_map, add_nil, add_four]; done) | fail) ?_)⟩ | refine ⟨_, _, rfl, .inr (CallE.ctr ok (add_ctr [(⟨4, 0, true⟩ : Access), ⟨5, g, true⟩] _ _ _ (by simp)) (by first | rfl | (simp [go_sem, List.take_of_length_le, List.length_map, add_nil, add_four]; done) | fail) ?_)⟩ | refine ⟨_, _, rfl, .inr (CallE.ctr ok (add_ctr [(⟨4, 0, false⟩ : Access), ⟨5, g, true⟩] _ _ _ (by simp)) (by first | rfl | (simp [go_sem, List.take_of_length_le, List.length_map, add_nil, add_four]; done) | fail) ?_)⟩ | refine ⟨_, _, rfl, .inr (CallE.ctr ok (add_ctr (addChans sl 0 [(⟨5, g, true⟩ : Access)]) 3 (sl.cases.getD 0 default).chan true (hal 0 (by decide))) (by first | rfl | (simp [go_sem, List.take_of_length_le, List.length_map, add_nil, add_four]; done) | fail) ?_)⟩ | refine ⟨_, _, rfl, .inr (CallE.ctr ok (add_ctr (addChans sl 1 [(⟨5, g, true⟩ : Access)]) 3 (sl.cases.getD 1 default).chan true (hal 1 (by decide))) (by first | rfl | (simp [go_sem, List.take_of_length_le, List.length_map, add_nil, add_four]; done) | fail) ?_)⟩ | refine ⟨_, _, rfl, .inr (CallE.ctr ok (add_ctr (addChans sl 2 [(⟨5, g, true⟩ : Access)]) 3 (sl.cases.getD 2 default).chan true (hal 2 (by decide))) (by first | rfl | (simp [go_sem, List.take_of_length_le, List.length_map, add_nil, add_four]; done) | fail) ?_)⟩ | refine ⟨_, _, rfl, .inr (CallE.ctr ok (add_ctr (addChans sl 3 [(⟨5, g, true⟩ : Access)]) 3 (sl.cases.getD 3 default).chan true (hal 3 (by decide))) (by first | rfl | (simp [go_sem, List.take_of_length_le, List.length_map, add_nil, add_four]; done) | fail) ?_)⟩); all_goals ((try simp only [go_sem, seval, -List.reduceReplicate, add_nil, add_four, addChans_zero]); (repeat' with_reducible refine And.intro ?_ ?_); all_goals first | (refine hR1 _ ?_; clear hR1 R1) | omega | rfl | decide | assumption | (intro _; omega) | (simp; done) | (simp [-List.getD_eq_getElem?_getD]; omega) | exact hcode _ | (intro _; exact hcode _) | exact hsl _ | (intro _; exact hsl _) | (simp [-List.getD_eq_getElem?_getD, roomFor, maxLen, by3, by49, by52, by55, by41]; omega) | (simp [-List.getD_eq_getElem?_getD, roomFor, maxLen, by3, by49, by52, by55, by41]; done))) | omega | rfl | decide | assumption | (intro _; omega) | (simp; done) | (simp [-List.getD_eq_getElem?_getD]; omega) | exact hcode _ | (intro _; exact hcode _) | exact hsl _ | (intro _; exact hsl _) | (simp [-List.getD_eq_getElem?_getD, roomFor, maxLen, by3, by49, by52, by55, by41]; omega) | (simp [-List.getD_eq_getElem?_getD, roomFor, maxLen, by3, by49, by52, by55, by41]; done))
    | ((with_reducible refine SART.done ?_); refine hR _ ?_; clear hR R; try simp only [go_sem, lv66, lvOf, Nat.reduceBEq, Option.getD_some])
    | (with_reducible first | refine SART.br ?_ ?_ | exact SARL.nil | refine SARL.cons ?_ ?_)
    | ((with_reducible refine SARA.nil ?_); refine hR _ ?_; clear hR R; try simp only [go_sem, lv66, lvOf, Nat.reduceBEq, Option.getD_some])
    | ((with_reducible refine SARQ.nil ?_); refine hR _ ?_; clear hR R; try simp only [go_sem, lv66, lvOf, Nat.reduceBEq, Option.getD_some])
    | (with_reducible first | refine thenK.normal ?_ | refine SA.seq ?_ | refine SA.skip ?_ | refine SA.block ?_ | refine blockK.normal ?_ | refine SA.exit ?_ | refine blockK.hit ?_ | refine blockK.miss (by decide) ?_ | refine thenK.exit ?_ | refine loopK.exit ?_ | refine SA.ret ?_ | refine thenK.ret ?_ | refine blockK.ret ?_ | refine loopK.ret ?_ | refine SA.scope ?_ | refine scopeK.normal ?_ | refine scopeK.exit ?_ | refine scopeK.ret ?_ | refine SA.label ?_)
    | ((with_reducible refine SA.at 26 ?_)
       obtain ⟨sl, hq⟩ : ∃ sl, sl = ((p.funcs.getD (s.gos.getD g.toNat default).func.toNat default).sels.getD (instrAt p s g).a.toNat default) := ⟨_, rfl⟩
       rw [← hq] at hsh
       rw [← hq]
       have hal : ∀ j : Nat, j ≤ 4 → (addChans sl j [(⟨5, g, true⟩ : Access)]).length ≤ 16 := fun j hj => Nat.le_trans (addChans_len _ _ j) (by simp only [List.length_cons, List.length_nil]; omega)
       (with_reducible refine SA.regionN ok (by kernel_rfl) lv66 ?_); intro R hR; simp only [go_sem, strip])
    | ((with_reducible refine SA.at 36 ?_)
       have hI := vis63 hrt (.inl (hw.op_at hok hg.1 hg.2 hb116 (by decide)))
       (with_reducible refine SA.regionD ok mixed (by kernel_rfl) (by kernel_rfl) lv66 ?_); intro R hR; simp only [go_sem, strip])
    | ((with_reducible refine SA.at 25 ?_)
       have hI : 0 ≤ (instrAt p s g).a ∧ (instrAt p s g).a < ((p.funcs.getD (s.gos.getD g.toNat default).func.toNat default).sels.length : Int) := vis61 hrt (hw.op_at hok hg.1 hg.2 hb74 (by decide))
       have hsh := hok.short (s.gos.getD g.toNat default).func.toNat (instrAt p s g).a.toNat (by omega)
       refine SA.regionT ok mixed (.take 0 (.take 1 (.take 2 (.take 3 (.take 4 (.take 5 (.take 6 (.take 7 (.take 8 (.take 9 (.take 10 (.take 11 (.take 12 (.take 13 (.br 14 (.br 15 .done .nil) .nil))))))))))))))) [15] lv66 (by kernel_rfl) (fun R hR => ?_); simp only [go_sem, strip])
    | ((with_reducible refine SA.regionN ok (by kernel_rfl) lv66 ?_); intro R hR; simp only [go_sem, strip])
    | ((with_reducible refine SA.regionD ok mixed (by kernel_rfl) (by kernel_rfl) lv66 ?_); intro R hR; simp only [go_sem, strip])
    | ((with_reducible refine SA.condAt 22 rfl (fun hb22 => ?_) (fun hb22 => ?_))
       all_goals
         try simp [-List.getD_eq_getElem?_getD] at hb22
         try (exfalso; omega))
    | ((with_reducible refine SA.condAt 28 rfl (fun hb28 => ?_) (fun hb28 => ?_))
       all_goals
         try simp [-List.getD_eq_getElem?_getD] at hb28
         try (exfalso; omega))
    | ((with_reducible refine SA.condAt 34 rfl (fun hb34 => ?_) (fun hb34 => ?_))
       all_goals
         try simp [-List.getD_eq_getElem?_getD] at hb34
         try (exfalso; omega))
    | ((with_reducible refine SA.condAt 40 rfl (fun hb40 => ?_) (fun hb40 => ?_))
       all_goals
         try simp [-List.getD_eq_getElem?_getD] at hb40
         try (exfalso; omega))
    | ((with_reducible refine SA.condAt 47 rfl (fun hb47 => ?_) (fun hb47 => ?_))
       all_goals
         try simp [-List.getD_eq_getElem?_getD] at hb47
         try (exfalso; omega))
    | ((with_reducible refine SA.condAt 54 rfl (fun hb54 => ?_) (fun hb54 => ?_))
       all_goals
         try simp [-List.getD_eq_getElem?_getD] at hb54
         try (exfalso; omega))
    | ((with_reducible refine SA.condAt 60 rfl (fun hb60 => ?_) (fun hb60 => ?_))
       all_goals
         try simp [-List.getD_eq_getElem?_getD] at hb60
         try (exfalso; omega))
    | ((with_reducible refine SA.condAt 68 rfl (fun hb68 => ?_) (fun hb68 => ?_))
       all_goals
         try simp [-List.getD_eq_getElem?_getD] at hb68
         try (exfalso; omega))
    | ((with_reducible refine SA.condAt 74 rfl (fun hb74 => ?_) (fun hb74 => ?_))
       all_goals
         try simp [-List.getD_eq_getElem?_getD] at hb74
         try (exfalso; omega))
    | ((with_reducible refine SA.condAt 94 rfl (fun hb94 => ?_) (fun hb94 => ?_))
       all_goals
         try simp [-List.getD_eq_getElem?_getD] at hb94
         try (exfalso; omega))
    | ((with_reducible refine SA.condAt 105 rfl (fun hb105 => ?_) (fun hb105 => ?_))
       all_goals
         try simp [-List.getD_eq_getElem?_getD] at hb105
         try (exfalso; omega))
    | ((with_reducible refine SA.condAt 111 rfl (fun hb111 => ?_) (fun hb111 => ?_))
       all_goals
         try simp [-List.getD_eq_getElem?_getD] at hb111
         try (exfalso; omega))
    | ((with_reducible refine SA.condAt 116 rfl (fun hb116 => ?_) (fun hb116 => ?_))
       all_goals
         try simp [-List.getD_eq_getElem?_getD] at hb116
         try (exfalso; omega))
    | ((with_reducible refine SA.condAt 135 rfl (fun hb135 => ?_) (fun hb135 => ?_))
       all_goals
         try simp [-List.getD_eq_getElem?_getD] at hb135
         try (exfalso; omega))
    | ((with_reducible refine SA.condAt 139 rfl (fun hb139 => ?_) (fun hb139 => ?_))
       all_goals
         try simp [-List.getD_eq_getElem?_getD] at hb139
         try (exfalso; omega))
    | ((with_reducible refine SA.atLoop ?_)
       refine SA.weaken (St.le.of_eq (by first | rfl | fail)) (SA.loop (fun n τ => ∃ (j : Nat), n = sl.cases.length - j ∧ (j ≤ sl.cases.length) ∧ τ = { tm := [(8, true, .sl (touchIx j) 52 0 (addChans sl j [(⟨5, g, true⟩ : Access)]).length false), (9, true, .ptr 4 [] 103), (10, true, .int .i64 j)], ob := (touchOb p s (instrAt p s g) sl [(⟨5, g, true⟩ : Access)] j), out := [], nt := 144 }) (sl.cases.length) ⟨0, rfl, by omega, rfl⟩ ?_)
       rintro n τ ⟨j, hn, hj, rfl⟩
       have hj4 : j ≤ 4 := by omega
       rcases (show j = 0 ∨ j = 1 ∨ j = 2 ∨ j = 3 ∨ j = 4 by omega) with rfl | rfl | rfl | rfl | rfl
       all_goals simp only [touchIx, touchOb, List.cons_append, List.nil_append, Nat.reduceAdd])
    | ((with_reducible refine loopK.round ?_)
       first
         | (have hac := addChans_succ sl (j := 0) (by omega) [(⟨5, g, true⟩ : Access)]
            refine loopK.normal (sl.cases.length - 1) _ (by omega) (St.le.of_eq ?_) ⟨1, rfl, ?_, rfl⟩
            · simp only [touchIx, touchOb, List.cons_append, List.nil_append, Nat.reduceAdd, hac]
              rfl
            · omega)
         | (have hac := addChans_succ sl (j := 1) (by omega) [(⟨5, g, true⟩ : Access)]
            refine loopK.normal (sl.cases.length - 2) _ (by omega) (St.le.of_eq ?_) ⟨2, rfl, ?_, rfl⟩
            · simp only [touchIx, touchOb, List.cons_append, List.nil_append, Nat.reduceAdd, hac]
              rfl
            · omega)
         | (have hac := addChans_succ sl (j := 2) (by omega) [(⟨5, g, true⟩ : Access)]
            refine loopK.normal (sl.cases.length - 3) _ (by omega) (St.le.of_eq ?_) ⟨3, rfl, ?_, rfl⟩
            · simp only [touchIx, touchOb, List.cons_append, List.nil_append, Nat.reduceAdd, hac]
              rfl
            · omega)
         | (have hac := addChans_succ sl (j := 3) (by omega) [(⟨5, g, true⟩ : Access)]
            refine loopK.normal (sl.cases.length - 4) _ (by omega) (St.le.of_eq ?_) ⟨4, rfl, ?_, rfl⟩
            · simp only [touchIx, touchOb, List.cons_append, List.nil_append, Nat.reduceAdd, hac]
              rfl
            · omega))
    | ((with_reducible first | refine ctrK.normal ?_ | refine ctrK.ret ?_)
       simp only [go_sem, resA, resV, backK, seval]
       first
         | (have q : opAt p s g = 50 := hb22
            refine ⟨rfl, ?_⟩
            rw [show touch p s g = add 1 (instrAt p s g).b false [(⟨5, g, true⟩ : Access)] from if_pos hb22]
            simp [-List.getD_eq_getElem?_getD, List.take_of_length_le, add_four])
         | (have q : opAt p s g = 54 := hb28
            refine ⟨rfl, ?_⟩
            rw [show touch p s g = add 1 (instrAt p s g).a false [(⟨5, g, true⟩ : Access)] from (if_neg (by omega)).trans (if_pos hb28)]
            simp [-List.getD_eq_getElem?_getD, List.take_of_length_le, add_four])
         | (have q : opAt p s g = 51 := hb34
            refine ⟨rfl, ?_⟩
            rw [show touch p s g = add 1 (instrAt p s g).a true [(⟨5, g, true⟩ : Access)] from (if_neg (by omega)).trans ((if_neg (by omega)).trans (if_pos hb34))]
            simp [-List.getD_eq_getElem?_getD, List.take_of_length_le, add_four])
         | (have q : opAt p s g = 52 := hb40
            refine ⟨rfl, ?_⟩
            rw [show touch p s g = add 1 (instrAt p s g).b true [(⟨5, g, true⟩ : Access)] from (if_neg (by omega)).trans ((if_neg (by omega)).trans ((if_neg (by omega)).trans (if_pos (.inl q))))]
            simp [-List.getD_eq_getElem?_getD, List.take_of_length_le, add_four])
         | (have q : opAt p s g = 53 := hb40
            refine ⟨rfl, ?_⟩
            rw [show touch p s g = add 1 (instrAt p s g).b true [(⟨5, g, true⟩ : Access)] from (if_neg (by omega)).trans ((if_neg (by omega)).trans ((if_neg (by omega)).trans (if_pos (.inr q))))]
            simp [-List.getD_eq_getElem?_getD, List.take_of_length_le, add_four])
         | (have q : opAt p s g = 55 := hb47
            refine ⟨rfl, ?_⟩
            rw [show touch p s g = add 2 (instrAt p s g).a true [(⟨5, g, true⟩ : Access)] from (if_neg (by omega)).trans ((if_neg (by omega)).trans ((if_neg (by omega)).trans ((if_neg (by omega)).trans (if_pos (.inl q)))))]
            simp [-List.getD_eq_getElem?_getD, List.take_of_length_le, add_four])
         | (have q : opAt p s g = 56 := hb47
            refine ⟨rfl, ?_⟩
            rw [show touch p s g = add 2 (instrAt p s g).a true [(⟨5, g, true⟩ : Access)] from (if_neg (by omega)).trans ((if_neg (by omega)).trans ((if_neg (by omega)).trans ((if_neg (by omega)).trans (if_pos (.inr q)))))]
            simp [-List.getD_eq_getElem?_getD, List.take_of_length_le, add_four])
         | (have q : opAt p s g = 57 := hb54
            refine ⟨rfl, ?_⟩
            rw [show touch p s g = add 2 (instrAt p s g).b true [(⟨5, g, true⟩ : Access)] from (if_neg (by omega)).trans ((if_neg (by omega)).trans ((if_neg (by omega)).trans ((if_neg (by omega)).trans ((if_neg (by omega)).trans (if_pos q)))))]
            simp [-List.getD_eq_getElem?_getD, List.take_of_length_le, add_four])
         | (have q : opAt p s g = 58 := hb60
            refine ⟨rfl, ?_⟩
            rw [show touch p s g = add 3 (instrAt p s g).a true [(⟨5, g, true⟩ : Access)] from (if_neg (by omega)).trans ((if_neg (by omega)).trans ((if_neg (by omega)).trans ((if_neg (by omega)).trans ((if_neg (by omega)).trans ((if_neg (by omega)).trans (if_pos (.inl q)))))))]
            simp [-List.getD_eq_getElem?_getD, List.take_of_length_le, add_four])
         | (have q : opAt p s g = 60 := hb60
            refine ⟨rfl, ?_⟩
            rw [show touch p s g = add 3 (instrAt p s g).a true [(⟨5, g, true⟩ : Access)] from (if_neg (by omega)).trans ((if_neg (by omega)).trans ((if_neg (by omega)).trans ((if_neg (by omega)).trans ((if_neg (by omega)).trans ((if_neg (by omega)).trans (if_pos (.inr (.inl q))))))))]
            simp [-List.getD_eq_getElem?_getD, List.take_of_length_le, add_four])
         | (have q : opAt p s g = 66 := hb60
            refine ⟨rfl, ?_⟩
            rw [show touch p s g = add 3 (instrAt p s g).a true [(⟨5, g, true⟩ : Access)] from (if_neg (by omega)).trans ((if_neg (by omega)).trans ((if_neg (by omega)).trans ((if_neg (by omega)).trans ((if_neg (by omega)).trans ((if_neg (by omega)).trans (if_pos (.inr (.inr q))))))))]
            simp [-List.getD_eq_getElem?_getD, List.take_of_length_le, add_four])
         | (have q : opAt p s g = 59 := hb68
            refine ⟨rfl, ?_⟩
            rw [show touch p s g = add 3 (instrAt p s g).b true [(⟨5, g, true⟩ : Access)] from (if_neg (by omega)).trans ((if_neg (by omega)).trans ((if_neg (by omega)).trans ((if_neg (by omega)).trans ((if_neg (by omega)).trans ((if_neg (by omega)).trans ((if_neg (by omega)).trans (if_pos q)))))))]
            simp [-List.getD_eq_getElem?_getD, List.take_of_length_le, add_four])
         | (have q : opAt p s g = 61 := hb74
            have q2 : 0 ≤ sl.cases.length := hj
            have hj' : sl.cases.length = 0 := by first | omega | (rw [hb94]; rfl)
            rw [hq] at hj'
            refine ⟨rfl, ?_⟩
            rw [show touch p s g = [(⟨5, g, true⟩ : Access)] from (if_neg (by omega)).trans ((if_neg (by omega)).trans ((if_neg (by omega)).trans ((if_neg (by omega)).trans ((if_neg (by omega)).trans ((if_neg (by omega)).trans ((if_neg (by omega)).trans ((if_neg (by omega)).trans ((if_pos q).trans (congrArg (fun n => addChans ((p.funcs.getD (s.gos.getD g.toNat default).func.toNat default).sels.getD (instrAt p s g).a.toNat default) n [(⟨5, g, true⟩ : Access)]) hj')))))))))]
            simp [-List.getD_eq_getElem?_getD, List.take_of_length_le, add_four])
         | (have q : opAt p s g = 61 := hb74
            have q2 : 1 ≤ sl.cases.length := hj
            have hj' : sl.cases.length = 1 := by first | omega | (rw [hb94]; rfl)
            rw [hq] at hj'
            refine ⟨rfl, ?_⟩
            rw [show touch p s g = addChans ((p.funcs.getD (s.gos.getD g.toNat default).func.toNat default).sels.getD (instrAt p s g).a.toNat default) 1 [(⟨5, g, true⟩ : Access)] from (if_neg (by omega)).trans ((if_neg (by omega)).trans ((if_neg (by omega)).trans ((if_neg (by omega)).trans ((if_neg (by omega)).trans ((if_neg (by omega)).trans ((if_neg (by omega)).trans ((if_neg (by omega)).trans ((if_pos q).trans (congrArg (fun n => addChans ((p.funcs.getD (s.gos.getD g.toNat default).func.toNat default).sels.getD (instrAt p s g).a.toNat default) n [(⟨5, g, true⟩ : Access)]) hj')))))))))]
            rw [← hq]
            simp [-List.getD_eq_getElem?_getD, List.take_of_length_le, add_four])
         | (have q : opAt p s g = 61 := hb74
            have q2 : 2 ≤ sl.cases.length := hj
            have hj' : sl.cases.length = 2 := by first | omega | (rw [hb94]; rfl)
            rw [hq] at hj'
            refine ⟨rfl, ?_⟩
            rw [show touch p s g = addChans ((p.funcs.getD (s.gos.getD g.toNat default).func.toNat default).sels.getD (instrAt p s g).a.toNat default) 2 [(⟨5, g, true⟩ : Access)] from (if_neg (by omega)).trans ((if_neg (by omega)).trans ((if_neg (by omega)).trans ((if_neg (by omega)).trans ((if_neg (by omega)).trans ((if_neg (by omega)).trans ((if_neg (by omega)).trans ((if_neg (by omega)).trans ((if_pos q).trans (congrArg (fun n => addChans ((p.funcs.getD (s.gos.getD g.toNat default).func.toNat default).sels.getD (instrAt p s g).a.toNat default) n [(⟨5, g, true⟩ : Access)]) hj')))))))))]
            rw [← hq]
            simp [-List.getD_eq_getElem?_getD, List.take_of_length_le, add_four])
         | (have q : opAt p s g = 61 := hb74
            have q2 : 3 ≤ sl.cases.length := hj
            have hj' : sl.cases.length = 3 := by first | omega | (rw [hb94]; rfl)
            rw [hq] at hj'
            refine ⟨rfl, ?_⟩
            rw [show touch p s g = addChans ((p.funcs.getD (s.gos.getD g.toNat default).func.toNat default).sels.getD (instrAt p s g).a.toNat default) 3 [(⟨5, g, true⟩ : Access)] from (if_neg (by omega)).trans ((if_neg (by omega)).trans ((if_neg (by omega)).trans ((if_neg (by omega)).trans ((if_neg (by omega)).trans ((if_neg (by omega)).trans ((if_neg (by omega)).trans ((if_neg (by omega)).trans ((if_pos q).trans (congrArg (fun n => addChans ((p.funcs.getD (s.gos.getD g.toNat default).func.toNat default).sels.getD (instrAt p s g).a.toNat default) n [(⟨5, g, true⟩ : Access)]) hj')))))))))]
            rw [← hq]
            simp [-List.getD_eq_getElem?_getD, List.take_of_length_le, add_four])
         | (have q : opAt p s g = 61 := hb74
            have q2 : 4 ≤ sl.cases.length := hj
            have hj' : sl.cases.length = 4 := by first | omega | (rw [hb94]; rfl)
            rw [hq] at hj'
            refine ⟨rfl, ?_⟩
            rw [show touch p s g = addChans ((p.funcs.getD (s.gos.getD g.toNat default).func.toNat default).sels.getD (instrAt p s g).a.toNat default) 4 [(⟨5, g, true⟩ : Access)] from (if_neg (by omega)).trans ((if_neg (by omega)).trans ((if_neg (by omega)).trans ((if_neg (by omega)).trans ((if_neg (by omega)).trans ((if_neg (by omega)).trans ((if_neg (by omega)).trans ((if_neg (by omega)).trans ((if_pos q).trans (congrArg (fun n => addChans ((p.funcs.getD (s.gos.getD g.toNat default).func.toNat default).sels.getD (instrAt p s g).a.toNat default) n [(⟨5, g, true⟩ : Access)]) hj')))))))))]
            rw [← hq]
            simp [-List.getD_eq_getElem?_getD, List.take_of_length_le, add_four])
         | (have q : opAt p s g = 62 := hb105
            have q2 : _ < _ := hb111
            refine ⟨rfl, ?_⟩
            rw [show touch p s g = add 5 s.count true (add 4 0 true [(⟨5, g, true⟩ : Access)]) from (if_neg (by omega)).trans ((if_neg (by omega)).trans ((if_neg (by omega)).trans ((if_neg (by omega)).trans ((if_neg (by omega)).trans ((if_neg (by omega)).trans ((if_neg (by omega)).trans ((if_neg (by omega)).trans ((if_neg (by omega)).trans ((if_pos q).trans (if_pos hb111))))))))))]
            simp [-List.getD_eq_getElem?_getD, List.take_of_length_le, add_four])
         | (have q : opAt p s g = 62 := hb105
            have q2 : _ ≤ _ := hb111
            refine ⟨rfl, ?_⟩
            rw [show touch p s g = add 4 0 true [(⟨5, g, true⟩ : Access)] from (if_neg (by omega)).trans ((if_neg (by omega)).trans ((if_neg (by omega)).trans ((if_neg (by omega)).trans ((if_neg (by omega)).trans ((if_neg (by omega)).trans ((if_neg (by omega)).trans ((if_neg (by omega)).trans ((if_neg (by omega)).trans ((if_pos q).trans (if_neg (Int.not_lt.2 hb111)))))))))))]
            simp [-List.getD_eq_getElem?_getD, List.take_of_length_le, add_four])
         | (have q : opAt p s g = 63 := hb116
            have q2 : _ ∧ _ := hb135
            refine ⟨rfl, ?_⟩
            rw [show touch p s g = add 5 ((s.gos.getD g.toNat default).regs.getD (instrAt p s g).a.toNat 0) false (add 4 0 false [(⟨5, g, true⟩ : Access)]) from (if_neg (by omega)).trans ((if_neg (by omega)).trans ((if_neg (by omega)).trans ((if_neg (by omega)).trans ((if_neg (by omega)).trans ((if_neg (by omega)).trans ((if_neg (by omega)).trans ((if_neg (by omega)).trans ((if_neg (by omega)).trans ((if_neg (by omega)).trans ((if_pos q).trans (if_pos hb135)))))))))))]
            simp [-List.getD_eq_getElem?_getD, List.take_of_length_le, add_four])
         | (have q : opAt p s g = 63 := hb116
            refine ⟨rfl, ?_⟩
            rw [show touch p s g = add 4 0 false [(⟨5, g, true⟩ : Access)] from (if_neg (by omega)).trans ((if_neg (by omega)).trans ((if_neg (by omega)).trans ((if_neg (by omega)).trans ((if_neg (by omega)).trans ((if_neg (by omega)).trans ((if_neg (by omega)).trans ((if_neg (by omega)).trans ((if_neg (by omega)).trans ((if_neg (by omega)).trans ((if_pos q).trans (if_neg (fun h => absurd h.2 (Int.not_lt.2 (hb135 h.1))))))))))))))]
            simp [-List.getD_eq_getElem?_getD, List.take_of_length_le, add_four])
         | (have q : opAt p s g = 65 := hb139
            refine ⟨rfl, ?_⟩
            rw [show touch p s g = add 6 0 true [(⟨5, g, true⟩ : Access)] from (if_neg (by omega)).trans ((if_neg (by omega)).trans ((if_neg (by omega)).trans ((if_neg (by omega)).trans ((if_neg (by omega)).trans ((if_neg (by omega)).trans ((if_neg (by omega)).trans ((if_neg (by omega)).trans ((if_neg (by omega)).trans ((if_neg (by omega)).trans ((if_neg (by omega)).trans (if_pos q)))))))))))]
            simp [-List.getD_eq_getElem?_getD, List.take_of_length_le, add_four])
         | (skip
            refine ⟨rfl, ?_⟩
            rw [show touch p s g = [(⟨5, g, true⟩ : Access)] from (if_neg (by omega)).trans ((if_neg (by omega)).trans ((if_neg (by omega)).trans ((if_neg (by omega)).trans ((if_neg (by omega)).trans ((if_neg (by omega)).trans ((if_neg (by omega)).trans ((if_neg (by omega)).trans ((if_neg (by omega)).trans ((if_neg (by omega)).trans ((if_neg (by omega)).trans ((if_neg (by omega)).trans (rfl))))))))))))]
            simp [-List.getD_eq_getElem?_getD, List.take_of_length_le, add_four]))

end Go.Eng.Tryz
