/- A part of the proof: walks through the program's functions, and what they compute. -/
import Derived.Test.YtedceinkpkoncaaGreatDoorPk20
import Derived.Test.YtedceinkpkoncaaGreatDoorPk22
import Derived.Test.YtedceinkpkoncaaGreatDoorPk15
namespace Go.Eng.Tryz
open Go.RowKit Go.Eng
set_option linter.unusedSimpArgs false
set_option linter.unusedVariables false
set_option maxHeartbeats 0
set_option maxRecDepth 20000

def lv24 : List (Nat × List Nat) := [(0, [2, 3]), (1, [2, 3, 28]), (2, [4]), (3, [2, 3, 30, 31]), (4, [2, 3, 30, 31, 32]), (5, [2, 3, 5, 6, 30, 31]), (6, [2, 3, 30, 31, 43]), (7, [4]), (8, [2, 3, 30, 31]), (9, [2, 3, 46, 47]), (10, [2, 3, 46, 47, 48]), (11, [2, 3, 7, 8, 46, 47]), (12, [2, 3, 46, 47, 68]), (13, [4]), (14, [2, 3, 46, 47]), (15, [2, 3, 71, 72]), (16, [2, 3, 71, 72, 73]), (17, [2, 3, 9, 10, 71, 72]), (18, [2, 3, 71, 72, 96]), (19, [4]), (20, [2, 3, 71, 72]), (21, [2, 3, 11]), (22, [2, 3, 11, 100, 101]), (23, [2, 3, 11, 100, 101, 102]), (24, [2, 3, 11, 12, 13, 100, 101]), (25, [2, 3, 11, 12, 13, 100, 101, 109]), (26, [2, 3, 11, 100, 101, 112]), (27, [4]), (28, [2, 3, 11, 13, 100, 101, 117]), (29, [4]), (30, [2, 3, 11, 13, 100, 101, 120]), (31, [2, 3, 11, 100, 101]), (32, [2, 3, 11, 100, 101]), (33, [11, 129, 130]), (34, [11, 129, 130, 131]), (35, [11, 14, 15, 129, 130]), (36, [11, 129, 130, 142]), (37, [4]), (38, [11, 129, 130]), (39, [4])]
-- scarab/state.Valid
theorem pvalid_ctr (p : Prg) (s : Stt) (hp : p.Fit) (hs : s.Shape) : Ctr Go.Proofs.Tryz.prog tab 24 [26, 37] [4] [p.v, s.v] [.bool (validP p s)] := by
  have hpp := hp
  have hfit := hp
  have hcode := p.code_len hp
  have hsl := p.sels_len hp
  obtain ⟨hp1, hp2, hp3, hp4⟩ := hp
  have hs1 := hs.vars
  have hs2 := hs.owner
  have hs3 := hs.chans
  have hs5 := hs.gos
  refine Ctr.body ok Go.Proofs.Tryz.func24 rfl rfl 144 rfl [.tmp 4] rfl (by simp [fromVs]) ?_
  simp only [fromVs, fromV, args0, V.toList_list, V.toInt_int, V.toBool_bool, Nat.zero_add, Nat.reduceAdd, ty26, ty37]
  repeat' first
    | ((with_reducible refine SARA.told 17 2 ?_)
       rw [getD_gors (by omega)])
    | ((with_reducible refine SARA.told 24 2 ?_)
       rw [getD_chns (by omega)])
    | ((with_reducible refine SARA.told 35 2 ?_)
       rw [getD_gors (by omega)])
    | ((with_reducible refine SARA.do fun R1 hR1 => ?_); (simp only [go_sem, seval, -List.reduceReplicate, Bool.cond_false_right, Bool.cond_true_left, beq_gor, beq_chn, zeroGo_at, zeroChan_at]); (repeat' with_reducible refine And.intro ?_ ?_); all_goals first | (refine hR1 _ ?_; clear hR1 R1) | (intro hgf; simp only [hgf]; refine hR1 _ ?_; clear hR1 R1) | ((first | refine ⟨_, _, rfl, .inl ⟨_, CallQ.ctr ok (sright_ctr p hpp) (by first | rfl | (simp [go_sem]; done) | fail) rfl, ?_⟩⟩ | refine ⟨_, _, rfl, .inl ⟨_, fun hg => CallQ.ctr ok (sright_ctr p hpp) (by first | rfl | (simp [go_sem]; done) | fail) rfl, ?_⟩⟩ | refine ⟨_, _, rfl, .inl ⟨_, CallQ.ctr ok (fits_ctr p (s.gos.getD i default) hpp (hs.regs _ (getD_mem (i := i) _ (by omega)))) (by first | rfl | (simp [go_sem]; done) | fail) rfl, ?_⟩⟩ | refine ⟨_, _, rfl, .inl ⟨_, fun hg => CallQ.ctr ok (fits_ctr p (s.gos.getD i default) hpp (hs.regs _ (getD_mem (i := i) _ (by omega)))) (by first | rfl | (simp [go_sem]; done) | fail) rfl, ?_⟩⟩ | refine ⟨_, _, rfl, .inl ⟨_, CallQ.ctr ok (pchannel_ctr p s (i : Int) hpp hr (by omega) hs (by omega) hg) (by first | rfl | (simp [go_sem]; done) | fail) rfl, ?_⟩⟩ | refine ⟨_, _, rfl, .inl ⟨_, fun hg => CallQ.ctr ok (pchannel_ctr p s (i : Int) hpp hr (by omega) hs (by omega) hg) (by first | rfl | (simp [go_sem]; done) | fail) rfl, ?_⟩⟩); all_goals ((try simp only [go_sem, seval, -List.reduceReplicate, Bool.cond_false_right, Bool.cond_true_left, beq_gor, beq_chn, zeroGo_at, zeroChan_at]); (repeat' with_reducible refine And.intro ?_ ?_); all_goals first | (refine hR1 _ ?_; clear hR1 R1) | (intro hgf; simp only [hgf]; refine hR1 _ ?_; clear hR1 R1) | omega | rfl | decide | assumption | (intro _; omega) | (simp; done) | (simp [-List.getD_eq_getElem?_getD]; omega) | exact hcode _ | (intro _; exact hcode _) | exact hsl _ | (intro _; exact hsl _))) | omega | rfl | decide | assumption | (intro _; omega) | (simp; done) | (simp [-List.getD_eq_getElem?_getD]; omega) | exact hcode _ | (intro _; exact hcode _) | exact hsl _ | (intro _; exact hsl _))
    | ((with_reducible refine SARA.nil ?_); refine hR _ ?_; clear hR R; try simp only [go_sem, lv24, lvOf, Nat.reduceBEq, Option.getD_some])
    | (with_reducible first | refine thenK.normal ?_ | refine SA.seq ?_ | refine SA.skip ?_ | refine SA.block ?_ | refine blockK.normal ?_ | refine SA.exit ?_ | refine blockK.hit ?_ | refine blockK.miss (by decide) ?_ | refine thenK.exit ?_ | refine loopK.exit ?_ | refine SA.ret ?_ | refine thenK.ret ?_ | refine blockK.ret ?_ | refine loopK.ret ?_ | refine SA.scope ?_ | refine scopeK.normal ?_ | refine scopeK.exit ?_ | refine scopeK.ret ?_ | refine SA.label ?_)
    | ((with_reducible refine SA.at 33 ?_)
       have hi4 : i = 4 := by omega
       subst hi4
       (with_reducible refine SA.regionN ok (by kernel_rfl) lv24 ?_); intro R hR; simp only [go_sem, strip])
    | ((with_reducible refine SA.at 31 ?_)
       have hfr := chan_from hb117 hb120
       have hfo := offersV_at s i (g := (s.chans.getD i default).from_) (by omega) (by omega)
       have hfs := offersTo_small s (s.chans.getD i default).from_ i
       (with_reducible refine SA.regionN ok (by kernel_rfl) lv24 ?_); intro R hR; simp only [go_sem, strip])
    | ((with_reducible refine SA.at 3 ?_)
       have hr : rightP p = true := hb28.1.1
       have hok := Prg.ok hr
       (with_reducible refine SA.regionN ok (by kernel_rfl) lv24 ?_); intro R hR; simp only [go_sem, strip])
    | ((with_reducible refine SA.regionN ok (by kernel_rfl) lv24 ?_); intro R hR; simp only [go_sem, strip])
    | ((with_reducible refine SA.condAt 28 rfl (fun hb28 => ?_) (fun hb28 => ?_))
       all_goals
         try simp [-List.getD_eq_getElem?_getD] at hb28
         try (exfalso; omega))
    | ((with_reducible refine SA.condAt 32 rfl (fun hb32 => ?_) (fun hb32 => ?_))
       all_goals
         try simp [-List.getD_eq_getElem?_getD] at hb32
         try (exfalso; omega))
    | ((with_reducible refine SA.condAt 43 rfl (fun hb43 => ?_) (fun hb43 => ?_))
       all_goals
         try simp [-List.getD_eq_getElem?_getD] at hb43
         try (exfalso; omega))
    | ((with_reducible refine SA.condAt 48 rfl (fun hb48 => ?_) (fun hb48 => ?_))
       all_goals
         try simp [-List.getD_eq_getElem?_getD] at hb48
         try (exfalso; omega))
    | ((with_reducible refine SA.condAt 68 rfl (fun hb68 => ?_) (fun hb68 => ?_))
       all_goals
         try simp [-List.getD_eq_getElem?_getD] at hb68
         try (exfalso; omega))
    | ((with_reducible refine SA.condAt 73 rfl (fun hb73 => ?_) (fun hb73 => ?_))
       all_goals
         try simp [-List.getD_eq_getElem?_getD] at hb73
         try (exfalso; omega))
    | ((with_reducible refine SA.condAt 96 rfl (fun hb96 => ?_) (fun hb96 => ?_))
       all_goals
         try simp [-List.getD_eq_getElem?_getD] at hb96
         try (exfalso; omega))
    | ((with_reducible refine SA.condAt 102 rfl (fun hb102 => ?_) (fun hb102 => ?_))
       all_goals
         try simp [-List.getD_eq_getElem?_getD] at hb102
         try (exfalso; omega))
    | ((with_reducible refine SA.condAt 109 rfl (fun hb109 => ?_) (fun hb109 => ?_))
       all_goals
         try simp [-List.getD_eq_getElem?_getD] at hb109
         try (exfalso; omega))
    | ((with_reducible refine SA.condAt 112 rfl (fun hb112 => ?_) (fun hb112 => ?_))
       all_goals
         try simp [-List.getD_eq_getElem?_getD] at hb112
         try (exfalso; omega))
    | ((with_reducible refine SA.condAt 117 rfl (fun hb117 => ?_) (fun hb117 => ?_))
       all_goals
         try simp [-List.getD_eq_getElem?_getD] at hb117
         try (exfalso; omega))
    | ((with_reducible refine SA.condAt 120 rfl (fun hb120 => ?_) (fun hb120 => ?_))
       all_goals
         try simp [-List.getD_eq_getElem?_getD] at hb120
         try (exfalso; omega))
    | ((with_reducible refine SA.condAt 131 rfl (fun hb131 => ?_) (fun hb131 => ?_))
       all_goals
         try simp [-List.getD_eq_getElem?_getD] at hb131
         try (exfalso; omega))
    | ((with_reducible refine SA.condAt 142 rfl (fun hb142 => ?_) (fun hb142 => ?_))
       all_goals
         try simp [-List.getD_eq_getElem?_getD] at hb142
         try (exfalso; omega))
    | ((with_reducible refine SA.atLoop ?_)
       refine SA.weaken (St.le.of_eq (by first | rfl | (simp; done) | fail)) (SA.loop (fun n τ => ∃ (i : Nat), n = 8 - i ∧ (i ≤ 8 ∧ ∀ k : Nat, k < i → p.vars.length ≤ k → s.vars.getD k 0 = 0) ∧ τ = { tm := [(2, true, .ptr 0 [] 26), (3, true, .ptr 1 [] 37), (30, true, .data 27 (.agg (s.vars.map V.int))), (31, true, .int .i64 i)], ob := [.var 26 (.data 26 p.v), .var 37 (.data 37 s.v)], out := [], nt := 144 }) (8) ⟨0, rfl, ⟨by omega, fun k h => by omega⟩, rfl⟩ ?_)
       rintro n τ ⟨i, hn, ⟨hi, hz⟩, rfl⟩)
    | ((with_reducible refine SA.atLoop ?_)
       refine SA.weaken (St.le.of_eq (by first | rfl | (simp; done) | fail)) (SA.loop (fun n τ => ∃ (i : Nat), n = 4 - i ∧ (i ≤ 4 ∧ varsOk p s 8 = true ∧ ownersOk p s i = true) ∧ τ = { tm := [(2, true, .ptr 0 [] 26), (3, true, .ptr 1 [] 37), (46, true, .data 28 (.agg (s.owner.map V.int))), (47, true, .int .i64 i)], ob := [.var 26 (.data 26 p.v), .var 37 (.data 37 s.v)], out := [], nt := 144 }) (4) ⟨0, rfl, ⟨by omega, vars_good (fun k h1 h2 => hz k (by omega) h1), rfl⟩, rfl⟩ ?_)
       rintro n τ ⟨i, hn, ⟨hi, hv, ho⟩, rfl⟩)
    | ((with_reducible refine SA.atLoop ?_)
       refine SA.weaken (St.le.of_eq (by first | rfl | (simp; done) | fail)) (SA.loop (fun n τ => ∃ (i : Nat), n = 6 - i ∧ (i ≤ 6 ∧ varsOk p s 8 = true ∧ ownersOk p s 4 = true ∧ gorsOk p s i = true) ∧ τ = { tm := [(2, true, .ptr 0 [] 26), (3, true, .ptr 1 [] 37), (71, true, .data 35 (.agg (s.gos.map Gor.v))), (72, true, .int .i64 i)], ob := [.var 26 (.data 26 p.v), .var 37 (.data 37 s.v)], out := [], nt := 144 }) (6) ⟨0, rfl, ⟨by omega, hv, (show i = 4 by omega) ▸ ho, rfl⟩, rfl⟩ ?_)
       rintro n τ ⟨i, hn, ⟨hi, hv, ho, hg⟩, rfl⟩)
    | ((with_reducible refine SA.atLoop ?_)
       refine SA.weaken (St.le.of_eq (by first | rfl | (simp; done) | fail)) (SA.loop (fun n τ => ∃ (i : Nat), n = 4 - i ∧ (i ≤ 4 ∧ varsOk p s 8 = true ∧ ownersOk p s 4 = true ∧ gorsOk p s 6 = true ∧ chansOk p s i = true) ∧ τ = { tm := [(2, true, .ptr 0 [] 26), (3, true, .ptr 1 [] 37), (11, true, .ptr 2 [] 149), (100, true, .data 32 (.agg (s.chans.map Chn.v))), (101, true, .int .i64 i)], ob := [.var 26 (.data 26 p.v), .var 37 (.data 37 s.v), .var 149 (.data 149 (.agg ((offersV s i).map V.int)))], out := [], nt := 144 }) (4) ⟨0, rfl, ⟨by omega, hv, ho, (show i = 6 by omega) ▸ hg, rfl⟩, rfl⟩ ?_)
       rintro n τ ⟨i, hn, ⟨hi, hv, ho, hg, hc⟩, rfl⟩)
    | ((with_reducible refine SA.atLoop ?_)
       refine SA.weaken (St.le.of_eq (by first | rfl | (simp; done) | fail)) (SA.loop (fun n τ => ∃ (i : Nat), n = 6 - i ∧ (i ≤ 6 ∧ varsOk p s 8 = true ∧ ownersOk p s 4 = true ∧ gorsOk p s 6 = true ∧ chansOk p s 4 = true ∧ waitsOk s i = true) ∧ τ = { tm := [(11, true, .ptr 2 [] 149), (129, true, .data 35 (.agg (s.gos.map Gor.v))), (130, true, .int .i64 i)], ob := [.var 26 (.data 26 p.v), .var 37 (.data 37 s.v), .var 149 (.data 149 (.agg ((offersV s 4).map V.int)))], out := [], nt := 144 }) (6) ⟨0, rfl, ⟨by omega, hv, ho, hg, hc, rfl⟩, rfl⟩ ?_)
       rintro n τ ⟨i, hn, ⟨hi, hv, ho, hg, hc, hw4⟩, rfl⟩)
    | ((with_reducible refine loopK.round ?_)
       first
         | (have hlt : i < 8 := by omega
            have hw := wrap_succ (n := i) (m := 256) (by omega) (by decide)
            refine loopK.normal (8 - (i + 1)) _ (by omega) (St.le.of_eq (by simp only [hw])) ⟨i + 1, rfl, ⟨hlt, fun k h1 h2 => ?_⟩, rfl⟩
            by_cases h3 : k < i
            · exact hz k h3 h2
            · have h4 : k = i := by omega
              rw [h4] at h2 ⊢
              exact hb43 (by omega))
         | (have hlt : i < 4 := by omega
            have hw := wrap_succ (n := i) (m := 256) (by omega) (by decide)
            refine loopK.normal (4 - (i + 1)) _ (by omega) (St.le.of_eq (by simp only [hw])) ⟨i + 1, rfl, ⟨hlt, hv, own_succ ho hb68⟩, rfl⟩)
         | (have hlt : i < 6 := by omega
            have hw := wrap_succ (n := i) (m := 256) (by omega) (by decide)
            refine loopK.normal (6 - (i + 1)) _ (by omega) ((St.le.cut 2 rfl).trans (St.le.of_eq (by simp only [hw, List.take_succ_cons, List.take_zero]))) ⟨i + 1, rfl, ⟨hlt, hv, ho, gors_succ hg ⟨hb96.2, hb96.1⟩⟩, rfl⟩)
         | (have q := hb112
            have hlt : i < 4 := by omega
            have hw := wrap_succ (n := i) (m := 256) (by omega) (by decide)
            have e := offersV_miss (s := s) (i := i) (zero_offer _ hb112)
            refine loopK.normal (4 - (i + 1)) _ (by omega) ((St.le.cut 3 rfl).trans (St.le.of_eq (by simp only [hw, e, List.take_succ_cons, List.take_zero]))) ⟨i + 1, rfl, ⟨hlt, hv, ho, hg, chans_succ hc ⟨fun _ => hb112, fun h => by omega⟩⟩, rfl⟩)
         | (have q : _ = _ := hb120
            have hlt : i < 4 := by omega
            have hw := wrap_succ (n := i) (m := 256) (by omega) (by decide)
            have e := offersV_miss (s := s) (i := i) hb120
            refine loopK.normal (4 - (i + 1)) _ (by omega) ((St.le.cut 3 rfl).trans (St.le.of_eq (by simp only [hw, e, List.take_succ_cons, List.take_zero]))) ⟨i + 1, rfl, ⟨hlt, hv, ho, hg, chans_succ hc ⟨fun h => by omega, fun _ => hb117⟩⟩, rfl⟩)
         | (have q : ¬_ = _ := hb120
            have hlt : i < 4 := by omega
            have hw := wrap_succ (n := i) (m := 256) (by omega) (by decide)
            have hfr := chan_from hb117 hb120
            have hfs := offersTo_small s (s.chans.getD i default).from_ i
            have hw2 : IntKind.i64.wrap ((offersTo s (s.chans.getD i default).from_ i : Int) + 1) = (offersTo s (s.chans.getD i default).from_ i : Int) + 1 := wrap64_ok (by omega) (by omega)
            have e := offersV_hit (s := s) (i := i) hb120 hfr.1 (by omega)
            have hfo := offersV_at s i (g := (s.chans.getD i default).from_) hfr.1 (by omega)
            refine loopK.normal (4 - (i + 1)) _ (by omega) ((St.le.cut 3 rfl).trans (St.le.of_eq ?_)) ⟨i + 1, rfl, ⟨hlt, hv, ho, hg, chans_succ hc ⟨fun h => by omega, fun _ => hb117⟩⟩, rfl⟩
            simp only [hw, hfo, hw2, set_ints, e, List.take_succ_cons, List.take_zero])
         | (have hlt : i < 6 := by omega
            have hw := wrap_succ (n := i) (m := 256) (by omega) (by decide)
            refine loopK.normal (6 - (i + 1)) _ (by omega) ((St.le.cut 3 rfl).trans (St.le.of_eq (by simp only [hw, List.take_succ_cons, List.take_zero]))) ⟨i + 1, rfl, ⟨hlt, hv, ho, hg, hc, waits_succ hw4 (fun q => (offersV_nat s hlt).symm.trans (hb142 q))⟩, rfl⟩))
    | ((with_reducible first | refine ctrK.normal ?_ | refine ctrK.ret ?_)
       simp only [go_sem, resA, resV, backK, seval]
       first
         | (have q : (_ ∨ _) ∨ _ := hb28
            refine ⟨rfl, ?_⟩
            rw [valid_no (p := p) (s := s) (by rcases hb28 with (h | h) | h; exact .inl h; exact .inr (.inl h); exact .inr (.inr (.inl h)))])
         | (have q : _ ∧ _ := hb43
            refine ⟨rfl, ?_⟩
            rw [valid_no (p := p) (s := s) (.inr (.inr (.inr (.inr (.inl (vars_bad hb43.1 (by omega) hb43.2))))))])
         | (have q : (_ ∨ _) ∨ _ := hb68
            refine ⟨rfl, ?_⟩
            rw [valid_no (p := p) (s := s) (.inr (.inr (.inr (.inr (.inr (.inl (own_bad (by omega) hb68)))))))])
         | (have q : _ ∨ _ := hb96
            refine ⟨rfl, ?_⟩
            rw [valid_no (p := p) (s := s) (.inr (.inr (.inr (.inl (gors_bad (i := i) (by omega) (by rcases hb96 with h | h; exact .inr h; exact .inl h))))))])
         | (have q : ¬_ := hb112
            refine ⟨rfl, ?_⟩
            rw [valid_no (p := p) (s := s) (.inr (.inr (.inr (.inr (.inr (.inr (.inl (chans_bad (i := i) (by omega) (.inl ⟨by omega, hb112⟩)))))))))])
         | (have q : _ = false := hb117
            refine ⟨rfl, ?_⟩
            rw [valid_no (p := p) (s := s) (.inr (.inr (.inr (.inr (.inr (.inr (.inl (chans_bad (i := i) (by omega) (.inr ⟨by omega, hb117⟩)))))))))])
         | (have q : _ ∧ _ := hb142
            have hci : (i : Int) < s.count := by
              by_cases h : (i : Int) < s.count
              · exact h
              · have := List.all_eq_true.1 hg i (List.mem_range.2 (by omega))
                rw [if_neg h] at this
                have := zero_status _ (of_decide_eq_true this)
                simp only [Stt.gor, Int.toNat_natCast] at this
                omega
            refine ⟨rfl, ?_⟩
            rw [valid_no (p := p) (s := s) (.inr (.inr (.inr (.inr (.inr (.inr (.inr (waits_bad (n := s.count.toNat) (i := i) (by omega) ⟨hb142.1, by rw [← offersV_nat s (by omega)]; exact hb142.2⟩))))))))])
         | (have hi6 : i = 6 := by omega
            subst hi6
            refine ⟨rfl, ?_⟩
            rw [valid_yes hr ⟨by omega, by omega⟩ hg hv ho hc (waits_less hw4 (by omega))]))

end Go.Eng.Tryz
/- What the document's operations of numbers compute, bit by bit. -/
namespace Go.Eng
set_option linter.unusedSimpArgs false
set_option linter.unusedVariables false

/-- A loop's state behind n rounds. -/
def upto {α : Type} (f : Nat → α → α) (a : α) : Nat → α
  | 0 => a
  | n + 1 => f n (upto f a n)
theorem upto_succ {α : Type} (f : Nat → α → α) (a : α) (n : Nat) : upto f a (n + 1) = f n (upto f a n) := rfl
theorem upto_zero {α : Type} (f : Nat → α → α) (a : α) : upto f a 0 = a := rfl

def bitW (x k : Int) : Int := IntKind.i64.wrap (IntKind.u64.wrap (BitVec.ofInt 64 ((IntKind.u64.wrap x).fdiv (2 ^ min (IntKind.u64.wrap k).toNat 64)) &&& 1#64).toNat)
def putW (x k y : Int) : Int := IntKind.i64.wrap (IntKind.u64.wrap (BitVec.ofInt 64 (IntKind.u64.wrap x) ||| BitVec.ofInt 64 (IntKind.u64.wrap (IntKind.u64.wrap y * 2 ^ min (IntKind.u64.wrap k).toNat 64))).toNat)
def fewW (x : Int) : Int := if 64 < x then 64 else x
def arityW (x : Int) : Int := if x < 1 ∨ 36 < x then 0 else if x ≤ 15 then 1 else 2
def convR (a n : Int) (sign : Bool) (k : Nat) (r : Int) : Int := putW r k (if (k : Int) < n then bitW a k else if sign then bitW a (IntKind.i64.wrap (n - 1)) else 0)
def convW (a n : Int) (sign : Bool) : Int := upto (convR a n sign) 0 64
def onesR (a : Int) (k : Nat) (n : Int) : Int := IntKind.i64.wrap (n + bitW a k)
def flipR (a : Int) (k : Nat) (r : Int) : Int := putW r k (bitW a (IntKind.i64.wrap (63 - (k : Int))))
def leadW (a : Int) : Nat := (List.range 64).findIdx fun (j : Nat) => decide (bitW a (63 - (j : Int)) ≠ 0)
def trailW (a : Int) : Nat := (List.range 64).findIdx fun (j : Nat) => decide (bitW a j ≠ 0)
def oneW (op a : Int) : Int :=
  if op = 1 then IntKind.i64.wrap (0 - a)
  else if op = 2 then IntKind.i64.wrap (-1 - a)
  else if op = 3 then (if a < 0 then IntKind.i64.wrap (0 - a) else a)
  else if op = 4 then upto (onesR a) 0 64
  else if op = 5 then leadW a
  else if op = 6 then trailW a
  else if op = 7 then upto (flipR a) 0 64
  else if op = 8 then yes (decide (a ≠ 0))
  else if op = 9 then yes (decide (a = 0))
  else if op = 10 then convW a 8 true
  else if op = 11 then convW a 16 true
  else if op = 12 then convW a 32 true
  else if op = 13 then convW a 8 false
  else if op = 14 then convW a 16 false
  else convW a 32 false
def bitOp (op x y : Int) : Bool :=
  if op = 21 then decide (IntKind.i64.wrap (x + y) = 2)
  else if op = 22 then decide (0 < IntKind.i64.wrap (x + y))
  else if op = 23 then decide (IntKind.i64.wrap (x + y) = 1)
  else if op = 24 then decide (x = 1) && decide (y = 0)
  else false
def bitsR (op a b : Int) (k : Nat) (r : Int) : Int := putW r k (yes (bitOp op (bitW a k) (bitW b k)))
def bitsW (op a b : Int) : Int := upto (bitsR op a b) 0 64
def shiftR (a by_ fill : Int) (k : Nat) (r : Int) : Int :=
  putW r k (if 0 ≤ IntKind.i64.wrap ((k : Int) - by_) ∧ IntKind.i64.wrap ((k : Int) - by_) < 64 then bitW a (IntKind.i64.wrap ((k : Int) - by_)) else fill)
def shiftW (a by_ fill : Int) : Int := upto (shiftR a by_ fill) 0 64
def rotR (a b : Int) (k : Nat) (r : Int) : Int :=
  putW r k (bitW a ((IntKind.i64.wrap ((IntKind.i64.wrap ((k : Int) - b.tmod 64)).tmod 64 + 64)).tmod 64))
def rotW (a b : Int) : Int := upto (rotR a b) 0 64
def wideR (a b : Int) (j : Nat) (x : Int × Int) : Int × Int :=
  let k : Int := 63 - (j : Int)
  let hi := IntKind.i64.wrap (IntKind.i64.wrap (x.1 * 2) + IntKind.i64.wrap (x.2.fdiv (2 ^ 63)))
  let lo := IntKind.u64.wrap (x.2 * 2)
  if bitW b k = 0 then (hi, lo)
  else if k = 63 then
    let lo1 := IntKind.u64.wrap (lo - IntKind.u64.wrap a)
    let hi1 := IntKind.i64.wrap (hi - a.fdiv (2 ^ 63))
    (if lo < IntKind.u64.wrap a then IntKind.i64.wrap (hi1 - 1) else hi1, lo1)
  else
    let lo1 := IntKind.u64.wrap (lo + IntKind.u64.wrap a)
    let hi1 := IntKind.i64.wrap (hi + a.fdiv (2 ^ 63))
    (if lo1 < lo then IntKind.i64.wrap (hi1 + 1) else hi1, lo1)
def wideW (a b : Int) : Int × Int := upto (wideR a b) (0, 0) 64
def heldW (op a b : Int) : Int :=
  if op = 29 then yes (decide (a = b))
  else if op = 30 then yes (decide (a ≠ b))
  else if op = 31 then yes (decide (a < b))
  else if op = 32 then yes (decide (a ≤ b))
  else if op = 33 then yes (decide (IntKind.u64.wrap a < IntKind.u64.wrap b))
  else if op = 34 then (if b < a then b else a)
  else if op = 35 then (if a < b then b else a)
  else (wideW a b).1
def twoW (op a b : Int) : Int × Int :=
  if op = 16 then (IntKind.i64.wrap (a + b), 0)
  else if op = 17 then (IntKind.i64.wrap (a - b), 0)
  else if op = 18 then (IntKind.i64.wrap (wideW a b).2, 0)
  else if op = 19 ∨ op = 20 then
    if b = 0 then (0, 20)
    else if b = -1 then (if op = 19 then (IntKind.i64.wrap (0 - a), 0) else (0, 0))
    else if op = 19 then (IntKind.i64.wrap (a.tdiv b), 0)
    else (IntKind.i64.wrap (a - IntKind.i64.wrap (IntKind.i64.wrap (a.tdiv b) * b)), 0)
  else if op = 21 ∨ op = 22 ∨ op = 23 ∨ op = 24 then (bitsW op a b, 0)
  else if op = 25 ∨ op = 26 ∨ op = 27 then
    if b < 0 then (0, 21)
    else if op = 25 then (shiftW a (fewW b) 0, 0)
    else if op = 26 then (shiftW a (IntKind.i64.wrap (0 - fewW b)) (bitW a 63), 0)
    else (shiftW a (IntKind.i64.wrap (0 - fewW b)) 0, 0)
  else if op = 28 then (rotW a b, 0)
  else (heldW op a b, 0)
def applyW (op a b : Int) : Int × Int := if arityW op = 0 then (0, 22) else if arityW op = 1 then (oneW op a, 0) else twoW op a b

end Go.Eng
/- Words bit by bit: what is made of bits one by one is what the machine's words make. -/
namespace Go.Eng
set_option linter.unusedSimpArgs false
set_option linter.unusedVariables false

theorem wrap64_bv (x : Int) : IntKind.i64.wrap x = (BitVec.ofInt 64 x).toInt := by
  rw [BitVec.toInt_ofInt]
  simp only [IntKind.wrap, IntKind.bits, IntKind.signed, Int.bmod]
  simp
  split <;> split <;> omega
theorem wrapu_bv (x : Int) : IntKind.u64.wrap x = ((BitVec.ofInt 64 x).toNat : Int) := by
  rw [BitVec.toNat_ofInt]
  simp only [IntKind.wrap, IntKind.bits, IntKind.signed]
  simp
  omega
theorem BW_nat (z : BitVec 64) : BitVec.ofInt 64 (z.toNat : Int) = z := by
  rw [BitVec.ofInt_natCast, BitVec.ofNat_toNat, BitVec.setWidth_eq]
theorem BW_int (z : BitVec 64) : BitVec.ofInt 64 z.toInt = z := BitVec.ofInt_toInt
theorem BW_wrapu (x : Int) : BitVec.ofInt 64 (IntKind.u64.wrap x) = BitVec.ofInt 64 x := by rw [wrapu_bv, BW_nat]
theorem BW_wrap (x : Int) : BitVec.ofInt 64 (IntKind.i64.wrap x) = BitVec.ofInt 64 x := by rw [wrap64_bv, BW_int]
theorem wrap_wrapu (x : Int) : IntKind.i64.wrap (IntKind.u64.wrap x) = IntKind.i64.wrap x := by rw [wrap64_bv, BW_wrapu, ← wrap64_bv]
theorem wrap_nat (z : BitVec 64) : IntKind.i64.wrap (z.toNat : Int) = z.toInt := by rw [wrap64_bv, BW_nat]
theorem and_one (z : BitVec 64) : z &&& 1#64 = if z.getLsbD 0 then 1#64 else 0#64 := by
  apply BitVec.eq_of_getLsbD_eq
  intro i hi
  rw [BitVec.getLsbD_and]
  by_cases h0 : i = 0
  · subst h0
    cases z.getLsbD 0 <;> rfl
  · have e : (1#64).getLsbD i = false := by rw [BitVec.getLsbD_one]; simp [h0]
    rw [e, Bool.and_false]
    split
    · rw [e]
    · simp
theorem fdiv_pow (z : BitVec 64) (n : Nat) : ((z.toNat : Int)).fdiv (2 ^ n) = ((z >>> n).toNat : Int) := by
  rw [BitVec.toNat_ushiftRight, Nat.shiftRight_eq_div_pow, Int.fdiv_eq_ediv_of_nonneg _ (Int.le_of_lt (Int.pow_pos (by decide)))]
  simp
theorem bitW_at (x : Int) {n : Nat} (h : n < 64) : bitW x n = yes ((BitVec.ofInt 64 x).getLsbD n) := by
  have hk : (IntKind.u64.wrap (n : Int)).toNat = n := by rw [show IntKind.u64.wrap (n : Int) = (n : Int) by simp [IntKind.wrap, IntKind.signed, IntKind.bits]; omega]; rfl
  unfold bitW
  rw [hk, Nat.min_eq_left (by omega), wrapu_bv x, fdiv_pow, BW_nat, and_one, BitVec.getLsbD_ushiftRight]
  simp only [Nat.add_zero]
  cases (BitVec.ofInt 64 x).getLsbD n <;> decide
theorem BW_pow {n : Nat} (h : n < 64) : BitVec.ofInt 64 (2 ^ n) = BitVec.twoPow 64 n := by
  apply BitVec.eq_of_toNat_eq
  rw [BitVec.toNat_ofInt, BitVec.toNat_twoPow]
  have e : ((2 : Int) ^ n) = ((2 ^ n : Nat) : Int) := by simp
  rw [e, ← Int.natCast_emod]
  rfl
set_option linter.unusedVariables false in
theorem putW_at (r : BitVec 64) {n : Nat} (h : n < 64) (b : Bool) : putW r.toInt n (yes b) = (r ||| if b then BitVec.twoPow 64 n else 0#64).toInt := by
  have hk : (IntKind.u64.wrap (n : Int)).toNat = n := by rw [show IntKind.u64.wrap (n : Int) = (n : Int) by simp [IntKind.wrap, IntKind.signed, IntKind.bits]; omega]; rfl
  unfold putW
  rw [hk, Nat.min_eq_left (by omega), wrap_wrapu, show BitVec.ofInt 64 (IntKind.u64.wrap r.toInt) = r from (BW_wrapu _).trans (BW_int r), show ∀ x, BitVec.ofInt 64 (IntKind.u64.wrap x) = BitVec.ofInt 64 x from BW_wrapu, wrap_nat]
  congr 2
  cases b
  · simp [yes, IntKind.wrap, IntKind.signed, IntKind.bits]
  · have e : IntKind.u64.wrap (yes true) * 2 ^ n = 2 ^ n := by simp [yes, IntKind.wrap, IntKind.signed, IntKind.bits]
    rw [e, BW_pow h]; rfl

def bvOf (f : Nat → Bool) : Nat → BitVec 64
  | 0 => 0#64
  | n + 1 => bvOf f n ||| if f n then BitVec.twoPow 64 n else 0#64
theorem bvOf_bit (f : Nat → Bool) : ∀ n, n ≤ 64 → ∀ i, (bvOf f n).getLsbD i = (decide (i < n) && f i)
  | 0, _, i => by simp [bvOf]
  | n + 1, h, i => by
    unfold bvOf
    rw [BitVec.getLsbD_or, bvOf_bit f n (by omega) i]
    by_cases h1 : i = n
    · subst h1
      cases f i <;> simp [BitVec.getLsbD_twoPow]
      omega
    · have e : (if f n then BitVec.twoPow 64 n else 0#64).getLsbD i = false := by
        cases f n <;> simp [BitVec.getLsbD_twoPow]
        omega
      rw [e, Bool.or_false]
      congr 1
      exact decide_eq_decide.2 ⟨fun q => by omega, fun q => by omega⟩
theorem upto_bits {f : Nat → Bool} {g : Nat → Int → Int} (hg : ∀ k r, k < 64 → g k r = putW r k (yes (f k))) : ∀ n, n ≤ 64 → upto g 0 n = (bvOf f n).toInt
  | 0, _ => rfl
  | n + 1, h => by rw [upto_succ, upto_bits hg n (by omega), hg n _ (by omega), putW_at _ (by omega)]; rfl
/-- Made of bits one by one: the word that has these bits. -/
theorem upto_is {f : Nat → Bool} {g : Nat → Int → Int} {x : Int} (hg : ∀ k r, k < 64 → g k r = putW r k (yes (f k))) (h : ∀ i, i < 64 → (BitVec.ofInt 64 x).getLsbD i = f i) : upto g 0 64 = IntKind.i64.wrap x := by
  rw [upto_bits hg 64 (by omega), wrap64_bv]
  congr 1
  apply BitVec.eq_of_getLsbD_eq
  intro i hi
  rw [bvOf_bit f 64 (by omega), h i hi]
  simp [hi]
theorem yes_ite {c : Prop} [Decidable c] (a b : Bool) : (if c then yes a else yes b) = yes (if c then a else b) := by split <;> rfl

/-! ### Conversions -/
theorem narrow_bit (a : Int) {w i : Nat} (hw : w ≤ 64) (h : i < w) : (BitVec.ofInt w a).getLsbD i = (BitVec.ofInt 64 a).getLsbD i := by
  have e : BitVec.ofInt w a = (BitVec.ofInt 64 a).setWidth w := by
    apply BitVec.eq_of_toNat_eq
    rw [BitVec.toNat_setWidth, BitVec.toNat_ofInt, BitVec.toNat_ofInt]
    have hd : (2 ^ w : Nat) ∣ 2 ^ 64 := Nat.pow_dvd_pow 2 hw
    have h1 : (0 : Int) ≤ a % ((2 ^ 64 : Nat) : Int) := Int.emod_nonneg _ (by decide)
    have h2 : ((a % ((2 ^ 64 : Nat) : Int)).toNat : Int) = a % ((2 ^ 64 : Nat) : Int) := Int.toNat_of_nonneg h1
    have h3 : (((a % ((2 ^ 64 : Nat) : Int)).toNat % 2 ^ w : Nat) : Int) = a % ((2 ^ w : Nat) : Int) := by
      rw [Int.natCast_emod, h2]
      exact Int.emod_emod_of_dvd _ (Int.natCast_dvd_natCast.2 hd)
    have h4 : (0 : Int) ≤ a % ((2 ^ w : Nat) : Int) := Int.emod_nonneg _ (by have := Nat.two_pow_pos w; omega)
    omega
  rw [e, BitVec.getLsbD_setWidth]
  simp [h]
theorem convW_gen (a : Int) {w : Nat} (h0 : 1 ≤ w) (hw : w ≤ 64) (s : Bool) (x : Int) (hx : ∀ i, i < 64 → (BitVec.ofInt 64 x).getLsbD i = if (i : Int) < w then (BitVec.ofInt 64 a).getLsbD i else if s then (BitVec.ofInt 64 a).getLsbD (w - 1) else false) : convW a w s = IntKind.i64.wrap x := by
  unfold convW
  refine upto_is (f := fun i => if (i : Int) < w then (BitVec.ofInt 64 a).getLsbD i else if s then (BitVec.ofInt 64 a).getLsbD (w - 1) else false) (fun k r hk => ?_) hx
  unfold convR
  have e : IntKind.i64.wrap ((w : Int) - 1) = ((w - 1 : Nat) : Int) := by simp [IntKind.wrap, IntKind.signed, IntKind.bits]; omega
  rw [e, bitW_at a hk, bitW_at a (show w - 1 < 64 by omega), show (0 : Int) = yes false from rfl, yes_ite, yes_ite]
theorem convS (a : Int) {w : Nat} (h0 : 1 ≤ w) (hw : w ≤ 64) : convW a w true = IntKind.i64.wrap (BitVec.ofInt w a).toInt := by
  refine convW_gen a h0 hw true _ fun i hi => ?_
  have e : BitVec.ofInt 64 (BitVec.ofInt w a).toInt = (BitVec.ofInt w a).signExtend 64 := rfl
  rw [e, BitVec.getLsbD_signExtend]
  simp only [hi, decide_true, Bool.true_and, if_true]
  by_cases h : i < w
  · rw [if_pos h, if_pos (by omega), narrow_bit a hw h]
  · rw [if_neg h, if_neg (by omega), BitVec.msb_eq_getLsbD_last, narrow_bit a hw (by omega)]
theorem convU (a : Int) {w : Nat} (h0 : 1 ≤ w) (hw : w ≤ 64) : convW a w false = IntKind.i64.wrap ((BitVec.ofInt w a).toNat : Int) := by
  refine convW_gen a h0 hw false _ fun i hi => ?_
  have e : BitVec.ofInt 64 ((BitVec.ofInt w a).toNat : Int) = (BitVec.ofInt w a).setWidth 64 := by
    rw [BitVec.ofInt_natCast, BitVec.ofNat_toNat]
  rw [e, BitVec.getLsbD_setWidth]
  simp only [hi, decide_true, Bool.true_and]
  by_cases h : i < w
  · rw [if_pos (by omega), narrow_bit a hw h]
  · rw [if_neg (by omega), BitVec.getLsbD_of_ge _ _ (by omega)]; rfl
theorem wrapS8 (a : Int) : IntKind.i8.wrap a = (BitVec.ofInt 8 a).toInt := by
  rw [BitVec.toInt_ofInt]
  simp only [IntKind.wrap, IntKind.bits, IntKind.signed, Int.bmod]
  simp
  split <;> split <;> omega
theorem wrapS16 (a : Int) : IntKind.i16.wrap a = (BitVec.ofInt 16 a).toInt := by
  rw [BitVec.toInt_ofInt]
  simp only [IntKind.wrap, IntKind.bits, IntKind.signed, Int.bmod]
  simp
  split <;> split <;> omega
theorem wrapS32 (a : Int) : IntKind.i32.wrap a = (BitVec.ofInt 32 a).toInt := by
  rw [BitVec.toInt_ofInt]
  simp only [IntKind.wrap, IntKind.bits, IntKind.signed, Int.bmod]
  simp
  split <;> split <;> omega
theorem wrapU8 (a : Int) : IntKind.u8.wrap a = ((BitVec.ofInt 8 a).toNat : Int) := by
  rw [BitVec.toNat_ofInt]
  simp only [IntKind.wrap, IntKind.bits, IntKind.signed]
  simp
  omega
theorem wrapU16 (a : Int) : IntKind.u16.wrap a = ((BitVec.ofInt 16 a).toNat : Int) := by
  rw [BitVec.toNat_ofInt]
  simp only [IntKind.wrap, IntKind.bits, IntKind.signed]
  simp
  omega
theorem wrapU32 (a : Int) : IntKind.u32.wrap a = ((BitVec.ofInt 32 a).toNat : Int) := by
  rw [BitVec.toNat_ofInt]
  simp only [IntKind.wrap, IntKind.bits, IntKind.signed]
  simp
  omega

theorem bits_gen {op a b : Int} {f : Bool → Bool → Bool} (hf : ∀ x y, bitOp op (yes x) (yes y) = f x y) {z : BitVec 64} (hz : ∀ i, i < 64 → z.getLsbD i = f ((BitVec.ofInt 64 a).getLsbD i) ((BitVec.ofInt 64 b).getLsbD i)) : bitsW op a b = IntKind.i64.wrap (z.toNat : Int) := by
  unfold bitsW
  refine upto_is (f := fun i => f ((BitVec.ofInt 64 a).getLsbD i) ((BitVec.ofInt 64 b).getLsbD i)) (fun k r hk => ?_) fun i hi => ?_
  · unfold bitsR
    rw [bitW_at a hk, bitW_at b hk, hf]
  · rw [BW_nat]; exact hz i hi
theorem bits_and (a b : Int) : bitsW 21 a b = IntKind.i64.wrap ((BitVec.ofInt 64 a &&& BitVec.ofInt 64 b).toNat : Int) :=
  bits_gen (f := fun x y => x && y) (by intro x y; cases x <;> cases y <;> decide) fun i _ => by rw [BitVec.getLsbD_and]
theorem bits_or (a b : Int) : bitsW 22 a b = IntKind.i64.wrap ((BitVec.ofInt 64 a ||| BitVec.ofInt 64 b).toNat : Int) :=
  bits_gen (f := fun x y => x || y) (by intro x y; cases x <;> cases y <;> decide) fun i _ => by rw [BitVec.getLsbD_or]
theorem bits_xor (a b : Int) : bitsW 23 a b = IntKind.i64.wrap ((BitVec.ofInt 64 a ^^^ BitVec.ofInt 64 b).toNat : Int) :=
  bits_gen (f := fun x y => x ^^ y) (by intro x y; cases x <;> cases y <;> decide) fun i _ => by rw [BitVec.getLsbD_xor]
theorem bits_clear (a b : Int) : bitsW 24 a b = IntKind.i64.wrap ((BitVec.ofInt 64 a &&& ~~~BitVec.ofInt 64 b).toNat : Int) :=
  bits_gen (f := fun x y => x && !y) (by intro x y; cases x <;> cases y <;> decide) fun i hi => by rw [BitVec.getLsbD_and, BitVec.getLsbD_not]; simp [hi]

/-! ### Shifts -/
theorem shift_gen {a by_ fill x : Int} {F : Bool} (hF : fill = yes F) (h0 : -64 ≤ by_ ∧ by_ ≤ 64) (hx : ∀ i : Nat, i < 64 → (BitVec.ofInt 64 x).getLsbD i = if 0 ≤ (i : Int) - by_ ∧ (i : Int) - by_ < 64 then (BitVec.ofInt 64 a).getLsbD ((i : Int) - by_).toNat else F) : shiftW a by_ fill = IntKind.i64.wrap x := by
  unfold shiftW
  refine upto_is (f := fun i => if 0 ≤ (i : Int) - by_ ∧ (i : Int) - by_ < 64 then (BitVec.ofInt 64 a).getLsbD ((i : Int) - by_).toNat else F) (fun k r hk => ?_) hx
  unfold shiftR
  have e : IntKind.i64.wrap ((k : Int) - by_) = (k : Int) - by_ := by simp [IntKind.wrap, IntKind.signed, IntKind.bits]; omega
  rw [e]
  congr 1
  by_cases h : 0 ≤ (k : Int) - by_ ∧ (k : Int) - by_ < 64
  · rw [if_pos h, if_pos h]
    have e2 : (k : Int) - by_ = (((k : Int) - by_).toNat : Int) := (Int.toNat_of_nonneg h.1).symm
    rw [e2, bitW_at a (by omega)]
    rfl
  · rw [if_neg h, if_neg h, hF]
theorem few_nat {b : Int} (h : 0 ≤ b) : fewW b = ((min b.toNat 64 : Nat) : Int) := by unfold fewW; split <;> omega
theorem few_neg {b : Int} (h : 0 ≤ b) : IntKind.i64.wrap (0 - fewW b) = -((min b.toNat 64 : Nat) : Int) := by rw [few_nat h]; simp [IntKind.wrap, IntKind.signed, IntKind.bits]; omega
theorem BW_mul (x y : Int) : BitVec.ofInt 64 (x * y) = BitVec.ofInt 64 x * BitVec.ofInt 64 y := BitVec.ofInt_mul ..
theorem BW_shl (a : Int) {n : Nat} (h : n ≤ 64) : BitVec.ofInt 64 (a * 2 ^ n) = BitVec.ofInt 64 a <<< n := by
  by_cases h1 : n = 64
  · subst h1
    rw [BW_mul, show BitVec.ofInt 64 (2 ^ 64) = 0#64 from by decide, BitVec.mul_zero, BitVec.shiftLeft_eq_zero (by omega)]
  · rw [BW_mul, BW_pow (by omega), BitVec.mul_twoPow_eq_shiftLeft]
theorem shl_W (a : Int) {b : Int} (h : 0 ≤ b) : shiftW a (fewW b) 0 = IntKind.i64.wrap (a * 2 ^ min b.toNat 64) := by
  rw [few_nat h]
  generalize hn : min b.toNat 64 = n
  refine shift_gen (F := false) rfl (by omega) fun i hi => ?_
  rw [BW_shl a (by omega), BitVec.getLsbD_shiftLeft]
  simp only [hi, decide_true, Bool.true_and]
  by_cases h1 : i < n
  · rw [if_neg (by omega)]; simp [h1]
  · rw [if_pos (by omega)]
    simp only [h1, decide_false, Bool.not_false, Bool.true_and]
    congr 1
    omega
theorem BW_sar {a : Int} (ha : IntKind.i64.wrap a = a) (n : Nat) : BitVec.ofInt 64 (a.fdiv (2 ^ n)) = (BitVec.ofInt 64 a).sshiftRight n := by
  rw [Int.fdiv_eq_ediv_of_nonneg _ (Int.le_of_lt (Int.pow_pos (by decide)))]
  rw [wrap64_bv] at ha
  unfold BitVec.sshiftRight
  rw [ha, Int.shiftRight_eq_div_pow]
  simp
theorem sar_W {a b : Int} (ha : IntKind.i64.wrap a = a) (h : 0 ≤ b) : shiftW a (IntKind.i64.wrap (0 - fewW b)) (bitW a 63) = IntKind.i64.wrap (a.fdiv (2 ^ min b.toNat 64)) := by
  rw [few_neg h]
  generalize hn : min b.toNat 64 = n
  refine shift_gen (F := (BitVec.ofInt 64 a).getLsbD 63) (bitW_at a (n := 63) (by decide)) (by omega) fun i hi => ?_
  rw [BW_sar ha, BitVec.getLsbD_sshiftRight]
  simp only [show ¬64 ≤ i by omega, decide_false, Bool.not_false, Bool.true_and]
  by_cases h1 : n + i < 64
  · rw [if_pos h1, if_pos (by omega)]
    congr 1
    omega
  · rw [if_neg h1, if_neg (by omega), BitVec.msb_eq_getLsbD_last]
theorem shr_W (a : Int) {b : Int} (h : 0 ≤ b) : shiftW a (IntKind.i64.wrap (0 - fewW b)) 0 = IntKind.i64.wrap ((IntKind.u64.wrap a).fdiv (2 ^ min b.toNat 64)) := by
  rw [few_neg h]
  generalize hn : min b.toNat 64 = n
  refine shift_gen (F := false) rfl (by omega) fun i hi => ?_
  rw [wrapu_bv, fdiv_pow, BW_nat, BitVec.getLsbD_ushiftRight]
  by_cases h1 : n + i < 64
  · rw [if_pos (by omega)]
    congr 1
    omega
  · rw [if_neg (by omega), BitVec.getLsbD_of_ge _ _ (by omega)]

/-! ### Rotations, bits turned about -/
theorem rot_at {b : Int} {k : Nat} (hk : k < 64) : (IntKind.i64.wrap ((IntKind.i64.wrap ((k : Int) - b.tmod 64)).tmod 64 + 64)).tmod 64 = (((k : Int) - b) % 64) := by
  have h1 := Int.tmod_lt_of_pos b (show (0 : Int) < 64 by decide)
  have h2 := Int.lt_tmod_of_pos b (show (0 : Int) < 64 by decide)
  have e0 : b.tmod 64 = b - 64 * b.tdiv 64 := Int.tmod_def b 64
  have e1 : IntKind.i64.wrap ((k : Int) - b.tmod 64) = (k : Int) - b.tmod 64 := by simp only [IntKind.wrap, IntKind.signed, IntKind.bits]; simp; omega
  rw [e1]
  generalize ht : (k : Int) - b.tmod 64 = t at *
  have h3 := Int.tmod_lt_of_pos t (show (0 : Int) < 64 by decide)
  have h4 := Int.lt_tmod_of_pos t (show (0 : Int) < 64 by decide)
  have e2 : t.tmod 64 = t - 64 * t.tdiv 64 := Int.tmod_def t 64
  have e3 : IntKind.i64.wrap (t.tmod 64 + 64) = t.tmod 64 + 64 := by simp only [IntKind.wrap, IntKind.signed, IntKind.bits]; simp; omega
  rw [e3, Int.tmod_eq_emod_of_nonneg (by omega)]
  omega
theorem rot_W (a b : Int) {x : Int} (hx : ∀ i : Nat, i < 64 → (BitVec.ofInt 64 x).getLsbD i = (BitVec.ofInt 64 a).getLsbD (((i : Int) - b) % 64).toNat) : rotW a b = IntKind.i64.wrap x := by
  unfold rotW
  refine upto_is (f := fun i => (BitVec.ofInt 64 a).getLsbD (((i : Int) - b) % 64).toNat) (fun k r hk => ?_) hx
  unfold rotR
  rw [rot_at hk]
  have e2 : ((k : Int) - b) % 64 = ((((k : Int) - b) % 64).toNat : Int) := (Int.toNat_of_nonneg (Int.emod_nonneg _ (by decide))).symm
  rw [e2, bitW_at a (by omega)]
  rfl
theorem flip_W (a : Int) {x : Int} (hx : ∀ i : Nat, i < 64 → (BitVec.ofInt 64 x).getLsbD i = (BitVec.ofInt 64 a).getLsbD (63 - i)) : upto (flipR a) 0 64 = IntKind.i64.wrap x := by
  refine upto_is (f := fun i => (BitVec.ofInt 64 a).getLsbD (63 - i)) (fun k r hk => ?_) hx
  unfold flipR
  have e : IntKind.i64.wrap (63 - (k : Int)) = ((63 - k : Nat) : Int) := by simp [IntKind.wrap, IntKind.signed, IntKind.bits]; omega
  rw [e, bitW_at a (by omega)]
end Go.Eng
