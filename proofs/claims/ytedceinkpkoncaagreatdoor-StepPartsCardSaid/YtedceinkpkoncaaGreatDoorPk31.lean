/- What is ready and who waits, over the live goroutines. -/
import Derived.Test.YtedceinkpkoncaaGreatDoorPk29
import Derived.Test.YtedceinkpkoncaaGreatDoorPk28
import Derived.Test.YtedceinkpkoncaaGreatDoorPk30
import Derived.Test.YtedceinkpkoncaaGreatDoorPk19
namespace Go.Eng
set_option linter.unusedSimpArgs false
set_option linter.unusedVariables false
set_option linter.unusedVariables false
theorem take_getD {l : List Int} {j : Nat} (h : j < l.length) : l.take (j + 1) = l.take j ++ [l.getD j 0] := by
  rw [List.take_succ_eq_append_getElem h]; simp [List.getD_eq_getElem?_getD, h]
def rdyL (p : Prg) (s : Stt) (l : List Int) : List Pck := l.flatMap fun g => (alts p s g).map fun a => ⟨g, a⟩
theorem rdyL_snoc (p : Prg) (s : Stt) (l : List Int) (g : Int) : rdyL p s (l ++ [g]) = rdyL p s l ++ (alts p s g).map fun a => ⟨g, a⟩ := by
  unfold rdyL
  rw [List.flatMap_append]
  simp
theorem pAlts_short {p : Prg} {s : Stt} (hok : p.Ok) (hw : Wf p s) (g : Int) : (alts p s g).length ≤ 5 := by
  unfold alts
  split
  · rename_i hl
    have hl := live_iff.1 hl
    split
    · rename_i hop
      have hgi := hw.gos g hl.1.1 hl.1.2
      have hI := vis61 (hw.right hok hl.1.1 hl.1.2) (hw.op_at hok hl.1.1 hl.1.2 hop (by decide))
      have hsh := hok.short (s.gos.getD g.toNat default).func.toNat (insAt p s g).a.toNat (by omega)
      have h4 : (selAt p s g).cases.length ≤ 4 := hsh.2
      have := casesTo_len p s (selAt p s g) (selAt p s g).cases.length
      simp only
      split
      · rw [List.length_append]; simp; omega
      · omega
    · split <;> simp
  · simp
theorem rdyL_len {p : Prg} {s : Stt} (hok : p.Ok) (hw : Wf p s) : ∀ l : List Int, (rdyL p s l).length ≤ 5 * l.length
  | [] => by simp [rdyL]
  | g :: l => by
    have h1 := rdyL_len hok hw l
    have h2 := pAlts_short hok hw g
    have : rdyL p s (g :: l) = ((alts p s g).map fun a => (⟨g, a⟩ : Pck)) ++ rdyL p s l := rfl
    rw [this, List.length_append, List.length_map, List.length_cons]
    omega
theorem liveTo_mem {s : Stt} {n : Nat} {g : Int} (h : g ∈ liveTo s n) : (0 ≤ g ∧ g < n) ∧ liveB s g = true := by
  unfold liveTo at h
  obtain ⟨k, hk, rfl⟩ := List.mem_map.1 h
  obtain ⟨h1, h2⟩ := List.mem_filter.1 hk
  have := List.mem_range.1 h1
  exact ⟨by omega, h2⟩
theorem liveTo_at {p : Prg} {s : Stt} (hv : Vld p s) {k : Nat} (hk : k < (liveTo s 6).length) : (0 ≤ (liveTo s 6).getD k 0 ∧ (liveTo s 6).getD k 0 < s.count) ∧ isLive s ((liveTo s 6).getD k 0) = true := by
  have hm : (liveTo s 6).getD k 0 ∈ liveTo s 6 := by rw [List.getD_eq_getElem?_getD, List.getElem?_eq_getElem hk]; exact List.getElem_mem hk
  obtain ⟨h1, h2⟩ := liveTo_mem hm
  have h3 := liveB_count hv h1.1 h1.2 h2
  exact ⟨⟨h1.1, h3⟩, (isLive_in h1.1 h3).trans h2⟩
theorem alts_dead {p : Prg} {s : Stt} {g : Int} (h : isLive s g = false) : alts p s g = [] := if_neg (by rw [h]; simp)
theorem readyTo_over {p : Prg} {s : Stt} {n : Nat} (h : s.count ≤ n) : readyTo p s n = ready p s := by
  unfold ready readyTo
  obtain ⟨k, rfl⟩ : ∃ k, n = s.count.toNat + k := ⟨n - s.count.toNat, by omega⟩
  rw [List.range_add, List.flatMap_append]
  have : (List.map (fun x => s.count.toNat + x) (List.range k)).flatMap (fun (g : Nat) => (alts p s g).map fun a => (⟨g, a⟩ : Pck)) = [] := by
    rw [List.flatMap_eq_nil_iff]
    intro x hx
    obtain ⟨y, hy, rfl⟩ := List.mem_map.1 hx
    rw [alts_dead]
    · rfl
    · unfold isLive
      rw [decide_eq_false (show ¬((s.count.toNat + y : Nat) : Int) < s.count by omega)]; simp
  rw [this, List.append_nil]
theorem rdyL_to {p : Prg} {s : Stt} (hv : Vld p s) : ∀ n : Nat, n ≤ 6 → rdyL p s (liveTo s n) = readyTo p s n
  | 0, _ => rfl
  | n + 1, hn => by
    rw [liveTo_succ, readyTo_succ, ← rdyL_to hv n (by omega)]
    split
    · rw [rdyL_snoc]
    · rename_i h
      have : isLive s (n : Int) = false := by rw [liveB_live hv (by omega) (by omega)]; simpa using h
      rw [alts_dead this]; simp
theorem rdyL_live {p : Prg} {s : Stt} (hv : Vld p s) : rdyL p s (liveTo s 6) = ready p s := by
  rw [rdyL_to hv 6 (by omega)]
  exact readyTo_over (by have := hv.count; omega)
/-- Who waits: the live goroutines without alternatives. -/
def stuckL (p : Prg) (s : Stt) (l : List Int) : List Int := l.filter fun g => !decide (0 < (alts p s g).length)
theorem stuckL_live {p : Prg} {s : Stt} (hv : Vld p s) : stuckL p s (liveTo s 6) = waitsTo p s s.count.toNat := by
  have hc := hv.count
  unfold stuckL liveTo waitsTo
  rw [List.filter_map, List.filter_filter]
  obtain ⟨k, hk⟩ : ∃ k, 6 = s.count.toNat + k := ⟨6 - s.count.toNat, by omega⟩
  rw [hk, List.range_add, List.filter_append]
  have h2 : (List.map (fun x => s.count.toNat + x) (List.range k)).filter (fun (a : Nat) => ((fun g => !decide (0 < (alts p s g).length)) ∘ fun (g : Nat) => (g : Int)) a && liveB s (a : Int)) = [] := by
    rw [List.filter_eq_nil_iff]
    intro x hx
    obtain ⟨y, hy, rfl⟩ := List.mem_map.1 hx
    have hy := List.mem_range.1 hy
    have : isLive s ((s.count.toNat + y : Nat) : Int) = false := by
      unfold isLive
      rw [decide_eq_false (show ¬((s.count.toNat + y : Nat) : Int) < s.count by omega)]; simp
    rw [liveB_live hv (by omega) (by omega)] at this
    show ¬(_ && liveB s ((s.count.toNat + y : Nat) : Int)) = true
    rw [this, Bool.and_false]; simp
  rw [h2, List.append_nil]
  congr 1
  apply List.filter_congr
  intro x hx
  have hx := List.mem_range.1 hx
  show (!decide (0 < (alts p s (x : Int)).length) && liveB s (x : Int)) = (isLive s (x : Int) && decide ((alts p s (x : Int)).length = 0))
  rw [isLive_in (by omega) (by omega), Bool.and_comm]
  congr 1
  by_cases h : (alts p s (x : Int)).length = 0
  · rw [decide_eq_true h, decide_eq_false (show ¬0 < (alts p s (x : Int)).length by omega)]; rfl
  · rw [decide_eq_false h, decide_eq_true (show 0 < (alts p s (x : Int)).length by omega)]; rfl
end Go.Eng
namespace Go.Eng.Tryz
open Go.RowKit Go.Eng
set_option linter.unusedSimpArgs false
set_option linter.unusedVariables false
set_option maxHeartbeats 0
set_option maxRecDepth 20000

def lv26 : List (Nat × List Nat) := [(0, [2, 3]), (1, [2, 3, 6]), (2, [2, 3, 6, 16]), (3, [4, 5]), (4, [2, 3, 7]), (5, [2, 3, 7, 19, 20, 21]), (6, [2, 3, 7, 19, 20, 21, 22]), (7, [2, 3, 7, 9, 19, 20, 21]), (8, [2, 3, 7, 9, 19, 20, 21, 28, 29, 30]), (9, [2, 3, 7, 9, 19, 20, 21, 28, 29, 30, 31]), (10, [2, 3, 7, 9, 11, 19, 20, 21, 28, 29, 30]), (11, [2, 3, 7, 9, 19, 20, 21, 28, 29, 30]), (12, [2, 3, 7, 9, 19, 20, 21, 28, 29, 30]), (13, [2, 3, 7, 19, 20, 21]), (14, [4, 5])]
-- scarab/step.Ready
theorem pReady_ctr (p : Prg) (s : Stt) (hp : p.Fit) (hs : s.Shape) : Ctr Go.Proofs.Tryz.prog tab 26 [26, 37] [64, 49] [p.v, s.v] [.list ((if askErr p s = 0 then ready p s else []).map Pck.v), .int (askErr p s)] := by
  have hpp := hp
  have hfit := hp
  have hcode := p.code_len hp
  have hsl := p.sels_len hp
  obtain ⟨hp1, hp2, hp3, hp4⟩ := hp
  have hmx : 256 ≤ maxLen := by decide
  refine Ctr.body ok Go.Proofs.Tryz.func26 rfl rfl 43 rfl [.tmp 4, .tmp 5] rfl (by simp [fromVs]) ?_
  simp only [fromVs, fromV, args0, V.toList_list, V.toInt_int, V.toBool_bool, Nat.zero_add, Nat.reduceAdd, ty26, ty37]
  repeat' first
    | ((with_reducible refine SARA.do fun R1 hR1 => ?_); (simp only [go_sem, seval, -List.reduceReplicate, Bool.cond_false_right, Bool.cond_true_left, zero39, z39, z3]); (repeat' with_reducible refine And.intro ?_ ?_); all_goals first | (refine hR1 _ ?_; clear hR1 R1) | ((first | refine ⟨_, _, rfl, .inl ⟨_, CallQ.ctr ok (pasked_ctr p s hpp hs) (by first | rfl | (simp [go_sem]; done) | fail) rfl, ?_⟩⟩ | refine ⟨_, _, rfl, .inr (CallE.ctr ok (plive_ctr s hs) (by first | rfl | (simp [go_sem]; done) | fail) ?_)⟩ | refine ⟨_, _, rfl, .inr (CallE.ctr ok (palts_ctr p s ((liveTo s 6).getD i 0) hpp hr hv hgi.1 hgi.2) (by first | rfl | (simp [go_sem]; done) | fail) ?_)⟩); all_goals ((try simp only [go_sem, seval, -List.reduceReplicate, Bool.cond_false_right, Bool.cond_true_left, zero39, z39, z3]); (repeat' with_reducible refine And.intro ?_ ?_); all_goals first | (refine hR1 _ ?_; clear hR1 R1) | omega | rfl | decide | assumption | (intro _; omega) | (simp; done) | (simp [-List.getD_eq_getElem?_getD]; omega) | exact hcode _ | (intro _; exact hcode _) | exact hsl _ | (intro _; exact hsl _) | (simp [-List.getD_eq_getElem?_getD, roomFor, maxLen, by3, by39, by45, by48, by37]; omega) | (simp [-List.getD_eq_getElem?_getD, roomFor, maxLen, by3, by39, by45, by48, by37]; done))) | omega | rfl | decide | assumption | (intro _; omega) | (simp; done) | (simp [-List.getD_eq_getElem?_getD]; omega) | exact hcode _ | (intro _; exact hcode _) | exact hsl _ | (intro _; exact hsl _) | (simp [-List.getD_eq_getElem?_getD, roomFor, maxLen, by3, by39, by45, by48, by37]; omega) | (simp [-List.getD_eq_getElem?_getD, roomFor, maxLen, by3, by39, by45, by48, by37]; done))
    | ((with_reducible refine SARA.nil ?_); refine hR _ ?_; clear hR R; try simp only [go_sem, lv26, lvOf, Nat.reduceBEq, Option.getD_some])
    | (with_reducible first | refine thenK.normal ?_ | refine SA.seq ?_ | refine SA.skip ?_ | refine SA.block ?_ | refine blockK.normal ?_ | refine SA.exit ?_ | refine blockK.hit ?_ | refine blockK.miss (by decide) ?_ | refine thenK.exit ?_ | refine loopK.exit ?_ | refine SA.ret ?_ | refine thenK.ret ?_ | refine blockK.ret ?_ | refine loopK.ret ?_ | refine SA.scope ?_ | refine scopeK.normal ?_ | refine scopeK.exit ?_ | refine scopeK.ret ?_ | refine SA.label ?_)
    | ((with_reducible refine SA.at 4 ?_)
       have hr := (ask_zero hb16).1
       have hok := Prg.ok hr
       have hv := Vld.of hok hs (ask_zero hb16).2
       have hw := hv.wf hok hr
       have hll := liveTo_len s 6
       (with_reducible refine SA.regionN ok (by kernel_rfl) lv26 ?_); intro R hR; simp only [go_sem, strip])
    | ((with_reducible refine SA.at 8 ?_)
       have hgi := liveTo_at hv (k := i) (by omega)
       have hal := pAlts_short hok hw ((liveTo s 6).getD i 0)
       have hrl := rdyL_len hok hw ((liveTo s 6).take i)
       rw [List.length_take] at hrl
       (with_reducible refine SA.regionN ok (by kernel_rfl) lv26 ?_); intro R hR; simp only [go_sem, strip])
    | ((with_reducible refine SA.regionN ok (by kernel_rfl) lv26 ?_); intro R hR; simp only [go_sem, strip])
    | ((with_reducible refine SA.condAt 16 rfl (fun hb16 => ?_) (fun hb16 => ?_))
       all_goals
         try simp [-List.getD_eq_getElem?_getD] at hb16
         try (exfalso; omega))
    | ((with_reducible refine SA.cond rfl ?_ ?_)
       all_goals
         intro hb
         try simp [-List.getD_eq_getElem?_getD] at hb
         try (exfalso; omega))
    | ((with_reducible refine SA.atLoop ?_)
       refine SA.weaken ((St.le.own (t := 7) 39 rfl).trans ((St.le.keep [2, 3, 7, 19, 20, 21]).trans (St.le.of_eq (by first | rfl | (simp; done) | fail)))) (SA.loop (fun n τ => ∃ (i : Nat), n = (liveTo s 6).length - i ∧ (i ≤ (liveTo s 6).length) ∧ τ = { tm := [(2, true, .ptr 0 [] 26), (3, true, .ptr 1 [] 37), (7, true, .sl 3 39 0 (rdyL p s ((liveTo s 6).take i)).length false), (19, true, .sl 2 3 0 (liveTo s 6).length false), (20, true, .int .i64 (liveTo s 6).length), (21, true, .int .i64 i)], ob := [.var 26 (.data 26 p.v), .var 37 (.data 37 s.v), .row 3 ((liveTo s 6).map V.int), .row 39 ((rdyL p s ((liveTo s 6).take i)).map Pck.v)], out := [], nt := 43 }) ((liveTo s 6).length) ⟨0, rfl, by omega, rfl⟩ ?_)
       rintro n τ ⟨i, hn, hi, rfl⟩)
    | ((with_reducible refine SA.atLoop ?_)
       refine SA.weaken (St.le.of_eq (by first | (simp; done) | fail)) (SA.loop (fun n τ => ∃ (j : Nat), n = (alts p s ((liveTo s 6).getD i 0)).length - j ∧ (j ≤ (alts p s ((liveTo s 6).getD i 0)).length) ∧ τ = { tm := [(2, true, .ptr 0 [] 26), (3, true, .ptr 1 [] 37), (7, true, .sl 3 39 0 (rdyL p s ((liveTo s 6).take i) ++ ((alts p s ((liveTo s 6).getD i 0)).take j).map fun a => (⟨(liveTo s 6).getD i 0, a⟩ : Pck)).length false), (9, true, .int .i64 ((liveTo s 6).getD i 0)), (19, true, .sl 2 3 0 (liveTo s 6).length false), (20, true, .int .i64 (liveTo s 6).length), (21, true, .int .i64 i), (28, true, .sl 4 3 0 (alts p s ((liveTo s 6).getD i 0)).length false), (29, true, .int .i64 (alts p s ((liveTo s 6).getD i 0)).length), (30, true, .int .i64 j)], ob := [.var 26 (.data 26 p.v), .var 37 (.data 37 s.v), .row 3 ((liveTo s 6).map V.int), .row 39 ((rdyL p s ((liveTo s 6).take i) ++ ((alts p s ((liveTo s 6).getD i 0)).take j).map fun a => (⟨(liveTo s 6).getD i 0, a⟩ : Pck)).map Pck.v), .row 3 ((alts p s ((liveTo s 6).getD i 0)).map V.int)], out := [], nt := 43 }) ((alts p s ((liveTo s 6).getD i 0)).length) ⟨0, rfl, by omega, rfl⟩ ?_)
       rintro n τ ⟨j, hn, hj, rfl⟩)
    | ((with_reducible refine loopK.round ?_)
       first
         | (have hlt : i < (liveTo s 6).length := by omega
            have hw := wrap_succ (n := i) (m := 256) (by omega) (by decide)
            have hj' : j = (alts p s ((liveTo s 6).getD i 0)).length := by omega
            subst hj'
            have e : (liveTo s 6).take (i + 1) = (liveTo s 6).take i ++ [(liveTo s 6).getD i 0] := take_getD hlt
            refine loopK.normal ((liveTo s 6).length - (i + 1)) _ (by omega) ((St.le.cut 4 rfl).trans (St.le.of_eq (by simp only [hw, e, rdyL_snoc, List.take_length, List.take_succ_cons, List.take_zero]))) ⟨i + 1, rfl, hlt, rfl⟩)
         | (have hlt : j < (alts p s ((liveTo s 6).getD i 0)).length := by omega
            have hw := wrap_succ (n := j) (m := 256) (by omega) (by decide)
            have e : (alts p s ((liveTo s 6).getD i 0)).take (j + 1) = (alts p s ((liveTo s 6).getD i 0)).take j ++ [(alts p s ((liveTo s 6).getD i 0)).getD j 0] := take_getD hlt
            refine loopK.normal ((alts p s ((liveTo s 6).getD i 0)).length - (j + 1)) _ (by omega) ((St.le.cut 5 rfl).trans (St.le.of_eq (by simp [-List.getD_eq_getElem?_getD, hw, e, Pck.v, List.take_of_length_le, Nat.add_assoc]))) ⟨j + 1, rfl, hlt, rfl⟩))
    | ((with_reducible first | refine ctrK.normal ?_ | refine ctrK.ret ?_)
       simp only [go_sem, resA, resV, backK, seval]
       first
         | (have q : ¬_ := hb16
            refine ⟨⟨rfl, ?_⟩, rfl⟩
            rw [if_neg hb16]
            rfl)
         | (have hi' : i = (liveTo s 6).length := by omega
            subst hi'
            rw [hb16]
            refine ⟨⟨rfl, ?_, ?_⟩, rfl, rfl⟩
            · rw [if_pos rfl, List.take_length, rdyL_live hv]
              simp [List.take_of_length_le]
            · intro e h j u lo n c q
              simp at h
              subst h
              cases q))

end Go.Eng.Tryz
namespace Go.Eng.Tryz
open Go.RowKit Go.Eng
set_option linter.unusedSimpArgs false
set_option linter.unusedVariables false
set_option maxHeartbeats 0
set_option maxRecDepth 20000

def del (p : Prg) (s : Stt) (g : Int) : Bool := decide (0 < (alts p s g).length)
theorem stuck_all {p : Prg} {s : Stt} {l : List Int} (h : ∀ k, k < l.length → del p s (l.getD k 0) = false) : stuckL p s l = l := by
  unfold stuckL
  rw [List.filter_eq_self]
  intro a ha
  obtain ⟨k, hk, rfl⟩ := List.mem_iff_getElem.1 ha
  have := h k hk
  unfold del at this
  rw [List.getD_eq_getElem?_getD, List.getElem?_eq_getElem hk, Option.getD_some] at this
  rw [this]; rfl
theorem stuck_snoc (p : Prg) (s : Stt) (l : List Int) (g : Int) : stuckL p s (l ++ [g]) = stuckL p s l ++ if del p s g = true then [] else [g] := by
  unfold stuckL
  rw [List.filter_append]
  congr 1
  unfold del
  by_cases h : 0 < (alts p s g).length
  · rw [decide_eq_true h]; simp [h]
  · rw [decide_eq_false h]; simp [h]
structure DInv (p : Prg) (s : Stt) (l : List Int) (i j : Nat) (R : List Int) : Prop where
  lt : i < j
  len : R.length = l.length
  num : i = (stuckL p s (l.take j)).length
  tk : R.take i = stuckL p s (l.take j)
  dr : R.drop j = l.drop j
theorem DInv.at_ {p : Prg} {s : Stt} {l R : List Int} {i j : Nat} (h : DInv p s l i j R) (hj : j < l.length) : R.getD j 0 = l.getD j 0 := by
  have := congrArg (fun m : List Int => m.getD 0 0) h.dr
  simpa [List.getD_eq_getElem?_getD] using this
theorem DInv.first {p : Prg} {s : Stt} {l : List Int} {i : Nat} (hi : i < l.length) (hp : ∀ k, k < i → del p s (l.getD k 0) = false) (hd : del p s (l.getD i 0) = true) : DInv p s l i (i + 1) l := by
  have e : stuckL p s (l.take i) = l.take i := stuck_all fun k hk => by
    rw [List.length_take] at hk
    have := hp k (by omega)
    rw [List.getD_eq_getElem?_getD, List.getElem?_take_of_lt (by omega), ← List.getD_eq_getElem?_getD]
    exact this
  have e2 : stuckL p s (l.take (i + 1)) = l.take i := by rw [take_getD hi, stuck_snoc, e, if_pos hd, List.append_nil]
  exact ⟨by omega, rfl, by rw [e2, List.length_take]; omega, by rw [e2], rfl⟩
theorem DInv.drop {p : Prg} {s : Stt} {l R : List Int} {i j : Nat} (h : DInv p s l i j R) (hj : j < l.length) (hd : del p s (R.getD j 0) = true) : DInv p s l i (j + 1) R := by
  rw [h.at_ hj] at hd
  have e2 : stuckL p s (l.take (j + 1)) = stuckL p s (l.take j) := by rw [take_getD hj, stuck_snoc, if_pos hd, List.append_nil]
  have := h.lt
  refine ⟨by omega, h.len, by rw [e2]; exact h.num, by rw [e2]; exact h.tk, ?_⟩
  rw [← List.drop_drop, h.dr, List.drop_drop]
theorem DInv.keep {p : Prg} {s : Stt} {l R : List Int} {i j : Nat} (h : DInv p s l i j R) (hj : j < l.length) (hd : del p s (R.getD j 0) = false) : DInv p s l (i + 1) (j + 1) (R.set i (R.getD j 0)) := by
  rw [h.at_ hj] at hd ⊢
  have e2 : stuckL p s (l.take (j + 1)) = stuckL p s (l.take j) ++ [l.getD j 0] := by rw [take_getD hj, stuck_snoc, if_neg (by rw [hd]; simp)]
  have hl := h.lt
  have hn := h.len
  refine ⟨by omega, by rw [List.length_set]; exact h.len, by rw [e2, List.length_append, ← h.num]; rfl, ?_, ?_⟩
  · rw [e2, take_getD (by rw [List.length_set]; omega), List.take_set_of_le (by omega), h.tk]
    congr 1
    rw [List.getD_eq_getElem?_getD, List.getElem?_set_self (by omega)]; rfl
  · rw [List.drop_set_of_lt (by omega), ← List.drop_drop, h.dr, List.drop_drop]

def lv79 : List (Nat × List Nat) := [(0, [0, 1, 2]), (1, [4])]
-- scarab/step.Waiting$1
theorem wait1_call (p : Prg) (s : Stt) (hp : p.Fit) (hr : rightP p = true) (hv : Vld p s) (k : Int) (hg : (0 ≤ k ∧ k < s.count) ∧ isLive s k = true) {tm : Tm} {out : List Tm} {nt : Nat} {xs : List Obj} {K : St → E → Prop} (h : ∀ ys, K { tm := tm, ob := .var 26 (.data 26 p.v) :: .var 37 (.data 37 s.v) :: (xs ++ ys), out := out, nt := nt } (.bool (del p s k))) : CallE Go.Proofs.Tryz.prog tab { tm := tm, ob := .var 26 (.data 26 p.v) :: .var 37 (.data 37 s.v) :: xs, out := out, nt := nt } 79 [.int .i64 k, .ptr 0 [] 26, .ptr 1 [] 37] K := by
  have hal := pAlts_short (Prg.ok hr) (hv.wf (Prg.ok hr) hr) k
  have hmx : 256 ≤ maxLen := by decide
  refine CallE.body ok Go.Proofs.Tryz.func79 rfl rfl 11 rfl [.tmp 4] rfl (by simp) ?_
  simp only [enter, args0, Nat.zero_add, Nat.reduceAdd]
  repeat' first
    | ((with_reducible refine SARA.do fun R1 hR1 => ?_); (simp only [go_sem, seval, -List.reduceReplicate, Bool.cond_false_right, Bool.cond_true_left]); (repeat' with_reducible refine And.intro ?_ ?_); all_goals first | (refine hR1 _ ?_; clear hR1 R1) | ((first | refine ⟨_, _, rfl, .inr (CallE.ctr ok (palts_ctr p s k hp hr hv hg.1 hg.2) (by first | rfl | (simp [go_sem]; done) | fail) ?_)⟩); all_goals ((try simp only [go_sem, seval, -List.reduceReplicate, Bool.cond_false_right, Bool.cond_true_left]); (repeat' with_reducible refine And.intro ?_ ?_); all_goals first | (refine hR1 _ ?_; clear hR1 R1) | omega | rfl | decide | assumption | (intro _; omega) | (simp; done) | (simp [-List.getD_eq_getElem?_getD]; omega) | exact hcode _ | (intro _; exact hcode _) | exact hsl _ | (intro _; exact hsl _))) | omega | rfl | decide | assumption | (intro _; omega) | (simp; done) | (simp [-List.getD_eq_getElem?_getD]; omega) | exact hcode _ | (intro _; exact hcode _) | exact hsl _ | (intro _; exact hsl _))
    | ((with_reducible refine SARA.nil ?_); refine hR _ ?_; clear hR R; try simp only [go_sem, lv79, lvOf, Nat.reduceBEq, Option.getD_some])
    | (with_reducible first | refine thenK.normal ?_ | refine SA.seq ?_ | refine SA.skip ?_ | refine SA.block ?_ | refine blockK.normal ?_ | refine SA.exit ?_ | refine blockK.hit ?_ | refine blockK.miss (by decide) ?_ | refine thenK.exit ?_ | refine loopK.exit ?_ | refine SA.ret ?_ | refine thenK.ret ?_ | refine blockK.ret ?_ | refine loopK.ret ?_ | refine SA.scope ?_ | refine scopeK.normal ?_ | refine scopeK.exit ?_ | refine scopeK.ret ?_ | refine SA.label ?_)
    | ((with_reducible refine SA.regionN ok (by kernel_rfl) lv79 ?_); intro R hR; simp only [go_sem, strip])
    | ((with_reducible first | refine bodyK.normal ?_ | refine bodyK.ret ?_)
       simp only [go_sem, resA, resV, backK, seval]
       have q := h [Obj.row 3 (List.map V.int (alts p s k))]
       have e : (decide (0 < ((alts p s k).length : Int))) = del p s k := by unfold del; simp
       rw [e]
       exact q)

def lv134 : List (Nat × List Nat) := [(0, [0, 1]), (1, [0, 1, 7, 8]), (2, [0, 1, 7, 8, 9]), (3, [0, 1, 5, 7, 8]), (4, [0, 1, 5, 7, 8, 16]), (5, [4]), (6, [0, 1, 7, 8]), (7, [4])]
-- slices.IndexFunc[[]int,int]
theorem pindex_call (p : Prg) (s : Stt) (hp : p.Fit) (hr : rightP p = true) (hv : Vld p s) (l : List Int) (hl : ∀ k, k < l.length → (0 ≤ l.getD k 0 ∧ l.getD k 0 < s.count) ∧ isLive s (l.getD k 0) = true) (hn : l.length ≤ 6) {tm : Tm} {out : List Tm} {nt : Nat} {xs : List Obj} {K : St → E → Prop} (h1 : ∀ (i : Nat) ys, i < l.length → (∀ k, k < i → del p s (l.getD k 0) = false) → del p s (l.getD i 0) = true → K { tm := tm, ob := .var 26 (.data 26 p.v) :: .var 37 (.data 37 s.v) :: .row 3 (l.map V.int) :: (xs ++ ys), out := out, nt := nt } (.int .i64 i)) (h2 : ∀ ys, (∀ k, k < l.length → del p s (l.getD k 0) = false) → K { tm := tm, ob := .var 26 (.data 26 p.v) :: .var 37 (.data 37 s.v) :: .row 3 (l.map V.int) :: (xs ++ ys), out := out, nt := nt } (.int .i64 (-1))) : CallE Go.Proofs.Tryz.prog tab { tm := tm, ob := .var 26 (.data 26 p.v) :: .var 37 (.data 37 s.v) :: .row 3 (l.map V.int) :: xs, out := out, nt := nt } 134 [.sl 2 3 0 l.length false, .fn 79 [.ptr 0 [] 26, .ptr 1 [] 37]] K := by
  have hmx : 256 ≤ maxLen := by decide
  refine CallE.body ok Go.Proofs.Tryz.func134 rfl rfl 19 rfl [.tmp 4] rfl (by simp) ?_
  simp only [enter, args0, Nat.zero_add, Nat.reduceAdd]
  repeat' first
    | ((with_reducible refine SARA.do fun R1 hR1 => ?_); (simp only [go_sem, seval, -List.reduceReplicate, Bool.cond_false_right, Bool.cond_true_left]); (repeat' with_reducible refine And.intro ?_ ?_); all_goals first | (refine hR1 _ ?_; clear hR1 R1) | ((first | refine ⟨_, _, rfl, .inr (wait1_call p s hp hr hv _ (hl i hlt) (xs := _ :: _) fun ys => ?_)⟩); all_goals ((try simp only [go_sem, seval, -List.reduceReplicate, Bool.cond_false_right, Bool.cond_true_left]); (repeat' with_reducible refine And.intro ?_ ?_); all_goals first | (refine hR1 _ ?_; clear hR1 R1) | omega | rfl | decide | assumption | (intro _; omega) | (simp; done) | (simp [-List.getD_eq_getElem?_getD]; omega) | exact hcode _ | (intro _; exact hcode _) | exact hsl _ | (intro _; exact hsl _))) | omega | rfl | decide | assumption | (intro _; omega) | (simp; done) | (simp [-List.getD_eq_getElem?_getD]; omega) | exact hcode _ | (intro _; exact hcode _) | exact hsl _ | (intro _; exact hsl _))
    | ((with_reducible refine SARA.nil ?_); refine hR _ ?_; clear hR R; try simp only [go_sem, lv134, lvOf, Nat.reduceBEq, Option.getD_some])
    | (with_reducible first | refine thenK.normal ?_ | refine SA.seq ?_ | refine SA.skip ?_ | refine SA.block ?_ | refine blockK.normal ?_ | refine SA.exit ?_ | refine blockK.hit ?_ | refine blockK.miss (by decide) ?_ | refine thenK.exit ?_ | refine loopK.exit ?_ | refine SA.ret ?_ | refine thenK.ret ?_ | refine blockK.ret ?_ | refine loopK.ret ?_ | refine SA.scope ?_ | refine scopeK.normal ?_ | refine scopeK.exit ?_ | refine scopeK.ret ?_ | refine SA.label ?_)
    | ((with_reducible refine SA.at 4 ?_)
       have hlt : i < l.length := by omega
       (with_reducible refine SA.regionN ok (by kernel_rfl) lv134 ?_); intro R hR; simp only [go_sem, strip])
    | ((with_reducible refine SA.regionN ok (by kernel_rfl) lv134 ?_); intro R hR; simp only [go_sem, strip])
    | ((with_reducible refine SA.condAt 16 rfl (fun hb16 => ?_) (fun hb16 => ?_))
       all_goals
         try simp [-List.getD_eq_getElem?_getD] at hb16
         try (exfalso; omega))
    | ((with_reducible refine SA.cond rfl ?_ ?_)
       all_goals
         intro hb
         try simp [-List.getD_eq_getElem?_getD] at hb
         try (exfalso; omega))
    | ((with_reducible refine SA.atLoop ?_)
       refine SA.weaken (St.le.of_eq (by first | (simp; done) | fail)) (SA.loop (fun n τ => ∃ (i : Nat) (zs : List Obj), n = l.length - i ∧ (i ≤ l.length ∧ ∀ k, k < i → del p s (l.getD k 0) = false) ∧ τ = { tm := [(0, true, .sl 2 3 0 l.length false), (1, true, .fn 79 [.ptr 0 [] 26, .ptr 1 [] 37]), (7, true, .int .i64 l.length), (8, true, .int .i64 i)], ob := .var 26 (.data 26 p.v) :: .var 37 (.data 37 s.v) :: .row 3 (l.map V.int) :: (xs ++ zs), out := tm :: out, nt := 19 }) (l.length) ⟨0, [], rfl, ⟨by omega, fun k h => by omega⟩, rfl⟩ ?_)
       rintro n τ ⟨i, zs, hn, ⟨hi, hz⟩, rfl⟩)
    | ((with_reducible refine loopK.round ?_)
       first
         | (have q : _ = false := hb16
            have hlt : i < l.length := by omega
            have hw := wrap_succ (n := i) (m := 256) (by omega) (by decide)
            refine loopK.normal (l.length - (i + 1)) _ (by omega) (St.le.of_eq (by simp only [hw, List.append_assoc])) ⟨i + 1, zs ++ ys, rfl, ⟨hlt, fun k h => ?_⟩, rfl⟩
            by_cases h2 : k < i
            · exact hz k h2
            · rw [show k = i by omega]; exact q))
    | ((with_reducible first | refine bodyK.normal ?_ | refine bodyK.ret ?_)
       simp only [go_sem, resA, resV, backK, seval]
       first
         | (have q : _ = true := hb16
            rw [List.append_assoc]
            exact h1 i _ (by omega) hz hb16)
         | (have hi' : i = l.length := by omega
            subst hi'
            exact h2 _ hz))

def lv78 : List (Nat × List Nat) := [(0, [0, 1]), (1, [0, 1, 5]), (2, [0, 1, 5, 12]), (3, [4]), (4, [0, 1, 5, 6]), (5, [0, 1, 5, 6, 19]), (6, [0, 1, 5, 6]), (7, [0, 1, 5, 6, 7]), (8, [0, 1, 5, 6, 7, 29]), (9, [0, 1, 5, 6]), (10, [0, 1, 5, 6]), (11, [0, 5]), (12, [4])]
-- slices.DeleteFunc[[]int,int]
theorem pdelete_call (p : Prg) (s : Stt) (hp : p.Fit) (hr : rightP p = true) (hv : Vld p s) (l : List Int) (hl : ∀ k, k < l.length → (0 ≤ l.getD k 0 ∧ l.getD k 0 < s.count) ∧ isLive s (l.getD k 0) = true) (hn : l.length ≤ 6) {tm : Tm} {out : List Tm} {nt : Nat} {xs : List Obj} {K : St → E → Prop} (h : ∀ (R : List V) ys, (stuckL p s l).length ≤ R.length → R.take (stuckL p s l).length = (stuckL p s l).map V.int → K { tm := tm, ob := .var 26 (.data 26 p.v) :: .var 37 (.data 37 s.v) :: .row 3 R :: (xs ++ ys), out := out, nt := nt } (.sl 2 3 0 (stuckL p s l).length false)) : CallE Go.Proofs.Tryz.prog tab { tm := tm, ob := .var 26 (.data 26 p.v) :: .var 37 (.data 37 s.v) :: .row 3 (l.map V.int) :: xs, out := out, nt := nt } 78 [.sl 2 3 0 l.length false, .fn 79 [.ptr 0 [] 26, .ptr 1 [] 37]] K := by
  have hmx : 256 ≤ maxLen := by decide
  refine CallE.body ok Go.Proofs.Tryz.func78 rfl rfl 42 rfl [.tmp 4] rfl (by simp) ?_
  simp only [enter, args0, Nat.zero_add, Nat.reduceAdd]
  repeat' first
    | ((with_reducible refine SARA.do fun R1 hR1 => ?_); (simp only [go_sem, seval, -List.reduceReplicate, Bool.cond_false_right, Bool.cond_true_left, clearA, zero3, List.getElem?_cons_succ, List.getElem?_cons_zero, List.set_cons_succ, List.set_cons_zero]); (repeat' with_reducible refine And.intro ?_ ?_); all_goals first | (refine hR1 _ ?_; clear hR1 R1) | ((first | refine ⟨_, _, rfl, .inr (wait1_call p s hp hr hv _ (by rw [hRj]; exact hl j hlt) (xs := _ :: _) fun ys => ?_)⟩ | refine ⟨_, _, rfl, .inr (pindex_call p s hp hr hv l hl hn (fun i0 ys0 hi0 hp0 hd0 => ?_) (fun ys0 hp0 => ?_))⟩); all_goals ((try simp only [go_sem, seval, -List.reduceReplicate, Bool.cond_false_right, Bool.cond_true_left, clearA, zero3, List.getElem?_cons_succ, List.getElem?_cons_zero, List.set_cons_succ, List.set_cons_zero]); (repeat' with_reducible refine And.intro ?_ ?_); all_goals first | (refine hR1 _ ?_; clear hR1 R1) | omega | rfl | decide | assumption | (intro _; omega) | (simp; done) | (simp [-List.getD_eq_getElem?_getD]; omega) | exact hcode _ | (intro _; exact hcode _) | exact hsl _ | (intro _; exact hsl _))) | omega | rfl | decide | assumption | (intro _; omega) | (simp; done) | (simp [-List.getD_eq_getElem?_getD]; omega) | exact hcode _ | (intro _; exact hcode _) | exact hsl _ | (intro _; exact hsl _))
    | ((with_reducible refine SARA.nil ?_); refine hR _ ?_; clear hR R; try simp only [go_sem, lv78, lvOf, Nat.reduceBEq, Option.getD_some])
    | (with_reducible first | refine thenK.normal ?_ | refine SA.seq ?_ | refine SA.skip ?_ | refine SA.block ?_ | refine blockK.normal ?_ | refine SA.exit ?_ | refine blockK.hit ?_ | refine blockK.miss (by decide) ?_ | refine thenK.exit ?_ | refine loopK.exit ?_ | refine SA.ret ?_ | refine thenK.ret ?_ | refine blockK.ret ?_ | refine loopK.ret ?_ | refine SA.scope ?_ | refine scopeK.normal ?_ | refine scopeK.exit ?_ | refine scopeK.ret ?_ | refine SA.label ?_)
    | ((with_reducible refine SA.at 7 ?_)
       have hlt : j < l.length := by omega
       have hRj := hI.at_ hlt
       have hIl := hI.len
       have hIj := hI.lt
       (with_reducible refine SA.regionN ok (by kernel_rfl) lv78 ?_); intro R hR; simp only [go_sem, strip])
    | ((with_reducible refine SA.at 11 ?_)
       have hIl := hI.len
       have hIj := hI.lt
       (with_reducible refine SA.regionN ok (by kernel_rfl) lv78 ?_); intro R hR; simp only [go_sem, strip])
    | ((with_reducible refine SA.regionN ok (by kernel_rfl) lv78 ?_); intro R hR; simp only [go_sem, strip])
    | ((with_reducible refine SA.condAt 12 rfl (fun hb12 => ?_) (fun hb12 => ?_))
       all_goals
         try simp [-List.getD_eq_getElem?_getD] at hb12
         try (exfalso; omega))
    | ((with_reducible refine SA.condAt 29 rfl (fun hb29 => ?_) (fun hb29 => ?_))
       all_goals
         try simp [-List.getD_eq_getElem?_getD] at hb29
         try (exfalso; omega))
    | ((with_reducible refine SA.cond rfl ?_ ?_)
       all_goals
         intro hb
         try simp [-List.getD_eq_getElem?_getD] at hb
         try (exfalso; omega))
    | ((with_reducible refine SA.atLoop ?_)
       refine SA.weaken (St.le.of_eq (by first | (simp only [wrap_succ (n := i0) (m := 256) (by omega) (by decide)]; done) | (simp only [wrap_succ (n := i0) (m := 256) (by omega) (by decide)]; rfl))) (SA.loop (fun n τ => ∃ (i : Nat) (j : Nat) (R : List Int) (zs : List Obj), n = l.length - j ∧ (j ≤ l.length ∧ DInv p s l i j R) ∧ τ = { tm := [(0, true, .sl 2 3 0 l.length false), (1, true, .fn 79 [.ptr 0 [] 26, .ptr 1 [] 37]), (5, true, .int .i64 i), (6, true, .int .i64 j)], ob := .var 26 (.data 26 p.v) :: .var 37 (.data 37 s.v) :: .row 3 (R.map V.int) :: (xs ++ zs), out := tm :: out, nt := 42 }) (l.length - (i0 + 1)) ⟨i0, i0 + 1, l, ys0, rfl, ⟨by omega, DInv.first hi0 hp0 hd0⟩, rfl⟩ ?_)
       rintro n τ ⟨i, j, R, zs, hn, ⟨hj, hI⟩, rfl⟩)
    | ((with_reducible refine loopK.round ?_)
       first
         | (have q : _ = false := hb29
            have hw1 := wrap_succ (n := i) (m := 256) (by omega) (by decide)
            have hw2 := wrap_succ (n := j) (m := 256) (by omega) (by decide)
            refine loopK.normal (l.length - (j + 1)) _ (by omega) (St.le.of_eq (by simp only [hw1, hw2, List.append_assoc])) ⟨i + 1, j + 1, R.set i (R.getD j 0), zs ++ ys, rfl, ⟨hlt, hI.keep hlt hb29⟩, rfl⟩)
         | (have q : _ = true := hb29
            have hw2 := wrap_succ (n := j) (m := 256) (by omega) (by decide)
            refine loopK.normal (l.length - (j + 1)) _ (by omega) (St.le.of_eq (by simp only [hw2, List.append_assoc])) ⟨i, j + 1, R, zs ++ ys, rfl, ⟨hlt, hI.drop hlt hb29⟩, rfl⟩))
    | ((with_reducible first | refine bodyK.normal ?_ | refine bodyK.ret ?_)
       simp only [go_sem, resA, resV, backK, seval]
       first
         | (have e : stuckL p s l = l := stuck_all hp0
            have q := h (l.map V.int) ys0 (by rw [e]; simp) (by rw [e]; simp [List.take_of_length_le])
            rw [e] at q
            exact q)
         | (have hj' : j = l.length := by omega
            subst hj'
            have e1 := hI.num
            have e2 := hI.tk
            rw [List.take_length] at e1 e2
            have e3 : i ≤ R.length := by omega
            have q := h (List.take i (List.map V.int R) ++ List.replicate (l.length - i) z3 ++ List.drop (i + (l.length - i)) (List.map V.int R)) zs (by rw [← e1]; simp; omega) (by rw [← e1, List.append_assoc, List.take_append_of_le_length (by simp; omega), List.take_take, Nat.min_self, ← List.map_take, e2])
            rw [← e1] at q
            exact q))

def lv31 : List (Nat × List Nat) := [(0, [2, 3]), (1, [2, 3, 6]), (2, [2, 3, 6, 11]), (3, [4, 5]), (4, [4, 5])]
-- scarab/step.Waiting
theorem pWaiting_ctr (p : Prg) (s : Stt) (hp : p.Fit) (hs : s.Shape) : Ctr Go.Proofs.Tryz.prog tab 31 [26, 37] [23, 49] [p.v, s.v] [.list ((if askErr p s = 0 then waitsTo p s s.count.toNat else []).map V.int), .int (askErr p s)] := by
  have hpp := hp
  have hfit := hp
  have hcode := p.code_len hp
  have hsl := p.sels_len hp
  obtain ⟨hp1, hp2, hp3, hp4⟩ := hp
  have hmx : 256 ≤ maxLen := by decide
  refine Ctr.body ok Go.Proofs.Tryz.func31 rfl rfl 17 rfl [.tmp 4, .tmp 5] rfl (by simp [fromVs]) ?_
  simp only [fromVs, fromV, args0, V.toList_list, V.toInt_int, V.toBool_bool, Nat.zero_add, Nat.reduceAdd, ty26, ty37]
  repeat' first
    | ((with_reducible refine SARA.do fun R1 hR1 => ?_); (simp only [go_sem, seval, -List.reduceReplicate, Bool.cond_false_right, Bool.cond_true_left]); (repeat' with_reducible refine And.intro ?_ ?_); all_goals first | (refine hR1 _ ?_; clear hR1 R1) | ((first | refine ⟨_, _, rfl, .inl ⟨_, CallQ.ctr ok (pasked_ctr p s hpp hs) (by first | rfl | (simp [go_sem]; done) | fail) rfl, ?_⟩⟩ | refine ⟨_, _, rfl, .inr (CallE.ctr ok (plive_ctr s hs) (by first | rfl | (simp [go_sem]; done) | fail) ?_)⟩ | refine ⟨_, _, rfl, .inr (pdelete_call p s hpp hr hv (liveTo s 6) (fun k hk => liveTo_at hv hk) hll (xs := []) fun RV ys hQ1 hQ2 => ?_)⟩); all_goals ((try simp only [go_sem, seval, -List.reduceReplicate, Bool.cond_false_right, Bool.cond_true_left]); (repeat' with_reducible refine And.intro ?_ ?_); all_goals first | (refine hR1 _ ?_; clear hR1 R1) | omega | rfl | decide | assumption | (intro _; omega) | (simp; done) | (simp [-List.getD_eq_getElem?_getD]; omega) | exact hcode _ | (intro _; exact hcode _) | exact hsl _ | (intro _; exact hsl _))) | omega | rfl | decide | assumption | (intro _; omega) | (simp; done) | (simp [-List.getD_eq_getElem?_getD]; omega) | exact hcode _ | (intro _; exact hcode _) | exact hsl _ | (intro _; exact hsl _))
    | ((with_reducible refine SARA.nil ?_); refine hR _ ?_; clear hR R; try simp only [go_sem, lv31, lvOf, Nat.reduceBEq, Option.getD_some])
    | (with_reducible first | refine thenK.normal ?_ | refine SA.seq ?_ | refine SA.skip ?_ | refine SA.block ?_ | refine blockK.normal ?_ | refine SA.exit ?_ | refine blockK.hit ?_ | refine blockK.miss (by decide) ?_ | refine thenK.exit ?_ | refine loopK.exit ?_ | refine SA.ret ?_ | refine thenK.ret ?_ | refine blockK.ret ?_ | refine loopK.ret ?_ | refine SA.scope ?_ | refine scopeK.normal ?_ | refine scopeK.exit ?_ | refine scopeK.ret ?_ | refine SA.label ?_)
    | ((with_reducible refine SA.at 4 ?_)
       have hr := (ask_zero hb11).1
       have hok := Prg.ok hr
       have hv := Vld.of hok hs (ask_zero hb11).2
       have hll := liveTo_len s 6
       (with_reducible refine SA.regionN ok (by kernel_rfl) lv31 ?_); intro R hR; simp only [go_sem, strip])
    | ((with_reducible refine SA.regionN ok (by kernel_rfl) lv31 ?_); intro R hR; simp only [go_sem, strip])
    | ((with_reducible refine SA.condAt 11 rfl (fun hb11 => ?_) (fun hb11 => ?_))
       all_goals
         try simp [-List.getD_eq_getElem?_getD] at hb11
         try (exfalso; omega))
    | ((with_reducible first | refine ctrK.normal ?_ | refine ctrK.ret ?_)
       simp only [go_sem, resA, resV, backK, seval]
       first
         | (have q : ¬_ := hb11
            refine ⟨⟨rfl, ?_⟩, rfl⟩
            rw [if_neg hb11]
            rfl)
         | (rw [hb11]
            refine ⟨⟨rfl, ?_, ?_⟩, rfl, rfl⟩
            · rw [if_pos rfl, ← stuckL_live hv]
              simp [hQ2]
            · intro e h j u lo n c q
              simp at h
              subst h
              cases q))

end Go.Eng.Tryz
/- An access put into a list that is in order, as the document's loop does it. -/
namespace Go.Eng
set_option linter.unusedSimpArgs false
set_option linter.unusedVariables false
theorem add_len (k n : Int) (w : Bool) : ∀ l : List Access, (add k n w l).length ≤ l.length + 1
  | [] => by simp [add]
  | x :: l => by
    unfold add
    split
    · simp
    · split
      · simp
      · have := add_len k n w l
        simp only [List.length_cons]; omega
theorem Access.put2 (x : Access) (b : Bool) : V.setSub x.v 2 (.bool b) = Access.v ⟨x.kind, x.num, b⟩ := rfl
theorem Event.put6 (e : Event) (x : Int) : V.setSub e.v 6 (.int x) = Event.v ⟨e.go, e.func, e.pc, e.op, e.alt, e.val, x, e.touch, e.touches⟩ := rfl
theorem Event.put7 (e : Event) (x : List Access) : V.setSub e.v 7 (.agg (x.map Access.v)) = Event.v ⟨e.go, e.func, e.pc, e.op, e.alt, e.val, e.tag, x, e.touches⟩ := rfl
theorem Event.put8 (e : Event) (x : Int) : V.setSub e.v 8 (.int x) = Event.v ⟨e.go, e.func, e.pc, e.op, e.alt, e.val, e.tag, e.touch, x⟩ := rfl
theorem Event.put0 (e : Event) (x : Int) : V.setSub e.v 0 (.int x) = Event.v ⟨x, e.func, e.pc, e.op, e.alt, e.val, e.tag, e.touch, e.touches⟩ := rfl
theorem Event.put1 (e : Event) (x : Int) : V.setSub e.v 1 (.int x) = Event.v ⟨e.go, x, e.pc, e.op, e.alt, e.val, e.tag, e.touch, e.touches⟩ := rfl
theorem Event.put2 (e : Event) (x : Int) : V.setSub e.v 2 (.int x) = Event.v ⟨e.go, e.func, x, e.op, e.alt, e.val, e.tag, e.touch, e.touches⟩ := rfl
theorem Event.put3 (e : Event) (x : Int) : V.setSub e.v 3 (.int x) = Event.v ⟨e.go, e.func, e.pc, x, e.alt, e.val, e.tag, e.touch, e.touches⟩ := rfl
theorem Event.put4 (e : Event) (x : Int) : V.setSub e.v 4 (.int x) = Event.v ⟨e.go, e.func, e.pc, e.op, x, e.val, e.tag, e.touch, e.touches⟩ := rfl
theorem Event.put5 (e : Event) (x : Int) : V.setSub e.v 5 (.int x) = Event.v ⟨e.go, e.func, e.pc, e.op, e.alt, x, e.tag, e.touch, e.touches⟩ := rfl
theorem Event.at3 (e : Event) (d : V) : e.v.toList.getD 3 d = .int e.op := rfl
theorem set_accs (l : List Access) (i : Nat) (x : Access) : (l.map Access.v).set i x.v = (l.set i x).map Access.v := (List.map_set ..).symm
attribute [go_sem] Access.put2 Event.put0 Event.put1 Event.put2 Event.put3 Event.put4 Event.put5 Event.put6 Event.put7 Event.put8 Event.at3 set_accs
end Go.Eng
