/- A part of the proof: walks through the program's functions, and what they compute. -/
import Derived.Test.YtedceinkpkoncaaGreatV3
import Derived.Test.YtedceinkpkoncaaGreatM3
namespace Go.Eng.Tryz
open Go.RowKit Go.Eng
set_option linter.unusedSimpArgs false
set_option linter.unusedVariables false
set_option maxHeartbeats 0
set_option maxRecDepth 20000

theorem zeroEvent_at : tab.zero 55 = zeroEvent.v := rfl
def fillTo (l : List Access) (n : Nat) : List Access := (List.range 6).map fun i => if i < n then l.getD i default else ⟨0, 0, false⟩
theorem fillTo_zero (l : List Access) : fillTo l 0 = List.replicate 6 ⟨0, 0, false⟩ := by simp [fillTo]; rfl
theorem fillTo_len (l : List Access) (n : Nat) : (fillTo l n).length = 6 := by simp [fillTo]
theorem fillTo_succ (l : List Access) {n : Nat} (hn : n < 6) : (fillTo l n).set n (l.getD n default) = fillTo l (n + 1) := by
  unfold fillTo
  rw [rows_set hn]
  apply List.map_congr_left
  intro k hk
  by_cases h1 : k = n
  · subst h1; simp
  · rw [if_neg h1]
    by_cases h2 : k < n
    · rw [if_pos h2, if_pos (by omega)]
    · rw [if_neg h2, if_neg (by omega)]
theorem fillTo_end (l : List Access) : fillTo l l.length = touchFill l := rfl
theorem Event.at7 (e : Event) (d : V) : e.v.toList.getD 7 d = .agg (e.touch.map Access.v) := rfl
theorem ite_len {α : Type} {c : Prop} [Decidable c] {a b : List α} {n : Nat} (h1 : c → a.length ≤ n) (h2 : ¬c → b.length ≤ n) : (if c then a else b).length ≤ n := by
  by_cases h : c
  · rw [if_pos h]; exact h1 h
  · rw [if_neg h]; exact h2 h
theorem touch_len (p : Prg) (s : Stt) (g : Int) (hq : opAt p s g = 61 → (selAt p s g).cases.length ≤ 4) : (touch p s g).length ≤ 6 := by
  have h1 : ∀ k n w, (add k n w [(⟨5, g, true⟩ : Access)]).length ≤ 2 := fun k n w => add_len k n w _
  have h2 : ∀ k n w k' n' w', (add k n w (add k' n' w' [(⟨5, g, true⟩ : Access)])).length ≤ 3 := fun k n w k' n' w' => Nat.le_trans (add_len k n w _) (Nat.succ_le_succ (h1 _ _ _))
  have h3 : opAt p s g = 61 → (addChans (selAt p s g) (selAt p s g).cases.length [(⟨5, g, true⟩ : Access)]).length ≤ 6 := fun h => Nat.le_trans (addChans_len _ _ _) (by have := hq h; simp; omega)
  unfold touch
  simp only
  repeat' with_reducible first | (refine ite_len (fun h => ?_) (fun _ => ?_)) | (refine Nat.le_trans (h1 _ _ _) ?_) | (refine Nat.le_trans (h2 _ _ _ _ _ _) ?_) | (refine h3 ?_)
  all_goals first | decide | assumption | (simp; done)
def eventTo (p : Prg) (s : Stt) (x : Pck) (val : Int) (t : Int) (l : List Access) : Event :=
  ⟨x.go, (s.gos.getD x.go.toNat default).func, (s.gos.getD x.go.toNat default).pc, opAt p s x.go, x.alt, val, t, l, 0⟩
def tagOf (p : Prg) (s : Stt) (x : Pck) : Int := if opAt p s x.go = 65 then (instrAt p s x.go).n else 0
theorem ev_set (e : Event) (l : List Access) {n : Nat} (hn : n < 6) (h : e.touch = fillTo l n) : V.setSub e.v 7 (.agg ((e.touch.map Access.v).set n (l.getD n default).v)) = Event.v ⟨e.go, e.func, e.pc, e.op, e.alt, e.val, e.tag, fillTo l (n + 1), e.touches⟩ := by
  rw [set_accs, h, fillTo_succ l hn]; rfl

def lv37 : List (Nat × List Nat) := [(0, [3, 4, 5, 6, 8]), (1, [3, 4, 5, 6, 8, 9]), (2, [4, 5, 6, 8, 9, 10]), (3, [4, 5, 6, 8, 9, 10, 43]), (4, [4, 5, 6, 8, 10]), (5, [8, 10, 11]), (6, [8, 10, 11, 12]), (7, [8, 10, 11, 12, 55]), (8, [8, 10, 11, 12]), (9, [8, 10, 11, 12]), (10, [8, 10]), (11, [8])]
-- scarab/scarabref08.event
theorem event_ctr (p : Prg) (s : Stt) (x : Pck) (val : Int) (hp : p.Fit) (hr : rightP p = true) (hw : Wf p s) (hg : 0 ≤ x.go ∧ x.go < s.count) : Ctr Go.Proofs.Tryz.prog tab 37 [26, 41, 49, 2] [55] [p.v, s.v, x.v, .int val] [(event p s x val).v] := by
  have hpp := hp
  have hok := Prg.ok hr
  have hs := hw.shape
  have hcnt := hw.count
  have hcode := p.code_len hp
  have hsl := p.sels_len hp
  obtain ⟨hp1, hp2, hp3, hp4⟩ := hp
  have hs1 := hs.vars
  have hs2 := hs.owner
  have hs3 := hs.chans
  have hs5 := hs.gos
  have hsz := hok.sizes
  unfold Sizes at hsz
  have hmx : 256 ≤ maxLen := by decide
  have hg6 : 0 ≤ x.go ∧ x.go < 6 := by omega
  have hgi := hw.gos x.go hg.1 hg.2
  obtain ⟨hf0, hf1, hpc0, hpc1, h8⟩ := hgi
  have hgi := hw.gos x.go hg.1 hg.2
  have hrt : instrErr p (p.funcs.getD (s.gos.getD x.go.toNat default).func.toNat default) (instrAt p s x.go) = 0 := hw.right hok hg.1 hg.2
  have htl : (touch p s x.go).length ≤ 6 := touch_len p s x.go (fun h => by
    have hI := vis61 hrt (hw.op_at hok hg.1 hg.2 h (by decide))
    exact (hok.short (s.gos.getD x.go.toNat default).func.toNat (instrAt p s x.go).a.toNat (by omega)).2)
  refine Ctr.body ok Go.Proofs.Tryz.func37 rfl rfl 69 rfl [.cell 8 55] rfl (by simp [fromVs]) ?_
  simp only [fromVs, fromV, args0, V.toList_list, V.toInt_int, V.toBool_bool, Nat.zero_add, Nat.reduceAdd, ty2, ty26, ty41, ty49]
  repeat' first
    | ((with_reducible refine SARA.told 9 5 ?_)
       rw [getD_map Access.v l (by omega)])
    | ((with_reducible first | refine SARA.do fun R1 hR1 => ?_ | refine SART.do fun R1 hR1 => ?_ | refine SARB.keep fun R1 hR1 => ?_ | refine SARB.any fun R1 hR1 => ?_); (simp only [go_sem, seval, -List.reduceReplicate, zeroEvent_at, Event.at7, fillTo_len]); (repeat' with_reducible refine And.intro ?_ ?_); all_goals first | (refine hR1 _ ?_; clear hR1 R1) | ((first | refine ⟨_, _, rfl, .inl ⟨_, CallQ.ctr ok (instr8_ctr p s x.go hpp hs hg6 hgi) (by first | rfl | (simp [go_sem]; done) | fail) rfl, ?_⟩⟩ | refine ⟨_, _, rfl, .inl ⟨_, CallQ.ctr ok (at_ctr p s x.go hpp hs hg6 hgi) (by first | rfl | (simp [go_sem]; done) | fail) rfl, ?_⟩⟩ | refine ⟨_, _, rfl, .inr (CallE.ctr ok (touch_ctr p s x.go hpp hr hw hg) (by first | rfl | (simp [go_sem]; done) | fail) ?_)⟩); all_goals ((try simp only [go_sem, seval, -List.reduceReplicate, zeroEvent_at, Event.at7, fillTo_len]); (repeat' with_reducible refine And.intro ?_ ?_); all_goals first | (refine hR1 _ ?_; clear hR1 R1) | omega | rfl | decide | assumption | (intro _; omega) | (simp; done) | (simp [-List.getD_eq_getElem?_getD]; omega) | exact hcode _ | (intro _; exact hcode _) | exact hsl _ | (intro _; exact hsl _) | (simp [-List.getD_eq_getElem?_getD, roomFor, maxLen, by3, by49, by52, by55, by41]; omega) | (simp [-List.getD_eq_getElem?_getD, roomFor, maxLen, by3, by49, by52, by55, by41]; done))) | omega | rfl | decide | assumption | (intro _; omega) | (simp; done) | (simp [-List.getD_eq_getElem?_getD]; omega) | exact hcode _ | (intro _; exact hcode _) | exact hsl _ | (intro _; exact hsl _) | (simp [-List.getD_eq_getElem?_getD, roomFor, maxLen, by3, by49, by52, by55, by41]; omega) | (simp [-List.getD_eq_getElem?_getD, roomFor, maxLen, by3, by49, by52, by55, by41]; done))
    | ((with_reducible refine SART.doneAt 2 ?_); refine hR _ ?_; clear hR R; try simp only [go_sem, lv37, lvOf, Nat.reduceBEq, Option.getD_some]
       exact St.le.of_eq rfl)
    | ((with_reducible refine SART.done ?_); refine hR _ ?_; clear hR R; try simp only [go_sem, lv37, lvOf, Nat.reduceBEq, Option.getD_some])
    | (with_reducible first | refine SART.br ?_ ?_ | exact SARL.nil | refine SARL.cons ?_ ?_)
    | ((with_reducible refine SARA.nil ?_); refine hR _ ?_; clear hR R; try simp only [go_sem, lv37, lvOf, Nat.reduceBEq, Option.getD_some])
    | (with_reducible first | refine thenK.normal ?_ | refine SA.seq ?_ | refine SA.skip ?_ | refine SA.block ?_ | refine blockK.normal ?_ | refine SA.exit ?_ | refine blockK.hit ?_ | refine blockK.miss (by decide) ?_ | refine thenK.exit ?_ | refine loopK.exit ?_ | refine SA.ret ?_ | refine thenK.ret ?_ | refine blockK.ret ?_ | refine loopK.ret ?_ | refine SA.scope ?_ | refine scopeK.normal ?_ | refine scopeK.exit ?_ | refine scopeK.ret ?_ | refine SA.label ?_)
    | ((with_reducible refine SA.at 6 ?_)
       obtain ⟨l, hl⟩ : ∃ l, l = touch p s x.go := ⟨_, rfl⟩
       rw [← hl] at htl
       rw [← hl]
       (with_reducible refine SA.regionN ok (by kernel_rfl) lv37 ?_); intro R hR; simp only [go_sem, strip])
    | ((with_reducible refine SA.at 9 ?_)
       have hk6 : k < 6 := by omega
       (with_reducible refine SA.regionN ok (by kernel_rfl) lv37 ?_); intro R hR; simp only [go_sem, strip])
    | ((with_reducible refine SA.at 2 ?_)
       refine SA.regionTP ok mixed (.take 0 (.take 1 (.take 2 (.take 3 (.take 4 (.take 5 (.take 6 (.take 7 (.take 8 (.take 9 (.take 10 (.take 11 (.take 12 (.take 13 (.take 14 (.take 15 (.take 16 (.take 17 (.take 19 (.take 20 (.take 21 (.br 18 (.take 22 (.br 23 (.br 24 .done .nil) .nil)) (.br 23 (.br 18 (.take 22 (.br 24 .done .nil)) .nil) .nil))))))))))))))))))))))) [24] lv37 (by kernel_rfl) ({ tm := [(4, true, .ptr 0 [] 26), (5, true, .ptr 1 [] 41), (6, true, .ptr 2 [] 49), (8, true, .ptr 3 [] 55), (9, true, .ptr 4 [] 105), (10, true, .ptr 5 [] 55)], ob := [.var 26 (.data 26 p.v), .var 41 (.data 41 s.v), .var 49 (.data 49 x.v), .var 55 (.data 55 zeroEvent.v), .var 105 (.data 105 (instrAt p s x.go).v), .var 55 (.data 55 (Event.v (eventTo p s x val 0 (fillTo [] 0))))], out := [], nt := 69 }) (fun R hR => ?_) ?_; simp only [go_sem, strip])
    | ((with_reducible refine SA.regionN ok (by kernel_rfl) lv37 ?_); intro R hR; simp only [go_sem, strip])
    | ((with_reducible refine SA.condAt 43 rfl (fun hb43 => ?_) (fun hb43 => ?_))
       all_goals
         try simp [-List.getD_eq_getElem?_getD] at hb43
         try (exfalso; omega))
    | ((with_reducible refine SA.condAt 55 rfl (fun hb55 => ?_) (fun hb55 => ?_))
       all_goals
         try simp [-List.getD_eq_getElem?_getD] at hb55
         try (exfalso; omega))
    | ((with_reducible refine SA.atLoop ?_)
       refine SA.weaken (St.le.of_eq (by first | (rw [show tagOf p s x = (instrAt p s x.go).n from if_pos hb43]; rfl) | (rw [show tagOf p s x = 0 from if_neg hb43]; rfl) | fail)) (SA.loop (fun n τ => ∃ (k : Nat), n = l.length - k ∧ (k ≤ l.length) ∧ τ = { tm := [(8, true, .ptr 3 [] 55), (10, true, .ptr 5 [] 55), (11, true, .sl 6 52 0 l.length false), (12, true, .int .i64 k)], ob := [.var 26 (.data 26 p.v), .var 41 (.data 41 s.v), .var 49 (.data 49 x.v), .var 55 (.data 55 zeroEvent.v), .var 105 (.data 105 (instrAt p s x.go).v), .var 55 (.data 55 (Event.v (eventTo p s x val (tagOf p s x) (fillTo l k)))), .row 52 (l.map Access.v)], out := [], nt := 69 }) (l.length) ⟨0, rfl, by omega, rfl⟩ ?_)
       rintro n τ ⟨k, hn, hk, rfl⟩)
    | ((with_reducible refine loopK.round ?_)
       first
         | (have hw := wrap_succ (n := k) (m := 6) (by omega) (by decide)
            have e := fillTo_succ l hk6
            refine loopK.normal (l.length - (k + 1)) _ (by omega) (St.le.of_eq ?_) ⟨k + 1, rfl, by omega, rfl⟩
            simp only [hw, eventTo, e]))
    | ((with_reducible first | refine ctrK.normal ?_ | refine ctrK.ret ?_)
       simp only [go_sem, resA, resV, backK, seval]
       have e : k = l.length := by omega
       subst e
       subst hl
       exact ⟨rfl, congrArg (fun e : Event => some e.v) (show _ = event p s x val from rfl)⟩)

end Go.Eng.Tryz
namespace Go.Eng.Tryz
open Go.RowKit Go.Eng
set_option linter.unusedSimpArgs false
set_option linter.unusedVariables false
set_option maxHeartbeats 0
set_option maxRecDepth 20000

theorem zeroRegs_at : tab.zero 31 = .agg ((List.replicate 8 (0 : Int)).map V.int) := rfl

def lv18 : List (Nat × List Nat) := [(0, [3, 4, 5, 6, 8, 9]), (1, [3, 4, 5, 6, 8, 9, 10]), (2, [3, 4, 5, 6, 8, 9, 10, 11]), (3, [3, 4, 5, 6, 8, 9, 10, 11, 25]), (4, [4, 5, 6, 8, 9, 10, 11]), (5, [4, 5, 6, 8, 9, 10, 11]), (6, [4, 5, 6, 8, 9, 11]), (7, [8, 9]), (8, [3, 4, 5, 8, 9, 10, 11, 12]), (9, [3, 4, 5, 8, 9, 10, 11, 12, 58]), (10, [8, 9]), (11, [3, 4, 5, 8, 9, 10, 11, 12]), (12, [3, 4, 5, 8, 9, 12, 13]), (13, [3, 4, 5, 8, 9, 12, 13, 82]), (14, [8, 9, 12, 13]), (15, [8, 9])]
-- scarab/scarabref08.Take
theorem take_ctr (p : Prg) (s : Stt) (x : Pck) (fuel : Int) (hp : p.Fit) (hr : rightP p = true) (hw : Wf p s) (hg : 0 ≤ x.go ∧ x.go < s.count) (ha : x.alt ∈ alts p s x.go) : Ctr Go.Proofs.Tryz.prog tab 18 [26, 41, 49, 3] [41, 55] [p.v, s.v, x.v, .int fuel] [(take applyW p s x fuel).1.v, (take applyW p s x fuel).2.v] := by
  have hpp := hp
  have hok := Prg.ok hr
  have hs := hw.shape
  have hcnt := hw.count
  have hcode := p.code_len hp
  have hsl := p.sels_len hp
  obtain ⟨hp1, hp2, hp3, hp4⟩ := hp
  have hs1 := hs.vars
  have hs2 := hs.owner
  have hs3 := hs.chans
  have hs5 := hs.gos
  have hsz := hok.sizes
  unfold Sizes at hsz
  have hmx : 256 ≤ maxLen := by decide
  have hg6 : 0 ≤ x.go ∧ x.go < 6 := by omega
  have hv := visible_wf hok hw hg ha
  have hvc := visible_count p s x.go x.alt
  refine Ctr.body ok Go.Proofs.Tryz.func18 rfl rfl 94 rfl [.cell 8 41, .cell 9 55] rfl (by simp [fromVs]) ?_
  simp only [fromVs, fromV, args0, V.toList_list, V.toInt_int, V.toBool_bool, Nat.zero_add, Nat.reduceAdd, ty3, ty26, ty41, ty49]
  repeat' first
    | ((with_reducible first | refine SARA.do fun R1 hR1 => ?_ | refine SART.do fun R1 hR1 => ?_ | refine SARB.keep fun R1 hR1 => ?_ | refine SARB.any fun R1 hR1 => ?_); (simp only [go_sem, seval, -List.reduceReplicate, zeroEvent_at, zeroState_at, zeroRegs_at]); (repeat' with_reducible refine And.intro ?_ ?_); all_goals first | (refine hR1 _ ?_; clear hR1 R1) | ((first | refine ⟨_, _, rfl, .inl ⟨_, CallQ.ctr ok (visible_ctr8 p s x.go x.alt hpp hr hw hg ha) (by first | rfl | (simp [go_sem]; done) | fail) rfl, ?_⟩⟩ | refine ⟨_, _, rfl, .inl ⟨_, CallQ.ctr ok (event_ctr p s x 0 hpp hr hw hg) (by first | rfl | (simp [go_sem]; done) | fail) rfl, ?_⟩⟩ | refine ⟨_, _, rfl, .inl ⟨_, CallQ.ctr ok (event_ctr p s x d.val hpp hr hw hg) (by first | rfl | (simp [go_sem]; done) | fail) rfl, ?_⟩⟩ | refine ⟨_, _, rfl, .inr (CallE.ctr ok (settle_ctr p s1 x.go fuel hpp hsh) (by first | rfl | (simp [go_sem]; done) | fail) ?_)⟩ | refine ⟨_, _, rfl, .inr (CallE.ctr ok (settle_ctr p _ _ fuel hpp h1.shape) (by first | rfl | (simp [go_sem]; done) | fail) ?_)⟩); all_goals ((try simp only [go_sem, seval, -List.reduceReplicate, zeroEvent_at, zeroState_at, zeroRegs_at]); (repeat' with_reducible refine And.intro ?_ ?_); all_goals first | (refine hR1 _ ?_; clear hR1 R1) | omega | rfl | decide | assumption | (intro _; omega) | (simp; done) | (simp [-List.getD_eq_getElem?_getD]; omega) | exact hcode _ | (intro _; exact hcode _) | exact hsl _ | (intro _; exact hsl _) | (simp [-List.getD_eq_getElem?_getD, roomFor, maxLen, by3, by49, by52, by55, by41]; omega) | (simp [-List.getD_eq_getElem?_getD, roomFor, maxLen, by3, by49, by52, by55, by41]; done))) | omega | rfl | decide | assumption | (intro _; omega) | (simp; done) | (simp [-List.getD_eq_getElem?_getD]; omega) | exact hcode _ | (intro _; exact hcode _) | exact hsl _ | (intro _; exact hsl _) | (simp [-List.getD_eq_getElem?_getD, roomFor, maxLen, by3, by49, by52, by55, by41]; omega) | (simp [-List.getD_eq_getElem?_getD, roomFor, maxLen, by3, by49, by52, by55, by41]; done))
    | ((with_reducible refine SART.doneAt 10 ?_); refine hR _ ?_; clear hR R; try simp only [go_sem, lv18, lvOf, Nat.reduceBEq, Option.getD_some]
       exact St.le.of_eq rfl)
    | ((with_reducible refine SART.doneAt 15 ?_); refine hR _ ?_; clear hR R; try simp only [go_sem, lv18, lvOf, Nat.reduceBEq, Option.getD_some]
       exact St.le.of_eq rfl)
    | ((with_reducible refine SART.done ?_); refine hR _ ?_; clear hR R; try simp only [go_sem, lv18, lvOf, Nat.reduceBEq, Option.getD_some])
    | (with_reducible first | refine SART.br ?_ ?_ | exact SARL.nil | refine SARL.cons ?_ ?_)
    | ((with_reducible refine SARA.nil ?_); refine hR _ ?_; clear hR R; try simp only [go_sem, lv18, lvOf, Nat.reduceBEq, Option.getD_some])
    | (with_reducible first | refine thenK.normal ?_ | refine SA.seq ?_ | refine SA.skip ?_ | refine SA.block ?_ | refine blockK.normal ?_ | refine SA.exit ?_ | refine blockK.hit ?_ | refine blockK.miss (by decide) ?_ | refine thenK.exit ?_ | refine loopK.exit ?_ | refine SA.ret ?_ | refine thenK.ret ?_ | refine blockK.ret ?_ | refine loopK.ret ?_ | refine SA.scope ?_ | refine scopeK.normal ?_ | refine scopeK.exit ?_ | refine scopeK.ret ?_ | refine SA.label ?_)
    | ((with_reducible refine SA.at 3 ?_)
       obtain ⟨d, hd⟩ : ∃ d, d = visible p s x.go x.alt := ⟨_, rfl⟩
       rw [← hd] at hv hvc
       have hgi := hv.gos x.go hg.1 (by omega)
       have hs6 := hv.shape.gos
       rw [← hd]
       (with_reducible refine SA.regionN ok (by kernel_rfl) lv18 ?_); intro R hR; simp only [go_sem, strip])
    | ((with_reducible refine SA.at 5 ?_)
       obtain ⟨l1, hl1⟩ : ∃ l1, l1 = d.s.gos.set x.go.toNat ⟨4, (d.s.gos.getD x.go.toNat default).func, (d.s.gos.getD x.go.toNat default).pc, (d.s.gos.getD x.go.toNat default).why, (d.s.gos.getD x.go.toNat default).regs⟩ := ⟨_, rfl⟩
       have e1 : l1.getD x.go.toNat default = ⟨4, (d.s.gos.getD x.go.toNat default).func, (d.s.gos.getD x.go.toNat default).pc, (d.s.gos.getD x.go.toNat default).why, (d.s.gos.getD x.go.toNat default).regs⟩ := by rw [hl1, getD_set, if_pos ⟨rfl, by omega⟩]
       rw [← hl1]
       (with_reducible refine SA.regionN ok (by kernel_rfl) lv18 ?_); intro R hR; simp only [go_sem, strip])
    | ((with_reducible refine SA.at 6 ?_)
       simp only [e1]
       obtain ⟨l2, hl2⟩ : ∃ l2, l2 = l1.set x.go.toNat ⟨4, (d.s.gos.getD x.go.toNat default).func, (d.s.gos.getD x.go.toNat default).pc, d.why, (d.s.gos.getD x.go.toNat default).regs⟩ := ⟨_, rfl⟩
       have e2 : l2.getD x.go.toNat default = ⟨4, (d.s.gos.getD x.go.toNat default).func, (d.s.gos.getD x.go.toNat default).pc, d.why, (d.s.gos.getD x.go.toNat default).regs⟩ := by rw [hl2, getD_set, if_pos ⟨rfl, by rw [hl1, List.length_set]; omega⟩]
       rw [← hl2]
       (with_reducible refine SA.regionN ok (by kernel_rfl) lv18 ?_); intro R hR; simp only [go_sem, strip])
    | ((with_reducible refine SA.at 12 ?_)
       obtain ⟨s1, hs1⟩ : ∃ s1 : Stt, s1 = ⟨d.s.vars, d.s.owner, d.s.chans, d.s.gos.set x.go.toNat ⟨(d.s.gos.getD x.go.toNat default).status, (d.s.gos.getD x.go.toNat default).func, d.to_, (d.s.gos.getD x.go.toNat default).why, (d.s.gos.getD x.go.toNat default).regs⟩, d.s.count⟩ := ⟨_, rfl⟩
       have hsh : s1.Shape := by rw [hs1]; exact shape_gos hv.shape _ _ hgi.regs
       rw [← hs1]
       have h1 := settle_wf applyW hok hsh x.go fuel
       (with_reducible refine SA.regionN ok (by kernel_rfl) lv18 ?_); intro R hR; simp only [go_sem, strip])
    | ((with_reducible refine SA.at 7 ?_)
       simp only [e2]
       simp only [hl2, hl1, List.set_set]
       refine SA.regionT ok mixed (.take 0 (.take 1 (.take 2 (.take 3 (.take 4 (.br 5 (.br 6 (.br 7 .done .nil) .nil) .nil)))))) [6, 7] lv18 (by kernel_rfl) (fun R hR => ?_); simp only [go_sem, strip])
    | ((with_reducible refine SA.at 10 ?_)
       refine SA.regionTP ok mixed (.take 0 (.take 1 (.br 2 (.br 3 (.br 4 .done .nil) .nil) (.br 3 (.take 2 (.br 4 .done .nil)) .nil)))) [3, 4] lv18 (by kernel_rfl) ({ tm := [(8, true, .ptr 3 [] 41), (9, true, .ptr 4 [] 55)], ob := [.var 26 (.data 26 p.v), .var 41 (.data 41 s.v), .var 49 (.data 49 x.v), .var 41 (.data 41 (Stt.v d.s)), .var 55 (.data 55 (event p s x d.val).v), .var 110 (.data 110 (Did.v d)), .var 55 (.data 55 (event p s x d.val).v)], out := [], nt := 94 }) (fun R hR => ?_) ?_; simp only [go_sem, strip])
    | ((with_reducible refine SA.at 15 ?_)
       first | rw [show (settle applyW p (settle applyW p s1 x.go fuel).1 s.count fuel).1 = (if s.count < (settle applyW p s1 x.go fuel).1.count then (settle applyW p (settle applyW p s1 x.go fuel).1 s.count fuel).1 else (settle applyW p s1 x.go fuel).1) from (if_pos hb82).symm] | rw [show (settle applyW p s1 x.go fuel).1 = (if s.count < (settle applyW p s1 x.go fuel).1.count then (settle applyW p (settle applyW p s1 x.go fuel).1 s.count fuel).1 else (settle applyW p s1 x.go fuel).1) from (if_neg (by omega)).symm]
       refine SA.regionTP ok mixed (.take 0 (.br 1 (.br 2 (.br 3 .done .nil) .nil) (.br 2 (.take 1 (.br 3 .done .nil)) .nil))) [2, 3] lv18 (by kernel_rfl) ({ tm := [(8, true, .ptr 3 [] 41), (9, true, .ptr 4 [] 55)], ob := [.var 26 (.data 26 p.v), .var 41 (.data 41 s.v), .var 49 (.data 49 x.v), .var 41 (.data 41 (Stt.v (if s.count < (settle applyW p s1 x.go fuel).1.count then (settle applyW p (settle applyW p s1 x.go fuel).1 s.count fuel).1 else (settle applyW p s1 x.go fuel).1))), .var 55 (.data 55 (event p s x d.val).v), .var 110 (.data 110 (Did.v ⟨s1, d.val, d.why, d.to_⟩)), .var 55 (.data 55 (event p s x d.val).v), .var 41 (.data 41 (Stt.v (if s.count < (settle applyW p s1 x.go fuel).1.count then (settle applyW p (settle applyW p s1 x.go fuel).1 s.count fuel).1 else (settle applyW p s1 x.go fuel).1)))], out := [], nt := 94 }) (fun R hR => ?_) ?_; simp only [go_sem, strip])
    | ((with_reducible refine SA.regionN ok (by kernel_rfl) lv18 ?_); intro R hR; simp only [go_sem, strip])
    | ((with_reducible refine SA.condAt 25 rfl (fun hb25 => ?_) (fun hb25 => ?_))
       all_goals
         try simp [-List.getD_eq_getElem?_getD] at hb25
         try (exfalso; omega))
    | ((with_reducible refine SA.condAt 58 rfl (fun hb58 => ?_) (fun hb58 => ?_))
       all_goals
         try simp [-List.getD_eq_getElem?_getD] at hb58
         try (exfalso; omega))
    | ((with_reducible refine SA.condAt 82 rfl (fun hb82 => ?_) (fun hb82 => ?_))
       all_goals
         try simp [-List.getD_eq_getElem?_getD] at hb82
         try (exfalso; omega))
    | ((with_reducible first | refine ctrK.normal ?_ | refine ctrK.ret ?_)
       simp only [go_sem, resA, resV, backK, seval]
       first
         | (have q := hb82
            subst hd
            subst hs1
            have e : take applyW p s x fuel = ((if s.count < (settle applyW p ⟨(visible p s x.go x.alt).s.vars, (visible p s x.go x.alt).s.owner, (visible p s x.go x.alt).s.chans, (visible p s x.go x.alt).s.gos.set x.go.toNat ⟨((visible p s x.go x.alt).s.gos.getD x.go.toNat default).status, ((visible p s x.go x.alt).s.gos.getD x.go.toNat default).func, (visible p s x.go x.alt).to_, ((visible p s x.go x.alt).s.gos.getD x.go.toNat default).why, ((visible p s x.go x.alt).s.gos.getD x.go.toNat default).regs⟩, (visible p s x.go x.alt).s.count⟩ x.go fuel).1.count then (settle applyW p (settle applyW p ⟨(visible p s x.go x.alt).s.vars, (visible p s x.go x.alt).s.owner, (visible p s x.go x.alt).s.chans, (visible p s x.go x.alt).s.gos.set x.go.toNat ⟨((visible p s x.go x.alt).s.gos.getD x.go.toNat default).status, ((visible p s x.go x.alt).s.gos.getD x.go.toNat default).func, (visible p s x.go x.alt).to_, ((visible p s x.go x.alt).s.gos.getD x.go.toNat default).why, ((visible p s x.go x.alt).s.gos.getD x.go.toNat default).regs⟩, (visible p s x.go x.alt).s.count⟩ x.go fuel).1 s.count fuel).1 else (settle applyW p ⟨(visible p s x.go x.alt).s.vars, (visible p s x.go x.alt).s.owner, (visible p s x.go x.alt).s.chans, (visible p s x.go x.alt).s.gos.set x.go.toNat ⟨((visible p s x.go x.alt).s.gos.getD x.go.toNat default).status, ((visible p s x.go x.alt).s.gos.getD x.go.toNat default).func, (visible p s x.go x.alt).to_, ((visible p s x.go x.alt).s.gos.getD x.go.toNat default).why, ((visible p s x.go x.alt).s.gos.getD x.go.toNat default).regs⟩, (visible p s x.go x.alt).s.count⟩ x.go fuel).1), event p s x (visible p s x.go x.alt).val) := (if_neg (fun h => h hb25)).trans (if_neg (Int.not_lt.2 hb58))
            rw [e]
            exact ⟨⟨rfl, rfl⟩, ⟨rfl, rfl⟩⟩)
         | (have q := hb58
            subst hd
            have e : take applyW p s x fuel = ((visible p s x.go x.alt).s, event p s x (visible p s x.go x.alt).val) := (if_neg (fun h => h hb25)).trans (if_pos hb58)
            rw [e]
            exact ⟨⟨rfl, rfl⟩, ⟨rfl, rfl⟩⟩)
         | (subst hd
            have e : take applyW p s x fuel = (⟨(visible p s x.go x.alt).s.vars, (visible p s x.go x.alt).s.owner, (visible p s x.go x.alt).s.chans, (visible p s x.go x.alt).s.gos.set x.go.toNat ⟨4, ((visible p s x.go x.alt).s.gos.getD x.go.toNat default).func, ((visible p s x.go x.alt).s.gos.getD x.go.toNat default).pc, (visible p s x.go x.alt).why, List.replicate 8 0⟩, (visible p s x.go x.alt).s.count⟩, event p s x 0) := if_pos hb25
            rw [e]
            exact ⟨⟨rfl, rfl⟩, ⟨rfl, rfl⟩⟩))

end Go.Eng.Tryz
namespace Go.Eng.Tryz
open Go.RowKit Go.Eng
set_option linter.unusedSimpArgs false
set_option linter.unusedVariables false
set_option maxHeartbeats 0
set_option maxRecDepth 20000

def lv7 : List (Nat × List Nat) := [(0, [3, 4, 5, 6, 8, 9]), (1, [3, 4, 5, 6, 8, 9, 18]), (2, [8, 9, 10]), (3, [3, 4, 5, 6, 8, 9, 25]), (4, [8, 9, 10]), (5, [8, 9, 11, 12]), (6, [8, 9, 10])]
-- scarab/scarabref08.Do
theorem do_ctr (p : Prg) (s : Stt) (x : Pck) (fuel : Int) (hp : p.Fit) (hr : rightP p = true) (hw : Wf p s) : Ctr Go.Proofs.Tryz.prog tab 7 [26, 41, 49, 3] [41, 55, 3] [p.v, s.v, x.v, .int fuel] [(doStep applyW p s x fuel).1.v, (doStep applyW p s x fuel).2.1.v, .int (doStep applyW p s x fuel).2.2] := by
  have hpp := hp
  have hcode := p.code_len hp
  have hsl := p.sels_len hp
  refine Ctr.body ok Go.Proofs.Tryz.func7 rfl rfl 38 rfl [.cell 8 41, .cell 9 55, .tmp 10] rfl (by simp [fromVs]) ?_
  simp only [fromVs, fromV, args0, V.toList_list, V.toInt_int, V.toBool_bool, Nat.zero_add, Nat.reduceAdd, ty3, ty26, ty41, ty49]
  repeat' first
    | ((with_reducible first | refine SARA.do fun R1 hR1 => ?_ | refine SART.do fun R1 hR1 => ?_ | refine SARB.keep fun R1 hR1 => ?_ | refine SARB.any fun R1 hR1 => ?_); (simp only [go_sem, seval, -List.reduceReplicate, zeroEvent_at, zeroState_at]); (repeat' with_reducible refine And.intro ?_ ?_); all_goals first | (refine hR1 _ ?_; clear hR1 R1) | ((first | refine ⟨_, _, rfl, .inl ⟨_, CallQ.ctr ok (has_ctr p s x hpp hr hw) (by first | rfl | (simp [go_sem]; done) | fail) rfl, ?_⟩⟩ | refine ⟨_, _, rfl, .inr (CallE.ctr ok (take_ctr p s x fuel hpp hr hw hg ha) (by first | rfl | (simp [go_sem]; done) | fail) ?_)⟩); all_goals ((try simp only [go_sem, seval, -List.reduceReplicate, zeroEvent_at, zeroState_at]); (repeat' with_reducible refine And.intro ?_ ?_); all_goals first | (refine hR1 _ ?_; clear hR1 R1) | omega | rfl | decide | assumption | (intro _; omega) | (simp; done) | (simp [-List.getD_eq_getElem?_getD]; omega) | exact hcode _ | (intro _; exact hcode _) | exact hsl _ | (intro _; exact hsl _) | (simp [-List.getD_eq_getElem?_getD, roomFor, maxLen, by3, by49, by52, by55, by41]; omega) | (simp [-List.getD_eq_getElem?_getD, roomFor, maxLen, by3, by49, by52, by55, by41]; done))) | omega | rfl | decide | assumption | (intro _; omega) | (simp; done) | (simp [-List.getD_eq_getElem?_getD]; omega) | exact hcode _ | (intro _; exact hcode _) | exact hsl _ | (intro _; exact hsl _) | (simp [-List.getD_eq_getElem?_getD, roomFor, maxLen, by3, by49, by52, by55, by41]; omega) | (simp [-List.getD_eq_getElem?_getD, roomFor, maxLen, by3, by49, by52, by55, by41]; done))
    | ((with_reducible refine SART.doneAt 6 ?_); refine hR _ ?_; clear hR R; try simp only [go_sem, lv7, lvOf, Nat.reduceBEq, Option.getD_some]
       exact St.le.of_eq rfl)
    | ((with_reducible refine SART.done ?_); refine hR _ ?_; clear hR R; try simp only [go_sem, lv7, lvOf, Nat.reduceBEq, Option.getD_some])
    | (with_reducible first | refine SART.br ?_ ?_ | exact SARL.nil | refine SARL.cons ?_ ?_)
    | ((with_reducible refine SARA.nil ?_); refine hR _ ?_; clear hR R; try simp only [go_sem, lv7, lvOf, Nat.reduceBEq, Option.getD_some])
    | (with_reducible first | refine thenK.normal ?_ | refine SA.seq ?_ | refine SA.skip ?_ | refine SA.block ?_ | refine blockK.normal ?_ | refine SA.exit ?_ | refine blockK.hit ?_ | refine blockK.miss (by decide) ?_ | refine thenK.exit ?_ | refine loopK.exit ?_ | refine SA.ret ?_ | refine thenK.ret ?_ | refine blockK.ret ?_ | refine loopK.ret ?_ | refine SA.scope ?_ | refine scopeK.normal ?_ | refine scopeK.exit ?_ | refine scopeK.ret ?_ | refine SA.label ?_)
    | ((with_reducible refine SA.at 5 ?_)
       have ha : x.alt ∈ alts p s x.go := of_decide_eq_true hb25
       have hg := (live_iff.1 (alts_live ha)).1
       (with_reducible refine SA.regionN ok (by kernel_rfl) lv7 ?_); intro R hR; simp only [go_sem, strip])
    | ((with_reducible refine SA.at 6 ?_)
       refine SA.regionTP ok mixed (.take 0 (.br 1 (.br 2 (.br 3 (.take 4 .done) .nil) .nil) (.br 2 (.take 1 (.br 3 (.take 4 .done) .nil)) .nil))) [2, 3] lv7 (by kernel_rfl) ({ tm := [(8, true, .ptr 3 [] 41), (9, true, .ptr 4 [] 55), (10, true, .int .i64 0)], ob := [.var 26 (.data 26 p.v), .var 41 (.data 41 s.v), .var 49 (.data 49 x.v), .var 41 (.data 41 (take applyW p s x fuel).1.v), .var 55 (.data 55 (take applyW p s x fuel).2.v), .var 41 (.data 41 (take applyW p s x fuel).1.v), .var 55 (.data 55 (take applyW p s x fuel).2.v)], out := [], nt := 38 }) (fun R hR => ?_) ?_; simp only [go_sem, strip])
    | ((with_reducible refine SA.regionN ok (by kernel_rfl) lv7 ?_); intro R hR; simp only [go_sem, strip])
    | ((with_reducible refine SA.condAt 18 rfl (fun hb18 => ?_) (fun hb18 => ?_))
       all_goals
         try simp [-List.getD_eq_getElem?_getD] at hb18
         try (exfalso; omega))
    | ((with_reducible refine SA.condAt 25 rfl (fun hb25 => ?_) (fun hb25 => ?_))
       all_goals
         try simp [-List.getD_eq_getElem?_getD] at hb25
         try (exfalso; omega))
    | ((with_reducible first | refine ctrK.normal ?_ | refine ctrK.ret ?_)
       simp only [go_sem, resA, resV, backK, seval]
       first
         | (have e : doStep applyW p s x fuel = ((take applyW p s x fuel).1, (take applyW p s x fuel).2, 0) := (if_neg (by omega)).trans (if_neg (by rw [show has p s x = true from hb25]; simp))
            rw [e]
            exact ⟨⟨rfl, rfl⟩, ⟨rfl, rfl⟩, ⟨rfl, rfl⟩⟩)
         | (have e : doStep applyW p s x fuel = (zeroStt, zeroEvent, 5) := (if_neg (by omega)).trans (if_pos hb25)
            rw [e]
            exact ⟨⟨rfl, rfl⟩, ⟨rfl, rfl⟩, ⟨rfl, rfl⟩⟩)
         | (have e : doStep applyW p s x fuel = (zeroStt, zeroEvent, 1) := if_pos (by omega)
            rw [e]
            exact ⟨⟨rfl, rfl⟩, ⟨rfl, rfl⟩, ⟨rfl, rfl⟩⟩))

end Go.Eng.Tryz
