/- A part of the proof: walks through the program's functions, and what they compute. -/
import Derived.Test.YtedceinkpkoncaaGreatDoorPk38
import Derived.Test.YtedceinkpkoncaaGreatDoorPk31
import Derived.Test.YtedceinkpkoncaaGreatDoorPk34
namespace Go.Eng.Tryz
open Go.RowKit Go.Eng
set_option linter.unusedSimpArgs false
set_option linter.unusedVariables false
set_option maxHeartbeats 0
set_option maxRecDepth 20000

theorem contains_q {σ : St} {i : Nat} (l : List Int) (v : Int) (hl : l.length ≤ 256) (ho : σ.ob[i]? = some (.row 3 (l.map V.int))) : CallQ Go.Proofs.Tryz.prog tab σ 62 [.sl i 3 0 l.length false, .int .i64 v] (.bool (decide (v ∈ l))) := by
  have ha : argsV tab σ [23, 3] [.sl i 3 0 l.length false, .int .i64 v] = some [.list (l.map V.int), .int v] := by
    simp [argsV, contentV, toV, ty23, ty3, ho, List.take_of_length_le]
  exact CallQ.ctr ok (pcontains_ctr l v hl) ha rfl
def evK (p : Prg) (s : Stt) (x : Pck) (val tag : Int) (l : List Access) (k : Nat) : Event := ⟨x.go, (s.gos.getD x.go.toNat default).func, (s.gos.getD x.go.toNat default).pc, opAt p s x.go, x.alt, val, tag, fillTo l k, k⟩
theorem evK_touches (p : Prg) (s : Stt) (x : Pck) (v t : Int) (l : List Access) (k : Nat) : (evK p s x v t l k).touches = k := rfl
theorem evK_touch (p : Prg) (s : Stt) (x : Pck) (v t : Int) (l : List Access) (k : Nat) : (evK p s x v t l k).touch = fillTo l k := rfl
theorem Event.put5 (e : Event) (x : Int) : V.setSub e.v 5 (.int x) = Event.v ⟨e.go, e.func, e.pc, e.op, e.alt, x, e.tag, e.touch, e.touches⟩ := rfl
theorem Event.put6 (e : Event) (x : Int) : V.setSub e.v 6 (.int x) = Event.v ⟨e.go, e.func, e.pc, e.op, e.alt, e.val, x, e.touch, e.touches⟩ := rfl
theorem Event.put7 (e : Event) (l : List Access) : V.setSub e.v 7 (.agg (l.map Access.v)) = Event.v ⟨e.go, e.func, e.pc, e.op, e.alt, e.val, e.tag, l, e.touches⟩ := rfl
theorem Event.put8 (e : Event) (x : Int) : V.setSub e.v 8 (.int x) = Event.v ⟨e.go, e.func, e.pc, e.op, e.alt, e.val, e.tag, e.touch, x⟩ := rfl
theorem tag_yes {p : Prg} {s : Stt} {x : Pck} (h : opAt p s x.go = 65) : tagOf p s x = (instrAt p s x.go).n := if_pos h
theorem tag_no {p : Prg} {s : Stt} {x : Pck} (h : ¬opAt p s x.go = 65) : tagOf p s x = 0 := if_neg h
theorem event_k (p : Prg) (s : Stt) (x : Pck) (val : Int) : event p s x val = evK p s x val (tagOf p s x) (touch p s x.go) (touch p s x.go).length := rfl

def lv15 : List (Nat × List Nat) := [(0, [3, 4, 5, 6, 8, 9]), (1, [3, 4, 5, 6, 8, 9, 11]), (2, [3, 4, 5, 6, 8, 9, 11, 23]), (3, [8, 9, 10]), (4, [3, 4, 5, 6, 8, 9, 32]), (5, [8, 9, 10]), (6, [3, 4, 5, 6, 8, 9, 60]), (7, [8, 9, 10]), (8, [3, 4, 5, 6, 8, 9, 12]), (9, [3, 4, 5, 6, 8, 9, 12, 13]), (10, [3, 4, 5, 6, 8, 9, 12, 13, 91, 92, 93]), (11, [3, 4, 5, 6, 8, 9, 12, 13, 91, 92, 93, 94]), (12, [3, 4, 5, 6, 8, 9, 12, 13, 15, 91, 92, 93]), (13, [3, 4, 5, 6, 8, 9, 12, 13, 91, 92, 93]), (14, [3, 4, 5, 6, 8, 9, 12, 13, 91, 92, 93]), (15, [3, 4, 5, 6, 8, 9, 12, 13, 91, 92, 93]), (16, [6, 8, 9, 12, 13, 16]), (17, [8, 9, 12, 13, 16, 17, 18]), (18, [8, 9, 12, 13, 16, 17, 18]), (19, [8, 9, 12, 13, 16, 17, 18, 129]), (20, [8, 9, 13, 16, 17, 18]), (21, [8, 9, 13, 16, 17, 18, 137]), (22, [8, 9, 13, 16, 18]), (23, [8, 9, 13, 16, 18]), (24, [8, 9, 13, 16, 18, 150]), (25, [8, 9, 13, 16]), (26, [8, 9, 10])]
-- scarab/step.Do
theorem pdo_ctr (p : Prg) (s : Stt) (x : Pck) (fuel : Int) (hp : p.Fit) (hs : s.Shape) : Ctr Go.Proofs.Tryz.prog tab 15 [26, 37, 39, 3] [37, 48, 49] [p.v, s.v, x.v, .int fuel] [(doV p s x fuel).1.v, (doV p s x fuel).2.1.v, .int (doV p s x fuel).2.2] := by
  have hpp := hp
  have hfit := hp
  have hcode := p.code_len hp
  have hsl := p.sels_len hp
  obtain ⟨hp1, hp2, hp3, hp4⟩ := hp
  have hs1 := hs.vars
  have hs2 := hs.owner
  have hs3 := hs.chans
  have hs5 := hs.gos
  have hmx : 256 ≤ maxLen := by decide
  refine Ctr.body ok Go.Proofs.Tryz.func15 rfl rfl 159 rfl [.cell 8 37, .cell 9 48, .tmp 10] rfl (by simp [fromVs]) ?_
  simp only [fromVs, fromV, args0, V.toList_list, V.toInt_int, V.toBool_bool, Nat.zero_add, Nat.reduceAdd, ty3, ty26, ty37, ty39]
  repeat' first
    | ((with_reducible refine SART.told 6 8 ?_)
       rcases Bool.eq_false_or_eq_true (decide (x.go < 0) || decide (6 ≤ x.go)) with hgo | hgo <;> simp only [hgo])
    | ((with_reducible refine SART.told 6 12 ?_)
       rcases Bool.eq_false_or_eq_true (liveB s x.go) with hlv0 | hlv0 <;> try simp only [hlv0])
    | ((with_reducible refine SARA.told 12 2 ?_)
       rw [getD_map Access.v (touch p s x.go) (by omega)])
    | ((with_reducible first | refine SARA.do fun R1 hR1 => ?_ | refine SART.do fun R1 hR1 => ?_ | refine SARB.keep fun R1 hR1 => ?_ | refine SARB.any fun R1 hR1 => ?_); (simp only [go_sem, seval, -List.reduceReplicate, Bool.cond_false_right, Bool.cond_true_left, atI_op, atI_a, atI_n, zeroState_at, zeroEvent_at, Event.at7, set_accs, fillTo_len, evK_touches, evK_touch, Event.put5, Event.put6, Event.put7, Event.put8, machV.s1, machV.s4, machV.s5, machV.v0, machV.v1, machV.v2, machV.v3, machV.v4, machV.v5, set_chns, set_ints, List.set_set, Chn.put0, Chn.put1, Chn.put2, Chn.put3, Chn.put4, Chn.put5, Stt.put0, Stt.put1, Stt.put2, Stt.put3, Stt.put4]); (repeat' with_reducible refine And.intro ?_ ?_); all_goals first | (refine hR1 _ ?_; clear hR1 R1) | ((first | refine ⟨_, _, rfl, .inr (mact_call p s x.go x.alt fuel hpp hr hv hgc ha fun ys nx md hn => ?_)⟩ | refine ⟨_, _, rfl, .inr (msettle_call p _ x.go hg6 (by first | exact hS1 | exact hS2) fuel _ _ _ hpp ?_)⟩ | refine ⟨_, _, rfl, .inl ⟨_, CallQ.ctr ok (pasked_ctr p s hpp hs) (by first | rfl | (simp [go_sem, List.length_map, List.take_of_length_le, argsV, contentV, toV]; done) | fail) rfl, ?_⟩⟩ | refine ⟨_, _, rfl, .inl ⟨_, fun hg => CallQ.ctr ok (pasked_ctr p s hpp hs) (by first | rfl | (simp [go_sem, List.length_map, List.take_of_length_le, argsV, contentV, toV]; done) | fail) rfl, ?_⟩⟩ | refine ⟨_, _, rfl, .inl ⟨_, CallQ.ctr ok (steplive_ctr s x.go hs (go_bnd hgo)) (by first | rfl | (simp [go_sem, List.length_map, List.take_of_length_le, argsV, contentV, toV]; done) | fail) rfl, ?_⟩⟩ | refine ⟨_, _, rfl, .inl ⟨_, fun hg => CallQ.ctr ok (steplive_ctr s x.go hs (go_bnd hgo)) (by first | rfl | (simp [go_sem, List.length_map, List.take_of_length_le, argsV, contentV, toV]; done) | fail) rfl, ?_⟩⟩ | refine ⟨_, _, rfl, .inr (CallE.ctr ok (palts_ctr p s x.go hpp hr hv ⟨(go_bnd hgo).1, liveB_count hv (go_bnd hgo).1 (go_bnd hgo).2 hlv0⟩ ((liveB_live hv (go_bnd hgo).1 (go_bnd hgo).2).trans hlv0)) (by first | rfl | (simp [go_sem, List.length_map, List.take_of_length_le, argsV, contentV, toV]; done) | fail) ?_)⟩ | refine ⟨_, _, rfl, .inr ⟨fun _ => CallE.ctr ok (palts_ctr p s x.go hpp hr hv ⟨(go_bnd hgo).1, liveB_count hv (go_bnd hgo).1 (go_bnd hgo).2 hlv0⟩ ((liveB_live hv (go_bnd hgo).1 (go_bnd hgo).2).trans hlv0)) (by first | rfl | (simp [go_sem, List.length_map, List.take_of_length_le, argsV, contentV, toV]; done) | fail) ?_, ?_⟩⟩ | refine ⟨_, _, rfl, .inr (CallB.ctr ok (palts_ctr p s x.go hpp hr hv ⟨(go_bnd hgo).1, liveB_count hv (go_bnd hgo).1 (go_bnd hgo).2 hlv0⟩ ((liveB_live hv (go_bnd hgo).1 (go_bnd hgo).2).trans hlv0)) (by first | rfl | (simp [go_sem, List.length_map, List.take_of_length_le, argsV, contentV, toV]; done) | fail) ?_)⟩ | refine ⟨_, _, rfl, .inr ⟨fun _ => CallB.ctr ok (palts_ctr p s x.go hpp hr hv ⟨(go_bnd hgo).1, liveB_count hv (go_bnd hgo).1 (go_bnd hgo).2 hlv0⟩ ((liveB_live hv (go_bnd hgo).1 (go_bnd hgo).2).trans hlv0)) (by first | rfl | (simp [go_sem, List.length_map, List.take_of_length_le, argsV, contentV, toV]; done) | fail) ?_, ?_⟩⟩ | refine ⟨_, _, rfl, .inl ⟨_, contains_q (alts p s x.go) x.alt hl5 rfl, ?_⟩⟩ | refine ⟨_, _, rfl, .inl ⟨_, CallQ.ctr ok (pat_ctr p s x.go hpp hr hw hgc) (by first | rfl | (simp [go_sem, List.length_map, List.take_of_length_le, argsV, contentV, toV]; done) | fail) rfl, ?_⟩⟩ | refine ⟨_, _, rfl, .inl ⟨_, fun hg => CallQ.ctr ok (pat_ctr p s x.go hpp hr hw hgc) (by first | rfl | (simp [go_sem, List.length_map, List.take_of_length_le, argsV, contentV, toV]; done) | fail) rfl, ?_⟩⟩ | refine ⟨_, _, rfl, .inr (CallE.ctr ok (ptouch_ctr p s x.go hpp hr hv hgc) (by first | rfl | (simp [go_sem, List.length_map, List.take_of_length_le, argsV, contentV, toV]; done) | fail) ?_)⟩ | refine ⟨_, _, rfl, .inr ⟨fun _ => CallE.ctr ok (ptouch_ctr p s x.go hpp hr hv hgc) (by first | rfl | (simp [go_sem, List.length_map, List.take_of_length_le, argsV, contentV, toV]; done) | fail) ?_, ?_⟩⟩ | refine ⟨_, _, rfl, .inr (CallB.ctr ok (ptouch_ctr p s x.go hpp hr hv hgc) (by first | rfl | (simp [go_sem, List.length_map, List.take_of_length_le, argsV, contentV, toV]; done) | fail) ?_)⟩ | refine ⟨_, _, rfl, .inr ⟨fun _ => CallB.ctr ok (ptouch_ctr p s x.go hpp hr hv hgc) (by first | rfl | (simp [go_sem, List.length_map, List.take_of_length_le, argsV, contentV, toV]; done) | fail) ?_, ?_⟩⟩ | refine ⟨_, _, rfl, .inl ⟨_, mown_callQ p _ x.go hg6 fuel _ _ rfl, ?_⟩⟩ | refine ⟨_, _, rfl, .inl ⟨.bool false, ?_⟩⟩); all_goals ((try simp only [go_sem, seval, -List.reduceReplicate, Bool.cond_false_right, Bool.cond_true_left, atI_op, atI_a, atI_n, zeroState_at, zeroEvent_at, Event.at7, set_accs, fillTo_len, evK_touches, evK_touch, Event.put5, Event.put6, Event.put7, Event.put8, machV.s1, machV.s4, machV.s5, machV.v0, machV.v1, machV.v2, machV.v3, machV.v4, machV.v5, set_chns, set_ints, List.set_set, Chn.put0, Chn.put1, Chn.put2, Chn.put3, Chn.put4, Chn.put5, Stt.put0, Stt.put1, Stt.put2, Stt.put3, Stt.put4]); (repeat' with_reducible refine And.intro ?_ ?_); all_goals first | (refine hR1 _ ?_; clear hR1 R1) | omega | rfl | decide | assumption | (intro _; omega) | (simp; done) | (simp [-List.getD_eq_getElem?_getD]; omega) | exact hcode _ | (intro _; exact hcode _) | exact hsl _ | (intro _; exact hsl _))) | omega | rfl | decide | assumption | (intro _; omega) | (simp; done) | (simp [-List.getD_eq_getElem?_getD]; omega) | exact hcode _ | (intro _; exact hcode _) | exact hsl _ | (intro _; exact hsl _))
    | ((with_reducible refine SART.doneAt 26 ?_); refine hR _ ?_; clear hR R; try simp only [go_sem, lv15, lvOf, Nat.reduceBEq, Option.getD_some]
       first | (have e : doV p s x fuel = (ms, event p s x mv, 0) := (by rw [doV_take hb23 hnf ha, hA hb137]); rw [e]; exact (St.le.cut 5 rfl).trans (St.le.of_eq (by rw [event_k, tag_yes hb129, ← hkl]; rfl))) | (have e : doV p s x fuel = ((settle applyW p (settle applyW p (pcS ms x.go nx) x.go fuel).1 md fuel).1, event p s x mv, 0) := (by rw [doV_take hb23 hnf ha, hT, if_pos hb150]); rw [e]; exact (St.le.cut 5 rfl).trans (St.le.of_eq (by rw [event_k, tag_yes hb129, ← hkl]; rfl))) | (have e : doV p s x fuel = ((settle applyW p (pcS ms x.go nx) x.go fuel).1, event p s x mv, 0) := (by rw [doV_take hb23 hnf ha, hT, if_neg (Int.not_le.2 hb150)]); rw [e]; exact (St.le.cut 5 rfl).trans (St.le.of_eq (by rw [event_k, tag_yes hb129, ← hkl]; rfl))) | (have e : doV p s x fuel = (ms, event p s x mv, 0) := (by rw [doV_take hb23 hnf ha, hA hb137]); rw [e]; exact (St.le.cut 5 rfl).trans (St.le.of_eq (by rw [event_k, tag_no hb129, ← hkl]; rfl))) | (have e : doV p s x fuel = ((settle applyW p (settle applyW p (pcS ms x.go nx) x.go fuel).1 md fuel).1, event p s x mv, 0) := (by rw [doV_take hb23 hnf ha, hT, if_pos hb150]); rw [e]; exact (St.le.cut 5 rfl).trans (St.le.of_eq (by rw [event_k, tag_no hb129, ← hkl]; rfl))) | (have e : doV p s x fuel = ((settle applyW p (pcS ms x.go nx) x.go fuel).1, event p s x mv, 0) := (by rw [doV_take hb23 hnf ha, hT, if_neg (Int.not_le.2 hb150)]); rw [e]; exact (St.le.cut 5 rfl).trans (St.le.of_eq (by rw [event_k, tag_no hb129, ← hkl]; rfl))))
    | ((with_reducible refine SART.done ?_); refine hR _ ?_; clear hR R; try simp only [go_sem, lv15, lvOf, Nat.reduceBEq, Option.getD_some])
    | (with_reducible first | refine SART.br ?_ ?_ | exact SARL.nil | refine SARL.cons ?_ ?_)
    | ((with_reducible refine SARA.nil ?_); refine hR _ ?_; clear hR R; try simp only [go_sem, lv15, lvOf, Nat.reduceBEq, Option.getD_some])
    | (with_reducible first | refine thenK.normal ?_ | refine SA.seq ?_ | refine SA.skip ?_ | refine SA.block ?_ | refine blockK.normal ?_ | refine SA.exit ?_ | refine blockK.hit ?_ | refine blockK.miss (by decide) ?_ | refine thenK.exit ?_ | refine loopK.exit ?_ | refine SA.ret ?_ | refine thenK.ret ?_ | refine blockK.ret ?_ | refine loopK.ret ?_ | refine SA.scope ?_ | refine scopeK.normal ?_ | refine scopeK.exit ?_ | refine scopeK.ret ?_ | refine SA.label ?_)
    | ((with_reducible refine SA.at 8 ?_)
       have ha : x.alt ∈ alts p s x.go := hb60
       have hgc := (live_iff.1 (alts_live ha)).1
       have hct := hv.count
       have hg6 : 0 ≤ x.go ∧ x.go < 6 := by omega
       have hnf : ¬(fuel < 0 ∨ 4096 < fuel) := by omega
       have hto := touch_ok hok hw hgc
       have hln := hto.2.2
       refine SA.weaken (St.le.cut 5 rfl) ?_
       (with_reducible refine SA.regionN ok (by kernel_rfl) lv15 ?_); intro R hR; simp only [go_sem, strip])
    | ((with_reducible refine SA.at 12 ?_)
       have hk6 : k < 6 := by omega
       (with_reducible refine SA.regionN ok (by kernel_rfl) lv15 ?_); intro R hR; simp only [go_sem, strip])
    | ((with_reducible refine SA.at 16 ?_)
       have hkl : k = (touch p s x.go).length := by omega
       refine SA.weaken ((St.le.keep [3, 4, 5, 6, 8, 9, 12, 13]).trans ((St.le.cut 7 rfl).trans (St.le.of_eq (show _ = ({ tm := [(3, true, .int .i64 fuel), (4, true, .ptr 0 [] 26), (5, true, .ptr 1 [] 37), (6, true, .ptr 2 [] 39), (8, true, .ptr 3 [] 37), (9, true, .ptr 4 [] 48), (12, true, .ptr 5 [] 129), (13, true, .ptr 6 [] 48)], ob := [.var 26 (.data 26 p.v), .var 37 (.data 37 s.v), .var 39 (.data 39 x.v), .var 37 (.data 37 zeroStt.v), .var 48 (.data 48 zeroEvent.v), .var 129 (.data 129 (atI p s x.go).v), .var 48 (.data 48 (Event.v (evK p s x 0 0 (touch p s x.go) k)))], out := [], nt := 159 } : St) from rfl)))) ?_
       (with_reducible refine SA.regionN ok (by kernel_rfl) lv15 ?_); intro R hR; simp only [go_sem, strip])
    | ((with_reducible refine SA.at 17 ?_)
       refine SA.weaken (St.le.of_eq (show _ = ({ tm := [(6, true, .ptr 2 [] 39), (8, true, .ptr 3 [] 37), (9, true, .ptr 4 [] 48), (12, true, .ptr 5 [] 129), (13, true, .ptr 6 [] 48), (16, true, .ptr 7 [] 133)], ob := [.var 26 (.data 26 p.v), .var 37 (.data 37 s.v), .var 39 (.data 39 x.v), .var 37 (.data 37 zeroStt.v), .var 48 (.data 48 zeroEvent.v), .var 129 (.data 129 (atI p s x.go).v), .var 48 (.data 48 (Event.v (evK p s x 0 0 (touch p s x.go) k))), .var 133 (.data 133 (machV p s x.go fuel 0 false))], out := [], nt := 159 } : St) from rfl)) ?_
       (with_reducible refine SA.regionN ok (by kernel_rfl) lv15 ?_); intro R hR; simp only [go_sem, strip])
    | ((with_reducible refine SA.at 18 ?_)
       obtain ⟨ms, mv, mo, hm, hm6, hA, hB⟩ := mach_after hr hok hv ha (fuel := fuel) (by omega) hn
       rw [hm]
       refine SA.weaken ((St.le.cut 8 rfl).trans (St.le.of_eq (show _ = ({ tm := [(8, true, .ptr 3 [] 37), (9, true, .ptr 4 [] 48), (12, true, .ptr 5 [] 129), (13, true, .ptr 6 [] 48), (16, true, .ptr 7 [] 133), (17, true, .int .i64 nx), (18, true, .int .i64 md)], ob := [.var 26 (.data 26 p.v), .var 37 (.data 37 s.v), .var 39 (.data 39 x.v), .var 37 (.data 37 zeroStt.v), .var 48 (.data 48 zeroEvent.v), .var 129 (.data 129 (atI p s x.go).v), .var 48 (.data 48 (Event.v (evK p s x 0 0 (touch p s x.go) k))), .var 133 (.data 133 (machV p ms x.go fuel mv mo))], out := [], nt := 159 } : St) from rfl))) ?_
       (with_reducible refine SA.regionN ok (by kernel_rfl) lv15 ?_); intro R hR; simp only [go_sem, strip])
    | ((with_reducible refine SA.at 23 ?_)
       obtain ⟨hS1, hS2, hT⟩ := hB hb137
       (with_reducible refine SA.regionN ok (by kernel_rfl) lv15 ?_); intro R hR; simp only [go_sem, strip])
    | ((with_reducible refine SA.at 6 ?_)
       have hr := (ask_zero hb23).1
       have hok := Prg.ok hr
       have hv := Vld.of hok hs (ask_zero hb23).2
       have hw := hv.wf hok hr
       have hal := pAlts_short hok hw x.go
       have hl5 : (alts p s x.go).length ≤ 256 := by omega
       refine SA.regionT ok mixed (.take 0 (.take 1 (.take 2 (.take 3 (.take 4 (.take 5 (.take 6 (.take 7 (.take 8 (.take 9 (.take 10 (.take 11 (.br 12 (.take 13 (.take 14 (.take 15 (.take 16 (.take 17 (.take 18 (.take 19 (.take 21 (.take 22 (.br 20 (.br 23 (.take 24 (.take 25 .done)) .nil) .nil)))))))))) .nil))))))))))))) [] lv15 (by kernel_rfl) (fun R hR => ?_); simp only [go_sem, strip])
    | ((with_reducible refine SA.at 9 ?_)
       refine SA.regionT ok mixed (.take 0 (.take 1 (.take 2 (.take 3 (.take 4 (.take 5 (.take 6 (.take 7 (.take 8 (.take 9 (.take 10 (.take 11 (.take 12 (.take 13 (.take 14 (.take 15 (.take 16 (.take 17 (.take 18 (.br 19 (.br 20 .done .nil) .nil)))))))))))))))))))) [20] lv15 (by kernel_rfl) (fun R hR => ?_); simp only [go_sem, strip])
    | ((with_reducible refine SA.at 26 ?_)
       refine SA.regionTP ok mixed (.take 0 (.take 1 (.take 2 (.take 3 (.br 4 (.br 5 (.br 6 (.take 7 .done) .nil) .nil) (.br 5 (.take 4 (.br 6 (.take 7 .done) .nil)) .nil)))))) [5, 6] lv15 (by kernel_rfl) ({ tm := [(8, true, .ptr 3 [] 37), (9, true, .ptr 4 [] 48), (10, true, .int .i64 0)], ob := [.var 26 (.data 26 p.v), .var 37 (.data 37 s.v), .var 39 (.data 39 x.v), .var 37 (.data 37 (doV p s x fuel).1.v), .var 48 (.data 48 (doV p s x fuel).2.1.v)], out := [], nt := 159 }) (fun R hR => ?_) ?_; simp only [go_sem, strip])
    | ((with_reducible refine SA.regionN ok (by kernel_rfl) lv15 ?_); intro R hR; simp only [go_sem, strip])
    | ((with_reducible refine SA.condAt 23 rfl (fun hb23 => ?_) (fun hb23 => ?_))
       all_goals
         try simp [-List.getD_eq_getElem?_getD] at hb23
         try (exfalso; omega))
    | ((with_reducible refine SA.condAt 32 rfl (fun hb32 => ?_) (fun hb32 => ?_))
       all_goals
         try simp [-List.getD_eq_getElem?_getD] at hb32
         try (exfalso; omega))
    | ((with_reducible refine SA.condAt 60 rfl (fun hb60 => ?_) (fun hb60 => ?_))
       all_goals
         try simp [-List.getD_eq_getElem?_getD] at hb60
         try (exfalso; omega))
    | ((with_reducible refine SA.condAt 129 rfl (fun hb129 => ?_) (fun hb129 => ?_))
       all_goals
         try simp [-List.getD_eq_getElem?_getD] at hb129
         try (exfalso; omega))
    | ((with_reducible refine SA.condAt 137 rfl (fun hb137 => ?_) (fun hb137 => ?_))
       all_goals
         try simp [-List.getD_eq_getElem?_getD] at hb137
         try (exfalso; omega))
    | ((with_reducible refine SA.condAt 150 rfl (fun hb150 => ?_) (fun hb150 => ?_))
       all_goals
         try simp [-List.getD_eq_getElem?_getD] at hb150
         try (exfalso; omega))
    | ((with_reducible refine SA.cond rfl ?_ ?_)
       all_goals
         intro hb
         try simp [-List.getD_eq_getElem?_getD] at hb
         try (exfalso; omega))
    | ((with_reducible refine SA.atLoop ?_)
       refine SA.weaken (St.le.of_eq (by rfl)) (SA.loop (fun n τ => ∃ (k : Nat), n = (touch p s x.go).length - k ∧ (k ≤ (touch p s x.go).length) ∧ τ = { tm := [(3, true, .int .i64 fuel), (4, true, .ptr 0 [] 26), (5, true, .ptr 1 [] 37), (6, true, .ptr 2 [] 39), (8, true, .ptr 3 [] 37), (9, true, .ptr 4 [] 48), (12, true, .ptr 5 [] 129), (13, true, .ptr 6 [] 48), (91, true, .sl 7 45 0 (touch p s x.go).length false), (92, true, .int .i64 (touch p s x.go).length), (93, true, .int .i64 k)], ob := [.var 26 (.data 26 p.v), .var 37 (.data 37 s.v), .var 39 (.data 39 x.v), .var 37 (.data 37 zeroStt.v), .var 48 (.data 48 zeroEvent.v), .var 129 (.data 129 (atI p s x.go).v), .var 48 (.data 48 (Event.v (evK p s x 0 0 (touch p s x.go) k))), .row 45 ((touch p s x.go).map Access.v)], out := [], nt := 159 }) ((touch p s x.go).length) ⟨0, rfl, by omega, rfl⟩ ?_)
       rintro n τ ⟨k, hn, hk, rfl⟩)
    | ((with_reducible refine loopK.round ?_)
       first
         | (have hw2 := wrap_succ (n := k) (m := 256) (by omega) (by decide)
            have e := fillTo_succ (touch p s x.go) hk6
            refine loopK.normal ((touch p s x.go).length - (k + 1)) _ (by omega) ((St.le.cut 8 rfl).trans (St.le.of_eq ?_)) ⟨k + 1, rfl, by omega, rfl⟩
            simp only [hw2, evK, e, List.take_succ_cons, List.take_zero]))
    | ((with_reducible first | refine ctrK.normal ?_ | refine ctrK.ret ?_)
       simp only [go_sem, resA, resV, backK, seval]
       first
         | (have q : ¬_ := hb23
            rw [doV_ask hb23]
            exact ⟨⟨rfl, rfl⟩, ⟨rfl, rfl⟩, rfl, rfl⟩)
         | (have q : _ ∨ _ := hb32
            rw [doV_fuel hb23 hb32]
            exact ⟨⟨rfl, rfl⟩, ⟨rfl, rfl⟩, rfl, rfl⟩)
         | (rw [doV_pick hb23 (by omega) (alts_none hv (.inl (go_none hgo)))]
            exact ⟨⟨rfl, rfl⟩, ⟨rfl, rfl⟩, rfl, rfl⟩)
         | (rw [doV_pick hb23 (by omega) (alts_none hv (.inr hlv0))]
            exact ⟨⟨rfl, rfl⟩, ⟨rfl, rfl⟩, rfl, rfl⟩)
         | (have q : ¬_ := hb60
            rw [doV_pick hb23 (by omega) hb60]
            exact ⟨⟨rfl, rfl⟩, ⟨rfl, rfl⟩, rfl, rfl⟩)
         | (have e := doV_take hb23 hnf ha
            rw [e]
            exact ⟨rfl, rfl, rfl, rfl⟩))

end Go.Eng.Tryz
namespace Go.Eng.Tryz
open Go.RowKit Go.Eng
set_option linter.unusedSimpArgs false
set_option linter.unusedVariables false
set_option maxHeartbeats 0
set_option maxRecDepth 20000

def p0 : Prg := ⟨[], 0, [], [⟨0, 0, [⟨64, 0, 0, 0, 0⟩, ⟨45, 0, 0, 0, 0⟩], []⟩]⟩
def s0 : Stt := ⟨List.replicate 8 0, List.replicate 4 0, List.replicate 4 zeroChn, [⟨1, 0, 0, 0, List.replicate 8 0⟩, zeroGor, zeroGor, zeroGor, zeroGor, zeroGor], 1⟩
def s1 : Stt := ⟨List.replicate 8 0, List.replicate 4 0, List.replicate 4 zeroChn, [⟨3, 0, 1, 0, List.replicate 8 0⟩, zeroGor, zeroGor, zeroGor, zeroGor, zeroGor], 1⟩
def e1 : Event := ⟨0, 0, 0, 64, 0, 0, 0, [⟨5, 0, true⟩, ⟨0, 0, false⟩, ⟨0, 0, false⟩, ⟨0, 0, false⟩, ⟨0, 0, false⟩, ⟨0, 0, false⟩], 1⟩
theorem p0_fit : p0.Fit := ⟨by decide, by decide, by decide, by
  intro f hf
  simp [p0] at hf
  subst hf
  exact ⟨by decide, by decide, by intro s hs; simp at hs⟩⟩
theorem s0_shape : s0.Shape := ⟨rfl, rfl, rfl, by intro c hc; simp [s0] at hc; subst hc; rfl, rfl, by intro g hg; simp [s0] at hg; rcases hg with rfl | rfl <;> rfl⟩
theorem s1_shape : s1.Shape := ⟨rfl, rfl, rfl, by intro c hc; simp [s1] at hc; subst hc; rfl, rfl, by intro g hg; simp [s1] at hg; rcases hg with rfl | rfl <;> rfl⟩
theorem sp_ready : Ctr Go.Proofs.Tryz.prog tab 26 [26, 37] [64, 49] [p0.v, s0.v] [.list [Pck.v ⟨0, 0⟩], .int 0] := by
  have h := pReady_ctr p0 s0 p0_fit s0_shape
  rw [show askErr p0 s0 = 0 by decide +kernel, if_pos rfl, show ready p0 s0 = [⟨0, 0⟩] by decide +kernel] at h
  exact h
theorem sp_do1 : Ctr Go.Proofs.Tryz.prog tab 15 [26, 37, 39, 3] [37, 48, 49] [p0.v, s0.v, Pck.v ⟨0, 0⟩, .int 1] [s1.v, e1.v, .int 0] := by
  have h := pdo_ctr p0 s0 ⟨0, 0⟩ 1 p0_fit s0_shape
  rw [show doV p0 s0 ⟨0, 0⟩ 1 = (s1, e1, 0) by decide +kernel] at h
  exact h
theorem sp_do2 : Ctr Go.Proofs.Tryz.prog tab 15 [26, 37, 39, 3] [37, 48, 49] [p0.v, s1.v, Pck.v ⟨0, 0⟩, .int 1] [zeroStt.v, zeroEvent.v, .int 5] := by
  have h := pdo_ctr p0 s1 ⟨0, 0⟩ 1 p0_fit s1_shape
  rw [show doV p0 s1 ⟨0, 0⟩ 1 = (zeroStt, zeroEvent, 5) by decide +kernel] at h
  exact h

def lv17 : List (Nat × List Nat) := [(0, []), (1, [1]), (2, [1, 2]), (3, [1, 2]), (4, [1, 2, 3, 4]), (5, [1, 3, 4, 5, 6, 7]), (6, [3, 4, 5, 6, 7, 10]), (7, [0])]
-- scarab/scarablaw08.speaks
theorem speaks_ctr : Ctr Go.Proofs.Tryz.prog tab 17 [] [4] [] [.bool true] := by
  have hmx : 256 ≤ maxLen := by decide
  refine Ctr.body ok Go.Proofs.Tryz.func17 rfl rfl 75 rfl [.tmp 0] rfl (by simp [fromVs]) ?_
  simp only [fromVs, fromV, args0, V.toList_list, V.toInt_int, V.toBool_bool, Nat.zero_add, Nat.reduceAdd, ]
  repeat' first
    | ((with_reducible refine SARW.told 1 3 ?_)
       refine SARW.weak (St.le.frzRow ok.sized 0 rfl) ?_
       simp only [St.frz, Tm.frz, E.frz, E.frzL, Obj.frz, List.map_cons, List.map_nil, List.set_cons_zero, List.set_cons_succ, Nat.reduceBEq, Nat.beq_refl, if_true, if_false, Nat.beq_eq_true_eq, reduceCtorEq, Bool.false_eq_true, V.get, Nat.reduceEqDiff])
    | ((with_reducible refine SARW.told 1 5 ?_)
       refine SARW.weak (St.le.frzRow ok.sized 1 rfl) ?_
       simp only [St.frz, Tm.frz, E.frz, E.frzL, Obj.frz, List.map_cons, List.map_nil, List.set_cons_zero, List.set_cons_succ, Nat.reduceBEq, Nat.beq_refl, if_true, if_false, Nat.beq_eq_true_eq, reduceCtorEq, Bool.false_eq_true, V.get, Nat.reduceEqDiff])
    | ((with_reducible first | refine SARA.do fun R1 hR1 => ?_ | refine SARW.do fun R1 hR1 => ?_); (simp only [go_sem, seval, -List.reduceReplicate, Bool.cond_false_right, Bool.cond_true_left]); (repeat' with_reducible refine And.intro ?_ ?_); all_goals first | (refine hR1 _ ?_; clear hR1 R1) | ((first | refine ⟨_, _, rfl, .inr (CallE.ctr ok (sp_ready) (by first | rfl | (simp [go_sem, List.length_map, List.take_of_length_le]; done) | fail) ?_)⟩ | refine ⟨_, _, rfl, .inr (CallE.ctr ok (sp_do1) (by first | rfl | (simp [go_sem, List.length_map, List.take_of_length_le]; done) | fail) ?_)⟩ | refine ⟨_, _, rfl, .inr (CallE.ctr ok (sp_do2) (by first | rfl | (simp [go_sem, List.length_map, List.take_of_length_le]; done) | fail) ?_)⟩); all_goals ((try simp only [go_sem, seval, -List.reduceReplicate, Bool.cond_false_right, Bool.cond_true_left]); (repeat' with_reducible refine And.intro ?_ ?_); all_goals first | (refine hR1 _ ?_; clear hR1 R1) | omega | rfl | decide | assumption | (intro _; omega) | (simp; done) | (simp [-List.getD_eq_getElem?_getD]; omega) | exact hcode _ | (intro _; exact hcode _) | exact hsl _ | (intro _; exact hsl _) | (simp [-List.getD_eq_getElem?_getD, roomFor, maxLen, by3, by39, by45, by48, by37]; omega) | (simp [-List.getD_eq_getElem?_getD, roomFor, maxLen, by3, by39, by45, by48, by37]; done))) | omega | rfl | decide | assumption | (intro _; omega) | (simp; done) | (simp [-List.getD_eq_getElem?_getD]; omega) | exact hcode _ | (intro _; exact hcode _) | exact hsl _ | (intro _; exact hsl _) | (simp [-List.getD_eq_getElem?_getD, roomFor, maxLen, by3, by39, by45, by48, by37]; omega) | (simp [-List.getD_eq_getElem?_getD, roomFor, maxLen, by3, by39, by45, by48, by37]; done))
    | ((with_reducible refine SARA.nil ?_); refine hR _ ?_; clear hR R; try simp only [go_sem, lv17, lvOf, Nat.reduceBEq, Option.getD_some])
    | ((with_reducible refine SARW.nil ?_); refine hR _ ?_; clear hR R; try simp only [go_sem, lv17, lvOf, Nat.reduceBEq, Option.getD_some])
    | (with_reducible first | refine thenK.normal ?_ | refine SA.seq ?_ | refine SA.skip ?_ | refine SA.block ?_ | refine blockK.normal ?_ | refine SA.exit ?_ | refine blockK.hit ?_ | refine blockK.miss (by decide) ?_ | refine thenK.exit ?_ | refine loopK.exit ?_ | refine SA.ret ?_ | refine thenK.ret ?_ | refine blockK.ret ?_ | refine loopK.ret ?_ | refine SA.scope ?_ | refine scopeK.normal ?_ | refine scopeK.exit ?_ | refine scopeK.ret ?_ | refine SA.label ?_)
    | ((with_reducible refine SA.at 2 ?_)
       refine SA.weaken (St.le.of_eq (show _ = ({ tm := [(1, true, .ptr 2 [] 26)], ob := [.dead, .dead, .var 26 (.data 26 p0.v)], out := [], nt := 75 } : St) from rfl)) ?_
       (with_reducible refine SA.regionN ok (by kernel_rfl) lv17 ?_); intro R hR; simp only [go_sem, strip])
    | ((with_reducible refine SA.at 4 ?_)
       refine SA.weaken (St.le.of_eq (show _ = ({ tm := [(1, true, .ptr 2 [] 26), (2, true, .ptr 3 [] 37)], ob := [.dead, .dead, .var 26 (.data 26 p0.v), .var 37 (.data 37 s0.v)], out := [], nt := 75 } : St) from rfl)) ?_
       (with_reducible refine SA.regionN ok (by kernel_rfl) lv17 ?_); intro R hR; simp only [go_sem, strip])
    | ((with_reducible refine SA.at 1 ?_)
       skip
       (with_reducible refine SA.regionWN ok (by kernel_rfl) lv17 ?_); intro R hR; simp only [go_sem, strip])
    | ((with_reducible refine SA.regionN ok (by kernel_rfl) lv17 ?_); intro R hR; simp only [go_sem, strip])
    | ((with_reducible first | refine ctrK.normal ?_ | refine ctrK.ret ?_)
       simp only [go_sem, resA, resV, backK, seval]
       exact ⟨rfl, rfl⟩)

end Go.Eng.Tryz
/- The ready picks, goroutine by goroutine; who waits. -/
namespace Go.Eng
set_option linter.unusedSimpArgs false
set_option linter.unusedVariables false
section
variable {p : Prg} {s : Stt} {L : List Int} {i : Nat}
theorem cut_at (h : i < L.length) : L = L.take i ++ L.getD i 0 :: L.drop (i + 1) := by
  have e : L.getD i 0 = L[i] := by simp [List.getD_eq_getElem?_getD, h]
  rw [e, ← List.drop_eq_getElem_cons h, List.take_append_drop]
theorem rdyL_app (a b : List Int) : rdyL p s (a ++ b) = rdyL p s a ++ rdyL p s b := by unfold rdyL; rw [List.flatMap_append]
theorem rdyL_cons (g : Int) (b : List Int) : rdyL p s (g :: b) = (alts p s g).map (fun a => (⟨g, a⟩ : Pck)) ++ rdyL p s b := rfl
theorem rd_succ (h : i < L.length) : (rdyL p s (L.take (i + 1))).length = (rdyL p s (L.take i)).length + (alts p s (L.getD i 0)).length := by
  rw [take_getD h, rdyL_snoc, List.length_append, List.length_map]
theorem rd_at {R : List Pck} (hR : rdyL p s L = R) {k : Nat} (h : i < L.length) (hk : k < (alts p s (L.getD i 0)).length) :
    (rdyL p s (L.take i)).length + k < R.length ∧ R.getD ((rdyL p s (L.take i)).length + k) default = ⟨L.getD i 0, (alts p s (L.getD i 0)).getD k 0⟩ := by
  subst hR
  have e := cut_at h
  have e2 : rdyL p s L = rdyL p s (L.take i) ++ ((alts p s (L.getD i 0)).map (fun a => (⟨L.getD i 0, a⟩ : Pck)) ++ rdyL p s (L.drop (i + 1))) := by
    conv => lhs; rw [e]
    rw [rdyL_app, rdyL_cons]
  rw [e2]
  refine ⟨by rw [List.length_append, List.length_append, List.length_map]; omega, ?_⟩
  rw [List.getD_eq_getElem?_getD, List.getElem?_append_right (by omega), show (rdyL p s (L.take i)).length + k - (rdyL p s (L.take i)).length = k by omega, List.getElem?_append_left (by rw [List.length_map]; exact hk), List.getElem?_map, List.getElem?_eq_getElem hk]
  rw [List.getD_eq_getElem?_getD (l := alts p s (L.getD i 0)), List.getElem?_eq_getElem hk]
  rfl
theorem stuckL_app (a b : List Int) : stuckL p s (a ++ b) = stuckL p s a ++ stuckL p s b := List.filter_append ..
theorem st_skip (h : i < L.length) (hk : ¬(alts p s (L.getD i 0)).length = 0) : stuckL p s (L.take (i + 1)) = stuckL p s (L.take i) := by
  rw [take_getD h, stuckL_app]
  have e : stuckL p s [L.getD i 0] = [] := by
    unfold stuckL
    rw [List.filter_cons_of_neg (by rw [decide_eq_true (show 0 < (alts p s (L.getD i 0)).length by omega)]; decide)]
    rfl
  rw [e, List.append_nil]
theorem st_at {R : List Int} (hR : stuckL p s L = R) (h : i < L.length) (hk : (alts p s (L.getD i 0)).length = 0) :
    (stuckL p s (L.take i)).length < R.length ∧ R.getD (stuckL p s (L.take i)).length 0 = L.getD i 0 ∧ (stuckL p s (L.take (i + 1))).length = (stuckL p s (L.take i)).length + 1 := by
  subst hR
  have e := cut_at h
  have e1 : ∀ b, stuckL p s (L.getD i 0 :: b) = L.getD i 0 :: stuckL p s b := fun b => by
    unfold stuckL
    rw [List.filter_cons_of_pos (by rw [decide_eq_false (show ¬0 < (alts p s (L.getD i 0)).length by omega)]; rfl)]
  have e2 : stuckL p s L = stuckL p s (L.take i) ++ L.getD i 0 :: stuckL p s (L.drop (i + 1)) := by
    conv => lhs; rw [e]
    rw [stuckL_app, e1]
  refine ⟨by rw [e2, List.length_append, List.length_cons]; omega, ?_, ?_⟩
  · rw [e2, List.getD_eq_getElem?_getD, List.getElem?_append_right (Nat.le_refl _), Nat.sub_self]
    rfl
  · rw [take_getD h, stuckL_app, e1, List.length_append, List.length_cons]
    rfl
theorem blame_none {g : Int} (h : 0 < (alts p s g).length) : (blameV p s g).length = 0 := by unfold blameV; rw [if_pos h]; rfl
theorem stuck_le : (stuckL p s L).length ≤ L.length := List.length_filter_le _ _
theorem one_live (h0 : askErr p s = 0) (hv : Vld p s) {k : Nat} (hk : k < (liveTo s 6).length) : oneErr p s ((liveTo s 6).getD k 0) = 0 := by
  obtain ⟨h1, h2⟩ := liveTo_at hv hk
  have hc := hv.count
  unfold oneErr
  rw [if_neg (fun q => q h0), if_neg (by omega), if_neg]
  rw [← liveB_live hv h1.1 (by omega), h2]
  decide
end
end Go.Eng
