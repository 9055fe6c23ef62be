/- What is done to variables and locks, case by case; what a goroutine is made with. -/
import Derived.Test.YtedceinkpkoncaaGreatDoorPk34
import Derived.Test.YtedceinkpkoncaaGreatDoorPk35
import Derived.WalkKit
import Derived.Deep.QuietTactic
import Derived.Test.YtedceinkpkoncaaGreatDoorPk24
namespace Go.Eng
set_option linter.unusedSimpArgs false
set_option linter.unusedVariables false
structure VarsIn (x : Instr) : Prop where
  i50 : x.op = 50 → x.a < 8 ∧ 0 ≤ x.b ∧ x.b < 8
  i51 : x.op = 51 → (0 ≤ x.a ∧ x.a < 8) ∧ 0 ≤ x.b ∧ x.b < 8
  i52 : x.op = 52 → x.a < 8 ∧ (0 ≤ x.b ∧ x.b < 8) ∧ 0 ≤ x.c ∧ x.c < 8
  i53 : x.op = 53 → x.a < 8 ∧ (0 ≤ x.b ∧ x.b < 8) ∧ (0 ≤ x.c ∧ x.c < 8) ∧ 0 ≤ x.n ∧ x.n < 8
  i54 : x.op = 54 → 0 ≤ x.b ∧ x.b < 8
  i55 : x.op = 55 ∨ x.op = 56 → 0 ≤ x.a ∧ x.a < 4
  i57 : x.op = 57 → x.a < 8 ∧ 0 ≤ x.b ∧ x.b < 4
section
variable {s : Stt} {g t : Int} {x : Instr}
abbrev regOf (s : Stt) (g r : Int) : Int := (s.gos.getD g.toNat default).regs.getD r.toNat 0
abbrev varOf (s : Stt) (k : Int) : Int := s.vars.getD k.toNat 0
theorem dv50 (h : x.op = 50) : doVars ⟨s, 0, 0, t⟩ g x = ⟨s.setReg g x.a (varOf s x.b), varOf s x.b, 0, t⟩ := if_pos h
theorem dv51 (h : x.op = 51) : doVars ⟨s, 0, 0, t⟩ g x = ⟨⟨s.vars.set x.a.toNat (regOf s g x.b), s.owner, s.chans, s.gos, s.count⟩, regOf s g x.b, 0, t⟩ := (if_neg (by omega)).trans (if_pos h)
theorem dv52 (h : x.op = 52) : doVars ⟨s, 0, 0, t⟩ g x = ⟨⟨(s.setReg g x.a (varOf s x.b)).vars.set x.b.toNat (IntKind.i64.wrap (varOf (s.setReg g x.a (varOf s x.b)) x.b + regOf s g x.c)), (s.setReg g x.a (varOf s x.b)).owner, (s.setReg g x.a (varOf s x.b)).chans, (s.setReg g x.a (varOf s x.b)).gos, (s.setReg g x.a (varOf s x.b)).count⟩, regOf s g x.c, 0, t⟩ :=
  (if_neg (by omega)).trans ((if_neg (by omega)).trans (if_pos h))
theorem dv53 (h : x.op = 53) (hv : yes (decide (varOf s x.b = regOf s g x.c)) = 1) : doVars ⟨s, 0, 0, t⟩ g x = ⟨Stt.setReg ⟨s.vars.set x.b.toNat (regOf s g x.n), s.owner, s.chans, s.gos, s.count⟩ g x.a (yes (decide (varOf s x.b = regOf s g x.c))), yes (decide (varOf s x.b = regOf s g x.c)), 0, t⟩ :=
  (if_neg (by omega)).trans ((if_neg (by omega)).trans ((if_neg (by omega)).trans ((if_pos h).trans (congrArg (fun u : Stt => (⟨u.setReg g x.a (yes (decide (varOf s x.b = regOf s g x.c))), yes (decide (varOf s x.b = regOf s g x.c)), 0, t⟩ : Did)) (if_pos hv)))))
theorem dv53' (h : x.op = 53) (hv : ¬yes (decide (varOf s x.b = regOf s g x.c)) = 1) : doVars ⟨s, 0, 0, t⟩ g x = ⟨s.setReg g x.a (yes (decide (varOf s x.b = regOf s g x.c))), yes (decide (varOf s x.b = regOf s g x.c)), 0, t⟩ :=
  (if_neg (by omega)).trans ((if_neg (by omega)).trans ((if_neg (by omega)).trans ((if_pos h).trans (congrArg (fun u : Stt => (⟨u.setReg g x.a (yes (decide (varOf s x.b = regOf s g x.c))), yes (decide (varOf s x.b = regOf s g x.c)), 0, t⟩ : Did)) (if_neg hv)))))
theorem dv54 (h : x.op = 54) : doVars ⟨s, 0, 0, t⟩ g x = ⟨s, regOf s g x.b, 0, t⟩ := (if_neg (by omega)).trans ((if_neg (by omega)).trans ((if_neg (by omega)).trans ((if_neg (by omega)).trans (if_pos h))))
theorem dv55 (h : x.op = 55) : doVars ⟨s, 0, 0, t⟩ g x = ⟨⟨s.vars, s.owner.set x.a.toNat (g + 1), s.chans, s.gos, s.count⟩, 0, 0, t⟩ := (if_neg (by omega)).trans ((if_neg (by omega)).trans ((if_neg (by omega)).trans ((if_neg (by omega)).trans ((if_neg (by omega)).trans (if_pos h)))))
theorem dv56 (h : x.op = 56) (ho : s.owner.getD x.a.toNat 0 = g + 1) : doVars ⟨s, 0, 0, t⟩ g x = ⟨⟨s.vars, s.owner.set x.a.toNat 0, s.chans, s.gos, s.count⟩, 0, 0, t⟩ := (if_neg (by omega)).trans ((if_neg (by omega)).trans ((if_neg (by omega)).trans ((if_neg (by omega)).trans ((if_neg (by omega)).trans ((if_neg (by omega)).trans ((if_pos h).trans (if_neg (fun q => q ho))))))))
theorem dv56' (h : x.op = 56) (ho : ¬s.owner.getD x.a.toNat 0 = g + 1) : doVars ⟨s, 0, 0, t⟩ g x = ⟨s, 0, 6, t⟩ := (if_neg (by omega)).trans ((if_neg (by omega)).trans ((if_neg (by omega)).trans ((if_neg (by omega)).trans ((if_neg (by omega)).trans ((if_neg (by omega)).trans ((if_pos h).trans (if_pos ho)))))))
theorem dv57 (h : x.op = 57) (hv : yes (decide (s.owner.getD x.b.toNat 0 = 0)) = 1) : doVars ⟨s, 0, 0, t⟩ g x = ⟨Stt.setReg ⟨s.vars, s.owner.set x.b.toNat (g + 1), s.chans, s.gos, s.count⟩ g x.a (yes (decide (s.owner.getD x.b.toNat 0 = 0))), yes (decide (s.owner.getD x.b.toNat 0 = 0)), 0, t⟩ :=
  (if_neg (by omega)).trans ((if_neg (by omega)).trans ((if_neg (by omega)).trans ((if_neg (by omega)).trans ((if_neg (by omega)).trans ((if_neg (by omega)).trans ((if_neg (by omega)).trans ((if_pos h).trans (congrArg (fun u : Stt => (⟨u.setReg g x.a (yes (decide (s.owner.getD x.b.toNat 0 = 0))), yes (decide (s.owner.getD x.b.toNat 0 = 0)), 0, t⟩ : Did)) (if_pos hv)))))))))
theorem dv57' (h : x.op = 57) (hv : ¬yes (decide (s.owner.getD x.b.toNat 0 = 0)) = 1) : doVars ⟨s, 0, 0, t⟩ g x = ⟨s.setReg g x.a (yes (decide (s.owner.getD x.b.toNat 0 = 0))), yes (decide (s.owner.getD x.b.toNat 0 = 0)), 0, t⟩ :=
  (if_neg (by omega)).trans ((if_neg (by omega)).trans ((if_neg (by omega)).trans ((if_neg (by omega)).trans ((if_neg (by omega)).trans ((if_neg (by omega)).trans ((if_neg (by omega)).trans ((if_pos h).trans (congrArg (fun u : Stt => (⟨u.setReg g x.a (yes (decide (s.owner.getD x.b.toNat 0 = 0))), yes (decide (s.owner.getD x.b.toNat 0 = 0)), 0, t⟩ : Did)) (if_neg hv)))))))))
theorem dvElse (h : x.op < 50 ∨ 57 < x.op) : doVars ⟨s, 0, 0, t⟩ g x = ⟨s, 0, 0, t⟩ := (if_neg (by omega)).trans ((if_neg (by omega)).trans ((if_neg (by omega)).trans ((if_neg (by omega)).trans ((if_neg (by omega)).trans ((if_neg (by omega)).trans ((if_neg (by omega)).trans (if_neg (by omega))))))))

theorem setReg_gos (s : Stt) (g r v : Int) : (s.setReg g r v).gos.length = s.gos.length := by
  unfold Stt.setReg
  split
  · simp
  · rfl
/-- What an alternative of a select does. -/
def selDid (p : Prg) (s : Stt) (g : Int) (q : Sel) (alt : Int) : Did :=
  if alt = q.cases.length then ⟨s, 0, 0, q.els⟩
  else if (q.cases.getD alt.toNat default).send then doSend p ⟨s, 0, 0, (q.cases.getD alt.toNat default).to_⟩ g (q.cases.getD alt.toNat default).chan (regOf s g (q.cases.getD alt.toNat default).reg)
  else doRecv ⟨s, 0, 0, (q.cases.getD alt.toNat default).to_⟩ g (q.cases.getD alt.toNat default).chan (q.cases.getD alt.toNat default).reg (-1)
theorem sel_else {p : Prg} {q : Sel} {alt : Int} (h : alt = q.cases.length) : selDid p s g q alt = ⟨s, 0, 0, q.els⟩ := if_pos h
theorem sel_send {p : Prg} {q : Sel} {alt : Int} (h : ¬alt = q.cases.length) (hs : (q.cases.getD alt.toNat default).send = true) : selDid p s g q alt = doSend p ⟨s, 0, 0, (q.cases.getD alt.toNat default).to_⟩ g (q.cases.getD alt.toNat default).chan (regOf s g (q.cases.getD alt.toNat default).reg) := (if_neg h).trans (if_pos hs)
theorem sel_recv {p : Prg} {q : Sel} {alt : Int} (h : ¬alt = q.cases.length) (hs : (q.cases.getD alt.toNat default).send = false) (hc : (q.cases.getD alt.toNat default).chan.toNat < s.chans.length) : selDid p s g q alt = ⟨(recvS s (q.cases.getD alt.toNat default).chan).1.setReg g (q.cases.getD alt.toNat default).reg (recvS s (q.cases.getD alt.toNat default).chan).2.1, (recvS s (q.cases.getD alt.toNat default).chan).2.1, 0, (q.cases.getD alt.toNat default).to_⟩ := by
  refine ((if_neg h).trans (if_neg (by rw [hs]; decide))).trans ?_
  rw [recv_did hc]
  rfl
/-- What the channels hold. -/
def ChansIn (p : Prg) (s : Stt) : Prop := ∀ c : Nat, c < p.chans.length → (0 ≤ (s.chans.getD c default).len ∧ (s.chans.getD c default).len ≤ p.chans.getD c 0) ∧ p.chans.getD c 0 ≤ 4 ∧ ∀ k : Nat, (s.chans.getD c default).len ≤ k → k < 4 → (s.chans.getD c default).buf.getD k 0 = 0
/-- A select's cases are in their ranges. -/
def SelIn (p : Prg) (q : Sel) : Prop := ∀ k : Nat, k < q.cases.length → (0 ≤ (q.cases.getD k default).chan ∧ (q.cases.getD k default).chan < p.chans.length) ∧ (q.cases.getD k default).reg < 8 ∧ ((q.cases.getD k default).send = true → 0 ≤ (q.cases.getD k default).reg) ∧ 0 ≤ (q.cases.getD k default).to_
theorem recvS_gos (s : Stt) (c : Int) : (recvS s c).1.gos = s.gos := by
  unfold recvS
  (repeat' split) <;> rfl
theorem send_room {p : Prg} {s : Stt} {c : Int} (h : sends p s c = true) (hc : (s.chans.getD c.toNat default).closed = false) (h0 : 0 < p.chans.getD c.toNat 0) : (s.chans.getD c.toNat default).len < p.chans.getD c.toNat 0 := by
  unfold sends at h
  rw [if_neg (by rw [show (s.chn c).closed = false from hc]; decide), if_pos (show 0 < p.cap c from h0)] at h
  exact of_decide_eq_true h

/-! ### A new goroutine -/
def childTo (s : Stt) (g : Int) (x : Instr) (n : Nat) : Gor := ⟨1, x.b, 0, 0, spawnRegs s g x.c n⟩
theorem childTo_zero : childTo s g x 0 = ⟨1, x.b, 0, 0, List.replicate 8 0⟩ := by simp [childTo, spawnRegs]; rfl
theorem childTo_succ {n : Nat} : (spawnRegs s g x.c n).set n (regOf s g (x.c + (n : Int))) = spawnRegs s g x.c (n + 1) := by
  apply List.ext_getElem
  · simp [spawnRegs]
  · intro i h1 h2
    simp only [spawnRegs, List.getElem_set, List.getElem_map, List.getElem_range]
    by_cases h : n = i
    · subst h
      rw [if_pos rfl, if_pos (by omega)]
      rfl
    · rw [if_neg h]
      by_cases q : i < n
      · rw [if_pos q, if_pos (by omega)]
      · rw [if_neg q, if_neg (by omega)]
theorem spawn_few {p : Prg} {v0 : Int} (h : 6 ≤ s.count) : doSpawn p ⟨s, v0, 0, t⟩ g x = ⟨s, v0, 8, t⟩ := if_pos h
theorem spawn_did {p : Prg} {v0 : Int} (h : ¬6 ≤ s.count) : doSpawn p ⟨s, v0, 0, t⟩ g x = ⟨Stt.setReg ⟨s.vars, s.owner, s.chans, s.gos.set s.count.toNat (childTo s g x (p.fn x.b).params.toNat), s.count + 1⟩ g x.a s.count, s.count, 0, t⟩ := if_neg h
end
end Go.Eng
namespace Go.Eng.Tryz
open Go.RowKit Go.Eng
set_option linter.unusedSimpArgs false
set_option linter.unusedVariables false
set_option maxHeartbeats 0
set_option maxRecDepth 20000

theorem own_calls (b : Nat) (w : World) (x : Int) (hx : 0 ≤ x ∧ x < 6) (hc : w.cell? ⟨b, 125, none⟩ = some (.int .i64 x)) : Calls Go.Proofs.Tryz.prog 67 #[.pointer (some ⟨b, 0, none⟩)] w fun e w' => e = .returned (.pointer (some ⟨b, 52 + x.toNat * 12, none⟩)) ∧ Below w.heap.size w w' := by
  go_enter Go.Proofs.Tryz.func67, Go.Proofs.Tryz.ntmps67
  go_wp2
  go_region
  go_wp2
  go_ret
  exact ⟨rfl, (Below.refl _ _).drew⟩
theorem own_path {g : Int} (hg : 0 ≤ g ∧ g < 6) : PathOk tab 133 [g.toNat, 3, 1] (52 + g.toNat * 12) 34 := by
  have h1 : PathOk tab 133 [1] 4 37 := PathOk.fld PathOk.nil ty133 rfl
  have h2 : PathOk tab 133 [3, 1] 52 35 := PathOk.fld h1 ty37 rfl
  exact PathOk.idx h2 ty35 (by omega)
theorem mown_callQ (p : Prg) (s : Stt) (g : Int) (hg : 0 ≤ g ∧ g < 6) (fuel val : Int) (failed : Bool) {σ : St} (ho : σ.ob[7]? = some (.var 133 (.data 133 (machV p s g fuel val failed)))) : CallQ Go.Proofs.Tryz.prog tab σ 67 [.ptr 7 [] 133] (.ptr 7 [g.toNat, 3, 1] 34) := by
  refine ⟨enters_of Go.Proofs.Tryz.func67 rfl rfl, fun w0 w F ρ tmps outs xs hR hx => ?_⟩
  match xs, hx with
  | [v], ⟨hv, _⟩ =>
    obtain ⟨b, root, off, hρ, hp, rfl⟩ := hv
    cases hp
    have h7 := hR.ob 7 _ ho
    rw [hρ] at h7
    obtain ⟨_, _, _, cs, ct, v, hb, hv, hH, _⟩ := h7
    obtain ⟨cs', rfl, hagg, hfit⟩ := hv
    have hcs : cs' = cs := by
      have h := hH.2
      rw [if_pos hagg] at h
      exact (Value.agg.inj h)
    subst hcs
    have h2 : PathOk tab 133 [2] 125 3 := PathOk.fld PathOk.nil ty133 rfl
    obtain ⟨hf, hl⟩ := h2.get ok.sized hfit
    have hc1 : (cs'.toList.drop 125).take (tab.sz 3) = [.int .i64 g] := by
      generalize (cs'.toList.drop 125).take (tab.sz 3) = q at hf
      have e : (machV p s g fuel val failed).get [2] = .int g := rfl
      rw [e] at hf
      cases hf with
      | int a c =>
        have : tab.ty 3 = .int .i64 := rfl
        rw [this] at a
        cases a
        rfl
    have hcell : cs'[125]? = some (.int .i64 g) := by
      have h := congrArg (fun l : List Value => l[0]?) hc1
      simp [show tab.sz 3 = 1 from rfl] at h
      simpa using h
    refine ⟨_, ⟨b, _, _, hρ, own_path hg, rfl⟩, fun w' hw => own_calls b w' g hg ?_⟩
    have hbl : w'.heap[b]? = some (.cells cs' ct (0, 0)) := by rw [hw.block b (Array.getElem?_eq_some_iff.1 hb).1]; exact hb
    simp [World.cell?, hbl, hcell]

end Go.Eng.Tryz
/- What an operation leaves behind is what the document's step says: where it goes on, whom it made; the whole step. -/
namespace Go.Eng
set_option linter.unusedSimpArgs false
set_option linter.unusedVariables false
section
variable {p : Prg} {s : Stt} {g : Int}
/-- Where a step goes on, and whom it made. -/
def NextOk (s : Stt) (d : Did) (nx md : Int) : Prop := d.why = 0 → 0 ≤ d.to_ → nx = d.to_ ∧ md = if s.count < d.s.count then s.count else -1
theorem NextOk.same {d : Did} {nx : Int} (hc : d.s.count = s.count) (ht : d.why = 0 → 0 ≤ d.to_ → nx = d.to_) : NextOk s d nx (-1) := fun h1 h2 => ⟨ht h1 h2, by rw [hc, if_neg (by omega)]⟩
theorem NextOk.vars {t : Int} {x : Instr} : NextOk s (doVars ⟨s, 0, 0, t⟩ g x) t (-1) := by
  refine NextOk.same (doVars_count _ _ _) fun _ _ => ?_
  unfold doVars
  (repeat' split) <;> rfl
theorem NextOk.send {t v0 c v : Int} : NextOk s (doSend p ⟨s, v0, 0, t⟩ g c v) t (-1) := by
  refine NextOk.same (doSend_same p _ g c v).count fun h1 h2 => ?_
  unfold doSend at h1 h2 ⊢
  simp only at h1 h2 ⊢
  split
  · rfl
  · rename_i q
    rw [if_neg q] at h2
    split
    · rfl
    · rename_i q2
      rw [if_neg q2] at h2
      simp at h2
theorem NextOk.recv {t v0 c r ok : Int} : NextOk s (doRecv ⟨s, v0, 0, t⟩ g c r ok) t (-1) := by
  refine NextOk.same (doRecv_same _ g c r ok).count fun _ _ => ?_
  unfold doRecv
  simp only
  (repeat' split) <;> rfl
theorem NextOk.close {t v0 c : Int} : NextOk s (doClose ⟨s, v0, 0, t⟩ c) t (-1) := by
  refine NextOk.same (doClose_same _ c).count fun _ _ => ?_
  unfold doClose
  simp only
  (repeat' split) <;> rfl
theorem NextOk.taken {t v0 c : Int} : NextOk s (doTaken ⟨s, v0, 0, t⟩ g c) t (-1) := NextOk.same rfl fun _ _ => rfl
theorem NextOk.spawn {t : Int} {x : Instr} : NextOk s (doSpawn p ⟨s, 0, 0, t⟩ g x) t (if s.count = 6 then -1 else s.count) := by
  by_cases h : 6 ≤ s.count
  · rw [spawn_few h]; intro h1; exact absurd h1 (show ¬(8 : Int) = 0 by decide)
  · rw [spawn_did h]
    intro _ _
    have e : (Stt.setReg ⟨s.vars, s.owner, s.chans, s.gos.set s.count.toNat (childTo s g x (p.fn x.b).params.toNat), s.count + 1⟩ g x.a s.count).count = s.count + 1 := setReg_count _ _ _ _
    refine ⟨rfl, ?_⟩
    show _ = if s.count < (Stt.setReg _ g x.a s.count).count then _ else _
    rw [e, if_neg (by omega), if_pos (by omega)]
theorem NextOk.sel {q : Sel} {alt : Int} : NextOk s (selDid p s g q alt) (if alt = q.cases.length then q.els else (q.cases.getD alt.toNat default).to_) (-1) := by
  unfold selDid
  split
  · exact NextOk.same rfl fun _ _ => rfl
  · split
    · exact NextOk.send
    · exact NextOk.recv

/-! ### Which operation it is -/
section
variable {alt : Int}
theorem vis_at58 (h : opAt p s g = 58) : visible p s g alt = doSend p ⟨s, 0, 0, (s.gor g).pc + 1⟩ g (instrAt p s g).a (regOf s g (instrAt p s g).b) := (if_neg (by omega)).trans (if_pos h)
theorem vis_at59 (h : opAt p s g = 59) : visible p s g alt = doRecv ⟨s, 0, 0, (s.gor g).pc + 1⟩ g (instrAt p s g).b (instrAt p s g).a (instrAt p s g).c := (if_neg (by omega)).trans ((if_neg (by omega)).trans (if_pos h))
theorem vis_at66 (h : opAt p s g = 66) : visible p s g alt = doTaken ⟨s, 0, 0, (s.gor g).pc + 1⟩ g (instrAt p s g).a := if_pos h
theorem vis_at60 (h : opAt p s g = 60) : visible p s g alt = doClose ⟨s, 0, 0, (s.gor g).pc + 1⟩ (instrAt p s g).a := (if_neg (by omega)).trans ((if_neg (by omega)).trans ((if_neg (by omega)).trans (if_pos h)))
theorem vis_at62 (h : opAt p s g = 62) : visible p s g alt = doSpawn p ⟨s, 0, 0, (s.gor g).pc + 1⟩ g (instrAt p s g) := (if_neg (by omega)).trans ((if_neg (by omega)).trans ((if_neg (by omega)).trans ((if_neg (by omega)).trans (if_pos h))))
theorem vis_at63 (h : opAt p s g = 63) : visible p s g alt = if regOf s g (instrAt p s g).a < 0 ∨ s.count ≤ regOf s g (instrAt p s g).a ∨ regOf s g (instrAt p s g).a = g then ⟨s, 0, 7, (s.gor g).pc + 1⟩ else ⟨s, regOf s g (instrAt p s g).a, 0, (s.gor g).pc + 1⟩ := (if_neg (by omega)).trans ((if_neg (by omega)).trans ((if_neg (by omega)).trans ((if_neg (by omega)).trans ((if_neg (by omega)).trans (if_pos h)))))
theorem vis_at65 (h : opAt p s g = 65) : visible p s g alt = ⟨s, regOf s g (instrAt p s g).a, 0, (s.gor g).pc + 1⟩ := (if_neg (by omega)).trans ((if_neg (by omega)).trans ((if_neg (by omega)).trans ((if_neg (by omega)).trans ((if_neg (by omega)).trans ((if_neg (by omega)).trans (if_pos h))))))
theorem vis_at61 (h : opAt p s g = 61) : visible p s g alt = selDid p s g (selAt p s g) alt := (if_neg (by omega)).trans ((if_neg (by omega)).trans ((if_neg (by omega)).trans ((if_neg (by omega)).trans ((if_neg (by omega)).trans ((if_neg (by omega)).trans ((if_neg (by omega)).trans (if_pos h)))))))
theorem vis_atV (h : opAt p s g ≠ 66 ∧ opAt p s g ≠ 58 ∧ opAt p s g ≠ 59 ∧ opAt p s g ≠ 60 ∧ opAt p s g ≠ 62 ∧ opAt p s g ≠ 63 ∧ opAt p s g ≠ 65 ∧ opAt p s g ≠ 61) : visible p s g alt = doVars ⟨s, 0, 0, (s.gor g).pc + 1⟩ g (instrAt p s g) := (if_neg h.1).trans ((if_neg h.2.1).trans ((if_neg h.2.2.1).trans ((if_neg h.2.2.2.1).trans ((if_neg h.2.2.2.2.1).trans ((if_neg h.2.2.2.2.2.1).trans ((if_neg h.2.2.2.2.2.2.1).trans (if_neg h.2.2.2.2.2.2.2)))))))
end
theorem there_false {k : Int} (h : thereB s g k = false) : k < 0 ∨ s.count ≤ k ∨ k = g := by
  unfold thereB at h
  simp at h
  omega
theorem there_true {k : Int} (h : thereB s g k = true) : ¬(k < 0 ∨ s.count ≤ k ∨ k = g) := by
  unfold thereB at h
  simp at h
  omega
theorem atI_same (h : opAt p s g ≠ 66) : atI p s g = instrAt p s g := by
  have e : opAt p s g = (instrAt p s g).op := by
    unfold opAt at h ⊢
    split
    · rename_i q; rw [if_pos q] at h; exact absurd rfl h
    · rfl
  unfold atI
  rw [e]
theorem doVars_atI (h : opAt p s g ≠ 66) {d : Did} : doVars d g (atI p s g) = doVars d g (instrAt p s g) := by rw [atI_same h]

/-! ### Ranges -/
theorem vars_in (hok : p.Ok) (hw : Wf p s) (hg : 0 ≤ g ∧ g < s.count) : VarsIn (atI p s g) := by
  have hrt : instrErr p (p.funcs.getD (s.gos.getD g.toNat default).func.toNat default) (instrAt p s g) = 0 := hw.right hok hg.1 hg.2
  have hrg := hok.regs (s.gos.getD g.toNat default).func.toNat
  have hsz := hok.sizes
  unfold Sizes at hsz
  have key : ∀ k : Int, (atI p s g).op = k → k ≠ 66 → (instrAt p s g).op = k := fun k h hk => hw.op_at hok hg.1 hg.2 h hk
  refine ⟨fun h => ?_, fun h => ?_, fun h => ?_, fun h => ?_, fun h => ?_, fun h => ?_, fun h => ?_⟩
  · have := vis50 hrt (key 50 h (by decide)); show (instrAt p s g).a < 8 ∧ 0 ≤ (instrAt p s g).b ∧ (instrAt p s g).b < 8; omega
  · have := vis51 hrt (key 51 h (by decide)); show (0 ≤ (instrAt p s g).a ∧ (instrAt p s g).a < 8) ∧ 0 ≤ (instrAt p s g).b ∧ (instrAt p s g).b < 8; omega
  · have := vis52 hrt (key 52 h (by decide)); show (instrAt p s g).a < 8 ∧ (0 ≤ (instrAt p s g).b ∧ (instrAt p s g).b < 8) ∧ 0 ≤ (instrAt p s g).c ∧ (instrAt p s g).c < 8; omega
  · have := vis53 hrt (key 53 h (by decide)); show (instrAt p s g).a < 8 ∧ (0 ≤ (instrAt p s g).b ∧ (instrAt p s g).b < 8) ∧ (0 ≤ (instrAt p s g).c ∧ (instrAt p s g).c < 8) ∧ 0 ≤ (instrAt p s g).n ∧ (instrAt p s g).n < 8; omega
  · have := vis54 hrt (key 54 h (by decide)); show 0 ≤ (instrAt p s g).b ∧ (instrAt p s g).b < 8; omega
  · have := vis55 hrt (h.imp (fun q => key 55 q (by decide)) (fun q => key 56 q (by decide))); show 0 ≤ (instrAt p s g).a ∧ (instrAt p s g).a < 4; omega
  · have := vis57 hrt (key 57 h (by decide)); show (instrAt p s g).a < 8 ∧ 0 ≤ (instrAt p s g).b ∧ (instrAt p s g).b < 4; omega
theorem chans_in (hok : p.Ok) (hv : Vld p s) : ChansIn p s := fun c hc => ⟨(hv.chans c hc).len, (hok.caps c).2, (hv.chans c hc).buf⟩
theorem sel_in (hok : p.Ok) {f a : Nat} (hf : f < p.funcs.length) (ha : a < (p.funcs.getD f default).sels.length) : SelIn p ((p.funcs.getD f default).sels.getD a default) := fun k hk => by
  have h := case_ok hok hf ha hk
  have hr := hok.regs f
  refine ⟨h.chan, ?_, fun hs => ?_, h.to_.1⟩
  · rcases h.reg with q | q <;> omega
  · rcases h.reg with q | q
    · exact q.1
    · rw [q.1] at hs; cases hs
theorem spawn_in (hok : p.Ok) (hw : Wf p s) (hg : 0 ≤ g ∧ g < s.count) (h : opAt p s g = 62) : (instrAt p s g).a < 8 ∧ (0 ≤ (instrAt p s g).b ∧ (instrAt p s g).b < p.funcs.length) ∧ 0 ≤ (p.fn (instrAt p s g).b).params ∧ (0 < (p.fn (instrAt p s g).b).params → 0 ≤ (instrAt p s g).c ∧ (instrAt p s g).c + (p.fn (instrAt p s g).b).params ≤ 8) ∧ (p.fn (instrAt p s g).b).params ≤ 8 := by
  have hrt : instrErr p (p.funcs.getD (s.gos.getD g.toNat default).func.toNat default) (instrAt p s g) = 0 := hw.right hok hg.1 hg.2
  have hrg := hok.regs (s.gos.getD g.toNat default).func.toNat
  have hI := vis62 hrt (hw.op_at hok hg.1 hg.2 h (by decide))
  have hp := hok.params (instrAt p s g).b.toNat
  have hr2 := hok.regs (instrAt p s g).b.toNat
  have e : p.fn (instrAt p s g).b = p.funcs.getD (instrAt p s g).b.toNat default := rfl
  rw [e] at hI ⊢
  refine ⟨by omega, hI.2.1, hp.1, fun h0 => ?_, by omega⟩
  have h1 := hI.2.2.2 h0
  unfold w64 at h1
  rw [i64_ok (by omega) (by omega)] at h1
  omega
theorem els_in (hok : p.Ok) {f a : Nat} (hf : f < p.funcs.length) (ha : a < (p.funcs.getD f default).sels.length) (h : ((p.funcs.getD f default).sels.getD a default).els ≠ -1) : 0 ≤ ((p.funcs.getD f default).sels.getD a default).els := by
  rcases else_ok hok hf ha with q | q
  · exact absurd q h
  · exact q.1
/-- An alternative of a select. -/
theorem alt_in {alt : Int} (ha : alt ∈ alts p s g) (h : opAt p s g = 61) : (0 ≤ alt ∧ alt ≤ ((selAt p s g).cases.length : Int)) ∧ (alt < ((selAt p s g).cases.length : Int) → caseOk p s ((selAt p s g).cases.getD alt.toNat default) = true) ∧ (alt = ((selAt p s g).cases.length : Int) → (selAt p s g).els ≠ -1) := by
  have hl := alts_live ha
  unfold alts at ha
  rw [if_pos hl, if_pos h] at ha
  simp only at ha
  split at ha
  · rename_i q
    rcases List.mem_append.1 ha with m | m
    · obtain ⟨k, rfl, hk, hc⟩ := casesTo_mem m
      refine ⟨by omega, fun _ => by simpa using hc, fun e => by omega⟩
    · simp only [List.mem_singleton] at m
      exact ⟨by omega, fun e => by omega, fun _ => q.2⟩
  · obtain ⟨k, rfl, hk, hc⟩ := casesTo_mem ha
    exact ⟨by omega, fun _ => by simpa using hc, fun e => by omega⟩
end
end Go.Eng
