/- Regions that draw their order and make memory: all orders, what is pure ahead of the rest. -/
import Derived.Test.YtedceinkpkoncaaGreatDoorPk11
import Derived.OrdersHeld
import Derived.OpenShut
import Derived.ChangeOld
import Derived.WideShapes
import Derived.Deep.Slices
namespace Go.Eng
set_option linter.unusedSimpArgs false
set_option linter.unusedVariables false
open Go.RowKit

variable {P : Program} {T : Tab} {w w' : World} {w0 : Base T} {F F' : Nat → Prop} {ρ ρ' : Nat → RI} {σ σ' : St} {a : Act} {outs : List (Array Value)}
variable {ops : Array Oper} {Q : Exit → Act → World → Prop} {md : Region.Mode} {keeps : Nat → Bool}

/-- In this state, in this world and in all later ones that keep what is there, the operation yields v and does nothing else. -/
def YieldsB (P : Program) (ops : Array Oper) (w : World) (o : Oper) (v : Value) (a : Act) : Prop :=
  (Region.wanted o (yielded ops a.tmps) = true ∧ ∀ w', Below w.heap.size w w' → (execOp a.eval o).run P w' = .ok (.value v) w') ∨
  (Region.wanted o (yielded ops a.tmps) = false ∧ v = undef)

theorem YieldsB.later {o : Oper} {v : Value} (h : YieldsB P ops w o v a) (hb : Below w.heap.size w w') : YieldsB P ops w' o v a :=
  h.imp (fun ⟨h1, h2⟩ => ⟨h1, fun w'' hw => h2 w'' (hb.trans (hw.mono hb.size))⟩) id

theorem YieldsB.wpOp {i : Nat} {o : Oper} {v : Value} (hi : ops[i]? = some o) (hy : YieldsB P ops w o v a) {K : Act → World → Prop} (h : K (a.put o.dst v) w) : wpOp P ops Q i K a w := by
  unfold Go.wpOp
  simp only [hi]
  rcases hy with ⟨hw, hv⟩ | ⟨hw, rfl⟩
  · simp only [hw, if_true, Oper.wp, hv w (Below.refl _ _), Oper.upon]; exact .inl h
  · simp only [hw, Bool.false_eq_true, if_false]; exact h

theorem YieldsB.of_same {o : Oper} {v : Value} {a a' : Act} (hy : YieldsB P ops w o v a) (he : execOp a'.eval o = execOp a.eval o)
    (hw : Region.wanted o (yielded ops a'.tmps) = Region.wanted o (yielded ops a.tmps)) : YieldsB P ops w o v a' := by
  unfold YieldsB at *
  rw [he, hw]
  exact hy

theorem wpOp_putB {w1 : World} {j : Nat} {oi oj : Oper} {v : Value} (hj : ops[j]? = some oj) (hap : oi.apart ops oj = true)
    (hsi : ∀ cs b, oi.op ≠ .select cs b) (hsj : ∀ cs b, oj.op ≠ .select cs b)
    (hQ : ∀ c a w, Q (.panic c) (a.put oi.dst v) w → Q (.panic c) a w) {K : Act → World → Prop} {a : Act} {w : World}
    (hy : YieldsB P ops w1 oi v a) (h : wpOp P ops Q j K (a.put oi.dst v) w) :
    wpOp P ops Q j (fun a' w' => YieldsB P ops w1 oi v a' ∧ K (a'.put oi.dst v) w') a w := by
  obtain ⟨h1, h2, h3⟩ := Oper.apart_spec hap
  have keep : ∀ (a : Act), YieldsB P ops w1 oi v a → ∀ u, YieldsB P ops w1 oi v (a.put oj.dst u) := fun a hy u =>
    hy.of_same (execOp_put oi hsi a oj.dst u h3) (wanted_put oi a oj.dst u h3)
  have keepD : ∀ d, YieldsB P ops w1 oi v { a with defers := d :: a.defers } := fun d => hy.of_same rfl rfl
  unfold wpOp at *
  simp only [hj] at *
  rw [wanted_put oj a oi.dst v h1] at h
  split
  · rename_i hw
    simp only [hw, if_true] at h
    rcases h with h | ⟨hasks, hlets⟩
    case inr => exact .inr ⟨by unfold Oper.asks at *; rw [execOp_put oj hsj a oi.dst v h1] at hasks; exact hasks, hlets⟩
    refine .inl ?_
    unfold Oper.wp at *
    rw [execOp_put oj hsj a oi.dst v h1] at h
    generalize (execOp a.eval oj).run P w = r at *
    cases r with
    | ok n w' =>
      cases n <;> simp only [Oper.upon] at h ⊢
      case value u => exact ⟨keep a hy u, by rw [← Act.put_comm a v u h2]; exact h⟩
      case skip => exact ⟨keep a hy _, by rw [← Act.put_comm a v undef h2]; exact h⟩
      case defer d =>
        refine ⟨keep _ (keepD d) _, ?_⟩
        rw [← Act.put_comm _ v undef h2, ← Act.put_defers]
        exact h
      case enter f args =>
        refine Calls.mono h fun e w'' he => ?_
        cases e with
        | returned u => exact ⟨keep a hy u, by rw [← Act.put_comm a v u h2]; exact he⟩
        | panicked c => exact hQ _ _ _ he
        | outgrown => exact he
      case row row args => exact Rows.mono h fun u w'' he => ⟨keep a hy u, by rw [← Act.put_comm a v u h2]; exact he⟩
    | halt x w' =>
      cases x <;> simp only [Oper.upon] at h ⊢
      case panic u => exact hQ _ _ _ h
  · rename_i hw
    simp only [hw] at h
    exact ⟨keep a hy _, by rw [← Act.put_comm a v undef h2]; exact h⟩

/-- Whatever order is picked from here on; each operation of which that is asked keeps what was there. -/
def wpAnyB (P : Program) (md : Region.Mode) (ops : Array Oper) (Q : Exit → Act → World → Prop) (keeps : Nat → Bool) : Nat → Array Bool → Act → World → Prop
  | 0, listed, a, w => Region.ready md ops listed = [] ∧ Q .normal a w
  | fuel + 1, listed, a, w =>
    (Region.ready md ops listed = [] → Q .normal a w) ∧
    ∀ i ∈ Region.ready md ops listed, wpOp P ops Q i (fun a' w' => (keeps i = true → Below w.heap.size w w') ∧ wpAnyB P md ops Q keeps fuel (listed.setIfInBounds i true) a' w') a w

theorem wpAny_of_B : ∀ (fuel : Nat) (listed : Array Bool) (a : Act) (w : World), wpAnyB P md ops Q keeps fuel listed a w → wpAny P md ops Q fuel listed a w
  | 0, _, _, _, h => h
  | fuel + 1, _, _, _, h => ⟨h.1, fun i hi => wpOp_mono (fun a' w' h' => wpAny_of_B fuel _ a' w' h'.2) (h.2 i hi)⟩

/-- Does j wait for i, through others too? -/
def waits (md : Region.Mode) (ops : Array Oper) (i : Nat) : Nat → Nat → Bool
  | 0, _ => false
  | fuel + 1, j => match ops[j]? with
    | none => false
    | some o => o.after.any fun e => Region.binds md e && (e.on == i || waits md ops i fuel e.on)

/-- What came up, came up behind all that it waits for. -/
def Closed (md : Region.Mode) (ops : Array Oper) (listed : Array Bool) : Prop := ∀ j o, ops[j]? = some o → listed.getD j true = true → ∀ e ∈ o.after, Region.binds md e = true → listed.getD e.on false = true

theorem waits_unlisted {listed : Array Bool} (hs : listed.size = ops.size) (hc : Closed md ops listed) {i : Nat} (hi : listed.getD i false = false) : ∀ {fuel j : Nat}, waits md ops i fuel j = true → ∃ o, ops[j]? = some o ∧ ∃ e ∈ o.after, Region.binds md e = true ∧ listed.getD e.on false = false
  | 0, _, h => by simp [waits] at h
  | fuel + 1, j, h => by
    unfold waits at h
    split at h
    · cases h
    · rename_i o ho
      rw [Array.any_eq_true'] at h
      obtain ⟨e, he, h2⟩ := h
      simp only [Bool.and_eq_true, Bool.or_eq_true, beq_iff_eq] at h2
      refine ⟨o, ho, e, he, h2.1, ?_⟩
      rcases h2.2 with h3 | h3
      · rw [h3]; exact hi
      · obtain ⟨o', ho', e', he', hb', hl'⟩ := waits_unlisted hs hc hi h3
        have hlt := (Array.getElem?_eq_some_iff.1 ho').1
        cases hl : listed.getD e.on false with
        | false => rfl
        | true =>
          have := hc e.on o' ho' (by simpa [Array.getD, show e.on < listed.size by omega] using hl) e' he' hb'
          rw [this] at hl'; cases hl'

theorem Closed.set {listed : Array Bool} (hs : listed.size = ops.size) (hc : Closed md ops listed) {j : Nat} (hr : j ∈ Region.ready md ops listed) : Closed md ops (listed.setIfInBounds j true) := by
  have grow : ∀ k, listed.getD k false = true → (listed.setIfInBounds j true).getD k false = true := by
    intro k hk
    by_cases hjk : j = k
    · subst hjk
      have : j < listed.size := by
        apply Classical.byContradiction
        intro h
        simp [Array.getD, show ¬ j < listed.size from h] at hk
      simp [Array.getD, this]
    · rw [getD_set_ne false hjk]; exact hk
  intro k o ho hk e he hb
  obtain ⟨_, oj, hoj, hall⟩ := mem_ready.1 hr
  by_cases hjk : j = k
  · subst hjk
    rw [hoj] at ho
    cases ho
    exact grow _ (hall e he hb)
  · rw [getD_set_ne true hjk] at hk
    exact grow _ (hc k o ho hk e he hb)

theorem wpAnyB_first {i : Nat} {oi : Oper} {v : Value} (hi : ops[i]? = some oi) (hsel : ∀ (j : Nat) (o : Oper) cs b, ops[j]? = some o → o.op ≠ .select cs b)
    (hQ : ∀ c a w, Q (.panic c) (a.put oi.dst v) w → Q (.panic c) a w) :
    ∀ (fuel : Nat) (listed : Array Bool) (a : Act) (w : World), listed.size = ops.size → Closed md ops listed →
      (∀ j oj, ops[j]? = some oj → j ≠ i → listed.getD j true = false → waits md ops i ops.size j = false → oi.apart ops oj = true ∧ keeps j = true) →
      i ∈ Region.ready md ops listed → YieldsB P ops w oi v a →
      wpAnyB P md ops Q keeps fuel (listed.setIfInBounds i true) (a.put oi.dst v) w → wpAnyB P md ops Q keeps (fuel + 1) listed a w := by
  intro fuel
  induction fuel with
  | zero =>
    intro listed a w _ _ _ hr hy H
    refine ⟨fun h => (by rw [h] at hr; cases hr), fun j hj => ?_⟩
    by_cases hji : j = i
    · subst hji; exact hy.wpOp hi ⟨fun _ => Below.refl _ _, H⟩
    · have := ready_mono hj hji
      rw [H.1] at this
      cases this
  | succ fuel ih =>
    intro listed a w hsz hcl hfree hr hy H
    refine ⟨fun h => (by rw [h] at hr; cases hr), fun j hj => ?_⟩
    by_cases hji : j = i
    · subst hji; exact hy.wpOp hi ⟨fun _ => Below.refl _ _, H⟩
    · have h1 := H.2 j (ready_mono hj hji)
      obtain ⟨hjun, oj, hoj, hall⟩ := mem_ready.1 hj
      have hiun : listed.getD i false = false := by
        have h0 := (mem_ready.1 hr).1
        have hlt := (Array.getElem?_eq_some_iff.1 hi).1
        simpa [Array.getD, show i < listed.size by omega] using h0
      have hnot : waits md ops i ops.size j = false := by
        cases hw : waits md ops i ops.size j with
        | false => rfl
        | true =>
          obtain ⟨o, ho, e, he, hb, hl⟩ := waits_unlisted hsz hcl hiun hw
          rw [hoj] at ho
          cases ho
          rw [hall e he hb] at hl
          cases hl
      obtain ⟨hap, hkp⟩ := hfree j oj hoj hji hjun hnot
      have h2 := wpOp_putB hoj hap (fun cs b => hsel i oi cs b hi) (fun cs b => hsel j oj cs b hoj) hQ hy h1
      have hfree' : ∀ k ok, ops[k]? = some ok → k ≠ i → (listed.setIfInBounds j true).getD k true = false →
          waits md ops i ops.size k = false → oi.apart ops ok = true ∧ keeps k = true := fun k ok hk hki hun hno => by
        refine hfree k ok hk hki ?_ hno
        by_cases hjk : j = k
        · subst hjk; exact hjun
        · rw [getD_set_ne true hjk] at hun; exact hun
      refine wpOp_mono (fun a' w' h3 => ⟨h3.2.1, ih (listed.setIfInBounds j true) a' w' (by simpa using hsz) (hcl.set hsz hj) hfree' (ready_mono hr (Ne.symm hji)) (h3.1.later (h3.2.1 hkp)) ?_⟩) h2
      rw [Array.setIfInBounds_comm _ _ hji]
      exact h3.2.2

/-- Nobody who may come up before it touches its slots, or writes what was there. -/
def freeB (ops : Array Oper) (keeps : Nat → Bool) (listed : Array Bool) (i : Nat) : Bool :=
  listed.size == ops.size && ((List.range ops.size).all fun j => !listed.getD j true || match ops[j]? with
    | none => true
    | some o => o.after.all fun e => !Region.binds .any e || listed.getD e.on false) &&
  match ops[i]? with
  | none => false
  | some oi => (List.range ops.size).all fun j => j == i || listed.getD j true || match ops[j]? with
    | none => true
    | some oj => waits .any ops i ops.size j || (oi.apart ops oj && keeps j)

theorem freeB_spec {listed : Array Bool} {i : Nat} {oi : Oper} (hi : ops[i]? = some oi) (h : freeB ops keeps listed i = true) : listed.size = ops.size ∧ Closed .any ops listed ∧
    ∀ j oj, ops[j]? = some oj → j ≠ i → listed.getD j true = false → waits .any ops i ops.size j = false → oi.apart ops oj = true ∧ keeps j = true := by
  unfold freeB at h
  simp only [hi, Bool.and_eq_true, beq_iff_eq] at h
  obtain ⟨⟨h0, h1⟩, h⟩ := h
  refine ⟨h0, ?_, ?_⟩
  · intro j o ho hl e he hb
    have := List.all_eq_true.1 h1 j (List.mem_range.2 (Array.getElem?_eq_some_iff.1 ho).1)
    rw [ho] at this
    simp only [hl, Bool.not_true, Bool.false_or] at this
    have := Array.all_eq_true_iff_forall_mem.1 this e he
    simpa [hb] using this
  · intro j oj hj hji hun hno
    have := List.all_eq_true.1 h j (List.mem_range.2 (Array.getElem?_eq_some_iff.1 hj).1)
    rw [hj] at this
    simp only [hun, hno, Bool.or_false, Bool.false_or, Bool.or_eq_true, beq_iff_eq, hji, false_or, Bool.and_eq_true] at this
    exact this

/-! ### In the abstract state -/

def AnyA (P : Program) (T : Tab) (ops : Array Oper) (keeps : Nat → Bool) (K : St → Prop) (fuel : Nat) (listed : Array Bool) (σ : St) : Prop :=
  ∀ (w0 : Base T) (w : World) (F : Nat → Prop) (ρ : Nat → RI) (a : Act) (outs : List (Array Value)), a.defers = [] → Rel T w F ρ w0 σ a.tmps outs →
    wpAnyB P .any ops (fun ex a' w' => ex = .normal ∧ After T w0 outs K a' w') keeps fuel listed a w

theorem AnyA.done {K : St → Prop} {fuel : Nat} {listed : Array Bool} (hr : Region.ready .any ops listed = []) (h : K σ) : AnyA P T ops keeps K fuel listed σ := by
  intro w0 w F ρ a outs hd hR
  cases fuel with
  | zero => exact ⟨hr, rfl, σ, F, ρ, h, hd, hR⟩
  | succ fuel => exact ⟨fun _ => ⟨rfl, σ, F, ρ, h, hd, hR⟩, by rw [hr]; simp⟩

/-- What is pure is taken first. -/
theorem AnyA.take {K : St → Prop} {fuel : Nat} {listed : Array Bool} (hP : TabOk P T) (i : Nat) (so : SOp) (hso : (ops[i]?).map (strip ops) = some so) (hg : guardsOk ops = true) (hs : Region.noSelect ops = true) (hf : freeB ops keeps listed i = true) (hr : (Region.ready .any ops listed).contains i = true) (l' : Array Bool) (hl' : listed.setIfInBounds i true = l')
    (h : ∀ R : St → Prop, (∀ σ', AnyA P T ops keeps K fuel l' σ' → R σ') → guardA so σ fun g => pureA T σ g so.op (putK σ so.dst g R)) : AnyA P T ops keeps K (fuel + 1) listed σ := by
  intro w0 w F ρ a outs hd hR
  subst hl'
  obtain ⟨o, hi, rfl⟩ := Option.map_eq_some_iff.1 hso
  have h := h _ fun _ x => x
  have hgo := List.all_eq_true.1 hg o (by have := Array.mem_of_getElem? hi; simpa using this)
  obtain ⟨g, h, hw⟩ := guardA_sound hR hgo h
  obtain ⟨e, h1, h2⟩ := pureA_sound hP hR h
  have hop : (strip ops o).op = o.op := rfl
  have hdst : (strip ops o).dst = o.dst := rfl
  rw [hop] at h2
  rw [hdst] at h1
  cases g with
  | true =>
    obtain ⟨v, hv, hrun⟩ := h2 rfl
    obtain ⟨σ', hK, hR', hd'⟩ := put_sound hR h1 (fun _ => hv) (by simp)
    exact wpAnyB_first hi (Region.noSelect_spec hs) (fun _ _ _ h => by cases h.1) fuel listed a w (freeB_spec hi hf).1 (freeB_spec hi hf).2.1 (freeB_spec hi hf).2.2 (by simpa using hr) (.inl ⟨hw, fun w' hb => hrun w' hb o rfl⟩) (hK w0 w F ρ _ outs (hd'.trans hd) hR')
  | false =>
    obtain ⟨σ', hK, hR', hd'⟩ := put_sound (v := undef) hR h1 (by simp) (fun _ => rfl)
    exact wpAnyB_first hi (Region.noSelect_spec hs) (fun _ _ _ h => by cases h.1) fuel listed a w (freeB_spec hi hf).1 (freeB_spec hi hf).2.1 (freeB_spec hi hf).2.2 (by simpa using hr) (.inr ⟨hw, rfl⟩) (hK w0 w F ρ _ outs (hd'.trans hd) hR')

/-- A call that leaves all that was there as it was: it may make rows. -/
def CallB (P : Program) (T : Tab) (σ : St) (f : FuncId) (es : List E) (K : St → E → Prop) : Prop :=
  Enters P f ∧ ∀ (w0 : Base T) (w : World) (F : Nat → Prop) (ρ : Nat → RI) (tmps : Array Value) (outs : List (Array Value)) (xs : List Value), Rel T w F ρ w0 σ tmps outs → ERelL T w F ρ es xs →
    Calls P f xs.toArray w fun en w' => ∃ v σ' e F' ρ', en = .returned v ∧ Below w.heap.size w w' ∧ K σ' e ∧ ERel T w' F' ρ' e v ∧ Rel T w' F' ρ' w0 σ' tmps outs

theorem CallB.ctr (hP : TabOk P T) {f : FuncId} {pts rts : List TypeId} {vs rs : List V} {es : List E} {K : St → E → Prop} (hc : Ctr P T f pts rts vs rs) (hv : argsV T σ pts es = some vs)
    (hK : K { σ with ob := σ.ob ++ (newEs T σ.ob.length rts rs).1 } (outE (newEs T σ.ob.length rts rs).2)) : CallB P T σ f es K := by
  obtain ⟨hE, hc⟩ := hc
  refine ⟨hE, ?_⟩
  intro w0 w F ρ tmps outs xs hR hx
  refine (hc w _ xs (fun _ h => h) (T.globB _ _ (Base.ok _) hR.below) (argsV_fit hP hR hx hv)).mono ?_
  rintro en w' ⟨ys, rfl, hb, hres⟩
  have hR' := hR.later hb
  obtain ⟨ρ', r1, r2, _⟩ := news_rel (n0 := w.heap.size) hR.fsub hR' hR.below.size hres (fun y _ b _ hnb j hj => by have := (hR.own hj).1; omega)
  exact ⟨_, _, _, F, ρ', rfl, hb, hK, outE_rel r2, r1⟩

def CallStepB (P : Program) (T : Tab) (σ : St) (g : Bool) (f : Operand) (args : List Operand) (d : Option Tmp) (K : St → Prop) : Prop :=
  evalO σ g f fun ef => evalL σ g args fun es => ∃ fid caps, ef = .fn fid caps ∧
    ((∃ e, (g = true → CallQ P T σ fid (es ++ caps) e) ∧ putK σ d g K e) ∨ ((g = true → CallB P T σ fid (es ++ caps) (putE d K)) ∧ (g = false → putK σ d false K .undef)))

/-- An operation that keeps what was there. -/
def opB (P : Program) (T : Tab) (o : SOp) (K : St → Prop) (σ : St) (g : Bool) : Prop := match o.op with
  | .call c => match c.callee with
    | .value f => CallStepB P T σ g f c.args.toList o.dst K
    | .builtin .append => (g = true → appB T σ c (putE o.dst K)) ∧ (g = false → putK σ o.dst false K .undef)
    | .builtin _ => pureA T σ g (.call c) (putK σ o.dst g K)
    | _ => False
  | .alloc t => (g = true → effA T σ (.alloc t) (putE o.dst K)) ∧ (g = false → putK σ o.dst false K .undef)
  | .box t x => (g = true → effA T σ (.box t x) (putE o.dst K)) ∧ (g = false → putK σ o.dst false K .undef)
  | .store _ _ _ => False
  | .buildSlice t n ps => (g = true → effA T σ (.buildSlice t n ps) (putE o.dst K)) ∧ (g = false → putK σ o.dst false K .undef)
  | .makeSlice t l c => (g = true → effA T σ (.makeSlice t l c) (putE o.dst K)) ∧ (g = false → putK σ o.dst false K .undef)
  | op => pureA T σ g op (putK σ o.dst g K)

theorem pure_stepB (hP : TabOk P T) (hR : Rel T w F ρ w0 σ a.tmps outs) (hd : a.defers = []) {o : Oper} {g : Bool} {K : St → Prop} {N : Act → World → Prop}
    (hN : ∀ a' w', Below w.heap.size w w' → After T w0 outs K a' w' → N a' w') (h : pureA T σ g o.op (putK σ o.dst g K)) : if g then o.wp P a w N Q else N (a.put o.dst undef) w := by
  obtain ⟨e, h1, h2⟩ := pureA_sound hP hR h
  cases g with
  | true =>
    obtain ⟨v, hv, hr⟩ := h2 rfl
    obtain ⟨σ', hK, hR', hd'⟩ := put_sound hR h1 (fun _ => hv) (by simp)
    simp only [if_true, Oper.wp, hr w (Below.refl _ _) o rfl, Oper.upon]
    exact hN _ _ (Below.refl _ _) ⟨σ', F, ρ, hK, hd'.trans hd, hR'⟩
  | false =>
    obtain ⟨σ', hK, hR', hd'⟩ := put_sound (v := undef) hR h1 (by simp) (fun _ => rfl)
    simp only [Bool.false_eq_true, if_false]
    exact hN _ _ (Below.refl _ _) ⟨σ', F, ρ, hK, hd'.trans hd, hR'⟩

theorem eff_stepB (hP : TabOk P T) (hR : Rel T w F ρ w0 σ a.tmps outs) (hd : a.defers = []) {o : Oper} {g : Bool} {K : St → Prop} {N : Act → World → Prop} (hm : isMake o.op = true)
    (hN : ∀ a' w', Below w.heap.size w w' → After T w0 outs K a' w' → N a' w') (h : (g = true → effA T σ o.op (putE o.dst K)) ∧ (g = false → putK σ o.dst false K .undef)) : if g then o.wp P a w N Q else N (a.put o.dst undef) w := by
  cases g with
  | true =>
    obtain ⟨σ', e, h1, w', F', ρ', v, nx, h2, h3, h4, h5, h6⟩ := effA_sound hP hR (h.1 rfl)
    obtain ⟨σ'', hK, hR', hd'⟩ := put_sound h3 h1 (fun _ => h2) (by simp)
    rcases h4 with rfl | ⟨rfl, rfl⟩
    · simp only [if_true, Oper.wp, h5 o rfl, Oper.upon]
      exact hN _ _ (h6 hm) ⟨σ'', F', ρ', hK, hd'.trans hd, hR'⟩
    · simp only [if_true, Oper.wp, h5 o rfl, Oper.upon]
      exact hN _ _ (h6 hm) ⟨σ'', F', ρ', hK, hd'.trans hd, hR'⟩
  | false =>
    obtain ⟨σ', hK, hR', hd'⟩ := put_sound (v := undef) hR (h.2 rfl) (by simp) (fun _ => rfl)
    simp only [Bool.false_eq_true, if_false]
    exact hN _ _ (Below.refl _ _) ⟨σ', F, ρ, hK, hd'.trans hd, hR'⟩

theorem call_stepB (hR : Rel T w F ρ w0 σ a.tmps outs) (hd : a.defers = []) {o : Oper} {c : Call} {x : Operand} (ho : o.op = .call c) (hc : c.callee = .value x) {g : Bool} {K : St → Prop} {N : Act → World → Prop}
    (hN : ∀ a' w', Below w.heap.size w w' → After T w0 outs K a' w' → N a' w') (h : CallStepB P T σ g x c.args.toList o.dst K) : if g then o.wp P a w N Q else N (a.put o.dst undef) w := by
  obtain ⟨ef, h1, hf⟩ := evalO_sound hR h
  obtain ⟨es, h2, hes⟩ := evalL_sound hR h1
  obtain ⟨fid, caps, rfl, h3⟩ := h2
  clear h h1
  cases g with
  | true =>
    obtain ⟨cs, hx, hcs⟩ := hf rfl
    have hall := (hes rfl).append hcs
    rcases h3 with ⟨e, hq, hk⟩ | ⟨he, _⟩
    · obtain ⟨hE, hq⟩ := hq rfl
      obtain ⟨v, hv, hq⟩ := hq w0 w F ρ _ _ _ hR hall
      have hcall := hq w (Below.refl _ _)
      simp only [if_true, Oper.wp, run_call hE hc hx w o ho, Oper.upon]
      refine hcall.mono ?_
      rintro en w' ⟨rfl, hb⟩
      obtain ⟨σ', hK, hR', hd'⟩ := put_sound hR hk (fun _ => hv) (by simp)
      exact hN _ _ hb ⟨σ', F, ρ, hK, hd'.trans hd, hR'.later hb⟩
    · obtain ⟨hE, he⟩ := he rfl
      simp only [if_true, Oper.wp, run_call hE hc hx w o ho, Oper.upon]
      refine (he w0 w F ρ _ _ _ hR hall).mono ?_
      rintro en w' ⟨v, σ', e, F', ρ', rfl, hb, hk, hv, hR'⟩
      obtain ⟨σ'', hK, hR'', hd'⟩ := put_sound hR' hk (fun _ => hv) (by simp)
      exact hN _ _ hb ⟨σ'', F', ρ', hK, hd'.trans hd, hR''⟩
  | false =>
    simp only [Bool.false_eq_true, if_false]
    rcases h3 with ⟨e, _, hk⟩ | ⟨_, he⟩
    · obtain ⟨σ', hK, hR', hd'⟩ := put_sound (v := undef) hR hk (by simp) (fun _ => rfl)
      exact hN _ _ (Below.refl _ _) ⟨σ', F, ρ, hK, hd'.trans hd, hR'⟩
    · obtain ⟨σ', hK, hR', hd'⟩ := put_sound (v := undef) hR (he rfl) (by simp) (fun _ => rfl)
      exact hN _ _ (Below.refl _ _) ⟨σ', F, ρ, hK, hd'.trans hd, hR'⟩

theorem opB_sound (hP : TabOk P T) (hR : Rel T w F ρ w0 σ a.tmps outs) (hd : a.defers = []) {o : Oper} {g : Bool} {K : St → Prop} {N : Act → World → Prop}
    (hN : ∀ a' w', Below w.heap.size w w' → After T w0 outs K a' w' → N a' w') {ops : Array Oper} (h : opB P T (strip ops o) K σ g) : if g then o.wp P a w N Q else N (a.put o.dst undef) w := by
  unfold opB at h
  have hop : (strip ops o).op = o.op := rfl
  have hdst : (strip ops o).dst = o.dst := rfl
  rw [hop, hdst] at h
  split at h
  · rename_i c hc
    split at h
    · rename_i f hf
      exact call_stepB hR hd hc hf hN h
    · rename_i hf
      cases g with
      | true =>
        obtain ⟨⟨σ', e, h1, w', F', ρ', v, nx, h2, h3, h4, h5, _⟩, nx2, w2, h7, h8⟩ := appB_sound hP hR hf (h.1 rfl)
        have heq := (h5 o hc).symm.trans (h7 o hc)
        cases heq
        obtain ⟨σ'', hK, hR', hd'⟩ := put_sound h3 h1 (fun _ => h2) (by simp)
        rcases h4 with rfl | ⟨rfl, rfl⟩
        · simp only [if_true, Oper.wp, h5 o hc, Oper.upon]
          exact hN _ _ h8 ⟨σ'', F', ρ', hK, hd'.trans hd, hR'⟩
        · simp only [if_true, Oper.wp, h5 o hc, Oper.upon]
          exact hN _ _ h8 ⟨σ'', F', ρ', hK, hd'.trans hd, hR'⟩
      | false =>
        obtain ⟨σ', hK, hR', hd'⟩ := put_sound (v := undef) hR (h.2 rfl) (by simp) (fun _ => rfl)
        simp only [Bool.false_eq_true, if_false]
        exact hN _ _ (Below.refl _ _) ⟨σ', F, ρ, hK, hd'.trans hd, hR'⟩
    · exact pure_stepB hP hR hd hN (by rw [hc]; exact h)
    · exact h.elim
  · rename_i hc; exact eff_stepB hP hR hd (by rw [hc]; rfl) hN (by rw [hc]; exact h)
  · rename_i hc; exact eff_stepB hP hR hd (by rw [hc]; rfl) hN (by rw [hc]; exact h)
  · exact h.elim
  · rename_i hc; exact eff_stepB hP hR hd (by rw [hc]; rfl) hN (by rw [hc]; exact h)
  · rename_i hc; exact eff_stepB hP hR hd (by rw [hc]; rfl) hN (by rw [hc]; exact h)
  · exact pure_stepB hP hR hd hN h

/-- One of those that may come up now. -/
def Branch (P : Program) (T : Tab) (ops : Array Oper) (keeps : Nat → Bool) (K : St → Prop) (fuel : Nat) (listed : Array Bool) (σ : St) (i : Nat) : Prop :=
  ∃ o, ops[i]? = some o ∧ guardA (strip ops o) σ fun g => if keeps i then opB P T (strip ops o) (AnyA P T ops keeps K fuel (listed.setIfInBounds i true)) σ g else opG P T (strip ops o) (AnyA P T ops keeps K fuel (listed.setIfInBounds i true)) σ g

def Branches (P : Program) (T : Tab) (ops : Array Oper) (keeps : Nat → Bool) (K : St → Prop) (fuel : Nat) (listed : Array Bool) (σ : St) (rs : List Nat) : Prop := ∀ i ∈ rs, Branch P T ops keeps K fuel listed σ i

theorem Branches.nil {K : St → Prop} {fuel : Nat} {listed : Array Bool} : Branches P T ops keeps K fuel listed σ [] := fun _ h => by cases h

theorem Branches.keep {K : St → Prop} {fuel : Nat} {listed : Array Bool} {i : Nat} {rs : List Nat} (so : SOp) (hso : (ops[i]?).map (strip ops) = some so) (hk : keeps i = true) (l' : Array Bool) (hl' : listed.setIfInBounds i true = l')
    (h : ∀ R : St → Prop, (∀ σ', AnyA P T ops keeps K fuel l' σ' → R σ') → guardA so σ (opB P T so R σ)) (hs : Branches P T ops keeps K fuel listed σ rs) : Branches P T ops keeps K fuel listed σ (i :: rs) := by
  subst hl'
  obtain ⟨o, hi, rfl⟩ := Option.map_eq_some_iff.1 hso
  intro j hj
  rcases List.mem_cons.1 hj with rfl | hj
  · exact ⟨o, hi, by simp only [hk, if_true]; exact h _ fun _ x => x⟩
  · exact hs j hj

theorem Branches.any {K : St → Prop} {fuel : Nat} {listed : Array Bool} {i : Nat} {rs : List Nat} (so : SOp) (hso : (ops[i]?).map (strip ops) = some so) (hk : keeps i = false) (l' : Array Bool) (hl' : listed.setIfInBounds i true = l')
    (h : ∀ R : St → Prop, (∀ σ', AnyA P T ops keeps K fuel l' σ' → R σ') → guardA so σ (opG P T so R σ)) (hs : Branches P T ops keeps K fuel listed σ rs) : Branches P T ops keeps K fuel listed σ (i :: rs) := by
  subst hl'
  obtain ⟨o, hi, rfl⟩ := Option.map_eq_some_iff.1 hso
  intro j hj
  rcases List.mem_cons.1 hj with rfl | hj
  · exact ⟨o, hi, by simp only [hk, Bool.false_eq_true, if_false]; exact h _ fun _ x => x⟩
  · exact hs j hj

/-- Whichever comes up. -/
theorem AnyA.all {K : St → Prop} {fuel : Nat} {listed : Array Bool} {rs : List Nat} (hP : TabOk P T) (hg : guardsOk ops = true) (hr : Region.ready .any ops listed = rs) (hne : rs.isEmpty = false) (h : Branches P T ops keeps K fuel listed σ rs) : AnyA P T ops keeps K (fuel + 1) listed σ := by
  intro w0 w F ρ a outs hd hR
  subst hr
  refine ⟨fun h => (by rw [h] at hne; cases hne), fun i hi => ?_⟩
  obtain ⟨o, ho, h⟩ := h i hi
  have hgo := List.all_eq_true.1 hg o (by have := Array.mem_of_getElem? ho; simpa using this)
  obtain ⟨g, h, hw⟩ := guardA_sound hR hgo h
  unfold Go.wpOp
  simp only [ho, hw]
  cases hk : keeps i with
  | true =>
    simp only [hk, if_true] at h
    have := opB_sound (Q := fun ex a' w' => ex = .normal ∧ After T w0 outs K a' w') hP hR hd (N := fun a' w' => (true = true → Below w.heap.size w w') ∧ wpAnyB P .any ops (fun ex a' w' => ex = .normal ∧ After T w0 outs K a' w') keeps fuel (listed.setIfInBounds i true) a' w')
      (fun a' w' hb ⟨σ', F', ρ', q1, q2, q3⟩ => ⟨fun _ => hb, q1 w0 w' F' ρ' a' outs q2 q3⟩) h
    cases g with
    | true => exact .inl this
    | false => exact this
  | false =>
    simp only [hk, Bool.false_eq_true, if_false] at h
    have := opG_sound (Q := fun ex a' w' => ex = .normal ∧ After T w0 outs K a' w') hP hR hd (N := fun a' w' => (false = true → Below w.heap.size w w') ∧ wpAnyB P .any ops (fun ex a' w' => ex = .normal ∧ After T w0 outs K a' w') keeps fuel (listed.setIfInBounds i true) a' w')
      (fun a' w' ⟨σ', F', ρ', q1, q2, q3⟩ => ⟨fun h => (by cases h), q1 w0 w' F' ρ' a' outs q2 q3⟩) h
    cases g with
    | true => exact .inl this
    | false => exact this

/-- The operations of that list write what was there, or may. -/
def but (l : List Nat) (i : Nat) : Bool := !l.contains i

theorem SA.regionAny {id : Nat} {ops : Array Oper} (hm : P.follows .mixedOrders = true) (n : Nat) (hn : ops.size = n) (l0 : Array Bool) (hl0 : Array.replicate n false = l0) (wr : List Nat) (lv : List Nat) {K : Exit → St → Prop}
    (h : ∀ R : St → Prop, (∀ σ', K .normal (σ'.keep lv) → R σ') → AnyA P T ops (but wr) R n l0 σ) : SA P T (.region id ops true) K σ := by
  intro w0 w F ρ a outs hd hR
  subst hn hl0
  have h := h (fun σ' => K .normal (σ'.keep lv)) (fun _ x => x) w0 _ F ρ a outs hd (hR.later (w' := { w with drawn := w.drawn + 1 }) ((Below.refl _ _).drew))
  refine wp_mono (wp_region_any hm (wpAny_of_B _ _ _ _ h)) ?_
  rintro ex a' w' ⟨rfl, σ', F', ρ', hK, hd', hR'⟩
  exact ⟨_, F', ρ', hK, hd', hR'.keep lv⟩

theorem SA.regionAnyPost {id : Nat} {ops : Array Oper} (hm : P.follows .mixedOrders = true) (n : Nat) (hn : ops.size = n) (l0 : Array Bool) (hl0 : Array.replicate n false = l0) (wr : List Nat) (lv : List Nat) {K : Exit → St → Prop} (τ : St)
    (h : ∀ R : St → Prop, (∀ σ', St.le T (σ'.keep lv) τ → R σ') → AnyA P T ops (but wr) R n l0 σ) (hK : K .normal τ) : SA P T (.region id ops true) K σ := by
  intro w0 w F ρ a outs hd hR
  subst hn hl0
  have h := h (fun σ' => St.le T (σ'.keep lv) τ) (fun _ x => x) w0 _ F ρ a outs hd (hR.later (w' := { w with drawn := w.drawn + 1 }) ((Below.refl _ _).drew))
  refine wp_mono (wp_region_any hm (wpAny_of_B _ _ _ _ h)) ?_
  rintro ex a' w' ⟨rfl, σ', F', ρ', hl, hd', hR'⟩
  obtain ⟨F'', ρ'', h2⟩ := hl _ _ _ _ _ _ (hR'.keep lv)
  exact ⟨_, F'', ρ'', hK, hd', h2⟩

end Go.Eng
/- A law's arguments, as they are read, as data. -/
namespace Go.Eng
set_option linter.unusedSimpArgs false
set_option linter.unusedVariables false
open Go.RowKit

variable {H : Type} {enc : TypeId × Value → H} {P : Program} {T : Tab} {w : World} {base : Nat} {spare : Nat → Bool} {held : Bool} {F : Nat → Prop}

theorem cellsOf_sz (hP : TabOk P T) {t : TypeId} (ht : T.ty t ≠ .other) : P.cellsOf t = T.sz t := by
  obtain ⟨i, i1, i2, _⟩ := hP.info t ht
  simp [Program.cellsOf, i1, i2]

theorem pick_all {α : Type} [Inhabited α] {n : Nat} {p : Nat → α → Prop} (h : ∀ i, i < n → ∃ a, p i a) : ∃ l : List α, l.length = n ∧ ∀ i, i < n → p i (l.getD i default) := by
  classical
  refine ⟨(List.range n).map fun i => if h : ∃ a, p i a then Classical.choose h else default, by simp, fun i hi => ?_⟩
  have := h i hi
  simp only [List.getD_eq_getElem?_getD, List.getElem?_map, List.getElem?_range hi, Option.map_some, Option.getD_some, dif_pos this]
  exact Classical.choose_spec this

theorem flat_notOther {d : Nat} {t : TypeId} (h : flatTy T d t = true) : T.ty t ≠ .other := by
  intro h0
  cases d with
  | zero => simp [flatTy] at h
  | succ d => simp [flatTy, h0] at h

/-- Flat data, as it is read. -/
theorem flat_trod (hP : TabOk P T) : ∀ (d : Nat) {t : TypeId} {cs : List Value} {fuel : Nat} {x : DataW H × List MemPlace}, flatTy T d t = true → DataW.trod enc P w base spare held fuel t cs = some x → ∃ v, Fits T w F t v cs := by
  intro d
  induction d using Nat.strongRecOn with
  | _ d ih =>
    intro t cs fuel x hf h
    cases d with
    | zero => simp [flatTy] at hf
    | succ d =>
      have hno := flat_notOther hf
      have hc := cellsOf_sz hP hno
      unfold flatTy at hf
      split at hf
      · rename_i k hk
        obtain ⟨n, rfl, _, hw⟩ := DataW.trod_int (hP.int _ _ hk) h
        exact ⟨_, .int hk (by simpa [Lit.wf, IntKind.has] using hw)⟩
      · rename_i hk
        obtain ⟨b, rfl, _⟩ := DataW.trod_bool (hP.bool _ hk) h
        exact ⟨_, .bool hk⟩
      · rename_i hk
        obtain ⟨s, rfl, _⟩ := DataW.trod_string (hP.str _ hk) h
        exact ⟨_, .str hk⟩
      · rename_i ts hk
        obtain ⟨fs, f1, f2, _, f3⟩ := hP.struct _ _ hk
        obtain ⟨xs, n, rfl, _, hl, hxl, hx⟩ := DataW.trod_struct f1 h
        have hfl : fs.size = ts.length := by rw [← f2]; simp
        have hex : ∀ i, i < ts.length → ∃ v, ∀ u, ts[i]? = some u → Fits T w F u v ((cs.drop (T.offs ts i)).take (T.sz u)) := by
          intro i hi
          obtain ⟨f, hfi⟩ : ∃ f, fs[i]? = some f := ⟨_, Array.getElem?_eq_getElem (by omega)⟩
          have hti : ts[i]? = some f.type := by
            have : (fs.toList.map (·.type))[i]? = some f.type := by simp [hfi]
            rwa [f2] at this
          obtain ⟨g1, g2, _, g4⟩ := f3 i _ hfi
          have hxi := hx i _ hfi
          rw [List.getElem?_eq_getElem (by omega), g1, cellsOf_sz hP g4] at hxi
          obtain ⟨d', hd', hf'⟩ := flatTys_nth hf hti
          obtain ⟨v, hv⟩ := ih d' (by omega) hf' hxi
          exact ⟨v, fun u hu => by rw [hti] at hu; cases hu; exact hv⟩
        obtain ⟨l, hll, hl'⟩ := pick_all hex
        refine ⟨.agg l, .struct hk (FitsL.ofNth hll ?_ fun k u hu => hl' k (List.getElem?_eq_some_iff.1 hu).1 u hu)⟩
        rw [hl, hc, hP.sized.struct _ _ hk]
      · rename_i n e hk
        obtain ⟨g1, _, _, g4⟩ := hP.arr _ _ _ hk
        obtain ⟨xs, m, rfl, _, hl, hxl, hx⟩ := DataW.trod_array g1 h
        have hex : ∀ i, i < n → ∃ v, Fits T w F e v ((cs.drop (i * T.sz e)).take (T.sz e)) := by
          intro i hi
          have hxi := hx i hi
          rw [List.getElem?_eq_getElem (by omega), cellsOf_sz hP g4] at hxi
          exact ih d (by omega) hf hxi
        obtain ⟨l, hll, hl'⟩ := pick_all hex
        refine ⟨.agg l, .arr hk (FitsL.ofNth (by simp [hll]) ?_ fun k u hu => ?_)⟩
        · rw [hl, hc, hP.sized.arr _ _ _ hk]
        · rw [List.getElem?_replicate] at hu
          split at hu; rotate_left; · cases hu
          rename_i hkn
          cases hu
          rw [offs_replicate T n k _ (by omega)]
          exact hl' k hkn
      · simp at hf

theorem spot_of_cell {a : Addr} {v : Value} (h : w.cell? a = some v) : a.spot = none := by
  unfold World.cell? at h
  split at h
  · split at h
    · cases h
    · rename_i h'; simpa using h'
  · cases h

/-- Flat data, as an argument. -/
theorem flat_arg (hP : TabOk P T) {t : TypeId} {r : Reach} {b0 : Nat} {v : Value} {d : DataW H} {p : List MemPlace} (hf : flatTy T 20 t = true) (hval : Value.okWide P w r b0 t v)
    (h : DataW.Trod enc P w 0 spare held t v d p) : ∃ x, Fits T w (fun b => b < w.heap.size) t x v.cells.toList ∧ ValOf T t v v.cells.toList := by
  obtain ⟨fuel, h⟩ := h
  obtain ⟨x, hx⟩ := flat_trod (F := fun b => b < w.heap.size) hP 20 hf h
  refine ⟨x, hx, ?_⟩
  unfold ValOf
  have hf' := hf
  unfold flatTy at hf'
  unfold Value.okWide at hval
  split at hf'
  · rename_i k hk
    rw [hP.int _ _ hk] at hval
    obtain ⟨n, hv, _, _⟩ := DataW.trod_int (hP.int _ _ hk) h
    simp only [Cell.okWide, hP.int _ _ hk] at hval
    cases v <;> simp_all [Cell.ok, Value.cells, TyD.isAgg]
  · rename_i hk
    simp only [Cell.okWide, hP.bool _ hk] at hval
    cases v <;> simp_all [Cell.ok, hP.bool _ hk, Value.cells, TyD.isAgg]
  · rename_i hk
    simp only [Cell.okWide, hP.str _ hk] at hval
    cases v <;> simp_all [Cell.ok, hP.str _ hk, Value.cells, TyD.isAgg]
  · rename_i ts hk
    obtain ⟨fs, f1, _⟩ := hP.struct _ _ hk
    rw [f1] at hval
    obtain ⟨cs, rfl, _⟩ := hval
    simp [hk, TyD.isAgg, Value.cells]
  · rename_i n e hk
    obtain ⟨f1, _⟩ := hP.arr _ _ _ hk
    rw [f1] at hval
    obtain ⟨cs, rfl, _⟩ := hval
    simp [hk, TyD.isAgg, Value.cells]
  · simp at hf'

/-- The elements of a list of one kind. -/
theorem fits_list {α : Type} {f : α → V} {e : TypeId} (hf : ∀ v cs, Fits T w F e v cs → ∃ a, v = f a) : ∀ {n : Nat} {l : List V} {cs : List Value}, FitsL T w F (List.replicate n e) l cs → ∃ m : List α, l = m.map f
  | 0, l, cs, h => by cases h; exact ⟨[], rfl⟩
  | n + 1, l, cs, h => by
    rw [List.replicate_succ] at h
    cases h with
    | cons h1 h2 =>
      obtain ⟨a, rfl⟩ := hf _ _ h1
      obtain ⟨m, rfl⟩ := fits_list hf h2
      exact ⟨a :: m, rfl⟩

theorem fits_list' {α : Type} {f : α → V} {q : α → Prop} {e : TypeId} (hf : ∀ v cs, Fits T w F e v cs → ∃ a, q a ∧ v = f a) : ∀ {n : Nat} {l : List V} {cs : List Value}, FitsL T w F (List.replicate n e) l cs → ∃ m : List α, (∀ a ∈ m, q a) ∧ l = m.map f
  | 0, l, cs, h => by cases h; exact ⟨[], by simp, rfl⟩
  | n + 1, l, cs, h => by
    rw [List.replicate_succ] at h
    cases h with
    | cons h1 h2 =>
      obtain ⟨a, ha, rfl⟩ := hf _ _ h1
      obtain ⟨m, hm, rfl⟩ := fits_list' hf h2
      exact ⟨a :: m, by simpa using ⟨ha, hm⟩, rfl⟩

/-- A law: its contract says 'true'. -/
theorem Ctr.law {f : FuncId} {pts : List TypeId} {bt : TypeId} {vs : List V} {xs : List Value} {W : World} (h : Ctr P T f pts [bt] vs [.bool true]) (hb : P.underlying bt = some .bool) (hx : ArgsFit T W (fun b => b < W.heap.size) pts vs xs) (htb : T.ty bt = .bool) (hg : T.glob W) :
    Calls P f xs.toArray W fun e W' => e = .returned (.bool true) ∧ Below W.heap.size W W' := by
  refine (h.2 W _ xs (fun _ h => h) hg hx).mono ?_
  rintro en w' ⟨ys, rfl, hB, hr⟩
  match ys, hr with
  | [y], ⟨hr, _, _⟩ =>
    refine ⟨?_, hB⟩
    simp only [ResFit, htb] at hr
    obtain ⟨_, h1, h2⟩ := hr
    obtain ⟨b, hb, hc⟩ := h1.inv' htb
    cases hb
    simp only [ValOf, htb, TyD.isAgg, Bool.false_eq_true, if_false] at h2
    rw [h2] at hc
    simp at hc
    rw [outV, hc]

end Go.Eng
