/- A region's operations, one behind the other, in the abstract state. -/
import Derived.Test.YtbfihoopgcmkpaaEngL
namespace Go.Eng
set_option linter.unusedSimpArgs false
set_option linter.unusedVariables false
open Go.RowKit

variable {P : Program} {T : Tab} {w w' : World} {w0 : Base} {F F' : Nat → Prop} {ρ ρ' : Nat → RI} {σ : St} {a : Act} {outs : List (Array Value)}

/-- A slot is written; what follows. -/
def putK (σ : St) (d : Option Tmp) (g : Bool) (K : St → Prop) (e : E) : Prop := match d with
  | some d => d < σ.nt ∧ K { σ with tm := (d, g, e) :: σ.tm }
  | none => K σ

def putE (d : Option Tmp) (K : St → Prop) (σ : St) (e : E) : Prop := putK σ d true K e

theorem put_sound (hR : Rel T w F ρ w0 σ a.tmps outs) {d : Option Tmp} {g : Bool} {K : St → Prop} {e : E} {v : Value} (h : putK σ d g K e) (h1 : g = true → ERel T w F ρ e v) (h2 : g = false → v = undef) :
    ∃ σ', K σ' ∧ Rel T w F ρ w0 σ' (a.put d v).tmps outs ∧ (a.put d v).defers = a.defers := by
  cases d with
  | none => exact ⟨σ, h, hR, rfl⟩
  | some d =>
    obtain ⟨hd, h⟩ := h
    refine ⟨_, h, ⟨?_, hR.out, hR.ob, hR.free, hR.inj, hR.fsub, hR.below, by simp [Act.put, hR.size], hR.fold⟩, rfl⟩
    intro t g' e' he
    simp only [List.lookup_cons] at he
    by_cases htd : t = d
    · subst htd
      simp at he
      obtain ⟨rfl, rfl⟩ := he
      refine ⟨v, ?_, h1, h2⟩
      simp [Act.put, hR.size, hd]
    · have : (t == d) = false := by simpa using htd
      rw [this] at he
      obtain ⟨v', q1, q2, q3⟩ := hR.tm t g' e' he
      exact ⟨v', by simp [Act.put, Array.getElem?_setIfInBounds_ne (Ne.symm htd), q1], q2, q3⟩

/-- An operation, without what does not matter here. -/
structure SOp where
  dst : Option Tmp
  op : Op
  guard : Option (Tmp × Bool)

/-- The operations of a region, each guard told by the slot that it looks at. -/
def strip (ops : Array Oper) (o : Oper) : SOp := ⟨o.dst, o.op, match o.guard with
  | none => none
  | some (j, want) => some (((ops[j]?).bind (·.dst)).getD ops.size.succ.succ, want)⟩

/-- Is an operation carried out? -/
def guardA (o : SOp) (σ : St) (K : Bool → Prop) : Prop := match o.guard with
  | none => K true
  | some (d, want) => match σ.tm.lookup d with
    | some (h, .bool b) => K (h && (b == want))
    | _ => False

theorem guardA_sound (hR : Rel T w F ρ w0 σ a.tmps outs) {ops : Array Oper} {o : Oper} (hj : (match o.guard with | none => true | some (j, _) => ((ops[j]?).bind (·.dst)).isSome) = true) {K : Bool → Prop} (h : guardA (strip ops o) σ K) : ∃ g, K g ∧ Region.wanted o (yielded ops a.tmps) = g := by
  unfold guardA strip at h
  cases hg : o.guard with
  | none =>
    simp only [hg] at h
    exact ⟨true, h, by simp [Region.wanted, hg]⟩
  | some jw =>
    obtain ⟨j, want⟩ := jw
    simp only [hg] at h hj
    obtain ⟨d, hd⟩ := Option.isSome_iff_exists.1 hj
    simp only [hd, Option.getD_some] at h
    split at h
    · rename_i hh b hl
      refine ⟨_, h, ?_⟩
      obtain ⟨v, q1, q2, q3⟩ := hR.tm _ _ _ hl
      simp only [Region.wanted, hg, yielded, hd, Option.bind_some]
      cases hh with
      | true =>
        have : v = .bool b := q2 rfl
        subst this
        rw [q1]
        simp
      | false =>
        have : v = undef := q3 rfl
        subst this
        rw [q1]
        simp [undef]
    · exact h.elim

/-! ### Calls -/

def Enters (P : Program) (f : FuncId) : Prop := ∀ (args : Array Value) (w : World), (callFunc f args).run P w = .ok (.enter f args) w

/-- A call in an abstract state: it returns, and what follows holds behind it. -/
def CallE (P : Program) (T : Tab) (σ : St) (f : FuncId) (es : List E) (K : St → E → Prop) : Prop :=
  Enters P f ∧ ∀ (w0 : Base) (w : World) (F : Nat → Prop) (ρ : Nat → RI) (tmps : Array Value) (outs : List (Array Value)) (xs : List Value), Rel T w F ρ w0 σ tmps outs → ERelL T w F ρ es xs →
    Calls P f xs.toArray w fun en w' => ∃ v σ' e F' ρ', en = .returned v ∧ K σ' e ∧ ERel T w' F' ρ' e v ∧ Rel T w' F' ρ' w0 σ' tmps outs

/-- A call that leaves all that was there as it was, and answers what e says: one value, in every later world. -/
def CallQ (P : Program) (T : Tab) (σ : St) (f : FuncId) (es : List E) (e : E) : Prop :=
  Enters P f ∧ ∀ (w0 : Base) (w : World) (F : Nat → Prop) (ρ : Nat → RI) (tmps : Array Value) (outs : List (Array Value)) (xs : List Value), Rel T w F ρ w0 σ tmps outs → ERelL T w F ρ es xs →
    ∃ v, ERel T w F ρ e v ∧ ∀ w', Below w.heap.size w w' → Calls P f xs.toArray w' fun en w'' => en = .returned v ∧ Below w'.heap.size w' w''

/-- A call as an operation. -/
def CallStep (P : Program) (T : Tab) (σ : St) (g : Bool) (f : Operand) (args : List Operand) (d : Option Tmp) (K : St → Prop) : Prop :=
  evalO σ g f fun ef => evalL σ g args fun es => ∃ fid caps, ef = .fn fid caps ∧
    ((∃ e, (g = true → CallQ P T σ fid (es ++ caps) e) ∧ putK σ d g K e) ∨ ((g = true → CallE P T σ fid (es ++ caps) (putE d K)) ∧ (g = false → putK σ d false K .undef)))

theorem ERelL.append : ∀ {a b : List E} {x y : List Value}, ERelL T w F ρ a x → ERelL T w F ρ b y → ERelL T w F ρ (a ++ b) (x ++ y)
  | [], _, [], _, _, h => h
  | _ :: _, _, _ :: _, _, ⟨h1, h2⟩, h => ⟨h1, ERelL.append h2 h⟩
  | [], _, _ :: _, _, h, _ => h.elim
  | _ :: _, _, [], _, h, _ => h.elim

theorem run_call {f : FuncId} (hE : Enters P f) {c : Call} {x : Operand} {caps : List Value} (hc : c.callee = .value x) (hx : a.eval x = .func (.func f) #[] caps.toArray) (W : World) (o : Oper) (ho : o.op = .call c) :
    (execOp a.eval o).run P W = .ok (.enter f (c.args.toList.map a.eval ++ caps).toArray) W := by
  have hargs : c.args.map a.eval ++ caps.toArray = (c.args.toList.map a.eval ++ caps).toArray := by
    apply Array.ext'; simp
  simp [execOp, ho, resolve, hc, hx, Deferred.ofValue, invoke, hargs]
  exact hE _ _

/-- What an operation of a region owes behind its guard. -/
def opG (P : Program) (T : Tab) (o : SOp) (K : St → Prop) (σ : St) (g : Bool) : Prop := match o.op with
  | .call c => match c.callee with
    | .value f => CallStep P T σ g f c.args.toList o.dst K
    | .builtin .append => (g = true → effA T σ (.call c) (putE o.dst K)) ∧ (g = false → putK σ o.dst false K .undef)
    | .builtin _ => pureA T σ g (.call c) (putK σ o.dst g K)
    | _ => False
  | .alloc t => (g = true → effA T σ (.alloc t) (putE o.dst K)) ∧ (g = false → putK σ o.dst false K .undef)
  | .box t x => (g = true → effA T σ (.box t x) (putE o.dst K)) ∧ (g = false → putK σ o.dst false K .undef)
  | .store t x y => (g = true → effA T σ (.store t x y) (putE o.dst K)) ∧ (g = false → putK σ o.dst false K .undef)
  | .buildSlice t n ps => (g = true → effA T σ (.buildSlice t n ps) (putE o.dst K)) ∧ (g = false → putK σ o.dst false K .undef)
  | .makeSlice t l c => (g = true → effA T σ (.makeSlice t l c) (putE o.dst K)) ∧ (g = false → putK σ o.dst false K .undef)
  | op => pureA T σ g op (putK σ o.dst g K)

def opsA (P : Program) (T : Tab) : List SOp → (St → Prop) → St → Prop
  | [], K, σ => K σ
  | o :: rest, K, σ => guardA o σ (opG P T o (opsA P T rest K) σ)

/-- The state behind describes the frame and the world behind. -/
def After (T : Tab) (w0 : Base) (outs : List (Array Value)) (K : St → Prop) (a' : Act) (w' : World) : Prop :=
  ∃ σ' F' ρ', K σ' ∧ a'.defers = [] ∧ Rel T w' F' ρ' w0 σ' a'.tmps outs

theorem pure_step (hP : TabOk P T) (hR : Rel T w F ρ w0 σ a.tmps outs) (hd : a.defers = []) {o : Oper} {g : Bool} {K : St → Prop} {N : Act → World → Prop} {Q : Exit → Act → World → Prop}
    (hN : ∀ a' w', After T w0 outs K a' w' → N a' w') (h : pureA T σ g o.op (putK σ o.dst g K)) : if g then o.wp P a w N Q else N (a.put o.dst undef) w := by
  obtain ⟨e, h1, h2⟩ := pureA_sound hP hR h
  cases g with
  | true =>
    obtain ⟨v, hv, hr⟩ := h2 rfl
    obtain ⟨σ', hK, hR', hd'⟩ := put_sound hR h1 (fun _ => hv) (by simp)
    simp only [if_true, Oper.wp, hr w (Below.refl _ _) o rfl, Oper.upon]
    exact hN _ _ ⟨σ', F, ρ, hK, hd'.trans hd, hR'⟩
  | false =>
    obtain ⟨σ', hK, hR', hd'⟩ := put_sound (v := undef) hR h1 (by simp) (fun _ => rfl)
    simp only [Bool.false_eq_true, if_false]
    exact hN _ _ ⟨σ', F, ρ, hK, hd'.trans hd, hR'⟩

theorem eff_step (hP : TabOk P T) (hR : Rel T w F ρ w0 σ a.tmps outs) (hd : a.defers = []) {o : Oper} {g : Bool} {K : St → Prop} {N : Act → World → Prop} {Q : Exit → Act → World → Prop}
    (hN : ∀ a' w', After T w0 outs K a' w' → N a' w') (h : (g = true → effA T σ o.op (putE o.dst K)) ∧ (g = false → putK σ o.dst false K .undef)) : if g then o.wp P a w N Q else N (a.put o.dst undef) w := by
  cases g with
  | true =>
    obtain ⟨σ', e, h1, w', F', ρ', v, nx, h2, h3, h4, h5, _⟩ := effA_sound hP hR (h.1 rfl)
    obtain ⟨σ'', hK, hR', hd'⟩ := put_sound h3 h1 (fun _ => h2) (by simp)
    rcases h4 with rfl | ⟨rfl, rfl⟩
    · simp only [if_true, Oper.wp, h5 o rfl, Oper.upon]
      exact hN _ _ ⟨σ'', F', ρ', hK, hd'.trans hd, hR'⟩
    · simp only [if_true, Oper.wp, h5 o rfl, Oper.upon]
      exact hN _ _ ⟨σ'', F', ρ', hK, hd'.trans hd, hR'⟩
  | false =>
    obtain ⟨σ', hK, hR', hd'⟩ := put_sound (v := undef) hR (h.2 rfl) (by simp) (fun _ => rfl)
    simp only [Bool.false_eq_true, if_false]
    exact hN _ _ ⟨σ', F, ρ, hK, hd'.trans hd, hR'⟩

theorem call_step (hR : Rel T w F ρ w0 σ a.tmps outs) (hd : a.defers = []) {o : Oper} {c : Call} {x : Operand} (ho : o.op = .call c) (hc : c.callee = .value x) {g : Bool} {K : St → Prop} {N : Act → World → Prop} {Q : Exit → Act → World → Prop}
    (hN : ∀ a' w', After T w0 outs K a' w' → N a' w') (h : CallStep P T σ g x c.args.toList o.dst K) : if g then o.wp P a w N Q else N (a.put o.dst undef) w := by
  obtain ⟨ef, h1, hf⟩ := evalO_sound hR h
  obtain ⟨es, h2, hes⟩ := evalL_sound hR h1
  obtain ⟨fid, caps, rfl, h3⟩ := h2
  clear h h1
  cases g with
  | true =>
    obtain ⟨cs, hx, hcs⟩ := hf rfl
    have hall := (hes rfl).append hcs
    rcases h3 with ⟨e, hq, hk⟩ | ⟨he, _⟩
    · obtain ⟨hE, hq⟩ := hq rfl
      obtain ⟨v, hv, hq⟩ := hq w0 w F ρ _ _ _ hR hall
      have hcall := hq w (Below.refl _ _)
      simp only [if_true, Oper.wp, run_call hE hc hx w o ho, Oper.upon]
      refine hcall.mono ?_
      rintro en w' ⟨rfl, hb⟩
      obtain ⟨σ', hK, hR', hd'⟩ := put_sound hR hk (fun _ => hv) (by simp)
      exact hN _ _ ⟨σ', F, ρ, hK, hd'.trans hd, hR'.later hb⟩
    · obtain ⟨hE, he⟩ := he rfl
      simp only [if_true, Oper.wp, run_call hE hc hx w o ho, Oper.upon]
      refine (he w0 w F ρ _ _ _ hR hall).mono ?_
      rintro en w' ⟨v, σ', e, F', ρ', rfl, hk, hv, hR'⟩
      obtain ⟨σ'', hK, hR'', hd'⟩ := put_sound hR' hk (fun _ => hv) (by simp)
      exact hN _ _ ⟨σ'', F', ρ', hK, hd'.trans hd, hR''⟩
  | false =>
    simp only [Bool.false_eq_true, if_false]
    rcases h3 with ⟨e, _, hk⟩ | ⟨_, he⟩
    · obtain ⟨σ', hK, hR', hd'⟩ := put_sound (v := undef) hR hk (by simp) (fun _ => rfl)
      exact hN _ _ ⟨σ', F, ρ, hK, hd'.trans hd, hR'⟩
    · obtain ⟨σ', hK, hR', hd'⟩ := put_sound (v := undef) hR (he rfl) (by simp) (fun _ => rfl)
      exact hN _ _ ⟨σ', F, ρ, hK, hd'.trans hd, hR'⟩

theorem opG_sound (hP : TabOk P T) (hR : Rel T w F ρ w0 σ a.tmps outs) (hd : a.defers = []) {o : Oper} {g : Bool} {K : St → Prop} {N : Act → World → Prop} {Q : Exit → Act → World → Prop}
    (hN : ∀ a' w', After T w0 outs K a' w' → N a' w') {ops : Array Oper} (h : opG P T (strip ops o) K σ g) : if g then o.wp P a w N Q else N (a.put o.dst undef) w := by
  unfold opG at h
  have hop : (strip ops o).op = o.op := rfl
  have hdst : (strip ops o).dst = o.dst := rfl
  rw [hop, hdst] at h
  split at h
  · rename_i c hc
    split at h
    · rename_i f hf
      exact call_step hR hd hc hf hN h
    · exact eff_step hP hR hd hN (by rw [hc]; exact h)
    · exact pure_step hP hR hd hN (by rw [hc]; exact h)
    · exact h.elim
  · rename_i hc; exact eff_step hP hR hd hN (by rw [hc]; exact h)
  · rename_i hc; exact eff_step hP hR hd hN (by rw [hc]; exact h)
  · rename_i hc; exact eff_step hP hR hd hN (by rw [hc]; exact h)
  · rename_i hc; exact eff_step hP hR hd hN (by rw [hc]; exact h)
  · rename_i hc; exact eff_step hP hR hd hN (by rw [hc]; exact h)
  · exact pure_step hP hR hd hN h

/-- Each guard looks at an operation that writes a slot. -/
def guardsOk (ops : Array Oper) : Bool := ops.toList.all fun o => match o.guard with | none => true | some (j, _) => ((ops[j]?).bind (·.dst)).isSome

theorem opsA_sound (hP : TabOk P T) {ops : Array Oper} (hg : guardsOk ops = true) {Q : Exit → Act → World → Prop} {K : St → Prop} (hQ : ∀ a' w', After T w0 outs K a' w' → Q .normal a' w') :
    ∀ (l : List Oper) (k : Nat), ops.toList.drop k = l → ∀ {σ : St} {a : Act} {w : World} {F : Nat → Prop} {ρ : Nat → RI}, Rel T w F ρ w0 σ a.tmps outs → a.defers = [] → opsA P T (l.map (strip ops)) K σ →
      wpOps P ops Q (List.range' k l.length) a w
  | [], k, _, σ, a, w, F, ρ, hR, hd, h => hQ a w ⟨σ, F, ρ, h, hd, hR⟩
  | o :: l, k, hk, σ, a, w, F, ρ, hR, hd, h => by
    have ho : ops[k]? = some o := by
      have : (ops.toList.drop k)[0]? = some o := by rw [hk]; rfl
      simpa using this
    have hk' : ops.toList.drop (k + 1) = l := by
      have := congrArg List.tail hk
      simpa using this
    simp only [List.length_cons, List.range'_succ, wpOps, ho]
    simp only [List.map_cons] at h
    unfold opsA at h
    have hgo := List.all_eq_true.1 hg o (by rw [← List.take_append_drop k ops.toList, hk]; simp)
    obtain ⟨g, h, hw⟩ := guardA_sound hR hgo h
    have := opG_sound (Q := Q) hP hR hd (N := wpOps P ops Q (List.range' (k + 1) l.length)) (fun a' w' ⟨σ', F', ρ', q1, q2, q3⟩ => opsA_sound hP hg hQ l (k + 1) hk' q3 q2 q1) h
    rw [hw]
    cases g with
    | true => exact .inl this
    | false => exact this

end Go.Eng
