/- A region's operations, one behind the other, in the abstract state. -/
import Derived.Test.YtedceinkpkoncaaGreatE2
import Derived.Test.YtedceinkpkoncaaGreatProg
import Derived.KernelRfl
import Derived.OrdersHeld
namespace Go.Eng
set_option linter.unusedSimpArgs false
set_option linter.unusedVariables false
open Go.RowKit

variable {P : Program} {T : Tab} {w w' : World} {w0 : Base T} {F F' : Nat → Prop} {ρ ρ' : Nat → RI} {σ : St} {a : Act} {outs : List (Array Value)}

/-- A slot is written; what follows. -/
def putK (σ : St) (d : Option Tmp) (g : Bool) (K : St → Prop) (e : E) : Prop := match d with
  | some d => d < σ.nt ∧ K { σ with tm := (d, g, e) :: σ.tm }
  | none => K σ

def putE (d : Option Tmp) (K : St → Prop) (σ : St) (e : E) : Prop := putK σ d true K e

theorem put_sound (hR : Rel T w F ρ w0 σ a.tmps outs) {d : Option Tmp} {g : Bool} {K : St → Prop} {e : E} {v : Value} (h : putK σ d g K e) (h1 : g = true → ERel T w F ρ e v) (h2 : g = false → v = undef) :
    ∃ σ', K σ' ∧ Rel T w F ρ w0 σ' (a.put d v).tmps outs ∧ (a.put d v).defers = a.defers := by
  cases d with
  | none => exact ⟨σ, h, hR, rfl⟩
  | some d =>
    obtain ⟨hd, h⟩ := h
    refine ⟨_, h, ⟨?_, hR.out, hR.ob, hR.free, hR.inj, hR.fsub, hR.below, by simp [Act.put, hR.size], hR.fold⟩, rfl⟩
    intro t g' e' he
    simp only [List.lookup_cons] at he
    by_cases htd : t = d
    · subst htd
      simp at he
      obtain ⟨rfl, rfl⟩ := he
      refine ⟨v, ?_, h1, h2⟩
      simp [Act.put, hR.size, hd]
    · have : (t == d) = false := by simpa using htd
      rw [this] at he
      obtain ⟨v', q1, q2, q3⟩ := hR.tm t g' e' he
      exact ⟨v', by simp [Act.put, Array.getElem?_setIfInBounds_ne (Ne.symm htd), q1], q2, q3⟩

/-- An operation, without what does not matter here. -/
structure SOp where
  dst : Option Tmp
  op : Op
  guard : Option (Tmp × Bool)

/-- The operations of a region, each guard told by the slot that it looks at. -/
def strip (ops : Array Oper) (o : Oper) : SOp := ⟨o.dst, o.op, match o.guard with
  | none => none
  | some (j, want) => some (((ops[j]?).bind (·.dst)).getD ops.size.succ.succ, want)⟩

/-- Is an operation carried out? -/
def guardA (o : SOp) (σ : St) (K : Bool → Prop) : Prop := match o.guard with
  | none => K true
  | some (d, want) => match σ.tm.lookup d with
    | some (h, .bool b) => K (h && (b == want))
    | _ => False

theorem guardA_sound (hR : Rel T w F ρ w0 σ a.tmps outs) {ops : Array Oper} {o : Oper} (hj : (match o.guard with | none => true | some (j, _) => ((ops[j]?).bind (·.dst)).isSome) = true) {K : Bool → Prop} (h : guardA (strip ops o) σ K) : ∃ g, K g ∧ Region.wanted o (yielded ops a.tmps) = g := by
  unfold guardA strip at h
  cases hg : o.guard with
  | none =>
    simp only [hg] at h
    exact ⟨true, h, by simp [Region.wanted, hg]⟩
  | some jw =>
    obtain ⟨j, want⟩ := jw
    simp only [hg] at h hj
    obtain ⟨d, hd⟩ := Option.isSome_iff_exists.1 hj
    simp only [hd, Option.getD_some] at h
    split at h
    · rename_i hh b hl
      refine ⟨_, h, ?_⟩
      obtain ⟨v, q1, q2, q3⟩ := hR.tm _ _ _ hl
      simp only [Region.wanted, hg, yielded, hd, Option.bind_some]
      cases hh with
      | true =>
        have : v = .bool b := q2 rfl
        subst this
        rw [q1]
        simp
      | false =>
        have : v = undef := q3 rfl
        subst this
        rw [q1]
        simp [undef]
    · exact h.elim

/-! ### Calls -/

def Enters (P : Program) (f : FuncId) : Prop := ∀ (args : Array Value) (w : World), (callFunc f args).run P w = .ok (.enter f args) w

/-- A call in an abstract state: it returns, and what follows holds behind it. -/
def CallE (P : Program) (T : Tab) (σ : St) (f : FuncId) (es : List E) (K : St → E → Prop) : Prop :=
  Enters P f ∧ ∀ (w0 : Base T) (w : World) (F : Nat → Prop) (ρ : Nat → RI) (tmps : Array Value) (outs : List (Array Value)) (xs : List Value), Rel T w F ρ w0 σ tmps outs → ERelL T w F ρ es xs →
    Calls P f xs.toArray w fun en w' => ∃ v σ' e F' ρ', en = .returned v ∧ K σ' e ∧ ERel T w' F' ρ' e v ∧ Rel T w' F' ρ' w0 σ' tmps outs

/-- A call that leaves all that was there as it was, and answers what e says: one value, in every later world. -/
def CallQ (P : Program) (T : Tab) (σ : St) (f : FuncId) (es : List E) (e : E) : Prop :=
  Enters P f ∧ ∀ (w0 : Base T) (w : World) (F : Nat → Prop) (ρ : Nat → RI) (tmps : Array Value) (outs : List (Array Value)) (xs : List Value), Rel T w F ρ w0 σ tmps outs → ERelL T w F ρ es xs →
    ∃ v, ERel T w F ρ e v ∧ ∀ w', Below w.heap.size w w' → Calls P f xs.toArray w' fun en w'' => en = .returned v ∧ Below w'.heap.size w' w''

/-- A call as an operation. -/
def CallStep (P : Program) (T : Tab) (σ : St) (g : Bool) (f : Operand) (args : List Operand) (d : Option Tmp) (K : St → Prop) : Prop :=
  evalO σ g f fun ef => evalL σ g args fun es => ∃ fid caps, ef = .fn fid caps ∧
    ((∃ e, (g = true → CallQ P T σ fid (es ++ caps) e) ∧ putK σ d g K e) ∨ ((g = true → CallE P T σ fid (es ++ caps) (putE d K)) ∧ (g = false → putK σ d false K .undef)))

theorem ERelL.append : ∀ {a b : List E} {x y : List Value}, ERelL T w F ρ a x → ERelL T w F ρ b y → ERelL T w F ρ (a ++ b) (x ++ y)
  | [], _, [], _, _, h => h
  | _ :: _, _, _ :: _, _, ⟨h1, h2⟩, h => ⟨h1, ERelL.append h2 h⟩
  | [], _, _ :: _, _, h, _ => h.elim
  | _ :: _, _, [], _, h, _ => h.elim

theorem run_call {f : FuncId} (hE : Enters P f) {c : Call} {x : Operand} {caps : List Value} (hc : c.callee = .value x) (hx : a.eval x = .func (.func f) #[] caps.toArray) (W : World) (o : Oper) (ho : o.op = .call c) :
    (execOp a.eval o).run P W = .ok (.enter f (c.args.toList.map a.eval ++ caps).toArray) W := by
  have hargs : c.args.map a.eval ++ caps.toArray = (c.args.toList.map a.eval ++ caps).toArray := by
    apply Array.ext'; simp
  simp [execOp, ho, resolve, hc, hx, Deferred.ofValue, invoke, hargs]
  exact hE _ _

/-- What an operation of a region owes behind its guard. -/
def opG (P : Program) (T : Tab) (o : SOp) (K : St → Prop) (σ : St) (g : Bool) : Prop := match o.op with
  | .call c => match c.callee with
    | .value f => CallStep P T σ g f c.args.toList o.dst K
    | .builtin .append => (g = true → effA T σ (.call c) (putE o.dst K)) ∧ (g = false → putK σ o.dst false K .undef)
    | .builtin _ => pureA T σ g (.call c) (putK σ o.dst g K)
    | _ => False
  | .alloc t => (g = true → effA T σ (.alloc t) (putE o.dst K)) ∧ (g = false → putK σ o.dst false K .undef)
  | .box t x => (g = true → effA T σ (.box t x) (putE o.dst K)) ∧ (g = false → putK σ o.dst false K .undef)
  | .store t x y => (g = true → effA T σ (.store t x y) (putE o.dst K)) ∧ (g = false → putK σ o.dst false K .undef)
  | .buildSlice t n ps => (g = true → effA T σ (.buildSlice t n ps) (putE o.dst K)) ∧ (g = false → putK σ o.dst false K .undef)
  | .makeSlice t l c => (g = true → effA T σ (.makeSlice t l c) (putE o.dst K)) ∧ (g = false → putK σ o.dst false K .undef)
  | op => pureA T σ g op (putK σ o.dst g K)

def opsA (P : Program) (T : Tab) : List SOp → (St → Prop) → St → Prop
  | [], K, σ => K σ
  | o :: rest, K, σ => guardA o σ (opG P T o (opsA P T rest K) σ)

/-- The state behind describes the frame and the world behind. -/
def After (T : Tab) (w0 : Base T) (outs : List (Array Value)) (K : St → Prop) (a' : Act) (w' : World) : Prop :=
  ∃ σ' F' ρ', K σ' ∧ a'.defers = [] ∧ Rel T w' F' ρ' w0 σ' a'.tmps outs

theorem pure_step (hP : TabOk P T) (hR : Rel T w F ρ w0 σ a.tmps outs) (hd : a.defers = []) {o : Oper} {g : Bool} {K : St → Prop} {N : Act → World → Prop} {Q : Exit → Act → World → Prop}
    (hN : ∀ a' w', After T w0 outs K a' w' → N a' w') (h : pureA T σ g o.op (putK σ o.dst g K)) : if g then o.wp P a w N Q else N (a.put o.dst undef) w := by
  obtain ⟨e, h1, h2⟩ := pureA_sound hP hR h
  cases g with
  | true =>
    obtain ⟨v, hv, hr⟩ := h2 rfl
    obtain ⟨σ', hK, hR', hd'⟩ := put_sound hR h1 (fun _ => hv) (by simp)
    simp only [if_true, Oper.wp, hr w (Below.refl _ _) o rfl, Oper.upon]
    exact hN _ _ ⟨σ', F, ρ, hK, hd'.trans hd, hR'⟩
  | false =>
    obtain ⟨σ', hK, hR', hd'⟩ := put_sound (v := undef) hR h1 (by simp) (fun _ => rfl)
    simp only [Bool.false_eq_true, if_false]
    exact hN _ _ ⟨σ', F, ρ, hK, hd'.trans hd, hR'⟩

theorem eff_step (hP : TabOk P T) (hR : Rel T w F ρ w0 σ a.tmps outs) (hd : a.defers = []) {o : Oper} {g : Bool} {K : St → Prop} {N : Act → World → Prop} {Q : Exit → Act → World → Prop}
    (hN : ∀ a' w', After T w0 outs K a' w' → N a' w') (h : (g = true → effA T σ o.op (putE o.dst K)) ∧ (g = false → putK σ o.dst false K .undef)) : if g then o.wp P a w N Q else N (a.put o.dst undef) w := by
  cases g with
  | true =>
    obtain ⟨σ', e, h1, w', F', ρ', v, nx, h2, h3, h4, h5, _⟩ := effA_sound hP hR (h.1 rfl)
    obtain ⟨σ'', hK, hR', hd'⟩ := put_sound h3 h1 (fun _ => h2) (by simp)
    rcases h4 with rfl | ⟨rfl, rfl⟩
    · simp only [if_true, Oper.wp, h5 o rfl, Oper.upon]
      exact hN _ _ ⟨σ'', F', ρ', hK, hd'.trans hd, hR'⟩
    · simp only [if_true, Oper.wp, h5 o rfl, Oper.upon]
      exact hN _ _ ⟨σ'', F', ρ', hK, hd'.trans hd, hR'⟩
  | false =>
    obtain ⟨σ', hK, hR', hd'⟩ := put_sound (v := undef) hR (h.2 rfl) (by simp) (fun _ => rfl)
    simp only [Bool.false_eq_true, if_false]
    exact hN _ _ ⟨σ', F, ρ, hK, hd'.trans hd, hR'⟩

theorem call_step (hR : Rel T w F ρ w0 σ a.tmps outs) (hd : a.defers = []) {o : Oper} {c : Call} {x : Operand} (ho : o.op = .call c) (hc : c.callee = .value x) {g : Bool} {K : St → Prop} {N : Act → World → Prop} {Q : Exit → Act → World → Prop}
    (hN : ∀ a' w', After T w0 outs K a' w' → N a' w') (h : CallStep P T σ g x c.args.toList o.dst K) : if g then o.wp P a w N Q else N (a.put o.dst undef) w := by
  obtain ⟨ef, h1, hf⟩ := evalO_sound hR h
  obtain ⟨es, h2, hes⟩ := evalL_sound hR h1
  obtain ⟨fid, caps, rfl, h3⟩ := h2
  clear h h1
  cases g with
  | true =>
    obtain ⟨cs, hx, hcs⟩ := hf rfl
    have hall := (hes rfl).append hcs
    rcases h3 with ⟨e, hq, hk⟩ | ⟨he, _⟩
    · obtain ⟨hE, hq⟩ := hq rfl
      obtain ⟨v, hv, hq⟩ := hq w0 w F ρ _ _ _ hR hall
      have hcall := hq w (Below.refl _ _)
      simp only [if_true, Oper.wp, run_call hE hc hx w o ho, Oper.upon]
      refine hcall.mono ?_
      rintro en w' ⟨rfl, hb⟩
      obtain ⟨σ', hK, hR', hd'⟩ := put_sound hR hk (fun _ => hv) (by simp)
      exact hN _ _ ⟨σ', F, ρ, hK, hd'.trans hd, hR'.later hb⟩
    · obtain ⟨hE, he⟩ := he rfl
      simp only [if_true, Oper.wp, run_call hE hc hx w o ho, Oper.upon]
      refine (he w0 w F ρ _ _ _ hR hall).mono ?_
      rintro en w' ⟨v, σ', e, F', ρ', rfl, hk, hv, hR'⟩
      obtain ⟨σ'', hK, hR'', hd'⟩ := put_sound hR' hk (fun _ => hv) (by simp)
      exact hN _ _ ⟨σ'', F', ρ', hK, hd'.trans hd, hR''⟩
  | false =>
    simp only [Bool.false_eq_true, if_false]
    rcases h3 with ⟨e, _, hk⟩ | ⟨_, he⟩
    · obtain ⟨σ', hK, hR', hd'⟩ := put_sound (v := undef) hR hk (by simp) (fun _ => rfl)
      exact hN _ _ ⟨σ', F, ρ, hK, hd'.trans hd, hR'⟩
    · obtain ⟨σ', hK, hR', hd'⟩ := put_sound (v := undef) hR (he rfl) (by simp) (fun _ => rfl)
      exact hN _ _ ⟨σ', F, ρ, hK, hd'.trans hd, hR'⟩

theorem opG_sound (hP : TabOk P T) (hR : Rel T w F ρ w0 σ a.tmps outs) (hd : a.defers = []) {o : Oper} {g : Bool} {K : St → Prop} {N : Act → World → Prop} {Q : Exit → Act → World → Prop}
    (hN : ∀ a' w', After T w0 outs K a' w' → N a' w') {ops : Array Oper} (h : opG P T (strip ops o) K σ g) : if g then o.wp P a w N Q else N (a.put o.dst undef) w := by
  unfold opG at h
  have hop : (strip ops o).op = o.op := rfl
  have hdst : (strip ops o).dst = o.dst := rfl
  rw [hop, hdst] at h
  split at h
  · rename_i c hc
    split at h
    · rename_i f hf
      exact call_step hR hd hc hf hN h
    · exact eff_step hP hR hd hN (by rw [hc]; exact h)
    · exact pure_step hP hR hd hN (by rw [hc]; exact h)
    · exact h.elim
  · rename_i hc; exact eff_step hP hR hd hN (by rw [hc]; exact h)
  · rename_i hc; exact eff_step hP hR hd hN (by rw [hc]; exact h)
  · rename_i hc; exact eff_step hP hR hd hN (by rw [hc]; exact h)
  · rename_i hc; exact eff_step hP hR hd hN (by rw [hc]; exact h)
  · rename_i hc; exact eff_step hP hR hd hN (by rw [hc]; exact h)
  · exact pure_step hP hR hd hN h

/-- Each guard looks at an operation that writes a slot. -/
def guardsOk (ops : Array Oper) : Bool := ops.toList.all fun o => match o.guard with | none => true | some (j, _) => ((ops[j]?).bind (·.dst)).isSome

theorem opsA_sound (hP : TabOk P T) {ops : Array Oper} (hg : guardsOk ops = true) {Q : Exit → Act → World → Prop} {K : St → Prop} (hQ : ∀ a' w', After T w0 outs K a' w' → Q .normal a' w') :
    ∀ (l : List Oper) (k : Nat), ops.toList.drop k = l → ∀ {σ : St} {a : Act} {w : World} {F : Nat → Prop} {ρ : Nat → RI}, Rel T w F ρ w0 σ a.tmps outs → a.defers = [] → opsA P T (l.map (strip ops)) K σ →
      wpOps P ops Q (List.range' k l.length) a w
  | [], k, _, σ, a, w, F, ρ, hR, hd, h => hQ a w ⟨σ, F, ρ, h, hd, hR⟩
  | o :: l, k, hk, σ, a, w, F, ρ, hR, hd, h => by
    have ho : ops[k]? = some o := by
      have : (ops.toList.drop k)[0]? = some o := by rw [hk]; rfl
      simpa using this
    have hk' : ops.toList.drop (k + 1) = l := by
      have := congrArg List.tail hk
      simpa using this
    simp only [List.length_cons, List.range'_succ, wpOps, ho]
    simp only [List.map_cons] at h
    unfold opsA at h
    have hgo := List.all_eq_true.1 hg o (by rw [← List.take_append_drop k ops.toList, hk]; simp)
    obtain ⟨g, h, hw⟩ := guardA_sound hR hgo h
    have := opG_sound (Q := Q) hP hR hd (N := wpOps P ops Q (List.range' (k + 1) l.length)) (fun a' w' ⟨σ', F', ρ', q1, q2, q3⟩ => opsA_sound hP hg hQ l (k + 1) hk' q3 q2 q1) h
    rw [hw]
    cases g with
    | true => exact .inl this
    | false => exact this

end Go.Eng
/- Code in the abstract state: its rules. -/
namespace Go.Eng
set_option linter.unusedSimpArgs false
set_option linter.unusedVariables false
open Go.RowKit

variable {P : Program} {T : Tab} {w w' : World} {w0 : Base T} {F F' : Nat → Prop} {ρ ρ' : Nat → RI} {σ σ' : St} {a : Act} {outs : List (Array Value)}

/-! ### Regions that draw their order -/

def CallStepQ (P : Program) (T : Tab) (σ : St) (g : Bool) (f : Operand) (args : List Operand) (d : Option Tmp) (K : St → Prop) : Prop :=
  evalO σ g f fun ef => evalL σ g args fun es => ∃ fid caps, ef = .fn fid caps ∧ ∃ e, (g = true → CallQ P T σ fid (es ++ caps) e) ∧ putK σ d g K e

def opQ (P : Program) (T : Tab) (o : SOp) (K : St → Prop) (σ : St) (g : Bool) : Prop := match o.op with
  | .call c => match c.callee with
    | .value f => CallStepQ P T σ g f c.args.toList o.dst K
    | .builtin _ => pureA T σ g (.call c) (putK σ o.dst g K)
    | _ => False
  | op => pureA T σ g op (putK σ o.dst g K)

def opsQ (P : Program) (T : Tab) : List SOp → (St → Prop) → St → Prop
  | [], K, σ => K σ
  | o :: rest, K, σ => guardA o σ (opQ P T o (opsQ P T rest K) σ)

theorem opsQ_sound (hP : TabOk P T) {ops : Array Oper} (hgo : guardsOk ops = true) {K : St → Prop} : ∀ (l : List Oper) {σ : St} {a : Act}, (∀ o ∈ l, o ∈ ops.toList) → Rel T w F ρ w0 σ a.tmps outs → a.defers = [] → opsQ P T (l.map (strip ops)) K σ →
    wpQuiet P ops (fun w' => Below w.heap.size w w') (fun a' => ∃ σ', K σ' ∧ a'.defers = [] ∧ Rel T w F ρ w0 σ' a'.tmps outs) l a
  | [], σ, a, _, hR, hd, h => ⟨σ, h, hd, hR⟩
  | o :: l, σ, a, hm, hR, hd, h => by
    simp only [List.map_cons] at h
    unfold opsQ at h
    obtain ⟨g, h, hg⟩ := guardA_sound hR (List.all_eq_true.1 hgo o (hm o (by simp))) h
    have hml : ∀ o ∈ l, o ∈ ops.toList := fun o ho => hm o (by simp [ho])
    have hop : (strip ops o).op = o.op := rfl
    have hdst : (strip ops o).dst = o.dst := rfl
    have pureCase : ∀ op, o.op = op → pureA T σ g op (putK σ o.dst g (opsQ P T (l.map (strip ops)) K)) → wpQuiet P ops (fun w' => Below w.heap.size w w') (fun a' => ∃ σ', K σ' ∧ a'.defers = [] ∧ Rel T w F ρ w0 σ' a'.tmps outs) (o :: l) a := by
      intro op hop hp
      obtain ⟨e, h1, h2⟩ := pureA_sound hP hR hp
      unfold wpQuiet
      rw [hg]
      cases g with
      | true =>
        obtain ⟨v, hv, hr⟩ := h2 rfl
        obtain ⟨σ', hK, hR', hd'⟩ := put_sound hR h1 (fun _ => hv) (by simp)
        refine ⟨v, fun W hW => ?_, opsQ_sound hP hgo l hml hR' (hd'.trans hd) hK⟩
        unfold Oper.quietAt
        rw [hr W hW o hop]
        exact ⟨rfl, rfl⟩
      | false =>
        obtain ⟨σ', hK, hR', hd'⟩ := put_sound (v := undef) hR h1 (by simp) (fun _ => rfl)
        exact opsQ_sound hP hgo l hml hR' (hd'.trans hd) hK
    unfold opQ at h
    rw [hop, hdst] at h
    split at h
    · rename_i c hc
      split at h
      · rename_i x hx
        obtain ⟨ef, h1, hf⟩ := evalO_sound hR h
        obtain ⟨es, h2, hes⟩ := evalL_sound hR h1
        obtain ⟨fid, caps, rfl, e, hq, hk⟩ := h2
        unfold wpQuiet
        rw [hg]
        cases g with
        | true =>
          obtain ⟨cs, hxv, hcs⟩ := hf rfl
          have hall := (hes rfl).append hcs
          obtain ⟨hE, hq⟩ := hq rfl
          obtain ⟨v, hv, hq⟩ := hq w0 w F ρ _ _ _ hR hall
          obtain ⟨σ', hK, hR', hd'⟩ := put_sound hR hk (fun _ => hv) (by simp)
          refine ⟨v, fun W hW => ?_, opsQ_sound hP hgo l hml hR' (hd'.trans hd) hK⟩
          unfold Oper.quietAt
          rw [run_call hE hx hxv W o hc]
          refine ⟨rfl, (hq W hW).mono ?_⟩
          rintro en w'' ⟨rfl, hb⟩
          exact ⟨rfl, hW.trans (hb.mono hW.size)⟩
        | false =>
          obtain ⟨σ', hK, hR', hd'⟩ := put_sound (v := undef) hR hk (by simp) (fun _ => rfl)
          exact opsQ_sound hP hgo l hml hR' (hd'.trans hd) hK
      · exact pureCase _ hc h
      · exact h.elim
    · exact pureCase _ rfl h

/-! ### Code -/

/-- From an abstract state code comes to ends in abstract states of which K holds. -/
def SA (P : Program) (T : Tab) (c : Code) (K : Exit → St → Prop) (σ : St) : Prop :=
  ∀ (w0 : Base T) (w : World) (F : Nat → Prop) (ρ : Nat → RI) (a : Act) (outs : List (Array Value)), a.defers = [] → Rel T w F ρ w0 σ a.tmps outs → c.wp P (fun ex a' w' => After T w0 outs (K ex) a' w') a w

def thenK (P : Program) (T : Tab) (y : Code) (K : Exit → St → Prop) : Exit → St → Prop
  | .normal, σ => SA P T y K σ
  | e, σ => K e σ

def blockK (id : Nat) (K : Exit → St → Prop) : Exit → St → Prop
  | .exit id', σ => if id' = id then K .normal σ else K (.exit id') σ
  | e, σ => K e σ

theorem SA.skip {K : Exit → St → Prop} (h : K .normal σ) : SA P T .skip K σ := fun _ _ _ _ _ _ hd hR => wp_skip ⟨σ, _, _, h, hd, hR⟩
theorem SA.exit {id : Nat} {K : Exit → St → Prop} (h : K (.exit id) σ) : SA P T (.exit id) K σ := fun _ _ _ _ _ _ hd hR => wp_exit ⟨σ, _, _, h, hd, hR⟩
theorem SA.ret {K : Exit → St → Prop} (h : K .ret σ) : SA P T .ret K σ := fun _ _ _ _ _ _ hd hR => wp_ret ⟨σ, _, _, h, hd, hR⟩

theorem SA.seq {x y : Code} {K : Exit → St → Prop} (h : SA P T x (thenK P T y K) σ) : SA P T (.seq x y) K σ := by
  intro w0 w F ρ a outs hd hR
  refine wp_seq (wp_mono (h w0 w F ρ a outs hd hR) ?_)
  rintro ex a' w' ⟨σ', F', ρ', hK, hd', hR'⟩
  cases ex with
  | normal => exact hK w0 w' F' ρ' a' outs hd' hR'
  | _ => exact ⟨σ', F', ρ', hK, hd', hR'⟩

theorem SA.block {id : Nat} {c : Code} {K : Exit → St → Prop} (h : SA P T c (blockK id K) σ) : SA P T (.block id c) K σ := by
  intro w0 w F ρ a outs hd hR
  refine wp_block (wp_mono (h w0 w F ρ a outs hd hR) ?_)
  rintro ex a' w' ⟨σ', F', ρ', hK, hd', hR'⟩
  cases ex with
  | exit id' =>
    simp only [blockK] at hK
    unfold Exit.inBlock
    split at hK
    · rename_i hid; simp only [hid, if_true]; exact ⟨σ', F', ρ', hK, hd', hR'⟩
    · rename_i hid; simp only [hid, if_false]; exact ⟨σ', F', ρ', hK, hd', hR'⟩
  | _ => exact ⟨σ', F', ρ', hK, hd', hR'⟩

theorem SA.cond {t : Tmp} {b : Bool} {x y : Code} {K : Exit → St → Prop} (hb : σ.tm.lookup t = some (true, .bool b)) (ht : b = true → SA P T x K σ) (hf : b = false → SA P T y K σ) : SA P T (.cond (.tmp t) x y) K σ := by
  intro w0 w F ρ a outs hd hR
  obtain ⟨v, h1, h2, _⟩ := hR.tm _ _ _ hb
  have hv : v = .bool b := h2 rfl
  subst hv
  have he : a.eval (.tmp t) = .bool b := by simp [Act.eval, h1]
  exact wp_cond_split he (fun hb => ht hb w0 w F ρ a outs hd hR) (fun hb => hf hb w0 w F ρ a outs hd hR)

theorem thenK.normal {y : Code} {K : Exit → St → Prop} (h : SA P T y K σ) : thenK P T y K .normal σ := h
theorem thenK.exit {y : Code} {K : Exit → St → Prop} {i : Nat} (h : K (.exit i) σ) : thenK P T y K (.exit i) σ := h
theorem thenK.ret {y : Code} {K : Exit → St → Prop} (h : K .ret σ) : thenK P T y K .ret σ := h
theorem blockK.normal {id : Nat} {K : Exit → St → Prop} (h : K .normal σ) : blockK id K .normal σ := h
theorem blockK.hit {id : Nat} {K : Exit → St → Prop} (h : K .normal σ) : blockK id K (.exit id) σ := by simp only [blockK, if_true]; exact h
theorem blockK.miss {id i : Nat} {K : Exit → St → Prop} (hne : i ≠ id) (h : K (.exit i) σ) : blockK id K (.exit i) σ := by simp only [blockK, if_neg hne]; exact h
theorem blockK.ret {id : Nat} {K : Exit → St → Prop} (h : K .ret σ) : blockK id K .ret σ := h

/-- Only some slots are remembered. -/
def St.keep (lv : List Nat) (σ : St) : St := { σ with tm := lv.filterMap fun t => (σ.tm.lookup t).map fun x => (t, x) }

theorem lookup_keep (tm : Tm) : ∀ (lv : List Nat) (t : Nat) (x : Bool × E), (lv.filterMap fun t => (tm.lookup t).map fun x => (t, x)).lookup t = some x → tm.lookup t = some x
  | [], t, x, h => by simp at h
  | s :: lv, t, x, h => by
    simp only [List.filterMap_cons] at h
    cases hs : tm.lookup s with
    | none => rw [hs] at h; exact lookup_keep tm lv t x h
    | some y =>
      rw [hs] at h
      simp only [Option.map_some, List.lookup_cons] at h
      by_cases hts : t = s
      · subst hts
        simp at h
        rw [hs, h]
      · have : (t == s) = false := by simpa using hts
        rw [this] at h
        exact lookup_keep tm lv t x h

theorem Rel.keep {tmps : Array Value} (h : Rel T w F ρ w0 σ tmps outs) (lv : List Nat) : Rel T w F ρ w0 (σ.keep lv) tmps outs :=
  ⟨fun t g e he => h.tm t g e (lookup_keep _ _ _ _ he), h.out, h.ob, h.free, h.inj, h.fsub, h.below, h.size, h.fold⟩

theorem quiet_mono {ops : Array Oper} {C : World → Prop} {Q Q' : Act → Prop} (h : ∀ a, Q a → Q' a) : ∀ (l : List Oper) (a : Act), wpQuiet P ops C Q l a → wpQuiet P ops C Q' l a
  | [], a, hq => h a hq
  | o :: l, a, hq => by
    unfold wpQuiet at hq ⊢
    split
    · rename_i hw
      rw [if_pos hw] at hq
      exact Oper.quiet_mono (quiet_mono h l) hq
    · rename_i hw
      rw [if_neg hw] at hq
      exact quiet_mono h l _ hq

theorem SA.region {id : Nat} {ops : Array Oper} (hP : TabOk P T) (hg : guardsOk ops = true) (lv : List Nat) {K : Exit → St → Prop} (h : ∀ R : St → Prop, (∀ σ', K .normal (σ'.keep lv) → R σ') → opsA P T (ops.toList.map (strip ops)) R σ) : SA P T (.region id ops false) K σ := by
  intro w0 w F ρ a outs hd hR
  refine wp_region ?_
  rw [List.range_eq_range']
  have := h (fun σ' => K .normal (σ'.keep lv)) (fun _ x => x)
  refine opsA_sound (outs := outs) hP hg ?_ ops.toList 0 rfl hR hd this
  rintro a' w' ⟨σ', F', ρ', hK, hd', hR'⟩
  exact ⟨_, F', ρ', hK, hd', hR'.keep lv⟩

theorem SA.regionQ {id : Nat} {ops : Array Oper} (hP : TabOk P T) (hm : P.follows .mixedOrders = true) (hB : Region.lexB .any ops = true) (hg : guardsOk ops = true) (lv : List Nat) {K : Exit → St → Prop}
    (h : ∀ R : St → Prop, (∀ σ', K .normal (σ'.keep lv) → R σ') → opsQ P T (ops.toList.map (strip ops)) R σ) : SA P T (.region id ops true) K σ := by
  intro w0 w F ρ a outs hd hR
  have := h (fun σ' => K .normal (σ'.keep lv)) (fun _ x => x)
  refine wp_region_quiet (C := fun w' => Below w.heap.size w w') hm hB ((Below.refl _ _).drew) ?_
  refine quiet_mono ?_ _ _ (opsQ_sound (outs := outs) hP hg ops.toList (fun _ h => h) hR hd this)
  rintro a' ⟨σ', hK, hd', hR'⟩ w' hw'
  exact ⟨_, F, ρ, hK, hd', (hR'.later hw').keep lv⟩

/-- What a state says, another one says too. -/
def St.le (T : Tab) (σ σ' : St) : Prop := ∀ w F ρ w0 tmps outs, Rel T w F ρ w0 σ tmps outs → ∃ F' ρ', Rel T w F' ρ' w0 σ' tmps outs

theorem St.le.refl : St.le T σ σ := fun _ F ρ _ _ _ h => ⟨F, ρ, h⟩
theorem St.le.trans {σ'' : St} (h : St.le T σ σ') (h' : St.le T σ' σ'') : St.le T σ σ'' := fun w F ρ w0 tmps outs hR => let ⟨F', ρ', hR'⟩ := h w F ρ w0 tmps outs hR; h' w F' ρ' w0 tmps outs hR'
theorem St.le.keep (lv : List Nat) : St.le T σ (σ.keep lv) := fun _ F ρ _ _ _ h => ⟨F, ρ, h.keep lv⟩

theorem exists_least (p : Nat → Prop) (h : ∃ n, p n) : ∃ n, p n ∧ ∀ m, p m → n ≤ m := by
  obtain ⟨n, hn⟩ := h
  induction n using Nat.strongRecOn with
  | _ n ih =>
    by_cases hm : ∃ m, m < n ∧ p m
    · obtain ⟨m, h1, h2⟩ := hm
      exact ih m h1 h2
    · exact ⟨n, hn, fun m hp => Nat.le_of_not_lt fun hlt => hm ⟨m, hlt, hp⟩⟩

/-- The end of a round. -/
def loopK (T : Tab) (I : Nat → St → Prop) (n : Nat) (K : Exit → St → Prop) : Exit → St → Prop
  | .normal, σ => ∃ m σ', m < n ∧ St.le T σ σ' ∧ I m σ'
  | e, σ => K e σ

theorem loopK.normal {I : Nat → St → Prop} {n : Nat} {K : Exit → St → Prop} (m : Nat) (σ' : St) (hm : m < n) (hl : St.le T σ σ') (h : I m σ') : loopK T I n K .normal σ := ⟨m, σ', hm, hl, h⟩
theorem loopK.exit {I : Nat → St → Prop} {n : Nat} {K : Exit → St → Prop} {i : Nat} (h : K (.exit i) σ) : loopK T I n K (.exit i) σ := h
theorem loopK.ret {I : Nat → St → Prop} {n : Nat} {K : Exit → St → Prop} (h : K .ret σ) : loopK T I n K .ret σ := h

/-- A loop, by an invariant that a number bounds. -/
theorem SA.loop {c : Code} {K : Exit → St → Prop} (I : Nat → St → Prop) (n : Nat) (h0 : I n σ)
    (round : ∀ n σ, I n σ → SA P T c (loopK T I n K) σ) : SA P T (.loop c) K σ := by
  classical
  intro w0 w F ρ a outs hd hR
  let Inv : Nat → Act → World → Prop := fun n a w => ∃ σ F ρ, I n σ ∧ a.defers = [] ∧ Rel T w F ρ w0 σ a.tmps outs
  let μ : Act → World → Nat := fun a w => if h : ∃ n, Inv n a w then Classical.choose (exists_least (fun n => Inv n a w) h) else 0
  have hμ : ∀ a w, (∃ n, Inv n a w) → Inv (μ a w) a w ∧ ∀ n, Inv n a w → μ a w ≤ n := by
    intro a w h
    have hs := Classical.choose_spec (exists_least (fun n => Inv n a w) h)
    have e : μ a w = Classical.choose (exists_least (fun n => Inv n a w) h) := dif_pos h
    rw [e]
    exact hs
  refine wp_loop (fun a w => ∃ n, Inv n a w) μ ⟨n, σ, F, ρ, h0, hd, hR⟩ ?_
  intro a w hI
  obtain ⟨⟨σ1, F1, ρ1, h1, h2, h3⟩, hmin⟩ := hμ a w hI
  refine wp_mono (round (μ a w) σ1 h1 w0 w F1 ρ1 a outs h2 h3) ?_
  rintro ex a' w' ⟨σ', F', ρ', hK, hd', hR'⟩
  cases ex with
  | normal =>
    obtain ⟨m, σ'', hm, hl, hI'⟩ := hK
    obtain ⟨F2, ρ2, hR2⟩ := hl w' F' ρ' w0 a'.tmps outs hR'
    have hx : ∃ n, Inv n a' w' := ⟨m, σ'', F2, ρ2, hI', hd', hR2⟩
    exact ⟨hx, Nat.lt_of_le_of_lt ((hμ a' w' hx).2 m ⟨σ'', F2, ρ2, hI', hd', hR2⟩) hm⟩
  | _ => exact ⟨σ', F', ρ', hK, hd', hR'⟩

theorem SA.weaken {c : Code} {K : Exit → St → Prop} (hl : St.le T σ σ') (h : SA P T c K σ') : SA P T c K σ := by
  intro w0 w F ρ a outs hd hR
  obtain ⟨F', ρ', hR'⟩ := hl w F ρ w0 a.tmps outs hR
  exact h w0 w F' ρ' a outs hd hR'

theorem SA.mono {c : Code} {K K' : Exit → St → Prop} (h : SA P T c K σ) (hk : ∀ ex σ, K ex σ → K' ex σ) : SA P T c K' σ := by
  intro w0 w F ρ a outs hd hR
  refine wp_mono (h w0 w F ρ a outs hd hR) ?_
  rintro ex a' w' ⟨σ', F', ρ', hK, hd', hR'⟩
  exact ⟨σ', F', ρ', hk _ _ hK, hd', hR'⟩

/-! ### Results -/

def resA (T : Tab) (σ : St) : List ResultVar → (List E → Prop) → Prop
  | [], K => K []
  | .tmp t :: rs, K => evalO σ true (.tmp t) fun e => resA T σ rs fun es => K (e :: es)
  | .cell p t :: rs, K => evalO σ true (.tmp p) fun ep => loadA T σ true t ep fun e => resA T σ rs fun es => K (e :: es)

def outE : List E → E
  | [e] => e
  | es => .tup es

def outV : List Value → Value
  | [v] => v
  | vs => .tuple vs.toArray

theorem outE_rel {es : List E} {vs : List Value} (h : ERelL T w F ρ es vs) : ERel T w F ρ (outE es) (outV vs) := by
  match es, vs, h with
  | [], [], h => exact ⟨[], rfl, h⟩
  | [e], [v], h => exact h.1
  | e :: e' :: es, v :: v' :: vs, h => exact ⟨_, rfl, h⟩

def readRes (tmps : Array Value) : ResultVar → Sem Value
  | .tmp t => pure (tmps.getD t undef)
  | .cell p t => do loadVar t (← asAddr (tmps.getD p undef))

theorem run_results {fn : Func} {tmps : Array Value} {vs : List Value} (h : (fn.results.toList.mapM (readRes tmps)).run P w = .ok vs w) : (results fn tmps).run P w = .ok (outV vs) w := by
  have h' : (fn.results.mapM (readRes tmps)).run P w = .ok vs.toArray w := by
    rw [Array.mapM_eq_mapM_toList, Sem.run_map, h]; rfl
  have hr : results fn tmps = (do let vs ← fn.results.mapM (readRes tmps); pure (if h : vs.size = 1 then vs[0] else .tuple vs)) := by
    unfold results
    congr 1
  rw [hr, Sem.run_bind, h']
  match vs with
  | [] => rfl
  | [v] => rfl
  | v :: v' :: vs => simp [outV]

theorem resA_sound (hP : TabOk P T) (hR : Rel T w F ρ w0 σ a.tmps outs) : ∀ {rs : List ResultVar} {K : List E → Prop}, resA T σ rs K →
    ∃ es vs, K es ∧ ERelL T w F ρ es vs ∧ (rs.mapM (readRes a.tmps)).run P w = .ok vs w
  | [], K, h => ⟨[], [], h, trivial, by simp⟩
  | .tmp t :: rs, K, h => by
    obtain ⟨e, h, he⟩ := evalO_sound hR h
    obtain ⟨es, vs, h1, h2, h3⟩ := resA_sound hP hR h
    have he' := he rfl
    simp only [Act.eval] at he'
    refine ⟨e :: es, a.tmps.getD t undef :: vs, h1, ⟨he', h2⟩, ?_⟩
    rw [List.mapM_cons, Sem.run_bind]
    simp only [readRes, Sem.run_pure, Result.andThen_ok, Sem.run_bind, h3]
  | .cell p t :: rs, K, h => by
    obtain ⟨ep, h, hp⟩ := evalO_sound hR h
    obtain ⟨e, h, hy⟩ := loadA_sound (P := P) (x := .tmp p) hP hR hp h
    obtain ⟨es, vs, h1, h2, h3⟩ := resA_sound hP hR h
    obtain ⟨v, hv, hr⟩ := hy rfl
    refine ⟨e :: es, v :: vs, h1, ⟨hv, h2⟩, ?_⟩
    have hr' := hr w (Below.refl _ _) { dst := none, op := .load t (.tmp p), type := 0, pos := "", after := #[], guard := none } rfl
    have hload : (do loadVar t (← asAddr (a.tmps.getD p undef)) : Sem Value).run P w = .ok v w := by
      have hev : a.eval (.tmp p) = a.tmps.getD p undef := rfl
      simp only [execOp, Instr.loadAt, hev] at hr'
      generalize a.tmps.getD p undef = q at hr' ⊢
      cases q with
      | pointer x =>
        cases x with
        | none => simp [Instr.sureAddr, stuck] at hr'
        | some ad =>
          simp [Instr.sureAddr, asAddr] at hr' ⊢
          generalize (loadVar t ad).run P w = r at hr' ⊢
          cases r with
          | ok y w' => simp at hr'; obtain ⟨rfl, rfl⟩ := hr'; rfl
          | halt x w' => simp [Result.andThen] at hr'
      | _ => simp [Instr.sureAddr, stuck] at hr'
    have hload' : (readRes a.tmps (.cell p t)).run P w = .ok v w := hload
    rw [List.mapM_cons, Sem.run_bind, hload']
    simp only [Result.andThen_ok, Sem.run_bind, h3, Sem.run_pure]

end Go.Eng
/- Functions: calls that are entered, contracts, and calls by contract. -/
namespace Go.Eng
set_option linter.unusedSimpArgs false
set_option linter.unusedVariables false
open Go.RowKit

variable {P : Program} {T : Tab} {w w' : World} {w0 : Base T} {F F' : Nat → Prop} {ρ ρ' : Nat → RI} {σ σ' : St} {a : Act} {outs : List (Array Value)}

def args0 (k : Nat) : List E → Tm
  | [] => []
  | e :: es => (k, true, e) :: args0 (k + 1) es

theorem lookup_args0 : ∀ (es : List E) (k t : Nat) (g : Bool) (e : E), (args0 k es).lookup t = some (g, e) → k ≤ t ∧ g = true ∧ es[t - k]? = some e
  | [], k, t, g, e, h => by simp [args0] at h
  | x :: es, k, t, g, e, h => by
    simp only [args0, List.lookup_cons] at h
    by_cases ht : t = k
    · subst ht
      simp at h
      obtain ⟨rfl, rfl⟩ := h
      simp
    · have : (t == k) = false := by simpa using ht
      rw [this] at h
      obtain ⟨h1, h2, h3⟩ := lookup_args0 es (k + 1) t g e h
      refine ⟨by omega, h2, ?_⟩
      rw [show t - k = (t - (k + 1)) + 1 by omega, List.getElem?_cons_succ]
      exact h3

theorem ERelL.nth : ∀ {l : List E} {vs : List Value} {k : Nat} {y : E}, ERelL T w F ρ l vs → l[k]? = some y → ∃ v, vs[k]? = some v ∧ ERel T w F ρ y v
  | [], _, _, _, _, h => by simp at h
  | e :: l, [], _, _, hr, _ => hr.elim
  | e :: l, v :: vs, 0, y, hr, h => by simp at h; subst h; exact ⟨v, rfl, hr.1⟩
  | e :: l, v :: vs, k + 1, y, hr, h => by
    obtain ⟨u, h1, h2⟩ := ERelL.nth (l := l) (vs := vs) (k := k) (y := y) hr.2 (by simpa using h)
    exact ⟨u, by simpa using h1, h2⟩

theorem ERelL.lens : ∀ {l : List E} {vs : List Value}, ERelL T w F ρ l vs → l.length = vs.length
  | [], [], _ => rfl
  | _ :: _, _ :: _, ⟨_, h⟩ => by simp [ERelL.lens h]
  | [], _ :: _, h => h.elim
  | _ :: _, [], h => h.elim

/-- The state in which a function's body begins. -/
def enter (σ : St) (es : List E) (n : Nat) : St := { tm := args0 0 es, ob := σ.ob, out := σ.tm :: σ.out, nt := n }

theorem args_tm {es : List E} {xs : List Value} (h : ERelL T w F ρ es xs) (n : Nat) : TmRel T w F ρ (args0 0 es) (xs.toArray ++ Array.replicate n undef) := by
  intro t g e he
  obtain ⟨_, rfl, h2⟩ := lookup_args0 es 0 t g e he
  obtain ⟨v, h3, h4⟩ := h.nth h2
  have hlt := (List.getElem?_eq_some_iff.1 h3).1
  refine ⟨v, ?_, fun _ => h4, by simp⟩
  simp only [Nat.sub_zero] at h3 hlt
  rw [Array.getElem?_append_left (by simpa using hlt)]
  simpa using h3

theorem Rel.enter {tmps : Array Value} (hR : Rel T w F ρ w0 σ tmps outs) {es : List E} {xs : List Value} (h : ERelL T w F ρ es xs) {n : Nat} (hn : es.length ≤ n) :
    Rel T w F ρ w0 (Eng.enter σ es n) (xs.toArray ++ Array.replicate (n - xs.toArray.size) undef) (tmps :: outs) := by
  have hl := h.lens
  exact ⟨args_tm h _, ⟨hR.tm, hR.out⟩, hR.ob, hR.free, hR.inj, hR.fsub, hR.below, by simp [Eng.enter]; omega, hR.fold⟩

/-- Back to the caller. -/
def backK (σ : St) (K : St → E → Prop) (σ' : St) (es : List E) : Prop := match σ'.out with
  | tm :: out => K { tm := tm, ob := σ'.ob, out := out, nt := σ.nt } (outE es)
  | [] => False

def bodyK (T : Tab) (rs : List ResultVar) (σ : St) (K : St → E → Prop) (ex : Exit) (σ' : St) : Prop := (ex = .normal ∨ ex = .ret) ∧ resA T σ' rs (backK σ K σ')

theorem bodyK.normal {rs : List ResultVar} {K : St → E → Prop} (h : resA T σ' rs (backK σ K σ')) : bodyK T rs σ K .normal σ' := ⟨.inl rfl, h⟩
theorem bodyK.ret {rs : List ResultVar} {K : St → E → Prop} (h : resA T σ' rs (backK σ K σ')) : bodyK T rs σ K .ret σ' := ⟨.inr rfl, h⟩

theorem enters_of {f : FuncId} {fn : Func} (hf : P.funcs[f]? = some fn) (hb : fn.body.isNone = false) (hn : (fn.name == "runtime.NumGoroutine") = false) : Enters P f := by
  intro args w
  have h1 : ¬ fn.name = "runtime.NumGoroutine" := by simpa using hn
  have h2 : ¬ fn.body = none := by intro h; rw [h] at hb; cases hb
  simp [callFunc, run_program, hf, h1, h2]

theorem leave_sound (hP : TabOk P T) {fn : Func} {R : Ending → World → Prop} {ex : Exit} {K : List E → Prop} {a' : Act} (hR : Rel T w F ρ w0 σ' a'.tmps outs) (hd : a'.defers = []) (hex : ex = .normal ∨ ex = .ret)
    (h : resA T σ' fn.results.toList K) (hK : ∀ es vs, K es → ERelL T w F ρ es vs → R (.returned (outV vs)) w) : bodyPost P fn R ex a' w := by
  obtain ⟨es, vs, h1, h2, h3⟩ := resA_sound hP hR h
  have := run_results (fn := fn) h3
  rcases hex with rfl | rfl
  · exact ⟨hd, _, this, hK es vs h1 h2⟩
  · exact ⟨hd, _, this, hK es vs h1 h2⟩

/-- A call that is entered. -/
theorem CallE.body (hP : TabOk P T) {f : FuncId} {fn : Func} {c : Code} {es : List E} {K : St → E → Prop} (hf : P.funcs[f]? = some fn) (hb : fn.body = some c) (hname : (fn.name == "runtime.NumGoroutine") = false) (n : Nat) (hnt : fn.ntmps = n) (rs : List ResultVar) (hrs : fn.results.toList = rs) (hn : es.length ≤ n)
    (h : SA P T c (bodyK T rs σ K) (enter σ es n)) : CallE P T σ f es K := by
  subst hnt hrs
  refine ⟨enters_of hf (by rw [hb]; rfl) hname, ?_⟩
  intro w0 w F ρ tmps outs xs hR hx
  refine calls_of_wp hf hb ?_
  have hR' := hR.enter hx hn
  refine wp_mono (h w0 w F ρ { tmps := xs.toArray ++ Array.replicate (fn.ntmps - xs.toArray.size) undef, defers := [] } (tmps :: outs) rfl hR') ?_
  rintro ex a' w' ⟨σ', F', ρ', ⟨hex, hr⟩, hd', hR''⟩
  refine leave_sound hP hR'' hd' hex hr ?_
  intro es' vs hb' he'
  unfold backK at hb'
  cases ho : σ'.out with
  | nil => rw [ho] at hb'; exact hb'.elim
  | cons tm out =>
    rw [ho] at hb'
    have hout := hR''.out
    rw [ho] at hout
    exact ⟨_, _, _, F', ρ', rfl, hb', outE_rel he', ⟨hout.1, hout.2, hR''.ob, hR''.free, hR''.inj, hR''.fsub, hR''.below, hR.size, hR''.fold⟩⟩

/-! ### Contracts -/

def ArgsFit (T : Tab) (w : World) (F : Nat → Prop) : List TypeId → List V → List Value → Prop
  | [], [], [] => True
  | t :: ts, v :: vs, x :: xs => (Fits T w F t v x.cells.toList ∧ ValOf T t x x.cells.toList) ∧ ArgsFit T w F ts vs xs
  | _, _, _ => False

/-- A result: a slice is a row of its own in new memory; all else is flat data. -/
def ResFit (T : Tab) (w : World) (n0 : Nat) (t : TypeId) (v : V) (y : Value) : Prop := match T.ty t with
  | .slice e => ∃ l zs, v = .list l ∧ flatTy T 20 e = true ∧ w.ownsRow n0 e (T.sz e) y l.length zs ∧ FitsL T w (fun _ => False) (List.replicate l.length e) l zs
  | _ => flatTy T 20 t = true ∧ Fits T w (fun _ => False) t v y.cells.toList ∧ ValOf T t y y.cells.toList

def ResFits (T : Tab) (w : World) (n0 : Nat) : List TypeId → List V → List Value → Prop
  | [], [], [] => True
  | t :: ts, v :: vs, y :: ys => ResFit T w n0 t v y ∧ (∀ b, y.ownBlock = some b → ∀ y' ∈ ys, y'.ownBlock ≠ some b) ∧ ResFits T w n0 ts vs ys
  | _, _, _ => False

/-- A function's contract: called with arguments that read as vs it returns what reads as rs, in new memory, and leaves all that was there as it was. -/
def Ctr (P : Program) (T : Tab) (f : FuncId) (pts rts : List TypeId) (vs rs : List V) : Prop :=
  Enters P f ∧ ∀ (w : World) (F : Nat → Prop) (xs : List Value), (∀ b, F b → b < w.heap.size) → T.glob w → ArgsFit T w F pts vs xs →
    Calls P f xs.toArray w fun en w' => ∃ ys, en = .returned (outV ys) ∧ Below w.heap.size w w' ∧ ResFits T w' w.heap.size rts rs ys

def fromVs (T : Tab) : List TypeId → List V → List E
  | t :: ts, v :: vs => fromV T t v :: fromVs T ts vs
  | _, _ => []

theorem fromVs_rel : ∀ {ts : List TypeId} {vs : List V} {xs : List Value}, ArgsFit T w F ts vs xs → ERelL T w F ρ (fromVs T ts vs) xs
  | [], [], [], _ => trivial
  | _ :: _, _ :: _, _ :: _, ⟨⟨h1, h2⟩, h⟩ => ⟨fromV_rel h1 h2, fromVs_rel h⟩
  | [], [], _ :: _, h => h.elim
  | [], _ :: _, _, h => h.elim
  | _ :: _, [], _, h => h.elim
  | _ :: _, _ :: _, [], h => h.elim

/-- Flat data hangs on no memory. -/
theorem Fits.flat : ∀ (d : Nat) {t : TypeId} {v : V} {cs : List Value}, flatTy T d t = true → Fits T w F t v cs → Fits T w' F' t v cs := by
  intro d
  induction d using Nat.strongRecOn with
  | _ d ih =>
    intro t v cs hf h
    cases d with
    | zero => simp [flatTy] at hf
    | succ d =>
      unfold flatTy at hf
      split at hf
      · rename_i k hk; obtain ⟨n, rfl, h1, rfl⟩ := h.inv' hk; exact .int hk h1
      · rename_i hk; obtain ⟨b, rfl, rfl⟩ := h.inv' hk; exact .bool hk
      · rename_i hk; obtain ⟨s, rfl, rfl⟩ := h.inv' hk; exact .str hk
      · rename_i ts hk
        obtain ⟨l, rfl, hl⟩ := h.inv' hk
        refine .struct hk ?_
        have key : ∀ (ts : List TypeId) (l : List V) (cs : List Value), (∀ t ∈ ts, ∃ d', d' < d + 1 ∧ flatTy T d' t = true) → FitsL T w F ts l cs → FitsL T w' F' ts l cs := by
          intro ts
          induction ts with
          | nil => intro l cs _ h; cases h; exact .nil
          | cons t ts iht =>
            intro l cs hall h
            cases h with
            | cons h1 h2 =>
              obtain ⟨d', hd', hf'⟩ := hall t (by simp)
              exact .cons (ih d' hd' hf' h1) (iht _ _ (fun u hu => hall u (by simp [hu])) h2)
        refine key ts l cs (fun u hu => ?_) hl
        obtain ⟨k, hk'⟩ := List.mem_iff_getElem?.1 hu
        obtain ⟨d', h1, h2⟩ := flatTys_nth hf hk'
        exact ⟨d', by omega, h2⟩
      · rename_i n e hk
        obtain ⟨l, rfl, hl⟩ := h.inv' hk
        refine .arr hk ?_
        have key : ∀ (ts : List TypeId) (l : List V) (cs : List Value), (∀ t ∈ ts, t = e) → FitsL T w F ts l cs → FitsL T w' F' ts l cs := by
          intro ts
          induction ts with
          | nil => intro l cs _ h; cases h; exact .nil
          | cons t ts iht =>
            intro l cs hall h
            cases h with
            | cons h1 h2 =>
              obtain rfl := hall t (by simp)
              exact .cons (ih d (by omega) hf h1) (iht _ _ (fun u hu => hall u (by simp [hu])) h2)
        exact key _ l cs (fun u hu => (List.mem_replicate.1 hu).2) hl
      · cases hf

theorem FitsL.flat {e : TypeId} (he : flatTy T 20 e = true) : ∀ {n : Nat} {l : List V} {cs : List Value}, FitsL T w F (List.replicate n e) l cs → FitsL T w' F' (List.replicate n e) l cs
  | 0, _, _, h => by cases h; exact .nil
  | n + 1, _, _, h => by
    rw [List.replicate_succ] at h ⊢
    cases h with
    | cons h1 h2 => exact .cons (h1.flat 20 he) (FitsL.flat he h2)

/-- What a body hands back, as results of its contract. -/
def resV (T : Tab) (σ : St) : List TypeId → List E → List V → Prop
  | [], [], [] => True
  | t :: ts, e :: es, v :: vs => (match T.ty t with
      | .slice el => flatTy T 20 el = true ∧ (match e with
        | .sl i e' lo n c => e' = el ∧ lo = 0 ∧ c = false ∧ (match σ.ob[i]? with
          | some (.row _ l) => v = .list (l.take n)
          | _ => False) ∧ (∀ e'' ∈ es, ∀ j u lo n c, e'' = .sl j u lo n c → j ≠ i)
        | .nilsl => v = .list []
        | _ => False)
      | _ => flatTy T 20 t = true ∧ toV T t e = some v) ∧ resV T σ ts es vs
  | _, _, _ => False

theorem sl_block {i : Nat} {e : TypeId} {lo n : Nat} {c : Bool} {y : Value} (h : ERel T w F ρ (.sl i e lo n c) y) {b : Nat} (hb : y.ownBlock = some b) : (ρ i).block = some b := by
  rcases h with ⟨_, rfl, _⟩ | ⟨b', m, cap, off, h1, _, _, rfl, _⟩
  · simp [Value.ownBlock] at hb
  · simp [Value.ownBlock] at hb
    subst hb
    rw [h1]; rfl

theorem flat_notSlice {t : TypeId} {y : Value} {cs : List Value} {v : V} (hf : flatTy T 20 t = true) (h : Fits T w F t v cs) (hv : ValOf T t y cs) : y.ownBlock = none := by
  unfold ValOf at hv
  split at hv
  · subst hv; rfl
  · rename_i hA
    have h1 := h.inv
    unfold flatTy at hf
    split at hf
    · rename_i k hk; rw [hk] at h1; obtain ⟨n, _, _, rfl⟩ := h1; simp at hv; subst hv; rfl
    · rename_i hk; rw [hk] at h1; obtain ⟨n, _, rfl⟩ := h1; simp at hv; subst hv; rfl
    · rename_i hk; rw [hk] at h1; obtain ⟨n, _, rfl⟩ := h1; simp at hv; subst hv; rfl
    · rename_i ts hk; simp [hk, TyD.isAgg] at hA
    · rename_i n e hk; simp [hk, TyD.isAgg] at hA
    · cases hf

theorem resV_sound (hS : T.Sized) {tmps : Array Value} (hR : Rel T w F ρ w0 σ tmps outs) : ∀ {ts : List TypeId} {es : List E} {vs : List V} {ys : List Value}, resV T σ ts es vs → ERelL T w F ρ es ys → ResFits T w w0.w.heap.size ts vs ys
  | [], [], [], [], _, _ => trivial
  | t :: ts, e :: es, v :: vs, y :: ys, ⟨h, hr⟩, ⟨hy, hys⟩ => by
    have rest := resV_sound hS hR hr hys
    refine ⟨?_, ?_, rest⟩
    · unfold ResFit
      split at h
      · rename_i el ht
        obtain ⟨hfl, h⟩ := h
        split at h
        · rename_i i e' lo n c
          obtain ⟨rfl, rfl, rfl, h, _⟩ := h
          split at h; rotate_left; · exact h.elim
          rename_i e2 l ho
          subst h
          have hob := hR.ob _ _ ho
          rcases hy with ⟨h1, rfl, _, rfl⟩ | ⟨b, m, cap, off, h1, h2, h3, rfl, h5, h6⟩
          · exact ⟨[], [], by simp, hfl, by simpa using World.ownsRow_nil w w0.w.heap.size e' (T.sz e'), by simpa using FitsL.nil⟩
          · rw [h1] at hob
            obtain ⟨rfl, q2, xs, q3, q4⟩ := hob
            have h5' := h5 rfl
            subst h5'
            rcases q3.2 with ⟨q, _⟩ | ⟨b', cap', cur, hr, hb, hh, hn', hc', hs', htk⟩
            · cases q
            · cases hr
              have hnl : (l.take n).length = n := by simp; omega
              have hx := q3.1
              refine ⟨l.take n, xs.take (n * T.sz e'), rfl, hfl, ?_, ?_⟩
              · rw [hnl]
                refine ⟨?_, .inr ⟨b, cap, cur, by simp, hb, hh, by omega, hc', hs', ?_⟩⟩
                · have : n * T.sz e' ≤ l.length * T.sz e' := Nat.mul_le_mul_right _ (by omega)
                  simp; omega
                · rw [← htk, List.take_take, Nat.min_eq_left (Nat.mul_le_mul_right _ (by omega))]
              · rw [hnl]
                have := q4.slice hS (lo := 0) (m := n) (by omega)
                simp only [Nat.zero_mul, List.drop_zero] at this
                exact this.flat hfl
        · obtain rfl : y = _ := hy
          exact ⟨[], [], h, hfl, by simpa using World.ownsRow_nil w w0.w.heap.size el (T.sz el), by simpa using FitsL.nil⟩
        · exact h.elim
      · rename_i hns
        obtain ⟨hfl, h⟩ := h
        obtain ⟨k1, k2⟩ := toV_fits hy h
        exact ⟨hfl, k1.flat 20 hfl, k2⟩
    · intro b hb y' hy' hb'
      split at h
      · rename_i el ht
        obtain ⟨hfl, h⟩ := h
        split at h
        · rename_i i e' lo n c
          obtain ⟨rfl, rfl, rfl, _, hdis⟩ := h
          have hi := sl_block hy hb
          -- y' is a later result with the same block
          obtain ⟨k, hk⟩ := List.mem_iff_getElem?.1 hy'
          have key : ∀ {ts : List TypeId} {es : List E} {vs : List V} {ys : List Value} {k : Nat}, resV T σ ts es vs → ERelL T w F ρ es ys → ys[k]? = some y' → ∃ e ∈ es, ERel T w F ρ e y' ∧ ((∃ j u lo n c, e = .sl j u lo n c) ∨ y'.ownBlock = none) := by
            intro ts
            induction ts with
            | nil =>
              intro es vs ys k hr hys hk
              cases es with
              | nil => cases ys with
                | nil => simp at hk
                | cons => exact hys.elim
              | cons => exact hr.elim
            | cons t ts ih =>
              intro es vs ys k hr hys hk
              cases es with
              | nil => exact hr.elim
              | cons e es =>
                cases vs with
                | nil => exact hr.elim
                | cons v vs =>
                  cases ys with
                  | nil => exact hys.elim
                  | cons z zs =>
                    cases k with
                    | succ k =>
                      obtain ⟨e', h1, h2⟩ := ih hr.2 hys.2 (by simpa using hk)
                      exact ⟨e', by simp [h1], h2⟩
                    | zero =>
                      simp at hk
                      subst hk
                      refine ⟨e, by simp, hys.1, ?_⟩
                      have h0 := hr.1
                      split at h0
                      · obtain ⟨_, h0⟩ := h0
                        split at h0
                        · exact .inl ⟨_, _, _, _, _, rfl⟩
                        · obtain rfl : z = _ := hys.1
                          exact .inr rfl
                        · exact h0.elim
                      · obtain ⟨hf0, h0⟩ := h0
                        obtain ⟨k1, k2⟩ := toV_fits hys.1 h0
                        exact .inr (flat_notSlice hf0 k1 k2)
          obtain ⟨e'', h1, h2, h3⟩ := key hr hys hk
          rcases h3 with ⟨j, u, lo', n', c', rfl⟩ | h3
          · have hj := sl_block h2 hb'
            exact hdis _ h1 j u lo' n' c' rfl (hR.inj j i b hj hi)
          · rw [h3] at hb'; cases hb'
        · obtain rfl : y = _ := hy
          simp [Value.ownBlock] at hb
        · exact h.elim
      · obtain ⟨hfl, h⟩ := h
        obtain ⟨k1, k2⟩ := toV_fits hy h
        rw [flat_notSlice hfl k1 k2] at hb
        cases hb
  | [], [], [], _ :: _, _, h => h.elim
  | _ :: _, _ :: _, _ :: _, [], _, h => h.elim
  | [], _ :: _, _, _, h, _ => h.elim
  | [], [], _ :: _, _, h, _ => h.elim
  | _ :: _, [], _, _, h, _ => h.elim
  | _ :: _, _ :: _, [], _, h, _ => h.elim

/-- How a body leaves, for its contract. -/
def ctrK (T : Tab) (rs : List ResultVar) (rts : List TypeId) (vs : List V) (ex : Exit) (σ' : St) : Prop := (ex = .normal ∨ ex = .ret) ∧ resA T σ' rs fun es => resV T σ' rts es vs

theorem ctrK.normal {rs : List ResultVar} {rts : List TypeId} {vs : List V} (h : resA T σ' rs fun es => resV T σ' rts es vs) : ctrK T rs rts vs .normal σ' := ⟨.inl rfl, h⟩
theorem ctrK.ret {rs : List ResultVar} {rts : List TypeId} {vs : List V} (h : resA T σ' rs fun es => resV T σ' rts es vs) : ctrK T rs rts vs .ret σ' := ⟨.inr rfl, h⟩

theorem ArgsFit.len : ∀ {ts : List TypeId} {vs : List V} {xs : List Value}, ArgsFit T w F ts vs xs → (fromVs T ts vs).length = xs.length
  | [], [], [], _ => rfl
  | _ :: _, _ :: _, _ :: _, ⟨_, h⟩ => by simp [fromVs, ArgsFit.len h]
  | [], [], _ :: _, h => h.elim
  | [], _ :: _, _, h => h.elim
  | _ :: _, [], _, h => h.elim
  | _ :: _, _ :: _, [], h => h.elim

/-- A contract, by its body. -/
theorem Ctr.body (hP : TabOk P T) {f : FuncId} {fn : Func} {c : Code} {pts rts : List TypeId} {vs rs : List V} (hf : P.funcs[f]? = some fn) (hb : fn.body = some c) (hname : (fn.name == "runtime.NumGoroutine") = false) (n : Nat) (hnt : fn.ntmps = n) (res : List ResultVar) (hrs : fn.results.toList = res) (hn : (fromVs T pts vs).length ≤ n)
    (h : SA P T c (ctrK T res rts rs) { tm := args0 0 (fromVs T pts vs), ob := [], out := [], nt := n }) : Ctr P T f pts rts vs rs := by
  subst hnt hrs
  refine ⟨enters_of hf (by rw [hb]; rfl) hname, ?_⟩
  intro w F xs hF hg hx
  refine calls_of_wp hf hb ?_
  have hl := hx.len
  have hR : Rel T w F (fun _ => .none) ⟨w, F, hg⟩ { tm := args0 0 (fromVs T pts vs), ob := [], out := [], nt := fn.ntmps } (xs.toArray ++ Array.replicate (fn.ntmps - xs.toArray.size) undef) [] :=
    ⟨args_tm (fromVs_rel hx) _, trivial, fun i o h => by simp at h, fun _ _ => rfl, fun i j b h => by simp [RI.block] at h, hF, Below.refl _ _, by simp; omega, fun _ h => .inr h⟩
  refine wp_mono (h ⟨w, F, hg⟩ w F _ { tmps := xs.toArray ++ Array.replicate (fn.ntmps - xs.toArray.size) undef, defers := [] } [] rfl hR) ?_
  rintro ex a' w' ⟨σ', F', ρ', ⟨hex, hr⟩, hd', hR''⟩
  exact leave_sound hP hR'' hd' hex hr fun es ys hv he => ⟨ys, rfl, hR''.below, resV_sound hP.sized hR'' hv he⟩

end Go.Eng
/- Calls by contract. -/
namespace Go.Eng
set_option linter.unusedSimpArgs false
set_option linter.unusedVariables false
open Go.RowKit

variable {P : Program} {T : Tab} {w w' : World} {w0 : Base T} {F F' : Nat → Prop} {ρ ρ' : Nat → RI} {σ σ' : St} {a : Act} {outs : List (Array Value)}

/-- What an argument reads as, at the call. -/
def contentV (T : Tab) (σ : St) (t : TypeId) : E → Option V
  | .sl i e lo n _ => if T.ty t = .slice e then match σ.ob[i]? with
    | some (.row _ l) => some (.list ((l.drop lo).take n))
    | _ => none
    else none
  | .ptr i p t' => if T.ty t = .ptr t' then match σ.ob[i]? with
    | some (.var _ (.data _ v)) => some (.ref (v.get p))
    | _ => none
    else none
  | e => toV T t e

def argsV (T : Tab) (σ : St) : List TypeId → List E → Option (List V)
  | [], [] => some []
  | t :: ts, e :: es => match contentV T σ t e, argsV T σ ts es with
    | some v, some vs => some (v :: vs)
    | _, _ => none
  | _, _ => none

theorem contentV_fit (hP : TabOk P T) {tmps : Array Value} (hR : Rel T w F ρ w0 σ tmps outs) {t : TypeId} {e : E} {x : Value} {v : V} (hx : ERel T w F ρ e x) (h : contentV T σ t e = some v) :
    Fits T w (fun b => b < w.heap.size) t v x.cells.toList ∧ ValOf T t x x.cells.toList := by
  have base : ∀ {e : E}, ERel T w F ρ e x → toV T t e = some v → Fits T w (fun b => b < w.heap.size) t v x.cells.toList ∧ ValOf T t x x.cells.toList := by
    intro e hx h
    obtain ⟨h1, h2⟩ := toV_fits hx h
    exact ⟨h1.mono hR.fsub (fun _ _ => rfl), h2⟩
  unfold contentV at h
  split at h
  · rename_i i el lo n c
    split at h; rotate_left; · cases h
    rename_i ht
    split at h; rotate_left; · cases h
    rename_i e2 l ho
    cases h
    have hob := hR.ob _ _ ho
    have hval : ∀ ad len cap, x = .slice ad len cap → ValOf T t x x.cells.toList := fun ad len cap hx => by subst hx; simp [ValOf, ht, TyD.isAgg, Value.cells]
    rcases hx with ⟨h1, rfl, _, rfl⟩ | ⟨b, m, cap, off, h1, h2, h3, rfl, h5, h6⟩
    · simp only [List.take_zero]
      exact ⟨.nil ht, hval _ _ _ rfl⟩
    · rw [h1] at hob
      obtain ⟨rfl, q2, xs, q3, q4⟩ := hob
      refine ⟨?_, hval _ _ _ rfl⟩
      rcases q3.2 with ⟨q, _⟩ | ⟨b', cap', cur, hr, hb, hh, hn', hc', hs', htk⟩
      · cases q
      · cases hr
        have hnl : ((l.drop lo).take n).length = n := by simp; omega
        have hf := q4.slice hP.sized (lo := lo) (m := n) (by omega)
        refine .slice ht (Array.getElem?_eq_some_iff.1 hh).1 (cs := (xs.drop (lo * T.sz el)).take (n * T.sz el)) ?_ hnl (hf.mono hR.fsub (fun _ _ => rfl)) (by split <;> omega)
        rcases h6 with h6 | h6
        · subst h6
          intro j y hy
          simp at hy
        · have hys : Seg w b 0 xs := by
            have := seg_of_cells (w := w) hh 0 (l.length * T.sz el)
            rw [List.drop_zero, htk] at this
            exact this
          have := hys.sub (lo * T.sz el) (n * T.sz el)
          rw [Nat.zero_add] at this
          rw [h6]
          exact this
  · rename_i i p t'
    split at h; rotate_left; · cases h
    rename_i ht
    split at h; rotate_left; · cases h
    rename_i tv td y ho
    cases h
    have hob := hR.ob _ _ ho
    obtain ⟨b, root, off, p1, p2, rfl⟩ := hx
    rw [p1] at hob
    obtain ⟨⟨q1, q1', q1''⟩, q2, q3, cs, ct, z, q4, q5, q6, q7⟩ := hob
    obtain ⟨cs', rfl, hA, hf⟩ := q5
    have := q1'' _ _ rfl
    subst this
    subst q1
    have hcs : cs' = cs := by have := q6.2; rw [if_pos hA] at this; simpa using this
    subst hcs
    obtain ⟨g1, g2⟩ := p2.get hP.sized hf
    refine ⟨.ref ht (Array.getElem?_eq_some_iff.1 q4).1 (seg_of_cells q4 off _) (g1.mono hR.fsub (fun _ _ => rfl)), by simp [ValOf, ht, TyD.isAgg, Value.cells]⟩
  · exact base hx h

theorem argsV_fit (hP : TabOk P T) {tmps : Array Value} (hR : Rel T w F ρ w0 σ tmps outs) : ∀ {ts : List TypeId} {es : List E} {xs : List Value} {vs : List V}, ERelL T w F ρ es xs → argsV T σ ts es = some vs →
    ArgsFit T w (fun b => b < w.heap.size) ts vs xs
  | [], [], [], vs, _, h => by cases h; trivial
  | t :: ts, e :: es, x :: xs, vs, ⟨h1, h2⟩, h => by
    unfold argsV at h
    split at h
    · rename_i v vs' hv hvs
      cases h
      exact ⟨contentV_fit hP hR h1 hv, argsV_fit hP hR h2 hvs⟩
    · cases h
  | [], _ :: _, _, _, _, h => by simp [argsV] at h
  | _ :: _, [], _, _, _, h => by simp [argsV] at h
  | [], [], _ :: _, _, h, _ => h.elim
  | _ :: _, _ :: _, [], _, h, _ => h.elim

/-- Flat data has its cells. -/
theorem Fits.uniq : ∀ (d : Nat) {w1 w2 : World} {F1 F2 : Nat → Prop} {t : TypeId} {v : V} {cs ds : List Value}, flatTy T d t = true → Fits T w1 F1 t v cs → Fits T w2 F2 t v ds → cs = ds := by
  intro d
  induction d using Nat.strongRecOn with
  | _ d ih =>
    intro w1 w2 F1 F2 t v cs ds hf h k
    cases d with
    | zero => simp [flatTy] at hf
    | succ d =>
      unfold flatTy at hf
      split at hf
      · rename_i kd hk; obtain ⟨n, rfl, _, rfl⟩ := h.inv' hk; obtain ⟨m, e, _, rfl⟩ := k.inv' hk; cases e; rfl
      · rename_i hk; obtain ⟨n, rfl, rfl⟩ := h.inv' hk; obtain ⟨m, e, rfl⟩ := k.inv' hk; cases e; rfl
      · rename_i hk; obtain ⟨n, rfl, rfl⟩ := h.inv' hk; obtain ⟨m, e, rfl⟩ := k.inv' hk; cases e; rfl
      · rename_i ts hk
        obtain ⟨l, rfl, hl⟩ := h.inv' hk
        obtain ⟨m, e, hm⟩ := k.inv' hk
        cases e
        have key : ∀ (ts : List TypeId) (l : List V) (cs ds : List Value), (∀ t ∈ ts, ∃ d', d' < d + 1 ∧ flatTy T d' t = true) → FitsL T w1 F1 ts l cs → FitsL T w2 F2 ts l ds → cs = ds := by
          intro ts
          induction ts with
          | nil => intro l cs ds _ h k; cases h; cases k; rfl
          | cons t ts iht =>
            intro l cs ds hall h k
            cases h with
            | cons h1 h2 =>
              cases k with
              | cons k1 k2 =>
                obtain ⟨d', hd', hf'⟩ := hall t (by simp)
                rw [ih d' hd' hf' h1 k1, iht _ _ _ (fun u hu => hall u (by simp [hu])) h2 k2]
        refine key ts _ _ _ (fun u hu => ?_) hl hm
        obtain ⟨j, hk'⟩ := List.mem_iff_getElem?.1 hu
        obtain ⟨d', h1, h2⟩ := flatTys_nth hf hk'
        exact ⟨d', by omega, h2⟩
      · rename_i n e hk
        obtain ⟨l, rfl, hl⟩ := h.inv' hk
        obtain ⟨m, e, hm⟩ := k.inv' hk
        cases e
        have key : ∀ (ts : List TypeId) (l : List V) (cs ds : List Value), (∀ t ∈ ts, flatTy T d t = true) → FitsL T w1 F1 ts l cs → FitsL T w2 F2 ts l ds → cs = ds := by
          intro ts
          induction ts with
          | nil => intro l cs ds _ h k; cases h; cases k; rfl
          | cons t ts iht =>
            intro l cs ds hall h k
            cases h with
            | cons h1 h2 =>
              cases k with
              | cons k1 k2 => rw [ih d (by omega) (hall t (by simp)) h1 k1, iht _ _ _ (fun u hu => hall u (by simp [hu])) h2 k2]
        exact key _ _ _ _ (fun u hu => by rw [(List.mem_replicate.1 hu).2]; exact hf) hl hm
      · cases hf

theorem valOf_uniq {t : TypeId} {x y : Value} {cs : List Value} (hx : ValOf T t x cs) (hy : ValOf T t y cs) : x = y := by
  unfold ValOf at hx hy
  split at hx
  · rename_i hA; rw [if_pos hA] at hy; rw [hx, hy]
  · rename_i hA; rw [if_neg hA] at hy; rw [hx] at hy; simpa using hy

theorem flatTy_notSlice {d : Nat} {t e : TypeId} (hf : flatTy T d t = true) : T.ty t ≠ .slice e := by
  intro h
  cases d with
  | zero => simp [flatTy] at hf
  | succ d => simp [flatTy, h] at hf

/-- A call by contract that answers one flat value. -/
theorem CallQ.ctr (hP : TabOk P T) {f : FuncId} {pts : List TypeId} {rt : TypeId} {vs : List V} {r : V} {es : List E} (hc : Ctr P T f pts [rt] vs [r]) (hv : argsV T σ pts es = some vs) (hf : flatTy T 20 rt = true) : CallQ P T σ f es (fromV T rt r) := by
  obtain ⟨hE, hc⟩ := hc
  refine ⟨hE, ?_⟩
  intro w0 w F ρ tmps outs xs hR hx
  have run : ∀ w', Below w.heap.size w w' → Calls P f xs.toArray w' fun en w'' => ∃ y, en = .returned y ∧ Below w'.heap.size w' w'' ∧ Fits T w'' (fun _ => False) rt r y.cells.toList ∧ ValOf T rt y y.cells.toList := by
    intro w' hb
    have hR' := hR.later hb
    have hx' : ERelL T w' F ρ es xs := hx.mono (fun _ x => x) (fun b hF => hb.block b (hR.fsub b hF)) (fun _ _ => rfl)
    refine (hc w' _ xs (fun _ h => h) (T.globB _ _ (Base.ok _) hR'.below) (argsV_fit hP hR' hx' hv)).mono ?_
    rintro en w'' ⟨ys, rfl, hb', hres⟩
    match ys, hres with
    | [y], ⟨hres, _, _⟩ =>
      refine ⟨y, rfl, hb', ?_⟩
      unfold ResFit at hres
      split at hres
      · rename_i e he; exact absurd he (flatTy_notSlice hf)
      · exact hres.2
  obtain ⟨en, w1, fr, ⟨y, rfl, _, h1, h2⟩, _⟩ := run w (Below.refl _ _) []
  refine ⟨y, fromV_rel (h1.flat (w' := w) (F' := F) 20 hf) h2, fun w' hb => (run w' hb).mono ?_⟩
  rintro en w'' ⟨y', rfl, hb', h3, h4⟩
  have hcs := Fits.uniq 20 hf h3 h1
  refine ⟨?_, hb'⟩
  rw [hcs] at h4
  rw [valOf_uniq h4 h2]

/-- New objects and values for a call's results. -/
def newEs (T : Tab) (n : Nat) : List TypeId → List V → List Obj × List E
  | t :: ts, v :: vs => match T.ty t with
    | .slice e => (.row e v.toList :: (newEs T (n + 1) ts vs).1, .sl n e 0 v.toList.length false :: (newEs T (n + 1) ts vs).2)
    | _ => ((newEs T n ts vs).1, fromV T t v :: (newEs T n ts vs).2)
  | _, _ => ([], [])

theorem Rel.add {tmps : Array Value} (h : Rel T w F ρ w0 σ tmps outs) {r : RI} {o : Obj} (hr : ∀ b, r.block = some b → ∀ j, (ρ j).block ≠ some b) (ho : ORel T w F (upd ρ σ.ob.length r) w0.w.heap.size r o) :
    Rel T w F (upd ρ σ.ob.length r) w0 { σ with ob := σ.ob ++ [o] } tmps outs := by
  have hn : ρ σ.ob.length = .none := h.free _ (by simp)
  have hm := upd_mono (r := r) hn
  refine ⟨h.tm.mono (fun _ x => x) (fun _ _ => rfl) hm, h.out.mono (fun _ x => x) (fun _ _ => rfl) hm, ?_, ?_, ?_, h.fsub, h.below, h.size, h.fold⟩
  · intro i o' hi
    by_cases hlt : i < σ.ob.length
    · simp only [List.getElem?_append_left hlt] at hi
      rw [upd_ne ρ r (by omega)]
      exact (h.ob i o' hi).mono (fun _ x => x) (fun _ _ => rfl) hm (fun _ _ => rfl) (fun b hb => (h.own hb).2.1)
    · rw [List.getElem?_append_right (by omega)] at hi
      have : i = σ.ob.length := by
        have := (List.getElem?_eq_some_iff.1 hi).1
        simp at this
        omega
      subst this
      simp at hi
      subst hi
      rw [upd_self]
      exact ho
  · intro i hi
    simp at hi
    rw [upd_ne ρ r (by omega)]
    exact h.free i (by simp; omega)
  · intro i j b hi hj
    unfold upd at hi hj
    split at hi <;> split at hj
    · omega
    · exact absurd hj (hr b hi j)
    · exact absurd hi (hr b hj i)
    · exact h.inj i j b hi hj

theorem news_rel {n0 : Nat} (hF : ∀ b, F b → b < n0) {tmps : Array Value} : ∀ {ts : List TypeId} {vs : List V} {ys : List Value} {σ : St} {ρ : Nat → RI}, Rel T w F ρ w0 σ tmps outs → w0.w.heap.size ≤ n0 → ResFits T w n0 ts vs ys →
    (∀ y ∈ ys, ∀ b, y.ownBlock = some b → n0 ≤ b → ∀ j, (ρ j).block ≠ some b) → ∃ ρ', Rel T w F ρ' w0 { σ with ob := σ.ob ++ (newEs T σ.ob.length ts vs).1 } tmps outs ∧ ERelL T w F ρ' (newEs T σ.ob.length ts vs).2 ys ∧ (∀ i, ρ i ≠ .none → ρ' i = ρ i)
  | [], [], [], σ, ρ, hR, _, _, _ => ⟨ρ, by simpa [newEs] using hR, trivial, fun _ _ => rfl⟩
  | t :: ts, v :: vs, y :: ys, σ, ρ, hR, hn, ⟨h1, h2, h3⟩, hd => by
    unfold ResFit at h1
    unfold newEs
    split at h1
    · rename_i e ht
      obtain ⟨l, zs, rfl, hfl, hown, hf⟩ := h1
      have hlt := hown.lt
      have hadd := hR.add (r := .row e y) (o := .row e l) (fun b hb => hd y (by simp) b hb (hlt b hb).1) ⟨rfl, fun b hb hFb => by have := hF b hFb; have := (hlt b hb).1; omega, zs, ⟨hown.1, by
        rcases hown.2 with h | ⟨g, cap, cur, q1, q2, q3⟩
        · exact .inl h
        · exact .inr ⟨g, cap, cur, q1, Nat.le_trans hn q2, q3⟩⟩, hf.flat hfl⟩
      obtain ⟨ρ', r1, r2, r3⟩ := news_rel hF (σ := { σ with ob := σ.ob ++ [.row e l] }) hadd hn h3 (fun y' hy' b hb hnb j hj => by
        unfold upd at hj
        split at hj
        · exact h2 b hj y' hy' hb
        · exact hd y' (by simp [hy']) b hb hnb j hj)
      have hnone : ρ σ.ob.length = .none := hR.free _ (by simp)
      simp only [List.length_append, List.length_cons, List.length_nil, Nat.zero_add] at r1 r2
      simp only [ht]
      refine ⟨ρ', by simpa using r1, ⟨?_, r2⟩, fun i hi => ?_⟩
      · have hk : ρ' σ.ob.length = .row e y := by
          rw [r3 _ (by rw [upd_self]; simp), upd_self]
        unfold ERel
        simp only [V.toList_list]
        rw [hk]
        rcases hown.2 with ⟨rfl, h0⟩ | ⟨g, cap, cur, rfl, q2, q3, q4, _⟩
        · exact .inl ⟨rfl, rfl, rfl, h0⟩
        · exact .inr ⟨g, _, cap, 0, rfl, by omega, q4, rfl, fun _ => rfl, .inr (by simp)⟩
      · have hne : i ≠ σ.ob.length := fun h => hi (by rw [h]; exact hnone)
        rw [r3 i (by rw [upd_ne _ _ hne]; exact hi), upd_ne _ _ hne]
    · rename_i hns
      obtain ⟨hfl, hf, hval⟩ := h1
      obtain ⟨ρ', r1, r2, r3⟩ := news_rel hF hR hn h3 (fun y' hy' => hd y' (by simp [hy']))
      have hnew : (match T.ty t with
          | .slice e => (.row e v.toList :: (newEs T (σ.ob.length + 1) ts vs).1, .sl σ.ob.length e 0 v.toList.length false :: (newEs T (σ.ob.length + 1) ts vs).2)
          | _ => ((newEs T σ.ob.length ts vs).1, fromV T t v :: (newEs T σ.ob.length ts vs).2)) = ((newEs T σ.ob.length ts vs).1, fromV T t v :: (newEs T σ.ob.length ts vs).2) := by
        split
        · rename_i e he; exact absurd he (hns e)
        · rfl
      simp only [hnew]
      exact ⟨ρ', r1, ⟨fromV_rel (hf.flat 20 hfl) hval, r2⟩, r3⟩
  | [], [], _ :: _, _, _, _, _, h, _ => h.elim
  | [], _ :: _, _, _, _, _, _, h, _ => h.elim
  | _ :: _, [], _, _, _, _, _, h, _ => h.elim
  | _ :: _, _ :: _, [], _, _, _, _, h, _ => h.elim

/-- A call by contract. -/
theorem CallE.ctr (hP : TabOk P T) {f : FuncId} {pts rts : List TypeId} {vs rs : List V} {es : List E} {K : St → E → Prop} (hc : Ctr P T f pts rts vs rs) (hv : argsV T σ pts es = some vs)
    (hK : K { σ with ob := σ.ob ++ (newEs T σ.ob.length rts rs).1 } (outE (newEs T σ.ob.length rts rs).2)) : CallE P T σ f es K := by
  obtain ⟨hE, hc⟩ := hc
  refine ⟨hE, ?_⟩
  intro w0 w F ρ tmps outs xs hR hx
  refine (hc w _ xs (fun _ h => h) (T.globB _ _ (Base.ok _) hR.below) (argsV_fit hP hR hx hv)).mono ?_
  rintro en w' ⟨ys, rfl, hb, hres⟩
  have hR' := hR.later hb
  obtain ⟨ρ', r1, r2, _⟩ := news_rel (n0 := w.heap.size) hR.fsub hR' hR.below.size hres (fun y _ b _ hnb j hj => by have := (hR.own hj).1; omega)
  exact ⟨_, _, _, F, ρ', rfl, hK, outE_rel r2, r1⟩

end Go.Eng
/- The table of types of one program: what is owed of each row, and that this is all. -/
namespace Go.Eng
set_option linter.unusedSimpArgs false
set_option linter.unusedVariables false
open Go.RowKit

variable {P : Program} {T : Tab}

def tyOf (l : List (Nat × TyD)) (t : TypeId) : TyD := (l.lookup t).getD .other

theorem tyOf_mem {l : List (Nat × TyD)} {t : TypeId} {d : TyD} (h : tyOf l t = d) (hd : d ≠ .other) : (t, d) ∈ l := by
  unfold tyOf at h
  induction l with
  | nil => simp at h; exact absurd h.symm hd
  | cons x l ih =>
    obtain ⟨s, e⟩ := x
    simp only [List.lookup_cons] at h
    by_cases hts : t = s
    · subst hts; simp at h; subst h; simp
    · have : (t == s) = false := by simpa using hts
      rw [this] at h
      exact List.mem_cons_of_mem _ (ih h)

/-- What is owed of a type's row. -/
structure RowOk (P : Program) (T : Tab) (t : TypeId) (d : TyD) : Prop where
  kind : match d with
    | .int k => P.underlying t = some (.int k) ∧ T.sz t = 1
    | .bool => P.underlying t = some .bool ∧ T.sz t = 1
    | .str => P.underlying t = some .string ∧ T.sz t = 1
    | .struct ts => (∃ fs : Array Field, P.underlying t = some (.struct fs) ∧ fs.toList.map (·.type) = ts ∧ P.stoodInHeld t = false ∧
        (fs.toList.zipIdx.all fun x => x.1.offset == T.offs ts x.2 && decide (0 < T.sz x.1.type) && !(x.1.name == "_") && !(T.ty x.1.type == .other)) = true) ∧ T.sz t = T.szs ts ∧ P.eqGuardType P.depth t = false
    | .arr n e => (P.underlying t = some (.array n e) ∧ 1 < n ∧ 0 < T.sz e ∧ T.ty e ≠ .other) ∧ T.sz t = n * T.sz e ∧ P.eqGuardType P.depth t = false
    | .slice e => (P.underlying t = some (.slice e) ∧ T.ty e ≠ .other) ∧ T.sz t = 1 ∧ 0 < T.sz e
    | .ptr e => (P.underlying t = some (.pointer e) ∧ T.ty e ≠ .other) ∧ T.sz t = 1
    | .fn => (∃ a b c, P.underlying t = some (.func a b c)) ∧ T.sz t = 1
    | .other => False
  info : ∃ z, (P.info? t).map (fun i => (i.size, i.bytes, i.zero)) = some (T.sz t, T.by_ t, some z) ∧ z.cells.size = T.sz t ∧ (z.cells.toList.all fun c => c.oneCell') = true ∧
    (if d.isAgg then z = .agg z.cells else z.oneCell' = true) ∧ (d ≠ .fn → (∀ e, d ≠ .ptr e) → ∀ w F, Fits T w F t (T.zero t) z.cells.toList) ∧ (d = .fn → z = .nilFunc) ∧ (∀ e, d = .slice e → z = .slice none 0 0)

theorem tabOk {l : List (Nat × TyD)} (hty : T.ty = tyOf l) (h : ∀ p ∈ l, RowOk P T p.1 p.2) : TabOk P T := by
  have at_ : ∀ {t d}, T.ty t = d → d ≠ .other → RowOk P T t d := fun {t d} ht hd => h (t, d) (tyOf_mem (by rw [← hty]; exact ht) hd)
  refine ⟨⟨?_, ?_, ?_, ?_, ?_, ?_, ?_, ?_⟩, ?_, ?_, ?_, ?_, ?_, ?_, ?_, ?_, ?_, ?_⟩
  · exact fun t k ht => (at_ ht (by simp)).kind.2
  · exact fun t ht => (at_ ht (by simp)).kind.2
  · exact fun t ht => (at_ ht (by simp)).kind.2
  · exact fun t e ht => (at_ ht (by simp)).kind.2
  · exact fun t e ht => (at_ ht (by simp)).kind.2
  · exact fun t ht => (at_ ht (by simp)).kind.2
  · exact fun t ts ht => (at_ ht (by simp)).kind.2.1
  · exact fun t n e ht => by rw [szs_replicate]; exact (at_ ht (by simp)).kind.2.1
  · exact fun t k ht => (at_ ht (by simp)).kind.1
  · exact fun t ht => (at_ ht (by simp)).kind.1
  · exact fun t ht => (at_ ht (by simp)).kind.1
  · intro t ts ht
    obtain ⟨⟨fs, h1, h2, h3, h4⟩, _⟩ := (at_ ht (by simp)).kind
    refine ⟨fs, h1, h2, h3, fun k f hf => ?_⟩
    have hm : (f, k) ∈ fs.toList.zipIdx := by
      rw [List.mem_iff_getElem?]
      exact ⟨k, by simp [hf]⟩
    have := List.all_eq_true.1 h4 _ hm
    simp only [Bool.and_eq_true, beq_iff_eq, decide_eq_true_eq, Bool.not_eq_true'] at this
    obtain ⟨⟨⟨a, b⟩, c⟩, d⟩ := this
    exact ⟨a, b, c, by simpa using d⟩
  · exact fun t n e ht => (at_ ht (by simp)).kind.1
  · exact fun t e ht => (at_ ht (by simp)).kind.1
  · exact fun t e ht => (at_ ht (by simp)).kind.1
  · exact fun t ht => (at_ ht (by simp)).kind.1
  · intro t ht
    cases hd : T.ty t with
    | struct ts => exact (at_ hd (by simp)).kind.2.2
    | arr n e => exact (at_ hd (by simp)).kind.2.2
    | _ => rw [hd] at ht; cases ht
  · intro t ht
    obtain ⟨z, h1, h2, h3, h4, h5, h6, h7⟩ := (at_ rfl ht).info
    cases hi : P.info? t with
    | none => rw [hi] at h1; cases h1
    | some i =>
      rw [hi] at h1
      simp at h1
      obtain ⟨a, b, c⟩ := h1
      refine ⟨i, rfl, a, b, z, c, h2, fun c hc => ?_, h4, h5, h6, h7⟩
      exact List.all_eq_true.1 h3 c (by simpa using hc)

theorem FitsL.repl {w : World} {F : Nat → Prop} {e : TypeId} {v : V} {cs : List Value} (h : Fits T w F e v cs) : ∀ n, FitsL T w F (List.replicate n e) (List.replicate n v) (List.replicate n cs).flatten
  | 0 => .nil
  | n + 1 => by
    simp only [List.replicate_succ, List.flatten_cons]
    exact .cons h (FitsL.repl h n)

end Go.Eng
/- The table of types of this seat's program, and that it is the program's. Printed by gentab.py. -/
namespace Go.Eng.Tryz
set_option linter.unusedSimpArgs false
set_option linter.unusedVariables false
open Go.RowKit Go.Eng

def z1 : V := .int 0
def z2 : V := .int 0
def z3 : V := .int 0
def z4 : V := .bool false
def z5 : V := .int 0
def z9 : V := .str ByteArray.empty
def z12 : V := .int 0
def z21 : V := .int 0
def z22 : V := .list []
def z23 : V := .list []
def z24 : V := .list []
def z25 : V := .agg [z22, z3, z23, z24]
def z26 : V := .agg [z22, z3, z23, z24]
def z27 : V := .list []
def z28 : V := .agg [z3, z3, z3]
def z29 : V := .agg [z3, z3, z3]
def z30 : V := .list []
def z31 : V := .agg (List.replicate 8 (z2))
def z32 : V := .agg (List.replicate 4 (z3))
def z33 : V := .agg (List.replicate 4 (z2))
def z34 : V := .agg [z33, z3, z4, z3, z3, z2]
def z35 : V := .agg [z33, z3, z4, z3, z3, z2]
def z36 : V := .agg (List.replicate 4 (z35))
def z37 : V := .agg [z3, z3, z3, z3, z31]
def z38 : V := .agg [z3, z3, z3, z3, z31]
def z39 : V := .agg (List.replicate 6 (z38))
def z40 : V := .agg [z31, z32, z36, z39, z3]
def z41 : V := .agg [z31, z32, z36, z39, z3]
def z42 : V := .agg [z30, z41, z4]
def z43 : V := .agg [z30, z41, z4]
def z45 : V := .int 0
def z46 : V := .int 0
def z47 : V := .int 0
def z48 : V := .agg [z3, z3]
def z49 : V := .agg [z3, z3]
def z50 : V := .int 0
def z51 : V := .agg [z3, z3, z4]
def z52 : V := .agg [z3, z3, z4]
def z53 : V := .agg (List.replicate 6 (z52))
def z54 : V := .agg [z3, z3, z3, z50, z3, z2, z2, z53, z3]
def z55 : V := .agg [z3, z3, z3, z50, z3, z2, z2, z53, z3]
def z57 : V := .int 0
def z58 : V := .int 0
def z60 : V := .int 0
def z61 : V := .int 0
def z62 : V := .int 0
def z63 : V := .list []
def z65 : V := .int 0
def z66 : V := .int 0
def z67 : V := .list []
def z69 : V := .int 0
def z71 : V := .int 0
def z72 : V := .int 0
def z73 : V := .int 0
def z74 : V := .int 0
def z76 : V := .int 0
def z77 : V := .int 0
def z78 : V := .agg (List.replicate 4 (z4))
def z79 : V := .agg (List.replicate 4 (z4))
def z80 : V := .list []
def z81 : V := .int 0
def z82 : V := .int 0
def z84 : V := .int 0
def z85 : V := .int 0
def z86 : V := .int 0
def z87 : V := .int 0
def z88 : V := .agg [z3, z3, z3, z3]
def z89 : V := .agg [z3, z3, z3, z3]
def z90 : V := .int 0
def z91 : V := .int 0
def z92 : V := .list []
def z93 : V := .int 0
def z94 : V := .int 0
def z95 : V := .int 0
def z96 : V := .int 0
def z97 : V := .list []
def z98 : V := .list []
def z99 : V := .agg [z3, z3, z97, z98]
def z100 : V := .agg [z3, z3, z97, z98]
def z101 : V := .list []
def z102 : V := .agg [z101, z3]
def z103 : V := .agg [z101, z3]
def z104 : V := .agg [z50, z3, z3, z3, z2]
def z105 : V := .agg [z50, z3, z3, z3, z2]
def z106 : V := .int 0
def z107 : V := .agg [z4, z3, z3, z3]
def z108 : V := .agg [z4, z3, z3, z3]
def z110 : V := .agg [z41, z2, z3, z3]
def z116 : V := .int 0
def z117 : V := .agg (List.replicate 6 (z79))
def z123 : V := .int 0
def z128 : V := .int 0
def z133 : V := .int 0
def z140 : V := .list []
def z148 : V := .agg [z3, z3]
def z152 : V := .agg [z4, z2]
def z175 : V := .int 0
def z179 : V := .int 0
def z192 : V := .int 0
def z196 : V := .int 0
def tyL : List (Nat × TyD) := [(1, .fn), (2, .int .i64), (3, .int .i64), (4, .bool), (5, .int .u8), (9, .str), (12, .int .u64), (21, .int .i32), (22, .slice 152), (23, .slice 3), (24, .slice 100), (25, .struct [22, 3, 23, 24]), (26, .struct [22, 3, 23, 24]), (27, .slice 49), (28, .struct [3, 3, 3]), (29, .struct [3, 3, 3]), (30, .slice 55), (31, .arr 8 2), (32, .arr 4 3), (33, .arr 4 2), (34, .struct [33, 3, 4, 3, 3, 2]), (35, .struct [33, 3, 4, 3, 3, 2]), (36, .arr 4 35), (37, .struct [3, 3, 3, 3, 31]), (38, .struct [3, 3, 3, 3, 31]), (39, .arr 6 38), (40, .struct [31, 32, 36, 39, 3]), (41, .struct [31, 32, 36, 39, 3]), (42, .struct [30, 41, 4]), (43, .struct [30, 41, 4]), (45, .fn), (46, .fn), (47, .fn), (48, .struct [3, 3]), (49, .struct [3, 3]), (50, .int .i64), (51, .struct [3, 3, 4]), (52, .struct [3, 3, 4]), (53, .arr 6 52), (54, .struct [3, 3, 3, 50, 3, 2, 2, 53, 3]), (55, .struct [3, 3, 3, 50, 3, 2, 2, 53, 3]), (57, .fn), (58, .int .i64), (60, .fn), (61, .fn), (62, .fn), (63, .slice 41), (65, .fn), (66, .fn), (67, .slice 23), (69, .fn), (71, .fn), (72, .fn), (73, .fn), (74, .fn), (76, .fn), (77, .fn), (78, .arr 4 4), (79, .arr 4 4), (80, .slice 79), (81, .fn), (82, .fn), (84, .fn), (85, .fn), (86, .fn), (87, .fn), (88, .struct [3, 3, 3, 3]), (89, .struct [3, 3, 3, 3]), (90, .fn), (91, .fn), (92, .slice 89), (93, .fn), (94, .fn), (95, .fn), (96, .fn), (97, .slice 105), (98, .slice 103), (99, .struct [3, 3, 97, 98]), (100, .struct [3, 3, 97, 98]), (101, .slice 108), (102, .struct [101, 3]), (103, .struct [101, 3]), (104, .struct [50, 3, 3, 3, 2]), (105, .struct [50, 3, 3, 3, 2]), (106, .fn), (107, .struct [4, 3, 3, 3]), (108, .struct [4, 3, 3, 3]), (110, .struct [41, 2, 3, 3]), (116, .fn), (117, .arr 6 79), (123, .fn), (128, .fn), (133, .fn), (140, .slice 52), (148, .struct [3, 3]), (152, .struct [4, 2]), (175, .int .u64), (179, .int .u64), (192, .int .u32), (196, .ptr 5)]
def szL : List (Nat × Nat) := [(1, 1), (2, 1), (3, 1), (4, 1), (5, 1), (9, 1), (12, 1), (21, 1), (22, 1), (23, 1), (24, 1), (25, 4), (26, 4), (27, 1), (28, 3), (29, 3), (30, 1), (31, 8), (32, 4), (33, 4), (34, 9), (35, 9), (36, 36), (37, 12), (38, 12), (39, 72), (40, 121), (41, 121), (42, 123), (43, 123), (45, 1), (46, 1), (47, 1), (48, 2), (49, 2), (50, 1), (51, 3), (52, 3), (53, 18), (54, 26), (55, 26), (57, 1), (58, 1), (60, 1), (61, 1), (62, 1), (63, 1), (65, 1), (66, 1), (67, 1), (69, 1), (71, 1), (72, 1), (73, 1), (74, 1), (76, 1), (77, 1), (78, 4), (79, 4), (80, 1), (81, 1), (82, 1), (84, 1), (85, 1), (86, 1), (87, 1), (88, 4), (89, 4), (90, 1), (91, 1), (92, 1), (93, 1), (94, 1), (95, 1), (96, 1), (97, 1), (98, 1), (99, 4), (100, 4), (101, 1), (102, 2), (103, 2), (104, 5), (105, 5), (106, 1), (107, 4), (108, 4), (110, 124), (116, 1), (117, 24), (123, 1), (128, 1), (133, 1), (140, 1), (148, 2), (152, 2), (175, 1), (179, 1), (192, 1), (196, 1)]
def byL : List (Nat × Nat) := [(1, 8), (2, 8), (3, 8), (4, 1), (5, 1), (9, 16), (12, 8), (21, 4), (22, 24), (23, 24), (24, 24), (25, 80), (26, 80), (27, 24), (28, 24), (29, 24), (30, 24), (31, 64), (32, 32), (33, 32), (34, 72), (35, 72), (36, 288), (37, 96), (38, 96), (39, 576), (40, 968), (41, 968), (42, 1000), (43, 1000), (45, 8), (46, 8), (47, 8), (48, 16), (49, 16), (50, 8), (51, 24), (52, 24), (53, 144), (54, 208), (55, 208), (57, 8), (58, 8), (60, 8), (61, 8), (62, 8), (63, 24), (65, 8), (66, 8), (67, 24), (69, 8), (71, 8), (72, 8), (73, 8), (74, 8), (76, 8), (77, 8), (78, 4), (79, 4), (80, 24), (81, 8), (82, 8), (84, 8), (85, 8), (86, 8), (87, 8), (88, 32), (89, 32), (90, 8), (91, 8), (92, 24), (93, 8), (94, 8), (95, 8), (96, 8), (97, 24), (98, 24), (99, 64), (100, 64), (101, 24), (102, 32), (103, 32), (104, 40), (105, 40), (106, 8), (107, 32), (108, 32), (110, 992), (116, 8), (117, 24), (123, 8), (128, 8), (133, 8), (140, 24), (148, 16), (152, 16), (175, 8), (179, 8), (192, 4), (196, 8)]
def zeroL : List (Nat × V) := [(1, z1), (2, z2), (3, z3), (4, z4), (5, z5), (9, z9), (12, z12), (21, z21), (22, z22), (23, z23), (24, z24), (25, z25), (26, z26), (27, z27), (28, z28), (29, z29), (30, z30), (31, z31), (32, z32), (33, z33), (34, z34), (35, z35), (36, z36), (37, z37), (38, z38), (39, z39), (40, z40), (41, z41), (42, z42), (43, z43), (45, z45), (46, z46), (47, z47), (48, z48), (49, z49), (50, z50), (51, z51), (52, z52), (53, z53), (54, z54), (55, z55), (57, z57), (58, z58), (60, z60), (61, z61), (62, z62), (63, z63), (65, z65), (66, z66), (67, z67), (69, z69), (71, z71), (72, z72), (73, z73), (74, z74), (76, z76), (77, z77), (78, z78), (79, z79), (80, z80), (81, z81), (82, z82), (84, z84), (85, z85), (86, z86), (87, z87), (88, z88), (89, z89), (90, z90), (91, z91), (92, z92), (93, z93), (94, z94), (95, z95), (96, z96), (97, z97), (98, z98), (99, z99), (100, z100), (101, z101), (102, z102), (103, z103), (104, z104), (105, z105), (106, z106), (107, z107), (108, z108), (110, z110), (116, z116), (117, z117), (123, z123), (128, z128), (133, z133), (140, z140), (148, z148), (152, z152), (175, z175), (179, z179), (192, z192), (196, z196)]
def tab : Tab := { ty := tyOf tyL, sz := fun t => (szL.lookup t).getD 0, by_ := fun t => (byL.lookup t).getD 0, zero := fun t => (zeroL.lookup t).getD default }
theorem ty1 : tab.ty 1 = .fn := rfl
theorem ty2 : tab.ty 2 = .int .i64 := rfl
theorem ty3 : tab.ty 3 = .int .i64 := rfl
theorem by3 : tab.by_ 3 = 8 := rfl
theorem ty4 : tab.ty 4 = .bool := rfl
theorem ty5 : tab.ty 5 = .int .u8 := rfl
theorem ty9 : tab.ty 9 = .str := rfl
theorem ty12 : tab.ty 12 = .int .u64 := rfl
theorem ty21 : tab.ty 21 = .int .i32 := rfl
theorem ty22 : tab.ty 22 = .slice 152 := rfl
theorem ty23 : tab.ty 23 = .slice 3 := rfl
theorem by23 : tab.by_ 23 = 24 := rfl
theorem ty24 : tab.ty 24 = .slice 100 := rfl
theorem ty25 : tab.ty 25 = .struct [22, 3, 23, 24] := rfl
theorem ty26 : tab.ty 26 = .struct [22, 3, 23, 24] := rfl
theorem ty27 : tab.ty 27 = .slice 49 := rfl
theorem ty28 : tab.ty 28 = .struct [3, 3, 3] := rfl
theorem ty29 : tab.ty 29 = .struct [3, 3, 3] := rfl
theorem ty30 : tab.ty 30 = .slice 55 := rfl
theorem ty31 : tab.ty 31 = .arr 8 2 := rfl
theorem ty32 : tab.ty 32 = .arr 4 3 := rfl
theorem ty33 : tab.ty 33 = .arr 4 2 := rfl
theorem ty34 : tab.ty 34 = .struct [33, 3, 4, 3, 3, 2] := rfl
theorem ty35 : tab.ty 35 = .struct [33, 3, 4, 3, 3, 2] := rfl
theorem ty36 : tab.ty 36 = .arr 4 35 := rfl
theorem ty37 : tab.ty 37 = .struct [3, 3, 3, 3, 31] := rfl
theorem ty38 : tab.ty 38 = .struct [3, 3, 3, 3, 31] := rfl
theorem ty39 : tab.ty 39 = .arr 6 38 := rfl
theorem ty40 : tab.ty 40 = .struct [31, 32, 36, 39, 3] := rfl
theorem ty41 : tab.ty 41 = .struct [31, 32, 36, 39, 3] := rfl
theorem by41 : tab.by_ 41 = 968 := rfl
theorem zero41 : tab.zero 41 = z41 := rfl
theorem ty42 : tab.ty 42 = .struct [30, 41, 4] := rfl
theorem ty43 : tab.ty 43 = .struct [30, 41, 4] := rfl
theorem ty45 : tab.ty 45 = .fn := rfl
theorem ty46 : tab.ty 46 = .fn := rfl
theorem ty47 : tab.ty 47 = .fn := rfl
theorem ty48 : tab.ty 48 = .struct [3, 3] := rfl
theorem ty49 : tab.ty 49 = .struct [3, 3] := rfl
theorem by49 : tab.by_ 49 = 16 := rfl
theorem zero49 : tab.zero 49 = z49 := rfl
theorem ty50 : tab.ty 50 = .int .i64 := rfl
theorem ty51 : tab.ty 51 = .struct [3, 3, 4] := rfl
theorem ty52 : tab.ty 52 = .struct [3, 3, 4] := rfl
theorem by52 : tab.by_ 52 = 24 := rfl
theorem zero52 : tab.zero 52 = z52 := rfl
theorem ty53 : tab.ty 53 = .arr 6 52 := rfl
theorem zero53 : tab.zero 53 = z53 := rfl
theorem ty54 : tab.ty 54 = .struct [3, 3, 3, 50, 3, 2, 2, 53, 3] := rfl
theorem ty55 : tab.ty 55 = .struct [3, 3, 3, 50, 3, 2, 2, 53, 3] := rfl
theorem by55 : tab.by_ 55 = 208 := rfl
theorem zero55 : tab.zero 55 = z55 := rfl
theorem ty57 : tab.ty 57 = .fn := rfl
theorem ty58 : tab.ty 58 = .int .i64 := rfl
theorem ty60 : tab.ty 60 = .fn := rfl
theorem ty61 : tab.ty 61 = .fn := rfl
theorem ty62 : tab.ty 62 = .fn := rfl
theorem ty63 : tab.ty 63 = .slice 41 := rfl
theorem ty65 : tab.ty 65 = .fn := rfl
theorem ty66 : tab.ty 66 = .fn := rfl
theorem ty67 : tab.ty 67 = .slice 23 := rfl
theorem ty69 : tab.ty 69 = .fn := rfl
theorem ty71 : tab.ty 71 = .fn := rfl
theorem ty72 : tab.ty 72 = .fn := rfl
theorem ty73 : tab.ty 73 = .fn := rfl
theorem ty74 : tab.ty 74 = .fn := rfl
theorem ty76 : tab.ty 76 = .fn := rfl
theorem ty77 : tab.ty 77 = .fn := rfl
theorem ty78 : tab.ty 78 = .arr 4 4 := rfl
theorem zero78 : tab.zero 78 = z78 := rfl
theorem ty79 : tab.ty 79 = .arr 4 4 := rfl
theorem by79 : tab.by_ 79 = 4 := rfl
theorem zero79 : tab.zero 79 = z79 := rfl
theorem ty80 : tab.ty 80 = .slice 79 := rfl
theorem ty81 : tab.ty 81 = .fn := rfl
theorem ty82 : tab.ty 82 = .fn := rfl
theorem ty84 : tab.ty 84 = .fn := rfl
theorem ty85 : tab.ty 85 = .fn := rfl
theorem ty86 : tab.ty 86 = .fn := rfl
theorem ty87 : tab.ty 87 = .fn := rfl
theorem ty88 : tab.ty 88 = .struct [3, 3, 3, 3] := rfl
theorem ty89 : tab.ty 89 = .struct [3, 3, 3, 3] := rfl
theorem by89 : tab.by_ 89 = 32 := rfl
theorem zero89 : tab.zero 89 = z89 := rfl
theorem ty90 : tab.ty 90 = .fn := rfl
theorem ty91 : tab.ty 91 = .fn := rfl
theorem ty92 : tab.ty 92 = .slice 89 := rfl
theorem ty93 : tab.ty 93 = .fn := rfl
theorem ty94 : tab.ty 94 = .fn := rfl
theorem ty95 : tab.ty 95 = .fn := rfl
theorem ty96 : tab.ty 96 = .fn := rfl
theorem ty97 : tab.ty 97 = .slice 105 := rfl
theorem ty98 : tab.ty 98 = .slice 103 := rfl
theorem ty99 : tab.ty 99 = .struct [3, 3, 97, 98] := rfl
theorem ty100 : tab.ty 100 = .struct [3, 3, 97, 98] := rfl
theorem ty101 : tab.ty 101 = .slice 108 := rfl
theorem ty102 : tab.ty 102 = .struct [101, 3] := rfl
theorem ty103 : tab.ty 103 = .struct [101, 3] := rfl
theorem ty104 : tab.ty 104 = .struct [50, 3, 3, 3, 2] := rfl
theorem ty105 : tab.ty 105 = .struct [50, 3, 3, 3, 2] := rfl
theorem ty106 : tab.ty 106 = .fn := rfl
theorem ty107 : tab.ty 107 = .struct [4, 3, 3, 3] := rfl
theorem ty108 : tab.ty 108 = .struct [4, 3, 3, 3] := rfl
theorem ty110 : tab.ty 110 = .struct [41, 2, 3, 3] := rfl
theorem ty116 : tab.ty 116 = .fn := rfl
theorem ty117 : tab.ty 117 = .arr 6 79 := rfl
theorem zero117 : tab.zero 117 = z117 := rfl
theorem ty123 : tab.ty 123 = .fn := rfl
theorem ty128 : tab.ty 128 = .fn := rfl
theorem ty133 : tab.ty 133 = .fn := rfl
theorem ty140 : tab.ty 140 = .slice 52 := rfl
theorem ty148 : tab.ty 148 = .struct [3, 3] := rfl
theorem zero148 : tab.zero 148 = z148 := rfl
theorem ty152 : tab.ty 152 = .struct [4, 2] := rfl
theorem ty175 : tab.ty 175 = .int .u64 := rfl
theorem ty179 : tab.ty 179 = .int .u64 := rfl
theorem ty192 : tab.ty 192 = .int .u32 := rfl
theorem ty196 : tab.ty 196 = .ptr 5 := rfl
def c2 : List Value := [.int .i64 0]
theorem f2 (w : World) (F : Nat → Prop) : Fits tab w F 2 z2 c2 := .int rfl (by unfold IntKind.has; decide)
def c3 : List Value := [.int .i64 0]
theorem f3 (w : World) (F : Nat → Prop) : Fits tab w F 3 z3 c3 := .int rfl (by unfold IntKind.has; decide)
def c4 : List Value := [.bool false]
theorem f4 (w : World) (F : Nat → Prop) : Fits tab w F 4 z4 c4 := .bool rfl
def c5 : List Value := [.int .u8 0]
theorem f5 (w : World) (F : Nat → Prop) : Fits tab w F 5 z5 c5 := .int rfl (by unfold IntKind.has; decide)
def c9 : List Value := [.string ByteArray.empty]
theorem f9 (w : World) (F : Nat → Prop) : Fits tab w F 9 z9 c9 := .str rfl
def c12 : List Value := [.int .u64 0]
theorem f12 (w : World) (F : Nat → Prop) : Fits tab w F 12 z12 c12 := .int rfl (by unfold IntKind.has; decide)
def c21 : List Value := [.int .i32 0]
theorem f21 (w : World) (F : Nat → Prop) : Fits tab w F 21 z21 c21 := .int rfl (by unfold IntKind.has; decide)
def c22 : List Value := [.slice none 0 0]
theorem f22 (w : World) (F : Nat → Prop) : Fits tab w F 22 z22 c22 := .nil rfl
def c23 : List Value := [.slice none 0 0]
theorem f23 (w : World) (F : Nat → Prop) : Fits tab w F 23 z23 c23 := .nil rfl
def c24 : List Value := [.slice none 0 0]
theorem f24 (w : World) (F : Nat → Prop) : Fits tab w F 24 z24 c24 := .nil rfl
def c25 : List Value := c22 ++ (c3 ++ (c23 ++ (c24 ++ [])))
theorem f25 (w : World) (F : Nat → Prop) : Fits tab w F 25 z25 c25 := .struct (ts := [22, 3, 23, 24]) rfl (.cons (f22 w F) (.cons (f3 w F) (.cons (f23 w F) (.cons (f24 w F) (.nil)))))
def c26 : List Value := c22 ++ (c3 ++ (c23 ++ (c24 ++ [])))
theorem f26 (w : World) (F : Nat → Prop) : Fits tab w F 26 z26 c26 := .struct (ts := [22, 3, 23, 24]) rfl (.cons (f22 w F) (.cons (f3 w F) (.cons (f23 w F) (.cons (f24 w F) (.nil)))))
def c27 : List Value := [.slice none 0 0]
theorem f27 (w : World) (F : Nat → Prop) : Fits tab w F 27 z27 c27 := .nil rfl
def c28 : List Value := c3 ++ (c3 ++ (c3 ++ []))
theorem f28 (w : World) (F : Nat → Prop) : Fits tab w F 28 z28 c28 := .struct (ts := [3, 3, 3]) rfl (.cons (f3 w F) (.cons (f3 w F) (.cons (f3 w F) (.nil))))
def c29 : List Value := c3 ++ (c3 ++ (c3 ++ []))
theorem f29 (w : World) (F : Nat → Prop) : Fits tab w F 29 z29 c29 := .struct (ts := [3, 3, 3]) rfl (.cons (f3 w F) (.cons (f3 w F) (.cons (f3 w F) (.nil))))
def c30 : List Value := [.slice none 0 0]
theorem f30 (w : World) (F : Nat → Prop) : Fits tab w F 30 z30 c30 := .nil rfl
def c31 : List Value := (List.replicate 8 c2).flatten
theorem f31 (w : World) (F : Nat → Prop) : Fits tab w F 31 z31 c31 := .arr (n := 8) (e := 2) rfl (FitsL.repl (f2 w F) 8)
def c32 : List Value := (List.replicate 4 c3).flatten
theorem f32 (w : World) (F : Nat → Prop) : Fits tab w F 32 z32 c32 := .arr (n := 4) (e := 3) rfl (FitsL.repl (f3 w F) 4)
def c33 : List Value := (List.replicate 4 c2).flatten
theorem f33 (w : World) (F : Nat → Prop) : Fits tab w F 33 z33 c33 := .arr (n := 4) (e := 2) rfl (FitsL.repl (f2 w F) 4)
def c34 : List Value := c33 ++ (c3 ++ (c4 ++ (c3 ++ (c3 ++ (c2 ++ [])))))
theorem f34 (w : World) (F : Nat → Prop) : Fits tab w F 34 z34 c34 := .struct (ts := [33, 3, 4, 3, 3, 2]) rfl (.cons (f33 w F) (.cons (f3 w F) (.cons (f4 w F) (.cons (f3 w F) (.cons (f3 w F) (.cons (f2 w F) (.nil)))))))
def c35 : List Value := c33 ++ (c3 ++ (c4 ++ (c3 ++ (c3 ++ (c2 ++ [])))))
theorem f35 (w : World) (F : Nat → Prop) : Fits tab w F 35 z35 c35 := .struct (ts := [33, 3, 4, 3, 3, 2]) rfl (.cons (f33 w F) (.cons (f3 w F) (.cons (f4 w F) (.cons (f3 w F) (.cons (f3 w F) (.cons (f2 w F) (.nil)))))))
def c36 : List Value := (List.replicate 4 c35).flatten
theorem f36 (w : World) (F : Nat → Prop) : Fits tab w F 36 z36 c36 := .arr (n := 4) (e := 35) rfl (FitsL.repl (f35 w F) 4)
def c37 : List Value := c3 ++ (c3 ++ (c3 ++ (c3 ++ (c31 ++ []))))
theorem f37 (w : World) (F : Nat → Prop) : Fits tab w F 37 z37 c37 := .struct (ts := [3, 3, 3, 3, 31]) rfl (.cons (f3 w F) (.cons (f3 w F) (.cons (f3 w F) (.cons (f3 w F) (.cons (f31 w F) (.nil))))))
def c38 : List Value := c3 ++ (c3 ++ (c3 ++ (c3 ++ (c31 ++ []))))
theorem f38 (w : World) (F : Nat → Prop) : Fits tab w F 38 z38 c38 := .struct (ts := [3, 3, 3, 3, 31]) rfl (.cons (f3 w F) (.cons (f3 w F) (.cons (f3 w F) (.cons (f3 w F) (.cons (f31 w F) (.nil))))))
def c39 : List Value := (List.replicate 6 c38).flatten
theorem f39 (w : World) (F : Nat → Prop) : Fits tab w F 39 z39 c39 := .arr (n := 6) (e := 38) rfl (FitsL.repl (f38 w F) 6)
def c40 : List Value := c31 ++ (c32 ++ (c36 ++ (c39 ++ (c3 ++ []))))
theorem f40 (w : World) (F : Nat → Prop) : Fits tab w F 40 z40 c40 := .struct (ts := [31, 32, 36, 39, 3]) rfl (.cons (f31 w F) (.cons (f32 w F) (.cons (f36 w F) (.cons (f39 w F) (.cons (f3 w F) (.nil))))))
def c41 : List Value := c31 ++ (c32 ++ (c36 ++ (c39 ++ (c3 ++ []))))
theorem f41 (w : World) (F : Nat → Prop) : Fits tab w F 41 z41 c41 := .struct (ts := [31, 32, 36, 39, 3]) rfl (.cons (f31 w F) (.cons (f32 w F) (.cons (f36 w F) (.cons (f39 w F) (.cons (f3 w F) (.nil))))))
def c42 : List Value := c30 ++ (c41 ++ (c4 ++ []))
theorem f42 (w : World) (F : Nat → Prop) : Fits tab w F 42 z42 c42 := .struct (ts := [30, 41, 4]) rfl (.cons (f30 w F) (.cons (f41 w F) (.cons (f4 w F) (.nil))))
def c43 : List Value := c30 ++ (c41 ++ (c4 ++ []))
theorem f43 (w : World) (F : Nat → Prop) : Fits tab w F 43 z43 c43 := .struct (ts := [30, 41, 4]) rfl (.cons (f30 w F) (.cons (f41 w F) (.cons (f4 w F) (.nil))))
def c48 : List Value := c3 ++ (c3 ++ [])
theorem f48 (w : World) (F : Nat → Prop) : Fits tab w F 48 z48 c48 := .struct (ts := [3, 3]) rfl (.cons (f3 w F) (.cons (f3 w F) (.nil)))
def c49 : List Value := c3 ++ (c3 ++ [])
theorem f49 (w : World) (F : Nat → Prop) : Fits tab w F 49 z49 c49 := .struct (ts := [3, 3]) rfl (.cons (f3 w F) (.cons (f3 w F) (.nil)))
def c50 : List Value := [.int .i64 0]
theorem f50 (w : World) (F : Nat → Prop) : Fits tab w F 50 z50 c50 := .int rfl (by unfold IntKind.has; decide)
def c51 : List Value := c3 ++ (c3 ++ (c4 ++ []))
theorem f51 (w : World) (F : Nat → Prop) : Fits tab w F 51 z51 c51 := .struct (ts := [3, 3, 4]) rfl (.cons (f3 w F) (.cons (f3 w F) (.cons (f4 w F) (.nil))))
def c52 : List Value := c3 ++ (c3 ++ (c4 ++ []))
theorem f52 (w : World) (F : Nat → Prop) : Fits tab w F 52 z52 c52 := .struct (ts := [3, 3, 4]) rfl (.cons (f3 w F) (.cons (f3 w F) (.cons (f4 w F) (.nil))))
def c53 : List Value := (List.replicate 6 c52).flatten
theorem f53 (w : World) (F : Nat → Prop) : Fits tab w F 53 z53 c53 := .arr (n := 6) (e := 52) rfl (FitsL.repl (f52 w F) 6)
def c54 : List Value := c3 ++ (c3 ++ (c3 ++ (c50 ++ (c3 ++ (c2 ++ (c2 ++ (c53 ++ (c3 ++ []))))))))
theorem f54 (w : World) (F : Nat → Prop) : Fits tab w F 54 z54 c54 := .struct (ts := [3, 3, 3, 50, 3, 2, 2, 53, 3]) rfl (.cons (f3 w F) (.cons (f3 w F) (.cons (f3 w F) (.cons (f50 w F) (.cons (f3 w F) (.cons (f2 w F) (.cons (f2 w F) (.cons (f53 w F) (.cons (f3 w F) (.nil))))))))))
def c55 : List Value := c3 ++ (c3 ++ (c3 ++ (c50 ++ (c3 ++ (c2 ++ (c2 ++ (c53 ++ (c3 ++ []))))))))
theorem f55 (w : World) (F : Nat → Prop) : Fits tab w F 55 z55 c55 := .struct (ts := [3, 3, 3, 50, 3, 2, 2, 53, 3]) rfl (.cons (f3 w F) (.cons (f3 w F) (.cons (f3 w F) (.cons (f50 w F) (.cons (f3 w F) (.cons (f2 w F) (.cons (f2 w F) (.cons (f53 w F) (.cons (f3 w F) (.nil))))))))))
def c58 : List Value := [.int .i64 0]
theorem f58 (w : World) (F : Nat → Prop) : Fits tab w F 58 z58 c58 := .int rfl (by unfold IntKind.has; decide)
def c63 : List Value := [.slice none 0 0]
theorem f63 (w : World) (F : Nat → Prop) : Fits tab w F 63 z63 c63 := .nil rfl
def c67 : List Value := [.slice none 0 0]
theorem f67 (w : World) (F : Nat → Prop) : Fits tab w F 67 z67 c67 := .nil rfl
def c78 : List Value := (List.replicate 4 c4).flatten
theorem f78 (w : World) (F : Nat → Prop) : Fits tab w F 78 z78 c78 := .arr (n := 4) (e := 4) rfl (FitsL.repl (f4 w F) 4)
def c79 : List Value := (List.replicate 4 c4).flatten
theorem f79 (w : World) (F : Nat → Prop) : Fits tab w F 79 z79 c79 := .arr (n := 4) (e := 4) rfl (FitsL.repl (f4 w F) 4)
def c80 : List Value := [.slice none 0 0]
theorem f80 (w : World) (F : Nat → Prop) : Fits tab w F 80 z80 c80 := .nil rfl
def c88 : List Value := c3 ++ (c3 ++ (c3 ++ (c3 ++ [])))
theorem f88 (w : World) (F : Nat → Prop) : Fits tab w F 88 z88 c88 := .struct (ts := [3, 3, 3, 3]) rfl (.cons (f3 w F) (.cons (f3 w F) (.cons (f3 w F) (.cons (f3 w F) (.nil)))))
def c89 : List Value := c3 ++ (c3 ++ (c3 ++ (c3 ++ [])))
theorem f89 (w : World) (F : Nat → Prop) : Fits tab w F 89 z89 c89 := .struct (ts := [3, 3, 3, 3]) rfl (.cons (f3 w F) (.cons (f3 w F) (.cons (f3 w F) (.cons (f3 w F) (.nil)))))
def c92 : List Value := [.slice none 0 0]
theorem f92 (w : World) (F : Nat → Prop) : Fits tab w F 92 z92 c92 := .nil rfl
def c97 : List Value := [.slice none 0 0]
theorem f97 (w : World) (F : Nat → Prop) : Fits tab w F 97 z97 c97 := .nil rfl
def c98 : List Value := [.slice none 0 0]
theorem f98 (w : World) (F : Nat → Prop) : Fits tab w F 98 z98 c98 := .nil rfl
def c99 : List Value := c3 ++ (c3 ++ (c97 ++ (c98 ++ [])))
theorem f99 (w : World) (F : Nat → Prop) : Fits tab w F 99 z99 c99 := .struct (ts := [3, 3, 97, 98]) rfl (.cons (f3 w F) (.cons (f3 w F) (.cons (f97 w F) (.cons (f98 w F) (.nil)))))
def c100 : List Value := c3 ++ (c3 ++ (c97 ++ (c98 ++ [])))
theorem f100 (w : World) (F : Nat → Prop) : Fits tab w F 100 z100 c100 := .struct (ts := [3, 3, 97, 98]) rfl (.cons (f3 w F) (.cons (f3 w F) (.cons (f97 w F) (.cons (f98 w F) (.nil)))))
def c101 : List Value := [.slice none 0 0]
theorem f101 (w : World) (F : Nat → Prop) : Fits tab w F 101 z101 c101 := .nil rfl
def c102 : List Value := c101 ++ (c3 ++ [])
theorem f102 (w : World) (F : Nat → Prop) : Fits tab w F 102 z102 c102 := .struct (ts := [101, 3]) rfl (.cons (f101 w F) (.cons (f3 w F) (.nil)))
def c103 : List Value := c101 ++ (c3 ++ [])
theorem f103 (w : World) (F : Nat → Prop) : Fits tab w F 103 z103 c103 := .struct (ts := [101, 3]) rfl (.cons (f101 w F) (.cons (f3 w F) (.nil)))
def c104 : List Value := c50 ++ (c3 ++ (c3 ++ (c3 ++ (c2 ++ []))))
theorem f104 (w : World) (F : Nat → Prop) : Fits tab w F 104 z104 c104 := .struct (ts := [50, 3, 3, 3, 2]) rfl (.cons (f50 w F) (.cons (f3 w F) (.cons (f3 w F) (.cons (f3 w F) (.cons (f2 w F) (.nil))))))
def c105 : List Value := c50 ++ (c3 ++ (c3 ++ (c3 ++ (c2 ++ []))))
theorem f105 (w : World) (F : Nat → Prop) : Fits tab w F 105 z105 c105 := .struct (ts := [50, 3, 3, 3, 2]) rfl (.cons (f50 w F) (.cons (f3 w F) (.cons (f3 w F) (.cons (f3 w F) (.cons (f2 w F) (.nil))))))
def c107 : List Value := c4 ++ (c3 ++ (c3 ++ (c3 ++ [])))
theorem f107 (w : World) (F : Nat → Prop) : Fits tab w F 107 z107 c107 := .struct (ts := [4, 3, 3, 3]) rfl (.cons (f4 w F) (.cons (f3 w F) (.cons (f3 w F) (.cons (f3 w F) (.nil)))))
def c108 : List Value := c4 ++ (c3 ++ (c3 ++ (c3 ++ [])))
theorem f108 (w : World) (F : Nat → Prop) : Fits tab w F 108 z108 c108 := .struct (ts := [4, 3, 3, 3]) rfl (.cons (f4 w F) (.cons (f3 w F) (.cons (f3 w F) (.cons (f3 w F) (.nil)))))
def c110 : List Value := c41 ++ (c2 ++ (c3 ++ (c3 ++ [])))
theorem f110 (w : World) (F : Nat → Prop) : Fits tab w F 110 z110 c110 := .struct (ts := [41, 2, 3, 3]) rfl (.cons (f41 w F) (.cons (f2 w F) (.cons (f3 w F) (.cons (f3 w F) (.nil)))))
def c117 : List Value := (List.replicate 6 c79).flatten
theorem f117 (w : World) (F : Nat → Prop) : Fits tab w F 117 z117 c117 := .arr (n := 6) (e := 79) rfl (FitsL.repl (f79 w F) 6)
def c140 : List Value := [.slice none 0 0]
theorem f140 (w : World) (F : Nat → Prop) : Fits tab w F 140 z140 c140 := .nil rfl
def c148 : List Value := c3 ++ (c3 ++ [])
theorem f148 (w : World) (F : Nat → Prop) : Fits tab w F 148 z148 c148 := .struct (ts := [3, 3]) rfl (.cons (f3 w F) (.cons (f3 w F) (.nil)))
def c152 : List Value := c4 ++ (c2 ++ [])
theorem f152 (w : World) (F : Nat → Prop) : Fits tab w F 152 z152 c152 := .struct (ts := [4, 2]) rfl (.cons (f4 w F) (.cons (f2 w F) (.nil)))
def c175 : List Value := [.int .u64 0]
theorem f175 (w : World) (F : Nat → Prop) : Fits tab w F 175 z175 c175 := .int rfl (by unfold IntKind.has; decide)
def c179 : List Value := [.int .u64 0]
theorem f179 (w : World) (F : Nat → Prop) : Fits tab w F 179 z179 c179 := .int rfl (by unfold IntKind.has; decide)
def c192 : List Value := [.int .u32 0]
theorem f192 (w : World) (F : Nat → Prop) : Fits tab w F 192 z192 c192 := .int rfl (by unfold IntKind.has; decide)
theorem row1 : RowOk Go.Proofs.Tryz.prog tab 1 (.fn) := ⟨⟨⟨_, _, _, Go.Proofs.Tryz.underlying1⟩, rfl⟩, .nilFunc, by kernel_rfl, by kernel_rfl, by kernel_rfl, by first | rfl | (simp [TyD.isAgg, Value.cells]; done) | (simp [TyD.isAgg, Value.oneCell']; done), (fun h => absurd rfl h), fun _ => rfl, (fun _ h => by cases h)⟩
theorem row2 : RowOk Go.Proofs.Tryz.prog tab 2 (.int .i64) := ⟨⟨by kernel_rfl, rfl⟩, (.int .i64 0), by kernel_rfl, by kernel_rfl, by kernel_rfl, by first | rfl | (simp [TyD.isAgg, Value.cells]; done) | (simp [TyD.isAgg, Value.oneCell']; done), (fun _ _ w F => (f2 w F : Fits tab w F 2 z2 c2)), (fun h => by cases h), (fun _ h => by cases h)⟩
theorem row3 : RowOk Go.Proofs.Tryz.prog tab 3 (.int .i64) := ⟨⟨by kernel_rfl, rfl⟩, (.int .i64 0), by kernel_rfl, by kernel_rfl, by kernel_rfl, by first | rfl | (simp [TyD.isAgg, Value.cells]; done) | (simp [TyD.isAgg, Value.oneCell']; done), (fun _ _ w F => (f3 w F : Fits tab w F 3 z3 c3)), (fun h => by cases h), (fun _ h => by cases h)⟩
theorem row4 : RowOk Go.Proofs.Tryz.prog tab 4 (.bool) := ⟨⟨by kernel_rfl, rfl⟩, (.bool false), by kernel_rfl, by kernel_rfl, by kernel_rfl, by first | rfl | (simp [TyD.isAgg, Value.cells]; done) | (simp [TyD.isAgg, Value.oneCell']; done), (fun _ _ w F => (f4 w F : Fits tab w F 4 z4 c4)), (fun h => by cases h), (fun _ h => by cases h)⟩
theorem row5 : RowOk Go.Proofs.Tryz.prog tab 5 (.int .u8) := ⟨⟨by kernel_rfl, rfl⟩, (.int .u8 0), by kernel_rfl, by kernel_rfl, by kernel_rfl, by first | rfl | (simp [TyD.isAgg, Value.cells]; done) | (simp [TyD.isAgg, Value.oneCell']; done), (fun _ _ w F => (f5 w F : Fits tab w F 5 z5 c5)), (fun h => by cases h), (fun _ h => by cases h)⟩
theorem row9 : RowOk Go.Proofs.Tryz.prog tab 9 (.str) := ⟨⟨by kernel_rfl, rfl⟩, (.string ByteArray.empty), by kernel_rfl, by kernel_rfl, by kernel_rfl, by first | rfl | (simp [TyD.isAgg, Value.cells]; done) | (simp [TyD.isAgg, Value.oneCell']; done), (fun _ _ w F => (f9 w F : Fits tab w F 9 z9 c9)), (fun h => by cases h), (fun _ h => by cases h)⟩
theorem row12 : RowOk Go.Proofs.Tryz.prog tab 12 (.int .u64) := ⟨⟨by kernel_rfl, rfl⟩, (.int .u64 0), by kernel_rfl, by kernel_rfl, by kernel_rfl, by first | rfl | (simp [TyD.isAgg, Value.cells]; done) | (simp [TyD.isAgg, Value.oneCell']; done), (fun _ _ w F => (f12 w F : Fits tab w F 12 z12 c12)), (fun h => by cases h), (fun _ h => by cases h)⟩
theorem row21 : RowOk Go.Proofs.Tryz.prog tab 21 (.int .i32) := ⟨⟨by kernel_rfl, rfl⟩, (.int .i32 0), by kernel_rfl, by kernel_rfl, by kernel_rfl, by first | rfl | (simp [TyD.isAgg, Value.cells]; done) | (simp [TyD.isAgg, Value.oneCell']; done), (fun _ _ w F => (f21 w F : Fits tab w F 21 z21 c21)), (fun h => by cases h), (fun _ h => by cases h)⟩
theorem row22 : RowOk Go.Proofs.Tryz.prog tab 22 (.slice 152) := ⟨⟨⟨by kernel_rfl, by rw [ty152]; simp⟩, rfl, by decide⟩, (.slice none 0 0), by kernel_rfl, by kernel_rfl, by kernel_rfl, by first | rfl | (simp [TyD.isAgg, Value.cells]; done) | (simp [TyD.isAgg, Value.oneCell']; done), (fun _ _ w F => (f22 w F : Fits tab w F 22 z22 c22)), (fun h => by cases h), fun _ _ => rfl⟩
theorem row23 : RowOk Go.Proofs.Tryz.prog tab 23 (.slice 3) := ⟨⟨⟨by kernel_rfl, by rw [ty3]; simp⟩, rfl, by decide⟩, (.slice none 0 0), by kernel_rfl, by kernel_rfl, by kernel_rfl, by first | rfl | (simp [TyD.isAgg, Value.cells]; done) | (simp [TyD.isAgg, Value.oneCell']; done), (fun _ _ w F => (f23 w F : Fits tab w F 23 z23 c23)), (fun h => by cases h), fun _ _ => rfl⟩
theorem row24 : RowOk Go.Proofs.Tryz.prog tab 24 (.slice 100) := ⟨⟨⟨by kernel_rfl, by rw [ty100]; simp⟩, rfl, by decide⟩, (.slice none 0 0), by kernel_rfl, by kernel_rfl, by kernel_rfl, by first | rfl | (simp [TyD.isAgg, Value.cells]; done) | (simp [TyD.isAgg, Value.oneCell']; done), (fun _ _ w F => (f24 w F : Fits tab w F 24 z24 c24)), (fun h => by cases h), fun _ _ => rfl⟩
theorem row25 : RowOk Go.Proofs.Tryz.prog tab 25 (.struct [22, 3, 23, 24]) := ⟨⟨⟨_, Go.Proofs.Tryz.underlying25, by kernel_rfl, by kernel_rfl, by kernel_rfl⟩, rfl, by kernel_rfl⟩, (.agg c25.toArray), by kernel_rfl, by kernel_rfl, by kernel_rfl, by first | rfl | (simp [TyD.isAgg, Value.cells]; done) | (simp [TyD.isAgg, Value.oneCell']; done), (fun _ _ w F => (f25 w F : Fits tab w F 25 z25 c25)), (fun h => by cases h), (fun _ h => by cases h)⟩
theorem row26 : RowOk Go.Proofs.Tryz.prog tab 26 (.struct [22, 3, 23, 24]) := ⟨⟨⟨_, Go.Proofs.Tryz.underlying26, by kernel_rfl, by kernel_rfl, by kernel_rfl⟩, rfl, by kernel_rfl⟩, (.agg c26.toArray), by kernel_rfl, by kernel_rfl, by kernel_rfl, by first | rfl | (simp [TyD.isAgg, Value.cells]; done) | (simp [TyD.isAgg, Value.oneCell']; done), (fun _ _ w F => (f26 w F : Fits tab w F 26 z26 c26)), (fun h => by cases h), (fun _ h => by cases h)⟩
theorem row27 : RowOk Go.Proofs.Tryz.prog tab 27 (.slice 49) := ⟨⟨⟨by kernel_rfl, by rw [ty49]; simp⟩, rfl, by decide⟩, (.slice none 0 0), by kernel_rfl, by kernel_rfl, by kernel_rfl, by first | rfl | (simp [TyD.isAgg, Value.cells]; done) | (simp [TyD.isAgg, Value.oneCell']; done), (fun _ _ w F => (f27 w F : Fits tab w F 27 z27 c27)), (fun h => by cases h), fun _ _ => rfl⟩
theorem row28 : RowOk Go.Proofs.Tryz.prog tab 28 (.struct [3, 3, 3]) := ⟨⟨⟨_, Go.Proofs.Tryz.underlying28, by kernel_rfl, by kernel_rfl, by kernel_rfl⟩, rfl, by kernel_rfl⟩, (.agg c28.toArray), by kernel_rfl, by kernel_rfl, by kernel_rfl, by first | rfl | (simp [TyD.isAgg, Value.cells]; done) | (simp [TyD.isAgg, Value.oneCell']; done), (fun _ _ w F => (f28 w F : Fits tab w F 28 z28 c28)), (fun h => by cases h), (fun _ h => by cases h)⟩
theorem row29 : RowOk Go.Proofs.Tryz.prog tab 29 (.struct [3, 3, 3]) := ⟨⟨⟨_, Go.Proofs.Tryz.underlying29, by kernel_rfl, by kernel_rfl, by kernel_rfl⟩, rfl, by kernel_rfl⟩, (.agg c29.toArray), by kernel_rfl, by kernel_rfl, by kernel_rfl, by first | rfl | (simp [TyD.isAgg, Value.cells]; done) | (simp [TyD.isAgg, Value.oneCell']; done), (fun _ _ w F => (f29 w F : Fits tab w F 29 z29 c29)), (fun h => by cases h), (fun _ h => by cases h)⟩
theorem row30 : RowOk Go.Proofs.Tryz.prog tab 30 (.slice 55) := ⟨⟨⟨by kernel_rfl, by rw [ty55]; simp⟩, rfl, by decide⟩, (.slice none 0 0), by kernel_rfl, by kernel_rfl, by kernel_rfl, by first | rfl | (simp [TyD.isAgg, Value.cells]; done) | (simp [TyD.isAgg, Value.oneCell']; done), (fun _ _ w F => (f30 w F : Fits tab w F 30 z30 c30)), (fun h => by cases h), fun _ _ => rfl⟩
theorem row31 : RowOk Go.Proofs.Tryz.prog tab 31 (.arr 8 2) := ⟨⟨⟨by kernel_rfl, by decide, by decide, by rw [ty2]; simp⟩, rfl, by kernel_rfl⟩, (.agg c31.toArray), by kernel_rfl, by kernel_rfl, by kernel_rfl, by first | rfl | (simp [TyD.isAgg, Value.cells]; done) | (simp [TyD.isAgg, Value.oneCell']; done), (fun _ _ w F => (f31 w F : Fits tab w F 31 z31 c31)), (fun h => by cases h), (fun _ h => by cases h)⟩
theorem row32 : RowOk Go.Proofs.Tryz.prog tab 32 (.arr 4 3) := ⟨⟨⟨by kernel_rfl, by decide, by decide, by rw [ty3]; simp⟩, rfl, by kernel_rfl⟩, (.agg c32.toArray), by kernel_rfl, by kernel_rfl, by kernel_rfl, by first | rfl | (simp [TyD.isAgg, Value.cells]; done) | (simp [TyD.isAgg, Value.oneCell']; done), (fun _ _ w F => (f32 w F : Fits tab w F 32 z32 c32)), (fun h => by cases h), (fun _ h => by cases h)⟩
theorem row33 : RowOk Go.Proofs.Tryz.prog tab 33 (.arr 4 2) := ⟨⟨⟨by kernel_rfl, by decide, by decide, by rw [ty2]; simp⟩, rfl, by kernel_rfl⟩, (.agg c33.toArray), by kernel_rfl, by kernel_rfl, by kernel_rfl, by first | rfl | (simp [TyD.isAgg, Value.cells]; done) | (simp [TyD.isAgg, Value.oneCell']; done), (fun _ _ w F => (f33 w F : Fits tab w F 33 z33 c33)), (fun h => by cases h), (fun _ h => by cases h)⟩
theorem row34 : RowOk Go.Proofs.Tryz.prog tab 34 (.struct [33, 3, 4, 3, 3, 2]) := ⟨⟨⟨_, Go.Proofs.Tryz.underlying34, by kernel_rfl, by kernel_rfl, by kernel_rfl⟩, rfl, by kernel_rfl⟩, (.agg c34.toArray), by kernel_rfl, by kernel_rfl, by kernel_rfl, by first | rfl | (simp [TyD.isAgg, Value.cells]; done) | (simp [TyD.isAgg, Value.oneCell']; done), (fun _ _ w F => (f34 w F : Fits tab w F 34 z34 c34)), (fun h => by cases h), (fun _ h => by cases h)⟩
theorem row35 : RowOk Go.Proofs.Tryz.prog tab 35 (.struct [33, 3, 4, 3, 3, 2]) := ⟨⟨⟨_, Go.Proofs.Tryz.underlying35, by kernel_rfl, by kernel_rfl, by kernel_rfl⟩, rfl, by kernel_rfl⟩, (.agg c35.toArray), by kernel_rfl, by kernel_rfl, by kernel_rfl, by first | rfl | (simp [TyD.isAgg, Value.cells]; done) | (simp [TyD.isAgg, Value.oneCell']; done), (fun _ _ w F => (f35 w F : Fits tab w F 35 z35 c35)), (fun h => by cases h), (fun _ h => by cases h)⟩
theorem row36 : RowOk Go.Proofs.Tryz.prog tab 36 (.arr 4 35) := ⟨⟨⟨by kernel_rfl, by decide, by decide, by rw [ty35]; simp⟩, rfl, by kernel_rfl⟩, (.agg c36.toArray), by kernel_rfl, by kernel_rfl, by kernel_rfl, by first | rfl | (simp [TyD.isAgg, Value.cells]; done) | (simp [TyD.isAgg, Value.oneCell']; done), (fun _ _ w F => (f36 w F : Fits tab w F 36 z36 c36)), (fun h => by cases h), (fun _ h => by cases h)⟩
theorem row37 : RowOk Go.Proofs.Tryz.prog tab 37 (.struct [3, 3, 3, 3, 31]) := ⟨⟨⟨_, Go.Proofs.Tryz.underlying37, by kernel_rfl, by kernel_rfl, by kernel_rfl⟩, rfl, by kernel_rfl⟩, (.agg c37.toArray), by kernel_rfl, by kernel_rfl, by kernel_rfl, by first | rfl | (simp [TyD.isAgg, Value.cells]; done) | (simp [TyD.isAgg, Value.oneCell']; done), (fun _ _ w F => (f37 w F : Fits tab w F 37 z37 c37)), (fun h => by cases h), (fun _ h => by cases h)⟩
theorem row38 : RowOk Go.Proofs.Tryz.prog tab 38 (.struct [3, 3, 3, 3, 31]) := ⟨⟨⟨_, Go.Proofs.Tryz.underlying38, by kernel_rfl, by kernel_rfl, by kernel_rfl⟩, rfl, by kernel_rfl⟩, (.agg c38.toArray), by kernel_rfl, by kernel_rfl, by kernel_rfl, by first | rfl | (simp [TyD.isAgg, Value.cells]; done) | (simp [TyD.isAgg, Value.oneCell']; done), (fun _ _ w F => (f38 w F : Fits tab w F 38 z38 c38)), (fun h => by cases h), (fun _ h => by cases h)⟩
theorem row39 : RowOk Go.Proofs.Tryz.prog tab 39 (.arr 6 38) := ⟨⟨⟨by kernel_rfl, by decide, by decide, by rw [ty38]; simp⟩, rfl, by kernel_rfl⟩, (.agg c39.toArray), by kernel_rfl, by kernel_rfl, by kernel_rfl, by first | rfl | (simp [TyD.isAgg, Value.cells]; done) | (simp [TyD.isAgg, Value.oneCell']; done), (fun _ _ w F => (f39 w F : Fits tab w F 39 z39 c39)), (fun h => by cases h), (fun _ h => by cases h)⟩
theorem row40 : RowOk Go.Proofs.Tryz.prog tab 40 (.struct [31, 32, 36, 39, 3]) := ⟨⟨⟨_, Go.Proofs.Tryz.underlying40, by kernel_rfl, by kernel_rfl, by kernel_rfl⟩, rfl, by kernel_rfl⟩, (.agg c40.toArray), by kernel_rfl, by kernel_rfl, by kernel_rfl, by first | rfl | (simp [TyD.isAgg, Value.cells]; done) | (simp [TyD.isAgg, Value.oneCell']; done), (fun _ _ w F => (f40 w F : Fits tab w F 40 z40 c40)), (fun h => by cases h), (fun _ h => by cases h)⟩
theorem row41 : RowOk Go.Proofs.Tryz.prog tab 41 (.struct [31, 32, 36, 39, 3]) := ⟨⟨⟨_, Go.Proofs.Tryz.underlying41, by kernel_rfl, by kernel_rfl, by kernel_rfl⟩, rfl, by kernel_rfl⟩, (.agg c41.toArray), by kernel_rfl, by kernel_rfl, by kernel_rfl, by first | rfl | (simp [TyD.isAgg, Value.cells]; done) | (simp [TyD.isAgg, Value.oneCell']; done), (fun _ _ w F => (f41 w F : Fits tab w F 41 z41 c41)), (fun h => by cases h), (fun _ h => by cases h)⟩
theorem row42 : RowOk Go.Proofs.Tryz.prog tab 42 (.struct [30, 41, 4]) := ⟨⟨⟨_, Go.Proofs.Tryz.underlying42, by kernel_rfl, by kernel_rfl, by kernel_rfl⟩, rfl, by kernel_rfl⟩, (.agg c42.toArray), by kernel_rfl, by kernel_rfl, by kernel_rfl, by first | rfl | (simp [TyD.isAgg, Value.cells]; done) | (simp [TyD.isAgg, Value.oneCell']; done), (fun _ _ w F => (f42 w F : Fits tab w F 42 z42 c42)), (fun h => by cases h), (fun _ h => by cases h)⟩
theorem row43 : RowOk Go.Proofs.Tryz.prog tab 43 (.struct [30, 41, 4]) := ⟨⟨⟨_, Go.Proofs.Tryz.underlying43, by kernel_rfl, by kernel_rfl, by kernel_rfl⟩, rfl, by kernel_rfl⟩, (.agg c43.toArray), by kernel_rfl, by kernel_rfl, by kernel_rfl, by first | rfl | (simp [TyD.isAgg, Value.cells]; done) | (simp [TyD.isAgg, Value.oneCell']; done), (fun _ _ w F => (f43 w F : Fits tab w F 43 z43 c43)), (fun h => by cases h), (fun _ h => by cases h)⟩
theorem row45 : RowOk Go.Proofs.Tryz.prog tab 45 (.fn) := ⟨⟨⟨_, _, _, Go.Proofs.Tryz.underlying45⟩, rfl⟩, .nilFunc, by kernel_rfl, by kernel_rfl, by kernel_rfl, by first | rfl | (simp [TyD.isAgg, Value.cells]; done) | (simp [TyD.isAgg, Value.oneCell']; done), (fun h => absurd rfl h), fun _ => rfl, (fun _ h => by cases h)⟩
theorem row46 : RowOk Go.Proofs.Tryz.prog tab 46 (.fn) := ⟨⟨⟨_, _, _, Go.Proofs.Tryz.underlying46⟩, rfl⟩, .nilFunc, by kernel_rfl, by kernel_rfl, by kernel_rfl, by first | rfl | (simp [TyD.isAgg, Value.cells]; done) | (simp [TyD.isAgg, Value.oneCell']; done), (fun h => absurd rfl h), fun _ => rfl, (fun _ h => by cases h)⟩
theorem row47 : RowOk Go.Proofs.Tryz.prog tab 47 (.fn) := ⟨⟨⟨_, _, _, Go.Proofs.Tryz.underlying47⟩, rfl⟩, .nilFunc, by kernel_rfl, by kernel_rfl, by kernel_rfl, by first | rfl | (simp [TyD.isAgg, Value.cells]; done) | (simp [TyD.isAgg, Value.oneCell']; done), (fun h => absurd rfl h), fun _ => rfl, (fun _ h => by cases h)⟩
theorem row48 : RowOk Go.Proofs.Tryz.prog tab 48 (.struct [3, 3]) := ⟨⟨⟨_, Go.Proofs.Tryz.underlying48, by kernel_rfl, by kernel_rfl, by kernel_rfl⟩, rfl, by kernel_rfl⟩, (.agg c48.toArray), by kernel_rfl, by kernel_rfl, by kernel_rfl, by first | rfl | (simp [TyD.isAgg, Value.cells]; done) | (simp [TyD.isAgg, Value.oneCell']; done), (fun _ _ w F => (f48 w F : Fits tab w F 48 z48 c48)), (fun h => by cases h), (fun _ h => by cases h)⟩
theorem row49 : RowOk Go.Proofs.Tryz.prog tab 49 (.struct [3, 3]) := ⟨⟨⟨_, Go.Proofs.Tryz.underlying49, by kernel_rfl, by kernel_rfl, by kernel_rfl⟩, rfl, by kernel_rfl⟩, (.agg c49.toArray), by kernel_rfl, by kernel_rfl, by kernel_rfl, by first | rfl | (simp [TyD.isAgg, Value.cells]; done) | (simp [TyD.isAgg, Value.oneCell']; done), (fun _ _ w F => (f49 w F : Fits tab w F 49 z49 c49)), (fun h => by cases h), (fun _ h => by cases h)⟩
theorem row50 : RowOk Go.Proofs.Tryz.prog tab 50 (.int .i64) := ⟨⟨by kernel_rfl, rfl⟩, (.int .i64 0), by kernel_rfl, by kernel_rfl, by kernel_rfl, by first | rfl | (simp [TyD.isAgg, Value.cells]; done) | (simp [TyD.isAgg, Value.oneCell']; done), (fun _ _ w F => (f50 w F : Fits tab w F 50 z50 c50)), (fun h => by cases h), (fun _ h => by cases h)⟩
theorem row51 : RowOk Go.Proofs.Tryz.prog tab 51 (.struct [3, 3, 4]) := ⟨⟨⟨_, Go.Proofs.Tryz.underlying51, by kernel_rfl, by kernel_rfl, by kernel_rfl⟩, rfl, by kernel_rfl⟩, (.agg c51.toArray), by kernel_rfl, by kernel_rfl, by kernel_rfl, by first | rfl | (simp [TyD.isAgg, Value.cells]; done) | (simp [TyD.isAgg, Value.oneCell']; done), (fun _ _ w F => (f51 w F : Fits tab w F 51 z51 c51)), (fun h => by cases h), (fun _ h => by cases h)⟩
theorem row52 : RowOk Go.Proofs.Tryz.prog tab 52 (.struct [3, 3, 4]) := ⟨⟨⟨_, Go.Proofs.Tryz.underlying52, by kernel_rfl, by kernel_rfl, by kernel_rfl⟩, rfl, by kernel_rfl⟩, (.agg c52.toArray), by kernel_rfl, by kernel_rfl, by kernel_rfl, by first | rfl | (simp [TyD.isAgg, Value.cells]; done) | (simp [TyD.isAgg, Value.oneCell']; done), (fun _ _ w F => (f52 w F : Fits tab w F 52 z52 c52)), (fun h => by cases h), (fun _ h => by cases h)⟩
theorem row53 : RowOk Go.Proofs.Tryz.prog tab 53 (.arr 6 52) := ⟨⟨⟨by kernel_rfl, by decide, by decide, by rw [ty52]; simp⟩, rfl, by kernel_rfl⟩, (.agg c53.toArray), by kernel_rfl, by kernel_rfl, by kernel_rfl, by first | rfl | (simp [TyD.isAgg, Value.cells]; done) | (simp [TyD.isAgg, Value.oneCell']; done), (fun _ _ w F => (f53 w F : Fits tab w F 53 z53 c53)), (fun h => by cases h), (fun _ h => by cases h)⟩
theorem row54 : RowOk Go.Proofs.Tryz.prog tab 54 (.struct [3, 3, 3, 50, 3, 2, 2, 53, 3]) := ⟨⟨⟨_, Go.Proofs.Tryz.underlying54, by kernel_rfl, by kernel_rfl, by kernel_rfl⟩, rfl, by kernel_rfl⟩, (.agg c54.toArray), by kernel_rfl, by kernel_rfl, by kernel_rfl, by first | rfl | (simp [TyD.isAgg, Value.cells]; done) | (simp [TyD.isAgg, Value.oneCell']; done), (fun _ _ w F => (f54 w F : Fits tab w F 54 z54 c54)), (fun h => by cases h), (fun _ h => by cases h)⟩
theorem row55 : RowOk Go.Proofs.Tryz.prog tab 55 (.struct [3, 3, 3, 50, 3, 2, 2, 53, 3]) := ⟨⟨⟨_, Go.Proofs.Tryz.underlying55, by kernel_rfl, by kernel_rfl, by kernel_rfl⟩, rfl, by kernel_rfl⟩, (.agg c55.toArray), by kernel_rfl, by kernel_rfl, by kernel_rfl, by first | rfl | (simp [TyD.isAgg, Value.cells]; done) | (simp [TyD.isAgg, Value.oneCell']; done), (fun _ _ w F => (f55 w F : Fits tab w F 55 z55 c55)), (fun h => by cases h), (fun _ h => by cases h)⟩
theorem row57 : RowOk Go.Proofs.Tryz.prog tab 57 (.fn) := ⟨⟨⟨_, _, _, Go.Proofs.Tryz.underlying57⟩, rfl⟩, .nilFunc, by kernel_rfl, by kernel_rfl, by kernel_rfl, by first | rfl | (simp [TyD.isAgg, Value.cells]; done) | (simp [TyD.isAgg, Value.oneCell']; done), (fun h => absurd rfl h), fun _ => rfl, (fun _ h => by cases h)⟩
theorem row58 : RowOk Go.Proofs.Tryz.prog tab 58 (.int .i64) := ⟨⟨by kernel_rfl, rfl⟩, (.int .i64 0), by kernel_rfl, by kernel_rfl, by kernel_rfl, by first | rfl | (simp [TyD.isAgg, Value.cells]; done) | (simp [TyD.isAgg, Value.oneCell']; done), (fun _ _ w F => (f58 w F : Fits tab w F 58 z58 c58)), (fun h => by cases h), (fun _ h => by cases h)⟩
theorem row60 : RowOk Go.Proofs.Tryz.prog tab 60 (.fn) := ⟨⟨⟨_, _, _, Go.Proofs.Tryz.underlying60⟩, rfl⟩, .nilFunc, by kernel_rfl, by kernel_rfl, by kernel_rfl, by first | rfl | (simp [TyD.isAgg, Value.cells]; done) | (simp [TyD.isAgg, Value.oneCell']; done), (fun h => absurd rfl h), fun _ => rfl, (fun _ h => by cases h)⟩
theorem row61 : RowOk Go.Proofs.Tryz.prog tab 61 (.fn) := ⟨⟨⟨_, _, _, Go.Proofs.Tryz.underlying61⟩, rfl⟩, .nilFunc, by kernel_rfl, by kernel_rfl, by kernel_rfl, by first | rfl | (simp [TyD.isAgg, Value.cells]; done) | (simp [TyD.isAgg, Value.oneCell']; done), (fun h => absurd rfl h), fun _ => rfl, (fun _ h => by cases h)⟩
theorem row62 : RowOk Go.Proofs.Tryz.prog tab 62 (.fn) := ⟨⟨⟨_, _, _, Go.Proofs.Tryz.underlying62⟩, rfl⟩, .nilFunc, by kernel_rfl, by kernel_rfl, by kernel_rfl, by first | rfl | (simp [TyD.isAgg, Value.cells]; done) | (simp [TyD.isAgg, Value.oneCell']; done), (fun h => absurd rfl h), fun _ => rfl, (fun _ h => by cases h)⟩
theorem row63 : RowOk Go.Proofs.Tryz.prog tab 63 (.slice 41) := ⟨⟨⟨by kernel_rfl, by rw [ty41]; simp⟩, rfl, by decide⟩, (.slice none 0 0), by kernel_rfl, by kernel_rfl, by kernel_rfl, by first | rfl | (simp [TyD.isAgg, Value.cells]; done) | (simp [TyD.isAgg, Value.oneCell']; done), (fun _ _ w F => (f63 w F : Fits tab w F 63 z63 c63)), (fun h => by cases h), fun _ _ => rfl⟩
theorem row65 : RowOk Go.Proofs.Tryz.prog tab 65 (.fn) := ⟨⟨⟨_, _, _, Go.Proofs.Tryz.underlying65⟩, rfl⟩, .nilFunc, by kernel_rfl, by kernel_rfl, by kernel_rfl, by first | rfl | (simp [TyD.isAgg, Value.cells]; done) | (simp [TyD.isAgg, Value.oneCell']; done), (fun h => absurd rfl h), fun _ => rfl, (fun _ h => by cases h)⟩
theorem row66 : RowOk Go.Proofs.Tryz.prog tab 66 (.fn) := ⟨⟨⟨_, _, _, Go.Proofs.Tryz.underlying66⟩, rfl⟩, .nilFunc, by kernel_rfl, by kernel_rfl, by kernel_rfl, by first | rfl | (simp [TyD.isAgg, Value.cells]; done) | (simp [TyD.isAgg, Value.oneCell']; done), (fun h => absurd rfl h), fun _ => rfl, (fun _ h => by cases h)⟩
theorem row67 : RowOk Go.Proofs.Tryz.prog tab 67 (.slice 23) := ⟨⟨⟨by kernel_rfl, by rw [ty23]; simp⟩, rfl, by decide⟩, (.slice none 0 0), by kernel_rfl, by kernel_rfl, by kernel_rfl, by first | rfl | (simp [TyD.isAgg, Value.cells]; done) | (simp [TyD.isAgg, Value.oneCell']; done), (fun _ _ w F => (f67 w F : Fits tab w F 67 z67 c67)), (fun h => by cases h), fun _ _ => rfl⟩
theorem row69 : RowOk Go.Proofs.Tryz.prog tab 69 (.fn) := ⟨⟨⟨_, _, _, Go.Proofs.Tryz.underlying69⟩, rfl⟩, .nilFunc, by kernel_rfl, by kernel_rfl, by kernel_rfl, by first | rfl | (simp [TyD.isAgg, Value.cells]; done) | (simp [TyD.isAgg, Value.oneCell']; done), (fun h => absurd rfl h), fun _ => rfl, (fun _ h => by cases h)⟩
theorem row71 : RowOk Go.Proofs.Tryz.prog tab 71 (.fn) := ⟨⟨⟨_, _, _, Go.Proofs.Tryz.underlying71⟩, rfl⟩, .nilFunc, by kernel_rfl, by kernel_rfl, by kernel_rfl, by first | rfl | (simp [TyD.isAgg, Value.cells]; done) | (simp [TyD.isAgg, Value.oneCell']; done), (fun h => absurd rfl h), fun _ => rfl, (fun _ h => by cases h)⟩
theorem row72 : RowOk Go.Proofs.Tryz.prog tab 72 (.fn) := ⟨⟨⟨_, _, _, Go.Proofs.Tryz.underlying72⟩, rfl⟩, .nilFunc, by kernel_rfl, by kernel_rfl, by kernel_rfl, by first | rfl | (simp [TyD.isAgg, Value.cells]; done) | (simp [TyD.isAgg, Value.oneCell']; done), (fun h => absurd rfl h), fun _ => rfl, (fun _ h => by cases h)⟩
theorem row73 : RowOk Go.Proofs.Tryz.prog tab 73 (.fn) := ⟨⟨⟨_, _, _, Go.Proofs.Tryz.underlying73⟩, rfl⟩, .nilFunc, by kernel_rfl, by kernel_rfl, by kernel_rfl, by first | rfl | (simp [TyD.isAgg, Value.cells]; done) | (simp [TyD.isAgg, Value.oneCell']; done), (fun h => absurd rfl h), fun _ => rfl, (fun _ h => by cases h)⟩
theorem row74 : RowOk Go.Proofs.Tryz.prog tab 74 (.fn) := ⟨⟨⟨_, _, _, Go.Proofs.Tryz.underlying74⟩, rfl⟩, .nilFunc, by kernel_rfl, by kernel_rfl, by kernel_rfl, by first | rfl | (simp [TyD.isAgg, Value.cells]; done) | (simp [TyD.isAgg, Value.oneCell']; done), (fun h => absurd rfl h), fun _ => rfl, (fun _ h => by cases h)⟩
theorem row76 : RowOk Go.Proofs.Tryz.prog tab 76 (.fn) := ⟨⟨⟨_, _, _, Go.Proofs.Tryz.underlying76⟩, rfl⟩, .nilFunc, by kernel_rfl, by kernel_rfl, by kernel_rfl, by first | rfl | (simp [TyD.isAgg, Value.cells]; done) | (simp [TyD.isAgg, Value.oneCell']; done), (fun h => absurd rfl h), fun _ => rfl, (fun _ h => by cases h)⟩
theorem row77 : RowOk Go.Proofs.Tryz.prog tab 77 (.fn) := ⟨⟨⟨_, _, _, Go.Proofs.Tryz.underlying77⟩, rfl⟩, .nilFunc, by kernel_rfl, by kernel_rfl, by kernel_rfl, by first | rfl | (simp [TyD.isAgg, Value.cells]; done) | (simp [TyD.isAgg, Value.oneCell']; done), (fun h => absurd rfl h), fun _ => rfl, (fun _ h => by cases h)⟩
theorem row78 : RowOk Go.Proofs.Tryz.prog tab 78 (.arr 4 4) := ⟨⟨⟨by kernel_rfl, by decide, by decide, by rw [ty4]; simp⟩, rfl, by kernel_rfl⟩, (.agg c78.toArray), by kernel_rfl, by kernel_rfl, by kernel_rfl, by first | rfl | (simp [TyD.isAgg, Value.cells]; done) | (simp [TyD.isAgg, Value.oneCell']; done), (fun _ _ w F => (f78 w F : Fits tab w F 78 z78 c78)), (fun h => by cases h), (fun _ h => by cases h)⟩
theorem row79 : RowOk Go.Proofs.Tryz.prog tab 79 (.arr 4 4) := ⟨⟨⟨by kernel_rfl, by decide, by decide, by rw [ty4]; simp⟩, rfl, by kernel_rfl⟩, (.agg c79.toArray), by kernel_rfl, by kernel_rfl, by kernel_rfl, by first | rfl | (simp [TyD.isAgg, Value.cells]; done) | (simp [TyD.isAgg, Value.oneCell']; done), (fun _ _ w F => (f79 w F : Fits tab w F 79 z79 c79)), (fun h => by cases h), (fun _ h => by cases h)⟩
theorem row80 : RowOk Go.Proofs.Tryz.prog tab 80 (.slice 79) := ⟨⟨⟨by kernel_rfl, by rw [ty79]; simp⟩, rfl, by decide⟩, (.slice none 0 0), by kernel_rfl, by kernel_rfl, by kernel_rfl, by first | rfl | (simp [TyD.isAgg, Value.cells]; done) | (simp [TyD.isAgg, Value.oneCell']; done), (fun _ _ w F => (f80 w F : Fits tab w F 80 z80 c80)), (fun h => by cases h), fun _ _ => rfl⟩
theorem row81 : RowOk Go.Proofs.Tryz.prog tab 81 (.fn) := ⟨⟨⟨_, _, _, Go.Proofs.Tryz.underlying81⟩, rfl⟩, .nilFunc, by kernel_rfl, by kernel_rfl, by kernel_rfl, by first | rfl | (simp [TyD.isAgg, Value.cells]; done) | (simp [TyD.isAgg, Value.oneCell']; done), (fun h => absurd rfl h), fun _ => rfl, (fun _ h => by cases h)⟩
theorem row82 : RowOk Go.Proofs.Tryz.prog tab 82 (.fn) := ⟨⟨⟨_, _, _, Go.Proofs.Tryz.underlying82⟩, rfl⟩, .nilFunc, by kernel_rfl, by kernel_rfl, by kernel_rfl, by first | rfl | (simp [TyD.isAgg, Value.cells]; done) | (simp [TyD.isAgg, Value.oneCell']; done), (fun h => absurd rfl h), fun _ => rfl, (fun _ h => by cases h)⟩
theorem row84 : RowOk Go.Proofs.Tryz.prog tab 84 (.fn) := ⟨⟨⟨_, _, _, Go.Proofs.Tryz.underlying84⟩, rfl⟩, .nilFunc, by kernel_rfl, by kernel_rfl, by kernel_rfl, by first | rfl | (simp [TyD.isAgg, Value.cells]; done) | (simp [TyD.isAgg, Value.oneCell']; done), (fun h => absurd rfl h), fun _ => rfl, (fun _ h => by cases h)⟩
theorem row85 : RowOk Go.Proofs.Tryz.prog tab 85 (.fn) := ⟨⟨⟨_, _, _, Go.Proofs.Tryz.underlying85⟩, rfl⟩, .nilFunc, by kernel_rfl, by kernel_rfl, by kernel_rfl, by first | rfl | (simp [TyD.isAgg, Value.cells]; done) | (simp [TyD.isAgg, Value.oneCell']; done), (fun h => absurd rfl h), fun _ => rfl, (fun _ h => by cases h)⟩
theorem row86 : RowOk Go.Proofs.Tryz.prog tab 86 (.fn) := ⟨⟨⟨_, _, _, Go.Proofs.Tryz.underlying86⟩, rfl⟩, .nilFunc, by kernel_rfl, by kernel_rfl, by kernel_rfl, by first | rfl | (simp [TyD.isAgg, Value.cells]; done) | (simp [TyD.isAgg, Value.oneCell']; done), (fun h => absurd rfl h), fun _ => rfl, (fun _ h => by cases h)⟩
theorem row87 : RowOk Go.Proofs.Tryz.prog tab 87 (.fn) := ⟨⟨⟨_, _, _, Go.Proofs.Tryz.underlying87⟩, rfl⟩, .nilFunc, by kernel_rfl, by kernel_rfl, by kernel_rfl, by first | rfl | (simp [TyD.isAgg, Value.cells]; done) | (simp [TyD.isAgg, Value.oneCell']; done), (fun h => absurd rfl h), fun _ => rfl, (fun _ h => by cases h)⟩
theorem row88 : RowOk Go.Proofs.Tryz.prog tab 88 (.struct [3, 3, 3, 3]) := ⟨⟨⟨_, Go.Proofs.Tryz.underlying88, by kernel_rfl, by kernel_rfl, by kernel_rfl⟩, rfl, by kernel_rfl⟩, (.agg c88.toArray), by kernel_rfl, by kernel_rfl, by kernel_rfl, by first | rfl | (simp [TyD.isAgg, Value.cells]; done) | (simp [TyD.isAgg, Value.oneCell']; done), (fun _ _ w F => (f88 w F : Fits tab w F 88 z88 c88)), (fun h => by cases h), (fun _ h => by cases h)⟩
theorem row89 : RowOk Go.Proofs.Tryz.prog tab 89 (.struct [3, 3, 3, 3]) := ⟨⟨⟨_, Go.Proofs.Tryz.underlying89, by kernel_rfl, by kernel_rfl, by kernel_rfl⟩, rfl, by kernel_rfl⟩, (.agg c89.toArray), by kernel_rfl, by kernel_rfl, by kernel_rfl, by first | rfl | (simp [TyD.isAgg, Value.cells]; done) | (simp [TyD.isAgg, Value.oneCell']; done), (fun _ _ w F => (f89 w F : Fits tab w F 89 z89 c89)), (fun h => by cases h), (fun _ h => by cases h)⟩
theorem row90 : RowOk Go.Proofs.Tryz.prog tab 90 (.fn) := ⟨⟨⟨_, _, _, Go.Proofs.Tryz.underlying90⟩, rfl⟩, .nilFunc, by kernel_rfl, by kernel_rfl, by kernel_rfl, by first | rfl | (simp [TyD.isAgg, Value.cells]; done) | (simp [TyD.isAgg, Value.oneCell']; done), (fun h => absurd rfl h), fun _ => rfl, (fun _ h => by cases h)⟩
theorem row91 : RowOk Go.Proofs.Tryz.prog tab 91 (.fn) := ⟨⟨⟨_, _, _, Go.Proofs.Tryz.underlying91⟩, rfl⟩, .nilFunc, by kernel_rfl, by kernel_rfl, by kernel_rfl, by first | rfl | (simp [TyD.isAgg, Value.cells]; done) | (simp [TyD.isAgg, Value.oneCell']; done), (fun h => absurd rfl h), fun _ => rfl, (fun _ h => by cases h)⟩
theorem row92 : RowOk Go.Proofs.Tryz.prog tab 92 (.slice 89) := ⟨⟨⟨by kernel_rfl, by rw [ty89]; simp⟩, rfl, by decide⟩, (.slice none 0 0), by kernel_rfl, by kernel_rfl, by kernel_rfl, by first | rfl | (simp [TyD.isAgg, Value.cells]; done) | (simp [TyD.isAgg, Value.oneCell']; done), (fun _ _ w F => (f92 w F : Fits tab w F 92 z92 c92)), (fun h => by cases h), fun _ _ => rfl⟩
theorem row93 : RowOk Go.Proofs.Tryz.prog tab 93 (.fn) := ⟨⟨⟨_, _, _, Go.Proofs.Tryz.underlying93⟩, rfl⟩, .nilFunc, by kernel_rfl, by kernel_rfl, by kernel_rfl, by first | rfl | (simp [TyD.isAgg, Value.cells]; done) | (simp [TyD.isAgg, Value.oneCell']; done), (fun h => absurd rfl h), fun _ => rfl, (fun _ h => by cases h)⟩
theorem row94 : RowOk Go.Proofs.Tryz.prog tab 94 (.fn) := ⟨⟨⟨_, _, _, Go.Proofs.Tryz.underlying94⟩, rfl⟩, .nilFunc, by kernel_rfl, by kernel_rfl, by kernel_rfl, by first | rfl | (simp [TyD.isAgg, Value.cells]; done) | (simp [TyD.isAgg, Value.oneCell']; done), (fun h => absurd rfl h), fun _ => rfl, (fun _ h => by cases h)⟩
theorem row95 : RowOk Go.Proofs.Tryz.prog tab 95 (.fn) := ⟨⟨⟨_, _, _, Go.Proofs.Tryz.underlying95⟩, rfl⟩, .nilFunc, by kernel_rfl, by kernel_rfl, by kernel_rfl, by first | rfl | (simp [TyD.isAgg, Value.cells]; done) | (simp [TyD.isAgg, Value.oneCell']; done), (fun h => absurd rfl h), fun _ => rfl, (fun _ h => by cases h)⟩
theorem row96 : RowOk Go.Proofs.Tryz.prog tab 96 (.fn) := ⟨⟨⟨_, _, _, Go.Proofs.Tryz.underlying96⟩, rfl⟩, .nilFunc, by kernel_rfl, by kernel_rfl, by kernel_rfl, by first | rfl | (simp [TyD.isAgg, Value.cells]; done) | (simp [TyD.isAgg, Value.oneCell']; done), (fun h => absurd rfl h), fun _ => rfl, (fun _ h => by cases h)⟩
theorem row97 : RowOk Go.Proofs.Tryz.prog tab 97 (.slice 105) := ⟨⟨⟨by kernel_rfl, by rw [ty105]; simp⟩, rfl, by decide⟩, (.slice none 0 0), by kernel_rfl, by kernel_rfl, by kernel_rfl, by first | rfl | (simp [TyD.isAgg, Value.cells]; done) | (simp [TyD.isAgg, Value.oneCell']; done), (fun _ _ w F => (f97 w F : Fits tab w F 97 z97 c97)), (fun h => by cases h), fun _ _ => rfl⟩
theorem row98 : RowOk Go.Proofs.Tryz.prog tab 98 (.slice 103) := ⟨⟨⟨by kernel_rfl, by rw [ty103]; simp⟩, rfl, by decide⟩, (.slice none 0 0), by kernel_rfl, by kernel_rfl, by kernel_rfl, by first | rfl | (simp [TyD.isAgg, Value.cells]; done) | (simp [TyD.isAgg, Value.oneCell']; done), (fun _ _ w F => (f98 w F : Fits tab w F 98 z98 c98)), (fun h => by cases h), fun _ _ => rfl⟩
theorem row99 : RowOk Go.Proofs.Tryz.prog tab 99 (.struct [3, 3, 97, 98]) := ⟨⟨⟨_, Go.Proofs.Tryz.underlying99, by kernel_rfl, by kernel_rfl, by kernel_rfl⟩, rfl, by kernel_rfl⟩, (.agg c99.toArray), by kernel_rfl, by kernel_rfl, by kernel_rfl, by first | rfl | (simp [TyD.isAgg, Value.cells]; done) | (simp [TyD.isAgg, Value.oneCell']; done), (fun _ _ w F => (f99 w F : Fits tab w F 99 z99 c99)), (fun h => by cases h), (fun _ h => by cases h)⟩
theorem row100 : RowOk Go.Proofs.Tryz.prog tab 100 (.struct [3, 3, 97, 98]) := ⟨⟨⟨_, Go.Proofs.Tryz.underlying100, by kernel_rfl, by kernel_rfl, by kernel_rfl⟩, rfl, by kernel_rfl⟩, (.agg c100.toArray), by kernel_rfl, by kernel_rfl, by kernel_rfl, by first | rfl | (simp [TyD.isAgg, Value.cells]; done) | (simp [TyD.isAgg, Value.oneCell']; done), (fun _ _ w F => (f100 w F : Fits tab w F 100 z100 c100)), (fun h => by cases h), (fun _ h => by cases h)⟩
theorem row101 : RowOk Go.Proofs.Tryz.prog tab 101 (.slice 108) := ⟨⟨⟨by kernel_rfl, by rw [ty108]; simp⟩, rfl, by decide⟩, (.slice none 0 0), by kernel_rfl, by kernel_rfl, by kernel_rfl, by first | rfl | (simp [TyD.isAgg, Value.cells]; done) | (simp [TyD.isAgg, Value.oneCell']; done), (fun _ _ w F => (f101 w F : Fits tab w F 101 z101 c101)), (fun h => by cases h), fun _ _ => rfl⟩
theorem row102 : RowOk Go.Proofs.Tryz.prog tab 102 (.struct [101, 3]) := ⟨⟨⟨_, Go.Proofs.Tryz.underlying102, by kernel_rfl, by kernel_rfl, by kernel_rfl⟩, rfl, by kernel_rfl⟩, (.agg c102.toArray), by kernel_rfl, by kernel_rfl, by kernel_rfl, by first | rfl | (simp [TyD.isAgg, Value.cells]; done) | (simp [TyD.isAgg, Value.oneCell']; done), (fun _ _ w F => (f102 w F : Fits tab w F 102 z102 c102)), (fun h => by cases h), (fun _ h => by cases h)⟩
theorem row103 : RowOk Go.Proofs.Tryz.prog tab 103 (.struct [101, 3]) := ⟨⟨⟨_, Go.Proofs.Tryz.underlying103, by kernel_rfl, by kernel_rfl, by kernel_rfl⟩, rfl, by kernel_rfl⟩, (.agg c103.toArray), by kernel_rfl, by kernel_rfl, by kernel_rfl, by first | rfl | (simp [TyD.isAgg, Value.cells]; done) | (simp [TyD.isAgg, Value.oneCell']; done), (fun _ _ w F => (f103 w F : Fits tab w F 103 z103 c103)), (fun h => by cases h), (fun _ h => by cases h)⟩
theorem row104 : RowOk Go.Proofs.Tryz.prog tab 104 (.struct [50, 3, 3, 3, 2]) := ⟨⟨⟨_, Go.Proofs.Tryz.underlying104, by kernel_rfl, by kernel_rfl, by kernel_rfl⟩, rfl, by kernel_rfl⟩, (.agg c104.toArray), by kernel_rfl, by kernel_rfl, by kernel_rfl, by first | rfl | (simp [TyD.isAgg, Value.cells]; done) | (simp [TyD.isAgg, Value.oneCell']; done), (fun _ _ w F => (f104 w F : Fits tab w F 104 z104 c104)), (fun h => by cases h), (fun _ h => by cases h)⟩
theorem row105 : RowOk Go.Proofs.Tryz.prog tab 105 (.struct [50, 3, 3, 3, 2]) := ⟨⟨⟨_, Go.Proofs.Tryz.underlying105, by kernel_rfl, by kernel_rfl, by kernel_rfl⟩, rfl, by kernel_rfl⟩, (.agg c105.toArray), by kernel_rfl, by kernel_rfl, by kernel_rfl, by first | rfl | (simp [TyD.isAgg, Value.cells]; done) | (simp [TyD.isAgg, Value.oneCell']; done), (fun _ _ w F => (f105 w F : Fits tab w F 105 z105 c105)), (fun h => by cases h), (fun _ h => by cases h)⟩
theorem row106 : RowOk Go.Proofs.Tryz.prog tab 106 (.fn) := ⟨⟨⟨_, _, _, Go.Proofs.Tryz.underlying106⟩, rfl⟩, .nilFunc, by kernel_rfl, by kernel_rfl, by kernel_rfl, by first | rfl | (simp [TyD.isAgg, Value.cells]; done) | (simp [TyD.isAgg, Value.oneCell']; done), (fun h => absurd rfl h), fun _ => rfl, (fun _ h => by cases h)⟩
theorem row107 : RowOk Go.Proofs.Tryz.prog tab 107 (.struct [4, 3, 3, 3]) := ⟨⟨⟨_, Go.Proofs.Tryz.underlying107, by kernel_rfl, by kernel_rfl, by kernel_rfl⟩, rfl, by kernel_rfl⟩, (.agg c107.toArray), by kernel_rfl, by kernel_rfl, by kernel_rfl, by first | rfl | (simp [TyD.isAgg, Value.cells]; done) | (simp [TyD.isAgg, Value.oneCell']; done), (fun _ _ w F => (f107 w F : Fits tab w F 107 z107 c107)), (fun h => by cases h), (fun _ h => by cases h)⟩
theorem row108 : RowOk Go.Proofs.Tryz.prog tab 108 (.struct [4, 3, 3, 3]) := ⟨⟨⟨_, Go.Proofs.Tryz.underlying108, by kernel_rfl, by kernel_rfl, by kernel_rfl⟩, rfl, by kernel_rfl⟩, (.agg c108.toArray), by kernel_rfl, by kernel_rfl, by kernel_rfl, by first | rfl | (simp [TyD.isAgg, Value.cells]; done) | (simp [TyD.isAgg, Value.oneCell']; done), (fun _ _ w F => (f108 w F : Fits tab w F 108 z108 c108)), (fun h => by cases h), (fun _ h => by cases h)⟩
theorem row110 : RowOk Go.Proofs.Tryz.prog tab 110 (.struct [41, 2, 3, 3]) := ⟨⟨⟨_, Go.Proofs.Tryz.underlying110, by kernel_rfl, by kernel_rfl, by kernel_rfl⟩, rfl, by kernel_rfl⟩, (.agg c110.toArray), by kernel_rfl, by kernel_rfl, by kernel_rfl, by first | rfl | (simp [TyD.isAgg, Value.cells]; done) | (simp [TyD.isAgg, Value.oneCell']; done), (fun _ _ w F => (f110 w F : Fits tab w F 110 z110 c110)), (fun h => by cases h), (fun _ h => by cases h)⟩
theorem row116 : RowOk Go.Proofs.Tryz.prog tab 116 (.fn) := ⟨⟨⟨_, _, _, Go.Proofs.Tryz.underlying116⟩, rfl⟩, .nilFunc, by kernel_rfl, by kernel_rfl, by kernel_rfl, by first | rfl | (simp [TyD.isAgg, Value.cells]; done) | (simp [TyD.isAgg, Value.oneCell']; done), (fun h => absurd rfl h), fun _ => rfl, (fun _ h => by cases h)⟩
theorem row117 : RowOk Go.Proofs.Tryz.prog tab 117 (.arr 6 79) := ⟨⟨⟨by kernel_rfl, by decide, by decide, by rw [ty79]; simp⟩, rfl, by kernel_rfl⟩, (.agg c117.toArray), by kernel_rfl, by kernel_rfl, by kernel_rfl, by first | rfl | (simp [TyD.isAgg, Value.cells]; done) | (simp [TyD.isAgg, Value.oneCell']; done), (fun _ _ w F => (f117 w F : Fits tab w F 117 z117 c117)), (fun h => by cases h), (fun _ h => by cases h)⟩
theorem row123 : RowOk Go.Proofs.Tryz.prog tab 123 (.fn) := ⟨⟨⟨_, _, _, Go.Proofs.Tryz.underlying123⟩, rfl⟩, .nilFunc, by kernel_rfl, by kernel_rfl, by kernel_rfl, by first | rfl | (simp [TyD.isAgg, Value.cells]; done) | (simp [TyD.isAgg, Value.oneCell']; done), (fun h => absurd rfl h), fun _ => rfl, (fun _ h => by cases h)⟩
theorem row128 : RowOk Go.Proofs.Tryz.prog tab 128 (.fn) := ⟨⟨⟨_, _, _, Go.Proofs.Tryz.underlying128⟩, rfl⟩, .nilFunc, by kernel_rfl, by kernel_rfl, by kernel_rfl, by first | rfl | (simp [TyD.isAgg, Value.cells]; done) | (simp [TyD.isAgg, Value.oneCell']; done), (fun h => absurd rfl h), fun _ => rfl, (fun _ h => by cases h)⟩
theorem row133 : RowOk Go.Proofs.Tryz.prog tab 133 (.fn) := ⟨⟨⟨_, _, _, Go.Proofs.Tryz.underlying133⟩, rfl⟩, .nilFunc, by kernel_rfl, by kernel_rfl, by kernel_rfl, by first | rfl | (simp [TyD.isAgg, Value.cells]; done) | (simp [TyD.isAgg, Value.oneCell']; done), (fun h => absurd rfl h), fun _ => rfl, (fun _ h => by cases h)⟩
theorem row140 : RowOk Go.Proofs.Tryz.prog tab 140 (.slice 52) := ⟨⟨⟨by kernel_rfl, by rw [ty52]; simp⟩, rfl, by decide⟩, (.slice none 0 0), by kernel_rfl, by kernel_rfl, by kernel_rfl, by first | rfl | (simp [TyD.isAgg, Value.cells]; done) | (simp [TyD.isAgg, Value.oneCell']; done), (fun _ _ w F => (f140 w F : Fits tab w F 140 z140 c140)), (fun h => by cases h), fun _ _ => rfl⟩
theorem row148 : RowOk Go.Proofs.Tryz.prog tab 148 (.struct [3, 3]) := ⟨⟨⟨_, Go.Proofs.Tryz.underlying148, by kernel_rfl, by kernel_rfl, by kernel_rfl⟩, rfl, by kernel_rfl⟩, (.agg c148.toArray), by kernel_rfl, by kernel_rfl, by kernel_rfl, by first | rfl | (simp [TyD.isAgg, Value.cells]; done) | (simp [TyD.isAgg, Value.oneCell']; done), (fun _ _ w F => (f148 w F : Fits tab w F 148 z148 c148)), (fun h => by cases h), (fun _ h => by cases h)⟩
theorem row152 : RowOk Go.Proofs.Tryz.prog tab 152 (.struct [4, 2]) := ⟨⟨⟨_, Go.Proofs.Tryz.underlying152, by kernel_rfl, by kernel_rfl, by kernel_rfl⟩, rfl, by kernel_rfl⟩, (.agg c152.toArray), by kernel_rfl, by kernel_rfl, by kernel_rfl, by first | rfl | (simp [TyD.isAgg, Value.cells]; done) | (simp [TyD.isAgg, Value.oneCell']; done), (fun _ _ w F => (f152 w F : Fits tab w F 152 z152 c152)), (fun h => by cases h), (fun _ h => by cases h)⟩
theorem row175 : RowOk Go.Proofs.Tryz.prog tab 175 (.int .u64) := ⟨⟨by kernel_rfl, rfl⟩, (.int .u64 0), by kernel_rfl, by kernel_rfl, by kernel_rfl, by first | rfl | (simp [TyD.isAgg, Value.cells]; done) | (simp [TyD.isAgg, Value.oneCell']; done), (fun _ _ w F => (f175 w F : Fits tab w F 175 z175 c175)), (fun h => by cases h), (fun _ h => by cases h)⟩
theorem row179 : RowOk Go.Proofs.Tryz.prog tab 179 (.int .u64) := ⟨⟨by kernel_rfl, rfl⟩, (.int .u64 0), by kernel_rfl, by kernel_rfl, by kernel_rfl, by first | rfl | (simp [TyD.isAgg, Value.cells]; done) | (simp [TyD.isAgg, Value.oneCell']; done), (fun _ _ w F => (f179 w F : Fits tab w F 179 z179 c179)), (fun h => by cases h), (fun _ h => by cases h)⟩
theorem row192 : RowOk Go.Proofs.Tryz.prog tab 192 (.int .u32) := ⟨⟨by kernel_rfl, rfl⟩, (.int .u32 0), by kernel_rfl, by kernel_rfl, by kernel_rfl, by first | rfl | (simp [TyD.isAgg, Value.cells]; done) | (simp [TyD.isAgg, Value.oneCell']; done), (fun _ _ w F => (f192 w F : Fits tab w F 192 z192 c192)), (fun h => by cases h), (fun _ h => by cases h)⟩
theorem row196 : RowOk Go.Proofs.Tryz.prog tab 196 (.ptr 5) := ⟨⟨⟨by kernel_rfl, by rw [ty5]; simp⟩, rfl⟩, (.pointer none), by kernel_rfl, by kernel_rfl, by kernel_rfl, by first | rfl | (simp [TyD.isAgg, Value.cells]; done) | (simp [TyD.isAgg, Value.oneCell']; done), (fun _ h => absurd rfl (h _)), (fun h => by cases h), (fun _ h => by cases h)⟩
theorem ok : TabOk Go.Proofs.Tryz.prog tab := tabOk rfl (by
  intro p hp
  simp only [tyL, List.mem_cons, List.not_mem_nil, or_false] at hp
  rcases hp with rfl | rfl | rfl | rfl | rfl | rfl | rfl | rfl | rfl | rfl | rfl | rfl | rfl | rfl | rfl | rfl | rfl | rfl | rfl | rfl | rfl | rfl | rfl | rfl | rfl | rfl | rfl | rfl | rfl | rfl | rfl | rfl | rfl | rfl | rfl | rfl | rfl | rfl | rfl | rfl | rfl | rfl | rfl | rfl | rfl | rfl | rfl | rfl | rfl | rfl | rfl | rfl | rfl | rfl | rfl | rfl | rfl | rfl | rfl | rfl | rfl | rfl | rfl | rfl | rfl | rfl | rfl | rfl | rfl | rfl | rfl | rfl | rfl | rfl | rfl | rfl | rfl | rfl | rfl | rfl | rfl | rfl | rfl | rfl | rfl | rfl | rfl | rfl | rfl | rfl | rfl | rfl | rfl | rfl | rfl | rfl | rfl | rfl | rfl | rfl
  · exact row1
  · exact row2
  · exact row3
  · exact row4
  · exact row5
  · exact row9
  · exact row12
  · exact row21
  · exact row22
  · exact row23
  · exact row24
  · exact row25
  · exact row26
  · exact row27
  · exact row28
  · exact row29
  · exact row30
  · exact row31
  · exact row32
  · exact row33
  · exact row34
  · exact row35
  · exact row36
  · exact row37
  · exact row38
  · exact row39
  · exact row40
  · exact row41
  · exact row42
  · exact row43
  · exact row45
  · exact row46
  · exact row47
  · exact row48
  · exact row49
  · exact row50
  · exact row51
  · exact row52
  · exact row53
  · exact row54
  · exact row55
  · exact row57
  · exact row58
  · exact row60
  · exact row61
  · exact row62
  · exact row63
  · exact row65
  · exact row66
  · exact row67
  · exact row69
  · exact row71
  · exact row72
  · exact row73
  · exact row74
  · exact row76
  · exact row77
  · exact row78
  · exact row79
  · exact row80
  · exact row81
  · exact row82
  · exact row84
  · exact row85
  · exact row86
  · exact row87
  · exact row88
  · exact row89
  · exact row90
  · exact row91
  · exact row92
  · exact row93
  · exact row94
  · exact row95
  · exact row96
  · exact row97
  · exact row98
  · exact row99
  · exact row100
  · exact row101
  · exact row102
  · exact row103
  · exact row104
  · exact row105
  · exact row106
  · exact row107
  · exact row108
  · exact row110
  · exact row116
  · exact row117
  · exact row123
  · exact row128
  · exact row133
  · exact row140
  · exact row148
  · exact row152
  · exact row175
  · exact row179
  · exact row192
  · exact row196)
theorem mixed : Go.Proofs.Tryz.prog.follows .mixedOrders = true := by kernel_rfl
end Go.Eng.Tryz
/- What a state may forget, and how it may be told otherwise; lemmas for walks. -/
namespace Go.Eng
set_option linter.unusedSimpArgs false
set_option linter.unusedVariables false
open Go.RowKit

variable {P : Program} {T : Tab} {w w' : World} {w0 : Base T} {F F' : Nat → Prop} {ρ ρ' : Nat → RI} {σ σ' : St} {a : Act} {outs : List (Array Value)}

mutual
/-- It speaks of no object from k on. -/
def E.under (k : Nat) : E → Bool
  | .sl i _ _ _ _ => Nat.blt i k
  | .ptr i _ _ => Nat.blt i k
  | .rp i _ _ _ => Nat.blt i k
  | .fn _ caps => E.underL k caps
  | .tup l => E.underL k l
  | _ => true
def E.underL (k : Nat) : List E → Bool
  | [] => true
  | e :: es => e.under k && E.underL k es
end

def Tm.under (k : Nat) : Tm → Bool
  | [] => true
  | x :: tm => x.2.2.under k && Tm.under k tm
def outUnder (k : Nat) : List Tm → Bool
  | [] => true
  | x :: l => Tm.under k x && outUnder k l
def obUnder (k : Nat) : List Obj → Bool
  | [] => true
  | .var _ e :: l => e.under k && obUnder k l
  | .erow _ es :: l => E.underL k es && obUnder k l
  | _ :: l => obUnder k l

def St.under (k : Nat) (σ : St) : Bool := Tm.under k σ.tm && outUnder k σ.out && obUnder k (σ.ob.take k)

def cutρ (k : Nat) (ρ : Nat → RI) : Nat → RI := fun i => if i < k then ρ i else .none

mutual
theorem ERel.cut {k : Nat} : ∀ {e : E} {v : Value}, e.under k = true → ERel T w F ρ e v → ERel T w F (cutρ k ρ) e v
  | .int _ _, _, _, h => h
  | .bool _, _, _, h => h
  | .str _, _, _, h => h
  | .data _ _, _, _, h => h
  | .fs _ _ _, _, _, h => h
  | .sl i e lo n c, v, hu, h => by
    have hi : i < k := by simpa [E.under] using hu
    unfold ERel at h ⊢
    rw [cutρ, if_pos hi]; exact h
  | .nilsl, _, _, h => h
  | .ptr i p t, v, hu, h => by
    have hi : i < k := by simpa [E.under] using hu
    unfold ERel at h ⊢
    rw [cutρ, if_pos hi]; exact h
  | .rp i j p t, v, hu, h => by
    have hi : i < k := by simpa [E.under] using hu
    unfold ERel at h ⊢
    rw [cutρ, if_pos hi]; exact h
  | .fptr _ _, _, _, h => h
  | .fn _ _, _, hu, ⟨cs, h1, h2⟩ => ⟨cs, h1, ERelL.cut (by simpa [E.under] using hu) h2⟩
  | .nilfn, _, _, h => h
  | .tup _, _, hu, ⟨vs, h1, h2⟩ => ⟨vs, h1, ERelL.cut (by simpa [E.under] using hu) h2⟩
  | .undef, _, _, _ => trivial
theorem ERelL.cut {k : Nat} : ∀ {l : List E} {vs : List Value}, E.underL k l = true → ERelL T w F ρ l vs → ERelL T w F (cutρ k ρ) l vs
  | [], [], _, h => h
  | e :: es, _ :: _, hu, ⟨h1, h2⟩ => by
    simp only [E.underL, Bool.and_eq_true] at hu
    exact ⟨ERel.cut hu.1 h1, ERelL.cut hu.2 h2⟩
  | [], _ :: _, _, h => h.elim
  | _ :: _, [], _, h => h.elim
end

theorem under_lookup {k : Nat} : ∀ {tm : Tm} {t : Nat} {g : Bool} {e : E}, Tm.under k tm = true → tm.lookup t = some (g, e) → e.under k = true
  | [], _, _, _, _, h => by simp at h
  | (s, g', e') :: tm, t, g, e, hu, h => by
    simp only [Tm.under, Bool.and_eq_true] at hu
    simp only [List.lookup_cons] at h
    by_cases hts : t = s
    · subst hts; simp at h; rw [← h.2]; exact hu.1
    · have : (t == s) = false := by simpa using hts
      rw [this] at h
      exact under_lookup hu.2 h

theorem TmRel.cut {k : Nat} {tm : Tm} {tmps : Array Value} (hu : Tm.under k tm = true) (h : TmRel T w F ρ tm tmps) : TmRel T w F (cutρ k ρ) tm tmps := by
  intro t g e he
  obtain ⟨v, h1, h2, h3⟩ := h t g e he
  exact ⟨v, h1, fun hg => (h2 hg).cut (under_lookup hu he), h3⟩

theorem OutRel.cut {k : Nat} : ∀ {l : List Tm} {vs : List (Array Value)}, outUnder k l = true → OutRel T w F ρ l vs → OutRel T w F (cutρ k ρ) l vs
  | [], [], _, h => h
  | _ :: _, _ :: _, hu, ⟨h1, h2⟩ => by
    simp only [outUnder, Bool.and_eq_true] at hu
    exact ⟨h1.cut hu.1, OutRel.cut hu.2 h2⟩
  | [], _ :: _, _, h => h.elim
  | _ :: _, [], _, h => h.elim

theorem obUnder_get {k : Nat} : ∀ {l : List Obj} {i : Nat} {t : TypeId} {e : E}, obUnder k l = true → l[i]? = some (.var t e) → e.under k = true
  | [], _, _, _, _, h => by simp at h
  | o :: l, 0, t, e, hu, h => by
    simp at h; subst h
    simp only [obUnder, Bool.and_eq_true] at hu
    exact hu.1
  | o :: l, i + 1, t, e, hu, h => by
    have hu' : obUnder k l = true := by
      cases o <;> simp only [obUnder, Bool.and_eq_true] at hu
      · exact hu.2
      · exact hu
      · exact hu.2
      · exact hu
    exact obUnder_get hu' (by simpa using h)

theorem obUnder_getL {k : Nat} : ∀ {l : List Obj} {i : Nat} {t : TypeId} {e : List E}, obUnder k l = true → l[i]? = some (.erow t e) → E.underL k e = true
  | [], _, _, _, _, h => by simp at h
  | o :: l, 0, t, e, hu, h => by
    simp at h; subst h
    simp only [obUnder, Bool.and_eq_true] at hu
    exact hu.1
  | o :: l, i + 1, t, e, hu, h => by
    have hu' : obUnder k l = true := by
      cases o <;> simp only [obUnder, Bool.and_eq_true] at hu
      · exact hu.2
      · exact hu
      · exact hu.2
      · exact hu
    exact obUnder_getL hu' (by simpa using h)

/-- Objects that nothing speaks of are forgotten. -/
theorem St.le.cut (k : Nat) (hu : σ.under k = true) : St.le T σ { σ with ob := σ.ob.take k } := by
  intro w F ρ w0 tmps outs h
  simp only [St.under, Bool.and_eq_true] at hu
  obtain ⟨⟨u1, u2⟩, u3⟩ := hu
  refine ⟨F, cutρ k ρ, h.tm.cut u1, h.out.cut u2, ?_, ?_, ?_, h.fsub, h.below, h.size, h.fold⟩
  · intro i o hi
    have hik : i < k := by
      have := (List.getElem?_eq_some_iff.1 hi).1
      simp at this; omega
    have ho : σ.ob[i]? = some o := by
      simp only [List.getElem?_take, if_pos hik] at hi
      exact hi
    have h1 := h.ob i o ho
    have hc : cutρ k ρ i = ρ i := by simp [cutρ, hik]
    rw [hc]
    cases o with
    | dead => cases hρ : ρ i <;> rw [hρ] at h1 <;> exact h1
    | row e l => exact h1.row_mono (fun _ _ => rfl) (fun _ _ => rfl)
    | erow e l =>
      cases hρ : ρ i with
      | none => rw [hρ] at h1; exact h1.elim
      | var _ _ => rw [hρ] at h1; exact h1.elim
      | row e' r =>
        rw [hρ] at h1
        obtain ⟨q1, q2, q0, xs, q3, q4, q5⟩ := h1
        exact ⟨q1, q2, q0, xs, q3, q4.cut (obUnder_getL u3 hi), q5⟩
    | var t e =>
      cases hρ : ρ i with
      | none => rw [hρ] at h1; exact h1.elim
      | row _ _ => rw [hρ] at h1; exact h1.elim
      | var b t' =>
        rw [hρ] at h1
        obtain ⟨q1, q2, q3, cs, ct, v, q4, q5, q6⟩ := h1
        exact ⟨q1, q2, q3, cs, ct, v, q4, q5.cut (obUnder_get u3 hi), q6⟩
  · intro i hi
    unfold cutρ
    split
    · rename_i hik
      exact h.free i (by simp only [List.getElem?_take, if_pos hik] at hi; exact hi)
    · rfl
  · intro i j b hi hj
    unfold cutρ at hi hj
    split at hi <;> split at hj
    · exact h.inj i j b hi hj
    · simp [RI.block] at hj
    · simp [RI.block] at hi
    · simp [RI.block] at hi

/-- A nil slice is an empty row of the call's own. -/
theorem St.le.own {t : Nat} (e : TypeId) (hl : σ.tm.lookup t = some (true, .nilsl)) : St.le T σ { σ with tm := (t, true, .sl σ.ob.length e 0 0 false) :: σ.tm, ob := σ.ob ++ [.row e []] } := by
  intro w F ρ w0 tmps outs h
  have hadd := h.add (r := .row e (.slice none 0 0)) (o := .row e []) (fun b hb => by simp [RI.block, Value.ownBlock] at hb) ⟨rfl, fun b hb => by simp [Value.ownBlock] at hb, [], World.ownsRow_nil _ _ _ _, .nil⟩
  refine ⟨F, _, ?_, hadd.out, hadd.ob, hadd.free, hadd.inj, hadd.fsub, hadd.below, hadd.size, hadd.fold⟩
  intro s g e' he
  simp only [List.lookup_cons] at he
  by_cases hst : s = t
  · subst hst
    simp at he
    obtain ⟨rfl, rfl⟩ := he
    obtain ⟨v, h1, h2, _⟩ := h.tm _ _ _ hl
    have hv : v = .slice none 0 0 := h2 rfl
    refine ⟨v, h1, fun _ => ?_, by simp⟩
    unfold ERel
    rw [upd_self]
    exact .inl ⟨rfl, hv, rfl, rfl⟩
  · have : (s == t) = false := by simpa using hst
    rw [this] at he
    exact hadd.tm s g e' he

theorem St.le.of_eq (h : σ = σ') : St.le T σ σ' := h ▸ St.le.refl

theorem wrap64_ok {n : Int} (h1 : -9223372036854775808 ≤ n) (h2 : n ≤ 9223372036854775807) : IntKind.i64.wrap n = n := by
  unfold IntKind.wrap
  simp [IntKind.signed, IntKind.bits]
  omega

theorem wrap_succ {n m : Nat} (h : n < m) (hm : m ≤ maxLen) : IntKind.i64.wrap ((n : Int) + 1) = ((n + 1 : Nat) : Int) := by
  unfold maxLen at hm
  rw [wrap64_ok (by omega) (by omega)]
  omega

theorem CallStep.mk {g : Bool} {f : FuncId} {args : List Operand} {d : Option Tmp} {K : St → Prop} {es : List E} (hes : ∀ K : List E → Prop, K es → evalL σ g args K)
    (h : (∃ e, (g = true → CallQ P T σ f es e) ∧ putK σ d g K e) ∨ ((g = true → CallE P T σ f es (putE d K)) ∧ (g = false → putK σ d false K .undef))) : CallStep P T σ g (.func f) args d K := by
  unfold CallStep
  exact hes _ ⟨f, [], rfl, by rw [List.append_nil]; exact h⟩

/-! ### One operation behind the other -/

theorem opsA_cons {P : Program} {T : Tab} {o : SOp} {rest : List SOp} {K : St → Prop} {σ : St} (h : ∀ R : St → Prop, (∀ σ', opsA P T rest K σ' → R σ') → guardA o σ (opG P T o R σ)) : opsA P T (o :: rest) K σ := h _ fun _ x => x
theorem opsA_nil {P : Program} {T : Tab} {K : St → Prop} {σ : St} (h : K σ) : opsA P T [] K σ := h
theorem opsQ_cons {P : Program} {T : Tab} {o : SOp} {rest : List SOp} {K : St → Prop} {σ : St} (h : ∀ R : St → Prop, (∀ σ', opsQ P T rest K σ' → R σ') → guardA o σ (opQ P T o R σ)) : opsQ P T (o :: rest) K σ := h _ fun _ x => x
theorem opsQ_nil {P : Program} {T : Tab} {K : St → Prop} {σ : St} (h : K σ) : opsQ P T [] K σ := h

end Go.Eng
/- An object that is written no more becomes data that nobody writes. -/
namespace Go.Eng
set_option linter.unusedSimpArgs false
set_option linter.unusedVariables false
open Go.RowKit

variable {P : Program} {T : Tab} {w w' : World} {w0 : Base T} {F F' : Nat → Prop} {ρ ρ' : Nat → RI} {σ σ' : St} {a : Act} {outs : List (Array Value)}

mutual
/-- What speaks of object i (a variable that holds v, or a row that holds l) tells the data itself. -/
def E.frz (i : Nat) (v : V) (l : List V) : E → E
  | .sl j e lo len c => if Nat.beq j i then .fs e ((l.drop lo).take len) c else .sl j e lo len c
  | .ptr j p t => if Nat.beq j i then .fptr t (v.get p) else .ptr j p t
  | .rp j k p t => if Nat.beq j i then .undef else .rp j k p t
  | .fn f caps => .fn f (E.frzL i v l caps)
  | .tup m => .tup (E.frzL i v l m)
  | e => e
def E.frzL (i : Nat) (v : V) (l : List V) : List E → List E
  | [] => []
  | e :: es => e.frz i v l :: E.frzL i v l es
end

def Obj.frz (i : Nat) (v : V) (l : List V) : Obj → Obj
  | .var t e => .var t (e.frz i v l)
  | .erow t es => .erow t (E.frzL i v l es)
  | o => o

def Tm.frz (i : Nat) (v : V) (l : List V) (tm : Tm) : Tm := tm.map fun x => (x.1, x.2.1, x.2.2.frz i v l)

def St.frz (i : Nat) (v : V) (l : List V) (σ : St) : St := { σ with tm := Tm.frz i v l σ.tm, ob := (σ.ob.map (Obj.frz i v l)).set i .dead, out := σ.out.map (Tm.frz i v l) }

/-- An object's block holds the data. -/
def Frozen (T : Tab) (w : World) (F : Nat → Prop) (v : V) (l : List V) : RI → Prop
  | .none => True
  | .var b t => F b ∧ ∃ cs, Seg w b 0 cs ∧ Fits T w F t v cs
  | .row e r => ∀ b n cap, r = .slice (some ⟨b, 0, none⟩) n cap → F b ∧ n = l.length ∧ ∃ cs, Seg w b 0 cs ∧ FitsL T w F (List.replicate l.length e) l cs

mutual
theorem ERel.frozen (hS : T.Sized) {i : Nat} {v : V} {l : List V} (hF : ∀ b, F b → F' b) (hz : Frozen T w F' v l (ρ i)) : ∀ {e : E} {x : Value}, ERel T w F ρ e x → ERel T w F' (upd ρ i .none) (e.frz i v l) x
  | .int _ _, _, h => h
  | .bool _, _, h => h
  | .str _, _, h => h
  | .data _ _, _, ⟨cs, h1, h2, h3⟩ => ⟨cs, h1, h2, h3.mono hF (fun _ _ => rfl)⟩
  | .fs _ _ _, _, h => FRow.mono hF (fun _ _ => rfl) h
  | .sl j e lo len c, x, h => by
    unfold E.frz
    split
    · rename_i hj
      have hj : j = i := Nat.eq_of_beq_eq_true hj
      subst hj
      rcases h with ⟨h1, rfl, rfl, rfl⟩ | ⟨b, n, cap, off, h1, h2, h3, rfl, h5, h6⟩
      · exact .inl ⟨none, 0, rfl, by simp, fun _ => rfl, fun _ => rfl⟩
      · rw [h1] at hz
        obtain ⟨z1, z2, cs, z3, z4⟩ := hz b n cap rfl
        have hl : ((l.drop lo).take len).length = len := by simp; omega
        refine .inr ⟨b, off, (if c then len else cap - lo), (cs.drop (lo * T.sz e)).take (len * T.sz e), by rw [hl], by rw [hl]; split <;> omega, fun hc => by rw [hl, if_pos hc], z1, ?_, ?_⟩
        · rcases h6 with h6 | h6
          · subst h6
            intro j y hy
            simp at hy
          · have := z3.sub (lo * T.sz e) (len * T.sz e)
            rw [Nat.zero_add] at this
            rw [h6]
            exact this
        · rw [hl]
          exact z4.slice hS (by omega)
    · rename_i hj
      have hj : j ≠ i := fun e => hj (by simp [e])
      unfold ERel at h ⊢
      rw [upd_ne ρ _ hj]; exact h
  | .nilsl, _, h => h
  | .ptr j p t, x, h => by
    unfold E.frz
    split
    · rename_i hj
      have hj : j = i := Nat.eq_of_beq_eq_true hj
      subst hj
      obtain ⟨b, root, off, h1, h2, rfl⟩ := h
      rw [h1] at hz
      obtain ⟨z1, cs, z2, z3⟩ := hz
      obtain ⟨g1, g2⟩ := h2.get hS z3
      refine ⟨b, off, _, rfl, z1, ?_, g1⟩
      have := z2.sub off (T.sz t)
      rwa [Nat.zero_add] at this
    · rename_i hj
      have hj : j ≠ i := fun e => hj (by simp [e])
      unfold ERel at h ⊢
      rw [upd_ne ρ _ hj]; exact h
  | .rp j k p t, x, h => by
    unfold E.frz
    split
    · trivial
    · rename_i hj
      have hj : j ≠ i := fun e => hj (by simp [e])
      unfold ERel at h ⊢
      rw [upd_ne ρ _ hj]; exact h
  | .fptr _ _, _, ⟨b, off, cs, h1, h2, h3, h4⟩ => ⟨b, off, cs, h1, hF _ h2, h3, h4.mono hF (fun _ _ => rfl)⟩
  | .fn _ _, _, ⟨cs, h1, h2⟩ => ⟨cs, h1, ERelL.frozen hS hF hz h2⟩
  | .nilfn, _, h => h
  | .tup _, _, ⟨vs, h1, h2⟩ => ⟨vs, h1, ERelL.frozen hS hF hz h2⟩
  | .undef, _, _ => trivial
theorem ERelL.frozen (hS : T.Sized) {i : Nat} {v : V} {l : List V} (hF : ∀ b, F b → F' b) (hz : Frozen T w F' v l (ρ i)) : ∀ {m : List E} {xs : List Value}, ERelL T w F ρ m xs → ERelL T w F' (upd ρ i .none) (E.frzL i v l m) xs
  | [], [], h => h
  | _ :: _, _ :: _, ⟨h1, h2⟩ => ⟨ERel.frozen hS hF hz h1, ERelL.frozen hS hF hz h2⟩
  | [], _ :: _, h => h.elim
  | _ :: _, [], h => h.elim
end

theorem frz_data {i : Nat} {v : V} {l : List V} {e : E} {t : TypeId} {x : V} (h : e.frz i v l = .data t x) : e = .data t x := by
  cases e <;> simp [E.frz] at h ⊢ <;> first | exact h | (split at h <;> cases h)

theorem TmRel.frozen (hS : T.Sized) {i : Nat} {v : V} {l : List V} (hF : ∀ b, F b → F' b) (hz : Frozen T w F' v l (ρ i)) {tm : Tm} {tmps : Array Value} (h : TmRel T w F ρ tm tmps) : TmRel T w F' (upd ρ i .none) (Tm.frz i v l tm) tmps := by
  intro t g e he
  unfold Tm.frz at he
  rw [lookup_map (E.frz i v l)] at he
  cases hl : tm.lookup t with
  | none => rw [hl] at he; cases he
  | some x =>
    obtain ⟨g', e'⟩ := x
    rw [hl] at he
    simp at he
    obtain ⟨rfl, rfl⟩ := he
    obtain ⟨v, h1, h2, h3⟩ := h t _ _ hl
    exact ⟨v, h1, fun hg => (h2 hg).frozen hS hF hz, h3⟩

theorem OutRel.frozen (hS : T.Sized) {i : Nat} {v : V} {l : List V} (hF : ∀ b, F b → F' b) (hz : Frozen T w F' v l (ρ i)) : ∀ {m : List Tm} {vs : List (Array Value)}, OutRel T w F ρ m vs → OutRel T w F' (upd ρ i .none) (m.map (Tm.frz i v l)) vs
  | [], [], h => h
  | _ :: _, _ :: _, ⟨h1, h2⟩ => ⟨h1.frozen hS hF hz, OutRel.frozen hS hF hz h2⟩
  | [], _ :: _, h => h.elim
  | _ :: _, [], h => h.elim

theorem frzL_length (i : Nat) (v : V) (l : List V) : ∀ m : List E, (E.frzL i v l m).length = m.length
  | [] => rfl
  | _ :: m => by simp [E.frzL, frzL_length i v l m]

theorem St.le.frz_aux (hS : T.Sized) {i : Nat} {v : V} {l : List V} (hi : i < σ.ob.length) (hz : ∀ w F ρ w0 tmps outs, Rel T w F ρ w0 σ tmps outs → Frozen T w (fun b => F b ∨ (ρ i).block = some b) v l (ρ i)) : St.le T σ (σ.frz i v l) := by
  intro w F ρ w0 tmps outs h
  have hz := hz w F ρ w0 tmps outs h
  have hF : ∀ b, F b → F b ∨ (ρ i).block = some b := fun _ h => .inl h
  refine ⟨fun b => F b ∨ (ρ i).block = some b, upd ρ i .none, h.tm.frozen hS hF hz, h.out.frozen hS hF hz, ?_, ?_, ?_, ?_, h.below, h.size, fun b hb => hb.elim (h.fold b) fun hb => .inl (h.own hb).2.2⟩
  · intro j o' hj
    by_cases hji : j = i
    · subst hji
      simp [St.frz, hi] at hj
      subst hj
      rw [upd_self]
      rfl
    · simp only [St.frz, List.getElem?_set_ne (Ne.symm hji), List.getElem?_map] at hj
      cases hoj : σ.ob[j]? with
      | none => rw [hoj] at hj; cases hj
      | some oj =>
        rw [hoj] at hj
        simp at hj
        subst hj
        rw [upd_ne ρ _ hji]
        have h1 := h.ob j oj hoj
        have hn : ∀ b, (ρ j).block = some b → ¬ (F b ∨ (ρ i).block = some b) := fun b hb hc => hc.elim (h.own hb).2.1 (fun hc => hji (h.inj j i b hb hc))
        cases oj with
        | dead => cases hρ : ρ j <;> rw [hρ] at h1 <;> exact h1
        | row e m =>
          cases hρ : ρ j with
          | none => rw [hρ] at h1; exact h1.elim
          | var _ _ => rw [hρ] at h1; exact h1.elim
          | row e' r =>
            rw [hρ] at h1 hn
            obtain ⟨q1, q2, xs, q3, q4⟩ := h1
            exact ⟨q1, fun b hb => hn b hb, xs, q3, q4.mono hF (fun _ _ => rfl)⟩
        | erow e m =>
          cases hρ : ρ j with
          | none => rw [hρ] at h1; exact h1.elim
          | var _ _ => rw [hρ] at h1; exact h1.elim
          | row e' r =>
            rw [hρ] at h1 hn
            obtain ⟨q1, q2, q0, xs, q3, q4, q5⟩ := h1
            exact ⟨q1, fun b hb => hn b hb, q0, xs, by rw [frzL_length]; exact q3, q4.frozen hS hF hz, q5⟩
        | var t e =>
          cases hρ : ρ j with
          | none => rw [hρ] at h1; exact h1.elim
          | row _ _ => rw [hρ] at h1; exact h1.elim
          | var b t' =>
            rw [hρ] at h1 hn
            obtain ⟨⟨q1, q2, q3⟩, q4, q5, cs, ct, x, q6, q7, q8⟩ := h1
            exact ⟨⟨q1, q2, fun u x hx => q3 u x (frz_data hx)⟩, q4, hn b rfl, cs, ct, x, q6, q7.frozen hS hF hz, q8⟩
  · intro j hj
    simp [St.frz] at hj
    rw [upd_ne ρ _ (by omega)]
    exact h.free j (by simp; omega)
  · intro p q b hp hq
    unfold upd at hp hq
    split at hp <;> split at hq
    · omega
    · simp [RI.block] at hp
    · simp [RI.block] at hq
    · exact h.inj p q b hp hq
  · rintro b (hb | hb)
    · exact h.fsub b hb
    · exact (h.own hb).1

/-- A variable is written no more. -/
theorem St.le.frz (hS : T.Sized) (i : Nat) {t : TypeId} {v : V} (ho : σ.ob[i]? = some (.var t (.data t v))) : St.le T σ (σ.frz i v []) := by
  refine St.le.frz_aux hS (List.getElem?_eq_some_iff.1 ho).1 ?_
  intro w F ρ w0 tmps outs h
  have h1 := h.ob i _ ho
  cases hρ : ρ i with
  | none => rw [hρ] at h1; exact h1.elim
  | row _ _ => rw [hρ] at h1; exact h1.elim
  | var b t' =>
    rw [hρ] at h1
    obtain ⟨⟨rfl, q2, q3⟩, q4, q5, cs, ct, x, q6, ⟨cs', rfl, hA, hf⟩, q8, _⟩ := h1
    have hcs : cs' = cs := by have := q8.2; rw [if_pos hA] at this; simpa using this
    subst hcs
    exact ⟨.inr rfl, cs'.toList, seg_all q6, hf.mono (fun _ x => .inl x) (fun _ _ => rfl)⟩

/-- A variable of one value is written no more. -/
theorem St.le.frzVal (hS : T.Sized) (i : Nat) {t : TypeId} {e : E} {v : V} (ho : σ.ob[i]? = some (.var t e)) (hv : toV T t e = some v) : St.le T σ (σ.frz i v []) := by
  refine St.le.frz_aux hS (List.getElem?_eq_some_iff.1 ho).1 ?_
  intro w F ρ w0 tmps outs h
  have h1 := h.ob i _ ho
  cases hρ : ρ i with
  | none => rw [hρ] at h1; exact h1.elim
  | row _ _ => rw [hρ] at h1; exact h1.elim
  | var b t' =>
    rw [hρ] at h1
    obtain ⟨⟨rfl, q2, q3⟩, q4, q5, cs, ct, x, q6, q7, q8, _⟩ := h1
    have hf := (toV_fits q7 hv).1
    have hcs : x.cells = cs := by
      have h2 := q8.2
      split at h2
      · rw [h2]; rfl
      · obtain ⟨rfl, h3⟩ := h2
        cases x <;> first | rfl | (simp [Value.oneCell'] at h3)
    rw [hcs] at hf
    exact ⟨.inr rfl, cs.toList, seg_all q6, hf.mono (fun _ x => .inl x) (fun _ _ => rfl)⟩

/-- A row is written no more. -/
theorem St.le.frzRow (hS : T.Sized) (i : Nat) {e : TypeId} {l : List V} (ho : σ.ob[i]? = some (.row e l)) : St.le T σ (σ.frz i default l) := by
  refine St.le.frz_aux hS (List.getElem?_eq_some_iff.1 ho).1 ?_
  intro w F ρ w0 tmps outs h
  have h1 := h.ob i _ ho
  cases hρ : ρ i with
  | none => rw [hρ] at h1; exact h1.elim
  | var _ _ => rw [hρ] at h1; exact h1.elim
  | row e' r =>
    rw [hρ] at h1
    obtain ⟨rfl, q2, xs, q3, q4⟩ := h1
    intro b n cap hr
    subst hr
    refine ⟨.inr rfl, ?_⟩
    rcases q3.2 with ⟨q, _⟩ | ⟨b', cap', cur, hr, hb, hh, hn', hc', hs', htk⟩
    · cases q
    · cases hr
      refine ⟨rfl, xs, ?_, q4.mono (fun _ x => .inl x) (fun _ _ => rfl)⟩
      have := seg_of_cells (w := w) hh 0 (l.length * T.sz e')
      rwa [List.drop_zero, htk] at this

theorem i64min : IntKind.i64.min = -9223372036854775808 := rfl
theorem i64max : IntKind.i64.max = 9223372036854775807 := rfl
theorem u64min : IntKind.u64.min = 0 := rfl
theorem u64max : IntKind.u64.max = 18446744073709551615 := rfl
theorem u32min : IntKind.u32.min = 0 := rfl
theorem u32max : IntKind.u32.max = 4294967295 := rfl
theorem u8min : IntKind.u8.min = 0 := rfl
theorem u8max : IntKind.u8.max = 255 := rfl

end Go.Eng
/- The document's data, as Lean's own structures, and how they stand in memory. -/
namespace Go.Eng
set_option linter.unusedSimpArgs false
set_option linter.unusedVariables false

structure Access where
  kind : Int
  num : Int
  write : Bool
  deriving DecidableEq, Inhabited

structure Event where
  go : Int
  func : Int
  pc : Int
  op : Int
  alt : Int
  val : Int
  tag : Int
  touch : List Access
  touches : Int
  deriving DecidableEq, Inhabited

def Access.v (a : Access) : V := .agg [.int a.kind, .int a.num, .bool a.write]
def Event.v (e : Event) : V := .agg [.int e.go, .int e.func, .int e.pc, .int e.op, .int e.alt, .int e.val, .int e.tag, .agg (e.touch.map Access.v), .int e.touches]

/-- An element of a list, out of its data. -/
theorem getD_map {α : Type} [Inhabited α] (f : α → V) (l : List α) {i : Nat} (h : i < l.length) (d : V) : (l.map f).getD i d = f (l.getD i default) := by
  simp [List.getD_eq_getElem?_getD, h]

theorem getD_mem {α : Type} [Inhabited α] (l : List α) {i : Nat} (h : i < l.length) : l.getD i default ∈ l := by
  simp [List.getD_eq_getElem?_getD, h]

/-! ### What the functions compute -/

def clash2 (x y : Access) : Bool := decide (x.kind = y.kind) && decide (x.num = y.num) && (x.write || y.write)
def clash (a b : List Access) : Bool := a.any fun x => b.any fun y => clash2 x y

theorem any_take {α : Type} [Inhabited α] (f : α → Bool) (b : List α) {i : Nat} (h : i < b.length) : (b.take (i + 1)).any f = ((b.take i).any f || f (b.getD i default)) := by
  rw [List.take_succ_eq_append_getElem h]
  simp only [List.any_append, List.any_cons, List.any_nil, Bool.or_false, List.getD_eq_getElem?_getD, List.getElem?_eq_getElem h, Option.getD_some]
theorem clash_take (a b : List Access) {i : Nat} (h : i < a.length) : clash (a.take (i + 1)) b = (clash (a.take i) b || b.any fun y => clash2 (a.getD i default) y) := any_take _ a h

/-- What an event touches. -/
def Event.of (e : Event) : List Access := e.touch.take (max 0 (min 6 e.touches)).toNat

def dependent (a b : Event) : Bool := clash a.of b.of

theorem Event.of_len (e : Event) (h : e.touch.length = 6) : e.of.length ≤ 6 := by simp [Event.of]; omega

theorem Event.v0 (e : Event) : e.v.toList.getD 0 default = .int e.go := rfl
theorem Event.v7 (e : Event) : e.v.toList.getD 7 default = .agg (e.touch.map Access.v) := rfl
theorem Event.v8 (e : Event) : e.v.toList.getD 8 default = .int e.touches := rfl
theorem Access.v0 (a : Access) : a.v.toList.getD 0 default = .int a.kind := rfl
theorem Access.v1 (a : Access) : a.v.toList.getD 1 default = .int a.num := rfl
theorem Access.v2 (a : Access) : a.v.toList.getD 2 default = .bool a.write := rfl

theorem beq_acc (a : Access) (k n : Int) (w : Bool) : V.beq a.v (.agg [.int k, .int n, .bool w]) = decide (a = ⟨k, n, w⟩) := by
  obtain ⟨k', n', w'⟩ := a
  by_cases h1 : k' = k <;> by_cases h2 : n' = n <;> cases w <;> cases w' <;> simp [Access.v, V.beq, V.beqL, h1, h2]

def most (k : Int) : Int := if k = 1 then 8 else if k = 2 then 4 else if k = 3 then 4 else if k = 4 then 1 else if k = 6 then 1 else if k = 5 then 6 else 0
def cmp (a b : Access) : Int := if a.kind ≠ b.kind ∧ a.kind < b.kind ∨ a.kind = b.kind ∧ a.num < b.num then -1 else if a.kind = b.kind ∧ a.num = b.num then 0 else 1

/-- May the access at place i of an event stand there? -/
def placeOk (e : Event) (i : Nat) : Bool :=
  if e.touches ≤ i then decide (e.touch.getD i default = ⟨0, 0, false⟩)
  else decide (0 ≤ (e.touch.getD i default).num) && decide ((e.touch.getD i default).num < most (e.touch.getD i default).kind) && (decide (i = 0) || decide (cmp (e.touch.getD (i - 1) default) (e.touch.getD i default) < 0))
/-- Is it the event's own goroutine, written? -/
def ownAt (e : Event) (i : Nat) : Bool := decide ((i : Int) < e.touches) && decide (e.touch.getD i default = ⟨5, e.go, true⟩)

def right (e : Event) : Bool := decide (0 ≤ e.go) && decide (e.go < 6) && decide (1 ≤ e.touches) && decide (e.touches ≤ 6) && ((List.range 6).all (placeOk e) && (List.range 6).any (ownAt e))

theorem all_range_succ (f : Nat → Bool) (n : Nat) : (List.range (n + 1)).all f = ((List.range n).all f && f n) := by simp [List.range_succ]
theorem any_range_succ (f : Nat → Bool) (n : Nat) : (List.range (n + 1)).any f = ((List.range n).any f || f n) := by simp [List.range_succ]
theorem all_range_false {f : Nat → Bool} {n i : Nat} (hi : i < n) (h : f i = false) : (List.range n).all f = false := by
  rw [List.all_eq_false]
  exact ⟨i, List.mem_range.2 hi, by simp [h]⟩

def check (t : List Event) : Int := if 256 < t.length then 2 else if t.all right then 0 else 7

/-- The first place of which p holds, or -1. -/
def find (p : Event → Bool) (l : List Event) : Int := if l.any p then (l.findIdx p : Nat) else -1

theorem find_hit {p : Event → Bool} {l : List Event} {i : Nat} (hi : i < l.length) (h0 : (l.take i).any p = false) (h1 : p (l.getD i default) = true) : find p l = i := by
  have hi' : l.getD i default = l[i] := by simp [List.getD_eq_getElem?_getD, hi]
  have : l.any p = true := List.any_eq_true.2 ⟨_, getD_mem l hi, h1⟩
  unfold find
  rw [if_pos this]
  have : l.findIdx p = i := by
    rw [List.findIdx_eq hi]
    rw [hi'] at h1
    refine ⟨h1, fun j hj => ?_⟩
    have := List.any_eq_false.1 h0 l[j] (List.mem_take_iff_getElem.2 ⟨j, by omega, rfl⟩)
    simpa using this
  rw [this]
theorem find_miss {p : Event → Bool} {l : List Event} (h : l.any p = false) : find p l = -1 := by simp [find, h]
theorem find_ge {p : Event → Bool} {l : List Event} : decide (0 ≤ find p l) = l.any p := by
  unfold find; cases l.any p <;> simp

theorem clash2_comm (x y : Access) : clash2 x y = clash2 y x := by
  unfold clash2
  rw [Bool.or_comm, show decide (x.kind = y.kind) = decide (y.kind = x.kind) from by simp [eq_comm], show decide (x.num = y.num) = decide (y.num = x.num) from by simp [eq_comm]]
theorem any_comm {α β : Type} (f : α → β → Bool) (a : List α) (b : List β) : (a.any fun x => b.any fun y => f x y) = (b.any fun y => a.any fun x => f x y) := by
  rw [Bool.eq_iff_iff]
  simp only [List.any_eq_true]
  constructor
  · rintro ⟨x, hx, y, hy, h⟩; exact ⟨y, hy, x, hx, h⟩
  · rintro ⟨y, hy, x, hx, h⟩; exact ⟨x, hx, y, hy, h⟩
theorem clash_comm (a b : List Access) : clash a b = clash b a := by
  unfold clash
  rw [any_comm]
  simp only [clash2_comm]
theorem dependent_comm (a b : Event) : dependent a b = dependent b a := clash_comm _ _
/-- Of an event what it touches alone. -/
def Event.bare (e : Event) : Event := ⟨0, 0, 0, 0, 0, 0, 0, e.touch, e.touches⟩
theorem dependent_bare (a b : Event) : dependent a b.bare = dependent a b := rfl

theorem concat_at (l : List Obj) (o : Obj) : (l ++ [o])[l.length]? = some o := by simp

/-! ### Who uses an object -/

def isAt (k n : Int) (a : Access) : Bool := decide (a.kind = k) && decide (a.num = n)
def hits (e : Event) (k n : Int) : Bool := e.of.any (isAt k n)
def usersTo (t : List Event) (k n : Int) (i : Nat) : List Int := ((List.range i).filter fun j => hits (t.getD j default) k n).map fun (j : Nat) => (j : Int)
def users (t : List Event) (k n : Int) : List Int := if check t = 0 then usersTo t k n t.length else []

theorem usersTo_hit {t : List Event} {k n : Int} {i : Nat} (h : hits (t.getD i default) k n = true) : usersTo t k n (i + 1) = usersTo t k n i ++ [(i : Int)] := by
  simp only [usersTo, List.range_succ, List.filter_append, List.map_append]
  congr 1
  simp only [List.filter_cons, List.filter_nil, h, if_true, List.map_cons, List.map_nil]
theorem usersTo_miss {t : List Event} {k n : Int} {i : Nat} (h : hits (t.getD i default) k n = false) : usersTo t k n (i + 1) = usersTo t k n i := by
  simp only [usersTo, List.range_succ, List.filter_append, List.map_append]
  simp only [List.filter_cons, List.filter_nil, h, Bool.false_eq_true, if_false, List.map_nil, List.append_nil]
theorem usersTo_len (t : List Event) (k n : Int) (i : Nat) : (usersTo t k n i).length ≤ i := by
  simp only [usersTo, List.length_map]
  exact Nat.le_trans (List.length_filter_le _ _) (by simp)

/-- The first place of which p holds, or -1. -/
def findA (p : Access → Bool) (l : List Access) : Int := if l.any p then (l.findIdx p : Nat) else -1
theorem findA_hit {p : Access → Bool} {l : List Access} {i : Nat} (hi : i < l.length) (h0 : (l.take i).any p = false) (h1 : p (l.getD i default) = true) : findA p l = i := by
  have hi' : l.getD i default = l[i] := by simp [List.getD_eq_getElem?_getD, hi]
  have : l.any p = true := List.any_eq_true.2 ⟨_, getD_mem l hi, h1⟩
  unfold findA
  rw [if_pos this]
  have : l.findIdx p = i := by
    rw [List.findIdx_eq hi]
    rw [hi'] at h1
    refine ⟨h1, fun j hj => ?_⟩
    have := List.any_eq_false.1 h0 l[j] (List.mem_take_iff_getElem.2 ⟨j, by omega, rfl⟩)
    simpa using this
  rw [this]
theorem findA_miss {p : Access → Bool} {l : List Access} (h : l.any p = false) : findA p l = -1 := by simp [findA, h]
theorem findA_ge {p : Access → Bool} {l : List Access} : decide (0 ≤ findA p l) = l.any p := by
  unfold findA; cases l.any p <;> simp

theorem check_len {t : List Event} (h : check t = 0) : t.length ≤ 256 := by
  unfold check at h
  split at h
  · cases h
  · omega

end Go.Eng
/- Regions that draw their order and make memory: all orders, what is pure ahead of the rest. -/
namespace Go.Eng
set_option linter.unusedSimpArgs false
set_option linter.unusedVariables false
open Go.RowKit

variable {P : Program} {T : Tab} {w w' : World} {w0 : Base T} {F F' : Nat → Prop} {ρ ρ' : Nat → RI} {σ σ' : St} {a : Act} {outs : List (Array Value)}
variable {ops : Array Oper} {Q : Exit → Act → World → Prop} {md : Region.Mode} {keeps : Nat → Bool}

/-- In this state, in this world and in all later ones that keep what is there, the operation yields v and does nothing else. -/
def YieldsB (P : Program) (ops : Array Oper) (w : World) (o : Oper) (v : Value) (a : Act) : Prop :=
  (Region.wanted o (yielded ops a.tmps) = true ∧ ∀ w', Below w.heap.size w w' → (execOp a.eval o).run P w' = .ok (.value v) w') ∨
  (Region.wanted o (yielded ops a.tmps) = false ∧ v = undef)

theorem YieldsB.later {o : Oper} {v : Value} (h : YieldsB P ops w o v a) (hb : Below w.heap.size w w') : YieldsB P ops w' o v a :=
  h.imp (fun ⟨h1, h2⟩ => ⟨h1, fun w'' hw => h2 w'' (hb.trans (hw.mono hb.size))⟩) id

theorem YieldsB.wpOp {i : Nat} {o : Oper} {v : Value} (hi : ops[i]? = some o) (hy : YieldsB P ops w o v a) {K : Act → World → Prop} (h : K (a.put o.dst v) w) : wpOp P ops Q i K a w := by
  unfold Go.wpOp
  simp only [hi]
  rcases hy with ⟨hw, hv⟩ | ⟨hw, rfl⟩
  · simp only [hw, if_true, Oper.wp, hv w (Below.refl _ _), Oper.upon]; exact .inl h
  · simp only [hw, Bool.false_eq_true, if_false]; exact h

theorem YieldsB.of_same {o : Oper} {v : Value} {a a' : Act} (hy : YieldsB P ops w o v a) (he : execOp a'.eval o = execOp a.eval o)
    (hw : Region.wanted o (yielded ops a'.tmps) = Region.wanted o (yielded ops a.tmps)) : YieldsB P ops w o v a' := by
  unfold YieldsB at *
  rw [he, hw]
  exact hy

theorem wpOp_putB {w1 : World} {j : Nat} {oi oj : Oper} {v : Value} (hj : ops[j]? = some oj) (hap : oi.apart ops oj = true)
    (hsi : ∀ cs b, oi.op ≠ .select cs b) (hsj : ∀ cs b, oj.op ≠ .select cs b)
    (hQ : ∀ c a w, Q (.panic c) (a.put oi.dst v) w → Q (.panic c) a w) {K : Act → World → Prop} {a : Act} {w : World}
    (hy : YieldsB P ops w1 oi v a) (h : wpOp P ops Q j K (a.put oi.dst v) w) :
    wpOp P ops Q j (fun a' w' => YieldsB P ops w1 oi v a' ∧ K (a'.put oi.dst v) w') a w := by
  obtain ⟨h1, h2, h3⟩ := Oper.apart_spec hap
  have keep : ∀ (a : Act), YieldsB P ops w1 oi v a → ∀ u, YieldsB P ops w1 oi v (a.put oj.dst u) := fun a hy u =>
    hy.of_same (execOp_put oi hsi a oj.dst u h3) (wanted_put oi a oj.dst u h3)
  have keepD : ∀ d, YieldsB P ops w1 oi v { a with defers := d :: a.defers } := fun d => hy.of_same rfl rfl
  unfold wpOp at *
  simp only [hj] at *
  rw [wanted_put oj a oi.dst v h1] at h
  split
  · rename_i hw
    simp only [hw, if_true] at h
    rcases h with h | ⟨hasks, hlets⟩
    case inr => exact .inr ⟨by unfold Oper.asks at *; rw [execOp_put oj hsj a oi.dst v h1] at hasks; exact hasks, hlets⟩
    refine .inl ?_
    unfold Oper.wp at *
    rw [execOp_put oj hsj a oi.dst v h1] at h
    generalize (execOp a.eval oj).run P w = r at *
    cases r with
    | ok n w' =>
      cases n <;> simp only [Oper.upon] at h ⊢
      case value u => exact ⟨keep a hy u, by rw [← Act.put_comm a v u h2]; exact h⟩
      case skip => exact ⟨keep a hy _, by rw [← Act.put_comm a v undef h2]; exact h⟩
      case defer d =>
        refine ⟨keep _ (keepD d) _, ?_⟩
        rw [← Act.put_comm _ v undef h2, ← Act.put_defers]
        exact h
      case enter f args =>
        refine Calls.mono h fun e w'' he => ?_
        cases e with
        | returned u => exact ⟨keep a hy u, by rw [← Act.put_comm a v u h2]; exact he⟩
        | panicked c => exact hQ _ _ _ he
        | outgrown => exact he
      case row row args => exact Rows.mono h fun u w'' he => ⟨keep a hy u, by rw [← Act.put_comm a v u h2]; exact he⟩
    | halt x w' =>
      cases x <;> simp only [Oper.upon] at h ⊢
      case panic u => exact hQ _ _ _ h
  · rename_i hw
    simp only [hw] at h
    exact ⟨keep a hy _, by rw [← Act.put_comm a v undef h2]; exact h⟩

/-- Whatever order is picked from here on; each operation of which that is asked keeps what was there. -/
def wpAnyB (P : Program) (md : Region.Mode) (ops : Array Oper) (Q : Exit → Act → World → Prop) (keeps : Nat → Bool) : Nat → Array Bool → Act → World → Prop
  | 0, listed, a, w => Region.ready md ops listed = [] ∧ Q .normal a w
  | fuel + 1, listed, a, w =>
    (Region.ready md ops listed = [] → Q .normal a w) ∧
    ∀ i ∈ Region.ready md ops listed, wpOp P ops Q i (fun a' w' => (keeps i = true → Below w.heap.size w w') ∧ wpAnyB P md ops Q keeps fuel (listed.setIfInBounds i true) a' w') a w

theorem wpAny_of_B : ∀ (fuel : Nat) (listed : Array Bool) (a : Act) (w : World), wpAnyB P md ops Q keeps fuel listed a w → wpAny P md ops Q fuel listed a w
  | 0, _, _, _, h => h
  | fuel + 1, _, _, _, h => ⟨h.1, fun i hi => wpOp_mono (fun a' w' h' => wpAny_of_B fuel _ a' w' h'.2) (h.2 i hi)⟩

/-- Does j wait for i, through others too? -/
def waits (md : Region.Mode) (ops : Array Oper) (i : Nat) : Nat → Nat → Bool
  | 0, _ => false
  | fuel + 1, j => match ops[j]? with
    | none => false
    | some o => o.after.any fun e => Region.binds md e && (e.on == i || waits md ops i fuel e.on)

/-- What came up, came up behind all that it waits for. -/
def Closed (md : Region.Mode) (ops : Array Oper) (listed : Array Bool) : Prop := ∀ j o, ops[j]? = some o → listed.getD j true = true → ∀ e ∈ o.after, Region.binds md e = true → listed.getD e.on false = true

theorem waits_unlisted {listed : Array Bool} (hs : listed.size = ops.size) (hc : Closed md ops listed) {i : Nat} (hi : listed.getD i false = false) : ∀ {fuel j : Nat}, waits md ops i fuel j = true → ∃ o, ops[j]? = some o ∧ ∃ e ∈ o.after, Region.binds md e = true ∧ listed.getD e.on false = false
  | 0, _, h => by simp [waits] at h
  | fuel + 1, j, h => by
    unfold waits at h
    split at h
    · cases h
    · rename_i o ho
      rw [Array.any_eq_true'] at h
      obtain ⟨e, he, h2⟩ := h
      simp only [Bool.and_eq_true, Bool.or_eq_true, beq_iff_eq] at h2
      refine ⟨o, ho, e, he, h2.1, ?_⟩
      rcases h2.2 with h3 | h3
      · rw [h3]; exact hi
      · obtain ⟨o', ho', e', he', hb', hl'⟩ := waits_unlisted hs hc hi h3
        have hlt := (Array.getElem?_eq_some_iff.1 ho').1
        cases hl : listed.getD e.on false with
        | false => rfl
        | true =>
          have := hc e.on o' ho' (by simpa [Array.getD, show e.on < listed.size by omega] using hl) e' he' hb'
          rw [this] at hl'; cases hl'

theorem Closed.set {listed : Array Bool} (hs : listed.size = ops.size) (hc : Closed md ops listed) {j : Nat} (hr : j ∈ Region.ready md ops listed) : Closed md ops (listed.setIfInBounds j true) := by
  have grow : ∀ k, listed.getD k false = true → (listed.setIfInBounds j true).getD k false = true := by
    intro k hk
    by_cases hjk : j = k
    · subst hjk
      have : j < listed.size := by
        apply Classical.byContradiction
        intro h
        simp [Array.getD, show ¬ j < listed.size from h] at hk
      simp [Array.getD, this]
    · rw [getD_set_ne false hjk]; exact hk
  intro k o ho hk e he hb
  obtain ⟨_, oj, hoj, hall⟩ := mem_ready.1 hr
  by_cases hjk : j = k
  · subst hjk
    rw [hoj] at ho
    cases ho
    exact grow _ (hall e he hb)
  · rw [getD_set_ne true hjk] at hk
    exact grow _ (hc k o ho hk e he hb)

theorem wpAnyB_first {i : Nat} {oi : Oper} {v : Value} (hi : ops[i]? = some oi) (hsel : ∀ (j : Nat) (o : Oper) cs b, ops[j]? = some o → o.op ≠ .select cs b)
    (hQ : ∀ c a w, Q (.panic c) (a.put oi.dst v) w → Q (.panic c) a w) :
    ∀ (fuel : Nat) (listed : Array Bool) (a : Act) (w : World), listed.size = ops.size → Closed md ops listed →
      (∀ j oj, ops[j]? = some oj → j ≠ i → listed.getD j true = false → waits md ops i ops.size j = false → oi.apart ops oj = true ∧ keeps j = true) →
      i ∈ Region.ready md ops listed → YieldsB P ops w oi v a →
      wpAnyB P md ops Q keeps fuel (listed.setIfInBounds i true) (a.put oi.dst v) w → wpAnyB P md ops Q keeps (fuel + 1) listed a w := by
  intro fuel
  induction fuel with
  | zero =>
    intro listed a w _ _ _ hr hy H
    refine ⟨fun h => (by rw [h] at hr; cases hr), fun j hj => ?_⟩
    by_cases hji : j = i
    · subst hji; exact hy.wpOp hi ⟨fun _ => Below.refl _ _, H⟩
    · have := ready_mono hj hji
      rw [H.1] at this
      cases this
  | succ fuel ih =>
    intro listed a w hsz hcl hfree hr hy H
    refine ⟨fun h => (by rw [h] at hr; cases hr), fun j hj => ?_⟩
    by_cases hji : j = i
    · subst hji; exact hy.wpOp hi ⟨fun _ => Below.refl _ _, H⟩
    · have h1 := H.2 j (ready_mono hj hji)
      obtain ⟨hjun, oj, hoj, hall⟩ := mem_ready.1 hj
      have hiun : listed.getD i false = false := by
        have h0 := (mem_ready.1 hr).1
        have hlt := (Array.getElem?_eq_some_iff.1 hi).1
        simpa [Array.getD, show i < listed.size by omega] using h0
      have hnot : waits md ops i ops.size j = false := by
        cases hw : waits md ops i ops.size j with
        | false => rfl
        | true =>
          obtain ⟨o, ho, e, he, hb, hl⟩ := waits_unlisted hsz hcl hiun hw
          rw [hoj] at ho
          cases ho
          rw [hall e he hb] at hl
          cases hl
      obtain ⟨hap, hkp⟩ := hfree j oj hoj hji hjun hnot
      have h2 := wpOp_putB hoj hap (fun cs b => hsel i oi cs b hi) (fun cs b => hsel j oj cs b hoj) hQ hy h1
      have hfree' : ∀ k ok, ops[k]? = some ok → k ≠ i → (listed.setIfInBounds j true).getD k true = false →
          waits md ops i ops.size k = false → oi.apart ops ok = true ∧ keeps k = true := fun k ok hk hki hun hno => by
        refine hfree k ok hk hki ?_ hno
        by_cases hjk : j = k
        · subst hjk; exact hjun
        · rw [getD_set_ne true hjk] at hun; exact hun
      refine wpOp_mono (fun a' w' h3 => ⟨h3.2.1, ih (listed.setIfInBounds j true) a' w' (by simpa using hsz) (hcl.set hsz hj) hfree' (ready_mono hr (Ne.symm hji)) (h3.1.later (h3.2.1 hkp)) ?_⟩) h2
      rw [Array.setIfInBounds_comm _ _ hji]
      exact h3.2.2

/-- Nobody who may come up before it touches its slots, or writes what was there. -/
def freeB (ops : Array Oper) (keeps : Nat → Bool) (listed : Array Bool) (i : Nat) : Bool :=
  listed.size == ops.size && ((List.range ops.size).all fun j => !listed.getD j true || match ops[j]? with
    | none => true
    | some o => o.after.all fun e => !Region.binds .any e || listed.getD e.on false) &&
  match ops[i]? with
  | none => false
  | some oi => (List.range ops.size).all fun j => j == i || listed.getD j true || match ops[j]? with
    | none => true
    | some oj => waits .any ops i ops.size j || (oi.apart ops oj && keeps j)

theorem freeB_spec {listed : Array Bool} {i : Nat} {oi : Oper} (hi : ops[i]? = some oi) (h : freeB ops keeps listed i = true) : listed.size = ops.size ∧ Closed .any ops listed ∧
    ∀ j oj, ops[j]? = some oj → j ≠ i → listed.getD j true = false → waits .any ops i ops.size j = false → oi.apart ops oj = true ∧ keeps j = true := by
  unfold freeB at h
  simp only [hi, Bool.and_eq_true, beq_iff_eq] at h
  obtain ⟨⟨h0, h1⟩, h⟩ := h
  refine ⟨h0, ?_, ?_⟩
  · intro j o ho hl e he hb
    have := List.all_eq_true.1 h1 j (List.mem_range.2 (Array.getElem?_eq_some_iff.1 ho).1)
    rw [ho] at this
    simp only [hl, Bool.not_true, Bool.false_or] at this
    have := Array.all_eq_true_iff_forall_mem.1 this e he
    simpa [hb] using this
  · intro j oj hj hji hun hno
    have := List.all_eq_true.1 h j (List.mem_range.2 (Array.getElem?_eq_some_iff.1 hj).1)
    rw [hj] at this
    simp only [hun, hno, Bool.or_false, Bool.false_or, Bool.or_eq_true, beq_iff_eq, hji, false_or, Bool.and_eq_true] at this
    exact this

/-! ### In the abstract state -/

def AnyA (P : Program) (T : Tab) (ops : Array Oper) (keeps : Nat → Bool) (K : St → Prop) (fuel : Nat) (listed : Array Bool) (σ : St) : Prop :=
  ∀ (w0 : Base T) (w : World) (F : Nat → Prop) (ρ : Nat → RI) (a : Act) (outs : List (Array Value)), a.defers = [] → Rel T w F ρ w0 σ a.tmps outs →
    wpAnyB P .any ops (fun ex a' w' => ex = .normal ∧ After T w0 outs K a' w') keeps fuel listed a w

theorem AnyA.done {K : St → Prop} {fuel : Nat} {listed : Array Bool} (hr : Region.ready .any ops listed = []) (h : K σ) : AnyA P T ops keeps K fuel listed σ := by
  intro w0 w F ρ a outs hd hR
  cases fuel with
  | zero => exact ⟨hr, rfl, σ, F, ρ, h, hd, hR⟩
  | succ fuel => exact ⟨fun _ => ⟨rfl, σ, F, ρ, h, hd, hR⟩, by rw [hr]; simp⟩

/-- What is pure is taken first. -/
theorem AnyA.take {K : St → Prop} {fuel : Nat} {listed : Array Bool} (hP : TabOk P T) (i : Nat) (so : SOp) (hso : (ops[i]?).map (strip ops) = some so) (hg : guardsOk ops = true) (hs : Region.noSelect ops = true) (hf : freeB ops keeps listed i = true) (hr : (Region.ready .any ops listed).contains i = true) (l' : Array Bool) (hl' : listed.setIfInBounds i true = l')
    (h : ∀ R : St → Prop, (∀ σ', AnyA P T ops keeps K fuel l' σ' → R σ') → guardA so σ fun g => pureA T σ g so.op (putK σ so.dst g R)) : AnyA P T ops keeps K (fuel + 1) listed σ := by
  intro w0 w F ρ a outs hd hR
  subst hl'
  obtain ⟨o, hi, rfl⟩ := Option.map_eq_some_iff.1 hso
  have h := h _ fun _ x => x
  have hgo := List.all_eq_true.1 hg o (by have := Array.mem_of_getElem? hi; simpa using this)
  obtain ⟨g, h, hw⟩ := guardA_sound hR hgo h
  obtain ⟨e, h1, h2⟩ := pureA_sound hP hR h
  have hop : (strip ops o).op = o.op := rfl
  have hdst : (strip ops o).dst = o.dst := rfl
  rw [hop] at h2
  rw [hdst] at h1
  cases g with
  | true =>
    obtain ⟨v, hv, hrun⟩ := h2 rfl
    obtain ⟨σ', hK, hR', hd'⟩ := put_sound hR h1 (fun _ => hv) (by simp)
    exact wpAnyB_first hi (Region.noSelect_spec hs) (fun _ _ _ h => by cases h.1) fuel listed a w (freeB_spec hi hf).1 (freeB_spec hi hf).2.1 (freeB_spec hi hf).2.2 (by simpa using hr) (.inl ⟨hw, fun w' hb => hrun w' hb o rfl⟩) (hK w0 w F ρ _ outs (hd'.trans hd) hR')
  | false =>
    obtain ⟨σ', hK, hR', hd'⟩ := put_sound (v := undef) hR h1 (by simp) (fun _ => rfl)
    exact wpAnyB_first hi (Region.noSelect_spec hs) (fun _ _ _ h => by cases h.1) fuel listed a w (freeB_spec hi hf).1 (freeB_spec hi hf).2.1 (freeB_spec hi hf).2.2 (by simpa using hr) (.inr ⟨hw, rfl⟩) (hK w0 w F ρ _ outs (hd'.trans hd) hR')

/-- A call that leaves all that was there as it was: it may make rows. -/
def CallB (P : Program) (T : Tab) (σ : St) (f : FuncId) (es : List E) (K : St → E → Prop) : Prop :=
  Enters P f ∧ ∀ (w0 : Base T) (w : World) (F : Nat → Prop) (ρ : Nat → RI) (tmps : Array Value) (outs : List (Array Value)) (xs : List Value), Rel T w F ρ w0 σ tmps outs → ERelL T w F ρ es xs →
    Calls P f xs.toArray w fun en w' => ∃ v σ' e F' ρ', en = .returned v ∧ Below w.heap.size w w' ∧ K σ' e ∧ ERel T w' F' ρ' e v ∧ Rel T w' F' ρ' w0 σ' tmps outs

theorem CallB.ctr (hP : TabOk P T) {f : FuncId} {pts rts : List TypeId} {vs rs : List V} {es : List E} {K : St → E → Prop} (hc : Ctr P T f pts rts vs rs) (hv : argsV T σ pts es = some vs)
    (hK : K { σ with ob := σ.ob ++ (newEs T σ.ob.length rts rs).1 } (outE (newEs T σ.ob.length rts rs).2)) : CallB P T σ f es K := by
  obtain ⟨hE, hc⟩ := hc
  refine ⟨hE, ?_⟩
  intro w0 w F ρ tmps outs xs hR hx
  refine (hc w _ xs (fun _ h => h) (T.globB _ _ (Base.ok _) hR.below) (argsV_fit hP hR hx hv)).mono ?_
  rintro en w' ⟨ys, rfl, hb, hres⟩
  have hR' := hR.later hb
  obtain ⟨ρ', r1, r2, _⟩ := news_rel (n0 := w.heap.size) hR.fsub hR' hR.below.size hres (fun y _ b _ hnb j hj => by have := (hR.own hj).1; omega)
  exact ⟨_, _, _, F, ρ', rfl, hb, hK, outE_rel r2, r1⟩

def CallStepB (P : Program) (T : Tab) (σ : St) (g : Bool) (f : Operand) (args : List Operand) (d : Option Tmp) (K : St → Prop) : Prop :=
  evalO σ g f fun ef => evalL σ g args fun es => ∃ fid caps, ef = .fn fid caps ∧
    ((∃ e, (g = true → CallQ P T σ fid (es ++ caps) e) ∧ putK σ d g K e) ∨ ((g = true → CallB P T σ fid (es ++ caps) (putE d K)) ∧ (g = false → putK σ d false K .undef)))

/-- An operation that keeps what was there. -/
def opB (P : Program) (T : Tab) (o : SOp) (K : St → Prop) (σ : St) (g : Bool) : Prop := match o.op with
  | .call c => match c.callee with
    | .value f => CallStepB P T σ g f c.args.toList o.dst K
    | .builtin .append => (g = true → appB T σ c (putE o.dst K)) ∧ (g = false → putK σ o.dst false K .undef)
    | .builtin _ => pureA T σ g (.call c) (putK σ o.dst g K)
    | _ => False
  | .alloc t => (g = true → effA T σ (.alloc t) (putE o.dst K)) ∧ (g = false → putK σ o.dst false K .undef)
  | .box t x => (g = true → effA T σ (.box t x) (putE o.dst K)) ∧ (g = false → putK σ o.dst false K .undef)
  | .store _ _ _ => False
  | .buildSlice t n ps => (g = true → effA T σ (.buildSlice t n ps) (putE o.dst K)) ∧ (g = false → putK σ o.dst false K .undef)
  | .makeSlice t l c => (g = true → effA T σ (.makeSlice t l c) (putE o.dst K)) ∧ (g = false → putK σ o.dst false K .undef)
  | op => pureA T σ g op (putK σ o.dst g K)

theorem pure_stepB (hP : TabOk P T) (hR : Rel T w F ρ w0 σ a.tmps outs) (hd : a.defers = []) {o : Oper} {g : Bool} {K : St → Prop} {N : Act → World → Prop}
    (hN : ∀ a' w', Below w.heap.size w w' → After T w0 outs K a' w' → N a' w') (h : pureA T σ g o.op (putK σ o.dst g K)) : if g then o.wp P a w N Q else N (a.put o.dst undef) w := by
  obtain ⟨e, h1, h2⟩ := pureA_sound hP hR h
  cases g with
  | true =>
    obtain ⟨v, hv, hr⟩ := h2 rfl
    obtain ⟨σ', hK, hR', hd'⟩ := put_sound hR h1 (fun _ => hv) (by simp)
    simp only [if_true, Oper.wp, hr w (Below.refl _ _) o rfl, Oper.upon]
    exact hN _ _ (Below.refl _ _) ⟨σ', F, ρ, hK, hd'.trans hd, hR'⟩
  | false =>
    obtain ⟨σ', hK, hR', hd'⟩ := put_sound (v := undef) hR h1 (by simp) (fun _ => rfl)
    simp only [Bool.false_eq_true, if_false]
    exact hN _ _ (Below.refl _ _) ⟨σ', F, ρ, hK, hd'.trans hd, hR'⟩

theorem eff_stepB (hP : TabOk P T) (hR : Rel T w F ρ w0 σ a.tmps outs) (hd : a.defers = []) {o : Oper} {g : Bool} {K : St → Prop} {N : Act → World → Prop} (hm : isMake o.op = true)
    (hN : ∀ a' w', Below w.heap.size w w' → After T w0 outs K a' w' → N a' w') (h : (g = true → effA T σ o.op (putE o.dst K)) ∧ (g = false → putK σ o.dst false K .undef)) : if g then o.wp P a w N Q else N (a.put o.dst undef) w := by
  cases g with
  | true =>
    obtain ⟨σ', e, h1, w', F', ρ', v, nx, h2, h3, h4, h5, h6⟩ := effA_sound hP hR (h.1 rfl)
    obtain ⟨σ'', hK, hR', hd'⟩ := put_sound h3 h1 (fun _ => h2) (by simp)
    rcases h4 with rfl | ⟨rfl, rfl⟩
    · simp only [if_true, Oper.wp, h5 o rfl, Oper.upon]
      exact hN _ _ (h6 hm) ⟨σ'', F', ρ', hK, hd'.trans hd, hR'⟩
    · simp only [if_true, Oper.wp, h5 o rfl, Oper.upon]
      exact hN _ _ (h6 hm) ⟨σ'', F', ρ', hK, hd'.trans hd, hR'⟩
  | false =>
    obtain ⟨σ', hK, hR', hd'⟩ := put_sound (v := undef) hR (h.2 rfl) (by simp) (fun _ => rfl)
    simp only [Bool.false_eq_true, if_false]
    exact hN _ _ (Below.refl _ _) ⟨σ', F, ρ, hK, hd'.trans hd, hR'⟩

theorem call_stepB (hR : Rel T w F ρ w0 σ a.tmps outs) (hd : a.defers = []) {o : Oper} {c : Call} {x : Operand} (ho : o.op = .call c) (hc : c.callee = .value x) {g : Bool} {K : St → Prop} {N : Act → World → Prop}
    (hN : ∀ a' w', Below w.heap.size w w' → After T w0 outs K a' w' → N a' w') (h : CallStepB P T σ g x c.args.toList o.dst K) : if g then o.wp P a w N Q else N (a.put o.dst undef) w := by
  obtain ⟨ef, h1, hf⟩ := evalO_sound hR h
  obtain ⟨es, h2, hes⟩ := evalL_sound hR h1
  obtain ⟨fid, caps, rfl, h3⟩ := h2
  clear h h1
  cases g with
  | true =>
    obtain ⟨cs, hx, hcs⟩ := hf rfl
    have hall := (hes rfl).append hcs
    rcases h3 with ⟨e, hq, hk⟩ | ⟨he, _⟩
    · obtain ⟨hE, hq⟩ := hq rfl
      obtain ⟨v, hv, hq⟩ := hq w0 w F ρ _ _ _ hR hall
      have hcall := hq w (Below.refl _ _)
      simp only [if_true, Oper.wp, run_call hE hc hx w o ho, Oper.upon]
      refine hcall.mono ?_
      rintro en w' ⟨rfl, hb⟩
      obtain ⟨σ', hK, hR', hd'⟩ := put_sound hR hk (fun _ => hv) (by simp)
      exact hN _ _ hb ⟨σ', F, ρ, hK, hd'.trans hd, hR'.later hb⟩
    · obtain ⟨hE, he⟩ := he rfl
      simp only [if_true, Oper.wp, run_call hE hc hx w o ho, Oper.upon]
      refine (he w0 w F ρ _ _ _ hR hall).mono ?_
      rintro en w' ⟨v, σ', e, F', ρ', rfl, hb, hk, hv, hR'⟩
      obtain ⟨σ'', hK, hR'', hd'⟩ := put_sound hR' hk (fun _ => hv) (by simp)
      exact hN _ _ hb ⟨σ'', F', ρ', hK, hd'.trans hd, hR''⟩
  | false =>
    simp only [Bool.false_eq_true, if_false]
    rcases h3 with ⟨e, _, hk⟩ | ⟨_, he⟩
    · obtain ⟨σ', hK, hR', hd'⟩ := put_sound (v := undef) hR hk (by simp) (fun _ => rfl)
      exact hN _ _ (Below.refl _ _) ⟨σ', F, ρ, hK, hd'.trans hd, hR'⟩
    · obtain ⟨σ', hK, hR', hd'⟩ := put_sound (v := undef) hR (he rfl) (by simp) (fun _ => rfl)
      exact hN _ _ (Below.refl _ _) ⟨σ', F, ρ, hK, hd'.trans hd, hR'⟩

theorem opB_sound (hP : TabOk P T) (hR : Rel T w F ρ w0 σ a.tmps outs) (hd : a.defers = []) {o : Oper} {g : Bool} {K : St → Prop} {N : Act → World → Prop}
    (hN : ∀ a' w', Below w.heap.size w w' → After T w0 outs K a' w' → N a' w') {ops : Array Oper} (h : opB P T (strip ops o) K σ g) : if g then o.wp P a w N Q else N (a.put o.dst undef) w := by
  unfold opB at h
  have hop : (strip ops o).op = o.op := rfl
  have hdst : (strip ops o).dst = o.dst := rfl
  rw [hop, hdst] at h
  split at h
  · rename_i c hc
    split at h
    · rename_i f hf
      exact call_stepB hR hd hc hf hN h
    · rename_i hf
      cases g with
      | true =>
        obtain ⟨⟨σ', e, h1, w', F', ρ', v, nx, h2, h3, h4, h5, _⟩, nx2, w2, h7, h8⟩ := appB_sound hP hR hf (h.1 rfl)
        have heq := (h5 o hc).symm.trans (h7 o hc)
        cases heq
        obtain ⟨σ'', hK, hR', hd'⟩ := put_sound h3 h1 (fun _ => h2) (by simp)
        rcases h4 with rfl | ⟨rfl, rfl⟩
        · simp only [if_true, Oper.wp, h5 o hc, Oper.upon]
          exact hN _ _ h8 ⟨σ'', F', ρ', hK, hd'.trans hd, hR'⟩
        · simp only [if_true, Oper.wp, h5 o hc, Oper.upon]
          exact hN _ _ h8 ⟨σ'', F', ρ', hK, hd'.trans hd, hR'⟩
      | false =>
        obtain ⟨σ', hK, hR', hd'⟩ := put_sound (v := undef) hR (h.2 rfl) (by simp) (fun _ => rfl)
        simp only [Bool.false_eq_true, if_false]
        exact hN _ _ (Below.refl _ _) ⟨σ', F, ρ, hK, hd'.trans hd, hR'⟩
    · exact pure_stepB hP hR hd hN (by rw [hc]; exact h)
    · exact h.elim
  · rename_i hc; exact eff_stepB hP hR hd (by rw [hc]; rfl) hN (by rw [hc]; exact h)
  · rename_i hc; exact eff_stepB hP hR hd (by rw [hc]; rfl) hN (by rw [hc]; exact h)
  · exact h.elim
  · rename_i hc; exact eff_stepB hP hR hd (by rw [hc]; rfl) hN (by rw [hc]; exact h)
  · rename_i hc; exact eff_stepB hP hR hd (by rw [hc]; rfl) hN (by rw [hc]; exact h)
  · exact pure_stepB hP hR hd hN h

/-- One of those that may come up now. -/
def Branch (P : Program) (T : Tab) (ops : Array Oper) (keeps : Nat → Bool) (K : St → Prop) (fuel : Nat) (listed : Array Bool) (σ : St) (i : Nat) : Prop :=
  ∃ o, ops[i]? = some o ∧ guardA (strip ops o) σ fun g => if keeps i then opB P T (strip ops o) (AnyA P T ops keeps K fuel (listed.setIfInBounds i true)) σ g else opG P T (strip ops o) (AnyA P T ops keeps K fuel (listed.setIfInBounds i true)) σ g

def Branches (P : Program) (T : Tab) (ops : Array Oper) (keeps : Nat → Bool) (K : St → Prop) (fuel : Nat) (listed : Array Bool) (σ : St) (rs : List Nat) : Prop := ∀ i ∈ rs, Branch P T ops keeps K fuel listed σ i

theorem Branches.nil {K : St → Prop} {fuel : Nat} {listed : Array Bool} : Branches P T ops keeps K fuel listed σ [] := fun _ h => by cases h

theorem Branches.keep {K : St → Prop} {fuel : Nat} {listed : Array Bool} {i : Nat} {rs : List Nat} (so : SOp) (hso : (ops[i]?).map (strip ops) = some so) (hk : keeps i = true) (l' : Array Bool) (hl' : listed.setIfInBounds i true = l')
    (h : ∀ R : St → Prop, (∀ σ', AnyA P T ops keeps K fuel l' σ' → R σ') → guardA so σ (opB P T so R σ)) (hs : Branches P T ops keeps K fuel listed σ rs) : Branches P T ops keeps K fuel listed σ (i :: rs) := by
  subst hl'
  obtain ⟨o, hi, rfl⟩ := Option.map_eq_some_iff.1 hso
  intro j hj
  rcases List.mem_cons.1 hj with rfl | hj
  · exact ⟨o, hi, by simp only [hk, if_true]; exact h _ fun _ x => x⟩
  · exact hs j hj

theorem Branches.any {K : St → Prop} {fuel : Nat} {listed : Array Bool} {i : Nat} {rs : List Nat} (so : SOp) (hso : (ops[i]?).map (strip ops) = some so) (hk : keeps i = false) (l' : Array Bool) (hl' : listed.setIfInBounds i true = l')
    (h : ∀ R : St → Prop, (∀ σ', AnyA P T ops keeps K fuel l' σ' → R σ') → guardA so σ (opG P T so R σ)) (hs : Branches P T ops keeps K fuel listed σ rs) : Branches P T ops keeps K fuel listed σ (i :: rs) := by
  subst hl'
  obtain ⟨o, hi, rfl⟩ := Option.map_eq_some_iff.1 hso
  intro j hj
  rcases List.mem_cons.1 hj with rfl | hj
  · exact ⟨o, hi, by simp only [hk, Bool.false_eq_true, if_false]; exact h _ fun _ x => x⟩
  · exact hs j hj

/-- Whichever comes up. -/
theorem AnyA.all {K : St → Prop} {fuel : Nat} {listed : Array Bool} {rs : List Nat} (hP : TabOk P T) (hg : guardsOk ops = true) (hr : Region.ready .any ops listed = rs) (hne : rs.isEmpty = false) (h : Branches P T ops keeps K fuel listed σ rs) : AnyA P T ops keeps K (fuel + 1) listed σ := by
  intro w0 w F ρ a outs hd hR
  subst hr
  refine ⟨fun h => (by rw [h] at hne; cases hne), fun i hi => ?_⟩
  obtain ⟨o, ho, h⟩ := h i hi
  have hgo := List.all_eq_true.1 hg o (by have := Array.mem_of_getElem? ho; simpa using this)
  obtain ⟨g, h, hw⟩ := guardA_sound hR hgo h
  unfold Go.wpOp
  simp only [ho, hw]
  cases hk : keeps i with
  | true =>
    simp only [hk, if_true] at h
    have := opB_sound (Q := fun ex a' w' => ex = .normal ∧ After T w0 outs K a' w') hP hR hd (N := fun a' w' => (true = true → Below w.heap.size w w') ∧ wpAnyB P .any ops (fun ex a' w' => ex = .normal ∧ After T w0 outs K a' w') keeps fuel (listed.setIfInBounds i true) a' w')
      (fun a' w' hb ⟨σ', F', ρ', q1, q2, q3⟩ => ⟨fun _ => hb, q1 w0 w' F' ρ' a' outs q2 q3⟩) h
    cases g with
    | true => exact .inl this
    | false => exact this
  | false =>
    simp only [hk, Bool.false_eq_true, if_false] at h
    have := opG_sound (Q := fun ex a' w' => ex = .normal ∧ After T w0 outs K a' w') hP hR hd (N := fun a' w' => (false = true → Below w.heap.size w w') ∧ wpAnyB P .any ops (fun ex a' w' => ex = .normal ∧ After T w0 outs K a' w') keeps fuel (listed.setIfInBounds i true) a' w')
      (fun a' w' ⟨σ', F', ρ', q1, q2, q3⟩ => ⟨fun h => (by cases h), q1 w0 w' F' ρ' a' outs q2 q3⟩) h
    cases g with
    | true => exact .inl this
    | false => exact this

/-- The operations of that list write what was there, or may. -/
def but (l : List Nat) (i : Nat) : Bool := !l.contains i

theorem SA.regionAny {id : Nat} {ops : Array Oper} (hm : P.follows .mixedOrders = true) (n : Nat) (hn : ops.size = n) (l0 : Array Bool) (hl0 : Array.replicate n false = l0) (wr : List Nat) (lv : List Nat) {K : Exit → St → Prop}
    (h : ∀ R : St → Prop, (∀ σ', K .normal (σ'.keep lv) → R σ') → AnyA P T ops (but wr) R n l0 σ) : SA P T (.region id ops true) K σ := by
  intro w0 w F ρ a outs hd hR
  subst hn hl0
  have h := h (fun σ' => K .normal (σ'.keep lv)) (fun _ x => x) w0 _ F ρ a outs hd (hR.later (w' := { w with drawn := w.drawn + 1 }) ((Below.refl _ _).drew))
  refine wp_mono (wp_region_any hm (wpAny_of_B _ _ _ _ h)) ?_
  rintro ex a' w' ⟨rfl, σ', F', ρ', hK, hd', hR'⟩
  exact ⟨_, F', ρ', hK, hd', hR'.keep lv⟩

theorem SA.regionAnyPost {id : Nat} {ops : Array Oper} (hm : P.follows .mixedOrders = true) (n : Nat) (hn : ops.size = n) (l0 : Array Bool) (hl0 : Array.replicate n false = l0) (wr : List Nat) (lv : List Nat) {K : Exit → St → Prop} (τ : St)
    (h : ∀ R : St → Prop, (∀ σ', St.le T (σ'.keep lv) τ → R σ') → AnyA P T ops (but wr) R n l0 σ) (hK : K .normal τ) : SA P T (.region id ops true) K σ := by
  intro w0 w F ρ a outs hd hR
  subst hn hl0
  have h := h (fun σ' => St.le T (σ'.keep lv) τ) (fun _ x => x) w0 _ F ρ a outs hd (hR.later (w' := { w with drawn := w.drawn + 1 }) ((Below.refl _ _).drew))
  refine wp_mono (wp_region_any hm (wpAny_of_B _ _ _ _ h)) ?_
  rintro ex a' w' ⟨rfl, σ', F', ρ', hl, hd', hR'⟩
  obtain ⟨F'', ρ'', h2⟩ := hl _ _ _ _ _ _ (hR'.keep lv)
  exact ⟨_, F'', ρ'', hK, hd', h2⟩

end Go.Eng
