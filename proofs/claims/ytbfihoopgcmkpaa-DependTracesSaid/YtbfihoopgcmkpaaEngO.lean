/- Functions: calls that are entered, contracts, and calls by contract. -/
import Derived.Test.YtbfihoopgcmkpaaEngN
namespace Go.Eng
set_option linter.unusedSimpArgs false
set_option linter.unusedVariables false
open Go.RowKit

variable {P : Program} {T : Tab} {w w' : World} {w0 : Base} {F F' : Nat → Prop} {ρ ρ' : Nat → RI} {σ σ' : St} {a : Act} {outs : List (Array Value)}

def args0 (k : Nat) : List E → Tm
  | [] => []
  | e :: es => (k, true, e) :: args0 (k + 1) es

theorem lookup_args0 : ∀ (es : List E) (k t : Nat) (g : Bool) (e : E), (args0 k es).lookup t = some (g, e) → k ≤ t ∧ g = true ∧ es[t - k]? = some e
  | [], k, t, g, e, h => by simp [args0] at h
  | x :: es, k, t, g, e, h => by
    simp only [args0, List.lookup_cons] at h
    by_cases ht : t = k
    · subst ht
      simp at h
      obtain ⟨rfl, rfl⟩ := h
      simp
    · have : (t == k) = false := by simpa using ht
      rw [this] at h
      obtain ⟨h1, h2, h3⟩ := lookup_args0 es (k + 1) t g e h
      refine ⟨by omega, h2, ?_⟩
      rw [show t - k = (t - (k + 1)) + 1 by omega, List.getElem?_cons_succ]
      exact h3

theorem ERelL.nth : ∀ {l : List E} {vs : List Value} {k : Nat} {y : E}, ERelL T w F ρ l vs → l[k]? = some y → ∃ v, vs[k]? = some v ∧ ERel T w F ρ y v
  | [], _, _, _, _, h => by simp at h
  | e :: l, [], _, _, hr, _ => hr.elim
  | e :: l, v :: vs, 0, y, hr, h => by simp at h; subst h; exact ⟨v, rfl, hr.1⟩
  | e :: l, v :: vs, k + 1, y, hr, h => by
    obtain ⟨u, h1, h2⟩ := ERelL.nth (l := l) (vs := vs) (k := k) (y := y) hr.2 (by simpa using h)
    exact ⟨u, by simpa using h1, h2⟩

theorem ERelL.lens : ∀ {l : List E} {vs : List Value}, ERelL T w F ρ l vs → l.length = vs.length
  | [], [], _ => rfl
  | _ :: _, _ :: _, ⟨_, h⟩ => by simp [ERelL.lens h]
  | [], _ :: _, h => h.elim
  | _ :: _, [], h => h.elim

/-- The state in which a function's body begins. -/
def enter (σ : St) (es : List E) (n : Nat) : St := { tm := args0 0 es, ob := σ.ob, out := σ.tm :: σ.out, nt := n }

theorem args_tm {es : List E} {xs : List Value} (h : ERelL T w F ρ es xs) (n : Nat) : TmRel T w F ρ (args0 0 es) (xs.toArray ++ Array.replicate n undef) := by
  intro t g e he
  obtain ⟨_, rfl, h2⟩ := lookup_args0 es 0 t g e he
  obtain ⟨v, h3, h4⟩ := h.nth h2
  have hlt := (List.getElem?_eq_some_iff.1 h3).1
  refine ⟨v, ?_, fun _ => h4, by simp⟩
  simp only [Nat.sub_zero] at h3 hlt
  rw [Array.getElem?_append_left (by simpa using hlt)]
  simpa using h3

theorem Rel.enter {tmps : Array Value} (hR : Rel T w F ρ w0 σ tmps outs) {es : List E} {xs : List Value} (h : ERelL T w F ρ es xs) {n : Nat} (hn : es.length ≤ n) :
    Rel T w F ρ w0 (Eng.enter σ es n) (xs.toArray ++ Array.replicate (n - xs.toArray.size) undef) (tmps :: outs) := by
  have hl := h.lens
  exact ⟨args_tm h _, ⟨hR.tm, hR.out⟩, hR.ob, hR.free, hR.inj, hR.fsub, hR.below, by simp [Eng.enter]; omega, hR.fold⟩

/-- Back to the caller. -/
def backK (σ : St) (K : St → E → Prop) (σ' : St) (es : List E) : Prop := match σ'.out with
  | tm :: out => K { tm := tm, ob := σ'.ob, out := out, nt := σ.nt } (outE es)
  | [] => False

def bodyK (T : Tab) (rs : List ResultVar) (σ : St) (K : St → E → Prop) (ex : Exit) (σ' : St) : Prop := (ex = .normal ∨ ex = .ret) ∧ resA T σ' rs (backK σ K σ')

theorem bodyK.normal {rs : List ResultVar} {K : St → E → Prop} (h : resA T σ' rs (backK σ K σ')) : bodyK T rs σ K .normal σ' := ⟨.inl rfl, h⟩
theorem bodyK.ret {rs : List ResultVar} {K : St → E → Prop} (h : resA T σ' rs (backK σ K σ')) : bodyK T rs σ K .ret σ' := ⟨.inr rfl, h⟩

theorem enters_of {f : FuncId} {fn : Func} (hf : P.funcs[f]? = some fn) (hb : fn.body.isNone = false) (hn : (fn.name == "runtime.NumGoroutine") = false) : Enters P f := by
  intro args w
  have h1 : ¬ fn.name = "runtime.NumGoroutine" := by simpa using hn
  have h2 : ¬ fn.body = none := by intro h; rw [h] at hb; cases hb
  simp [callFunc, run_program, hf, h1, h2]

theorem leave_sound (hP : TabOk P T) {fn : Func} {R : Ending → World → Prop} {ex : Exit} {K : List E → Prop} {a' : Act} (hR : Rel T w F ρ w0 σ' a'.tmps outs) (hd : a'.defers = []) (hex : ex = .normal ∨ ex = .ret)
    (h : resA T σ' fn.results.toList K) (hK : ∀ es vs, K es → ERelL T w F ρ es vs → R (.returned (outV vs)) w) : bodyPost P fn R ex a' w := by
  obtain ⟨es, vs, h1, h2, h3⟩ := resA_sound hP hR h
  have := run_results (fn := fn) h3
  rcases hex with rfl | rfl
  · exact ⟨hd, _, this, hK es vs h1 h2⟩
  · exact ⟨hd, _, this, hK es vs h1 h2⟩

/-- A call that is entered. -/
theorem CallE.body (hP : TabOk P T) {f : FuncId} {fn : Func} {c : Code} {es : List E} {K : St → E → Prop} (hf : P.funcs[f]? = some fn) (hb : fn.body = some c) (hname : (fn.name == "runtime.NumGoroutine") = false) (n : Nat) (hnt : fn.ntmps = n) (rs : List ResultVar) (hrs : fn.results.toList = rs) (hn : es.length ≤ n)
    (h : SA P T c (bodyK T rs σ K) (enter σ es n)) : CallE P T σ f es K := by
  subst hnt hrs
  refine ⟨enters_of hf (by rw [hb]; rfl) hname, ?_⟩
  intro w0 w F ρ tmps outs xs hR hx
  refine calls_of_wp hf hb ?_
  have hR' := hR.enter hx hn
  refine wp_mono (h w0 w F ρ { tmps := xs.toArray ++ Array.replicate (fn.ntmps - xs.toArray.size) undef, defers := [] } (tmps :: outs) rfl hR') ?_
  rintro ex a' w' ⟨σ', F', ρ', ⟨hex, hr⟩, hd', hR''⟩
  refine leave_sound hP hR'' hd' hex hr ?_
  intro es' vs hb' he'
  unfold backK at hb'
  cases ho : σ'.out with
  | nil => rw [ho] at hb'; exact hb'.elim
  | cons tm out =>
    rw [ho] at hb'
    have hout := hR''.out
    rw [ho] at hout
    exact ⟨_, _, _, F', ρ', rfl, hb', outE_rel he', ⟨hout.1, hout.2, hR''.ob, hR''.free, hR''.inj, hR''.fsub, hR''.below, hR.size, hR''.fold⟩⟩

/-! ### Contracts -/

def ArgsFit (T : Tab) (w : World) (F : Nat → Prop) : List TypeId → List V → List Value → Prop
  | [], [], [] => True
  | t :: ts, v :: vs, x :: xs => (Fits T w F t v x.cells.toList ∧ ValOf T t x x.cells.toList) ∧ ArgsFit T w F ts vs xs
  | _, _, _ => False

/-- A result: a slice is a row of its own in new memory; all else is flat data. -/
def ResFit (T : Tab) (w : World) (n0 : Nat) (t : TypeId) (v : V) (y : Value) : Prop := match T.ty t with
  | .slice e => ∃ l zs, v = .list l ∧ flatTy T 20 e = true ∧ w.ownsRow n0 e (T.sz e) y l.length zs ∧ FitsL T w (fun _ => False) (List.replicate l.length e) l zs
  | _ => flatTy T 20 t = true ∧ Fits T w (fun _ => False) t v y.cells.toList ∧ ValOf T t y y.cells.toList

def ResFits (T : Tab) (w : World) (n0 : Nat) : List TypeId → List V → List Value → Prop
  | [], [], [] => True
  | t :: ts, v :: vs, y :: ys => ResFit T w n0 t v y ∧ (∀ b, y.ownBlock = some b → ∀ y' ∈ ys, y'.ownBlock ≠ some b) ∧ ResFits T w n0 ts vs ys
  | _, _, _ => False

/-- A function's contract: called with arguments that read as vs it returns what reads as rs, in new memory, and leaves all that was there as it was. -/
def Ctr (P : Program) (T : Tab) (f : FuncId) (pts rts : List TypeId) (vs rs : List V) : Prop :=
  Enters P f ∧ ∀ (w : World) (F : Nat → Prop) (xs : List Value), (∀ b, F b → b < w.heap.size) → ArgsFit T w F pts vs xs →
    Calls P f xs.toArray w fun en w' => ∃ ys, en = .returned (outV ys) ∧ Below w.heap.size w w' ∧ ResFits T w' w.heap.size rts rs ys

def fromVs (T : Tab) : List TypeId → List V → List E
  | t :: ts, v :: vs => fromV T t v :: fromVs T ts vs
  | _, _ => []

theorem fromVs_rel : ∀ {ts : List TypeId} {vs : List V} {xs : List Value}, ArgsFit T w F ts vs xs → ERelL T w F ρ (fromVs T ts vs) xs
  | [], [], [], _ => trivial
  | _ :: _, _ :: _, _ :: _, ⟨⟨h1, h2⟩, h⟩ => ⟨fromV_rel h1 h2, fromVs_rel h⟩
  | [], [], _ :: _, h => h.elim
  | [], _ :: _, _, h => h.elim
  | _ :: _, [], _, h => h.elim
  | _ :: _, _ :: _, [], h => h.elim

/-- Flat data hangs on no memory. -/
theorem Fits.flat : ∀ (d : Nat) {t : TypeId} {v : V} {cs : List Value}, flatTy T d t = true → Fits T w F t v cs → Fits T w' F' t v cs := by
  intro d
  induction d using Nat.strongRecOn with
  | _ d ih =>
    intro t v cs hf h
    cases d with
    | zero => simp [flatTy] at hf
    | succ d =>
      unfold flatTy at hf
      split at hf
      · rename_i k hk; obtain ⟨n, rfl, h1, rfl⟩ := h.inv' hk; exact .int hk h1
      · rename_i hk; obtain ⟨b, rfl, rfl⟩ := h.inv' hk; exact .bool hk
      · rename_i hk; obtain ⟨s, rfl, rfl⟩ := h.inv' hk; exact .str hk
      · rename_i ts hk
        obtain ⟨l, rfl, hl⟩ := h.inv' hk
        refine .struct hk ?_
        have key : ∀ (ts : List TypeId) (l : List V) (cs : List Value), (∀ t ∈ ts, ∃ d', d' < d + 1 ∧ flatTy T d' t = true) → FitsL T w F ts l cs → FitsL T w' F' ts l cs := by
          intro ts
          induction ts with
          | nil => intro l cs _ h; cases h; exact .nil
          | cons t ts iht =>
            intro l cs hall h
            cases h with
            | cons h1 h2 =>
              obtain ⟨d', hd', hf'⟩ := hall t (by simp)
              exact .cons (ih d' hd' hf' h1) (iht _ _ (fun u hu => hall u (by simp [hu])) h2)
        refine key ts l cs (fun u hu => ?_) hl
        obtain ⟨k, hk'⟩ := List.mem_iff_getElem?.1 hu
        obtain ⟨d', h1, h2⟩ := flatTys_nth hf hk'
        exact ⟨d', by omega, h2⟩
      · rename_i n e hk
        obtain ⟨l, rfl, hl⟩ := h.inv' hk
        refine .arr hk ?_
        have key : ∀ (ts : List TypeId) (l : List V) (cs : List Value), (∀ t ∈ ts, t = e) → FitsL T w F ts l cs → FitsL T w' F' ts l cs := by
          intro ts
          induction ts with
          | nil => intro l cs _ h; cases h; exact .nil
          | cons t ts iht =>
            intro l cs hall h
            cases h with
            | cons h1 h2 =>
              obtain rfl := hall t (by simp)
              exact .cons (ih d (by omega) hf h1) (iht _ _ (fun u hu => hall u (by simp [hu])) h2)
        exact key _ l cs (fun u hu => (List.mem_replicate.1 hu).2) hl
      · cases hf

theorem FitsL.flat {e : TypeId} (he : flatTy T 20 e = true) : ∀ {n : Nat} {l : List V} {cs : List Value}, FitsL T w F (List.replicate n e) l cs → FitsL T w' F' (List.replicate n e) l cs
  | 0, _, _, h => by cases h; exact .nil
  | n + 1, _, _, h => by
    rw [List.replicate_succ] at h ⊢
    cases h with
    | cons h1 h2 => exact .cons (h1.flat 20 he) (FitsL.flat he h2)

/-- What a body hands back, as results of its contract. -/
def resV (T : Tab) (σ : St) : List TypeId → List E → List V → Prop
  | [], [], [] => True
  | t :: ts, e :: es, v :: vs => (match T.ty t with
      | .slice el => flatTy T 20 el = true ∧ (match e with
        | .sl i e' lo n c => e' = el ∧ lo = 0 ∧ c = false ∧ (match σ.ob[i]? with
          | some (.row _ l) => v = .list (l.take n)
          | _ => False) ∧ (∀ e'' ∈ es, ∀ j u lo n c, e'' = .sl j u lo n c → j ≠ i)
        | .nilsl => v = .list []
        | _ => False)
      | _ => flatTy T 20 t = true ∧ toV T t e = some v) ∧ resV T σ ts es vs
  | _, _, _ => False

theorem sl_block {i : Nat} {e : TypeId} {lo n : Nat} {c : Bool} {y : Value} (h : ERel T w F ρ (.sl i e lo n c) y) {b : Nat} (hb : y.ownBlock = some b) : (ρ i).block = some b := by
  rcases h with ⟨_, rfl, _⟩ | ⟨b', m, cap, off, h1, _, _, rfl, _⟩
  · simp [Value.ownBlock] at hb
  · simp [Value.ownBlock] at hb
    subst hb
    rw [h1]; rfl

theorem flat_notSlice {t : TypeId} {y : Value} {cs : List Value} {v : V} (hf : flatTy T 20 t = true) (h : Fits T w F t v cs) (hv : ValOf T t y cs) : y.ownBlock = none := by
  unfold ValOf at hv
  split at hv
  · subst hv; rfl
  · rename_i hA
    have h1 := h.inv
    unfold flatTy at hf
    split at hf
    · rename_i k hk; rw [hk] at h1; obtain ⟨n, _, _, rfl⟩ := h1; simp at hv; subst hv; rfl
    · rename_i hk; rw [hk] at h1; obtain ⟨n, _, rfl⟩ := h1; simp at hv; subst hv; rfl
    · rename_i hk; rw [hk] at h1; obtain ⟨n, _, rfl⟩ := h1; simp at hv; subst hv; rfl
    · rename_i ts hk; simp [hk, TyD.isAgg] at hA
    · rename_i n e hk; simp [hk, TyD.isAgg] at hA
    · cases hf

theorem resV_sound (hS : T.Sized) {tmps : Array Value} (hR : Rel T w F ρ w0 σ tmps outs) : ∀ {ts : List TypeId} {es : List E} {vs : List V} {ys : List Value}, resV T σ ts es vs → ERelL T w F ρ es ys → ResFits T w w0.w.heap.size ts vs ys
  | [], [], [], [], _, _ => trivial
  | t :: ts, e :: es, v :: vs, y :: ys, ⟨h, hr⟩, ⟨hy, hys⟩ => by
    have rest := resV_sound hS hR hr hys
    refine ⟨?_, ?_, rest⟩
    · unfold ResFit
      split at h
      · rename_i el ht
        obtain ⟨hfl, h⟩ := h
        split at h
        · rename_i i e' lo n c
          obtain ⟨rfl, rfl, rfl, h, _⟩ := h
          split at h; rotate_left; · exact h.elim
          rename_i e2 l ho
          subst h
          have hob := hR.ob _ _ ho
          rcases hy with ⟨h1, rfl, _, rfl⟩ | ⟨b, m, cap, off, h1, h2, h3, rfl, h5, h6⟩
          · exact ⟨[], [], by simp, hfl, by simpa using World.ownsRow_nil w w0.w.heap.size e' (T.sz e'), by simpa using FitsL.nil⟩
          · rw [h1] at hob
            obtain ⟨rfl, q2, xs, q3, q4⟩ := hob
            have h5' := h5 rfl
            subst h5'
            rcases q3.2 with ⟨q, _⟩ | ⟨b', cap', cur, hr, hb, hh, hn', hc', hs', htk⟩
            · cases q
            · cases hr
              have hnl : (l.take n).length = n := by simp; omega
              have hx := q3.1
              refine ⟨l.take n, xs.take (n * T.sz e'), rfl, hfl, ?_, ?_⟩
              · rw [hnl]
                refine ⟨?_, .inr ⟨b, cap, cur, by simp, hb, hh, by omega, hc', hs', ?_⟩⟩
                · have : n * T.sz e' ≤ l.length * T.sz e' := Nat.mul_le_mul_right _ (by omega)
                  simp; omega
                · rw [← htk, List.take_take, Nat.min_eq_left (Nat.mul_le_mul_right _ (by omega))]
              · rw [hnl]
                have := q4.slice hS (lo := 0) (m := n) (by omega)
                simp only [Nat.zero_mul, List.drop_zero] at this
                exact this.flat hfl
        · obtain rfl : y = _ := hy
          exact ⟨[], [], h, hfl, by simpa using World.ownsRow_nil w w0.w.heap.size el (T.sz el), by simpa using FitsL.nil⟩
        · exact h.elim
      · rename_i hns
        obtain ⟨hfl, h⟩ := h
        obtain ⟨k1, k2⟩ := toV_fits hy h
        exact ⟨hfl, k1.flat 20 hfl, k2⟩
    · intro b hb y' hy' hb'
      split at h
      · rename_i el ht
        obtain ⟨hfl, h⟩ := h
        split at h
        · rename_i i e' lo n c
          obtain ⟨rfl, rfl, rfl, _, hdis⟩ := h
          have hi := sl_block hy hb
          -- y' is a later result with the same block
          obtain ⟨k, hk⟩ := List.mem_iff_getElem?.1 hy'
          have key : ∀ {ts : List TypeId} {es : List E} {vs : List V} {ys : List Value} {k : Nat}, resV T σ ts es vs → ERelL T w F ρ es ys → ys[k]? = some y' → ∃ e ∈ es, ERel T w F ρ e y' ∧ ((∃ j u lo n c, e = .sl j u lo n c) ∨ y'.ownBlock = none) := by
            intro ts
            induction ts with
            | nil =>
              intro es vs ys k hr hys hk
              cases es with
              | nil => cases ys with
                | nil => simp at hk
                | cons => exact hys.elim
              | cons => exact hr.elim
            | cons t ts ih =>
              intro es vs ys k hr hys hk
              cases es with
              | nil => exact hr.elim
              | cons e es =>
                cases vs with
                | nil => exact hr.elim
                | cons v vs =>
                  cases ys with
                  | nil => exact hys.elim
                  | cons z zs =>
                    cases k with
                    | succ k =>
                      obtain ⟨e', h1, h2⟩ := ih hr.2 hys.2 (by simpa using hk)
                      exact ⟨e', by simp [h1], h2⟩
                    | zero =>
                      simp at hk
                      subst hk
                      refine ⟨e, by simp, hys.1, ?_⟩
                      have h0 := hr.1
                      split at h0
                      · obtain ⟨_, h0⟩ := h0
                        split at h0
                        · exact .inl ⟨_, _, _, _, _, rfl⟩
                        · obtain rfl : z = _ := hys.1
                          exact .inr rfl
                        · exact h0.elim
                      · obtain ⟨hf0, h0⟩ := h0
                        obtain ⟨k1, k2⟩ := toV_fits hys.1 h0
                        exact .inr (flat_notSlice hf0 k1 k2)
          obtain ⟨e'', h1, h2, h3⟩ := key hr hys hk
          rcases h3 with ⟨j, u, lo', n', c', rfl⟩ | h3
          · have hj := sl_block h2 hb'
            exact hdis _ h1 j u lo' n' c' rfl (hR.inj j i b hj hi)
          · rw [h3] at hb'; cases hb'
        · obtain rfl : y = _ := hy
          simp [Value.ownBlock] at hb
        · exact h.elim
      · obtain ⟨hfl, h⟩ := h
        obtain ⟨k1, k2⟩ := toV_fits hy h
        rw [flat_notSlice hfl k1 k2] at hb
        cases hb
  | [], [], [], _ :: _, _, h => h.elim
  | _ :: _, _ :: _, _ :: _, [], _, h => h.elim
  | [], _ :: _, _, _, h, _ => h.elim
  | [], [], _ :: _, _, h, _ => h.elim
  | _ :: _, [], _, _, h, _ => h.elim
  | _ :: _, _ :: _, [], _, h, _ => h.elim

/-- How a body leaves, for its contract. -/
def ctrK (T : Tab) (rs : List ResultVar) (rts : List TypeId) (vs : List V) (ex : Exit) (σ' : St) : Prop := (ex = .normal ∨ ex = .ret) ∧ resA T σ' rs fun es => resV T σ' rts es vs

theorem ctrK.normal {rs : List ResultVar} {rts : List TypeId} {vs : List V} (h : resA T σ' rs fun es => resV T σ' rts es vs) : ctrK T rs rts vs .normal σ' := ⟨.inl rfl, h⟩
theorem ctrK.ret {rs : List ResultVar} {rts : List TypeId} {vs : List V} (h : resA T σ' rs fun es => resV T σ' rts es vs) : ctrK T rs rts vs .ret σ' := ⟨.inr rfl, h⟩

theorem ArgsFit.len : ∀ {ts : List TypeId} {vs : List V} {xs : List Value}, ArgsFit T w F ts vs xs → (fromVs T ts vs).length = xs.length
  | [], [], [], _ => rfl
  | _ :: _, _ :: _, _ :: _, ⟨_, h⟩ => by simp [fromVs, ArgsFit.len h]
  | [], [], _ :: _, h => h.elim
  | [], _ :: _, _, h => h.elim
  | _ :: _, [], _, h => h.elim
  | _ :: _, _ :: _, [], h => h.elim

/-- A contract, by its body. -/
theorem Ctr.body (hP : TabOk P T) {f : FuncId} {fn : Func} {c : Code} {pts rts : List TypeId} {vs rs : List V} (hf : P.funcs[f]? = some fn) (hb : fn.body = some c) (hname : (fn.name == "runtime.NumGoroutine") = false) (n : Nat) (hnt : fn.ntmps = n) (res : List ResultVar) (hrs : fn.results.toList = res) (hn : (fromVs T pts vs).length ≤ n)
    (h : SA P T c (ctrK T res rts rs) { tm := args0 0 (fromVs T pts vs), ob := [], out := [], nt := n }) : Ctr P T f pts rts vs rs := by
  subst hnt hrs
  refine ⟨enters_of hf (by rw [hb]; rfl) hname, ?_⟩
  intro w F xs hF hx
  refine calls_of_wp hf hb ?_
  have hl := hx.len
  have hR : Rel T w F (fun _ => .none) ⟨w, F⟩ { tm := args0 0 (fromVs T pts vs), ob := [], out := [], nt := fn.ntmps } (xs.toArray ++ Array.replicate (fn.ntmps - xs.toArray.size) undef) [] :=
    ⟨args_tm (fromVs_rel hx) _, trivial, fun i o h => by simp at h, fun _ _ => rfl, fun i j b h => by simp [RI.block] at h, hF, Below.refl _ _, by simp; omega, fun _ h => .inr h⟩
  refine wp_mono (h ⟨w, F⟩ w F _ { tmps := xs.toArray ++ Array.replicate (fn.ntmps - xs.toArray.size) undef, defers := [] } [] rfl hR) ?_
  rintro ex a' w' ⟨σ', F', ρ', ⟨hex, hr⟩, hd', hR''⟩
  exact leave_sound hP hR'' hd' hex hr fun es ys hv he => ⟨ys, rfl, hR''.below, resV_sound hP.sized hR'' hv he⟩

end Go.Eng
