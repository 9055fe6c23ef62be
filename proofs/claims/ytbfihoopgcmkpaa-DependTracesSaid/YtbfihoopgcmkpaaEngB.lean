/- Abstract values, abstract objects, abstract states, and how they describe a real frame and world. -/
import Derived.Test.YtbfihoopgcmkpaaEngA
namespace Go.Eng
set_option linter.unusedSimpArgs false
set_option linter.unusedVariables false
open Go.RowKit

inductive E where
  | int (k : IntKind) (n : Int)
  | bool (b : Bool)
  | str (s : ByteArray)
  | data (t : TypeId) (v : V)
  | fs (e : TypeId) (l : List V) (clip : Bool)
  | sl (i : Nat) (e : TypeId) (lo len : Nat) (clip : Bool)
  | nilsl
  | ptr (i : Nat) (p : List Nat) (t : TypeId)
  | rp (i j : Nat) (p : List Nat) (t : TypeId)
  | fptr (t : TypeId) (v : V)
  | fn (f : FuncId) (caps : List E)
  | nilfn
  | tup (l : List E)
  | undef

instance : Inhabited E := ⟨.undef⟩

/-- What an abstract object is in the real world. -/
inductive RI where
  | none
  | var (b : Nat) (t : TypeId)
  | row (e : TypeId) (r : Value)

def RI.block : RI → Option Nat
  | .none => Option.none
  | .var b _ => some b
  | .row _ r => r.ownBlock

inductive Obj where
  | var (t : TypeId) (e : E)
  | row (e : TypeId) (l : List V)
  | erow (e : TypeId) (l : List E)
  | dead

abbrev Tm := List (Nat × Bool × E)

/-- Where a call began: the world, and what nobody writes from then on. -/
structure Base where
  w : World
  G : Nat → Prop

structure St where
  tm : Tm
  ob : List Obj
  out : List Tm := []
  nt : Nat := 0

section
variable (T : Tab) (w : World) (F : Nat → Prop) (ρ : Nat → RI)

/-- A row of elements in memory that nobody writes. -/
def FRow (e : TypeId) (l : List V) (clip : Bool) (v : Value) : Prop :=
  (v = .slice none 0 0 ∧ l = []) ∨ ∃ b off cap cs, v = .slice (some ⟨b, off, none⟩) l.length cap ∧ l.length ≤ cap ∧ (clip = true → cap = l.length) ∧ F b ∧ Seg w b off cs ∧
    FitsL T w F (List.replicate l.length e) l cs

/-- A slice of a row of the call's own. -/
def ORow (r : RI) (e : TypeId) (lo len : Nat) (clip : Bool) (v : Value) : Prop :=
  (r = .row e (.slice none 0 0) ∧ v = .slice none 0 0 ∧ lo = 0 ∧ len = 0) ∨
  ∃ b n cap off, r = .row e (.slice (some ⟨b, 0, none⟩) n cap) ∧ lo + len ≤ n ∧ n ≤ cap ∧ v = .slice (some ⟨b, off, none⟩) len (if clip then len else cap - lo) ∧
    (lo = 0 → off = 0) ∧ (len = 0 ∨ off = lo * T.sz e)

mutual
def ERel : E → Value → Prop
  | .int k n, v => v = .int k n ∧ k.has n
  | .bool b, v => v = .bool b
  | .str s, v => v = .string s
  | .data t x, v => ∃ cs : Array Value, v = .agg cs ∧ (T.ty t).isAgg = true ∧ Fits T w F t x cs.toList
  | .fs e l clip, v => FRow T w F e l clip v
  | .sl i e lo len clip, v => ORow T (ρ i) e lo len clip v
  | .nilsl, v => v = .slice none 0 0
  | .ptr i p t, v => ∃ b root off, ρ i = .var b root ∧ PathOk T root p off t ∧ v = .pointer (some ⟨b, off, none⟩)
  | .rp i j p t, v => ∃ b e n cap off, ρ i = .row e (.slice (some ⟨b, 0, none⟩) n cap) ∧ PathOk T e p off t ∧ v = .pointer (some ⟨b, j * T.sz e + off, none⟩)
  | .fptr t x, v => ∃ b off cs, v = .pointer (some ⟨b, off, none⟩) ∧ F b ∧ Seg w b off cs ∧ Fits T w F t x cs
  | .fn f caps, v => ∃ cs : List Value, v = .func (.func f) #[] cs.toArray ∧ ERelL caps cs
  | .nilfn, v => v = .nilFunc
  | .tup l, v => ∃ vs : List Value, v = .tuple vs.toArray ∧ ERelL l vs
  | .undef, _ => True
def ERelL : List E → List Value → Prop
  | [], [] => True
  | e :: es, v :: vs => ERel e v ∧ ERelL es vs
  | _, _ => False
end

/-- A variable's cells hold a value. -/
def Holds (t : TypeId) (v : Value) (cs : Array Value) : Prop :=
  cs.size = T.sz t ∧ (if (T.ty t).isAgg then v = .agg cs else cs = #[v] ∧ v.oneCell' = true)

def ORel (n0 : Nat) : RI → Obj → Prop
  | .var b t', .var t e => (t' = t ∧ T.ty t ≠ .other ∧ ∀ u x, e = .data u x → u = t) ∧ n0 ≤ b ∧ ¬ F b ∧ ∃ cs ct v, w.heap[b]? = some (.cells cs ct (0, 0)) ∧ ERel T w F ρ e v ∧ Holds T t v cs ∧ (∀ c ∈ cs, c.oneCell' = true)
  | .row e' r, .row e l => e' = e ∧ (∀ b, r.ownBlock = some b → ¬ F b) ∧ ∃ xs, w.ownsRow n0 e (T.sz e) r l.length xs ∧ FitsL T w F (List.replicate l.length e) l xs
  | .row e' r, .erow e l => e' = e ∧ (∀ b, r.ownBlock = some b → ¬ F b) ∧ (T.sz e = 1 ∧ (T.ty e).isAgg = false ∧ T.ty e ≠ .other) ∧ ∃ xs, w.ownsRow n0 e (T.sz e) r l.length xs ∧ ERelL T w F ρ l xs ∧ ∀ x ∈ xs, x.oneCell' = true
  | r, .dead => r = .none
  | _, _ => False

def TmRel (tm : Tm) (tmps : Array Value) : Prop :=
  ∀ t g e, tm.lookup t = some (g, e) → ∃ v, tmps[t]? = some v ∧ (g = true → ERel T w F ρ e v) ∧ (g = false → v = undef)

def OutRel : List Tm → List (Array Value) → Prop
  | [], [] => True
  | a :: as, b :: bs => TmRel T w F ρ a b ∧ OutRel as bs
  | _, _ => False

/-- The abstract state describes the frame (the frames that wait for it) and the world. -/
structure Rel (w0 : Base) (σ : St) (tmps : Array Value) (outs : List (Array Value)) : Prop where
  tm : TmRel T w F ρ σ.tm tmps
  out : OutRel T w F ρ σ.out outs
  ob : ∀ i o, σ.ob[i]? = some o → ORel T w F ρ w0.w.heap.size (ρ i) o
  free : ∀ i, σ.ob[i]? = none → ρ i = .none
  inj : ∀ i j b, (ρ i).block = some b → (ρ j).block = some b → i = j
  fsub : ∀ b, F b → b < w.heap.size
  below : Below w0.w.heap.size w0.w w
  size : tmps.size = σ.nt
  fold : ∀ b, F b → w0.w.heap.size ≤ b ∨ w0.G b
end

variable {T : Tab} {w w' : World} {w0 : Base} {F F' : Nat → Prop} {ρ ρ' : Nat → RI}

theorem FRow.mono {e : TypeId} {l : List V} {clip : Bool} {v : Value} (hF : ∀ b, F b → F' b) (hw : ∀ b, F b → w'.heap[b]? = w.heap[b]?) (h : FRow T w F e l clip v) : FRow T w' F' e l clip v := by
  rcases h with h | ⟨b, off, cap, cs, h1, h2, h3, h4, h5, h6⟩
  · exact .inl h
  · exact .inr ⟨b, off, cap, cs, h1, h2, h3, hF _ h4, h5.mono (hw _ h4), h6.mono hF hw⟩

mutual
theorem ERel.mono (hF : ∀ b, F b → F' b) (hw : ∀ b, F b → w'.heap[b]? = w.heap[b]?) (hρ : ∀ i, ρ i ≠ .none → ρ' i = ρ i) : ∀ {e : E} {v : Value}, ERel T w F ρ e v → ERel T w' F' ρ' e v
  | .int _ _, _, h => h
  | .bool _, _, h => h
  | .str _, _, h => h
  | .data _ _, _, ⟨cs, h1, h2, h3⟩ => ⟨cs, h1, h2, h3.mono hF hw⟩
  | .fs _ _ _, _, h => FRow.mono hF hw h
  | .sl i e lo len clip, v, h => by
    unfold ERel at h ⊢
    have : ρ' i = ρ i := hρ i (by rcases h with ⟨h, _⟩ | ⟨_, _, _, _, h, _⟩ <;> rw [h] <;> simp)
    rw [this]; exact h
  | .nilsl, _, h => h
  | .ptr i p t, v, ⟨b, root, off, h1, h2, h3⟩ => ⟨b, root, off, (hρ i (by rw [h1]; simp)).trans h1, h2, h3⟩
  | .rp i j p t, v, ⟨b, e, n, cap, off, h1, h2, h3⟩ => ⟨b, e, n, cap, off, (hρ i (by rw [h1]; simp)).trans h1, h2, h3⟩
  | .fptr _ _, _, ⟨b, off, cs, h1, h2, h3, h4⟩ => ⟨b, off, cs, h1, hF _ h2, h3.mono (hw _ h2), h4.mono hF hw⟩
  | .fn _ _, _, ⟨cs, h1, h2⟩ => ⟨cs, h1, ERelL.mono hF hw hρ h2⟩
  | .nilfn, _, h => h
  | .tup _, _, ⟨vs, h1, h2⟩ => ⟨vs, h1, ERelL.mono hF hw hρ h2⟩
  | .undef, _, _ => trivial
theorem ERelL.mono (hF : ∀ b, F b → F' b) (hw : ∀ b, F b → w'.heap[b]? = w.heap[b]?) (hρ : ∀ i, ρ i ≠ .none → ρ' i = ρ i) : ∀ {l : List E} {vs : List Value}, ERelL T w F ρ l vs → ERelL T w' F' ρ' l vs
  | [], [], h => h
  | _ :: _, _ :: _, ⟨h1, h2⟩ => ⟨ERel.mono hF hw hρ h1, ERelL.mono hF hw hρ h2⟩
  | [], _ :: _, h => h.elim
  | _ :: _, [], h => h.elim
end

theorem ERelL.at : ∀ {l : List E} {vs : List Value} {k : Nat}, ERelL T w F ρ l vs → k < l.length → ∃ v, vs[k]? = some v ∧ ERel T w F ρ (l.getD k .undef) v
  | [], _, _, _, h => by simp at h
  | e :: l, [], _, hr, _ => hr.elim
  | e :: l, v :: vs, 0, hr, _ => ⟨v, rfl, hr.1⟩
  | e :: l, v :: vs, k + 1, hr, h => by
    obtain ⟨u, h1, h2⟩ := ERelL.at (l := l) (vs := vs) (k := k) hr.2 (by simpa using h)
    exact ⟨u, by simpa using h1, by simpa using h2⟩

theorem ERelL.len : ∀ {l : List E} {vs : List Value}, ERelL T w F ρ l vs → vs.length = l.length
  | [], [], _ => rfl
  | _ :: _, _ :: _, ⟨_, h⟩ => by simp [ERelL.len h]
  | [], _ :: _, h => h.elim
  | _ :: _, [], h => h.elim

theorem ERelL.set : ∀ {l : List E} {vs : List Value} {k : Nat} {e : E} {v : Value}, ERelL T w F ρ l vs → ERel T w F ρ e v → ERelL T w F ρ (l.set k e) (vs.set k v)
  | [], [], _, _, _, _, _ => trivial
  | _ :: _, _ :: _, 0, _, _, h, he => ⟨he, h.2⟩
  | _ :: _, _ :: _, k + 1, _, _, h, he => ⟨h.1, ERelL.set (k := k) h.2 he⟩
  | [], _ :: _, _, _, _, h, _ => h.elim
  | _ :: _, [], _, _, _, h, _ => h.elim

theorem TmRel.mono (hF : ∀ b, F b → F' b) (hw : ∀ b, F b → w'.heap[b]? = w.heap[b]?) (hρ : ∀ i, ρ i ≠ .none → ρ' i = ρ i) {tm : Tm} {tmps : Array Value} (h : TmRel T w F ρ tm tmps) : TmRel T w' F' ρ' tm tmps :=
  fun t g e he => let ⟨v, h1, h2, h3⟩ := h t g e he; ⟨v, h1, fun hg => (h2 hg).mono hF hw hρ, h3⟩

theorem OutRel.mono (hF : ∀ b, F b → F' b) (hw : ∀ b, F b → w'.heap[b]? = w.heap[b]?) (hρ : ∀ i, ρ i ≠ .none → ρ' i = ρ i) : ∀ {l : List Tm} {vs : List (Array Value)}, OutRel T w F ρ l vs → OutRel T w' F' ρ' l vs
  | [], [], h => h
  | _ :: _, _ :: _, ⟨h1, h2⟩ => ⟨h1.mono hF hw hρ, OutRel.mono hF hw hρ h2⟩
  | [], _ :: _, h => h.elim
  | _ :: _, [], h => h.elim

theorem Below.heap_eq {w w' : World} (h : Below w.heap.size w w') {b : Nat} (hb : b < w.heap.size) : w'.heap[b]? = w.heap[b]? := h.block b hb

/-- An object stays what it is where its own block, and all that nobody writes, stays. -/
theorem ORel.mono {n0 : Nat} {r : RI} {o : Obj} (hF : ∀ b, F b → F' b) (hw : ∀ b, F b → w'.heap[b]? = w.heap[b]?) (hρ : ∀ i, ρ i ≠ .none → ρ' i = ρ i)
    (hb : ∀ b, r.block = some b → w'.heap[b]? = w.heap[b]?) (hn : ∀ b, r.block = some b → ¬ F' b) (h : ORel T w F ρ n0 r o) : ORel T w' F' ρ' n0 r o := by
  cases o with
  | dead => cases r <;> exact h
  | var t e =>
    cases r with
    | none => exact h.elim
    | row _ _ => exact h.elim
    | var b t' =>
      obtain ⟨h1, h2, h3, cs, ct, v, h4, h5, h6, h7⟩ := h
      exact ⟨h1, h2, hn b rfl, cs, ct, v, (hb b rfl).trans h4, h5.mono hF hw hρ, h6, h7⟩
  | row e l =>
    cases r with
    | none => exact h.elim
    | var _ _ => exact h.elim
    | row e' r =>
      obtain ⟨h1, h2, xs, h3, h4⟩ := h
      refine ⟨h1, fun b hb' => hn b hb', xs, ⟨h3.1, ?_⟩, h4.mono hF hw⟩
      rcases h3.2 with h | ⟨g, cap, cur, hr, hg, hh, rest⟩
      · exact .inl h
      · refine .inr ⟨g, cap, cur, hr, hg, ?_, rest⟩
        rw [hb g (by simp [RI.block, hr, Value.ownBlock])]
        exact hh
  | erow e l =>
    cases r with
    | none => exact h.elim
    | var _ _ => exact h.elim
    | row e' r =>
      obtain ⟨h1, h2, h0, xs, h3, h4, h5⟩ := h
      refine ⟨h1, fun b hb' => hn b hb', h0, xs, ⟨h3.1, ?_⟩, h4.mono hF hw hρ, h5⟩
      rcases h3.2 with h | ⟨g, cap, cur, hr, hg, hh, rest⟩
      · exact .inl h
      · refine .inr ⟨g, cap, cur, hr, hg, ?_, rest⟩
        rw [hb g (by simp [RI.block, hr, Value.ownBlock])]
        exact hh

theorem ORel.own {n0 : Nat} {r : RI} {o : Obj} (h : ORel T w F ρ n0 r o) {b : Nat} (hb : r.block = some b) : b < w.heap.size ∧ ¬ F b ∧ n0 ≤ b := by
  cases o with
  | dead => cases r <;> first | (simp [RI.block] at hb; done) | (cases h; done)
  | var t e =>
    cases r with
    | none => exact h.elim
    | row _ _ => exact h.elim
    | var b' t' =>
      obtain ⟨_, h2, h3, cs, ct, v, h4, _⟩ := h
      simp [RI.block] at hb
      subst hb
      exact ⟨(Array.getElem?_eq_some_iff.1 h4).1, h3, h2⟩
  | row e l =>
    cases r with
    | none => exact h.elim
    | var _ _ => exact h.elim
    | row e' r =>
      obtain ⟨_, h2, xs, h3, _⟩ := h
      exact ⟨(h3.lt b hb).2, h2 b hb, (h3.lt b hb).1⟩
  | erow e l =>
    cases r with
    | none => exact h.elim
    | var _ _ => exact h.elim
    | row e' r =>
      obtain ⟨_, h2, _, xs, h3, _⟩ := h
      exact ⟨(h3.lt b hb).2, h2 b hb, (h3.lt b hb).1⟩

theorem Rel.own {σ : St} {tmps : Array Value} {outs : List (Array Value)} (h : Rel T w F ρ w0 σ tmps outs) {i b : Nat} (hb : (ρ i).block = some b) : b < w.heap.size ∧ ¬ F b ∧ w0.w.heap.size ≤ b := by
  cases ho : σ.ob[i]? with
  | none => rw [h.free i ho] at hb; simp [RI.block] at hb
  | some o => exact (h.ob i o ho).own hb

/-- The world goes on, and nothing that was there turns. -/
theorem Rel.later {σ : St} {tmps : Array Value} {outs : List (Array Value)} (h : Rel T w F ρ w0 σ tmps outs) (hb : Below w.heap.size w w') : Rel T w' F ρ w0 σ tmps outs := by
  have hw : ∀ b, F b → w'.heap[b]? = w.heap[b]? := fun b hF => hb.block b (h.fsub b hF)
  exact ⟨h.tm.mono (fun _ x => x) hw (fun _ _ => rfl), h.out.mono (fun _ x => x) hw (fun _ _ => rfl),
    fun i o ho => (h.ob i o ho).mono (fun _ x => x) hw (fun _ _ => rfl) (fun b hr => hb.block b (h.own hr).1) (fun b hr => (h.own hr).2.1),
    h.free, h.inj, fun b hF => Nat.lt_of_lt_of_le (h.fsub b hF) hb.size, h.below.trans (hb.mono h.below.size), h.size, h.fold⟩

end Go.Eng
