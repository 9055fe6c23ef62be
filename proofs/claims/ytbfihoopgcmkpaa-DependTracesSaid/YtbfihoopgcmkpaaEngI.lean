/- How an abstract state changes: a new object, an object written in place, an object moved (what spoke of it is forgotten). -/
import Derived.Test.YtbfihoopgcmkpaaEngH
namespace Go.Eng
set_option linter.unusedSimpArgs false
set_option linter.unusedVariables false
open Go.RowKit

variable {P : Program} {T : Tab} {w w' : World} {w0 : Base} {F F' : Nat → Prop} {ρ ρ' : Nat → RI} {σ : St} {tmps : Array Value} {outs : List (Array Value)}

def upd (ρ : Nat → RI) (i : Nat) (r : RI) : Nat → RI := fun j => if j = i then r else ρ j

theorem upd_self (ρ : Nat → RI) (i : Nat) (r : RI) : upd ρ i r i = r := by simp [upd]
theorem upd_ne (ρ : Nat → RI) {i j : Nat} (r : RI) (h : j ≠ i) : upd ρ i r j = ρ j := by simp [upd, h]

mutual
/-- What spoke of object i is forgotten. -/
def E.kill (i : Nat) : E → E
  | .sl j e lo len c => if j = i then .undef else .sl j e lo len c
  | .ptr j p t => if j = i then .undef else .ptr j p t
  | .rp j k p t => if j = i then .undef else .rp j k p t
  | .fn f caps => .fn f (E.killL i caps)
  | .tup l => .tup (E.killL i l)
  | e => e
def E.killL (i : Nat) : List E → List E
  | [] => []
  | e :: es => e.kill i :: E.killL i es
end

def Obj.kill (i : Nat) : Obj → Obj
  | .var t e => .var t (e.kill i)
  | .erow e l => .erow e (E.killL i l)
  | o => o

def Tm.kill (i : Nat) (tm : Tm) : Tm := tm.map fun x => (x.1, x.2.1, x.2.2.kill i)

def St.kill (i : Nat) (σ : St) : St := { σ with tm := Tm.kill i σ.tm, ob := σ.ob.map (Obj.kill i), out := σ.out.map (Tm.kill i) }

mutual
theorem ERel.killed {i : Nat} {r : RI} : ∀ {e : E} {v : Value}, ERel T w F ρ e v → ERel T w F (upd ρ i r) (e.kill i) v
  | .int _ _, _, h => h
  | .bool _, _, h => h
  | .str _, _, h => h
  | .data _ _, _, h => h
  | .fs _ _ _, _, h => h
  | .sl j e lo len c, v, h => by
    unfold E.kill
    split
    · trivial
    · rename_i hj
      unfold ERel at h ⊢
      rw [upd_ne ρ r hj]; exact h
  | .nilsl, _, h => h
  | .ptr j p t, v, h => by
    unfold E.kill
    split
    · trivial
    · rename_i hj
      unfold ERel at h ⊢
      rw [upd_ne ρ r hj]; exact h
  | .rp j k p t, v, h => by
    unfold E.kill
    split
    · trivial
    · rename_i hj
      unfold ERel at h ⊢
      rw [upd_ne ρ r hj]; exact h
  | .fptr _ _, _, h => h
  | .fn _ _, _, ⟨cs, h1, h2⟩ => ⟨cs, h1, ERelL.killed h2⟩
  | .nilfn, _, h => h
  | .tup _, _, ⟨vs, h1, h2⟩ => ⟨vs, h1, ERelL.killed h2⟩
  | .undef, _, _ => trivial
theorem ERelL.killed {i : Nat} {r : RI} : ∀ {l : List E} {vs : List Value}, ERelL T w F ρ l vs → ERelL T w F (upd ρ i r) (E.killL i l) vs
  | [], [], h => h
  | _ :: _, _ :: _, ⟨h1, h2⟩ => ⟨ERel.killed h1, ERelL.killed h2⟩
  | [], _ :: _, h => h.elim
  | _ :: _, [], h => h.elim
end

theorem kill_data {i : Nat} {e : E} {t : TypeId} {v : V} (h : e.kill i = .data t v) : e = .data t v := by
  cases e <;> simp [E.kill] at h ⊢ <;> first | exact h | (split at h <;> cases h)

theorem lookup_map (f : E → E) : ∀ (tm : Tm) (t : Nat), (tm.map fun x => (x.1, x.2.1, f x.2.2)).lookup t = (tm.lookup t).map fun x => (x.1, f x.2)
  | [], _ => rfl
  | (s, g, e) :: tm, t => by
    simp only [List.map_cons, List.lookup_cons]
    cases t == s <;> simp [lookup_map f tm t]

theorem TmRel.killed {i : Nat} {r : RI} {tm : Tm} (h : TmRel T w F ρ tm tmps) : TmRel T w F (upd ρ i r) (Tm.kill i tm) tmps := by
  intro t g e he
  unfold Tm.kill at he
  rw [lookup_map (E.kill i)] at he
  cases hl : tm.lookup t with
  | none => rw [hl] at he; cases he
  | some x =>
    obtain ⟨g', e'⟩ := x
    rw [hl] at he
    simp at he
    obtain ⟨rfl, rfl⟩ := he
    obtain ⟨v, h1, h2, h3⟩ := h t _ _ hl
    exact ⟨v, h1, fun hg => (h2 hg).killed, h3⟩

theorem OutRel.killed {i : Nat} {r : RI} : ∀ {l : List Tm} {vs : List (Array Value)}, OutRel T w F ρ l vs → OutRel T w F (upd ρ i r) (l.map (Tm.kill i)) vs
  | [], [], h => h
  | _ :: _, _ :: _, ⟨h1, h2⟩ => ⟨h1.killed, OutRel.killed h2⟩
  | [], _ :: _, h => h.elim
  | _ :: _, [], h => h.elim

theorem upd_mono {n : Nat} {r : RI} (hn : ρ n = .none) : ∀ i, ρ i ≠ .none → upd ρ n r i = ρ i := by
  intro i hi
  unfold upd
  split
  · rename_i h; subst h; exact absurd hn hi
  · rfl

theorem ORel.row_mono {n0 : Nat} {r : RI} {e : TypeId} {l : List V} (hw : ∀ b, F b → w'.heap[b]? = w.heap[b]?)
    (hb : ∀ b, r.block = some b → w'.heap[b]? = w.heap[b]?) (h : ORel T w F ρ n0 r (.row e l)) : ORel T w' F ρ' n0 r (.row e l) := by
  cases r with
  | none => exact h.elim
  | var _ _ => exact h.elim
  | row e' r =>
    obtain ⟨h1, h2, xs, h3, h4⟩ := h
    refine ⟨h1, h2, xs, ⟨h3.1, ?_⟩, h4.mono (fun _ x => x) hw⟩
    rcases h3.2 with h | ⟨g, cap, cur, hr, hg, hh, rest⟩
    · exact .inl h
    · refine .inr ⟨g, cap, cur, hr, hg, ?_, rest⟩
      rw [hb g (by simp [RI.block, hr, Value.ownBlock])]
      exact hh

/-- A new object. -/
theorem Rel.push (h : Rel T w F ρ w0 σ tmps outs) (hw : Below w.heap.size w w') (hF : ∀ b, F b → F' b) (hF' : ∀ b, F' b → b < w'.heap.size) (hFn : ∀ b, F' b → b < w.heap.size → F b) {r : RI} {o : Obj}
    (hr : ∀ b, r.block = some b → w.heap.size ≤ b ∧ b < w'.heap.size ∧ ¬ F' b) (ho : ORel T w' F' (upd ρ σ.ob.length r) w0.w.heap.size r o) :
    Rel T w' F' (upd ρ σ.ob.length r) w0 { σ with ob := σ.ob ++ [o] } tmps outs := by
  have hn : ρ σ.ob.length = .none := h.free _ (by simp)
  have hm := upd_mono (r := r) hn
  have hwF : ∀ b, F b → w'.heap[b]? = w.heap[b]? := fun b hb => hw.block b (h.fsub b hb)
  refine ⟨h.tm.mono hF hwF hm, h.out.mono hF hwF hm, ?_, ?_, ?_, hF', h.below.trans (hw.mono h.below.size), h.size, fun b hb => if hlt : b < w.heap.size then h.fold b (hFn b hb hlt) else .inl (by have := h.below.size; omega)⟩
  · intro i o' hi
    by_cases hlt : i < σ.ob.length
    · simp only [List.getElem?_append_left hlt] at hi
      rw [upd_ne ρ r (by omega)]
      refine (h.ob i o' hi).mono hF hwF hm (fun b hb => hw.block b (h.own hb).1) (fun b hb hFb => ?_)
      exact (h.own hb).2.1 (hFn b hFb (h.own hb).1)
    · rw [List.getElem?_append_right (by omega)] at hi
      have : i = σ.ob.length := by
        have := (List.getElem?_eq_some_iff.1 hi).1
        simp at this
        omega
      subst this
      simp at hi
      subst hi
      rw [upd_self]
      exact ho
  · intro i hi
    simp at hi
    rw [upd_ne ρ r (by omega)]
    exact h.free i (by simp; omega)
  · intro i j b hi hj
    unfold upd at hi hj
    split at hi <;> split at hj
    · omega
    · have := (h.own hj).1; have := (hr b hi).1; omega
    · have := (h.own hi).1; have := (hr b hj).1; omega
    · exact h.inj i j b hi hj

/-- An object is written in place. -/
theorem Rel.store (h : Rel T w F ρ w0 σ tmps outs) {i b : Nat} (hb : (ρ i).block = some b) (hi : i < σ.ob.length) (hw : ∀ k, k ≠ b → w'.heap[k]? = w.heap[k]?) (hs : w'.heap.size = w.heap.size) (hos : w'.os = w.os) (htp : w'.tape = w.tape) (hout : w'.output = w.output)
    {o : Obj} (ho : ORel T w' F ρ w0.w.heap.size (ρ i) o) : Rel T w' F ρ w0 { σ with ob := σ.ob.set i o } tmps outs := by
  have hown := h.own hb
  have hwF : ∀ k, F k → w'.heap[k]? = w.heap[k]? := fun k hk => hw k (fun e => hown.2.1 (e ▸ hk))
  refine ⟨h.tm.mono (fun _ x => x) hwF (fun _ _ => rfl), h.out.mono (fun _ x => x) hwF (fun _ _ => rfl), ?_, ?_, h.inj, fun k hk => by rw [hs]; exact h.fsub k hk, ?_, h.size, h.fold⟩
  · intro j o' hj
    by_cases hji : j = i
    · subst hji
      simp [hi] at hj
      subst hj
      exact ho
    · simp only [List.getElem?_set_ne (Ne.symm hji)] at hj
      exact (h.ob j o' hj).mono (fun _ x => x) hwF (fun _ _ => rfl) (fun k hk => hw k (fun e => hji (h.inj j i k hk (e ▸ hb)))) (fun k hk => (h.own hk).2.1)
  · intro j hj
    simp at hj
    exact h.free j (by simp; omega)
  · exact h.below.trans ⟨hos, htp, hout, by omega, fun k hk => hw k (by omega)⟩

theorem killL_length (i : Nat) : ∀ l : List E, (E.killL i l).length = l.length
  | [] => rfl
  | _ :: l => by simp [E.killL, killL_length i l]

/-- An object is moved, or its row is written anew: what spoke of it is forgotten. -/
theorem Rel.move (h : Rel T w F ρ w0 σ tmps outs) {i : Nat} (hi : i < σ.ob.length) (hw : ∀ k, k < w.heap.size → (ρ i).block ≠ some k → w'.heap[k]? = w.heap[k]?) (hs : w.heap.size ≤ w'.heap.size) (hos : w'.os = w.os) (htp : w'.tape = w.tape) (hout : w'.output = w.output)
    {r : RI} (hr : ∀ b, r.block = some b → (ρ i).block = some b ∨ (w.heap.size ≤ b ∧ b < w'.heap.size)) {o : Obj} (ho : ORel T w' F (upd ρ i r) w0.w.heap.size r o) :
    Rel T w' F (upd ρ i r) w0 { (σ.kill i) with ob := (σ.kill i).ob.set i o } tmps outs := by
  have hnF : ∀ k, F k → (ρ i).block ≠ some k := fun k hk e => (h.own e).2.1 hk
  have hwF : ∀ k, F k → w'.heap[k]? = w.heap[k]? := fun k hk => hw k (h.fsub k hk) (hnF k hk)
  have e1 : ∀ {e : E} {v : Value}, ERel T w F ρ e v → ERel T w' F (upd ρ i r) (e.kill i) v := fun he => he.killed.mono (fun _ x => x) hwF (fun _ _ => rfl)
  refine ⟨h.tm.killed.mono (fun _ x => x) hwF (fun _ _ => rfl), h.out.killed.mono (fun _ x => x) hwF (fun _ _ => rfl), ?_, ?_, ?_, fun k hk => Nat.lt_of_lt_of_le (h.fsub k hk) hs, ?_, h.size, h.fold⟩
  · intro j o' hj
    by_cases hji : j = i
    · subst hji
      simp [St.kill, hi] at hj
      subst hj
      rw [upd_self]
      exact ho
    · simp only [List.getElem?_set_ne (Ne.symm hji), St.kill, List.getElem?_map] at hj
      cases hoj : σ.ob[j]? with
      | none => rw [hoj] at hj; cases hj
      | some oj =>
        rw [hoj] at hj
        simp at hj
        subst hj
        rw [upd_ne ρ r hji]
        have h1 := h.ob j oj hoj
        have hbl : ∀ k, (ρ j).block = some k → w'.heap[k]? = w.heap[k]? := fun k hk => hw k (h.own hk).1 (fun e => hji (h.inj j i k hk e))
        cases oj with
        | dead => cases hρ : ρ j <;> rw [hρ] at h1 <;> exact h1
        | row e l => exact h1.row_mono hwF hbl
        | erow e l =>
          cases hρ : ρ j with
          | none => rw [hρ] at h1; exact h1.elim
          | var _ _ => rw [hρ] at h1; exact h1.elim
          | row e' r =>
            rw [hρ] at h1 hbl
            obtain ⟨q1, q2, q0, xs, q3, q4, q5⟩ := h1
            refine ⟨q1, q2, q0, xs, ⟨by rw [killL_length]; exact q3.1, ?_⟩, ERelL.mono (fun _ x => x) hwF (fun _ _ => rfl) q4.killed, q5⟩
            rw [killL_length]
            rcases q3.2 with h | ⟨g, cap, cur, hr, hg, hh, rest⟩
            · exact .inl h
            · refine .inr ⟨g, cap, cur, hr, hg, ?_, rest⟩
              rw [hbl g (by simp [RI.block, hr, Value.ownBlock])]
              exact hh
        | var t e =>
          cases hρ : ρ j with
          | none => rw [hρ] at h1; exact h1.elim
          | row _ _ => rw [hρ] at h1; exact h1.elim
          | var b t' =>
            rw [hρ] at h1 hbl
            obtain ⟨⟨q1, q2, q3⟩, q4, q5, cs, ct, v, q6, q7, q8⟩ := h1
            exact ⟨⟨q1, q2, fun u x hx => q3 u x (kill_data hx)⟩, q4, q5, cs, ct, v, (hbl b rfl).trans q6, e1 q7, q8⟩
  · intro j hj
    simp [St.kill] at hj
    rw [upd_ne ρ r (by omega)]
    exact h.free j (by simp; omega)
  · intro p q b hp hq
    unfold upd at hp hq
    split at hp <;> split at hq
    · omega
    · rename_i h1 h2
      rcases hr b hp with h3 | h3
      · exact absurd (h.inj q i b hq h3) h2
      · have := (h.own hq).1; omega
    · rename_i h1 h2
      rcases hr b hq with h3 | h3
      · exact absurd (h.inj p i b hp h3) h1
      · have := (h.own hp).1; omega
    · exact h.inj p q b hp hq
  · refine h.below.trans ⟨hos, htp, hout, hs, fun k hk => hw k (Nat.lt_of_lt_of_le hk h.below.size) (fun e => by have := (h.own e).2.2; omega)⟩

end Go.Eng
