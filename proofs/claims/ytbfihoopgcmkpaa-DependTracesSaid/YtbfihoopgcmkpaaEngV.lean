/- Contracts whose results are data that nobody writes any more: slices of slices, structs that hold slices. -/
import Derived.Test.YtbfihoopgcmkpaaEngU
namespace Go.Eng
set_option linter.unusedSimpArgs false
set_option linter.unusedVariables false
open Go.RowKit

variable {P : Program} {T : Tab} {w w' : World} {w0 : Base} {F F' : Nat → Prop} {ρ ρ' : Nat → RI} {σ σ' : St} {a : Act} {outs : List (Array Value)}

/-- Called with arguments that read as vs and that nobody writes, it returns what reads as rs, in what nobody writes and in new memory, and leaves all that was there as it was. -/
def CtrZ (P : Program) (T : Tab) (f : FuncId) (pts rts : List TypeId) (vs rs : List V) : Prop :=
  Enters P f ∧ ∀ (w : World) (F : Nat → Prop) (xs : List Value), (∀ b, F b → b < w.heap.size) → ArgsFit T w F pts vs xs →
    Calls P f xs.toArray w fun en w' => ∃ ys, en = .returned (outV ys) ∧ Below w.heap.size w w' ∧ ArgsFit T w' (fun b => F b ∨ (w.heap.size ≤ b ∧ b < w'.heap.size)) rts rs ys

theorem contentV_fitZ (hP : TabOk P T) {tmps : Array Value} (hR : Rel T w F ρ w0 σ tmps outs) {t : TypeId} {e : E} {x : Value} {v : V} (hx : ERel T w F ρ e x) (h : contentV T σ t e = some v) :
    Fits T w (fun b => F b ∨ ∃ i, (ρ i).block = some b) t v x.cells.toList ∧ ValOf T t x x.cells.toList := by
  have base : ∀ {e : E}, ERel T w F ρ e x → toV T t e = some v → Fits T w (fun b => F b ∨ ∃ i, (ρ i).block = some b) t v x.cells.toList ∧ ValOf T t x x.cells.toList := by
    intro e hx h
    obtain ⟨h1, h2⟩ := toV_fits hx h
    exact ⟨h1.mono (fun _ x => .inl x) (fun _ _ => rfl), h2⟩
  unfold contentV at h
  split at h
  · rename_i i el lo n c
    split at h; rotate_left; · cases h
    rename_i ht
    split at h; rotate_left; · cases h
    rename_i e2 l ho
    cases h
    have hob := hR.ob _ _ ho
    have hval : ∀ ad len cap, x = .slice ad len cap → ValOf T t x x.cells.toList := fun ad len cap hx => by subst hx; simp [ValOf, ht, TyD.isAgg, Value.cells]
    rcases hx with ⟨h1, rfl, _, rfl⟩ | ⟨b, m, cap, off, h1, h2, h3, rfl, h5, h6⟩
    · simp only [List.take_zero]
      exact ⟨.nil ht, hval _ _ _ rfl⟩
    · have hbl : (ρ i).block = some b := by rw [h1]; rfl
      rw [h1] at hob
      obtain ⟨rfl, q2, xs, q3, q4⟩ := hob
      refine ⟨?_, hval _ _ _ rfl⟩
      rcases q3.2 with ⟨q, _⟩ | ⟨b', cap', cur, hr, hb, hh, hn', hc', hs', htk⟩
      · cases q
      · cases hr
        have hnl : ((l.drop lo).take n).length = n := by simp; omega
        have hf := q4.slice hP.sized (lo := lo) (m := n) (by omega)
        refine .slice ht (.inr ⟨i, hbl⟩) (cs := (xs.drop (lo * T.sz el)).take (n * T.sz el)) ?_ hnl (hf.mono (fun _ x => .inl x) (fun _ _ => rfl)) (by split <;> omega)
        rcases h6 with h6 | h6
        · subst h6
          intro j y hy
          simp at hy
        · have hys : Seg w b 0 xs := by
            have := seg_of_cells (w := w) hh 0 (l.length * T.sz el)
            rw [List.drop_zero, htk] at this
            exact this
          have := hys.sub (lo * T.sz el) (n * T.sz el)
          rw [Nat.zero_add] at this
          rw [h6]
          exact this
  · rename_i i p t'
    split at h; rotate_left; · cases h
    rename_i ht
    split at h; rotate_left; · cases h
    rename_i tv td y ho
    cases h
    have hob := hR.ob _ _ ho
    obtain ⟨b, root, off, p1, p2, rfl⟩ := hx
    have hbl : (ρ i).block = some b := by rw [p1]; rfl
    rw [p1] at hob
    obtain ⟨⟨q1, q1', q1''⟩, q2, q3, cs, ct, z, q4, q5, q6, q7⟩ := hob
    obtain ⟨cs', rfl, hA, hf⟩ := q5
    have := q1'' _ _ rfl
    subst this
    subst q1
    have hcs : cs' = cs := by have := q6.2; rw [if_pos hA] at this; simpa using this
    subst hcs
    obtain ⟨g1, g2⟩ := p2.get hP.sized hf
    refine ⟨.ref ht (.inr ⟨i, hbl⟩) (seg_of_cells q4 off _) (g1.mono (fun _ x => .inl x) (fun _ _ => rfl)), by simp [ValOf, ht, TyD.isAgg, Value.cells]⟩
  · exact base hx h

theorem argsV_fitZ (hP : TabOk P T) {tmps : Array Value} (hR : Rel T w F ρ w0 σ tmps outs) : ∀ {ts : List TypeId} {es : List E} {xs : List Value} {vs : List V}, ERelL T w F ρ es xs → argsV T σ ts es = some vs →
    ArgsFit T w (fun b => F b ∨ ∃ i, (ρ i).block = some b) ts vs xs
  | [], [], [], vs, _, h => by cases h; trivial
  | t :: ts, e :: es, x :: xs, vs, ⟨h1, h2⟩, h => by
    unfold argsV at h
    split at h
    · rename_i v vs' hv hvs
      cases h
      exact ⟨contentV_fitZ hP hR h1 hv, argsV_fitZ hP hR h2 hvs⟩
    · cases h
  | [], _ :: _, _, _, _, h => by simp [argsV] at h
  | _ :: _, [], _, _, _, h => by simp [argsV] at h
  | [], [], _ :: _, _, h, _ => h.elim
  | _ :: _, _ :: _, [], _, h, _ => h.elim

theorem ArgsFit.mono (hF : ∀ b, F b → F' b) (hw : ∀ b, F b → w'.heap[b]? = w.heap[b]?) : ∀ {ts : List TypeId} {vs : List V} {xs : List Value}, ArgsFit T w F ts vs xs → ArgsFit T w' F' ts vs xs
  | [], [], [], _ => trivial
  | _ :: _, _ :: _, _ :: _, ⟨⟨h1, h2⟩, h⟩ => ⟨⟨h1.mono hF hw, h2⟩, ArgsFit.mono hF hw h⟩
  | [], [], _ :: _, h => h.elim
  | [], _ :: _, _, h => h.elim
  | _ :: _, [], _, h => h.elim
  | _ :: _, _ :: _, [], h => h.elim

/-- What a body hands back. -/
def ctrZK (T : Tab) (rs : List ResultVar) (rts : List TypeId) (vs : List V) (ex : Exit) (σ' : St) : Prop := (ex = .normal ∨ ex = .ret) ∧ resA T σ' rs fun es => argsV T σ' rts es = some vs

theorem ctrZK.normal {rs : List ResultVar} {rts : List TypeId} {vs : List V} (h : resA T σ' rs fun es => argsV T σ' rts es = some vs) : ctrZK T rs rts vs .normal σ' := ⟨.inl rfl, h⟩
theorem ctrZK.ret {rs : List ResultVar} {rts : List TypeId} {vs : List V} (h : resA T σ' rs fun es => argsV T σ' rts es = some vs) : ctrZK T rs rts vs .ret σ' := ⟨.inr rfl, h⟩

theorem CtrZ.body (hP : TabOk P T) {f : FuncId} {fn : Func} {c : Code} {pts rts : List TypeId} {vs rs : List V} (hf : P.funcs[f]? = some fn) (hb : fn.body = some c) (hname : (fn.name == "runtime.NumGoroutine") = false) (n : Nat) (hnt : fn.ntmps = n) (res : List ResultVar) (hrs : fn.results.toList = res) (hn : (fromVs T pts vs).length ≤ n)
    (h : SA P T c (ctrZK T res rts rs) { tm := args0 0 (fromVs T pts vs), ob := [], out := [], nt := n }) : CtrZ P T f pts rts vs rs := by
  subst hnt hrs
  refine ⟨enters_of hf (by rw [hb]; rfl) hname, ?_⟩
  intro w F xs hF hx
  refine calls_of_wp hf hb ?_
  have hl := hx.len
  have hR : Rel T w F (fun _ => .none) ⟨w, F⟩ { tm := args0 0 (fromVs T pts vs), ob := [], out := [], nt := fn.ntmps } (xs.toArray ++ Array.replicate (fn.ntmps - xs.toArray.size) undef) [] :=
    ⟨args_tm (fromVs_rel hx) _, trivial, fun i o h => by simp at h, fun _ _ => rfl, fun i j b h => by simp [RI.block] at h, hF, Below.refl _ _, by simp; omega, fun _ h => .inr h⟩
  refine wp_mono (h ⟨w, F⟩ w F _ { tmps := xs.toArray ++ Array.replicate (fn.ntmps - xs.toArray.size) undef, defers := [] } [] rfl hR) ?_
  rintro ex a' w' ⟨σ', F', ρ', ⟨hex, hr⟩, hd', hR''⟩
  refine leave_sound hP hR'' hd' hex hr fun es ys hv he => ⟨ys, rfl, hR''.below, ?_⟩
  refine (argsV_fitZ hP hR'' he hv).mono ?_ (fun _ _ => rfl)
  rintro b (hb | ⟨i, hb⟩)
  · rcases hR''.fold b hb with h | h
    · exact .inr ⟨h, hR''.fsub b hb⟩
    · exact .inl h
  · exact .inr ⟨(hR''.own hb).2.2, (hR''.own hb).1⟩

/-- New memory that nobody writes. -/
theorem Rel.grow {tmps : Array Value} (h : Rel T w F ρ w0 σ tmps outs) (hb : Below w.heap.size w w') : Rel T w' (fun b => F b ∨ (w.heap.size ≤ b ∧ b < w'.heap.size)) ρ w0 σ tmps outs := by
  have hF : ∀ b, F b → F b ∨ (w.heap.size ≤ b ∧ b < w'.heap.size) := fun _ h => .inl h
  have hw : ∀ b, F b → w'.heap[b]? = w.heap[b]? := fun b hF => hb.block b (h.fsub b hF)
  refine ⟨h.tm.mono hF hw (fun _ _ => rfl), h.out.mono hF hw (fun _ _ => rfl), fun i o ho => (h.ob i o ho).mono hF hw (fun _ _ => rfl) (fun b hr => hb.block b (h.own hr).1) (fun b hr hc => ?_), h.free, h.inj, ?_, h.below.trans (hb.mono h.below.size), h.size, ?_⟩
  · rcases hc with hc | hc
    · exact (h.own hr).2.1 hc
    · have := (h.own hr).1; omega
  · rintro b (hc | hc)
    · exact Nat.lt_of_lt_of_le (h.fsub b hc) hb.size
    · exact hc.2
  · rintro b (hc | hc)
    · exact h.fold b hc
    · exact .inl (Nat.le_trans h.below.size hc.1)

def toVs (T : Tab) : List TypeId → List E → Option (List V)
  | [], [] => some []
  | t :: ts, e :: es => match toV T t e, toVs T ts es with
    | some v, some vs => some (v :: vs)
    | _, _ => none
  | _, _ => none

theorem toVs_fit : ∀ {ts : List TypeId} {es : List E} {xs : List Value} {vs : List V}, ERelL T w F ρ es xs → toVs T ts es = some vs → ArgsFit T w F ts vs xs
  | [], [], [], vs, _, h => by cases h; trivial
  | t :: ts, e :: es, x :: xs, vs, ⟨h1, h2⟩, h => by
    unfold toVs at h
    split at h
    · rename_i v vs' hv hvs
      cases h
      exact ⟨toV_fits h1 hv, toVs_fit h2 hvs⟩
    · cases h
  | [], _ :: _, _, _, _, h => by simp [toVs] at h
  | _ :: _, [], _, _, _, h => by simp [toVs] at h
  | [], [], _ :: _, _, h, _ => h.elim
  | _ :: _, _ :: _, [], _, h, _ => h.elim

theorem CallB.ctrZ {f : FuncId} {pts rts : List TypeId} {vs rs : List V} {es : List E} {K : St → E → Prop} (hc : CtrZ P T f pts rts vs rs) (hv : toVs T pts es = some vs)
    (hK : K σ (outE (fromVs T rts rs))) : CallB P T σ f es K := by
  obtain ⟨hE, hc⟩ := hc
  refine ⟨hE, ?_⟩
  intro w0 w F ρ tmps outs xs hR hx
  refine (hc w F xs hR.fsub (toVs_fit hx hv)).mono ?_
  rintro en w' ⟨ys, rfl, hb, hres⟩
  exact ⟨_, σ, _, _, ρ, rfl, hb, hK, outE_rel (fromVs_rel hres), hR.grow hb⟩

theorem CallB.toE {f : FuncId} {es : List E} {K : St → E → Prop} (h : CallB P T σ f es K) : CallE P T σ f es K := by
  obtain ⟨hE, h⟩ := h
  refine ⟨hE, ?_⟩
  intro w0 w F ρ tmps outs xs hR hx
  refine (h w0 w F ρ tmps outs xs hR hx).mono ?_
  rintro en w' ⟨v, σ', e, F', ρ', h1, _, h2, h3, h4⟩
  exact ⟨v, σ', e, F', ρ', h1, h2, h3, h4⟩

theorem CallE.ctrZ {f : FuncId} {pts rts : List TypeId} {vs rs : List V} {es : List E} {K : St → E → Prop} (hc : CtrZ P T f pts rts vs rs) (hv : toVs T pts es = some vs)
    (hK : K σ (outE (fromVs T rts rs))) : CallE P T σ f es K := (CallB.ctrZ hc hv hK).toE

def scopeK (K : Exit → St → Prop) (ex : Exit) (σ : St) : Prop := (∀ l, ex ≠ .goto l) ∧ K ex σ
theorem scopeK.normal {K : Exit → St → Prop} (h : K .normal σ) : scopeK K .normal σ := ⟨fun _ h => (by cases h), h⟩
theorem scopeK.exit {K : Exit → St → Prop} {i : Nat} (h : K (.exit i) σ) : scopeK K (.exit i) σ := ⟨fun _ h => (by cases h), h⟩
theorem scopeK.ret {K : Exit → St → Prop} (h : K .ret σ) : scopeK K .ret σ := ⟨fun _ h => (by cases h), h⟩

theorem SA.scope {c : Code} {K : Exit → St → Prop} (h : SA P T c (scopeK K) σ) : SA P T (.scope c) K σ := by
  intro w0 w F ρ a outs hd hR
  refine wp_scope_straight (wp_mono (h w0 w F ρ a outs hd hR) ?_)
  rintro ex a' w' ⟨σ', F', ρ', ⟨hn, hK⟩, hd', hR'⟩
  cases ex <;> first | exact absurd rfl (hn _) | exact ⟨σ', F', ρ', hK, hd', hR'⟩

theorem SA.label {l : Nat} {K : Exit → St → Prop} (h : K .normal σ) : SA P T (.label l) K σ := fun _ _ _ _ _ _ hd hR => wp_label ⟨σ, _, _, h, hd, hR⟩

end Go.Eng
