/- Code in the abstract state: its rules. -/
import Derived.Test.YtbfihoopgcmkpaaEngM
namespace Go.Eng
set_option linter.unusedSimpArgs false
set_option linter.unusedVariables false
open Go.RowKit

variable {P : Program} {T : Tab} {w w' : World} {w0 : Base} {F F' : Nat → Prop} {ρ ρ' : Nat → RI} {σ σ' : St} {a : Act} {outs : List (Array Value)}

/-! ### Regions that draw their order -/

def CallStepQ (P : Program) (T : Tab) (σ : St) (g : Bool) (f : Operand) (args : List Operand) (d : Option Tmp) (K : St → Prop) : Prop :=
  evalO σ g f fun ef => evalL σ g args fun es => ∃ fid caps, ef = .fn fid caps ∧ ∃ e, (g = true → CallQ P T σ fid (es ++ caps) e) ∧ putK σ d g K e

def opQ (P : Program) (T : Tab) (o : SOp) (K : St → Prop) (σ : St) (g : Bool) : Prop := match o.op with
  | .call c => match c.callee with
    | .value f => CallStepQ P T σ g f c.args.toList o.dst K
    | .builtin _ => pureA T σ g (.call c) (putK σ o.dst g K)
    | _ => False
  | op => pureA T σ g op (putK σ o.dst g K)

def opsQ (P : Program) (T : Tab) : List SOp → (St → Prop) → St → Prop
  | [], K, σ => K σ
  | o :: rest, K, σ => guardA o σ (opQ P T o (opsQ P T rest K) σ)

theorem opsQ_sound (hP : TabOk P T) {ops : Array Oper} (hgo : guardsOk ops = true) {K : St → Prop} : ∀ (l : List Oper) {σ : St} {a : Act}, (∀ o ∈ l, o ∈ ops.toList) → Rel T w F ρ w0 σ a.tmps outs → a.defers = [] → opsQ P T (l.map (strip ops)) K σ →
    wpQuiet P ops (fun w' => Below w.heap.size w w') (fun a' => ∃ σ', K σ' ∧ a'.defers = [] ∧ Rel T w F ρ w0 σ' a'.tmps outs) l a
  | [], σ, a, _, hR, hd, h => ⟨σ, h, hd, hR⟩
  | o :: l, σ, a, hm, hR, hd, h => by
    simp only [List.map_cons] at h
    unfold opsQ at h
    obtain ⟨g, h, hg⟩ := guardA_sound hR (List.all_eq_true.1 hgo o (hm o (by simp))) h
    have hml : ∀ o ∈ l, o ∈ ops.toList := fun o ho => hm o (by simp [ho])
    have hop : (strip ops o).op = o.op := rfl
    have hdst : (strip ops o).dst = o.dst := rfl
    have pureCase : ∀ op, o.op = op → pureA T σ g op (putK σ o.dst g (opsQ P T (l.map (strip ops)) K)) → wpQuiet P ops (fun w' => Below w.heap.size w w') (fun a' => ∃ σ', K σ' ∧ a'.defers = [] ∧ Rel T w F ρ w0 σ' a'.tmps outs) (o :: l) a := by
      intro op hop hp
      obtain ⟨e, h1, h2⟩ := pureA_sound hP hR hp
      unfold wpQuiet
      rw [hg]
      cases g with
      | true =>
        obtain ⟨v, hv, hr⟩ := h2 rfl
        obtain ⟨σ', hK, hR', hd'⟩ := put_sound hR h1 (fun _ => hv) (by simp)
        refine ⟨v, fun W hW => ?_, opsQ_sound hP hgo l hml hR' (hd'.trans hd) hK⟩
        unfold Oper.quietAt
        rw [hr W hW o hop]
        exact ⟨rfl, rfl⟩
      | false =>
        obtain ⟨σ', hK, hR', hd'⟩ := put_sound (v := undef) hR h1 (by simp) (fun _ => rfl)
        exact opsQ_sound hP hgo l hml hR' (hd'.trans hd) hK
    unfold opQ at h
    rw [hop, hdst] at h
    split at h
    · rename_i c hc
      split at h
      · rename_i x hx
        obtain ⟨ef, h1, hf⟩ := evalO_sound hR h
        obtain ⟨es, h2, hes⟩ := evalL_sound hR h1
        obtain ⟨fid, caps, rfl, e, hq, hk⟩ := h2
        unfold wpQuiet
        rw [hg]
        cases g with
        | true =>
          obtain ⟨cs, hxv, hcs⟩ := hf rfl
          have hall := (hes rfl).append hcs
          obtain ⟨hE, hq⟩ := hq rfl
          obtain ⟨v, hv, hq⟩ := hq w0 w F ρ _ _ _ hR hall
          obtain ⟨σ', hK, hR', hd'⟩ := put_sound hR hk (fun _ => hv) (by simp)
          refine ⟨v, fun W hW => ?_, opsQ_sound hP hgo l hml hR' (hd'.trans hd) hK⟩
          unfold Oper.quietAt
          rw [run_call hE hx hxv W o hc]
          refine ⟨rfl, (hq W hW).mono ?_⟩
          rintro en w'' ⟨rfl, hb⟩
          exact ⟨rfl, hW.trans (hb.mono hW.size)⟩
        | false =>
          obtain ⟨σ', hK, hR', hd'⟩ := put_sound (v := undef) hR hk (by simp) (fun _ => rfl)
          exact opsQ_sound hP hgo l hml hR' (hd'.trans hd) hK
      · exact pureCase _ hc h
      · exact h.elim
    · exact pureCase _ rfl h

/-! ### Code -/

/-- From an abstract state code comes to ends in abstract states of which K holds. -/
def SA (P : Program) (T : Tab) (c : Code) (K : Exit → St → Prop) (σ : St) : Prop :=
  ∀ (w0 : Base) (w : World) (F : Nat → Prop) (ρ : Nat → RI) (a : Act) (outs : List (Array Value)), a.defers = [] → Rel T w F ρ w0 σ a.tmps outs → c.wp P (fun ex a' w' => After T w0 outs (K ex) a' w') a w

def thenK (P : Program) (T : Tab) (y : Code) (K : Exit → St → Prop) : Exit → St → Prop
  | .normal, σ => SA P T y K σ
  | e, σ => K e σ

def blockK (id : Nat) (K : Exit → St → Prop) : Exit → St → Prop
  | .exit id', σ => if id' = id then K .normal σ else K (.exit id') σ
  | e, σ => K e σ

theorem SA.skip {K : Exit → St → Prop} (h : K .normal σ) : SA P T .skip K σ := fun _ _ _ _ _ _ hd hR => wp_skip ⟨σ, _, _, h, hd, hR⟩
theorem SA.exit {id : Nat} {K : Exit → St → Prop} (h : K (.exit id) σ) : SA P T (.exit id) K σ := fun _ _ _ _ _ _ hd hR => wp_exit ⟨σ, _, _, h, hd, hR⟩
theorem SA.ret {K : Exit → St → Prop} (h : K .ret σ) : SA P T .ret K σ := fun _ _ _ _ _ _ hd hR => wp_ret ⟨σ, _, _, h, hd, hR⟩

theorem SA.seq {x y : Code} {K : Exit → St → Prop} (h : SA P T x (thenK P T y K) σ) : SA P T (.seq x y) K σ := by
  intro w0 w F ρ a outs hd hR
  refine wp_seq (wp_mono (h w0 w F ρ a outs hd hR) ?_)
  rintro ex a' w' ⟨σ', F', ρ', hK, hd', hR'⟩
  cases ex with
  | normal => exact hK w0 w' F' ρ' a' outs hd' hR'
  | _ => exact ⟨σ', F', ρ', hK, hd', hR'⟩

theorem SA.block {id : Nat} {c : Code} {K : Exit → St → Prop} (h : SA P T c (blockK id K) σ) : SA P T (.block id c) K σ := by
  intro w0 w F ρ a outs hd hR
  refine wp_block (wp_mono (h w0 w F ρ a outs hd hR) ?_)
  rintro ex a' w' ⟨σ', F', ρ', hK, hd', hR'⟩
  cases ex with
  | exit id' =>
    simp only [blockK] at hK
    unfold Exit.inBlock
    split at hK
    · rename_i hid; simp only [hid, if_true]; exact ⟨σ', F', ρ', hK, hd', hR'⟩
    · rename_i hid; simp only [hid, if_false]; exact ⟨σ', F', ρ', hK, hd', hR'⟩
  | _ => exact ⟨σ', F', ρ', hK, hd', hR'⟩

theorem SA.cond {t : Tmp} {b : Bool} {x y : Code} {K : Exit → St → Prop} (hb : σ.tm.lookup t = some (true, .bool b)) (ht : b = true → SA P T x K σ) (hf : b = false → SA P T y K σ) : SA P T (.cond (.tmp t) x y) K σ := by
  intro w0 w F ρ a outs hd hR
  obtain ⟨v, h1, h2, _⟩ := hR.tm _ _ _ hb
  have hv : v = .bool b := h2 rfl
  subst hv
  have he : a.eval (.tmp t) = .bool b := by simp [Act.eval, h1]
  exact wp_cond_split he (fun hb => ht hb w0 w F ρ a outs hd hR) (fun hb => hf hb w0 w F ρ a outs hd hR)

theorem thenK.normal {y : Code} {K : Exit → St → Prop} (h : SA P T y K σ) : thenK P T y K .normal σ := h
theorem thenK.exit {y : Code} {K : Exit → St → Prop} {i : Nat} (h : K (.exit i) σ) : thenK P T y K (.exit i) σ := h
theorem thenK.ret {y : Code} {K : Exit → St → Prop} (h : K .ret σ) : thenK P T y K .ret σ := h
theorem blockK.normal {id : Nat} {K : Exit → St → Prop} (h : K .normal σ) : blockK id K .normal σ := h
theorem blockK.hit {id : Nat} {K : Exit → St → Prop} (h : K .normal σ) : blockK id K (.exit id) σ := by simp only [blockK, if_true]; exact h
theorem blockK.miss {id i : Nat} {K : Exit → St → Prop} (hne : i ≠ id) (h : K (.exit i) σ) : blockK id K (.exit i) σ := by simp only [blockK, if_neg hne]; exact h
theorem blockK.ret {id : Nat} {K : Exit → St → Prop} (h : K .ret σ) : blockK id K .ret σ := h

/-- Only some slots are remembered. -/
def St.keep (lv : List Nat) (σ : St) : St := { σ with tm := lv.filterMap fun t => (σ.tm.lookup t).map fun x => (t, x) }

theorem lookup_keep (tm : Tm) : ∀ (lv : List Nat) (t : Nat) (x : Bool × E), (lv.filterMap fun t => (tm.lookup t).map fun x => (t, x)).lookup t = some x → tm.lookup t = some x
  | [], t, x, h => by simp at h
  | s :: lv, t, x, h => by
    simp only [List.filterMap_cons] at h
    cases hs : tm.lookup s with
    | none => rw [hs] at h; exact lookup_keep tm lv t x h
    | some y =>
      rw [hs] at h
      simp only [Option.map_some, List.lookup_cons] at h
      by_cases hts : t = s
      · subst hts
        simp at h
        rw [hs, h]
      · have : (t == s) = false := by simpa using hts
        rw [this] at h
        exact lookup_keep tm lv t x h

theorem Rel.keep {tmps : Array Value} (h : Rel T w F ρ w0 σ tmps outs) (lv : List Nat) : Rel T w F ρ w0 (σ.keep lv) tmps outs :=
  ⟨fun t g e he => h.tm t g e (lookup_keep _ _ _ _ he), h.out, h.ob, h.free, h.inj, h.fsub, h.below, h.size, h.fold⟩

theorem quiet_mono {ops : Array Oper} {C : World → Prop} {Q Q' : Act → Prop} (h : ∀ a, Q a → Q' a) : ∀ (l : List Oper) (a : Act), wpQuiet P ops C Q l a → wpQuiet P ops C Q' l a
  | [], a, hq => h a hq
  | o :: l, a, hq => by
    unfold wpQuiet at hq ⊢
    split
    · rename_i hw
      rw [if_pos hw] at hq
      exact Oper.quiet_mono (quiet_mono h l) hq
    · rename_i hw
      rw [if_neg hw] at hq
      exact quiet_mono h l _ hq

theorem SA.region {id : Nat} {ops : Array Oper} (hP : TabOk P T) (hg : guardsOk ops = true) (lv : List Nat) {K : Exit → St → Prop} (h : ∀ R : St → Prop, (∀ σ', K .normal (σ'.keep lv) → R σ') → opsA P T (ops.toList.map (strip ops)) R σ) : SA P T (.region id ops false) K σ := by
  intro w0 w F ρ a outs hd hR
  refine wp_region ?_
  rw [List.range_eq_range']
  have := h (fun σ' => K .normal (σ'.keep lv)) (fun _ x => x)
  refine opsA_sound (outs := outs) hP hg ?_ ops.toList 0 rfl hR hd this
  rintro a' w' ⟨σ', F', ρ', hK, hd', hR'⟩
  exact ⟨_, F', ρ', hK, hd', hR'.keep lv⟩

theorem SA.regionQ {id : Nat} {ops : Array Oper} (hP : TabOk P T) (hm : P.follows .mixedOrders = true) (hB : Region.lexB .any ops = true) (hg : guardsOk ops = true) (lv : List Nat) {K : Exit → St → Prop}
    (h : ∀ R : St → Prop, (∀ σ', K .normal (σ'.keep lv) → R σ') → opsQ P T (ops.toList.map (strip ops)) R σ) : SA P T (.region id ops true) K σ := by
  intro w0 w F ρ a outs hd hR
  have := h (fun σ' => K .normal (σ'.keep lv)) (fun _ x => x)
  refine wp_region_quiet (C := fun w' => Below w.heap.size w w') hm hB ((Below.refl _ _).drew) ?_
  refine quiet_mono ?_ _ _ (opsQ_sound (outs := outs) hP hg ops.toList (fun _ h => h) hR hd this)
  rintro a' ⟨σ', hK, hd', hR'⟩ w' hw'
  exact ⟨_, F, ρ, hK, hd', (hR'.later hw').keep lv⟩

/-- What a state says, another one says too. -/
def St.le (T : Tab) (σ σ' : St) : Prop := ∀ w F ρ w0 tmps outs, Rel T w F ρ w0 σ tmps outs → ∃ F' ρ', Rel T w F' ρ' w0 σ' tmps outs

theorem St.le.refl : St.le T σ σ := fun _ F ρ _ _ _ h => ⟨F, ρ, h⟩
theorem St.le.trans {σ'' : St} (h : St.le T σ σ') (h' : St.le T σ' σ'') : St.le T σ σ'' := fun w F ρ w0 tmps outs hR => let ⟨F', ρ', hR'⟩ := h w F ρ w0 tmps outs hR; h' w F' ρ' w0 tmps outs hR'
theorem St.le.keep (lv : List Nat) : St.le T σ (σ.keep lv) := fun _ F ρ _ _ _ h => ⟨F, ρ, h.keep lv⟩

theorem exists_least (p : Nat → Prop) (h : ∃ n, p n) : ∃ n, p n ∧ ∀ m, p m → n ≤ m := by
  obtain ⟨n, hn⟩ := h
  induction n using Nat.strongRecOn with
  | _ n ih =>
    by_cases hm : ∃ m, m < n ∧ p m
    · obtain ⟨m, h1, h2⟩ := hm
      exact ih m h1 h2
    · exact ⟨n, hn, fun m hp => Nat.le_of_not_lt fun hlt => hm ⟨m, hlt, hp⟩⟩

/-- The end of a round. -/
def loopK (T : Tab) (I : Nat → St → Prop) (n : Nat) (K : Exit → St → Prop) : Exit → St → Prop
  | .normal, σ => ∃ m σ', m < n ∧ St.le T σ σ' ∧ I m σ'
  | e, σ => K e σ

theorem loopK.normal {I : Nat → St → Prop} {n : Nat} {K : Exit → St → Prop} (m : Nat) (σ' : St) (hm : m < n) (hl : St.le T σ σ') (h : I m σ') : loopK T I n K .normal σ := ⟨m, σ', hm, hl, h⟩
theorem loopK.exit {I : Nat → St → Prop} {n : Nat} {K : Exit → St → Prop} {i : Nat} (h : K (.exit i) σ) : loopK T I n K (.exit i) σ := h
theorem loopK.ret {I : Nat → St → Prop} {n : Nat} {K : Exit → St → Prop} (h : K .ret σ) : loopK T I n K .ret σ := h

/-- A loop, by an invariant that a number bounds. -/
theorem SA.loop {c : Code} {K : Exit → St → Prop} (I : Nat → St → Prop) (n : Nat) (h0 : I n σ)
    (round : ∀ n σ, I n σ → SA P T c (loopK T I n K) σ) : SA P T (.loop c) K σ := by
  classical
  intro w0 w F ρ a outs hd hR
  let Inv : Nat → Act → World → Prop := fun n a w => ∃ σ F ρ, I n σ ∧ a.defers = [] ∧ Rel T w F ρ w0 σ a.tmps outs
  let μ : Act → World → Nat := fun a w => if h : ∃ n, Inv n a w then Classical.choose (exists_least (fun n => Inv n a w) h) else 0
  have hμ : ∀ a w, (∃ n, Inv n a w) → Inv (μ a w) a w ∧ ∀ n, Inv n a w → μ a w ≤ n := by
    intro a w h
    have hs := Classical.choose_spec (exists_least (fun n => Inv n a w) h)
    have e : μ a w = Classical.choose (exists_least (fun n => Inv n a w) h) := dif_pos h
    rw [e]
    exact hs
  refine wp_loop (fun a w => ∃ n, Inv n a w) μ ⟨n, σ, F, ρ, h0, hd, hR⟩ ?_
  intro a w hI
  obtain ⟨⟨σ1, F1, ρ1, h1, h2, h3⟩, hmin⟩ := hμ a w hI
  refine wp_mono (round (μ a w) σ1 h1 w0 w F1 ρ1 a outs h2 h3) ?_
  rintro ex a' w' ⟨σ', F', ρ', hK, hd', hR'⟩
  cases ex with
  | normal =>
    obtain ⟨m, σ'', hm, hl, hI'⟩ := hK
    obtain ⟨F2, ρ2, hR2⟩ := hl w' F' ρ' w0 a'.tmps outs hR'
    have hx : ∃ n, Inv n a' w' := ⟨m, σ'', F2, ρ2, hI', hd', hR2⟩
    exact ⟨hx, Nat.lt_of_le_of_lt ((hμ a' w' hx).2 m ⟨σ'', F2, ρ2, hI', hd', hR2⟩) hm⟩
  | _ => exact ⟨σ', F', ρ', hK, hd', hR'⟩

theorem SA.weaken {c : Code} {K : Exit → St → Prop} (hl : St.le T σ σ') (h : SA P T c K σ') : SA P T c K σ := by
  intro w0 w F ρ a outs hd hR
  obtain ⟨F', ρ', hR'⟩ := hl w F ρ w0 a.tmps outs hR
  exact h w0 w F' ρ' a outs hd hR'

theorem SA.mono {c : Code} {K K' : Exit → St → Prop} (h : SA P T c K σ) (hk : ∀ ex σ, K ex σ → K' ex σ) : SA P T c K' σ := by
  intro w0 w F ρ a outs hd hR
  refine wp_mono (h w0 w F ρ a outs hd hR) ?_
  rintro ex a' w' ⟨σ', F', ρ', hK, hd', hR'⟩
  exact ⟨σ', F', ρ', hk _ _ hK, hd', hR'⟩

/-! ### Results -/

def resA (T : Tab) (σ : St) : List ResultVar → (List E → Prop) → Prop
  | [], K => K []
  | .tmp t :: rs, K => evalO σ true (.tmp t) fun e => resA T σ rs fun es => K (e :: es)
  | .cell p t :: rs, K => evalO σ true (.tmp p) fun ep => loadA T σ true t ep fun e => resA T σ rs fun es => K (e :: es)

def outE : List E → E
  | [e] => e
  | es => .tup es

def outV : List Value → Value
  | [v] => v
  | vs => .tuple vs.toArray

theorem outE_rel {es : List E} {vs : List Value} (h : ERelL T w F ρ es vs) : ERel T w F ρ (outE es) (outV vs) := by
  match es, vs, h with
  | [], [], h => exact ⟨[], rfl, h⟩
  | [e], [v], h => exact h.1
  | e :: e' :: es, v :: v' :: vs, h => exact ⟨_, rfl, h⟩

def readRes (tmps : Array Value) : ResultVar → Sem Value
  | .tmp t => pure (tmps.getD t undef)
  | .cell p t => do loadVar t (← asAddr (tmps.getD p undef))

theorem run_results {fn : Func} {tmps : Array Value} {vs : List Value} (h : (fn.results.toList.mapM (readRes tmps)).run P w = .ok vs w) : (results fn tmps).run P w = .ok (outV vs) w := by
  have h' : (fn.results.mapM (readRes tmps)).run P w = .ok vs.toArray w := by
    rw [Array.mapM_eq_mapM_toList, Sem.run_map, h]; rfl
  have hr : results fn tmps = (do let vs ← fn.results.mapM (readRes tmps); pure (if h : vs.size = 1 then vs[0] else .tuple vs)) := by
    unfold results
    congr 1
  rw [hr, Sem.run_bind, h']
  match vs with
  | [] => rfl
  | [v] => rfl
  | v :: v' :: vs => simp [outV]

theorem resA_sound (hP : TabOk P T) (hR : Rel T w F ρ w0 σ a.tmps outs) : ∀ {rs : List ResultVar} {K : List E → Prop}, resA T σ rs K →
    ∃ es vs, K es ∧ ERelL T w F ρ es vs ∧ (rs.mapM (readRes a.tmps)).run P w = .ok vs w
  | [], K, h => ⟨[], [], h, trivial, by simp⟩
  | .tmp t :: rs, K, h => by
    obtain ⟨e, h, he⟩ := evalO_sound hR h
    obtain ⟨es, vs, h1, h2, h3⟩ := resA_sound hP hR h
    have he' := he rfl
    simp only [Act.eval] at he'
    refine ⟨e :: es, a.tmps.getD t undef :: vs, h1, ⟨he', h2⟩, ?_⟩
    rw [List.mapM_cons, Sem.run_bind]
    simp only [readRes, Sem.run_pure, Result.andThen_ok, Sem.run_bind, h3]
  | .cell p t :: rs, K, h => by
    obtain ⟨ep, h, hp⟩ := evalO_sound hR h
    obtain ⟨e, h, hy⟩ := loadA_sound (P := P) (x := .tmp p) hP hR hp h
    obtain ⟨es, vs, h1, h2, h3⟩ := resA_sound hP hR h
    obtain ⟨v, hv, hr⟩ := hy rfl
    refine ⟨e :: es, v :: vs, h1, ⟨hv, h2⟩, ?_⟩
    have hr' := hr w (Below.refl _ _) { dst := none, op := .load t (.tmp p), type := 0, pos := "", after := #[], guard := none } rfl
    have hload : (do loadVar t (← asAddr (a.tmps.getD p undef)) : Sem Value).run P w = .ok v w := by
      have hev : a.eval (.tmp p) = a.tmps.getD p undef := rfl
      simp only [execOp, Instr.loadAt, hev] at hr'
      generalize a.tmps.getD p undef = q at hr' ⊢
      cases q with
      | pointer x =>
        cases x with
        | none => simp [Instr.sureAddr, stuck] at hr'
        | some ad =>
          simp [Instr.sureAddr, asAddr] at hr' ⊢
          generalize (loadVar t ad).run P w = r at hr' ⊢
          cases r with
          | ok y w' => simp at hr'; obtain ⟨rfl, rfl⟩ := hr'; rfl
          | halt x w' => simp [Result.andThen] at hr'
      | _ => simp [Instr.sureAddr, stuck] at hr'
    have hload' : (readRes a.tmps (.cell p t)).run P w = .ok v w := hload
    rw [List.mapM_cons, Sem.run_bind, hload']
    simp only [Result.andThen_ok, Sem.run_bind, h3, Sem.run_pure]

end Go.Eng
