/- The events of a machine's steps may stand in a trace. -/
import Derived.Test.YtedceinkpkoncaaGreatDoorPk28
import Derived.Test.YtedceinkpkoncaaGreatDoorPk31
namespace Go.Eng
set_option linter.unusedSimpArgs false
set_option linter.unusedVariables false
set_option linter.unusedVariables false

def alt' (a b : Access) : Prop := a.kind < b.kind ∨ a.kind = b.kind ∧ a.num < b.num
theorem add_keys (k n : Int) (w : Bool) : ∀ {l : List Access} {y : Access}, y ∈ add k n w l → (∃ x ∈ l, x.kind = y.kind ∧ x.num = y.num) ∨ (y.kind = k ∧ y.num = n)
  | [], y, h => by
    simp only [add, List.mem_cons, List.not_mem_nil, or_false] at h
    subst h; exact .inr ⟨rfl, rfl⟩
  | x :: l, y, h => by
    unfold add at h
    split at h
    · rcases List.mem_cons.1 h with rfl | h
      · exact .inl ⟨x, by simp, rfl, rfl⟩
      · exact .inl ⟨y, by simp [h], rfl, rfl⟩
    · split at h
      · rcases List.mem_cons.1 h with rfl | h
        · exact .inr ⟨rfl, rfl⟩
        · exact .inl ⟨y, h, rfl, rfl⟩
      · rcases List.mem_cons.1 h with rfl | h
        · exact .inl ⟨y, by simp, rfl, rfl⟩
        · rcases add_keys k n w h with ⟨x', hx, e⟩ | e
          · exact .inl ⟨x', by simp [hx], e⟩
          · exact .inr e
theorem add_sorted (k n : Int) (w : Bool) : ∀ {l : List Access}, l.Pairwise alt' → (add k n w l).Pairwise alt'
  | [], _ => by simp [add]
  | x :: l, h => by
    obtain ⟨h1, h2⟩ := List.pairwise_cons.1 h
    unfold add
    split
    · exact List.pairwise_cons.2 ⟨fun y hy => by have := h1 y hy; unfold alt' at this ⊢; exact this, h2⟩
    · rename_i hne
      split
      · rename_i hlt
        refine List.pairwise_cons.2 ⟨fun y hy => ?_, h⟩
        rcases List.mem_cons.1 hy with rfl | hy
        · unfold alt'; simp only; omega
        · have := h1 y hy; unfold alt' at this ⊢; simp only; omega
      · rename_i hnl
        refine List.pairwise_cons.2 ⟨fun y hy => ?_, add_sorted k n w h2⟩
        rcases add_keys k n w hy with ⟨x', hx, e1, e2⟩ | ⟨e1, e2⟩
        · have := h1 x' hx; unfold alt' at this ⊢; omega
        · unfold alt'; omega
theorem add_own (k n : Int) (w : Bool) {g : Int} : ∀ {l : List Access}, (⟨5, g, true⟩ : Access) ∈ l → (⟨5, g, true⟩ : Access) ∈ add k n w l
  | [], h => by simp at h
  | x :: l, h => by
    unfold add
    split
    · rcases List.mem_cons.1 h with h | h
      · rw [← h]; simp
      · simp [h]
    · split
      · simp only [List.mem_cons] at h ⊢; exact .inr h
      · rcases List.mem_cons.1 h with h | h
        · rw [← h]; simp
        · exact List.mem_cons.2 (.inr (add_own k n w h))

structure TouchP (g : Int) (l : List Access) : Prop where
  sorted : l.Pairwise alt'
  num : ∀ a ∈ l, 0 ≤ a.num ∧ a.num < most a.kind
  own : (⟨5, g, true⟩ : Access) ∈ l
theorem TouchP.add {g : Int} {l : List Access} (h : TouchP g l) {k n : Int} (hn : 0 ≤ n ∧ n < most k) (w : Bool) : TouchP g (add k n w l) :=
  ⟨add_sorted k n w h.sorted, fun a ha => by
    rcases add_keys k n w ha with ⟨x, hx, e1, e2⟩ | ⟨e1, e2⟩
    · rw [← e1, ← e2]; exact h.num x hx
    · rw [e1, e2]; exact hn, add_own k n w h.own⟩
theorem TouchP.base {g : Int} (hg : 0 ≤ g ∧ g < 6) : TouchP g [⟨5, g, true⟩] := ⟨by simp, by intro a ha; simp at ha; subst ha; exact hg, by simp⟩
theorem TouchP.chans {g : Int} (q : Sel) : ∀ (n : Nat) {l : List Access}, TouchP g l → (∀ i, i < q.cases.length → 0 ≤ (q.cases.getD i default).chan ∧ (q.cases.getD i default).chan < 4) → TouchP g (addChans q n l)
  | 0, l, h, _ => by simpa [addChans] using h
  | n + 1, l, h, hc => by
    by_cases hn : n < q.cases.length
    · unfold addChans
      rw [List.take_succ_eq_append_getElem hn, List.foldl_append]
      have := hc n hn
      rw [List.getD_eq_getElem?_getD, List.getElem?_eq_getElem hn] at this
      exact (TouchP.chans q n h hc).add (k := 3) this true
    · have := TouchP.chans q n h hc
      unfold addChans at this ⊢
      rw [List.take_of_length_le (by omega)] at this ⊢
      exact this
theorem addChans_long (q : Sel) (l : List Access) : ∀ j : Nat, (addChans q j l).length ≤ l.length + j
  | 0 => by simp [addChans]
  | j + 1 => by
    by_cases h : j < q.cases.length
    · unfold addChans
      rw [List.take_succ_eq_append_getElem h, List.foldl_append]
      have h1 := add_len 3 q.cases[j].chan true (addChans q j l)
      have h2 := addChans_long q l j
      show (add 3 q.cases[j].chan true (addChans q j l)).length ≤ _
      omega
    · have e : addChans q (j + 1) l = addChans q j l := by unfold addChans; rw [List.take_of_length_le (by omega), List.take_of_length_le (by omega)]
      rw [e]
      have := addChans_long q l j
      omega

theorem ite_tp {g : Int} {c : Prop} [Decidable c] {a b : List Access} (h1 : c → TouchP g a ∧ 1 ≤ a.length ∧ a.length ≤ 6) (h2 : ¬c → TouchP g b ∧ 1 ≤ b.length ∧ b.length ≤ 6) : TouchP g (if c then a else b) ∧ 1 ≤ (if c then a else b).length ∧ (if c then a else b).length ≤ 6 := by
  by_cases h : c
  · rw [if_pos h]; exact h1 h
  · rw [if_neg h]; exact h2 h
theorem touch_ok {p : Prg} (hok : p.Ok) {s : Stt} (hw : Wf p s) {g : Int} (hg : 0 ≤ g ∧ g < s.count) : TouchP g (touch p s g) ∧ 1 ≤ (touch p s g).length ∧ (touch p s g).length ≤ 6 := by
  have hc := hw.count
  have hgi := hw.gos g hg.1 hg.2
  have hrt : instrErr p (p.funcs.getD (s.gos.getD g.toNat default).func.toNat default) (instrAt p s g) = 0 := hw.right hok hg.1 hg.2
  have hsz := hok.sizes
  unfold Sizes at hsz
  have hB : TouchP g [⟨5, g, true⟩] := TouchP.base ⟨hg.1, by omega⟩
  have hl1 : ([⟨5, g, true⟩] : List Access).length = 1 := rfl
  have pos : ∀ {l : List Access}, TouchP g l → 1 ≤ l.length := fun h => List.length_pos_of_mem h.own
  have fin : ∀ {l : List Access}, TouchP g l → l.length ≤ 6 → TouchP g l ∧ 1 ≤ l.length ∧ l.length ≤ 6 := fun h h2 => ⟨h, pos h, h2⟩
  have one : ∀ (k n : Int) (w : Bool), 0 ≤ n ∧ n < most k → TouchP g (add k n w [⟨5, g, true⟩]) ∧ 1 ≤ (add k n w [⟨5, g, true⟩]).length ∧ (add k n w [⟨5, g, true⟩]).length ≤ 6 := by
    intro k n w h
    exact fin (hB.add h w) (by have := add_len k n w [⟨5, g, true⟩]; omega)
  have opc : ∀ {k : Int}, opAt p s g = k → k ≠ 66 → (instrAt p s g).op = k := fun h hk => hw.op_at hok hg.1 hg.2 h hk
  have m1 : most 1 = 8 := rfl
  have m2 : most 2 = 4 := rfl
  have m3 : most 3 = 4 := rfl
  have m4 : most 4 = 1 := rfl
  have m5 : most 5 = 6 := rfl
  have m6 : most 6 = 1 := rfl
  unfold touch
  refine ite_tp (fun h => ?_) (fun _ => ?_)
  · have hI := vis50 hrt (opc h (by decide)); exact one 1 _ _ (by omega)
  refine ite_tp (fun h => ?_) (fun _ => ?_)
  · have hI := vis54 hrt (opc h (by decide)); exact one 1 _ _ (by omega)
  refine ite_tp (fun h => ?_) (fun _ => ?_)
  · have hI := vis51 hrt (opc h (by decide)); exact one 1 _ _ (by omega)
  refine ite_tp (fun h => ?_) (fun _ => ?_)
  · rcases h with h | h
    · have hI := vis52 hrt (opc h (by decide)); exact one 1 _ _ (by omega)
    · have hI := vis53 hrt (opc h (by decide)); exact one 1 _ _ (by omega)
  refine ite_tp (fun h => ?_) (fun _ => ?_)
  · have hI := vis55 hrt (by rcases h with h | h; exact .inl (opc h (by decide)); exact .inr (opc h (by decide)))
    exact one 2 _ _ (by omega)
  refine ite_tp (fun h => ?_) (fun _ => ?_)
  · have hI := vis57 hrt (opc h (by decide)); exact one 2 _ _ (by omega)
  refine ite_tp (fun h => ?_) (fun _ => ?_)
  · rcases h with h | h | h
    · have hI := vis58 hrt (opc h (by decide)); exact one 3 _ _ (by omega)
    · have hI := vis60 hrt (opc h (by decide)); exact one 3 _ _ (by omega)
    · have hI := vis58 hrt (hw.op66 hok hg.1 hg.2 h); exact one 3 _ _ (by omega)
  refine ite_tp (fun h => ?_) (fun _ => ?_)
  · have hI := vis59 hrt (opc h (by decide)); exact one 3 _ _ (by omega)
  refine ite_tp (fun h => ?_) (fun _ => ?_)
  · have hI := vis61 hrt (opc h (by decide))
    have hsh := hok.short (s.gos.getD g.toNat default).func.toNat (instrAt p s g).a.toNat (by omega)
    have hq : (selAt p s g).cases.length ≤ 4 := hsh.2
    refine fin (hB.chans _ _ fun i hi => ?_) (by have := addChans_long (selAt p s g) [⟨5, g, true⟩] (selAt p s g).cases.length; omega)
    have hC := (case_ok hok (i := (s.gos.getD g.toNat default).func.toNat) (j := (instrAt p s g).a.toNat) (k := i) (by have := hgi.f0; have := hgi.f1; omega) (by omega) hi).chan
    have e : ((p.funcs.getD (s.gos.getD g.toNat default).func.toNat default).sels.getD (instrAt p s g).a.toNat default).cases.getD i default = (selAt p s g).cases.getD i default := rfl
    rw [e] at hC
    omega
  refine ite_tp (fun h => ?_) (fun _ => ?_)
  · have h4 := hB.add (k := 4) (n := 0) (by omega) true
    have l4 := add_len 4 0 true [⟨5, g, true⟩]
    refine ite_tp (fun _ => ?_) (fun _ => ?_)
    · exact fin (h4.add (k := 5) (n := s.count) (by omega) true) (by have := add_len 5 s.count true (add 4 0 true [⟨5, g, true⟩]); omega)
    · exact fin h4 (by omega)
  refine ite_tp (fun h => ?_) (fun _ => ?_)
  · have h4 := hB.add (k := 4) (n := 0) (by omega) false
    have l4 := add_len 4 0 false [⟨5, g, true⟩]
    refine ite_tp (fun q => ?_) (fun _ => ?_)
    · have q : 0 ≤ (s.gor g).reg (instrAt p s g).a ∧ (s.gor g).reg (instrAt p s g).a < s.count := q
      exact fin (h4.add (k := 5) (by omega) false) (by have := add_len 5 ((s.gor g).reg (instrAt p s g).a) false (add 4 0 false [⟨5, g, true⟩]); omega)
    · exact fin h4 (by omega)
  exact ite_tp (fun h => one 6 _ _ (by omega)) (fun _ => fin hB (by omega))

end Go.Eng
/- Accesses in order, without doubles: what sorting and compacting make of a list. -/
namespace Go.Eng
set_option linter.unusedSimpArgs false
set_option linter.unusedVariables false
set_option linter.unusedVariables false
def akey (a : Access) : Int := a.kind * 1000 + a.num
def small (a : Access) : Prop := (0 ≤ a.kind ∧ a.kind ≤ 100) ∧ 0 ≤ a.num ∧ a.num < 1000
theorem small_lt {a b : Access} (ha : small a) (hb : small b) : akey a < akey b ↔ alt' a b := by
  unfold small at ha hb; unfold akey alt'; omega
theorem small_eq {a b : Access} (ha : small a) (hb : small b) : akey a = akey b ↔ a.kind = b.kind ∧ a.num = b.num := by
  unfold small at ha hb; unfold akey; omega
def acc (l : List Access) (k : Nat) : Access := l.getD k default
/-- Neighbours that are equal become one. -/
def cpt : List Access → List Access
  | a :: b :: l => if a = b then cpt (b :: l) else a :: cpt (b :: l)
  | l => l
theorem cpt_mem : ∀ {l : List Access} {x : Access}, x ∈ cpt l ↔ x ∈ l
  | [], _ => Iff.rfl
  | [_], _ => Iff.rfl
  | a :: b :: l, x => by
    unfold cpt
    split
    · rename_i h
      rw [cpt_mem, ← h]; simp
    · rw [List.mem_cons, cpt_mem, ← List.mem_cons]
theorem cpt_snoc : ∀ {l : List Access} {a : Access}, l ≠ [] → cpt (l ++ [a]) = if l.getLast? = some a then cpt l else cpt l ++ [a]
  | [], _, h => absurd rfl h
  | [x], a, _ => by
    simp only [List.cons_append, List.nil_append, List.getLast?_singleton, Option.some.injEq]
    unfold cpt
    split
    · rename_i h; subst h; rfl
    · rfl
  | x :: y :: l, a, _ => by
    have ih := cpt_snoc (l := y :: l) (a := a) (by simp)
    rw [List.getLast?_cons_cons]
    show cpt (x :: y :: (l ++ [a])) = _
    have e1 : cpt (x :: y :: (l ++ [a])) = if x = y then cpt (y :: (l ++ [a])) else x :: cpt (y :: (l ++ [a])) := by rw [cpt]
    have e2 : cpt (x :: y :: l) = if x = y then cpt (y :: l) else x :: cpt (y :: l) := by rw [cpt]
    rw [e1, e2]
    rw [show y :: (l ++ [a]) = y :: l ++ [a] from rfl, ih]
    split <;> split <;> rfl
theorem last_take {l : List Access} {k : Nat} (h0 : 0 < k) (h : k ≤ l.length) : (l.take k).getLast? = some (acc l (k - 1)) := by
  rw [List.getLast?_take, if_neg (by omega)]
  unfold acc
  rw [List.getD_eq_getElem?_getD, List.getElem?_eq_getElem (by omega)]; rfl
theorem take_acc {l : List Access} {k : Nat} (h : k < l.length) : l.take (k + 1) = l.take k ++ [acc l k] := by
  unfold acc
  rw [List.take_succ_eq_append_getElem h]; simp [List.getD_eq_getElem?_getD, h]
theorem cpt_take {l : List Access} {k : Nat} (h0 : 0 < k) (h : k < l.length) : cpt (l.take (k + 1)) = if acc l k = acc l (k - 1) then cpt (l.take k) else cpt (l.take k) ++ [acc l k] := by
  rw [take_acc h, cpt_snoc (by intro e; have := congrArg List.length e; rw [List.length_take, List.length_nil] at this; omega), last_take h0 (by omega)]
  simp only [Option.some.injEq]
  by_cases e : acc l k = acc l (k - 1)
  · rw [if_pos e.symm, if_pos e]
  · rw [if_neg (fun q => e q.symm), if_neg e]
theorem sorted_ext : ∀ {a b : List Access}, a.Pairwise alt' → b.Pairwise alt' → (∀ x, x ∈ a ↔ x ∈ b) → a = b
  | [], [], _, _, _ => rfl
  | [], y :: b, _, _, h => absurd ((h y).2 (by simp)) (by simp)
  | x :: a, [], _, _, h => absurd ((h x).1 (by simp)) (by simp)
  | x :: a, y :: b, ha, hb, h => by
    obtain ⟨a1, a2⟩ := List.pairwise_cons.1 ha
    obtain ⟨b1, b2⟩ := List.pairwise_cons.1 hb
    have irr : ∀ z : Access, ¬alt' z z := fun z q => by unfold alt' at q; omega
    have asy : ∀ z u : Access, alt' z u → alt' u z → False := fun z u q r => by unfold alt' at q r; omega
    have e : x = y := by
      rcases List.mem_cons.1 ((h x).1 (by simp)) with e | e
      · exact e
      · rcases List.mem_cons.1 ((h y).2 (by simp)) with f | f
        · exact f.symm
        · exact (asy _ _ (b1 x e) (a1 y f)).elim
    subst e
    rw [sorted_ext a2 b2 fun z => ⟨fun hz => ?_, fun hz => ?_⟩]
    · rcases List.mem_cons.1 ((h z).1 (List.mem_cons_of_mem _ hz)) with e | e
      · subst e; exact (irr _ (a1 _ hz)).elim
      · exact e
    · rcases List.mem_cons.1 ((h z).2 (List.mem_cons_of_mem _ hz)) with e | e
      · subst e; exact (irr _ (b1 _ hz)).elim
      · exact e
/-- Same key, same access. -/
def SameKey (l : List Access) : Prop := ∀ a ∈ l, ∀ b ∈ l, a.kind = b.kind → a.num = b.num → a = b
theorem cpt_strict : ∀ {l : List Access}, (∀ a ∈ l, small a) → SameKey l → l.Pairwise (fun a b => akey a ≤ akey b) → (cpt l).Pairwise alt'
  | [], _, _, _ => by simp [cpt]
  | [_], _, _, _ => by simp [cpt]
  | a :: b :: l, hs, hk, hp => by
    obtain ⟨h1, h2⟩ := List.pairwise_cons.1 hp
    have ih := cpt_strict (l := b :: l) (fun x hx => hs x (List.mem_cons_of_mem _ hx)) (fun x hx y hy => hk x (List.mem_cons_of_mem _ hx) y (List.mem_cons_of_mem _ hy)) h2
    unfold cpt
    split
    · exact ih
    · rename_i hne
      refine List.pairwise_cons.2 ⟨fun x hx => ?_, ih⟩
      have hx := cpt_mem.1 hx
      have sa := hs a (by simp)
      have sb := hs b (by simp)
      have sx := hs x (List.mem_cons_of_mem _ hx)
      rw [← small_lt sa sx]
      have l1 := h1 b (by simp)
      have lt : akey a < akey b := by
        rcases Int.lt_or_eq_of_le l1 with h | h
        · exact h
        · obtain ⟨e1, e2⟩ := (small_eq sa sb).1 h
          exact absurd (hk a (by simp) b (by simp) e1 e2) hne
      rcases List.mem_cons.1 hx with e | e
      · rw [e]; exact lt
      · have := (List.pairwise_cons.1 h2).1 x e
        omega
/-- All of a list put in. -/
def addAll (l acc : List Access) : List Access := l.foldl (fun m a => add a.kind a.num a.write m) acc
theorem add_mem_same {k n : Int} {w : Bool} : ∀ {l : List Access}, (∀ a ∈ l, a.kind = k → a.num = n → a.write = w) → ∀ x, x ∈ add k n w l ↔ x = ⟨k, n, w⟩ ∨ x ∈ l
  | [], _, x => by simp [add]
  | y :: l, h, x => by
    unfold add
    split
    · rename_i hk
      have hw := h y (by simp) hk.1 hk.2
      have : (⟨y.kind, y.num, y.write || w⟩ : Access) = y := by rw [hw, Bool.or_self, ← hw]
      have e2 : (⟨k, n, w⟩ : Access) = y := by rw [← hk.1, ← hk.2, ← hw]
      rw [this, e2, List.mem_cons]
      constructor
      · exact .inr
      · rintro (e | e)
        · exact .inl e
        · exact e
    · split
      · rw [List.mem_cons]
      · rw [List.mem_cons, add_mem_same (fun a ha => h a (List.mem_cons_of_mem _ ha)), List.mem_cons]
        constructor
        · rintro (e | e | e)
          · exact .inr (.inl e)
          · exact .inl e
          · exact .inr (.inr e)
        · rintro (e | e | e)
          · exact .inr (.inl e)
          · exact .inl e
          · exact .inr (.inr e)
theorem addAll_mem : ∀ {l m : List Access}, SameKey (l ++ m) → ∀ x, x ∈ addAll l m ↔ x ∈ l ++ m
  | [], m, _, x => Iff.rfl
  | a :: l, m, hk, x => by
    have e : addAll (a :: l) m = addAll l (add a.kind a.num a.write m) := rfl
    have ha : ∀ x, x ∈ add a.kind a.num a.write m ↔ x = a ∨ x ∈ m := add_mem_same fun b hb h1 h2 => by
      have := hk b (by simp [hb]) a (by simp) h1 h2
      rw [this]
    have h2 : ∀ x, x ∈ l ++ add a.kind a.num a.write m ↔ x ∈ a :: l ++ m := fun x => by
      rw [List.mem_append, ha, List.cons_append, List.mem_cons, List.mem_append]
      constructor
      · rintro (h | h | h)
        · exact .inr (.inl h)
        · exact .inl h
        · exact .inr (.inr h)
      · rintro (h | h | h)
        · exact .inr (.inl h)
        · exact .inl h
        · exact .inr (.inr h)
    rw [e, addAll_mem (fun u hu v hv => hk u ((h2 u).1 hu) v ((h2 v).1 hv)), h2]
theorem addAll_sorted : ∀ {l m : List Access}, m.Pairwise alt' → (addAll l m).Pairwise alt'
  | [], _, h => h
  | a :: l, m, h => addAll_sorted (l := l) (add_sorted a.kind a.num a.write h)
/-- Sorted, without doubles: what putting in makes. -/
theorem sort_cpt {l R : List Access} (hs : ∀ a ∈ l, small a) (hk : SameKey l) (hp : R.Perm l) (ho : R.Pairwise (fun a b => akey a ≤ akey b)) : cpt R = addAll l [] := by
  refine sorted_ext (cpt_strict (fun a ha => hs a (hp.mem_iff.1 ha)) (fun a ha b hb => hk a (hp.mem_iff.1 ha) b (hp.mem_iff.1 hb)) ho) (addAll_sorted List.Pairwise.nil) fun x => ?_
  rw [cpt_mem, hp.mem_iff, addAll_mem (by rw [List.append_nil]; exact hk), List.append_nil]
end Go.Eng
/- Sorting by putting in: what holds while it goes. -/
namespace Go.Eng
set_option linter.unusedSimpArgs false
set_option linter.unusedVariables false
set_option linter.unusedVariables false
def acmp (a b : Access) : Int := if a.kind = b.kind then a.num - b.num else a.kind - b.kind
theorem acmp_lt {a b : Access} (ha : small a) (hb : small b) : acmp a b < 0 ↔ akey a < akey b := by
  unfold small at ha hb; unfold akey acmp; split <;> omega
def swp (R : List Access) (j : Nat) : List Access := (R.set j (acc R (j - 1))).set (j - 1) (acc R j)
theorem swp_len (R : List Access) (j : Nat) : (swp R j).length = R.length := by simp [swp]
theorem acc_at {R : List Access} {j : Nat} (h : j < R.length) : acc R j = R[j] := by simp [acc, List.getD_eq_getElem?_getD, h]
theorem swp_perm {R : List Access} {j : Nat} (h0 : 0 < j) (h : j < R.length) : (swp R j).Perm R := by
  have := List.set_set_perm h (show j - 1 < R.length by omega)
  unfold swp
  rw [acc_at h, acc_at (show j - 1 < R.length by omega)]
  exact this
theorem swp_at {R : List Access} {j k : Nat} (h0 : 0 < j) (h : j < R.length) : acc (swp R j) k = if k = j then acc R (j - 1) else if k = j - 1 then acc R j else acc R k := by
  unfold swp
  unfold acc
  rw [List.getD_eq_getElem?_getD, List.getElem?_set]
  by_cases h1 : j - 1 = k
  · subst h1
    rw [if_pos rfl, if_pos (by simp; omega), if_neg (by omega), if_pos rfl]; rfl
  · rw [if_neg h1, List.getElem?_set]
    by_cases h2 : j = k
    · subst h2
      rw [if_pos rfl, if_pos h, if_pos rfl]; rfl
    · rw [if_neg h2, if_neg (fun q => h2 q.symm), if_neg (fun q => h1 q.symm), ← List.getD_eq_getElem?_getD]
structure SInvO (l R : List Access) (i : Nat) : Prop where
  len : R.length = l.length
  perm : R.Perm l
  ord : ∀ x y, x < y → y < i → akey (acc R x) ≤ akey (acc R y)
structure SInvI (l R : List Access) (i j : Nat) : Prop where
  len : R.length = l.length
  perm : R.Perm l
  le : j ≤ i
  lt : i < l.length
  ord : ∀ x y, x < y → y ≤ i → y ≠ j → akey (acc R x) ≤ akey (acc R y)
theorem SInvO.inner {l R : List Access} {i : Nat} (h : SInvO l R i) (hi : i < l.length) : SInvI l R i i :=
  ⟨h.len, h.perm, Nat.le_refl _, hi, fun x y h1 h2 h3 => h.ord x y h1 (by omega)⟩
theorem SInvI.swap {l R : List Access} {i j : Nat} (h : SInvI l R i j) (h0 : 0 < j) (hlt : akey (acc R j) < akey (acc R (j - 1))) : SInvI l (swp R j) i (j - 1) := by
  have hl := h.len
  have hle := h.le
  have hli := h.lt
  refine ⟨by rw [swp_len]; exact hl, (swp_perm h0 (by omega)).trans h.perm, by omega, hli, fun x y h1 h2 h3 => ?_⟩
  rw [swp_at h0 (by omega), swp_at h0 (by omega)]
  by_cases y1 : y = j
  · subst y1
    rw [if_pos rfl, if_neg (by omega)]
    by_cases x1 : x = y - 1
    · rw [if_pos x1]; omega
    · rw [if_neg x1]; exact h.ord x (y - 1) (by omega) (by omega) (by omega)
  · rw [if_neg y1, if_neg h3]
    by_cases x1 : x = j
    · rw [if_pos x1]; exact h.ord (j - 1) y (by omega) h2 (by omega)
    · rw [if_neg x1]
      by_cases x2 : x = j - 1
      · rw [if_pos x2]; exact h.ord j y (by omega) h2 y1
      · rw [if_neg x2]; exact h.ord x y h1 h2 y1
theorem SInvI.done {l R : List Access} {i j : Nat} (h : SInvI l R i j) (hd : j = 0 ∨ akey (acc R (j - 1)) ≤ akey (acc R j)) : SInvO l R (i + 1) := by
  refine ⟨h.len, h.perm, fun x y h1 h2 => ?_⟩
  by_cases y1 : y = j
  · subst y1
    rcases hd with hd | hd
    · omega
    · by_cases x1 : x = y - 1
      · rw [x1]; exact hd
      · have := h.ord x (y - 1) (by omega) (by have := h.le; omega) (by omega)
        omega
  · exact h.ord x y h1 (by omega) y1
theorem SInvO.sorted {l R : List Access} {i : Nat} (h : SInvO l R i) (hi : l.length ≤ i) : R.Pairwise (fun a b => akey a ≤ akey b) := by
  rw [List.pairwise_iff_getElem]
  intro x y hx hy hxy
  have := h.ord x y hxy (by have := h.len; omega)
  rwa [acc_at hx, acc_at hy] at this
theorem SInvO.first (l : List Access) : SInvO l l 1 := ⟨rfl, List.Perm.refl _, fun x y h1 h2 => by omega⟩
theorem SInvO.all {l R : List Access} {i : Nat} (h : SInvO l R i) {P : Access → Prop} (hs : ∀ a ∈ l, P a) {k : Nat} (hk : k < l.length) : P (acc R k) := by
  have hk' : k < R.length := by rw [h.len]; exact hk
  exact hs _ (h.perm.mem_iff.1 (by rw [acc_at hk']; exact List.getElem_mem hk'))
theorem SInvI.all {l R : List Access} {i j : Nat} (h : SInvI l R i j) {P : Access → Prop} (hs : ∀ a ∈ l, P a) {k : Nat} (hk : k < l.length) : P (acc R k) := by
  have hk' : k < R.length := by rw [h.len]; exact hk
  exact hs _ (h.perm.mem_iff.1 (by rw [acc_at hk']; exact List.getElem_mem hk'))

/-! Compacting in place. -/
structure CInv (R C : List Access) (k0 k k2 : Nat) : Prop where
  len : C.length = R.length
  p0 : 0 < k0
  le : k + 1 ≤ k0 + k2
  p2 : 1 ≤ k2
  kk : k0 ≤ k
  hi : k0 + k2 ≤ R.length
  tk : C.take k = cpt (R.take (k0 + k2))
  num : k = (cpt (R.take (k0 + k2))).length
  dr : ∀ x, k0 + k2 - 1 ≤ x → acc C x = acc R x
theorem CInv.first {R : List Access} {k0 : Nat} (h0 : 0 < k0) (hk : k0 < R.length) (hc : cpt (R.take k0) = R.take k0) (he : acc R k0 = acc R (k0 - 1)) : CInv R R k0 k0 1 := by
  have e : cpt (R.take (k0 + 1)) = R.take k0 := by rw [cpt_take h0 hk, if_pos he, hc]
  exact ⟨rfl, h0, by omega, by omega, by omega, by omega, e.symm, by rw [e, List.length_take]; omega, fun x _ => rfl⟩
theorem CInv.next {R C : List Access} {k0 k k2 : Nat} (h : CInv R C k0 k k2) (hk : k0 + k2 < R.length) (he : acc C (k0 + k2) = acc C (k0 + k2 - 1)) : CInv R C k0 k (k2 + 1) := by
  have := h.p0
  rw [h.dr _ (by omega), h.dr _ (by omega)] at he
  have e : cpt (R.take (k0 + (k2 + 1))) = cpt (R.take (k0 + k2)) := by
    rw [← Nat.add_assoc, cpt_take (by omega) hk, if_pos he]
  exact ⟨h.len, h.p0, by have := h.le; omega, by omega, h.kk, by omega, by rw [e]; exact h.tk, by rw [e]; exact h.num, fun x hx => h.dr x (by omega)⟩
theorem CInv.put {R C : List Access} {k0 k k2 : Nat} (h : CInv R C k0 k k2) (hk : k0 + k2 < R.length) (he : ¬acc C (k0 + k2) = acc C (k0 + k2 - 1)) : CInv R (C.set k (acc C (k0 + k2))) k0 (k + 1) (k2 + 1) := by
  have h1 := h.p0
  have h2 := h.le
  have h3 := h.len
  rw [h.dr _ (by omega), h.dr _ (by omega)] at he
  rw [h.dr (k0 + k2) (by omega)]
  have e : cpt (R.take (k0 + (k2 + 1))) = cpt (R.take (k0 + k2)) ++ [acc R (k0 + k2)] := by
    rw [← Nat.add_assoc, cpt_take (by omega) hk, if_neg he]
  refine ⟨by rw [List.length_set]; exact h3, h1, by omega, by omega, by have := h.kk; omega, by omega, ?_, by rw [e, List.length_append, ← h.num]; rfl, fun x hx => ?_⟩
  · rw [e, ← h.tk, take_acc (by rw [List.length_set]; omega), List.take_set_of_le (by omega)]
    congr 1
    unfold acc
    rw [List.getD_eq_getElem?_getD, List.getElem?_set_self (by omega)]; rfl
  · unfold acc
    rw [List.getD_eq_getElem?_getD, List.getElem?_set_ne (by omega), ← List.getD_eq_getElem?_getD]
    exact h.dr x (by omega)
def lenV (n : Nat) : Int := if n = 0 then 0 else if n = 1 then 1 else if n < 4 then 2 else 3
end Go.Eng
