/- append, literals of slices, make: what they do. -/
import Derived.Test.YtedceinkpkoncaaGreatDoorPk5
namespace Go.Eng
set_option linter.unusedSimpArgs false
set_option linter.unusedVariables false
open Go.RowKit

variable {P : Program} {T : Tab} {w w' : World} {w0 : Base T} {F F' : Nat → Prop} {ρ ρ' : Nat → RI} {σ : St} {a : Act} {outs : List (Array Value)}

theorem below_drew (w : World) : Below w.heap.size w w.drew := (Below.refl _ _).drew

/-- An append that has no room (or to nil): a new row. -/
theorem append_new (hP : TabOk P T) {t e ty : TypeId} (ht : T.ty t = .slice e) {b off n cap : Nat} {olds : List Value} {base : Option Addr} (hbase : (base = none ∧ n = 0 ∧ cap = 0 ∧ olds = []) ∨ (base = some ⟨b, off, none⟩ ∧ Seg w b off olds) ∨ (∃ ad, base = some ad ∧ n = 0 ∧ olds = []))
    (hol : olds.length = n * T.sz e) {b' off' m c : Nat} {news : List Value} (hnl : news.length = m * T.sz e) (hns : Seg w b' off' news) (hm : 0 < m) (hg : cap < n + m) (hroom : roomFor T e (n + m)) :
    ∃ r w', (Builtin.append_ #[t, t] ty #[.slice base n cap, .slice (some ⟨b', off', none⟩) m c]).run P w = .ok r w' ∧ w'.ownsRow w.heap.size e (T.sz e) r (n + m) (olds ++ news) ∧ Below w.heap.size w w' := by
  obtain ⟨hu, hno⟩ := hP.slice _ _ ht
  obtain ⟨i, i1, i2, i3, z, i4, i5, i6, i7, _⟩ := hP.info e hno
  obtain ⟨r1, r2⟩ := hroom
  have h63 : ((n + m : Nat) : Int) ≤ 9223372036854775807 := by simp only [maxLen] at r1; omega
  have hol' : olds.length = n * i.size := by rw [i2]; exact hol
  have hnl' : news.length = m * i.size := by rw [i2]; exact hnl
  have hby : (n + m) * i.bytes ≤ 140737488355328 := by rw [i3]; exact r2
  have fin : ∀ (old : Nat), ∃ r w', Result.ok (.slice (some ⟨w.heap.size, 0, none⟩) (n + m) (grownCap w (n + m) old e)) (w.drew.alloc (.cells (olds.toArray ++ news.toArray ++ Builtin.zeroCells z.cells (grownCap w (n + m) old e - (n + m))) e)) = Result.ok r w' ∧
      w'.ownsRow w.heap.size e (T.sz e) r (n + m) (olds ++ news) ∧ Below w.heap.size w w' := by
    intro old
    have hge := grownCap_ge w (n + m) old e
    have hcm := grownCap_le_maxLen w (n + m) old e r1
    refine ⟨_, _, rfl, ⟨?_, .inr ⟨w.heap.size, _, _, rfl, Nat.le_refl _, heap_alloc_new w.drew _, hge, hcm, ?_, ?_⟩⟩, (below_drew w).alloc (Nat.le_refl _) _⟩
    · rw [List.length_append, hol, hnl, Nat.add_mul]
    · simp only [Array.size_append, List.size_toArray, size_zeroCells, hol, hnl, i5, ← Nat.add_mul]
      congr 1
      omega
    · simp only [Array.toList_append, List.append_assoc]
      rw [← List.append_assoc]
      have hlen : (olds ++ news).length = (n + m) * T.sz e := by rw [List.length_append, hol, hnl, Nat.add_mul]
      rw [← hlen]
      exact List.take_left
  rcases hbase with ⟨rfl, rfl, rfl, rfl⟩ | ⟨rfl, hs⟩ | ⟨ad, rfl, rfl, rfl⟩
  · have := run_append_nil (P := P) w t ty e i z hu i1 i4 ⟨b', off', none⟩ m c news hnl' (fun j v hv => by rw [addr_add]; exact hns j v hv) hm (by simpa using h63) (by simp only [Nat.zero_add] at hby; omega)
    obtain ⟨r, w', h1, h2⟩ := fin 0
    refine ⟨r, w', ?_, h2⟩
    rw [this, ← h1]
    simp
  · have := run_append_grow (P := P) w t ty e i z hu i1 i4 ⟨b, off, none⟩ n cap olds hol' (fun j v hv => by rw [addr_add]; exact hs j v hv) ⟨b', off', none⟩ m c news hnl' (fun j v hv => by rw [addr_add]; exact hns j v hv) hg h63 (growslice_fits (by omega) hby)
    obtain ⟨r, w', h1, h2⟩ := fin cap
    exact ⟨r, w', by rw [this, ← h1], h2⟩
  · have := run_append_grow (P := P) w t ty e i z hu i1 i4 ad 0 cap [] (by simp) (fun j v hv => by simp at hv) ⟨b', off', none⟩ m c news hnl' (fun j v hv => by rw [addr_add]; exact hns j v hv) hg h63 (growslice_fits (by omega) hby)
    obtain ⟨r, w', h1, h2⟩ := fin cap
    exact ⟨r, w', by rw [this, ← h1], h2⟩

/-- An append of nothing answers the slice itself. -/
theorem append_none (hP : TabOk P T) {t e ty : TypeId} (ht : T.ty t = .slice e) {base : Option Addr} {n cap m c : Nat} {x : Option Addr} (hn : n ≤ cap) (hx : (x = none ∧ m = 0) ∨ m = 0) (w : World) :
    (Builtin.append_ #[t, t] ty #[.slice base n cap, .slice x m c]).run P w = .ok (.slice base n cap) w := by
  obtain ⟨hu, hno⟩ := hP.slice _ _ ht
  have hm : m = 0 := by rcases hx with ⟨_, h⟩ | h <;> exact h
  subst hm
  have hs := fun W => run_sizeOf (P := P) hP hno W
  cases base <;> cases x <;> simp [Builtin.append_, run_underlying hu, hs, Builtin.lenOf, Builtin.firstCells, hn, storeCells, loadCells, loadCellsFrom]

/-- The row of object i written anew, or moved. -/
theorem row_moved (hR : Rel T w F ρ w0 σ a.tmps outs) {i : Nat} (hi : i < σ.ob.length) {e : TypeId} {l : List V} {r : Value} {ys : List Value} {r0 : Value} (hr0 : ρ i = .row e r0)
    (hw : ∀ k, k < w.heap.size → r0.ownBlock ≠ some k → w'.heap[k]? = w.heap[k]?) (hs : w.heap.size ≤ w'.heap.size) (hos : w'.os = w.os) (htp : w'.tape = w.tape) (hout : w'.output = w.output)
    (hr : ∀ b, r.ownBlock = some b → r0.ownBlock = some b ∨ (w.heap.size ≤ b ∧ b < w'.heap.size)) (hown : w'.ownsRow w0.w.heap.size e (T.sz e) r l.length ys) (hf : FitsL T w' F (List.replicate l.length e) l ys) :
    Rel T w' F (upd ρ i (.row e r)) w0 { (σ.kill i) with ob := (σ.kill i).ob.set i (.row e l) } a.tmps outs ∧ ERel T w' F (upd ρ i (.row e r)) (.sl i e 0 l.length false) r := by
  refine ⟨hR.move hi (fun k hk hb => hw k hk (by rw [hr0] at hb; exact hb)) hs hos htp hout (fun b hb => ?_) ⟨rfl, fun b hb hF => ?_, ys, hown, hf⟩, ?_⟩
  · rcases hr b hb with h | h
    · left; rw [hr0]; exact h
    · exact .inr h
  · rcases hr b hb with h | h
    · have : (ρ i).block = some b := by rw [hr0]; exact h
      exact (hR.own this).2.1 hF
    · have := hR.fsub b hF; omega
  · unfold ERel
    rw [upd_self]
    rcases hown.2 with ⟨rfl, h0⟩ | ⟨g, cap, cur, rfl, q2, q3, q4, _⟩
    · exact .inl ⟨rfl, rfl, rfl, h0⟩
    · exact .inr ⟨g, _, cap, 0, rfl, by omega, q4, rfl, fun _ => rfl, .inr (by simp)⟩

theorem ownsRow_base {base base' : Nat} {e : TypeId} {size n : Nat} {v : Value} {xs : List Value} (h : w.ownsRow base e size v n xs) (hb : base' ≤ base) : w.ownsRow base' e size v n xs := by
  refine ⟨h.1, ?_⟩
  rcases h.2 with h | ⟨g, cap, cur, q1, q2, q3⟩
  · exact .inl h
  · exact .inr ⟨g, cap, cur, q1, Nat.le_trans hb q2, q3⟩

theorem appendA_sound (hP : TabOk P T) (hR : Rel T w F ρ w0 σ a.tmps outs) {t e : TypeId} (ht : T.ty t = .slice e) {c : Call} {s x : Operand} (hc : c.callee = .builtin .append) (hca : c.args = #[s, x]) (hct : c.argTypes = #[t, t])
    {es ex : E} {K : St → E → Prop} (hs : ERel T w F ρ es (a.eval s)) (hx : ERel T w F ρ ex (a.eval x)) (h : appendA T σ e es ex K) : ∃ σ' e', K σ' e' ∧ Does P T w0 w a outs (.call c) σ' e' := by
  have run : ∀ (r : Value) (w' : World), (∀ ty, (Builtin.append_ #[t, t] ty #[a.eval s, a.eval x]).run P w = .ok r w') → ∀ o : Oper, o.op = .call c → (execOp a.eval o).run P w = .ok (.value r) w' := by
    intro r w' h1 o ho
    simp [execOp, ho, resolve, hc, hca, hct, invoke, builtin, h1 o.type]
  unfold appendA at h
  split at h; · exact h.elim
  rename_i xs hxs
  -- what is appended: nothing, or cells that lie somewhere
  have hel : (xs = [] ∧ ∃ ad c', a.eval x = .slice ad 0 c') ∨ (0 < xs.length ∧ ∃ b' off' c' news, a.eval x = .slice (some ⟨b', off', none⟩) xs.length c' ∧ Seg w b' off' news ∧ news.length = xs.length * T.sz e ∧
      FitsL T w F (List.replicate xs.length e) xs news) := by
    rcases elems_of hP hR hx hxs with ⟨⟨ad0, c0, h1⟩, h2⟩ | ⟨b, off, cap, cs, F1, h1, h2, h3, h4⟩
    · exact .inl ⟨h2, ad0, c0, h1⟩
    · by_cases hm : xs.length = 0
      · rw [hm] at h1
        exact .inl ⟨List.eq_nil_of_length_eq_zero hm, _, _, h1⟩
      · have hsz := h3.len hP.sized
        rw [szs_replicate] at hsz
        exact .inr ⟨by omega, b, off, cap, cs, h1, h2, hsz, h3.mono (fun b hb => (h4 b hb).2) (fun _ _ => rfl)⟩
  have hFw : ∀ {w' : World}, Below w.heap.size w w' → ∀ b, F b → w'.heap[b]? = w.heap[b]? := fun hb b hF => hb.block b (hR.fsub b hF)
  -- an append that makes a new row
  have run' : ∀ {b off n cap : Nat} {olds : List Value} {base : Option Addr} (_ : a.eval s = .slice base n cap) (_ : (base = none ∧ n = 0 ∧ cap = 0 ∧ olds = []) ∨ (base = some ⟨b, off, none⟩ ∧ Seg w b off olds) ∨ (∃ ad, base = some ad ∧ n = 0 ∧ olds = []))
    (_ : olds.length = n * T.sz e) {b' off' m c' : Nat} {news : List Value} (_ : a.eval x = .slice (some ⟨b', off', none⟩) m c') (_ : news.length = m * T.sz e) (_ : Seg w b' off' news) (_ : 0 < m) (_ : cap < n + m) (_ : roomFor T e (n + m)),
    ∃ r w', (∀ o : Oper, o.op = .call c → (execOp a.eval o).run P w = .ok (.value r) w') ∧ w'.ownsRow w.heap.size e (T.sz e) r (n + m) (olds ++ news) ∧ Below w.heap.size w w' := by
    intro b off n cap olds base e1 e2 e3 b' off' m c' news e4 e5 e6 e7 e8 e9
    obtain ⟨r, w', h1, h2, h3⟩ := append_new (ty := 0) hP ht e2 e3 e5 e6 (c := c') e7 e8 e9
    refine ⟨r, w', run r w' (fun ty => ?_), h2, h3⟩
    rw [e1, e4]
    exact h1
  split at h
  · rename_i i e' lo n cl
    obtain ⟨rfl, h⟩ := h
    split at h; rotate_left; · exact h.elim
    rename_i e2 l ho
    have hil : i < σ.ob.length := (List.getElem?_eq_some_iff.1 ho).1
    have hob := hR.ob _ _ ho
    -- the object as it lies
    obtain ⟨r0, hr0, rfl, q2, ys, q3, q4⟩ : ∃ r0, ρ i = .row e' r0 ∧ e' = e2 ∧ (∀ b, r0.ownBlock = some b → ¬ F b) ∧ ∃ xs, w.ownsRow w0.w.heap.size e2 (T.sz e2) r0 l.length xs ∧ FitsL T w F (List.replicate l.length e2) l xs := by
      rcases hs with ⟨r1, _⟩ | ⟨b, n1, cap, off, r1, _⟩
      · rw [r1] at hob; obtain ⟨rfl, q2, ys, q3, q4⟩ := hob; exact ⟨_, r1, rfl, q2, ys, q3, q4⟩
      · rw [r1] at hob; obtain ⟨rfl, q2, ys, q3, q4⟩ := hob; exact ⟨_, r1, rfl, q2, ys, q3, q4⟩
    split at h
    · -- the whole row, in place or moved
      obtain ⟨hn, hroom, h⟩ := h
      have hlen : (l.take n ++ xs).length = n + xs.length := by simp; omega
      have hfl : FitsL T w F (List.replicate n e') (l.take n) (ys.take (n * T.sz e')) := by simpa using q4.slice hP.sized (lo := 0) (m := n) (by omega)
      have hol := hfl.len hP.sized
      rw [szs_replicate] at hol
      -- the value of the slice, as a row of its own
      have hown : w.ownsRow w0.w.heap.size e' (T.sz e') (a.eval s) n (ys.take (n * T.sz e')) ∧ (a.eval s).ownBlock = r0.ownBlock := by
        rcases hs with ⟨r1, v1, _, n0⟩ | ⟨b, n1, cap, off, r1, b1, b2, v1, b3, _⟩
        · rw [hr0] at r1; cases r1
          subst n0
          rw [v1]; simp; exact World.ownsRow_nil _ _ _ _
        · rw [hr0] at r1; cases r1
          have := b3 rfl
          subst this
          rcases q3.2 with ⟨q, _⟩ | ⟨b', cap', cur, hr, hb, hh, hn', hc', hs', htk⟩
          · cases q
          · cases hr
            rw [v1]
            refine ⟨⟨hol, .inr ⟨b, cap, cur, rfl, hb, hh, by omega, hc', hs', ?_⟩⟩, rfl⟩
            rw [← htk, List.take_take, Nat.min_eq_left (Nat.mul_le_mul_right _ hn)]
      have fin : ∀ (r : Value) (w' : World) (ds : List Value), (∀ k, k < w.heap.size → r0.ownBlock ≠ some k → w'.heap[k]? = w.heap[k]?) → w.heap.size ≤ w'.heap.size → w'.os = w.os → w'.tape = w.tape → w'.output = w.output →
          (∀ b, r.ownBlock = some b → r0.ownBlock = some b ∨ (w.heap.size ≤ b ∧ b < w'.heap.size)) → w'.ownsRow w0.w.heap.size e' (T.sz e') r (n + xs.length) ds → FitsL T w' F (List.replicate (n + xs.length) e') (l.take n ++ xs) ds →
          (∀ o : Oper, o.op = .call c → (execOp a.eval o).run P w = .ok (.value r) w') → ∃ σ' e', K σ' e' ∧ Does P T w0 w a outs (.call c) σ' e' := by
        intro r w' ds g1 g2 g3 g4 g5 g6 g7 g8 g9
        have := row_moved (w' := w') hR hil (l := l.take n ++ xs) (r := r) (ys := ds) hr0 g1 g2 g3 g4 g5 g6 (by rw [hlen]; exact g7) (by rw [hlen]; exact g8)
        rw [hlen] at this
        exact ⟨_, _, h, w', F, _, r, .value r, this.2, this.1, .inl rfl, g9, by simp [isMake]⟩
      have hrep : List.replicate (n + xs.length) e' = List.replicate n e' ++ List.replicate xs.length e' := by rw [List.replicate_append_replicate]
      rcases hel with ⟨rfl, ad, c', hv⟩ | ⟨hm, b', off', c', news, hv, hseg, hnl, hfn⟩
      · -- nothing is appended
        obtain ⟨base, cap, hs', hcap⟩ : ∃ base cap, a.eval s = .slice base n cap ∧ n ≤ cap := by
          rcases hown.1.2 with ⟨h1, h2⟩ | ⟨g, cap, cur, h1, _, _, h2, _⟩
          · exact ⟨none, 0, by rw [h1, h2], by omega⟩
          · exact ⟨_, cap, h1, h2⟩
        refine fin (a.eval s) w (ys.take (n * T.sz e')) (fun _ _ _ => rfl) (Nat.le_refl _) rfl rfl rfl (fun b hb => .inl (by rw [← hown.2]; exact hb)) hown.1 (by simpa using hfl) (run _ w fun ty => ?_)
        rw [hs', hv]
        exact append_none hP ht hcap (.inr rfl) w
      · rcases hown.1.2 with ⟨h1, h2⟩ | ⟨g, cap, cur, h1, hg, hh, h2, h3, h4, h5⟩
        · -- nil so far
          subst h2
          obtain ⟨r, w', e1, e2, e3⟩ := run' (b := 0) (off := 0) (olds := []) h1 (.inl ⟨rfl, rfl, rfl, rfl⟩) (by simp) hv hnl hseg hm (by omega) (by simpa using hroom)
          refine fin r w' ([] ++ news) (fun k hk _ => e3.block k hk) e3.size e3.os e3.tape e3.output (fun b hb => .inr (e2.lt b hb)) (ownsRow_base e2 hR.below.size) ?_ e1
          simpa using hfn.mono (fun _ x => x) (hFw e3)
        · by_cases hroom' : n + xs.length ≤ cap
          · -- in place
            obtain ⟨hu, hno⟩ := hP.slice _ _ ht
            obtain ⟨i0, i1, i2, _⟩ := hP.info e' hno
            have hfit : n * i0.size + news.length ≤ cur.size := by rw [hnl, i2, h4, ← Nat.add_mul]; exact Nat.mul_le_mul_right _ hroom'
            have hone : ∀ u ∈ news, u.oneCell' = true := fun u hu => by
              have := hfn.onesL u hu
              exact this
            have hrun := fun ty => run_append_room (P := P) w t ty e' i0 hu i1 g n cap cur hh ⟨b', off', none⟩ xs.length c' news (by rw [hnl, i2]) (fun j v hv => by rw [addr_add]; exact hseg j v hv) hone hroom' hfit
            simp only [i2] at hrun
            have hgr : r0.ownBlock = some g := by rw [← hown.2, h1]; rfl
            refine fin (.slice (some ⟨g, 0, none⟩) (n + xs.length) cap) (w.setRow g (cur.toList.take (n * T.sz e') ++ news ++ cur.toList.drop (n * T.sz e' + news.length)).toArray) (ys.take (n * T.sz e') ++ news) ?_ (by simp [World.setRow]) rfl rfl rfl (fun b hb => .inl (by rw [hgr]; simpa [Value.ownBlock] using hb)) ⟨?_, .inr ⟨g, cap, _, rfl, hg, setRow_heap w g cur _ e' _ hh, hroom', h3, ?_, ?_⟩⟩ ?_ (run _ _ fun ty => by rw [h1, hv]; exact hrun ty)
            · intro k hk hkg
              exact setRow_other w g k _ (fun e => hkg (by rw [hgr, e]))
            · rw [List.length_append, hol, hnl, Nat.add_mul]
            · have : cur.toList.length = cap * T.sz e' := by simpa using h4
              simp only [List.size_toArray, List.length_append, List.length_take, List.length_drop]
              rw [i2] at hfit
              have hcl : cur.toList.length = cur.size := by simp
              omega
            · rw [← h5]
              have hlen2 : ((cur.toList.take (n * T.sz e')) ++ news).length = (n + xs.length) * T.sz e' := by rw [h5, List.length_append, hol, hnl, Nat.add_mul]
              rw [← hlen2]
              exact List.take_left
            · rw [hrep]
              have hoth : ∀ k, F k → (w.setRow g (cur.toList.take (n * T.sz e') ++ news ++ cur.toList.drop (n * T.sz e' + news.length)).toArray).heap[k]? = w.heap[k]? := fun k hF => setRow_other w g k _ (fun e => q2 g hgr (e ▸ hF))
              exact (hfl.mono (fun _ x => x) hoth).append (hfn.mono (fun _ x => x) hoth)
          · -- moved
            have hseg0 : Seg w g 0 (ys.take (n * T.sz e')) := by
              have := seg_of_cells (w := w) hh 0 (n * T.sz e')
              rw [List.drop_zero, h5] at this
              exact this
            obtain ⟨r, w', e1, e2, e3⟩ := run' h1 (.inr (.inl ⟨rfl, hseg0⟩)) hol hv hnl hseg hm (by omega) hroom
            refine fin r w' (ys.take (n * T.sz e') ++ news) (fun k hk _ => e3.block k hk) e3.size e3.os e3.tape e3.output (fun b hb => .inr (e2.lt b hb)) (ownsRow_base e2 hR.below.size) ?_ e1
            rw [hrep]
            exact (hfl.mono (fun _ x => x) (hFw e3)).append (hfn.mono (fun _ x => x) (hFw e3))
    · -- a slice without spare room: a new row
      obtain ⟨hn, hm, rfl, hroom, h⟩ := h
      have hlen : ((l.drop lo).take n ++ xs).length = n + xs.length := by simp; omega
      have hfl := q4.slice hP.sized (lo := lo) (m := n) (by omega)
      have hol := hfl.len hP.sized
      rw [szs_replicate] at hol
      rcases hel with ⟨rfl, _⟩ | ⟨_, b', off', c', news, hv, hseg, hnl, hfn⟩
      · simp at hm
      obtain ⟨base, bb, off, hs', hbase⟩ : ∃ base bb off, a.eval s = .slice base n n ∧ ((base = none ∧ n = 0 ∧ n = 0 ∧ (ys.drop (lo * T.sz e')).take (n * T.sz e') = []) ∨ (base = some ⟨bb, off, none⟩ ∧ Seg w bb off ((ys.drop (lo * T.sz e')).take (n * T.sz e')))) := by
        rcases hs with ⟨r1, v1, _, n0⟩ | ⟨b, n1, cap, off, r1, b1, b2, v1, b3, b4⟩
        · subst n0
          exact ⟨none, 0, 0, v1, .inl ⟨rfl, rfl, rfl, by simp⟩⟩
        · rw [hr0] at r1; cases r1
          refine ⟨_, b, off, v1, .inr ⟨rfl, ?_⟩⟩
          rcases q3.2 with ⟨q, _⟩ | ⟨b'', cap', cur, hr, hb, hh, hn', hc', hs', htk⟩
          · cases q
          · cases hr
            rcases b4 with b4 | b4
            · subst b4
              intro j y hy
              simp at hy
            · have hys : Seg w b 0 ys := by
                have := seg_of_cells (w := w) hh 0 (l.length * T.sz e')
                rw [List.drop_zero, htk] at this
                exact this
              have := hys.sub (lo * T.sz e') (n * T.sz e')
              rw [Nat.zero_add] at this
              rw [b4]
              exact this
      have hbase' : (base = none ∧ n = 0 ∧ n = 0 ∧ (ys.drop (lo * T.sz e')).take (n * T.sz e') = []) ∨ (base = some ⟨bb, off, none⟩ ∧ Seg w bb off ((ys.drop (lo * T.sz e')).take (n * T.sz e'))) := hbase
      obtain ⟨r, w', e1, e2, e3⟩ := run' hs' (hbase'.imp_right .inl) hol hv hnl hseg hm (by omega) hroom
      have := new_row hR e3 (l := (l.drop lo).take n ++ xs) (by rw [hlen]; exact e2) (by
        rw [hlen, ← List.replicate_append_replicate]
        exact (hfl.mono (fun _ x => x) (hFw e3)).append (hfn.mono (fun _ x => x) (hFw e3)))
      rw [hlen] at this
      exact ⟨_, _, h, w', F, _, r, .value r, this.2, this.1, .inl rfl, e1, by simp [isMake]⟩
  · -- nil
    obtain ⟨hroom, h⟩ := h
    have hs' : a.eval s = .slice none 0 0 := hs
    rcases hel with ⟨rfl, ad, c', hv⟩ | ⟨hm, b', off', c', news, hv, hseg, hnl, hfn⟩
    · have := new_row (a := a) hR (Below.refl _ _) (l := ([] : List V)) (World.ownsRow_nil _ _ e _) .nil
      refine ⟨_, _, h, w, F, _, .slice none 0 0, .value (.slice none 0 0), this.2, this.1, .inl rfl, run _ w fun ty => ?_, by simp [isMake]⟩
      rw [hs', hv]
      exact append_none hP ht (Nat.le_refl 0) (.inr rfl) w
    · obtain ⟨r, w', e1, e2, e3⟩ := run' (b := 0) (off := 0) (olds := []) hs' (.inl ⟨rfl, rfl, rfl, rfl⟩) (by simp) hv hnl hseg hm (by omega) (by simpa using hroom)
      have := new_row hR e3 (l := xs) (xs := [] ++ news) (by simpa using e2) (by simpa using hfn.mono (fun _ x => x) (hFw e3))
      exact ⟨_, _, h, w', F, _, r, .value r, this.2, this.1, .inl rfl, e1, by simp [isMake]⟩
  · -- a slice without spare room in memory that nobody writes
    rename_i e' l cl
    obtain ⟨rfl, rfl, hm, hroom, h⟩ := h
    have hlen : (l ++ xs).length = l.length + xs.length := by simp
    rcases hel with ⟨rfl, _⟩ | ⟨_, b', off', c', news, hv, hseg, hnl, hfn⟩
    · simp at hm
    rcases hs with ⟨ad0, c0, v1, rfl, had, hc0⟩ | ⟨b, off, cap, cs, v1, h2, h3, h4, h5, h6⟩
    · obtain rfl := hc0 rfl
      obtain ⟨r, w', e1, e2, e3⟩ := run' (b := 0) (off := 0) (olds := []) v1 (by cases ad0 with | none => exact .inl ⟨rfl, rfl, rfl, rfl⟩ | some ad => exact .inr (.inr ⟨ad, rfl, rfl, rfl⟩)) (by simp) hv hnl hseg hm (by omega) (by simpa using hroom)
      have := new_row hR e3 (l := [] ++ xs) (xs := [] ++ news) (by simpa using e2) (by simpa using hfn.mono (fun _ x => x) (hFw e3))
      refine ⟨_, _, h, w', F, _, r, .value r, ?_, this.1, .inl rfl, e1, by simp [isMake]⟩
      simpa using this.2
    · have hcap := h3 rfl
      subst hcap
      have hol := h6.len hP.sized
      rw [szs_replicate] at hol
      obtain ⟨r, w', e1, e2, e3⟩ := run' v1 (.inr (.inl ⟨rfl, h5⟩)) hol hv hnl hseg hm (by omega) hroom
      have := new_row hR e3 (l := l ++ xs) (by rw [hlen]; exact e2) (by
        rw [hlen, ← List.replicate_append_replicate]
        exact (h6.mono (fun _ x => x) (hFw e3)).append (hfn.mono (fun _ x => x) (hFw e3)))
      rw [hlen] at this
      exact ⟨_, _, h, w', F, _, r, .value r, this.2, this.1, .inl rfl, e1, by simp [isMake]⟩
  · exact h.elim

/-- An append to a slice without spare room leaves all that was there. -/
theorem appendA_below (hP : TabOk P T) (hR : Rel T w F ρ w0 σ a.tmps outs) {t e : TypeId} (ht : T.ty t = .slice e) {c : Call} {s x : Operand} (hc : c.callee = .builtin .append) (hca : c.args = #[s, x]) (hct : c.argTypes = #[t, t])
    {es ex : E} {K : St → E → Prop} (hs : ERel T w F ρ es (a.eval s)) (hx : ERel T w F ρ ex (a.eval x)) (hf : freshA es = true) (h : appendA T σ e es ex K) : ∃ nx w', (∀ o : Oper, o.op = .call c → (execOp a.eval o).run P w = .ok nx w') ∧ Below w.heap.size w w' := by
  have run : ∀ (r : Value) (w' : World), (∀ ty, (Builtin.append_ #[t, t] ty #[a.eval s, a.eval x]).run P w = .ok r w') → ∀ o : Oper, o.op = .call c → (execOp a.eval o).run P w = .ok (.value r) w' := by
    intro r w' h1 o ho
    simp [execOp, ho, resolve, hc, hca, hct, invoke, builtin, h1 o.type]
  unfold appendA at h
  split at h; · exact h.elim
  rename_i xs hxs
  have hel : (xs = [] ∧ ∃ ad c', a.eval x = .slice ad 0 c') ∨ (0 < xs.length ∧ ∃ b' off' c' news, a.eval x = .slice (some ⟨b', off', none⟩) xs.length c' ∧ Seg w b' off' news ∧ news.length = xs.length * T.sz e) := by
    rcases elems_of hP hR hx hxs with ⟨⟨ad0, c0, h1⟩, h2⟩ | ⟨b, off, cap, cs, F1, h1, h2, h3, h4⟩
    · exact .inl ⟨h2, ad0, c0, h1⟩
    · by_cases hm : xs.length = 0
      · rw [hm] at h1
        exact .inl ⟨List.eq_nil_of_length_eq_zero hm, _, _, h1⟩
      · have hsz := h3.len hP.sized
        rw [szs_replicate] at hsz
        exact .inr ⟨by omega, b, off, cap, cs, h1, h2, hsz⟩
  split at h
  · simp [freshA] at hf
  · obtain ⟨hroom, h⟩ := h
    have hs' : a.eval s = .slice none 0 0 := hs
    rcases hel with ⟨rfl, ad, c', hv⟩ | ⟨hm, b', off', c', news, hv, hseg, hnl⟩
    · refine ⟨.value (.slice none 0 0), w, run (.slice none 0 0) w fun ty => ?_, Below.refl _ _⟩
      rw [hs', hv]
      exact append_none hP ht (Nat.le_refl 0) (.inr rfl) w
    · obtain ⟨r, w', h1, h2, h3⟩ := append_new (ty := 0) (b := 0) (off := 0) (n := 0) (cap := 0) hP ht (olds := []) (.inl ⟨rfl, rfl, rfl, rfl⟩) (by simp) hnl hseg (c := c') hm (by omega) (by simpa using hroom)
      exact ⟨_, w', run r w' (fun ty => by rw [hs', hv]; exact h1), h3⟩
  · rename_i e' l cl
    obtain ⟨rfl, rfl, hm, hroom, h⟩ := h
    rcases hel with ⟨rfl, _⟩ | ⟨_, b', off', c', news, hv, hseg, hnl⟩
    · simp at hm
    rcases hs with ⟨ad0, c0, v1, rfl, had, hc0⟩ | ⟨b, off, cap, cs, v1, h2, h3, h4, h5, h6⟩
    · obtain rfl := hc0 rfl
      obtain ⟨r, w', h1, h2, h3⟩ := append_new (ty := 0) (b := 0) (off := 0) (n := 0) (cap := 0) (base := ad0) hP ht (olds := []) (by cases ad0 with | none => exact .inl ⟨rfl, rfl, rfl, rfl⟩ | some ad => exact .inr (.inr ⟨ad, rfl, rfl, rfl⟩)) (by simp) hnl hseg (c := c') hm (by omega) (by simpa using hroom)
      exact ⟨_, w', run r w' (fun ty => by rw [v1, hv]; exact h1), h3⟩
    · have hcap := h3 rfl
      subst hcap
      have hol := h6.len hP.sized
      rw [szs_replicate] at hol
      obtain ⟨r, w', g1, g2, g3⟩ := append_new (ty := 0) (n := l.length) (cap := l.length) hP ht (.inr (.inl ⟨rfl, h5⟩)) hol hnl hseg (c := c') hm (by omega) hroom
      exact ⟨_, w', run r w' (fun ty => by rw [v1, hv]; exact g1), g3⟩
  · exact h.elim

end Go.Eng
