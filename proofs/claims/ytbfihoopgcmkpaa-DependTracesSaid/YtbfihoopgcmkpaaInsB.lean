/- slices.Insert of one element into a row of one's own. -/
import Derived.Test.YtbfihoopgcmkpaaInsA
namespace Go.Eng
set_option linter.unusedSimpArgs false
set_option linter.unusedVariables false
open Go.RowKit Go.Lib
variable {P : Program} {w : World}

theorem setCells_row (b o : Nat) (vs : List Value) (w : World) {cur : Array Value} {ct : TypeId} (hh : w.heap[b]? = some (.cells cur ct (0, 0))) (hl : o + vs.length ≤ cur.size) (h1 : ∀ v ∈ vs, v.oneCell' = true) :
    w.setCells b o vs = w.setRow b (splice cur.toList o vs).toArray := by
  have e1 := run_storeCells_at (P := Go.Proofs.Try.prog) b o ct vs 0 cur w hh (by omega) h1
  have hc : ∀ j, j < vs.length → w.cell? ⟨b, o + 0 + j, none⟩ = some (cur[o + j]?.getD undef) := fun j hj => by
    simp [World.cell?, hh, Array.getElem?_eq_getElem (show o + j < cur.size by omega)]
  have e2 := run_storeCells_cells (P := Go.Proofs.Try.prog) b o vs 0 w (fun j hj => by rw [hc j hj]; rfl) (fun j hj => by simp [World.frozen?, hh]) h1
  rw [e1] at e2
  simp only [Nat.add_zero] at e2
  have := (Result.ok.inj e2).2
  rw [← this]
  rfl

theorem setRow_size (w : World) (g : Nat) (cs : Array Value) : (w.setRow g cs).heap.size = w.heap.size := by simp [World.setRow]

namespace Try
open Go.Proofs

/-- What Insert does to a row of one's own. -/
theorem insert_own {n0 : Nat} {v : Value} {n i : Nat} {xs vs : List Value} (hb0 : n0 ≤ w.heap.size) (hown : w.ownsRow n0 27 3 v n xs) (hi : i ≤ n) (hbig : (n + 1) * 24 ≤ 140737488355328)
    {vb vc : Nat} {curv : Array Value} {ct : TypeId} (hvb : w.heap[vb]? = some (.cells curv ct (0, 0))) (hvs : Seg w vb 0 vs) (hvl : vs.length = 3) (hne : v.ownBlock ≠ some vb) (h1x : ∀ u ∈ xs, u.oneCell' = true) (h1v : ∀ u ∈ vs, u.oneCell' = true) :
    Calls Try.prog 32 #[v, .int .i64 i, .slice (some ⟨vb, 0, none⟩) 1 vc] w fun e w' => ∃ r, e = .returned r ∧ w'.ownsRow n0 27 3 r (n + 1) (xs.take (i * 3) ++ vs ++ xs.drop (i * 3)) ∧
      (∀ k, k < w.heap.size → v.ownBlock ≠ some k → w'.heap[k]? = w.heap[k]?) ∧ w.heap.size ≤ w'.heap.size ∧ w'.os = w.os ∧ w'.tape = w.tape ∧ w'.output = w.output ∧
      (∀ b, r.ownBlock = some b → v.ownBlock = some b ∨ (w.heap.size ≤ b ∧ b < w'.heap.size)) := by
  have hP := Eng.Try.ok
  have ht := Eng.Try.ty22
  have hvs0 : ∀ j u, vs[j]? = some u → w.cell? ⟨vb, 0 + j, none⟩ = some u := hvs
  have hnl : vs.length = 1 * tab.sz 27 := by rw [hvl]; rfl
  have hxl := hown.1
  by_cases hin : i = n
  · -- an append
    subst hin
    have hx1 : xs.take (i * 3) = xs := List.take_of_length_le (by omega)
    have hx2 : xs.drop (i * 3) = [] := List.drop_eq_nil_of_le (by omega)
    rw [hx1, hx2, List.append_nil]
    rcases hown.2 with ⟨rfl, rfl⟩ | ⟨g, cap, cur, rfl, hg, hh, hcap, hmax, hsz, htk⟩
    · obtain ⟨r, w', e1, e2, e3⟩ := append_new (w := w) (ty := 22) hP ht (b := 0) (off := 0) (n := 0) (cap := 0) (olds := []) (.inl ⟨rfl, rfl, rfl, rfl⟩) (by simp) hnl hvs (c := vc) (by decide) (by decide) (by simp [roomFor, maxLen, by27])
      have e1' : ∀ ty, (Builtin.append_ #[22, 22] ty #[.slice none 0 0, .slice (some ⟨vb, 0, none⟩) 1 vc]).run Try.prog w = .ok r w' := fun ty => e1
      refine (insert_end none 0 0 vb 0 vc w (by omega) (by decide) (fun _ => ⟨rfl, rfl⟩) r w' e1').mono ?_
      rintro e w1 ⟨rfl, rfl⟩
      have hx : xs = [] := List.eq_nil_of_length_eq_zero (by omega)
      subst hx
      exact ⟨r, rfl, ownsRow_base e2 hb0, fun k hk _ => e3.block k hk, e3.size, e3.os, e3.tape, e3.output, fun b hb => .inr (e2.lt b hb)⟩
    · by_cases hroom : i + 1 ≤ cap
      · obtain ⟨hu, hno⟩ := hP.slice _ _ ht
        obtain ⟨i0, i1, i2, _⟩ := hP.info 27 hno
        have i2 : i0.size = 3 := i2
        have hrun := fun ty => run_append_room (P := Try.prog) w 22 ty 27 i0 hu i1 g i cap cur hh ⟨vb, 0, none⟩ 1 vc vs (by rw [hvl, i2]) (fun j u hu => by rw [addr_add]; exact hvs j u hu) h1v hroom (by rw [i2, hvl, hsz]; omega)
        simp only [i2] at hrun
        refine (insert_end (some ⟨g, 0, none⟩) i cap vb 0 vc w hcap hmax (fun h => by cases h) _ _ hrun).mono ?_
        rintro e w1 ⟨rfl, rfl⟩
        refine ⟨_, rfl, ⟨by rw [List.length_append]; omega, .inr ⟨g, cap, _, rfl, hg, setRow_heap w g cur _ 27 _ hh, hroom, hmax, ?_, ?_⟩⟩, fun k hk hkg => setRow_other w g k _ (fun e => hkg (by rw [e]; rfl)), by simp [World.setRow], rfl, rfl, rfl, fun b hb => .inl (by simpa [Value.ownBlock] using hb)⟩
        · have : cur.toList.length = cap * 3 := by simpa using hsz
          simp only [List.size_toArray, List.length_append, List.length_take, List.length_drop]
          omega
        · rw [← htk]
          have hl2 : (cur.toList.take (i * 3) ++ vs).length = (i + 1) * 3 := by rw [htk, List.length_append]; omega
          rw [← hl2]
          exact List.take_left
      · have hseg0 : Seg w g 0 xs := by
          have := seg_of_cells (w := w) hh 0 (i * 3)
          rw [List.drop_zero, htk] at this
          exact this
        obtain ⟨r, w', e1, e2, e3⟩ := append_new (w := w) (ty := 22) hP ht (cap := cap) (.inr ⟨rfl, hseg0⟩) hxl hnl hvs (c := vc) (by decide) (by omega) (by simp only [roomFor, maxLen, by27]; omega)
        refine (insert_end (some ⟨g, 0, none⟩) i cap vb 0 vc w hcap hmax (fun h => by cases h) r w' (fun ty => e1)).mono ?_
        rintro e w1 ⟨rfl, rfl⟩
        exact ⟨r, rfl, ownsRow_base e2 hb0, fun k hk _ => e3.block k hk, e3.size, e3.os, e3.tape, e3.output, fun b hb => .inr (e2.lt b hb)⟩
  · rcases hown.2 with ⟨rfl, rfl⟩ | ⟨g, cap, cur, rfl, hg, hh, hcap, hmax, hsz, htk⟩
    · omega
    have hcl : cur.toList.length = cap * 3 := by simpa using hsz
    have hgv : vb ≠ g := fun e => hne (by rw [e]; rfl)
    have hseg0 : Seg w g 0 xs := by
      have := seg_of_cells (w := w) hh 0 (n * 3)
      rw [List.drop_zero, htk] at this
      exact this
    have hcs : ∀ j u, xs[j]? = some u → w.cell? ⟨g, j, none⟩ = some u := fun j u hu => by have := hseg0 j u hu; rwa [Nat.zero_add] at this
    by_cases hroom : n + 1 ≤ cap
    · have hcell : ∀ j, j < (n + 1) * 3 → w.cell? ⟨g, j, none⟩ = some (cur[j]?.getD undef) := fun j hj => by
        simp [World.cell?, hh, Array.getElem?_eq_getElem (show j < cur.size by omega)]
      have hvsz : curv.size ≠ 0 := by
        intro h0
        have := hvs 0 (vs[0]'(by omega)) (List.getElem?_eq_getElem (by omega))
        simp [World.cell?, hvb, h0] at this
      refine (insert_shift g n cap i vb 0 vc xs vs w (by omega) hroom hmax hgv hxl hvl hcs (fun j hj => by rw [hcell j hj]; rfl) (fun j hj => by simp [World.frozen?, hh]) hvs0 h1x h1v ct 27 curv.size cur.size
        (by simp [World.shape?, hvb]) (by simp [World.shape?, hh]) (by omega) (by simp [World.frozen?, hvb]) (by simp [World.frozen?, hvb])).mono ?_
      rintro e w1 ⟨rfl, rfl⟩
      have hdl : (xs.drop (i * 3)).length = (n - i) * 3 := by rw [List.length_drop, hxl]; omega
      have hhd : w.drew.heap[g]? = some (.cells cur 27 (0, 0)) := hh
      have q1 := setCells_row g ((i + 1) * 3) (xs.drop (i * 3)) w.drew hhd (by omega) (fun u hu => h1x u (List.mem_of_mem_drop hu))
      have hs1 : (splice cur.toList ((i + 1) * 3) (xs.drop (i * 3))).length = cap * 3 := by rw [splice_length _ _ _ (by omega)]; exact hcl
      have hh1 := setRow_heap w.drew g cur (splice cur.toList ((i + 1) * 3) (xs.drop (i * 3))).toArray 27 _ hhd
      have q2 := setCells_row g (i * 3) vs _ hh1 (by simp only [List.size_toArray]; omega) h1v
      rw [q1, q2]
      refine ⟨_, rfl, ⟨by simp only [List.length_append, List.length_take, List.length_drop]; omega, .inr ⟨g, cap, _, rfl, hg, setRow_heap _ g _ _ 27 _ hh1, hroom, hmax, ?_, ?_⟩⟩, ?_, by rw [setRow_size, setRow_size]; exact Nat.le_refl _, rfl, rfl, rfl, fun b hb => .inl (by simpa [Value.ownBlock] using hb)⟩
      · simp only [List.size_toArray]
        rw [splice_length _ _ _ (Nat.le_trans (by omega) (Nat.le_of_eq hs1.symm))]
        exact hs1
      · have hx : xs = cur.toList.take (n * 3) := htk.symm
        subst hx
        simp only [splice, List.toList_toArray]
        have hl : cur.toList.length = cap * 3 := hcl
        generalize cur.toList = c at hl
        have a1 : List.take (i * 3) (List.take ((i + 1) * 3) c ++ List.drop (i * 3) (List.take (n * 3) c) ++ List.drop ((i + 1) * 3 + (List.drop (i * 3) (List.take (n * 3) c)).length) c) = List.take (i * 3) (List.take (n * 3) c) := by
          rw [List.append_assoc, List.take_append_of_le_length (by simp; omega), List.take_take, List.take_take]
          congr 1; omega
        have a2 : List.drop (i * 3 + vs.length) (List.take ((i + 1) * 3) c ++ List.drop (i * 3) (List.take (n * 3) c) ++ List.drop ((i + 1) * 3 + (List.drop (i * 3) (List.take (n * 3) c)).length) c) = List.drop (i * 3) (List.take (n * 3) c) ++ List.drop ((n + 1) * 3) c := by
          rw [List.append_assoc, List.drop_append, List.drop_eq_nil_of_le (by simp; omega), List.nil_append]
          have e1 : (List.take ((i + 1) * 3) c).length = (i + 1) * 3 := by simp; omega
          have e2 : (List.drop (i * 3) (List.take (n * 3) c)).length = (n - i) * 3 := by simp; omega
          rw [e1, e2, hvl, show i * 3 + 3 - (i + 1) * 3 = 0 by omega, List.drop_zero, show (i + 1) * 3 + (n - i) * 3 = (n + 1) * 3 by omega]
        rw [a1, a2]
        have a3 : (List.take (i * 3) (List.take (n * 3) c) ++ vs ++ List.drop (i * 3) (List.take (n * 3) c)).length = (n + 1) * 3 := by simp; omega
        rw [← List.append_assoc, List.take_append_of_le_length (by omega), List.take_of_length_le (by omega)]
      · intro k hk hkg
        have hkg' : k ≠ g := fun e => hkg (by rw [e]; rfl)
        rw [setRow_other _ g k _ hkg', setRow_other _ g k _ hkg']
        rfl
    · refine (insert_grow g n cap i vb 0 vc xs vs w (by omega) hcap (by omega) hbig hxl hvl hcs hvs0 h1x h1v).mono ?_
      rintro e w1 ⟨z, hz, rfl, rfl⟩
      have hge := grownCap_ge w (n + 1) cap 27
      have hcm := grownCap_le_maxLen w (n + 1) cap 27 (by unfold maxLen; omega)
      generalize hG : grownCap w (n + 1) cap 27 = G at hge hcm
      obtain ⟨ROW, hROW⟩ : ∃ ROW : Array Value, ROW = (xs.take (i * 3)).toArray ++ Builtin.zeroCells z (n + 1 - i) ++ Builtin.zeroCells z (G - (n + 1)) := ⟨_, rfl⟩
      rw [← hROW]
      have hRl : ROW.size = G * 3 := by
        rw [hROW]
        simp only [Array.size_append, size_zeroCells, hz, List.size_toArray, List.length_take, hxl]
        have : min (i * 3) (n * 3) = i * 3 := by omega
        omega
      have hRt : ROW.toList.take (i * 3) = xs.take (i * 3) := by
        rw [hROW]
        simp only [Array.toList_append, List.append_assoc]
        rw [List.take_append_of_le_length (by simp only [List.length_take]; omega), List.take_of_length_le (by simp only [List.length_take]; omega)]
      have hh0 : (w.alloc (.cells ROW 27)).drew.heap[w.heap.size]? = some (.cells ROW 27 (0, 0)) := heap_alloc_new w _
      have hRl' : ROW.toList.length = G * 3 := by simpa using hRl
      have hdl : (xs.drop (i * 3)).length = (n - i) * 3 := by rw [List.length_drop, hxl]; omega
      have q1 := setCells_row w.heap.size (i * 3) vs _ hh0 (by omega) h1v
      have hs1 : (splice ROW.toList (i * 3) vs).length = G * 3 := by rw [splice_length _ _ _ (by omega)]; exact hRl'
      have hh1 : (((w.alloc (.cells ROW 27)).drew.setRow w.heap.size (splice ROW.toList (i * 3) vs).toArray).drew).heap[w.heap.size]? = some (.cells (splice ROW.toList (i * 3) vs).toArray 27 (0, 0)) := setRow_heap _ w.heap.size ROW _ 27 _ hh0
      have q2 := setCells_row w.heap.size ((i + 1) * 3) (xs.drop (i * 3)) _ hh1 (by simp only [List.size_toArray]; omega) (fun u hu => h1x u (List.mem_of_mem_drop hu))
      rw [q1, q2]
      have hsz1 : ((((w.alloc (.cells ROW 27)).drew.setRow w.heap.size (splice ROW.toList (i * 3) vs).toArray).drew).setRow w.heap.size (splice (splice ROW.toList (i * 3) vs).toArray.toList ((i + 1) * 3) (xs.drop (i * 3))).toArray).heap.size = w.heap.size + 1 := by
        rw [setRow_size]
        show (World.setRow _ _ _).heap.size = _
        rw [setRow_size]
        show (w.heap.push _).size = _
        simp
      refine ⟨_, rfl, ⟨by simp only [List.length_append, List.length_take, List.length_drop]; omega, .inr ⟨w.heap.size, G, _, rfl, hb0, setRow_heap _ _ _ _ 27 _ hh1, hge, hcm, ?_, ?_⟩⟩, ?_, by rw [hsz1]; omega, rfl, rfl, rfl, fun b hb => .inr ?_⟩
      · simp only [List.size_toArray]
        rw [splice_length _ _ _ (Nat.le_trans (by omega) (Nat.le_of_eq hs1.symm))]
        exact hs1
      · simp only [splice, List.toList_toArray]
        rw [hRt]
        have b1 : List.take ((i + 1) * 3) (List.take (i * 3) xs ++ vs ++ List.drop (i * 3 + vs.length) ROW.toList) = List.take (i * 3) xs ++ vs := by
          have : (List.take (i * 3) xs ++ vs).length = (i + 1) * 3 := by simp; omega
          rw [← this]
          exact List.take_left
        rw [b1]
        have b2 : (List.take (i * 3) xs ++ vs ++ List.drop (i * 3) xs).length = (n + 1) * 3 := by simp; omega
        rw [← b2]
        exact List.take_left
      · intro k hk _
        have hkg' : k ≠ w.heap.size := by omega
        rw [setRow_other _ _ k _ hkg']
        show ((w.alloc (.cells ROW 27)).drew.setRow w.heap.size _).heap[k]? = _
        rw [setRow_other _ _ k _ hkg']
        exact (below_alloc w _).block k hk
      · have hb : w.heap.size = b := Option.some.inj hb
        subst hb
        rw [hsz1]; omega
end Try
end Go.Eng
