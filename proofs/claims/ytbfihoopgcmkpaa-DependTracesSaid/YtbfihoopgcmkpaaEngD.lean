/- Operations on numbers, truth values, texts and data: what they yield. -/
import Derived.Test.YtbfihoopgcmkpaaEngC
namespace Go.Eng
set_option linter.unusedSimpArgs false
set_option linter.unusedVariables false
open Go.RowKit

variable {P : Program} {T : Tab} {w w' : World} {w0 : Base} {F : Nat → Prop} {ρ : Nat → RI}

theorem wrap_has (k : IntKind) (n : Int) : k.has (k.wrap n) := by
  have h := k.bits.pow_le_pow_right
  unfold IntKind.has IntKind.min IntKind.max IntKind.wrap
  cases k <;> simp [IntKind.bits, IntKind.signed] <;> omega

theorem fdiv_has {k : IntKind} {a : Int} (h : k.has a) (n : Nat) : k.has (a.fdiv (2 ^ n)) := by
  have hp : (0 : Int) < 2 ^ n := Int.pow_pos (by omega)
  have h1 : (1 : Int) ≤ 2 ^ n := by omega
  rw [Int.fdiv_eq_ediv_of_nonneg _ (by omega)]
  have key : (0 ≤ a → 0 ≤ a / 2 ^ n ∧ a / 2 ^ n ≤ a) ∧ (a < 0 → a ≤ a / 2 ^ n ∧ a / 2 ^ n < 0) := by
    refine ⟨fun h0 => ⟨Int.ediv_nonneg h0 (by omega), Int.ediv_le_self _ h0⟩, fun h0 => ⟨?_, Int.ediv_neg_of_neg_of_pos h0 hp⟩⟩
    rw [Int.le_ediv_iff_mul_le hp]
    have : a * 2 ^ n ≤ a * 1 := Int.mul_le_mul_of_nonpos_left (by omega) h1
    omega
  unfold IntKind.has at *
  have hmin : k.min ≤ 0 := by cases k <;> simp [IntKind.min, IntKind.signed, IntKind.bits]
  have hmax : 0 ≤ k.max := by cases k <;> simp [IntKind.max, IntKind.signed, IntKind.bits]
  by_cases h0 : 0 ≤ a
  · have := key.1 h0; omega
  · have := key.2 (by omega); omega

theorem tmod_has {k : IntKind} {a : Int} (h : k.has a) (b : Int) : k.has (a.tmod b) := by
  unfold IntKind.has at *
  have hmin : k.min ≤ 0 := by cases k <;> simp [IntKind.min, IntKind.signed, IntKind.bits]
  have hmax : 0 ≤ k.max := by cases k <;> simp [IntKind.max, IntKind.signed, IntKind.bits]
  by_cases h0 : 0 ≤ a
  · have h1 := Int.tmod_nonneg b h0
    have h2 : a.tmod b ≤ a := by
      obtain ⟨n, rfl⟩ := Int.eq_ofNat_of_zero_le h0
      rw [← Int.natAbs_of_nonneg h1, Int.natAbs_tmod]
      exact Int.ofNat_le.2 (Nat.mod_le _ _)
    omega
  · have h1 : (-a).tmod b = -(a.tmod b) := Int.neg_tmod a b
    have h2 := Int.tmod_nonneg b (show 0 ≤ -a by omega)
    have h3 : (-a).tmod b ≤ -a := by
      obtain ⟨n, hn⟩ := Int.eq_ofNat_of_zero_le (show 0 ≤ -a by omega)
      rw [hn] at h2 ⊢
      rw [← Int.natAbs_of_nonneg h2, Int.natAbs_tmod]
      exact Int.ofNat_le.2 (Nat.mod_le _ _)
    omega

/-- Operations on two numbers of one kind: what they yield, and what they ask. -/
def arith (op : BinOp) (k : IntKind) (a b : Int) : Option (Prop × E) := match op with
  | .add => some (True, .int k (k.wrap (a + b)))
  | .sub => some (True, .int k (k.wrap (a - b)))
  | .mul => some (True, .int k (k.wrap (a * b)))
  | .quo => some (b ≠ 0, .int k (k.wrap (a.tdiv b)))
  | .rem => some (b ≠ 0, .int k (a.tmod b))
  | .and => some (True, .int k (k.wrap (BitVec.ofInt k.bits a &&& BitVec.ofInt k.bits b).toNat))
  | .or => some (True, .int k (k.wrap (BitVec.ofInt k.bits a ||| BitVec.ofInt k.bits b).toNat))
  | .xor => some (True, .int k (k.wrap (BitVec.ofInt k.bits a ^^^ BitVec.ofInt k.bits b).toNat))
  | .andNot => some (True, .int k (k.wrap (BitVec.ofInt k.bits a &&& ~~~BitVec.ofInt k.bits b).toNat))
  | .eql => some (True, .bool (decide (a = b)))
  | .neq => some (True, .bool (!decide (a = b)))
  | .lss => some (True, .bool (decide (a < b)))
  | .leq => some (True, .bool (decide (a ≤ b)))
  | .gtr => some (True, .bool (decide (b < a)))
  | .geq => some (True, .bool (decide (b ≤ a)))
  | _ => none

def shifts (op : BinOp) (k : IntKind) (a b : Int) : Option E := match op with
  | .shl => some (.int k (k.wrap (a * 2 ^ min b.toNat k.bits)))
  | .shr => some (.int k (a.fdiv (2 ^ min b.toNat k.bits)))
  | _ => none

mutual
def V.beq : V → V → Bool
  | .int a, .int b => decide (a = b)
  | .bool a, .bool b => a == b
  | .str a, .str b => a.toList == b.toList
  | .agg a, .agg b => V.beqL a b
  | _, _ => false
def V.beqL : List V → List V → Bool
  | [], [] => true
  | a :: as, b :: bs => V.beq a b && V.beqL as bs
  | _, _ => false
end

mutual
/-- Data that can be held against each other: no slices, no pointers. -/
def flatTy (T : Tab) : Nat → TypeId → Bool
  | 0, _ => false
  | d + 1, t => match T.ty t with
    | .int _ | .bool | .str => true
    | .struct ts => flatTys T d ts
    | .arr _ e => flatTy T d e
    | _ => false
def flatTys (T : Tab) : Nat → List TypeId → Bool
  | 0, _ => false
  | _ + 1, [] => true
  | d + 1, t :: ts => flatTy T d t && flatTys T d ts
end

/-- Shifts. -/
def shiftA (op : BinOp) (g : Bool) (x y : E) (K : E → Prop) : Prop := match x, y with
  | .int k a, .int _ b => match shifts op k a b with
    | some e => (g = true → 0 ≤ b) ∧ K e
    | none => False
  | _, _ => False

/-- '==' and '!=' by one truth value. -/
def eqA (op : BinOp) (r : Bool) (K : E → Prop) : Prop := match op with
  | .eql => K (.bool r)
  | .neq => K (.bool (!r))
  | _ => False

def plainA (T : Tab) (op : BinOp) (t : TypeId) (g : Bool) (x y : E) (K : E → Prop) : Prop := match x, y with
  | .int k a, .int k' b => k' = k ∧ match arith op k a b with
    | some (q, e) => (g = true → q) ∧ K e
    | none => False
  | .bool a, .bool b => T.ty t = .bool ∧ eqA op (a == b) K
  | .str a, .str b => eqA op (a.toList == b.toList) K
  | .data t' a, .data t'' b => t' = t ∧ t'' = t ∧ flatTy T 20 t = true ∧ eqA op (V.beq a b) K
  | _, _ => False

/-- Two operands of any kind. -/
def binA (T : Tab) (op : BinOp) (t : TypeId) (g : Bool) (x y : E) (K : E → Prop) : Prop := match op with
  | .shl | .shr => shiftA op g x y K
  | _ => plainA T op t g x y K

/-- What '==' of data says. -/
theorem part_run (hP : TabOk P T) {t : TypeId} {cs : Array Value} {off : Nat} {v : V} (h : Fits T w F t v ((cs.toList.drop off).take (T.sz t))) (W : World) :
    ∃ x, (part t cs off).run P W = .ok x W ∧ ValOf T t x ((cs.toList.drop off).take (T.sz t)) := by
  have ht := h.notOther
  have hl := h.len hP.sized
  unfold part
  rw [Sem.run_bind, run_isAgg hP ht]
  simp only [Result.andThen_ok]
  by_cases hA : (T.ty t).isAgg = true
  · rw [if_pos hA, Sem.run_bind, run_sizeOf hP ht]
    refine ⟨_, rfl, ?_⟩
    unfold ValOf
    rw [if_pos hA]
    congr 1
    apply Array.ext'
    simp [Array.toList_extract, List.extract_eq_take_drop]
  · obtain ⟨x, hx⟩ := valOf_take hP.sized h
    rw [if_neg hA]
    unfold ValOf at hx ⊢
    rw [if_neg hA] at hx
    have : cs[off]? = some x := by
      have h0 : ((cs.toList.drop off).take (T.sz t))[0]? = some x := by rw [hx]; rfl
      rw [List.getElem?_take] at h0
      split at h0
      · simpa using h0
      · cases h0
    rw [this]
    exact ⟨x, rfl, by rw [if_neg hA]; exact hx⟩

theorem ValOf.cells {t : TypeId} {x : Value} {cs : List Value} (h : ValOf T t x cs) (h1 : (T.ty t).isAgg = false → x.oneCell' = true) : x.cells.toList = cs := by
  unfold ValOf at h
  split at h
  · rw [h]; rfl
  · rename_i hA
    rw [h]
    have := h1 (by simpa using hA)
    cases x <;> simp_all [Value.cells, Value.oneCell']

/-- '==' of the parts, one behind the other. -/
theorem eqFields_run (hP : TabOk P T) {D : Nat} {xs ys : Array Value} (W : World) : ∀ (fs : List Field) (ts : List TypeId) (l m : List V),
    fs.map (·.type) = ts → l.length = ts.length → m.length = ts.length →
    (∀ (j : Nat) (f : Field), fs[j]? = some f → (f.name == "_") = false ∧ ∀ x y : V, l[j]? = some x → m[j]? = some y →
      ∃ w1 F1 w2 F2, Fits T w1 F1 f.type x ((xs.toList.drop f.offset).take (T.sz f.type)) ∧ Fits T w2 F2 f.type y ((ys.toList.drop f.offset).take (T.sz f.type)) ∧
        ∀ a b, ValOf T f.type a ((xs.toList.drop f.offset).take (T.sz f.type)) → ValOf T f.type b ((ys.toList.drop f.offset).take (T.sz f.type)) →
          (Op.equalIn D f.type a b).run P W = .ok (V.beq x y) W) →
    (Op.eqFields D xs ys fs).run P W = .ok (V.beqL l m) W
  | [], ts, l, m, h1, h2, h3, _ => by
    subst h1
    cases l <;> cases m <;> simp_all [Op.eqFields, V.beqL]
  | f :: fs, ts, l, m, h1, h2, h3, h => by
    subst h1
    match l, m, h2, h3 with
    | x :: l, y :: m, h2, h3 =>
      obtain ⟨hn, h0⟩ := h 0 f rfl
      obtain ⟨w1, F1, w2, F2, fx, fy, he⟩ := h0 x y rfl rfl
      obtain ⟨a, pa, va⟩ := part_run hP fx W
      obtain ⟨b, pb, vb⟩ := part_run hP fy W
      have hn' : f.name ≠ "_" := by simpa using hn
      have := eqFields_run hP (D := D) (xs := xs) (ys := ys) W fs _ l m rfl (by simpa using h2) (by simpa using h3) (fun j g hg => h (j + 1) g (by simpa using hg))
      simp only [Op.eqFields, if_pos hn', Sem.run_bind, pa, pb, Result.andThen_ok, he a b va vb, V.beqL]
      cases V.beq x y <;> simp [this]

theorem eqItems_run (hP : TabOk P T) {D : Nat} {xs ys : Array Value} (W : World) {e : TypeId} {c : Nat} : ∀ (is : List Nat) (l m : List V), l.length = is.length → m.length = is.length →
    (∀ (j i : Nat), is[j]? = some i → ∀ x y : V, l[j]? = some x → m[j]? = some y →
      ∃ w1 F1 w2 F2, Fits T w1 F1 e x ((xs.toList.drop (i * c)).take (T.sz e)) ∧ Fits T w2 F2 e y ((ys.toList.drop (i * c)).take (T.sz e)) ∧
        ∀ a b, ValOf T e a ((xs.toList.drop (i * c)).take (T.sz e)) → ValOf T e b ((ys.toList.drop (i * c)).take (T.sz e)) →
          (Op.equalIn D e a b).run P W = .ok (V.beq x y) W) →
    (Op.eqItems D e c xs ys is).run P W = .ok (V.beqL l m) W
  | [], l, m, h2, h3, _ => by
    cases l <;> cases m <;> simp_all [Op.eqItems, V.beqL]
  | i :: is, l, m, h2, h3, h => by
    match l, m, h2, h3 with
    | x :: l, y :: m, h2, h3 =>
      obtain ⟨w1, F1, w2, F2, fx, fy, he⟩ := h 0 i rfl x y rfl rfl
      obtain ⟨a, pa, va⟩ := part_run hP fx W
      obtain ⟨b, pb, vb⟩ := part_run hP fy W
      have := eqItems_run hP (D := D) (xs := xs) (ys := ys) W is l m (by simpa using h2) (by simpa using h3) (fun j g hg => h (j + 1) g (by simpa using hg))
      simp only [Op.eqItems, Sem.run_bind, pa, pb, Result.andThen_ok, he a b va vb, V.beqL]
      cases V.beq x y <;> simp [this]

theorem flatTys_nth {d : Nat} : ∀ {ts : List TypeId}, flatTys T d ts = true → ∀ {k : Nat} {t : TypeId}, ts[k]? = some t → ∃ d', d' < d ∧ flatTy T d' t = true := by
  induction d with
  | zero => intro ts h; simp [flatTys] at h
  | succ d ih =>
    intro ts h k t hk
    cases ts with
    | nil => simp at hk
    | cons u ts =>
      simp only [flatTys, Bool.and_eq_true] at h
      cases k with
      | zero => simp at hk; subst hk; exact ⟨d, by omega, h.1⟩
      | succ k => obtain ⟨d', h1, h2⟩ := ih h.2 (k := k) (t := t) (by simpa using hk); exact ⟨d', by omega, h2⟩

theorem equalIn_run (hP : TabOk P T) (W : World) : ∀ (d : Nat) (t : TypeId), flatTy T d t = true → ∀ (D : Nat), d ≤ D → ∀ {w1 w2 : World} {F1 F2 : Nat → Prop} {u v : V} {x y : Value} {xs ys : List Value},
    Fits T w1 F1 t u xs → Fits T w2 F2 t v ys → ValOf T t x xs → ValOf T t y ys → (Op.equalIn D t x y).run P W = .ok (V.beq u v) W := by
  intro d
  induction d using Nat.strongRecOn with
  | _ d ih =>
    intro t hf D hD w1 w2 F1 F2 u v x y xs ys hx hy vx vy
    cases d with
    | zero => simp [flatTy] at hf
    | succ d =>
      obtain ⟨D, rfl⟩ : ∃ m, D = m + 1 := ⟨D - 1, by omega⟩
      unfold flatTy at hf
      unfold ValOf at vx vy
      split at hf
      · rename_i k hk
        obtain ⟨a, rfl, _, rfl⟩ := hx.inv' hk
        obtain ⟨b, rfl, _, rfl⟩ := hy.inv' hk
        simp [hk, TyD.isAgg] at vx vy
        subst vx; subst vy
        rw [run_equalIn_int W D t k k a b (hP.int _ _ hk)]
        simp only [V.beq]
        congr 1
      · rename_i hk
        obtain ⟨a, rfl, rfl⟩ := hx.inv' hk
        obtain ⟨b, rfl, rfl⟩ := hy.inv' hk
        simp [hk, TyD.isAgg] at vx vy
        subst vx; subst vy
        rw [run_equalIn_bool W D t a b (hP.bool _ hk)]
        simp only [V.beq]
      · rename_i hk
        obtain ⟨a, rfl, rfl⟩ := hx.inv' hk
        obtain ⟨b, rfl, rfl⟩ := hy.inv' hk
        simp [hk, TyD.isAgg] at vx vy
        subst vx; subst vy
        rw [run_equalIn_string W D t a b (hP.str _ hk)]
        simp only [V.beq]
      · rename_i ts hk
        obtain ⟨l, rfl, fl⟩ := hx.inv' hk
        obtain ⟨m, rfl, fm⟩ := hy.inv' hk
        simp [hk, TyD.isAgg] at vx vy
        subst vx; subst vy
        obtain ⟨fs, hu, hts, hh, ho⟩ := hP.struct _ _ hk
        have hfo : P.fieldsOf t = fs := by simp [Program.fieldsOf, hu]
        rw [run_equalIn_struct W D t _ _ (by rw [hfo]; exact hu) hh, hfo]
        simp only [V.beq]
        refine eqFields_run hP W fs.toList ts l m hts fl.lens fm.lens (fun j f hj => ?_)
        have hj' : fs[j]? = some f := by simpa using hj
        obtain ⟨o1, o2, o3, _⟩ := ho j f hj'
        have htj : ts[j]? = some f.type := by rw [← hts]; simp [hj']
        refine ⟨o3, fun a b ha hb => ?_⟩
        have na := fl.nth hP.sized htj
        have nb := fm.nth hP.sized htj
        have ea : l.getD j default = a := by simp [List.getD_eq_getElem?_getD, ha]
        have eb : m.getD j default = b := by simp [List.getD_eq_getElem?_getD, hb]
        rw [ea] at na
        rw [eb] at nb
        obtain ⟨d', hd', hfd⟩ := flatTys_nth hf htj
        rw [o1]
        exact ⟨w1, F1, w2, F2, na, nb, fun p q hp hq => ih d' (by omega) f.type hfd D (by omega) na nb hp hq⟩
      · rename_i n e hk
        obtain ⟨l, rfl, fl⟩ := hx.inv' hk
        obtain ⟨m, rfl, fm⟩ := hy.inv' hk
        simp [hk, TyD.isAgg] at vx vy
        subst vx; subst vy
        obtain ⟨hu, hn, he, hne'⟩ := hP.arr _ _ _ hk
        obtain ⟨i, hi, hs, _⟩ := hP.info e hne'
        have hc : P.cellsOf e = T.sz e := by simp [Program.cellsOf, hi, hs]
        rw [run_equalIn_array W D _ _ hu hi, hc]
        simp only [V.beq]
        have hl := fl.lens
        have hm := fm.lens
        refine eqItems_run hP W (List.range n) l m (by simpa using hl) (by simpa using hm) (fun j i hj a b ha hb => ?_)
        have hjn : j < n := by
          have := (List.getElem?_eq_some_iff.1 hj).1
          simpa using this
        have hji : i = j := by simpa [hjn] using hj.symm
        subst hji
        have htj : (List.replicate n e)[i]? = some e := by simp [hjn]
        have na := fl.nth hP.sized htj
        have nb := fm.nth hP.sized htj
        rw [offs_replicate T n i e (by omega)] at na nb
        have ea : l.getD i default = a := by simp [List.getD_eq_getElem?_getD, ha]
        have eb : m.getD i default = b := by simp [List.getD_eq_getElem?_getD, hb]
        rw [ea] at na
        rw [eb] at nb
        exact ⟨w1, F1, w2, F2, na, nb, fun p q hp hq => ih d (by omega) e hf D (by omega) na nb hp hq⟩
      · cases hf

theorem arith_run {op : BinOp} {k : IntKind} {a b : Int} {q : Prop} {e : E} (h : arith op k a b = some (q, e)) (hq : q) (ha : k.has a) (t : TypeId) (W : World) (hop : op ≠ .shl ∧ op ≠ .shr) :
    ∃ v, ERel T w F ρ e v ∧ (binOp op t (.int k a) (.int k b)).run P W = .ok v W := by
  cases op <;> simp only [arith, Option.some.injEq, Prod.mk.injEq, reduceCtorEq] at h <;> try (exact absurd rfl hop.1) <;> try (exact absurd rfl hop.2)
  all_goals obtain ⟨rfl, rfl⟩ := h
  case add => exact ⟨_, ⟨rfl, wrap_has _ _⟩, by simp [binOp, Op.intArith]⟩
  case sub => exact ⟨_, ⟨rfl, wrap_has _ _⟩, by simp [binOp, Op.intArith]⟩
  case mul => exact ⟨_, ⟨rfl, wrap_has _ _⟩, by simp [binOp, Op.intArith]⟩
  case quo => exact ⟨_, ⟨rfl, wrap_has _ _⟩, by simp [binOp, Op.intDiv, hq]⟩
  case rem => exact ⟨_, ⟨rfl, tmod_has ha b⟩, by simp [binOp, Op.intDiv, hq]⟩
  case and => exact ⟨_, ⟨rfl, wrap_has _ _⟩, by simp [binOp, Op.intBits]⟩
  case or => exact ⟨_, ⟨rfl, wrap_has _ _⟩, by simp [binOp, Op.intBits]⟩
  case xor => exact ⟨_, ⟨rfl, wrap_has _ _⟩, by simp [binOp, Op.intBits]⟩
  case andNot => exact ⟨_, ⟨rfl, wrap_has _ _⟩, by simp [binOp, Op.intBits]⟩
  case eql => exact ⟨_, rfl, by simp [binOp, Op.intCmp]; rfl⟩
  case neq => exact ⟨_, rfl, by simp [binOp, Op.intCmp]; rfl⟩
  case lss => exact ⟨_, rfl, by simp [binOp, Op.intCmp]⟩
  case leq => exact ⟨_, rfl, by simp [binOp, Op.intCmp]⟩
  case gtr => exact ⟨_, rfl, by simp [binOp, Op.intCmp]⟩
  case geq => exact ⟨_, rfl, by simp [binOp, Op.intCmp]⟩

theorem shifts_run {op : BinOp} {k k' : IntKind} {a b : Int} {e : E} (h : shifts op k a b = some e) (hb : 0 ≤ b) (ha : k.has a) (t : TypeId) (W : World) :
    ∃ v, ERel T w F ρ e v ∧ (binOp op t (.int k a) (.int k' b)).run P W = .ok v W := by
  have hb' : ¬ b < 0 := by omega
  cases op <;> simp only [shifts, Option.some.injEq, reduceCtorEq] at h
  all_goals subst h
  case shl => exact ⟨_, ⟨rfl, wrap_has _ _⟩, by simp [binOp, Op.shift, hb']⟩
  case shr => exact ⟨_, ⟨rfl, fdiv_has ha _⟩, by simp [binOp, Op.shift, hb']⟩

end Go.Eng
