/- The value of each operation that leaves the memory alone, and that the machine yields it. -/
import Derived.Test.YtbfihoopgcmkpaaEngD
namespace Go.Eng
set_option linter.unusedSimpArgs false
set_option linter.unusedVariables false
open Go.RowKit

variable {P : Program} {T : Tab} {w w' : World} {w0 : Base} {F : Nat → Prop} {ρ : Nat → RI}

def evalOptI (σ : St) (g : Bool) (x : Option Operand) (d : Int) (K : Int → Prop) : Prop := match x with
  | none => K d
  | some o => evalO σ g o fun e => match e with
    | .int _ n => K n
    | _ => False

def buildA (T : Tab) (σ : St) (g : Bool) (pt : Nat → Option TypeId) : List (Nat × Operand) → V → (V → Prop) → Prop
  | [], v, K => K v
  | (i, x) :: r, v, K => match pt i with
    | some t => evalO σ g x fun e => match toV T t e with
      | some y => buildA T σ g pt r (v.setSub i y) K
      | none => False
    | none => False

def pickA (σ : St) (g : Bool) (c a b : Operand) (K : E → Prop) : Prop :=
  evalO σ g c fun ec => match ec with
    | .bool cb => evalO σ (g && cb) a fun ea => evalO σ (g && !cb) b fun eb => match ea, eb with
      | .bool x, .bool y => K (.bool (bif cb then x else y))
      | .int k x, .int k' y => k' = k ∧ K (.int k (bif cb then x else y))
      | _, _ => False
    | _ => False

def loadA (T : Tab) (σ : St) (g : Bool) (t : TypeId) (e : E) (K : E → Prop) : Prop := match e with
  | .fptr t' v => t' = t ∧ K (fromV T t v)
  | .ptr i p t' => t' = t ∧ match σ.ob[i]? with
    | some (.var _ e) => match p with
      | [] => K e
      | _ :: _ => match e with
        | .data _ v => K (fromV T t (v.get p))
        | _ => False
    | _ => False
  | .rp i j p t' => t' = t ∧ match σ.ob[i]? with
    | some (.row _ l) => (g = true → j < l.length) ∧ K (fromV T t ((l.getD j default).get p))
    | some (.erow e' l) => (p = [] ∧ t' = e' ∧ (g = true → j < l.length)) ∧ K (l.getD j .undef)
    | _ => False
  | _ => False

def fieldAddrA (T : Tab) (s : TypeId) (k : Nat) (e : E) (K : E → Prop) : Prop := match T.ty s with
  | .struct ts => match ts[k]? with
    | some u => match e with
      | .ptr i p s' => s' = s ∧ K (.ptr i (k :: p) u)
      | .rp i j p s' => s' = s ∧ K (.rp i j (k :: p) u)
      | .fptr s' v => s' = s ∧ K (.fptr u (v.sub k))
      | _ => False
    | none => False
  | _ => False

def indexAddrA (T : Tab) (g : Bool) (t : TypeId) (x : E) (i : Int) (K : E → Prop) : Prop := match T.ty t with
  | .arr n e => (g = true → 0 ≤ i ∧ i < n) ∧ match x with
    | .ptr j p t' => t' = t ∧ K (.ptr j (i.toNat :: p) e)
    | .rp j m p t' => t' = t ∧ K (.rp j m (i.toNat :: p) e)
    | .fptr t' v => t' = t ∧ K (.fptr e (v.sub i.toNat))
    | _ => False
  | .slice e => match x with
    | .fs e' l _ => e' = e ∧ (g = true → 0 ≤ i ∧ i < l.length) ∧ K (.fptr e (l.getD i.toNat default))
    | .sl j e' lo len _ => e' = e ∧ (g = true → 0 ≤ i ∧ i < len) ∧ K (.rp j (lo + i.toNat) [] e)
    | _ => False
  | _ => False

def indexA (T : Tab) (g : Bool) (t : TypeId) (x : E) (i : Int) (K : E → Prop) : Prop := match T.ty t with
  | .arr n e => match x with
    | .data t' v => t' = t ∧ (g = true → 0 ≤ i ∧ i < n) ∧ K (fromV T e (v.sub i.toNat))
    | _ => False
  | .str => match x with
    | .str s => (g = true → 0 ≤ i ∧ i < s.size) ∧ K (.int .u8 ((s.data[i.toNat]?).getD 0).toNat)
    | _ => False
  | _ => False

def sliceA (T : Tab) (σ : St) (g : Bool) (t : TypeId) (x : E) (lo hi mx : Option Operand) (K : E → Prop) : Prop := match T.ty t with
  | .slice e => match x with
    | .fs e' l c => e' = e ∧ evalOptI σ g lo 0 fun a => evalOptI σ g hi l.length fun b => evalOptI σ g mx b fun m =>
        (g = true → 0 ≤ a ∧ a ≤ b ∧ b ≤ l.length ∧ (mx.isSome = true → b = m)) ∧
        K (.fs e ((l.drop a.toNat).take (b.toNat - a.toNat)) (mx.isSome || c && decide (b = l.length)))
    | .sl i e' l0 len c => e' = e ∧ evalOptI σ g lo 0 fun a => evalOptI σ g hi len fun b => evalOptI σ g mx b fun m =>
        (g = true → 0 ≤ a ∧ a ≤ b ∧ b ≤ len ∧ (mx.isSome = true → b = m)) ∧ (c = true → mx.isSome = true ∨ b = len) ∧
        K (.sl i e (l0 + a.toNat) (b.toNat - a.toNat) (mx.isSome || c && decide (b = len)))
    | _ => False
  | .arr n e => match x with
    | .fptr t' v => t' = t ∧ mx.isSome = false ∧ evalOptI σ g lo 0 fun a => evalOptI σ g hi n fun b =>
        (g = true → 0 ≤ a ∧ a ≤ b ∧ b ≤ n) ∧ K (.fs e ((v.toList.drop a.toNat).take (b.toNat - a.toNat)) (decide (b = n)))
    | _ => False
  | _ => False

def builtinA (T : Tab) (g : Bool) (b : Builtin) (ts : List TypeId) (xs : List E) (K : E → Prop) : Prop := match b, ts, xs with
  | .len, [t], [x] => match T.ty t with
    | .slice _ => match x with
      | .fs _ l _ => (g = true → l.length ≤ maxLen) ∧ K (.int .i64 l.length)
      | .sl _ _ _ n _ => (g = true → n ≤ maxLen) ∧ K (.int .i64 n)
      | .nilsl => K (.int .i64 0)
      | _ => False
    | .str => match x with
      | .str s => (g = true → s.size ≤ maxLen) ∧ K (.int .i64 s.size)
      | _ => False
    | _ => False
  | .min, _, [.int k a, .int k' b] => k' = k ∧ K (.int k (min a b))
  | .max, _, [.int k a, .int k' b] => k' = k ∧ K (.int k (max a b))
  | _, _, _ => False

/-- The value of an operation that leaves the memory alone. -/
def pureA (T : Tab) (σ : St) (g : Bool) (op : Op) (K : E → Prop) : Prop := match op with
  | .move x | .assign x => evalO σ g x K
  | .pick c a b => pickA σ g c a b K
  | .load t x => evalO σ g x fun e => loadA T σ g t e K
  | .nilCheck x => evalO σ g x fun e => match e with
    | .ptr .. | .rp .. | .fptr .. | .fn .. => K e
    | _ => False
  | .binOp op t x y _ => evalO σ g x fun a => evalO σ g y fun b => binA T op t g a b K
  | .unOp op _ x => evalO σ g x fun a => match op, a with
    | .not, .bool b => K (.bool (!b))
    | .neg, .int k n => K (.int k (k.wrap (0 - n)))
    | _, _ => False
  | .convert s d x => evalO σ g x fun a => match T.ty s, T.ty d, a with
    | .int _, .int k, .int _ n => K (.int k (k.wrap n))
    | _, _, _ => False
  | .makeFunc (.func f) first caps => first.size = 0 ∧ evalL σ g caps.toList fun es => K (.fn f es)
  | .slice t x lo hi mx => (mx.isSome && !hi.isSome) = false ∧ evalO σ g x fun e => sliceA T σ g t e lo hi mx K
  | .fieldAddr s x k => evalO σ g x fun e => fieldAddrA T s k e K
  | .field s x k => evalO σ g x fun e => match T.ty s, e with
    | .struct ts, .data s' v => s' = s ∧ match ts[k]? with
      | some u => K (fromV T u (v.sub k))
      | none => False
    | _, _ => False
  | .indexAddr t x i => evalO σ g x fun e => evalO σ g i fun ei => match ei with
    | .int _ n => indexAddrA T g t e n K
    | _ => False
  | .index t x i => evalO σ g x fun e => evalO σ g i fun ei => match ei with
    | .int _ n => indexA T g t e n K
    | _ => False
  | .extract x k => evalO σ g x fun e => match e with
    | .tup l => match l[k]? with
      | some e => K e
      | none => False
    | _ => False
  | .build t parts => match T.ty t with
    | .struct ts => buildA T σ g (fun k => ts[k]?) parts.toList (T.zero t) fun v => K (.data t v)
    | .arr n e => buildA T σ g (fun k => if k < n then some e else none) parts.toList (T.zero t) fun v => K (.data t v)
    | _ => False
  | .call c => match c.callee with
    | .builtin b => evalL σ g c.args.toList fun es => builtinA T g b c.argTypes.toList es K
    | _ => False
  | _ => False

/-- What is owed of an operation: a value, in every later world. -/
def Yields1 (P : Program) (T : Tab) (w : World) (F : Nat → Prop) (ρ : Nat → RI) (a : Act) (op : Op) (e : E) : Prop :=
  ∃ v, ERel T w F ρ e v ∧ ∀ w', Below w.heap.size w w' → ∀ o : Oper, o.op = op → (execOp a.eval o).run P w' = .ok (.value v) w'

def OptIs (a : Act) (x : Option Operand) (d n : Int) : Prop := match x with
  | none => n = d
  | some o => ∃ k, a.eval o = .int k n

theorem evalOptI_sound {σ : St} {a : Act} {outs : List (Array Value)} (hR : Rel T w F ρ w0 σ a.tmps outs) {g : Bool} {x : Option Operand} {d : Int} {K : Int → Prop} (h : evalOptI σ g x d K) :
    ∃ n, K n ∧ (g = true → OptIs a x d n) := by
  cases x with
  | none => exact ⟨d, h, fun _ => rfl⟩
  | some o =>
    obtain ⟨e, h1, h2⟩ := evalO_sound hR h
    split at h1
    · rename_i k n
      exact ⟨n, h1, fun hg => ⟨k, (h2 hg).1⟩⟩
    · exact h1.elim

end Go.Eng
