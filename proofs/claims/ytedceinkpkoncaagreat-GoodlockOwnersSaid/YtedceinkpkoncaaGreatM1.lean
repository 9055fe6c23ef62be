/- What the functions of package goodlock compute. -/
import Derived.Test.YtedceinkpkoncaaGreatE3
namespace Go.Eng
set_option linter.unusedSimpArgs false
set_option linter.unusedVariables false

structure Edge where
  from_ : Int
  to_ : Int
  go : Int
  event : Int
  deriving DecidableEq, Inhabited
def Edge.v (e : Edge) : V := .agg [.int e.from_, .int e.to_, .int e.go, .int e.event]
theorem Edge.v0 (e : Edge) : e.v.toList.getD 0 default = .int e.from_ := rfl
theorem Edge.v1 (e : Edge) : e.v.toList.getD 1 default = .int e.to_ := rfl
theorem Edge.v2 (e : Edge) : e.v.toList.getD 2 default = .int e.go := rfl
theorem Edge.v3 (e : Edge) : e.v.toList.getD 3 default = .int e.event := rfl
theorem Event.v0' (e : Event) : e.v.toList.getD 0 default = .int e.go := rfl
theorem Event.v3 (e : Event) : e.v.toList.getD 3 default = .int e.op := rfl
theorem Event.v5 (e : Event) : e.v.toList.getD 5 default = .int e.val := rfl

theorem rows_get {α : Type} {n i : Nat} (h : i < n) (f : Nat → α) : ((List.range n).map f)[i]? = some (f i) := by simp [h]
theorem rows_getD {α : Type} {n i : Nat} (h : i < n) (f : Nat → α) (d : α) : ((List.range n).map f).getD i d = f i := by simp [List.getD_eq_getElem?_getD, h]
theorem rows_set {α : Type} {n i : Nat} (h : i < n) (f : Nat → α) (x : α) : ((List.range n).map f).set i x = (List.range n).map fun k => if k = i then x else f k := by
  apply List.ext_getElem?
  intro k
  by_cases hk : k < n
  · by_cases hki : k = i
    · subst hki; simp [hk]
    · rw [List.getElem?_set_ne (Ne.symm hki)]; simp [hk, hki]
  · rw [List.getElem?_eq_none (by simp; omega), List.getElem?_eq_none (by simp; omega)]

/-- The first lock that an event touches, or -1. -/
def firstLock : List Access → Int
  | [] => -1
  | a :: l => if a.kind = 2 then a.num else firstLock l
def lockOf (e : Event) : Int := firstLock (e.touch.take e.touches.toNat)

theorem firstLock_hit : ∀ {l : List Access} {j : Nat}, j < l.length → (∀ k, k < j → (l.getD k default).kind ≠ 2) → (l.getD j default).kind = 2 → firstLock l = (l.getD j default).num
  | a :: l, 0, _, _, h => by simp at h; simp [firstLock, h]
  | a :: l, j + 1, hj, h0, h => by
    have ha := h0 0 (by omega)
    simp at ha
    unfold firstLock
    rw [if_neg ha]
    simpa using firstLock_hit (l := l) (j := j) (by simpa using hj) (fun k hk => by simpa using h0 (k + 1) (by omega)) (by simpa using h)
theorem firstLock_miss : ∀ {l : List Access}, (∀ k, k < l.length → (l.getD k default).kind ≠ 2) → firstLock l = -1
  | [], _ => rfl
  | a :: l, h => by
    have ha := h 0 (by simp)
    simp at ha
    unfold firstLock
    rw [if_neg ha]
    exact firstLock_miss fun k hk => by simpa using h (k + 1) (by simpa using hk)

/-- What an event does to its goroutine's locks. -/
def lockStep (l : List Bool) (e : Event) : List Bool :=
  if lockOf e < 0 then l else if e.op = 55 ∨ (e.op = 57 ∧ e.val = 1) then l.set (lockOf e).toNat true else if e.op = 56 then l.set (lockOf e).toNat false else l
def locksTo (t : List Event) (i : Nat) (g : Int) : List Bool := ((t.take i).filter fun e => decide (e.go = g)).foldl lockStep (List.replicate 4 false)
/-- The locks that are held ahead of an event by its goroutine. -/
def heldOf (t : List Event) (i : Nat) : List Bool := locksTo t i (t.getD i default).go

theorem locksTo_zero (t : List Event) (g : Int) : locksTo t 0 g = List.replicate 4 false := rfl
theorem locksTo_succ (t : List Event) {i : Nat} (h : i < t.length) (g : Int) : locksTo t (i + 1) g = if (t.getD i default).go = g then lockStep (locksTo t i g) (t.getD i default) else locksTo t i g := by
  unfold locksTo
  have e : t.getD i default = t[i] := by simp [List.getD_eq_getElem?_getD, h]
  rw [e, List.take_succ_eq_append_getElem h, List.filter_append, List.foldl_append]
  by_cases hg : t[i].go = g
  · simp [hg]
  · simp [hg]
theorem lockStep_len (l : List Bool) (e : Event) : (lockStep l e).length = l.length := by
  unfold lockStep
  repeat' split
  all_goals simp
theorem foldl_len (m : List Event) : ∀ l : List Bool, (m.foldl lockStep l).length = l.length := by
  induction m with
  | nil => intro l; rfl
  | cons e m ih => intro l; rw [List.foldl_cons, ih, lockStep_len]
theorem locksTo_len (t : List Event) (i : Nat) (g : Int) : (locksTo t i g).length = 4 := by
  unfold locksTo; rw [foldl_len]; rfl
theorem heldOf_len (t : List Event) (i : Nat) : (heldOf t i).length = 4 := locksTo_len _ _ _

def boolsV (l : List Bool) : V := .agg (l.map V.bool)

/-- The edges of one event. -/
def edgesAt (t : List Event) (k n : Nat) : List Edge := ((List.range n).filter fun f => (heldOf t k).getD f false && decide ((f : Int) ≠ lockOf (t.getD k default))).map fun (f : Nat) => ⟨f, lockOf (t.getD k default), (t.getD k default).go, k⟩
def takes (e : Event) : Bool := decide (e.op = 55) && decide (0 ≤ lockOf e)
def edgesTo (t : List Event) (i : Nat) : List Edge := (List.range i).flatMap fun k => if takes (t.getD k default) then edgesAt t k 4 else []
def edges (t : List Event) : List Edge := edgesTo t t.length

theorem edgesAt_zero (t : List Event) (k : Nat) : edgesAt t k 0 = [] := rfl
theorem edgesAt_succ (t : List Event) (k n : Nat) : edgesAt t k (n + 1) = edgesAt t k n ++ if (heldOf t k).getD n false && decide ((n : Int) ≠ lockOf (t.getD k default)) then [⟨n, lockOf (t.getD k default), (t.getD k default).go, k⟩] else [] := by
  unfold edgesAt
  rw [List.range_succ, List.filter_append, List.map_append]
  congr 1
  simp only [List.filter_cons, List.filter_nil]
  split <;> rfl
theorem edgesTo_succ (t : List Event) (i : Nat) : edgesTo t (i + 1) = edgesTo t i ++ if takes (t.getD i default) then edgesAt t i 4 else [] := by
  unfold edgesTo
  rw [List.range_succ, List.flatMap_append]
  simp
theorem edgesAt_len (t : List Event) (k n : Nat) : (edgesAt t k n).length ≤ n := by
  unfold edgesAt
  rw [List.length_map]
  exact Nat.le_trans (List.length_filter_le _ _) (by simp)
theorem edgesTo_len (t : List Event) : ∀ i, (edgesTo t i).length ≤ 4 * i
  | 0 => by simp [edgesTo]
  | i + 1 => by
    rw [edgesTo_succ, List.length_append]
    have h1 := edgesTo_len t i
    have h2 : (if takes (t.getD i default) then edgesAt t i 4 else []).length ≤ 4 := by
      split
      · exact edgesAt_len t i 4
      · simp
    omega

/-! ### The order of edges -/

def icmp (a b : Int) : Int := if a < b then -1 else if b < a then 1 else 0
def ecmp (a b : Edge) : Int := if icmp a.event b.event ≠ 0 then icmp a.event b.event else icmp a.from_ b.from_
def elt (a b : Edge) : Prop := a.event < b.event ∨ a.event = b.event ∧ a.from_ < b.from_
theorem ecmp_lt {a b : Edge} (h : elt a b) : ecmp a b < 0 ∧ ¬ ecmp b a < 0 := by
  unfold elt at h
  unfold ecmp icmp
  rcases h with h | ⟨h1, h2⟩
  · rw [if_pos h, if_neg (show ¬ b.event < a.event by omega), if_pos h]; simp
  · simp [h1, Int.lt_irrefl, h2, show ¬ b.from_ < a.from_ by omega]
theorem edgesAt_mem {t : List Event} {k n : Nat} {e : Edge} (h : e ∈ edgesAt t k n) : e.event = k ∧ 0 ≤ e.from_ ∧ e.from_ < n := by
  unfold edgesAt at h
  simp only [List.mem_map, List.mem_filter, List.mem_range] at h
  obtain ⟨f, ⟨hf, _⟩, rfl⟩ := h
  refine ⟨rfl, ?_, ?_⟩ <;> (simp only; omega)
theorem edgesTo_mem {t : List Event} {e : Edge} : ∀ {i : Nat}, e ∈ edgesTo t i → ∃ k : Nat, k < i ∧ takes (t.getD k default) = true ∧ e ∈ edgesAt t k 4
  | 0, h => by simp [edgesTo] at h
  | i + 1, h => by
    rw [edgesTo_succ, List.mem_append] at h
    rcases h with h | h
    · obtain ⟨k, h1, h2⟩ := edgesTo_mem h
      exact ⟨k, by omega, h2⟩
    · split at h
      · rename_i ht; exact ⟨i, by omega, ht, h⟩
      · simp at h
theorem edgesAt_sorted (t : List Event) (k : Nat) : ∀ n, (edgesAt t k n).Pairwise elt
  | 0 => by simp [edgesAt_zero]
  | n + 1 => by
    rw [edgesAt_succ, List.pairwise_append]
    refine ⟨edgesAt_sorted t k n, by split <;> simp, fun a ha b hb => ?_⟩
    have h1 := edgesAt_mem ha
    split at hb
    · simp at hb; subst hb; right; exact ⟨h1.1, h1.2.2⟩
    · simp at hb
theorem edgesTo_sorted (t : List Event) : ∀ i, (edgesTo t i).Pairwise elt
  | 0 => by simp [edgesTo]
  | i + 1 => by
    rw [edgesTo_succ, List.pairwise_append]
    refine ⟨edgesTo_sorted t i, by split; exact edgesAt_sorted t i 4; simp, fun a ha b hb => ?_⟩
    obtain ⟨k, hk, _, ha⟩ := edgesTo_mem ha
    have h1 := edgesAt_mem ha
    split at hb
    · have h2 := edgesAt_mem hb
      left; omega
    · simp at hb
theorem esorted_at {l : List Edge} (hs : l.Pairwise elt) {i j : Nat} (hij : i < j) (hj : j < l.length) : elt (l.getD i default) (l.getD j default) := by
  have := List.pairwise_iff_getElem.1 hs i j (by omega) hj hij
  simpa [List.getD_eq_getElem?_getD, hj, show i < l.length by omega] using this

/-- The locks of a list of truth values. -/
def numsOf (l : List Bool) (n : Nat) : List Int := ((List.range n).filter fun k => l.getD k false).map fun (k : Nat) => (k : Int)
theorem numsOf_succ (l : List Bool) (n : Nat) : numsOf l (n + 1) = numsOf l n ++ if l.getD n false then [(n : Int)] else [] := by
  unfold numsOf
  rw [List.range_succ, List.filter_append, List.map_append]
  congr 1
  simp only [List.filter_cons, List.filter_nil]
  split <;> rfl
theorem numsOf_len (l : List Bool) (n : Nat) : (numsOf l n).length ≤ n := by
  unfold numsOf
  rw [List.length_map]
  exact Nat.le_trans (List.length_filter_le _ _) (by simp)

end Go.Eng
/- What the document's goodlock computes: edges but for their places, and rings that close. -/
namespace Go.Eng
set_option linter.unusedSimpArgs false
set_option linter.unusedVariables false

structure Kind where
  from_ : Int
  to_ : Int
  g : Int
  held : List Bool
  deriving DecidableEq, Inhabited
def Kind.v (k : Kind) : V := .agg [.int k.from_, .int k.to_, .int k.g, .agg (k.held.map V.bool)]
theorem Kind.v0 (e : Kind) : e.v.toList.getD 0 default = .int e.from_ := rfl
theorem Kind.v1 (e : Kind) : e.v.toList.getD 1 default = .int e.to_ := rfl
theorem Kind.v2 (e : Kind) : e.v.toList.getD 2 default = .int e.g := rfl
theorem Kind.v3 (e : Kind) : e.v.toList.getD 3 default = .agg (e.held.map V.bool) := rfl
def kindOf (t : List Event) (e : Edge) : Kind := ⟨e.from_, e.to_, e.go, heldOf t e.event.toNat⟩
def addKind (l : List Kind) (k : Kind) : List Kind := if l.any (fun x => decide (x = k)) then l else l ++ [k]
def kindsTo (t : List Event) (i : Nat) : List Kind := ((edges t).take i).foldl (fun l e => addKind l (kindOf t e)) []
def kinds (t : List Event) : List Kind := kindsTo t (edges t).length
theorem kindsTo_succ (t : List Event) {i : Nat} (h : i < (edges t).length) : kindsTo t (i + 1) = addKind (kindsTo t i) (kindOf t ((edges t).getD i default)) := by
  unfold kindsTo
  have e : (edges t).getD i default = (edges t)[i] := by simp [List.getD_eq_getElem?_getD, h]
  rw [e, List.take_succ_eq_append_getElem h, List.foldl_append]; rfl
theorem addKind_len (l : List Kind) (k : Kind) : (addKind l k).length ≤ l.length + 1 := by unfold addKind; split <;> simp
theorem kindsTo_len (t : List Event) : ∀ i, i ≤ (edges t).length → (kindsTo t i).length ≤ i
  | 0, _ => by simp [kindsTo]
  | i + 1, h => by
    rw [kindsTo_succ t h]
    have h1 := addKind_len (kindsTo t i) (kindOf t ((edges t).getD i default))
    have h2 := kindsTo_len t i (by omega)
    omega
theorem addKind_mem {l : List Kind} {k x : Kind} : x ∈ addKind l k ↔ x ∈ l ∨ x = k := by
  unfold addKind
  split
  · rename_i h
    obtain ⟨y, hy, hyk⟩ := List.any_eq_true.1 h
    have := of_decide_eq_true hyk
    subst this
    constructor
    · exact .inl
    · rintro (h | rfl)
      · exact h
      · exact hy
  · simp
theorem kindsTo_mem {t : List Event} {k : Kind} : ∀ {i : Nat}, i ≤ (edges t).length → (k ∈ kindsTo t i ↔ ∃ e ∈ (edges t).take i, kindOf t e = k)
  | 0, _ => by simp [kindsTo]
  | i + 1, h => by
    rw [kindsTo_succ t h, addKind_mem, kindsTo_mem (by omega)]
    have e : (edges t).getD i default = (edges t)[i] := by simp [List.getD_eq_getElem?_getD, show i < (edges t).length by omega]
    rw [e, List.take_succ_eq_append_getElem (by omega)]
    constructor
    · rintro (⟨x, hx, rfl⟩ | rfl)
      · exact ⟨x, List.mem_append.2 (.inl hx), rfl⟩
      · exact ⟨_, List.mem_append.2 (.inr (by simp)), rfl⟩
    · rintro ⟨x, hx, rfl⟩
      rcases List.mem_append.1 hx with hx | hx
      · exact .inl ⟨x, hx, rfl⟩
      · simp at hx; subst hx; exact .inr rfl
theorem kinds_mem {t : List Event} {k : Kind} : k ∈ kinds t ↔ ∃ e ∈ edges t, kindOf t e = k := by
  unfold kinds
  rw [kindsTo_mem (Nat.le_refl _), List.take_length]

theorem beqL_bool : ∀ (a b : List Bool), V.beqL (a.map V.bool) (b.map V.bool) = decide (a = b)
  | [], [] => rfl
  | [], _ :: _ => rfl
  | _ :: _, [] => rfl
  | x :: a, y :: b => by
    simp only [List.map_cons, V.beqL, V.beq, beqL_bool a b]
    cases x <;> cases y <;> simp
theorem beq_kind (a b : Kind) : V.beq a.v b.v = decide (a = b) := by
  obtain ⟨f, o, g, h⟩ := a
  obtain ⟨f', o', g', h'⟩ := b
  simp only [Kind.v, V.beq, V.beqL, beqL_bool]
  by_cases h1 : f = f' <;> by_cases h2 : o = o' <;> by_cases h3 : g = g' <;> by_cases h4 : h = h' <;> simp [h1, h2, h3, h4]

/-! ### Rings that close -/

def picksK (ring : List Int) (k : Nat) (e : Kind) : Bool := decide (e.from_ = ring.getD k default) && decide (e.to_ = ring.getD ((k + 1) % ring.length) default)
def meets (a b : List Bool) : Bool := (List.range 4).any fun n => a.getD n default && b.getD n default
def merge (a b : List Bool) : List Bool := (List.range 4).map fun n => a.getD n default || b.getD n default
def closes (l : List Kind) (ring : List Int) (apart : Bool) : Nat → Nat → List Bool → List Bool → Bool
  | 0, _, _, _ => true
  | n + 1, i, taken, locks => l.any fun k => picksK ring i k && !taken.getD k.g.toNat default && !(apart && meets locks k.held) && closes l ring apart n (i + 1) (taken.set k.g.toNat true) (merge locks k.held)
end Go.Eng
/- The machine's data: programs, states, picks, as Lean's own structures, and how they stand in memory. -/
namespace Go.Eng
set_option linter.unusedSimpArgs false
set_option linter.unusedVariables false

structure Instr where
  op : Int
  a : Int
  b : Int
  c : Int
  n : Int
  deriving DecidableEq, Inhabited
structure Cas where
  send : Bool
  chan : Int
  reg : Int
  to_ : Int
  deriving DecidableEq, Inhabited
structure Sel where
  cases : List Cas
  els : Int
  deriving DecidableEq, Inhabited
structure Fnc where
  params : Int
  regs : Int
  code : List Instr
  sels : List Sel
  deriving DecidableEq, Inhabited
structure Vr where
  atomic : Bool
  init : Int
  deriving DecidableEq, Inhabited
structure Prg where
  vars : List Vr
  locks : Int
  chans : List Int
  funcs : List Fnc
  deriving DecidableEq, Inhabited
structure Gor where
  status : Int
  func : Int
  pc : Int
  why : Int
  regs : List Int
  deriving DecidableEq, Inhabited
structure Chn where
  buf : List Int
  len : Int
  closed : Bool
  offer : Int
  from_ : Int
  val : Int
  deriving DecidableEq, Inhabited
structure Stt where
  vars : List Int
  owner : List Int
  chans : List Chn
  gos : List Gor
  count : Int
  deriving DecidableEq, Inhabited
structure Pck where
  go : Int
  alt : Int
  deriving DecidableEq, Inhabited
structure Bud where
  steps : Int
  fuel : Int
  runs : Int
  deriving DecidableEq, Inhabited

def intsV (l : List Int) : V := .agg (l.map V.int)
def Instr.v (x : Instr) : V := .agg [.int x.op, .int x.a, .int x.b, .int x.c, .int x.n]
def Cas.v (x : Cas) : V := .agg [.bool x.send, .int x.chan, .int x.reg, .int x.to_]
def Sel.v (x : Sel) : V := .agg [.list (x.cases.map Cas.v), .int x.els]
def Fnc.v (x : Fnc) : V := .agg [.int x.params, .int x.regs, .list (x.code.map Instr.v), .list (x.sels.map Sel.v)]
def Vr.v (x : Vr) : V := .agg [.bool x.atomic, .int x.init]
def Prg.v (x : Prg) : V := .agg [.list (x.vars.map Vr.v), .int x.locks, .list (x.chans.map V.int), .list (x.funcs.map Fnc.v)]
def Gor.v (x : Gor) : V := .agg [.int x.status, .int x.func, .int x.pc, .int x.why, .agg (x.regs.map V.int)]
def Chn.v (x : Chn) : V := .agg [.agg (x.buf.map V.int), .int x.len, .bool x.closed, .int x.offer, .int x.from_, .int x.val]
def Stt.v (x : Stt) : V := .agg [.agg (x.vars.map V.int), .agg (x.owner.map V.int), .agg (x.chans.map Chn.v), .agg (x.gos.map Gor.v), .int x.count]
def Pck.v (x : Pck) : V := .agg [.int x.go, .int x.alt]
def Bud.v (x : Bud) : V := .agg [.int x.steps, .int x.fuel, .int x.runs]

section
variable (d : V)
theorem Instr.v0 (x : Instr) : x.v.toList.getD 0 d = .int x.op := rfl
theorem Instr.v1 (x : Instr) : x.v.toList.getD 1 d = .int x.a := rfl
theorem Instr.v2 (x : Instr) : x.v.toList.getD 2 d = .int x.b := rfl
theorem Instr.v3 (x : Instr) : x.v.toList.getD 3 d = .int x.c := rfl
theorem Instr.v4 (x : Instr) : x.v.toList.getD 4 d = .int x.n := rfl
theorem Cas.v0 (x : Cas) : x.v.toList.getD 0 d = .bool x.send := rfl
theorem Cas.v1 (x : Cas) : x.v.toList.getD 1 d = .int x.chan := rfl
theorem Cas.v2 (x : Cas) : x.v.toList.getD 2 d = .int x.reg := rfl
theorem Cas.v3 (x : Cas) : x.v.toList.getD 3 d = .int x.to_ := rfl
theorem Sel.v0 (x : Sel) : x.v.toList.getD 0 d = .list (x.cases.map Cas.v) := rfl
theorem Sel.v1 (x : Sel) : x.v.toList.getD 1 d = .int x.els := rfl
theorem Fnc.v0 (x : Fnc) : x.v.toList.getD 0 d = .int x.params := rfl
theorem Fnc.v1 (x : Fnc) : x.v.toList.getD 1 d = .int x.regs := rfl
theorem Fnc.v2 (x : Fnc) : x.v.toList.getD 2 d = .list (x.code.map Instr.v) := rfl
theorem Fnc.v3 (x : Fnc) : x.v.toList.getD 3 d = .list (x.sels.map Sel.v) := rfl
theorem Vr.v0 (x : Vr) : x.v.toList.getD 0 d = .bool x.atomic := rfl
theorem Vr.v1 (x : Vr) : x.v.toList.getD 1 d = .int x.init := rfl
theorem Prg.v0 (x : Prg) : x.v.toList.getD 0 d = .list (x.vars.map Vr.v) := rfl
theorem Prg.v1 (x : Prg) : x.v.toList.getD 1 d = .int x.locks := rfl
theorem Prg.v2 (x : Prg) : x.v.toList.getD 2 d = .list (x.chans.map V.int) := rfl
theorem Prg.v3 (x : Prg) : x.v.toList.getD 3 d = .list (x.funcs.map Fnc.v) := rfl
theorem Gor.v0 (x : Gor) : x.v.toList.getD 0 d = .int x.status := rfl
theorem Gor.v1 (x : Gor) : x.v.toList.getD 1 d = .int x.func := rfl
theorem Gor.v2 (x : Gor) : x.v.toList.getD 2 d = .int x.pc := rfl
theorem Gor.v3 (x : Gor) : x.v.toList.getD 3 d = .int x.why := rfl
theorem Gor.v4 (x : Gor) : x.v.toList.getD 4 d = .agg (x.regs.map V.int) := rfl
theorem Chn.v0 (x : Chn) : x.v.toList.getD 0 d = .agg (x.buf.map V.int) := rfl
theorem Chn.v1 (x : Chn) : x.v.toList.getD 1 d = .int x.len := rfl
theorem Chn.v2 (x : Chn) : x.v.toList.getD 2 d = .bool x.closed := rfl
theorem Chn.v3 (x : Chn) : x.v.toList.getD 3 d = .int x.offer := rfl
theorem Chn.v4 (x : Chn) : x.v.toList.getD 4 d = .int x.from_ := rfl
theorem Chn.v5 (x : Chn) : x.v.toList.getD 5 d = .int x.val := rfl
theorem Stt.v0 (x : Stt) : x.v.toList.getD 0 d = .agg (x.vars.map V.int) := rfl
theorem Stt.v1 (x : Stt) : x.v.toList.getD 1 d = .agg (x.owner.map V.int) := rfl
theorem Stt.v2 (x : Stt) : x.v.toList.getD 2 d = .agg (x.chans.map Chn.v) := rfl
theorem Stt.v3 (x : Stt) : x.v.toList.getD 3 d = .agg (x.gos.map Gor.v) := rfl
theorem Stt.v4 (x : Stt) : x.v.toList.getD 4 d = .int x.count := rfl
theorem Pck.v0 (x : Pck) : x.v.toList.getD 0 d = .int x.go := rfl
theorem Pck.v1 (x : Pck) : x.v.toList.getD 1 d = .int x.alt := rfl
theorem Bud.v0 (x : Bud) : x.v.toList.getD 0 d = .int x.steps := rfl
theorem Bud.v1 (x : Bud) : x.v.toList.getD 1 d = .int x.fuel := rfl
theorem Bud.v2 (x : Bud) : x.v.toList.getD 2 d = .int x.runs := rfl
end

def Fnc.Fit (f : Fnc) : Prop := f.code.length ≤ maxLen ∧ f.sels.length ≤ maxLen ∧ ∀ s ∈ f.sels, s.cases.length ≤ maxLen
def Prg.Fit (p : Prg) : Prop := p.vars.length ≤ maxLen ∧ p.chans.length ≤ maxLen ∧ p.funcs.length ≤ maxLen ∧ ∀ f ∈ p.funcs, f.Fit

structure Stt.Shape (s : Stt) : Prop where
  vars : s.vars.length = 8
  owner : s.owner.length = 4
  chans : s.chans.length = 4
  bufs : ∀ c ∈ s.chans, c.buf.length = 4
  gos : s.gos.length = 6
  regs : ∀ g ∈ s.gos, g.regs.length = 8

theorem V.setSub_agg (l : List V) (k : Nat) (x : V) : V.setSub (.agg l) k x = .agg (l.set k x) := rfl

/-! ### Equality -/

theorem beqL_ints : ∀ l m : List Int, V.beqL (l.map V.int) (m.map V.int) = decide (l = m)
  | [], [] => rfl
  | [], _ :: _ => rfl
  | _ :: _, [] => rfl
  | a :: l, b :: m => by
    simp only [List.map_cons, V.beqL, V.beq, beqL_ints l m, List.cons.injEq]
    by_cases h : a = b <;> simp [h]
theorem beq_gor (g h : Gor) : V.beq g.v h.v = decide (g = h) := by
  obtain ⟨a, b, c, d, e⟩ := g
  obtain ⟨a', b', c', d', e'⟩ := h
  simp only [Gor.v, V.beq, V.beqL, beqL_ints, Gor.mk.injEq]
  by_cases h1 : a = a' <;> by_cases h2 : b = b' <;> by_cases h3 : c = c' <;> by_cases h4 : d = d' <;> simp [h1, h2, h3, h4]
theorem beq_chn (g h : Chn) : V.beq g.v h.v = decide (g = h) := by
  obtain ⟨a, b, c, d, e, f⟩ := g
  obtain ⟨a', b', c', d', e', f'⟩ := h
  simp only [Chn.v, V.beq, V.beqL, beqL_ints, Chn.mk.injEq]
  by_cases h1 : a = a' <;> by_cases h2 : b = b' <;> by_cases h3 : c = c' <;> by_cases h4 : d = d' <;> by_cases h5 : e = e' <;> simp [h1, h2, h3, h4, h5]

/-! ### Elements -/

theorem getD_ints (l : List Int) (i : Nat) : (l.map V.int).getD i default = .int (l.getD i 0) := by
  by_cases h : i < l.length
  · simp [List.getD_eq_getElem?_getD, h]
  · simp [List.getD_eq_getElem?_getD, List.getElem?_eq_none (Nat.le_of_not_lt h)]; rfl
theorem getD_gors {l : List Gor} {i : Nat} (h : i < l.length) (d : V) : (l.map Gor.v).getD i d = (l.getD i default).v := getD_map Gor.v l h d
theorem getD_chns {l : List Chn} {i : Nat} (h : i < l.length) (d : V) : (l.map Chn.v).getD i d = (l.getD i default).v := getD_map Chn.v l h d
theorem getD_fncs {l : List Fnc} {i : Nat} (h : i < l.length) (d : V) : (l.map Fnc.v).getD i d = (l.getD i default).v := getD_map Fnc.v l h d
theorem getD_instrs {l : List Instr} {i : Nat} (h : i < l.length) (d : V) : (l.map Instr.v).getD i d = (l.getD i default).v := getD_map Instr.v l h d
theorem getD_sels {l : List Sel} {i : Nat} (h : i < l.length) (d : V) : (l.map Sel.v).getD i d = (l.getD i default).v := getD_map Sel.v l h d
theorem getD_cass {l : List Cas} {i : Nat} (h : i < l.length) (d : V) : (l.map Cas.v).getD i d = (l.getD i default).v := getD_map Cas.v l h d
theorem getD_vrs {l : List Vr} {i : Nat} (h : i < l.length) (d : V) : (l.map Vr.v).getD i d = (l.getD i default).v := getD_map Vr.v l h d
theorem getD_pcks {l : List Pck} {i : Nat} (h : i < l.length) (d : V) : (l.map Pck.v).getD i d = (l.getD i default).v := getD_map Pck.v l h d

end Go.Eng
/- What the document's functions of layers 3, 7, 8, 9 compute. -/
namespace Go.Eng
set_option linter.unusedSimpArgs false
set_option linter.unusedVariables false

def within (x n : Int) : Bool := decide (0 ≤ x) && decide (x < n)
def isLocal (op : Int) : Bool := (decide (1 ≤ op) && decide (op ≤ 36)) || (decide (40 ≤ op) && decide (op ≤ 45))
def isVisible (op : Int) : Bool := decide (50 ≤ op) && decide (op ≤ 65)

def Prg.fn (p : Prg) (f : Int) : Fnc := p.funcs.getD f.toNat default
def Fnc.at_ (f : Fnc) (pc : Int) : Instr := f.code.getD pc.toNat default
def Stt.gor (s : Stt) (g : Int) : Gor := s.gos.getD g.toNat default
def Stt.chn (s : Stt) (c : Int) : Chn := s.chans.getD c.toNat default
def Gor.reg (g : Gor) (r : Int) : Int := g.regs.getD r.toNat 0
def Prg.cap (p : Prg) (c : Int) : Int := p.chans.getD c.toNat 0
def instrAt (p : Prg) (s : Stt) (g : Int) : Instr := (p.fn (s.gor g).func).at_ (s.gor g).pc
def opAt (p : Prg) (s : Stt) (g : Int) : Int := if (s.gor g).status = 2 then 66 else (instrAt p s g).op
def isLive (s : Stt) (g : Int) : Bool := decide (0 ≤ g) && decide (g < s.count) && (decide ((s.gor g).status = 1) || decide ((s.gor g).status = 2))

def sends (p : Prg) (s : Stt) (c : Int) : Bool :=
  if (s.chn c).closed then true else if 0 < p.cap c then decide ((s.chn c).len < p.cap c) else decide ((s.chn c).offer = 0)
def receives (s : Stt) (c : Int) : Bool := decide (0 < (s.chn c).len) || (s.chn c).closed || decide ((s.chn c).offer = 1)
def plain (p : Prg) (s : Stt) (g : Int) : Bool :=
  let x := instrAt p s g
  let op := opAt p s g
  if op = 54 then decide (s.vars.getD x.a.toNat 0 = (s.gor g).reg x.b)
  else if op = 55 then decide (s.owner.getD x.a.toNat 0 = 0)
  else if op = 58 then sends p s x.a
  else if op = 59 then receives s x.b
  else if op = 66 then decide ((s.chn x.a).offer = 2) || decide ((s.chn x.a).offer = 3)
  else if op = 63 then
    let k := (s.gor g).reg x.a
    decide (k < 0) || decide (s.count ≤ k) || decide (k = g) || !isLive s k
  else decide (50 ≤ op)
def caseOk (p : Prg) (s : Stt) (c : Cas) : Bool := if c.send then sends p s c.chan else receives s c.chan
def selAt (p : Prg) (s : Stt) (g : Int) : Sel := (p.fn (s.gor g).func).sels.getD (instrAt p s g).a.toNat default
def casesTo (p : Prg) (s : Stt) (q : Sel) (n : Nat) : List Int := ((List.range n).filter fun i => caseOk p s (q.cases.getD i default)).map fun (i : Nat) => (i : Int)
def alts (p : Prg) (s : Stt) (g : Int) : List Int :=
  if isLive s g then
    if opAt p s g = 61 then
      let q := selAt p s g
      let l := casesTo p s q q.cases.length
      if l.length = 0 ∧ q.els ≠ -1 then l ++ [(q.cases.length : Int)] else l
    else if plain p s g then [0] else []
  else []
def readyTo (p : Prg) (s : Stt) (n : Nat) : List Pck := (List.range n).flatMap fun (g : Nat) => (alts p s g).map fun a => ⟨g, a⟩
def ready (p : Prg) (s : Stt) : List Pck := readyTo p s s.count.toNat
def waitsTo (p : Prg) (s : Stt) (n : Nat) : List Int := ((List.range n).filter fun (g : Nat) => isLive s g && decide ((alts p s g).length = 0)).map fun (g : Nat) => (g : Int)
def has (p : Prg) (s : Stt) (x : Pck) : Bool := decide (x.alt ∈ alts p s x.go)

/-- An access put into a list that is in order. -/
def add (kind num : Int) (write : Bool) : List Access → List Access
  | [] => [⟨kind, num, write⟩]
  | x :: l => if x.kind = kind ∧ x.num = num then ⟨x.kind, x.num, x.write || write⟩ :: l
    else if kind < x.kind ∨ x.kind = kind ∧ num < x.num then ⟨kind, num, write⟩ :: x :: l
    else x :: add kind num write l
def addChans (q : Sel) (n : Nat) (l : List Access) : List Access := (q.cases.take n).foldl (fun l c => add 3 c.chan true l) l
def touch (p : Prg) (s : Stt) (g : Int) : List Access :=
  let x := instrAt p s g
  let op := opAt p s g
  let l : List Access := [⟨5, g, true⟩]
  if op = 50 then add 1 x.b false l
  else if op = 54 then add 1 x.a false l
  else if op = 51 then add 1 x.a true l
  else if op = 52 ∨ op = 53 then add 1 x.b true l
  else if op = 55 ∨ op = 56 then add 2 x.a true l
  else if op = 57 then add 2 x.b true l
  else if op = 58 ∨ op = 60 ∨ op = 66 then add 3 x.a true l
  else if op = 59 then add 3 x.b true l
  else if op = 61 then addChans (selAt p s g) (selAt p s g).cases.length l
  else if op = 62 then
    let l := add 4 0 true l
    if s.count < 6 then add 5 s.count true l else l
  else if op = 63 then
    let l := add 4 0 false l
    let k := (s.gor g).reg x.a
    if 0 ≤ k ∧ k < s.count then add 5 k false l else l
  else if op = 65 then add 6 0 true l
  else l

/-! ### What a step does -/

structure Did where
  s : Stt
  val : Int
  why : Int
  to_ : Int
  deriving Inhabited

def Stt.setReg (s : Stt) (g r v : Int) : Stt :=
  if 0 ≤ r then { s with gos := s.gos.set g.toNat { s.gor g with regs := (s.gor g).regs.set r.toNat v } } else s
def Stt.setChn (s : Stt) (c : Int) (x : Chn) : Stt := { s with chans := s.chans.set c.toNat x }
def Stt.setStatus (s : Stt) (g v : Int) : Stt := { s with gos := s.gos.set g.toNat { s.gor g with status := v } }
def yes (b : Bool) : Int := if b then 1 else 0

def doSend (p : Prg) (d : Did) (g c v : Int) : Did :=
  let x := d.s.chn c
  if x.closed then { d with why := 4 }
  else if 0 < p.cap c then { d with s := d.s.setChn c { x with buf := x.buf.set x.len.toNat v, len := x.len + 1 }, val := v }
  else { d with s := (d.s.setStatus g 2).setChn c { x with offer := 1, from_ := g, val := v }, to_ := -1, val := v }
def shiftTo (b : List Int) (n : Nat) : List Int := (List.range b.length).map fun i => if i < n then b.getD (i + 1) 0 else b.getD i 0
def doRecv (d : Did) (g c r ok : Int) : Did :=
  let x := d.s.chn c
  if 0 < x.len then
    let y := { x with buf := (shiftTo x.buf (x.len - 1).toNat).set (x.len - 1).toNat 0, len := x.len - 1 }
    { d with s := ((d.s.setChn c y).setReg g r (x.buf.getD 0 0)).setReg g ok 1, val := x.buf.getD 0 0 }
  else if x.offer = 1 then
    { d with s := ((d.s.setChn c { x with offer := 2, val := 0 }).setReg g r x.val).setReg g ok 1, val := x.val }
  else { d with s := ((d.s.setChn c x).setReg g r 0).setReg g ok 0, val := 0 }
def doClose (d : Did) (c : Int) : Did :=
  let x := d.s.chn c
  if x.closed then { d with why := 5 }
  else if x.offer = 1 then { d with s := d.s.setChn c { x with closed := true, offer := 3, val := 0 } }
  else { d with s := d.s.setChn c { x with closed := true } }
def doTaken (d : Did) (g c : Int) : Did :=
  let x := d.s.chn c
  { d with s := (d.s.setChn c { x with offer := 0, from_ := 0, val := 0 }).setStatus g 1, why := if x.offer = 3 then 4 else d.why }
def spawnRegs (s : Stt) (g c : Int) (n : Nat) : List Int := (List.range 8).map fun i => if i < n then (s.gor g).reg (c + i) else 0
def doSpawn (p : Prg) (d : Did) (g : Int) (x : Instr) : Did :=
  if 6 ≤ d.s.count then { d with why := 8 }
  else
    let n := d.s.count
    let s := { d.s with gos := d.s.gos.set n.toNat ⟨1, x.b, 0, 0, spawnRegs d.s g x.c (p.fn x.b).params.toNat⟩, count := n + 1 }
    { d with s := s.setReg g x.a n, val := n }
def w64 (n : Int) : Int := IntKind.i64.wrap n
def doVars (d : Did) (g : Int) (x : Instr) : Did :=
  let r := d.s.gor g
  if x.op = 50 then
    let v := d.s.vars.getD x.b.toNat 0
    { d with s := d.s.setReg g x.a v, val := v }
  else if x.op = 51 then { d with s := { d.s with vars := d.s.vars.set x.a.toNat (r.reg x.b) }, val := r.reg x.b }
  else if x.op = 52 then
    let s := d.s.setReg g x.a (d.s.vars.getD x.b.toNat 0)
    { d with s := { s with vars := s.vars.set x.b.toNat (w64 (s.vars.getD x.b.toNat 0 + r.reg x.c)) }, val := r.reg x.c }
  else if x.op = 53 then
    let v := yes (decide (d.s.vars.getD x.b.toNat 0 = r.reg x.c))
    let s := if v = 1 then { d.s with vars := d.s.vars.set x.b.toNat (r.reg x.n) } else d.s
    { d with s := s.setReg g x.a v, val := v }
  else if x.op = 54 then { d with val := r.reg x.b }
  else if x.op = 55 then { d with s := { d.s with owner := d.s.owner.set x.a.toNat (g + 1) } }
  else if x.op = 56 then
    if d.s.owner.getD x.a.toNat 0 ≠ g + 1 then { d with why := 6 } else { d with s := { d.s with owner := d.s.owner.set x.a.toNat 0 } }
  else if x.op = 57 then
    let v := yes (decide (d.s.owner.getD x.b.toNat 0 = 0))
    let s := if v = 1 then { d.s with owner := d.s.owner.set x.b.toNat (g + 1) } else d.s
    { d with s := s.setReg g x.a v, val := v }
  else d
def visible (p : Prg) (s : Stt) (g alt : Int) : Did :=
  let x := instrAt p s g
  let d : Did := ⟨s, 0, 0, (s.gor g).pc + 1⟩
  let op := opAt p s g
  if op = 66 then doTaken d g x.a
  else if op = 58 then doSend p d g x.a ((s.gor g).reg x.b)
  else if op = 59 then doRecv d g x.b x.a x.c
  else if op = 60 then doClose d x.a
  else if op = 62 then doSpawn p d g x
  else if op = 63 then
    let k := (s.gor g).reg x.a
    if k < 0 ∨ s.count ≤ k ∨ k = g then { d with why := 7 } else { d with val := k }
  else if op = 65 then { d with val := (s.gor g).reg x.a }
  else if op = 61 then
    let q := selAt p s g
    if alt = q.cases.length then { d with to_ := q.els }
    else
      let c := q.cases.getD alt.toNat default
      let d := { d with to_ := c.to_ }
      if c.send then doSend p d g c.chan ((s.gor g).reg c.reg) else doRecv d g c.chan c.reg (-1)
  else doVars d g x
def touchFill (l : List Access) : List Access := (List.range 6).map fun i => if i < l.length then l.getD i default else ⟨0, 0, false⟩
def event (p : Prg) (s : Stt) (x : Pck) (val : Int) : Event :=
  ⟨x.go, (s.gor x.go).func, (s.gor x.go).pc, opAt p s x.go, x.alt, val, if opAt p s x.go = 65 then (instrAt p s x.go).n else 0, touchFill (touch p s x.go), (touch p s x.go).length⟩

def zeroGor : Gor := ⟨0, 0, 0, 0, List.replicate 8 0⟩
def zeroChn : Chn := ⟨List.replicate 4 0, 0, false, 0, 0, 0⟩
def zeroStt : Stt := ⟨List.replicate 8 0, List.replicate 4 0, List.replicate 4 zeroChn, List.replicate 6 zeroGor, 0⟩
def zeroEvent : Event := ⟨0, 0, 0, 0, 0, 0, 0, List.replicate 6 ⟨0, 0, false⟩, 0⟩

end Go.Eng
/- What the checks of programs and states compute. -/
namespace Go.Eng
set_option linter.unusedSimpArgs false
set_option linter.unusedVariables false

def firstNZ : List Int → Int
  | [] => 0
  | x :: l => if x ≠ 0 then x else firstNZ l
theorem firstNZ_append (a b : List Int) : firstNZ (a ++ b) = if firstNZ a ≠ 0 then firstNZ a else firstNZ b := by
  induction a with
  | nil => simp [firstNZ]
  | cons x a ih =>
    simp only [List.cons_append, firstNZ]
    by_cases h : x = 0
    · simpa [h] using ih
    · simp [h]
theorem firstNZ_snoc (a : List Int) (x : Int) : firstNZ (a ++ [x]) = if firstNZ a ≠ 0 then firstNZ a else x := by
  rw [firstNZ_append]
  by_cases h : firstNZ a = 0
  · by_cases hx : x = 0 <;> simp [h, firstNZ, hx]
  · simp [h]
theorem firstNZ_range (g : Nat → Int) (n : Nat) : firstNZ ((List.range (n + 1)).map g) = if firstNZ ((List.range n).map g) ≠ 0 then firstNZ ((List.range n).map g) else g n := by
  rw [List.range_succ, List.map_append, List.map_cons, List.map_nil, firstNZ_snoc]
theorem firstNZ_take {α : Type} [Inhabited α] (g : α → Int) (l : List α) {n : Nat} (h : n < l.length) : firstNZ ((l.take (n + 1)).map g) = if firstNZ ((l.take n).map g) ≠ 0 then firstNZ ((l.take n).map g) else g (l.getD n default) := by
  rw [List.take_succ_eq_append_getElem h, List.map_append, List.map_cons, List.map_nil, firstNZ_snoc]
  simp [List.getD_eq_getElem?_getD, h]
theorem firstNZ_hit {α : Type} [Inhabited α] (g : α → Int) (l : List α) {n : Nat} (h : n < l.length) (h0 : firstNZ ((l.take n).map g) = 0) (h1 : g (l.getD n default) ≠ 0) : firstNZ (l.map g) = g (l.getD n default) := by
  have e : l.map g = (l.take (n + 1)).map g ++ (l.drop (n + 1)).map g := by rw [← List.map_append, List.take_append_drop]
  have e2 : firstNZ ((l.take (n + 1)).map g) = g (l.getD n default) := by rw [firstNZ_take g l h, if_neg (fun q => q h0)]
  rw [e, firstNZ_append, e2, if_pos h1]
theorem findIdx_range {p : Nat → Bool} {n i : Nat} (hi : i ≤ n) (h0 : ∀ j, j < i → p j = false) (h1 : i = n ∨ p i = true) : (List.range n).findIdx p = i := by
  rcases Nat.lt_or_ge i n with h | h
  · have h1 : p i = true := h1.resolve_left (by omega)
    rw [List.findIdx_eq (by simpa using h)]
    refine ⟨by simpa using h1, fun j hj => ?_⟩
    simpa using h0 j hj
  · have : i = n := by omega
    subst this
    have : (List.range i).findIdx p = (List.range i).length := by
      rw [List.findIdx_eq_length]
      intro x hx
      simpa using h0 x (by simpa using hx)
    simpa using this
theorem firstNZ_zero {a : List Int} : firstNZ a = 0 ↔ ∀ x ∈ a, x = 0 := by
  induction a with
  | nil => simp [firstNZ]
  | cons x a ih =>
    simp only [firstNZ, List.mem_cons, forall_eq_or_imp]
    split
    · rename_i h; simp [h]
    · rename_i h; rw [ih]; simp at h; simp [h]

/-- The letters of an operation's operands: '-' 45, r 114, w 119, o 111, p 112, v 118, a 97, l 108, c 99, s 115, f 102, t 116, n 110. -/
def formL (op : Int) : List Nat :=
  if 1 ≤ op ∧ op ≤ 15 then [114, 114, 45, 45]
  else if 16 ≤ op ∧ op ≤ 36 then [114, 114, 114, 45]
  else if op = 40 then [114, 45, 45, 110]
  else if op = 41 then [114, 114, 45, 45]
  else if op = 42 then [116, 45, 45, 45]
  else if op = 43 then [114, 116, 45, 45]
  else if op = 44 then [114, 45, 45, 110]
  else if op = 45 then [45, 45, 45, 45]
  else if op = 50 then [114, 118, 45, 45]
  else if op = 51 then [118, 114, 45, 45]
  else if op = 52 then [111, 97, 114, 45]
  else if op = 53 then [114, 97, 114, 119]
  else if op = 54 then [97, 114, 45, 45]
  else if op = 55 ∨ op = 56 then [108, 45, 45, 45]
  else if op = 57 then [114, 108, 45, 45]
  else if op = 58 then [99, 114, 45, 45]
  else if op = 59 then [111, 99, 111, 45]
  else if op = 60 then [99, 45, 45, 45]
  else if op = 61 then [115, 45, 45, 45]
  else if op = 62 then [111, 102, 112, 45]
  else if op = 63 then [114, 45, 45, 45]
  else if op = 64 then [45, 45, 45, 45]
  else if op = 65 then [114, 45, 45, 110]
  else []

def formB (op : Int) : ByteArray := ⟨((formL op).map Nat.toUInt8).toArray⟩
theorem formL_fin : ∀ n : Fin 66, (∀ x ∈ formL n.val, x < 256) ∧ ((isLocal n.val || isVisible n.val) = true → (formL n.val).length = 4) := by decide +kernel
theorem formL_none {op : Int} (h : op < 1 ∨ 65 < op) : formL op = [] := by
  unfold formL
  rw [if_neg (by omega), if_neg (by omega), if_neg (by omega), if_neg (by omega), if_neg (by omega), if_neg (by omega), if_neg (by omega), if_neg (by omega), if_neg (by omega), if_neg (by omega), if_neg (by omega), if_neg (by omega), if_neg (by omega), if_neg (by omega), if_neg (by omega), if_neg (by omega), if_neg (by omega), if_neg (by omega), if_neg (by omega), if_neg (by omega), if_neg (by omega), if_neg (by omega), if_neg (by omega)]
theorem formL_lt (op : Int) : ∀ x ∈ formL op, x < 256 := by
  by_cases h : op < 1 ∨ 65 < op
  · rw [formL_none h]; simp
  · have := (formL_fin ⟨op.toNat, by omega⟩).1
    rwa [show ((⟨op.toNat, by omega⟩ : Fin 66).val : Int) = op from by simp; omega] at this
theorem formB_at (op : Int) (j : Nat) : ((((formB op).data[j]?).getD 0).toNat : Int) = (((formL op).getD j 0 : Nat) : Int) := by
  simp only [formB, List.getElem?_toArray, List.getElem?_map, List.getD_eq_getElem?_getD]
  cases h : (formL op)[j]? with
  | none => rfl
  | some x =>
    have := formL_lt op x (List.mem_of_getElem? h)
    simp
    omega
theorem formB_size (op : Int) : (formB op).size = (formL op).length := by simp [formB, ByteArray.size]
theorem formL_four {op : Int} (h : isLocal op = true ∨ isVisible op = true) : (formL op).length = 4 := by
  have hr : 1 ≤ op ∧ op ≤ 65 := by simp [isLocal, isVisible] at h; omega
  have := (formL_fin ⟨op.toNat, by omega⟩).2
  rw [show ((⟨op.toNat, by omega⟩ : Fin 66).val : Int) = op from by simp; omega] at this
  exact this (by simpa using h)
/-- What is wrong with an operand by its letter. -/
def operandErr (p : Prg) (f : Fnc) (letter : Int) (x : Int) (i : Instr) : Int :=
  if letter = 114 ∨ letter = 119 then (if within x f.regs then 0 else 35)
  else if letter = 111 then (if x ≠ -1 ∧ within x f.regs = false then 35 else 0)
  else if letter = 112 then (if ((p.fn i.b).params = 0 ∧ x ≠ 0) ∨ (0 < (p.fn i.b).params ∧ (x < 0 ∨ w64 (f.regs - (p.fn i.b).params) < x)) then 35 else 0)
  else if letter = 118 then (if within x p.vars.length then 0 else 36)
  else if letter = 97 then (if within x p.vars.length then (if (p.vars.getD x.toNat default).atomic then 0 else 37) else 36)
  else if letter = 108 then (if within x p.locks then 0 else 36)
  else if letter = 99 then (if within x p.chans.length then 0 else 36)
  else if letter = 115 then (if within x f.sels.length then 0 else 36)
  else if letter = 102 then (if within x p.funcs.length then 0 else 36)
  else if letter = 116 then (if within x f.code.length then 0 else 38)
  else 0

def Instr.field (i : Instr) (j : Nat) : Int := [i.a, i.b, i.c, i.n].getD j 0
theorem field_getD (i : Instr) (j : Nat) : [V.int i.a, V.int i.b, V.int i.c, V.int i.n].getD j default = .int (i.field j) := getD_ints [i.a, i.b, i.c, i.n] j
def letterAt (i : Instr) (j : Nat) : Int := ((formL i.op).getD j 0 : Nat)
def unusedTo (i : Instr) (n : Nat) : Bool := (List.range n).any fun j => decide (letterAt i j = 45) && decide (i.field j ≠ 0)
def operTo (p : Prg) (f : Fnc) (i : Instr) (n : Nat) : Int := firstNZ ((List.range n).map fun j => operandErr p f (letterAt i j) (i.field j) i)
def instrErr (p : Prg) (f : Fnc) (i : Instr) : Int :=
  if isLocal i.op = false ∧ isVisible i.op = false then 33 else if unusedTo i 4 then 34 else operTo p f i 4

theorem letter_fin : ∀ n : Fin 66, ∀ j : Fin 4, (formL n.val).getD j.val 0 = 112 → n.val = 62 ∧ j.val = 2 := by decide +kernel
theorem letter_112 {i : Instr} {j : Nat} (h : letterAt i j = 112) : i.op = 62 ∧ j = 2 := by
  unfold letterAt at h
  by_cases hr : i.op < 1 ∨ 65 < i.op
  · rw [formL_none hr] at h; simp at h
  · have e : ((⟨i.op.toNat, by omega⟩ : Fin 66).val : Int) = i.op := by simp; omega
    by_cases hj : j < 4
    · have := letter_fin ⟨i.op.toNat, by omega⟩ ⟨j, hj⟩
      rw [e] at this
      have := this (by exact_mod_cast h)
      simp at this
      omega
    · have hl : (formL i.op).length ≤ 4 := by
        by_cases hv : isLocal i.op = true ∨ isVisible i.op = true
        · rw [formL_four hv]; exact Nat.le_refl _
        · have : formL i.op = [] := by
            simp [isLocal, isVisible] at hv
            unfold formL
            (repeat (rw [if_neg (by omega)]))
          rw [this]; simp
      rw [List.getD_eq_getElem?_getD, List.getElem?_eq_none (by omega)] at h
      simp at h
theorem operTo_succ (p : Prg) (f : Fnc) (i : Instr) (n : Nat) : operTo p f i (n + 1) = if operTo p f i n ≠ 0 then operTo p f i n else operandErr p f (letterAt i n) (i.field n) i := firstNZ_range _ _
theorem operTo_end {p : Prg} {f : Fnc} {i : Instr} {n : Nat} (h : operTo p f i n ≠ 0) : ∀ m, operTo p f i (n + m) = operTo p f i n
  | 0 => rfl
  | m + 1 => by rw [← Nat.add_assoc, operTo_succ, operTo_end h m, if_pos h]
theorem unusedTo_succ (i : Instr) (n : Nat) : unusedTo i (n + 1) = (unusedTo i n || (decide (letterAt i n = 45) && decide (i.field n ≠ 0))) := any_range_succ _ _
theorem unusedTo_end {i : Instr} {n : Nat} (h : unusedTo i n = true) : ∀ m, unusedTo i (n + m) = true
  | 0 => h
  | m + 1 => by rw [← Nat.add_assoc, unusedTo_succ, unusedTo_end h m]; rfl
theorem oper_112 {p : Prg} {f : Fnc} {i : Instr} {j : Nat} (h0 : operTo p f i j = 0) (h : letterAt i j = 112) : 0 ≤ i.b ∧ i.b < p.funcs.length := by
  obtain ⟨h62, rfl⟩ := letter_112 h
  rw [operTo_succ] at h0
  split at h0
  · rename_i hn; exact absurd h0 hn
  · have e1 : letterAt i 1 = 102 := by simp [letterAt, h62, formL]
    have e2 : i.field 1 = i.b := rfl
    rw [e1, e2] at h0
    by_cases hw : within i.b p.funcs.length = true
    · simpa [within] using hw
    · simp [operandErr, hw] at h0

def caseErr (p : Prg) (f : Fnc) (c : Cas) : Int :=
  if within c.chan p.chans.length = false then 36
  else if within c.reg f.regs = false ∧ (c.send = true ∨ c.reg ≠ -1) then 35
  else if c.send = true ∧ p.cap c.chan = 0 then 37
  else if within c.to_ f.code.length = false then 38 else 0
theorem within_false {x n : Int} : within x n = false ↔ x < 0 ∨ n ≤ x := by
  unfold within
  rw [Bool.and_eq_false_iff]
  simp only [decide_eq_false_iff_not]
  omega
theorem caseErr_36 {p : Prg} {f : Fnc} {c : Cas} (h : c.chan < 0 ∨ (p.chans.length : Int) ≤ c.chan) : caseErr p f c = 36 := by
  unfold caseErr; rw [if_pos (within_false.2 h)]
theorem caseErr_35 {p : Prg} {f : Fnc} {c : Cas} (h : 0 ≤ c.chan ∧ c.chan < (p.chans.length : Int)) (h2 : (c.reg < 0 ∨ f.regs ≤ c.reg) ∧ (c.send = true ∨ ¬c.reg = -1)) : caseErr p f c = 35 := by
  unfold caseErr; rw [if_neg (by rw [within_false]; omega), if_pos ⟨within_false.2 h2.1, h2.2⟩]
theorem caseErr_37 {p : Prg} {f : Fnc} {c : Cas} (h : 0 ≤ c.chan ∧ c.chan < (p.chans.length : Int)) (h2 : c.reg < 0 ∨ f.regs ≤ c.reg → c.send = false ∧ c.reg = -1) (h3 : c.send = true ∧ p.chans.getD c.chan.toNat 0 = 0) : caseErr p f c = 37 := by
  unfold caseErr Prg.cap
  rw [if_neg (by rw [within_false]; omega), if_neg (by rw [within_false]; rintro ⟨q1, q2⟩; have := h2 q1; simp_all), if_pos h3]
theorem caseErr_38 {p : Prg} {f : Fnc} {c : Cas} (h : 0 ≤ c.chan ∧ c.chan < (p.chans.length : Int)) (h2 : c.reg < 0 ∨ f.regs ≤ c.reg → c.send = false ∧ c.reg = -1) (h3 : c.send = true → ¬p.chans.getD c.chan.toNat 0 = 0) (h4 : c.to_ < 0 ∨ (f.code.length : Int) ≤ c.to_) : caseErr p f c = 38 := by
  unfold caseErr Prg.cap
  rw [if_neg (by rw [within_false]; omega), if_neg (by rw [within_false]; rintro ⟨q1, q2⟩; have := h2 q1; simp_all), if_neg (fun q => h3 q.1 q.2), if_pos (within_false.2 h4)]
theorem caseErr_0 {p : Prg} {f : Fnc} {c : Cas} (h : 0 ≤ c.chan ∧ c.chan < (p.chans.length : Int)) (h2 : c.reg < 0 ∨ f.regs ≤ c.reg → c.send = false ∧ c.reg = -1) (h3 : c.send = true → ¬p.chans.getD c.chan.toNat 0 = 0) (h4 : 0 ≤ c.to_ ∧ c.to_ < (f.code.length : Int)) : caseErr p f c = 0 := by
  unfold caseErr Prg.cap
  rw [if_neg (by rw [within_false]; omega), if_neg (by rw [within_false]; rintro ⟨q1, q2⟩; have := h2 q1; simp_all), if_neg (fun q => h3 q.1 q.2), if_neg (by rw [within_false]; omega)]
def casesErr (p : Prg) (f : Fnc) (s : Sel) (n : Nat) : Int := firstNZ ((s.cases.take n).map (caseErr p f))
def selErr (p : Prg) (f : Fnc) (s : Sel) : Int :=
  let e := casesErr p f s s.cases.length
  if e ≠ 0 then e else if s.els ≠ -1 ∧ within s.els f.code.length = false then 38 else 0
def selsErr (p : Prg) (f : Fnc) (n : Nat) : Int := firstNZ ((f.sels.take n).map (selErr p f))
def selsShort (f : Fnc) (n : Nat) : Bool := (f.sels.take n).all fun s => decide (1 ≤ s.cases.length) && decide (s.cases.length ≤ 4)
def formed (n : Int) (f : Fnc) : Bool :=
  if f.regs < 0 ∨ 8 < f.regs ∨ f.params < 0 ∨ f.regs < f.params ∨ (n = 0 ∧ f.params ≠ 0) then false
  else if f.code.length < 1 ∨ 64 < f.code.length ∨ 4 < f.sels.length then false
  else selsShort f f.sels.length

theorem all_take {α : Type} [Inhabited α] (f : α → Bool) (b : List α) {i : Nat} (h : i < b.length) : (b.take (i + 1)).all f = ((b.take i).all f && f (b.getD i default)) := by
  rw [List.take_succ_eq_append_getElem h]
  simp only [List.all_append, List.all_cons, List.all_nil, Bool.and_true, List.getD_eq_getElem?_getD, List.getElem?_eq_getElem h, Option.getD_some]
theorem all_miss {α : Type} [Inhabited α] {f : α → Bool} {b : List α} {i : Nat} (h : i < b.length) (h0 : f (b.getD i default) = false) : b.all f = false := by
  rw [List.all_eq_false]
  exact ⟨_, getD_mem b h, by rw [h0]; simp⟩
theorem selsErr_succ (p : Prg) (f : Fnc) {i : Nat} (h : i < f.sels.length) : selsErr p f (i + 1) = if selsErr p f i ≠ 0 then selsErr p f i else selErr p f (f.sels.getD i default) := firstNZ_take _ _ h
theorem casesErr_succ (p : Prg) (f : Fnc) (s : Sel) {i : Nat} (h : i < s.cases.length) : casesErr p f s (i + 1) = if casesErr p f s i ≠ 0 then casesErr p f s i else caseErr p f (s.cases.getD i default) := firstNZ_take _ _ h
theorem sels_hit {p : Prg} {f : Fnc} {i : Nat} (hi : i < f.sels.length) (hz : selsErr p f i = 0) {e : Int} (he : selErr p f (f.sels.getD i default) = e) (hne : e ≠ 0) : selsErr p f f.sels.length = e := by
  unfold selsErr
  rw [List.take_length, firstNZ_hit _ _ hi hz (by rw [he]; exact hne), he]
theorem selects_hit {p : Prg} {f : Fnc} {i j : Nat} (hi : i < f.sels.length) (hz : selsErr p f i = 0) (hj : j < (f.sels.getD i default).cases.length) (hc : casesErr p f (f.sels.getD i default) j = 0) {e : Int} (he : caseErr p f ((f.sels.getD i default).cases.getD j default) = e) (hne : e ≠ 0) : selsErr p f f.sels.length = e := by
  refine sels_hit hi hz ?_ hne
  have : casesErr p f (f.sels.getD i default) (f.sels.getD i default).cases.length = e := by
    unfold casesErr
    rw [List.take_length, firstNZ_hit _ _ hj hc (by rw [he]; exact hne), he]
  simp only [selErr, this]
  rw [if_pos hne]
theorem getD_mem_sels {f : Fnc} {i : Nat} (hi : i < f.sels.length) : f.sels.getD i default ∈ f.sels := getD_mem _ hi

/-- The first instruction with an error, and its error; 0: none. -/
def codeErr (p : Prg) (f : Fnc) (n : Nat) : Int := firstNZ ((f.code.take n).map (instrErr p f))
def lastOk (f : Fnc) : Bool :=
  let l := (f.at_ ((f.code.length : Int) - 1)).op
  decide (l = 42) || decide (l = 45) || decide (l = 61)
def funcErr (p : Prg) (n : Int) (f : Fnc) : Int :=
  if formed n f = false then 32
  else if selsErr p f f.sels.length ≠ 0 then selsErr p f f.sels.length
  else if codeErr p f f.code.length ≠ 0 then codeErr p f f.code.length
  else if lastOk f then 0 else 39
def funcsErr (p : Prg) (n : Nat) : Int := firstNZ ((List.range n).map fun (i : Nat) => funcErr p i (p.fn i))
def capsErr (p : Prg) (n : Nat) : Bool := (p.chans.take n).all fun c => decide (0 ≤ c) && decide (c ≤ 4)
def funcPc (p : Prg) (n : Int) (f : Fnc) : Int :=
  if formed n f = false then 0
  else if selsErr p f f.sels.length ≠ 0 then 0
  else if codeErr p f f.code.length ≠ 0 then (f.code.findIdx fun i => decide (instrErr p f i ≠ 0) : Nat)
  else (f.code.length : Int) - 1
def badFn (p : Prg) : Nat := (List.range p.funcs.length).findIdx fun (i : Nat) => decide (funcErr p i (p.fn i) ≠ 0)
/-- The error of a program. -/
def checkP (p : Prg) : Int :=
  if 8 < p.vars.length ∨ p.locks < 0 ∨ 4 < p.locks ∨ 4 < p.chans.length ∨ p.funcs.length < 1 ∨ 8 < p.funcs.length then 30
  else if capsErr p p.chans.length = false then 31
  else funcsErr p p.funcs.length
/-- Where it is. -/
def spotP (p : Prg) : Int × Int :=
  if 8 < p.vars.length ∨ p.locks < 0 ∨ 4 < p.locks ∨ 4 < p.chans.length ∨ p.funcs.length < 1 ∨ 8 < p.funcs.length then (0, 0)
  else if capsErr p p.chans.length = false then (0, 0)
  else if funcsErr p p.funcs.length = 0 then (0, 0)
  else ((badFn p : Int), funcPc p (badFn p) (p.fn (badFn p)))
def rightP (p : Prg) : Bool := decide (checkP p = 0)

theorem fn_nat (p : Prg) (i : Nat) : p.fn (i : Int) = p.funcs.getD i default := by simp [Prg.fn]
theorem codeErr_succ (p : Prg) (f : Fnc) {i : Nat} (h : i < f.code.length) : codeErr p f (i + 1) = if codeErr p f i ≠ 0 then codeErr p f i else instrErr p f (f.code.getD i default) := firstNZ_take _ _ h
theorem funcsErr_succ (p : Prg) (i : Nat) : funcsErr p (i + 1) = if funcsErr p i ≠ 0 then funcsErr p i else funcErr p i (p.fn i) := firstNZ_range _ _
theorem funcs_hit {p : Prg} {i : Nat} (hi : i < p.funcs.length) (hz : funcsErr p i = 0) {e : Int} (he : funcErr p i (p.fn i) = e) (hne : e ≠ 0) : funcsErr p p.funcs.length = e ∧ badFn p = i := by
  constructor
  · have h1 : funcsErr p (i + 1) = e := by rw [funcsErr_succ, if_neg (fun q => q hz), he]
    have : ∀ m, funcsErr p (i + 1 + m) = e := by
      intro m
      induction m with
      | zero => exact h1
      | succ m ih => rw [← Nat.add_assoc, funcsErr_succ, ih, if_pos hne]
    have h2 := this (p.funcs.length - (i + 1))
    rwa [show i + 1 + (p.funcs.length - (i + 1)) = p.funcs.length by omega] at h2
  · refine findIdx_range (Nat.le_of_lt hi) (fun j hj => ?_) (.inr (by simp [he, hne]))
    have := firstNZ_zero.1 hz (funcErr p j (p.fn j)) (List.mem_map.2 ⟨j, by simpa using hj, rfl⟩)
    simp [this]
theorem check_sizes {p : Prg} (h : 8 < p.vars.length ∨ p.locks < 0 ∨ 4 < p.locks ∨ 4 < p.chans.length ∨ p.funcs.length < 1 ∨ 8 < p.funcs.length) : checkP p = 30 ∧ spotP p = (0, 0) := by
  unfold checkP spotP; rw [if_pos h, if_pos h]; exact ⟨rfl, rfl⟩
def Sizes (p : Prg) : Prop := ¬(8 < p.vars.length ∨ p.locks < 0 ∨ 4 < p.locks ∨ 4 < p.chans.length ∨ p.funcs.length < 1 ∨ 8 < p.funcs.length)
theorem check_caps {p : Prg} (h : Sizes p) (h2 : capsErr p p.chans.length = false) : checkP p = 31 ∧ spotP p = (0, 0) := by
  unfold checkP spotP; rw [if_neg h, if_neg h, if_pos h2, if_pos h2]; exact ⟨rfl, rfl⟩
theorem caps_miss {p : Prg} {i : Nat} (hi : i < p.chans.length) (h : p.chans.getD i 0 < 0 ∨ 4 < p.chans.getD i 0) : capsErr p p.chans.length = false := by
  unfold capsErr
  rw [List.take_length]
  refine all_miss hi ?_
  rw [Bool.and_eq_false_iff, decide_eq_false_iff_not, decide_eq_false_iff_not]
  have : p.chans.getD i default = p.chans.getD i 0 := rfl
  omega
theorem check_hit {p : Prg} (h : Sizes p) (h2 : capsErr p p.chans.length = true) {i : Nat} (hi : i < p.funcs.length) (hz : funcsErr p i = 0) {e : Int} (he : funcErr p i (p.fn i) = e) (hne : e ≠ 0) :
    checkP p = e ∧ spotP p = ((i : Int), funcPc p i (p.fn i)) := by
  obtain ⟨h3, h4⟩ := funcs_hit hi hz he hne
  unfold checkP spotP
  rw [if_neg h, if_neg h, if_neg (by rw [h2]; simp), if_neg (by rw [h2]; simp), h3, if_neg hne, h4]
  exact ⟨rfl, rfl⟩
theorem check_ok {p : Prg} (h : Sizes p) (h2 : capsErr p p.chans.length = true) (hz : funcsErr p p.funcs.length = 0) : checkP p = 0 ∧ spotP p = (0, 0) := by
  unfold checkP spotP
  rw [if_neg h, if_neg h, if_neg (by rw [h2]; simp), if_neg (by rw [h2]; simp), hz, if_pos rfl]
  exact ⟨rfl, rfl⟩
theorem code_hit {p : Prg} {f : Fnc} {j : Nat} (hj : j < f.code.length) (hz : codeErr p f j = 0) {e : Int} (he : instrErr p f (f.code.getD j default) = e) (hne : e ≠ 0) : codeErr p f f.code.length = e ∧ (f.code.findIdx fun i => decide (instrErr p f i ≠ 0)) = j := by
  constructor
  · unfold codeErr
    rw [List.take_length, firstNZ_hit _ _ hj hz (by rw [he]; exact hne), he]
  · rw [List.findIdx_eq hj]
    have e2 : f.code.getD j default = f.code[j] := by simp [List.getD_eq_getElem?_getD, hj]
    rw [e2] at he
    refine ⟨by simp [he, hne], fun k hk => ?_⟩
    have := firstNZ_zero.1 hz (instrErr p f f.code[k]) (List.mem_map.2 ⟨_, List.mem_take_iff_getElem.2 ⟨k, by omega, rfl⟩, rfl⟩)
    simp [this]

theorem formed_len {m : Int} {f : Fnc} (h : formed m f = true) : (0 ≤ f.regs ∧ f.regs ≤ 8 ∧ 0 ≤ f.params ∧ f.params ≤ f.regs ∧ (m = 0 → f.params = 0)) ∧ 1 ≤ f.code.length ∧ f.code.length ≤ 64 ∧ f.sels.length ≤ 4 ∧ selsShort f f.sels.length = true := by
  unfold formed at h
  split at h
  · cases h
  split at h
  · cases h
  rename_i h1 h2
  exact ⟨by omega, by omega, by omega, by omega, h⟩
theorem check_formed {p : Prg} (h : Sizes p) (h2 : capsErr p p.chans.length = true) {i : Nat} (hi : i < p.funcs.length) (hz : funcsErr p i = 0) (hf : formed i (p.funcs.getD i default) = false) : checkP p = 32 ∧ spotP p = ((i : Int), 0) := by
  have := check_hit h h2 hi hz (e := 32) (by rw [fn_nat]; unfold funcErr; rw [if_pos hf]) (by decide)
  rw [fn_nat] at this
  unfold funcPc at this
  rwa [if_pos hf] at this
theorem check_sels {p : Prg} (h : Sizes p) (h2 : capsErr p p.chans.length = true) {i : Nat} (hi : i < p.funcs.length) (hz : funcsErr p i = 0) (hf : formed i (p.funcs.getD i default) = true) (hs : selsErr p (p.funcs.getD i default) (p.funcs.getD i default).sels.length ≠ 0) :
    checkP p = selsErr p (p.funcs.getD i default) (p.funcs.getD i default).sels.length ∧ spotP p = ((i : Int), 0) := by
  have := check_hit h h2 hi hz (e := selsErr p (p.funcs.getD i default) (p.funcs.getD i default).sels.length) (by rw [fn_nat]; unfold funcErr; rw [if_neg (by rw [hf]; simp), if_pos hs]) hs
  rw [fn_nat] at this
  unfold funcPc at this
  rwa [if_neg (by rw [hf]; simp), if_pos hs] at this
theorem check_code {p : Prg} (h : Sizes p) (h2 : capsErr p p.chans.length = true) {i : Nat} (hi : i < p.funcs.length) (hz : funcsErr p i = 0) (hf : formed i (p.funcs.getD i default) = true) (hs : selsErr p (p.funcs.getD i default) (p.funcs.getD i default).sels.length = 0)
    {j : Nat} (hj : j < (p.funcs.getD i default).code.length) (hk : codeErr p (p.funcs.getD i default) j = 0) (he : instrErr p (p.funcs.getD i default) ((p.funcs.getD i default).code.getD j default) ≠ 0) :
    checkP p = instrErr p (p.funcs.getD i default) ((p.funcs.getD i default).code.getD j default) ∧ spotP p = ((i : Int), (j : Int)) := by
  obtain ⟨c1, c2⟩ := code_hit hj hk rfl he
  have := check_hit h h2 hi hz (e := instrErr p (p.funcs.getD i default) ((p.funcs.getD i default).code.getD j default)) (by rw [fn_nat]; unfold funcErr; rw [if_neg (by rw [hf]; simp), if_neg (fun q => q hs), if_pos (by rw [c1]; exact he), c1]) he
  rw [fn_nat] at this
  unfold funcPc at this
  rwa [if_neg (by rw [hf]; simp), if_neg (fun q => q hs), if_pos (by rw [c1]; exact he), c2] at this
theorem check_fall {p : Prg} (h : Sizes p) (h2 : capsErr p p.chans.length = true) {i : Nat} (hi : i < p.funcs.length) (hz : funcsErr p i = 0) (hf : formed i (p.funcs.getD i default) = true) (hs : selsErr p (p.funcs.getD i default) (p.funcs.getD i default).sels.length = 0)
    (hk : codeErr p (p.funcs.getD i default) (p.funcs.getD i default).code.length = 0) (hl : lastOk (p.funcs.getD i default) = false) : checkP p = 39 ∧ spotP p = ((i : Int), ((p.funcs.getD i default).code.length : Int) - 1) := by
  have := check_hit h h2 hi hz (e := 39) (by rw [fn_nat]; unfold funcErr; rw [if_neg (by rw [hf]; simp), if_neg (fun q => q hs), if_neg (fun q => q hk), hl]; rfl) (by decide)
  rw [fn_nat] at this
  unfold funcPc at this
  rwa [if_neg (by rw [hf]; simp), if_neg (fun q => q hs), if_neg (fun q => q hk)] at this
theorem last_op (f : Fnc) (h : 1 ≤ f.code.length) : f.at_ ((f.code.length : Int) - 1) = f.code.getD (f.code.length - 1) default := by
  unfold Fnc.at_
  rw [show ((f.code.length : Int) - 1).toNat = f.code.length - 1 by omega]

theorem last_bad {f : Fnc} (hl : 1 ≤ f.code.length) (h : (¬(f.code.getD (f.code.length - 1) default).op = 42 ∧ ¬(f.code.getD (f.code.length - 1) default).op = 45) ∧ ¬(f.code.getD (f.code.length - 1) default).op = 61) : lastOk f = false := by
  simp only [lastOk, last_op f hl, h.1.1, h.1.2, h.2, decide_false, Bool.or_self]
theorem last_good {f : Fnc} (hl : 1 ≤ f.code.length) (h : ¬(f.code.getD (f.code.length - 1) default).op = 42 → ¬(f.code.getD (f.code.length - 1) default).op = 45 → (f.code.getD (f.code.length - 1) default).op = 61) : lastOk f = true := by
  simp only [lastOk, last_op f hl]
  by_cases q1 : (f.code.getD (f.code.length - 1) default).op = 42
  · simp only [q1, decide_true, Bool.true_or]
  · by_cases q2 : (f.code.getD (f.code.length - 1) default).op = 45
    · simp only [q2, decide_true, Bool.or_true, Bool.true_or]
    · simp only [h q1 q2, decide_true, Bool.or_true]

/-! ### States -/

def failing (op why : Int) : Bool :=
  if why = 1 then decide (op = 44) else if why = 2 then decide (op = 19) || decide (op = 20) else if why = 3 then decide (25 ≤ op) && decide (op ≤ 27)
  else if why = 4 then decide (op = 58) || decide (op = 61) else if why = 5 then decide (op = 60) else if why = 6 then decide (op = 56)
  else if why = 7 then decide (op = 63) else if why = 8 then decide (op = 62) else false
def regsZero (g : Gor) (m : Int) (n : Nat) : Bool := (List.range n).all fun i => decide ((i : Int) < m) || decide (g.regs.getD i 0 = 0)
def gorOk (p : Prg) (g : Gor) : Bool :=
  if g.status < 1 ∨ 5 < g.status ∨ g.func < 0 ∨ (p.funcs.length : Int) ≤ g.func ∨ g.pc < 0 ∨ ((p.fn g.func).code.length : Int) ≤ g.pc then false
  else
    let m := if g.status = 3 ∨ g.status = 4 then 0 else (p.fn g.func).regs
    if regsZero g m 8 = false then false
    else
      let op := ((p.fn g.func).at_ g.pc).op
      if g.status = 4 then failing op g.why
      else decide (g.why = 0) && (decide (g.status ≠ 3) || decide (op = 45)) && (decide (g.status ≠ 5) || isLocal op)
def bufZero (c : Chn) (n : Nat) : Bool := (List.range n).all fun i => decide ((i : Int) < c.len) || decide (c.buf.getD i 0 = 0)
def chanOk (p : Prg) (s : Stt) (n : Int) : Bool :=
  let c := s.chn n
  if c.len < 0 ∨ p.cap n < c.len ∨ c.offer < 0 ∨ 3 < c.offer ∨ (p.cap n ≠ 0 ∧ c.offer ≠ 0) then false
  else if bufZero c 4 = false then false
  else if c.offer = 0 then decide (c.from_ = 0) && decide (c.val = 0)
  else if (c.offer ≠ 1 ∧ c.val ≠ 0) ∨ (c.offer = 1 ∧ c.closed = true) ∨ (c.offer = 3 ∧ c.closed = false) then false
  else if c.from_ < 0 ∨ s.count ≤ c.from_ ∨ (s.gor c.from_).status ≠ 2 then false
  else decide ((instrAt p s c.from_).op = 58) && decide ((instrAt p s c.from_).a = n)
def gorsOk (p : Prg) (s : Stt) (n : Nat) : Bool := (List.range n).all fun i => if (i : Int) < s.count then gorOk p (s.gor i) else decide (s.gor i = zeroGor)
def varsOk (p : Prg) (s : Stt) (n : Nat) : Bool := (List.range n).all fun i => decide (i < p.vars.length) || decide (s.vars.getD i 0 = 0)
def ownOk (p : Prg) (s : Stt) (i : Nat) : Bool := decide (0 ≤ s.owner.getD i 0) && decide (s.owner.getD i 0 ≤ s.count) && (decide ((i : Int) < p.locks) || decide (s.owner.getD i 0 = 0))
def ownersOk (p : Prg) (s : Stt) (n : Nat) : Bool := (List.range n).all (ownOk p s)
def chansOk (p : Prg) (s : Stt) (n : Nat) : Bool := (List.range n).all fun i => if i < p.chans.length then chanOk p s i else decide (s.chn i = zeroChn)
def offersTo (s : Stt) (g : Int) (n : Nat) : Nat := ((List.range n).filter fun (i : Nat) => decide ((s.chn i).offer ≠ 0) && decide ((s.chn i).from_ = g)).length
def waitsOk (s : Stt) (n : Nat) : Bool := (List.range n).all fun g => decide ((s.gor g).status ≠ 2) || decide (offersTo s g 4 = 1)
def validP (p : Prg) (s : Stt) : Bool :=
  rightP p && decide (1 ≤ s.count) && decide (s.count ≤ 6) && gorsOk p s 6 && varsOk p s 8 && ownersOk p s 4 && chansOk p s 4 && waitsOk s s.count.toNat

end Go.Eng
/- What local runs, steps, and runs compute. apply is what an operation of numbers makes, and its error. -/
namespace Go.Eng
set_option linter.unusedSimpArgs false
set_option linter.unusedVariables false

section
variable (apply : Int → Int → Int → Int × Int)

def ended (g : Gor) (status why : Int) : Gor := ⟨status, g.func, g.pc, why, List.replicate 8 0⟩
def Gor.setR (g : Gor) (r v : Int) : Gor := { g with regs := g.regs.set r.toNat v }
def Gor.next (g : Gor) : Gor := { g with pc := g.pc + 1 }
/-- One local instruction: where it goes on, or how it ends. -/
def localStep (p : Prg) (g : Gor) : Gor × Bool :=
  let i := (p.fn g.func).at_ g.pc
  if i.op ≤ 15 then ((g.setR i.a (apply i.op (g.reg i.b) 0).1).next, true)
  else if i.op ≤ 36 then
    let x := apply i.op (g.reg i.b) (g.reg i.c)
    if x.2 = 20 then (ended g 4 2, false) else if x.2 = 21 then (ended g 4 3, false) else ((g.setR i.a x.1).next, true)
  else if i.op = 40 then ((g.setR i.a i.n).next, true)
  else if i.op = 41 then ((g.setR i.a (g.reg i.b)).next, true)
  else if i.op = 42 then ({ g with pc := i.a }, true)
  else if i.op = 43 then (if g.reg i.a ≠ 0 then { g with pc := i.b } else g.next, true)
  else if i.op = 44 then (if g.reg i.a = 0 then (ended g 4 1, false) else (g.next, true))
  else (ended g 3 0, false)
def settledN (p : Prg) : Nat → Gor → Gor
  | 0, g => if isLocal ((p.fn g.func).at_ g.pc).op then { g with status := 5 } else g
  | n + 1, g => if isLocal ((p.fn g.func).at_ g.pc).op then
      let r := localStep apply p g
      if r.2 then settledN p n r.1 else r.1
    else g
def settled (p : Prg) (g : Gor) (fuel : Int) : Gor := settledN apply p fuel.toNat { g with status := 1 }
def startVars (p : Prg) (n : Nat) : List Int := (List.range 8).map fun i => if i < n then (p.vars.getD i default).init else 0
def start (p : Prg) (fuel : Int) : Stt × Int :=
  if rightP p = false then (zeroStt, 3) else if fuel < 0 ∨ 4096 < fuel then (zeroStt, 1)
  else ({ zeroStt with vars := startVars p p.vars.length, gos := zeroStt.gos.set 0 (settled apply p zeroGor fuel), count := 1 }, 0)
def settle (p : Prg) (s : Stt) (g fuel : Int) : Stt × Int :=
  if rightP p = false then (zeroStt, 3) else if validP p s = false then (zeroStt, 4)
  else if g < 0 ∨ 6 ≤ g ∨ fuel < 0 ∨ 4096 < fuel then (zeroStt, 1) else if s.count ≤ g then (zeroStt, 9)
  else if (s.gor g).status = 1 ∨ (s.gor g).status = 5 then ({ s with gos := s.gos.set g.toNat (settled apply p (s.gor g) fuel) }, 0) else (s, 0)
def take (p : Prg) (s : Stt) (x : Pck) (fuel : Int) : Stt × Event :=
  let d := visible p s x.go x.alt
  if d.why ≠ 0 then
    ({ d.s with gos := d.s.gos.set x.go.toNat { d.s.gor x.go with status := 4, why := d.why, regs := List.replicate 8 0 } }, event p s x 0)
  else
    let e := event p s x d.val
    if d.to_ < 0 then (d.s, e)
    else
      let s1 := { d.s with gos := d.s.gos.set x.go.toNat { d.s.gor x.go with pc := d.to_ } }
      let out := (settle apply p s1 x.go fuel).1
      (if s.count < out.count then (settle apply p out s.count fuel).1 else out, e)
def doStep (p : Prg) (s : Stt) (x : Pck) (fuel : Int) : Stt × Event × Int :=
  if fuel < 0 ∨ 4096 < fuel then (zeroStt, zeroEvent, 1) else if has p s x = false then (zeroStt, zeroEvent, 5)
  else ((take apply p s x fuel).1, (take apply p s x fuel).2, 0)

def reach (p : Prg) (fuel : Int) (s : Stt) (l : List Pck) : Stt := l.foldl (fun s x => (doStep apply p s x fuel).1) s
def stateAt (p : Prg) (fuel : Int) (s : Stt) (l : List Pck) (j : Nat) : Stt := reach apply p fuel s (l.take j)
def eventAt (p : Prg) (fuel : Int) (s : Stt) (l : List Pck) (j : Nat) : Event := (doStep apply p (stateAt apply p fuel s l j) (l.getD j default) fuel).2.1
def okAtR (p : Prg) (fuel : Int) (s : Stt) (l : List Pck) (j : Nat) : Bool := (ready p (stateAt apply p fuel s l j)).any fun y => decide (l.getD j default = y)
def stopAt (p : Prg) (fuel : Int) (s : Stt) (l : List Pck) : Nat := (List.range l.length).findIdx fun j => !okAtR apply p fuel s l j
def statesTo (p : Prg) (fuel : Int) (s : Stt) (l : List Pck) (n : Nat) : List Stt := (List.range (n + 1)).map (stateAt apply p fuel s l)
def eventsTo (p : Prg) (fuel : Int) (s : Stt) (l : List Pck) (n : Nat) : List Event := (List.range n).map (eventAt apply p fuel s l)

def budgetOk (b : Bud) : Bool := decide (0 ≤ b.steps) && decide (b.steps ≤ 256) && decide (0 ≤ b.fuel) && decide (b.fuel ≤ 4096) && decide (0 ≤ b.runs) && decide (b.runs ≤ 65536)
def asked (p : Prg) (n : Int) (b : Bud) : Int := if rightP p = false then 3 else if 256 < n then 2 else if budgetOk b = false then 6 else 0
end
end Go.Eng
