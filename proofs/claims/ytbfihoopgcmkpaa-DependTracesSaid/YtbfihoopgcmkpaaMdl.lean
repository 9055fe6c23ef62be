/- The document's data, as Lean's own structures, and how they stand in memory. -/
import Derived.Test.YtbfihoopgcmkpaaEngR
namespace Go.Eng
set_option linter.unusedSimpArgs false
set_option linter.unusedVariables false

structure Access where
  kind : Int
  num : Int
  write : Bool
  deriving DecidableEq, Inhabited

structure Event where
  go : Int
  func : Int
  pc : Int
  op : Int
  alt : Int
  val : Int
  tag : Int
  touch : List Access
  touches : Int
  deriving DecidableEq, Inhabited

def Access.v (a : Access) : V := .agg [.int a.kind, .int a.num, .bool a.write]
def Event.v (e : Event) : V := .agg [.int e.go, .int e.func, .int e.pc, .int e.op, .int e.alt, .int e.val, .int e.tag, .agg (e.touch.map Access.v), .int e.touches]

/-- An element of a list, out of its data. -/
theorem getD_map {α : Type} [Inhabited α] (f : α → V) (l : List α) {i : Nat} (h : i < l.length) (d : V) : (l.map f).getD i d = f (l.getD i default) := by
  simp [List.getD_eq_getElem?_getD, h]

theorem getD_mem {α : Type} [Inhabited α] (l : List α) {i : Nat} (h : i < l.length) : l.getD i default ∈ l := by
  simp [List.getD_eq_getElem?_getD, h]

/-! ### What the functions compute -/

def clash2 (x y : Access) : Bool := decide (x.kind = y.kind) && decide (x.num = y.num) && (x.write || y.write)
def clash (a b : List Access) : Bool := a.any fun x => b.any fun y => clash2 x y

theorem any_take {α : Type} [Inhabited α] (f : α → Bool) (b : List α) {i : Nat} (h : i < b.length) : (b.take (i + 1)).any f = ((b.take i).any f || f (b.getD i default)) := by
  rw [List.take_succ_eq_append_getElem h]
  simp only [List.any_append, List.any_cons, List.any_nil, Bool.or_false, List.getD_eq_getElem?_getD, List.getElem?_eq_getElem h, Option.getD_some]
theorem clash_take (a b : List Access) {i : Nat} (h : i < a.length) : clash (a.take (i + 1)) b = (clash (a.take i) b || b.any fun y => clash2 (a.getD i default) y) := any_take _ a h

/-- What an event touches. -/
def Event.of (e : Event) : List Access := e.touch.take (max 0 (min 6 e.touches)).toNat

def dependent (a b : Event) : Bool := clash a.of b.of

theorem Event.of_len (e : Event) (h : e.touch.length = 6) : e.of.length ≤ 6 := by simp [Event.of]; omega

theorem Event.v0 (e : Event) : e.v.toList.getD 0 default = .int e.go := rfl
theorem Event.v7 (e : Event) : e.v.toList.getD 7 default = .agg (e.touch.map Access.v) := rfl
theorem Event.v8 (e : Event) : e.v.toList.getD 8 default = .int e.touches := rfl
theorem Access.v0 (a : Access) : a.v.toList.getD 0 default = .int a.kind := rfl
theorem Access.v1 (a : Access) : a.v.toList.getD 1 default = .int a.num := rfl
theorem Access.v2 (a : Access) : a.v.toList.getD 2 default = .bool a.write := rfl

theorem beq_acc (a : Access) (k n : Int) (w : Bool) : V.beq a.v (.agg [.int k, .int n, .bool w]) = decide (a = ⟨k, n, w⟩) := by
  obtain ⟨k', n', w'⟩ := a
  by_cases h1 : k' = k <;> by_cases h2 : n' = n <;> cases w <;> cases w' <;> simp [Access.v, V.beq, V.beqL, h1, h2]

def most (k : Int) : Int := if k = 1 then 8 else if k = 2 then 4 else if k = 3 then 4 else if k = 4 then 1 else if k = 6 then 1 else if k = 5 then 6 else 0
def cmp (a b : Access) : Int := if a.kind ≠ b.kind ∧ a.kind < b.kind ∨ a.kind = b.kind ∧ a.num < b.num then -1 else if a.kind = b.kind ∧ a.num = b.num then 0 else 1

/-- May the access at place i of an event stand there? -/
def placeOk (e : Event) (i : Nat) : Bool :=
  if e.touches ≤ i then decide (e.touch.getD i default = ⟨0, 0, false⟩)
  else decide (0 ≤ (e.touch.getD i default).num) && decide ((e.touch.getD i default).num < most (e.touch.getD i default).kind) && (decide (i = 0) || decide (cmp (e.touch.getD (i - 1) default) (e.touch.getD i default) < 0))
/-- Is it the event's own goroutine, written? -/
def ownAt (e : Event) (i : Nat) : Bool := decide ((i : Int) < e.touches) && decide (e.touch.getD i default = ⟨5, e.go, true⟩)

def right (e : Event) : Bool := decide (0 ≤ e.go) && decide (e.go < 6) && decide (1 ≤ e.touches) && decide (e.touches ≤ 6) && ((List.range 6).all (placeOk e) && (List.range 6).any (ownAt e))

theorem all_range_succ (f : Nat → Bool) (n : Nat) : (List.range (n + 1)).all f = ((List.range n).all f && f n) := by simp [List.range_succ]
theorem any_range_succ (f : Nat → Bool) (n : Nat) : (List.range (n + 1)).any f = ((List.range n).any f || f n) := by simp [List.range_succ]
theorem all_range_false {f : Nat → Bool} {n i : Nat} (hi : i < n) (h : f i = false) : (List.range n).all f = false := by
  rw [List.all_eq_false]
  exact ⟨i, List.mem_range.2 hi, by simp [h]⟩

def check (t : List Event) : Int := if 256 < t.length then 2 else if t.all right then 0 else 7

/-- The first place of which p holds, or -1. -/
def find (p : Event → Bool) (l : List Event) : Int := if l.any p then (l.findIdx p : Nat) else -1

theorem find_hit {p : Event → Bool} {l : List Event} {i : Nat} (hi : i < l.length) (h0 : (l.take i).any p = false) (h1 : p (l.getD i default) = true) : find p l = i := by
  have hi' : l.getD i default = l[i] := by simp [List.getD_eq_getElem?_getD, hi]
  have : l.any p = true := List.any_eq_true.2 ⟨_, getD_mem l hi, h1⟩
  unfold find
  rw [if_pos this]
  have : l.findIdx p = i := by
    rw [List.findIdx_eq hi]
    rw [hi'] at h1
    refine ⟨h1, fun j hj => ?_⟩
    have := List.any_eq_false.1 h0 l[j] (List.mem_take_iff_getElem.2 ⟨j, by omega, rfl⟩)
    simpa using this
  rw [this]
theorem find_miss {p : Event → Bool} {l : List Event} (h : l.any p = false) : find p l = -1 := by simp [find, h]
theorem find_ge {p : Event → Bool} {l : List Event} : decide (0 ≤ find p l) = l.any p := by
  unfold find; cases l.any p <;> simp

theorem clash2_comm (x y : Access) : clash2 x y = clash2 y x := by
  unfold clash2
  rw [Bool.or_comm, show decide (x.kind = y.kind) = decide (y.kind = x.kind) from by simp [eq_comm], show decide (x.num = y.num) = decide (y.num = x.num) from by simp [eq_comm]]
theorem any_comm {α β : Type} (f : α → β → Bool) (a : List α) (b : List β) : (a.any fun x => b.any fun y => f x y) = (b.any fun y => a.any fun x => f x y) := by
  rw [Bool.eq_iff_iff]
  simp only [List.any_eq_true]
  constructor
  · rintro ⟨x, hx, y, hy, h⟩; exact ⟨y, hy, x, hx, h⟩
  · rintro ⟨y, hy, x, hx, h⟩; exact ⟨x, hx, y, hy, h⟩
theorem clash_comm (a b : List Access) : clash a b = clash b a := by
  unfold clash
  rw [any_comm]
  simp only [clash2_comm]
theorem dependent_comm (a b : Event) : dependent a b = dependent b a := clash_comm _ _
/-- Of an event what it touches alone. -/
def Event.bare (e : Event) : Event := ⟨0, 0, 0, 0, 0, 0, 0, e.touch, e.touches⟩
theorem dependent_bare (a b : Event) : dependent a b.bare = dependent a b := rfl

theorem concat_at (l : List Obj) (o : Obj) : (l ++ [o])[l.length]? = some o := by simp

/-! ### Who uses an object -/

def isAt (k n : Int) (a : Access) : Bool := decide (a.kind = k) && decide (a.num = n)
def hits (e : Event) (k n : Int) : Bool := e.of.any (isAt k n)
def usersTo (t : List Event) (k n : Int) (i : Nat) : List Int := ((List.range i).filter fun j => hits (t.getD j default) k n).map fun (j : Nat) => (j : Int)
def users (t : List Event) (k n : Int) : List Int := if check t = 0 then usersTo t k n t.length else []

theorem usersTo_hit {t : List Event} {k n : Int} {i : Nat} (h : hits (t.getD i default) k n = true) : usersTo t k n (i + 1) = usersTo t k n i ++ [(i : Int)] := by
  simp only [usersTo, List.range_succ, List.filter_append, List.map_append]
  congr 1
  simp only [List.filter_cons, List.filter_nil, h, if_true, List.map_cons, List.map_nil]
theorem usersTo_miss {t : List Event} {k n : Int} {i : Nat} (h : hits (t.getD i default) k n = false) : usersTo t k n (i + 1) = usersTo t k n i := by
  simp only [usersTo, List.range_succ, List.filter_append, List.map_append]
  simp only [List.filter_cons, List.filter_nil, h, Bool.false_eq_true, if_false, List.map_nil, List.append_nil]
theorem usersTo_len (t : List Event) (k n : Int) (i : Nat) : (usersTo t k n i).length ≤ i := by
  simp only [usersTo, List.length_map]
  exact Nat.le_trans (List.length_filter_le _ _) (by simp)

/-- The first place of which p holds, or -1. -/
def findA (p : Access → Bool) (l : List Access) : Int := if l.any p then (l.findIdx p : Nat) else -1
theorem findA_hit {p : Access → Bool} {l : List Access} {i : Nat} (hi : i < l.length) (h0 : (l.take i).any p = false) (h1 : p (l.getD i default) = true) : findA p l = i := by
  have hi' : l.getD i default = l[i] := by simp [List.getD_eq_getElem?_getD, hi]
  have : l.any p = true := List.any_eq_true.2 ⟨_, getD_mem l hi, h1⟩
  unfold findA
  rw [if_pos this]
  have : l.findIdx p = i := by
    rw [List.findIdx_eq hi]
    rw [hi'] at h1
    refine ⟨h1, fun j hj => ?_⟩
    have := List.any_eq_false.1 h0 l[j] (List.mem_take_iff_getElem.2 ⟨j, by omega, rfl⟩)
    simpa using this
  rw [this]
theorem findA_miss {p : Access → Bool} {l : List Access} (h : l.any p = false) : findA p l = -1 := by simp [findA, h]
theorem findA_ge {p : Access → Bool} {l : List Access} : decide (0 ≤ findA p l) = l.any p := by
  unfold findA; cases l.any p <;> simp

theorem check_len {t : List Event} (h : check t = 0) : t.length ≤ 256 := by
  unfold check at h
  split at h
  · cases h
  · omega

end Go.Eng
