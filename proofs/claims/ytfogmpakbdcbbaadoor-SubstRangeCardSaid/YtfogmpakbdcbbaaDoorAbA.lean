/- The abstract machine: values, a heap of rows by number, a small code, and its interpreter. Nothing of the Go machine is used here but names of operators. -/
import GoSem.Dispatch
import Derived.Orders
import Derived.Below
import Derived.Laws.Cells
import Derived.Laws.World
import Derived.Laws.Strings
import Derived.Laws.StructEq
import Derived.Lib.Builder
import Derived.Laws.BytesString
import Derived.Laws.Tables
import Derived.Lib.UnsafeStr
import Derived.MapKept
set_option linter.unusedVariables false
set_option linter.unusedSimpArgs false
namespace Ab
open Go

abbrev Bs := List Nat

inductive AVal where
  | bool (b : Bool)
  | int (k : IntKind) (n : Int)
  | str (s : Bs)
  | ptr (r off : Nat)
  | nilp
  | slc (r off len esz : Nat)
  | nils
  | map (r : Nat)
  | nilm
  | fn (f : Nat) (caps : List AVal)
  | nilf
  | nili
  | agg (cs : List AVal)
  | tup (vs : List AVal)
  | box (cs : List AVal)
  | opq
  deriving Inhabited

/-- May it lie in one cell? -/
def AVal.sc : AVal → Bool
  | .agg _ | .tup _ | .box _ | .opq => false
  | _ => true

def AVal.cells : AVal → List AVal
  | .agg cs => cs
  | v => [v]

/-- May it be handed on (stored, passed, returned)? -/
def AVal.plain : AVal → Bool
  | .box _ => false
  | _ => true

inductive Row where
  | cells (et : Nat) (hd : Bool) (cs : List AVal)
  | fix (cs : List AVal)
  | map (es : List (AVal × AVal))
  | dead
  deriving Inhabited

/- A trie by numbers. -/
inductive Tr (α : Type) where
  | leaf
  | node (l : Tr α) (v : Option α) (r : Tr α)

def Tr.get {α : Type} : Tr α → Nat → Option α
  | .leaf, _ => none
  | .node l v r, n => if n = 0 then v else if n % 2 = 1 then l.get (n / 2) else r.get (n / 2 - 1)

def Tr.setF {α : Type} : Nat → Tr α → Nat → α → Tr α
  | 0, t, _, _ => t
  | f + 1, .leaf, n, x => if n = 0 then .node .leaf (some x) .leaf else if n % 2 = 1 then .node (Tr.setF f .leaf (n / 2) x) none .leaf else .node .leaf none (Tr.setF f .leaf (n / 2 - 1) x)
  | f + 1, .node l v r, n, x => if n = 0 then .node l (some x) r else if n % 2 = 1 then .node (Tr.setF f l (n / 2) x) v r else .node l v (Tr.setF f r (n / 2 - 1) x)

def Tr.set {α : Type} (t : Tr α) (n : Nat) (x : α) : Tr α := Tr.setF (n + 1) t n x

theorem Tr.get_setF {α : Type} (f : Nat) : ∀ (t : Tr α) (n m : Nat) (x : α), n < f → (Tr.setF f t n x).get m = if m = n then some x else t.get m := by
  induction f with
  | zero => intro t n m x h; omega
  | succ f ih =>
    intro t n m x h
    cases t with
    | leaf =>
      simp only [Tr.setF]
      by_cases h0 : n = 0
      · subst h0
        simp only [if_true, Tr.get]
        by_cases hm : m = 0
        · simp [hm]
        · simp [hm, Tr.get]
      · by_cases h1 : n % 2 = 1
        · simp only [h0, h1, if_false, if_true, Tr.get]
          by_cases hm : m = 0
          · simp [hm]; omega
          · by_cases hm1 : m % 2 = 1
            · simp only [hm, hm1, if_false, if_true]
              rw [ih _ _ _ _ (by omega)]
              by_cases hh : m = n
              · simp [hh]
              · rw [if_neg (by omega), if_neg hh]; rfl
            · simp only [hm, hm1, if_false]
              rw [if_neg (by omega)]
        · simp only [h0, h1, if_false, Tr.get]
          by_cases hm : m = 0
          · simp [hm]; omega
          · by_cases hm1 : m % 2 = 1
            · simp only [hm, hm1, if_false, if_true]
              rw [if_neg (by omega)]
            · simp only [hm, hm1, if_false]
              rw [ih _ _ _ _ (by omega)]
              by_cases hh : m = n
              · simp [hh]
              · rw [if_neg (by omega), if_neg hh]; rfl
    | node l v r =>
      simp only [Tr.setF]
      by_cases h0 : n = 0
      · subst h0
        simp only [if_true, Tr.get]
        by_cases hm : m = 0
        · simp [hm]
        · simp [hm]
      · by_cases h1 : n % 2 = 1
        · simp only [h0, h1, if_false, if_true, Tr.get]
          by_cases hm : m = 0
          · simp [hm]; omega
          · by_cases hm1 : m % 2 = 1
            · simp only [hm, hm1, if_false, if_true]
              rw [ih _ _ _ _ (by omega)]
              by_cases hh : m = n
              · simp [hh]
              · rw [if_neg (by omega), if_neg hh]
            · simp only [hm, hm1, if_false]
              rw [if_neg (by omega)]
        · simp only [h0, h1, if_false, Tr.get]
          by_cases hm : m = 0
          · simp [hm]; omega
          · by_cases hm1 : m % 2 = 1
            · simp only [hm, hm1, if_false, if_true]
              rw [if_neg (by omega)]
            · simp only [hm, hm1, if_false]
              rw [ih _ _ _ _ (by omega)]
              by_cases hh : m = n
              · simp [hh]
              · rw [if_neg (by omega), if_neg hh]

theorem Tr.get_set {α : Type} (t : Tr α) (n m : Nat) (x : α) : (t.set n x).get m = if m = n then some x else t.get m :=
  Tr.get_setF (n + 1) t n m x (Nat.lt_succ_self n)

structure Heap where
  t : Tr (Nat × Row)
  next : Nat
  clk : Nat

def Heap.get (h : Heap) (r : Nat) : Option Row := (h.t.get r).map (·.2)
def Heap.ver (h : Heap) (r : Nat) : Nat := ((h.t.get r).map (·.1)).getD 0
def Heap.put (h : Heap) (r : Nat) (x : Row) : Heap := { t := h.t.set r (h.clk, x), next := h.next, clk := h.clk + 1 }
/-- A row of its own, at the next number; where that is taken there is none. -/
def Heap.new (h : Heap) (x : Row) : Heap := { t := h.t.set h.next (h.clk, x), next := h.next + 1, clk := h.clk + 1 }
def Heap.empty : Heap := { t := .leaf, next := 0, clk := 1 }

/- Operands, types for equality, conversions, instructions. -/
inductive Opd where
  | t (n : Nat)
  | c (v : AVal)
  deriving Inhabited

inductive BT where
  | bool
  | int
  | str
  deriving Inhabited

inductive ETy where
  | basic (b : BT)
  | struct (l : List BT)
  | ptr
  | slice
  | func
  deriving Inhabited

inductive Cv where
  | int (k : IntKind)
  | same
  | toStr
  | toUns
  | ofUns (u n : Nat)
  | isNil (b : Bool)
  deriving Inhabited

inductive Ins where
  | mv (x : Opd)
  | pick (c a b : Opd)
  | allocB (z : List AVal)
  | boxB (n : Nat) (x : Opd)
  | allocH (et : Nat) (z : List AVal)
  | boxH (et n : Nat) (x : Opd)
  | load (p : Opd) (n : Nat) (ag : Bool)
  | store (p : Opd) (n : Nat) (x : Opd)
  | fieldAddr (p : Opd) (off : Nat)
  | field (x : Opd) (off n : Nat) (ag : Bool)
  | indexAddr (x i : Opd) (esz : Nat)
  | idxStr (x i : Opd)
  | build (z : List AVal) (ps : List (Nat × Nat × Opd))
  | buildSlice (et esz len : Nat) (z : List AVal) (ps : List (Nat × Nat × Opd))
  | nilCheck (x : Opd)
  | bin (op : BinOp) (e : ETy) (x y : Opd)
  | un (op : UnOp) (x : Opd)
  | conv (c : Cv) (x : Opd)
  | mkfn (f : Nat) (caps : List Opd)
  | mkmap
  | mkslice (et esz bytes : Nat) (z : List AVal) (l c : Opd)
  | slice (x : Opd) (lo hi : Option Opd) (esz : Option Nat)
  | lookup (m k : Opd) (e : ETy) (z : AVal) (ok : Bool)
  | mapup (m k v : Opd) (e : ETy)
  | extract (x : Opd) (i : Nat)
  | len (k : Nat) (x : Opd)
  | append (s x : Opd) (et esz bytes : Nat)
  | uData (x : Opd)
  | uStr (p n : Opd) (et : Nat)
  | mm (isMax : Bool) (x y : Opd)
  | toBytes (x : Opd)
  | call (f : Opd) (args : List Opd)
  deriving Inhabited

structure Op where
  d : Option Nat
  g : Option (Nat × Bool)
  i : Ins
  deriving Inhabited

inductive Cd where
  | skip
  | reg (ops : List Op) (conf : List (Nat × Nat)) (kill : List (Nat × Bool))
  | seq (a b : Cd)
  | cond (c : Opd) (a b : Cd)
  | block (id : Nat) (b : Cd)
  | loop (b : Cd)
  | exit (id : Nat)
  | ret
  | bad
  deriving Inhabited

inductive Res where
  | t (n : Nat)
  | cell (t n : Nat) (ag : Bool)
  deriving Inhabited

structure Fn where
  np : Nat
  body : Cd
  res : List Res
  deriving Inhabited

/- Slots: values; and addresses within boxes (for one region's time). -/
abbrev Env := List (Nat × AVal)
abbrev Al := List (Nat × (Nat × Nat))

def Env.get : Env → Nat → AVal
  | [], _ => .opq
  | (k, v) :: r, n => if k = n then v else Env.get r n

def Env.del : Env → Nat → Env
  | [], _ => []
  | (k, v) :: r, n => if k = n then Env.del r n else (k, v) :: Env.del r n

def Env.set (e : Env) (n : Nat) (v : AVal) : Env := (n, v) :: e

/-- What the hints say of a slot: true: forget it; false: keep its newest. -/
def look : List (Nat × Bool) → Nat → Option Bool
  | [], _ => none
  | (k, b) :: r, n => if k = n then some b else look r n

/-- Slots are forgotten; older ones of the same slot are dropped. -/
def Env.kill : Env → List (Nat × Bool) → Env
  | [], _ => []
  | (t, v) :: r, l =>
    match look l t with
    | some true => Env.kill r l
    | some false => (t, v) :: Env.kill r ((t, true) :: l)
    | none => (t, v) :: Env.kill r l

def Al.get : Al → Nat → Option (Nat × Nat)
  | [], _ => none
  | (k, v) :: r, n => if k = n then some v else Al.get r n

def Al.del : Al → Nat → Al
  | [], _ => []
  | (k, v) :: r, n => if k = n then Al.del r n else (k, v) :: Al.del r n

def Al.free : Al → Nat → Bool
  | [], _ => true
  | (_, v) :: r, n => if v.1 = n then false else Al.free r n

theorem Env.get_del (e : Env) (n m : Nat) : (e.del n).get m = if m = n then .opq else e.get m := by
  induction e with
  | nil => simp [Env.del, Env.get]
  | cons x r ih =>
    obtain ⟨k, v⟩ := x
    simp only [Env.del]
    by_cases h : k = n
    · rw [if_pos h, ih]
      by_cases hm : m = n
      · simp [hm]
      · rw [if_neg hm, if_neg hm, Env.get, if_neg (by omega)]
    · rw [if_neg h, Env.get, Env.get, ih]
      by_cases hm : m = n
      · rw [if_pos hm, if_neg (by omega), if_pos hm]
      · rw [if_neg hm, if_neg hm]

theorem Env.get_set (e : Env) (n m : Nat) (v : AVal) : (e.set n v).get m = if m = n then v else e.get m := by
  rw [Env.set, Env.get]
  by_cases h : m = n
  · simp [h]
  · rw [if_neg (by omega), if_neg h]

theorem Env.get_kill : ∀ (e : Env) (l : List (Nat × Bool)) (m : Nat), (e.kill l).get m = if look l m = some true then .opq else e.get m
  | [], l, m => by simp [Env.kill, Env.get]
  | (t, v) :: r, l, m => by
    simp only [Env.kill]
    cases hl : look l t with
    | none =>
      simp only [Env.get]
      by_cases h : t = m
      · subst h; simp [hl]
      · rw [if_neg h, if_neg h, Env.get_kill r l m]
    | some b =>
      cases b with
      | true =>
        simp only []
        rw [Env.get_kill r l m, Env.get]
        by_cases h : t = m
        · subst h; simp [hl]
        · rw [if_neg h]
      | false =>
        simp only [Env.get]
        by_cases h : t = m
        · subst h; simp [hl]
        · rw [if_neg h, if_neg h, Env.get_kill r _ m]
          simp [look, h]

/- What an operand is: a value; or a box's address. -/
def opd (ev : Nat → AVal) : Opd → AVal
  | .t n => ev n
  | .c v => v

/-- An address: into a row, or into a box. -/
inductive Ad where
  | row (r off : Nat)
  | box (t off : Nat)

def addr (ev : Nat → AVal) (al : Nat → Option (Nat × Nat)) : Opd → Option Ad
  | .c _ => none
  | .t n =>
    match ev n with
    | .ptr r off => some (.row r off)
    | .box _ => some (.box n 0)
    | _ =>
      match al n with
      | some (t, off) => some (.box t off)
      | none => none

/- Equality. -/
def eq1 : BT → AVal → AVal → Option Bool
  | .bool, .bool a, .bool b => some (a == b)
  | .int, .int k a, .int k' b => if k = k' then some (a == b) else none
  | .str, .str a, .str b => some (decide (a = b))
  | _, _, _ => none

def eqs : List BT → List AVal → List AVal → Option Bool
  | [], [], [] => some true
  | t :: l, a :: x, b :: y =>
    match eq1 t a b with
    | some true => eqs l x y
    | some false => match eqs l x y with | some _ => some false | none => none
    | none => none
  | _, _, _ => none

def eqv : ETy → AVal → AVal → Option Bool
  | .basic t, a, b => eq1 t a b
  | .struct l, .agg x, .agg y => eqs l x y
  | .ptr, .nilp, .nilp => some true
  | .ptr, .nilp, .ptr _ _ => some false
  | .ptr, .ptr _ _, .nilp => some false
  | .slice, .nils, .nils => some true
  | .slice, .nils, .slc _ _ _ _ => some false
  | .slice, .slc _ _ _ _, .nils => some false
  | .func, .nilf, .nilf => some true
  | .func, .nilf, .fn _ _ => some false
  | .func, .fn _ _, .nilf => some false
  | _, _, _ => none

def bits (op : BinOp) (k : IntKind) (x y : Int) : Option AVal :=
  let a := BitVec.ofInt k.bits x
  let b := BitVec.ofInt k.bits y
  let back (r : BitVec k.bits) : Option AVal := some (.int k (k.wrap r.toNat))
  match op with
  | .and => back (a &&& b)
  | .or => back (a ||| b)
  | .xor => back (a ^^^ b)
  | .andNot => back (a &&& ~~~b)
  | _ => none

def intOp (op : BinOp) (k : IntKind) (a b : Int) : Option AVal :=
  match op with
  | .add => some (.int k (k.wrap (a + b)))
  | .sub => some (.int k (k.wrap (a - b)))
  | .mul => some (.int k (k.wrap (a * b)))
  | .quo => if b = 0 then none else some (.int k (k.wrap (a.tdiv b)))
  | .rem => if b = 0 then none else some (.int k (a.tmod b))
  | .eql => some (.bool (a == b))
  | .neq => some (.bool (a != b))
  | .lss => some (.bool (decide (a < b)))
  | .leq => some (.bool (decide (a ≤ b)))
  | .gtr => some (.bool (decide (b < a)))
  | .geq => some (.bool (decide (b ≤ a)))
  | .shl => if b < 0 then none else some (.int k (k.wrap (a * 2 ^ (Nat.min b.toNat k.bits))))
  | .shr => if b < 0 then none else some (.int k (a.fdiv (2 ^ (Nat.min b.toNat k.bits))))
  | op => bits op k a b

def bsLess : Bs → Bs → Bool
  | _, [] => false
  | [], _ :: _ => true
  | a :: x, b :: y => decide (a < b) || (a == b && bsLess x y)

def strOp (op : BinOp) (a b : Bs) : Option AVal :=
  match op with
  | .add => if a.length + b.length ≤ 4611686018427387904 then some (.str (a ++ b)) else none
  | .eql => some (.bool (decide (a = b)))
  | .neq => some (.bool (!decide (a = b)))
  | .lss => some (.bool (bsLess a b))
  | .leq => some (.bool (bsLess a b || decide (a = b)))
  | .gtr => some (.bool (!(bsLess a b || decide (a = b))))
  | .geq => some (.bool (!bsLess a b))
  | _ => none

def isShift : BinOp → Bool
  | .shl | .shr => true
  | _ => false

def binv (op : BinOp) (e : ETy) (x y : AVal) : Option AVal :=
  match x, y with
  | .int k a, .int k' b => if k = k' ∨ isShift op = true then intOp op k a b else none
  | .str a, .str b => strOp op a b
  | x, y =>
    match op with
    | .eql => (eqv e x y).map .bool
    | .neq => (eqv e x y).map fun b => .bool !b
    | _ => none

def unv (op : UnOp) (x : AVal) : Option AVal :=
  match op, x with
  | .neg, .int k n => some (.int k (k.wrap (0 - n)))
  | .not, .bool b => some (.bool !b)
  | _, _ => none

/-- A part of a value's cells. -/
def part (cs : List AVal) (off n : Nat) (ag : Bool) : Option AVal :=
  if ag then (if off + n ≤ cs.length then some (.agg ((cs.drop off).take n)) else none)
  else cs[off]?

/-- Cells from a place on written over. -/
def splice (cs : List AVal) (off : Nat) (vs : List AVal) : List AVal :=
  cs.take off ++ vs ++ cs.drop (off + vs.length)

def allSc (l : List AVal) : Bool := l.all AVal.sc

def fills (ev : Nat → AVal) : List AVal → List (Nat × Nat × Opd) → Option (List AVal)
  | cs, [] => some cs
  | cs, (off, n, x) :: r =>
    let vs := (opd ev x).cells
    if vs.length = n ∧ off + n ≤ cs.length ∧ allSc vs = true then fills ev (splice cs off vs) r else none

def rep (n : Nat) (z : List AVal) : List AVal := (List.replicate n z).flatten

def rowCells : Row → Option (List AVal)
  | .cells _ _ cs => some cs
  | .fix cs => some cs
  | _ => none

/-- The bytes of cells. -/
def bytesOf : List AVal → Option Bs
  | [] => some []
  | .int .u8 n :: r =>
    if 0 ≤ n ∧ n < 256 then
      match bytesOf r with
      | some l => some (n.toNat :: l)
      | none => none
    else none
  | _ => none

def find (e : ETy) (k : AVal) : List (AVal × AVal) → Option (Option AVal)
  | [] => some none
  | (k', v) :: r =>
    match eqv e k k' with
    | some true => some (some v)
    | some false => find e k r
    | none => none

def ups (e : ETy) (k v : AVal) : List (AVal × AVal) → Option (List (AVal × AVal))
  | [] => some [(k, v)]
  | (k', v') :: r =>
    match eqv e k k' with
    | some true => some ((k, v) :: r)
    | some false =>
      match ups e k v r with
      | some r' => some ((k', v') :: r')
      | none => none
    | none => none

/-- Two addresses within one row that is there. -/
def ptrEq (g : Nat → Option Row) : ETy → AVal → AVal → Option Bool
  | .ptr, .ptr r o, .ptr r' o' =>
    if r = r' then (match g r with | some (.cells _ _ _) => some (decide (o = o')) | _ => none) else none
  | _, _, _ => none

/-- What a simple instruction comes to: its value (or an address within a box), a box's new cells, rows written, a row made. -/
structure Out where
  v : AVal
  al : Option (Nat × Nat) := none
  bx : Option (Nat × AVal) := none
  puts : List (Nat × Row) := []
  new : Option Row := none

abbrev ov (v : AVal) : Option Out := some { v := v }

def Opd.slots : Opd → List Nat
  | .t n => [n]
  | .c _ => []

def slotsL (l : List Opd) : List Nat := l.flatMap Opd.slots

def slotsO : Option Opd → List Nat
  | some x => x.slots
  | none => []

/-- The slots that are named by its operands. -/
def Ins.slots : Ins → List Nat
  | .allocB _ | .allocH _ _ | .mkmap => []
  | .mv x | .toBytes x | .boxB _ x | .boxH _ _ x | .uData x | .load x _ _ | .fieldAddr x _ | .field x _ _ _ | .nilCheck x | .un _ x | .conv _ x | .extract x _ | .len _ x => x.slots
  | .pick a b c => a.slots ++ b.slots ++ c.slots
  | .store x _ y | .indexAddr x y _ | .idxStr x y | .bin _ _ x y | .mkslice _ _ _ _ x y | .uStr x y _ | .lookup x y _ _ _ | .append x y _ _ _ | .mm _ x y => x.slots ++ y.slots
  | .build _ ps | .buildSlice _ _ _ _ ps => ps.flatMap fun p => p.2.2.slots
  | .mkfn _ l => slotsL l
  | .slice x lo hi _ => x.slots ++ slotsO lo ++ slotsO hi
  | .mapup m k v _ => m.slots ++ k.slots ++ v.slots
  | .call f l => f.slots ++ slotsL l

/-- The box that it looks into. -/
def Ins.boxes (ev : Nat → AVal) (al : Nat → Option (Nat × Nat)) : Ins → List Nat
  | .load p _ _ | .store p _ _ | .fieldAddr p _ => match addr ev al p with | some (.box t _) => [t] | _ => []
  | _ => []

/-- The box that it makes. -/
def Ins.makesBox (d : Option Nat) : Ins → List Nat
  | .allocB _ | .boxB _ _ => d.toList
  | _ => []

/-- The rows that it looks into. -/
def Ins.acc (ev : Nat → AVal) : Ins → List Nat
  | .load p _ _ | .store p _ _ | .uStr p _ _ | .conv (.ofUns _ _) p | .conv .toUns p => match opd ev p with | .ptr r _ => [r] | _ => []
  | .bin _ .ptr x _ => match opd ev x with | .ptr r _ => [r] | _ => []
  | .conv .toStr x => match opd ev x with | .slc r _ _ _ => [r] | _ => []
  | .lookup m _ _ _ _ | .mapup m _ _ _ => match opd ev m with | .map r => [r] | _ => []
  | .len _ x => match opd ev x with | .map r => [r] | _ => []
  | .append s x _ _ _ => (match opd ev s with | .slc r _ _ _ => [r] | _ => []) ++ (match opd ev x with | .slc r _ _ _ => [r] | _ => [])
  | _ => []

def cut (l : Bs) (lo hi : Nat) : Bs := (l.drop lo).take (hi - lo)

def bound (ev : Nat → AVal) (d : Nat) : Option Opd → Option Nat
  | none => some d
  | some x =>
    match opd ev x with
    | .int _ n => if 0 ≤ n then some n.toNat else none
    | _ => none

def vals (ev : Nat → AVal) : List Opd → Option (List AVal)
  | [] => some []
  | x :: r =>
    if (opd ev x).plain then
      match vals ev r with
      | some l => some (opd ev x :: l)
      | none => none
    else none

/-- What is appended: its cells; how many elements. -/
def srcCells (g : Nat → Option Row) (esz : Nat) : AVal → Option (List AVal)
  | .nils => some []
  | .slc r off ln k =>
    match g r with
    | some row => match rowCells row with | some cs => if k = esz ∧ off + ln * esz ≤ cs.length then some ((cs.drop off).take (ln * esz)) else none | none => none
    | none => none
  | .str b => if esz = 1 then some (b.map fun (n : Nat) => AVal.int .u8 (Int.ofNat n)) else none
  | _ => none

def srcLen : AVal → Nat
  | .slc _ _ ln _ => ln
  | .str b => b.length
  | _ => 0

def Ins.sem (ev : Nat → AVal) (al : Nat → Option (Nat × Nat)) (g : Nat → Option Row) (fr : Nat → Bool) (nx : Nat) (d : Option Nat) : Ins → Option Out
  | .mv x => if (opd ev x).plain then ov (opd ev x) else none
  | .pick c a b =>
    match opd ev c with
    | .bool true => if (opd ev a).plain then ov (opd ev a) else none
    | .bool false => if (opd ev b).plain then ov (opd ev b) else none
    | _ => none
  | .allocB z =>
    match d with
    | some t => if fr t = true ∧ allSc z = true then ov (.box z) else none
    | none => none
  | .boxB n x =>
    match d with
    | some t => if fr t = true ∧ (opd ev x).cells.length = n ∧ allSc (opd ev x).cells = true then ov (.box (opd ev x).cells) else none
    | none => none
  | .allocH et z => if allSc z = true then some { v := .ptr nx 0, new := some (.cells et true z) } else none
  | .boxH et n x => if (opd ev x).cells.length = n ∧ allSc (opd ev x).cells = true then some { v := .ptr nx 0, new := some (.cells et true (opd ev x).cells) } else none
  | .load p n ag =>
    match addr ev al p with
    | some (.box t off) =>
      match ev t with
      | .box cs => match part cs off n ag with | some v => ov v | none => none
      | _ => none
    | some (.row r off) =>
      match g r with
      | some row =>
        match rowCells row with
        | some cs => match part cs off n ag with | some v => ov v | none => none
        | none => none
      | none => none
    | none => none
  | .store p n x =>
    let vs := (opd ev x).cells
    if vs.length = n ∧ allSc vs = true then
      match addr ev al p with
      | some (.box t off) =>
        match ev t with
        | .box cs => if off + n ≤ cs.length then some { v := .tup [], bx := some (t, .box (splice cs off vs)) } else none
        | _ => none
      | some (.row r off) =>
        match g r with
        | some (.cells et hd cs) => if off + n ≤ cs.length then some { v := .tup [], puts := [(r, .cells et hd (splice cs off vs))] } else none
        | _ => none
      | none => none
    else none
  | .fieldAddr p off =>
    match addr ev al p with
    | some (.box t o) => some { v := .opq, al := some (t, o + off) }
    | some (.row r o) => ov (.ptr r (o + off))
    | none => none
  | .field x off n ag =>
    match opd ev x with
    | .agg cs => match part cs off n ag with | some v => ov v | none => none
    | _ => none
  | .indexAddr x i esz =>
    match opd ev x, opd ev i with
    | .slc r off ln k, .int _ n => if k = esz ∧ 0 ≤ n ∧ n < ln then ov (.ptr r (off + n.toNat * esz)) else none
    | _, _ => none
  | .idxStr x i =>
    match opd ev x, opd ev i with
    | .str s, .int _ n => if 0 ≤ n then (match s[n.toNat]? with | some b => ov (.int .u8 b) | none => none) else none
    | _, _ => none
  | .build z ps => match fills ev z ps with | some cs => ov (.agg cs) | none => none
  | .buildSlice et esz ln z ps =>
    match fills ev (rep ln z) ps with
    | some cs => if allSc cs = true ∧ cs.length = ln * esz then some { v := .slc nx 0 ln esz, new := some (.cells et true cs) } else none
    | none => none
  | .nilCheck x =>
    match opd ev x with
    | .ptr r o => ov (.ptr r o)
    | .fn f cs => ov (.fn f cs)
    | _ => none
  | .bin op e x y =>
    match ptrEq g e (opd ev x) (opd ev y) with
    | some b => match op with | .eql => ov (.bool b) | .neq => ov (.bool !b) | _ => none
    | none => match binv op e (opd ev x) (opd ev y) with | some v => ov v | none => none
  | .un op x => match unv op (opd ev x) with | some v => ov v | none => none
  | .conv c x =>
    match c, opd ev x with
    | .int k, .int _ n => ov (.int k (k.wrap n))
    | .same, .str s => ov (.str s)
    | .isNil b, .nili => ov (.bool b)
    | .toUns, .ptr r o =>
      match g r with
      | some (.cells _ _ cs) => if o < cs.length then ov (.ptr r o) else none
      | _ => none
    | .ofUns u n, .ptr r o =>
      match g r with
      | some (.cells et true cs) => if et = u ∧ o = 0 ∧ n ≤ cs.length ∧ 0 < n then ov (.ptr r o) else none
      | _ => none
    | .toStr, .nils => ov (.str [])
    | .toStr, .slc r off ln 1 =>
      match g r with
      | some row =>
        match rowCells row with
        | some cs => if off + ln ≤ cs.length then (match bytesOf ((cs.drop off).take ln) with | some l => ov (.str l) | none => none) else none
        | none => none
      | none => none
    | _, _ => none
  | .mkfn f caps =>
    match vals ev caps with
    | some l => ov (.fn f l)
    | none => none
  | .mkmap => some { v := .map nx, new := some (.map []) }
  | .toBytes x =>
    match opd ev x with
    | .str s => some { v := .slc nx 0 s.length 1, new := some (.fix (s.map fun (n : Nat) => AVal.int .u8 (Int.ofNat n))) }
    | _ => none
  | .mkslice et esz bytes z l c =>
    match opd ev l, opd ev c with
    | .int _ a, .int _ b =>
      if 0 ≤ a ∧ a ≤ b ∧ b ≤ 1073741824 ∧ bytes ≤ 4096 ∧ z.length = esz ∧ allSc z = true then some { v := .slc nx 0 a.toNat esz, new := some (.cells et true (rep b.toNat z)) } else none
    | _, _ => none
  | .slice x lo hi esz =>
    match esz, opd ev x with
    | none, .str s =>
      match bound ev 0 lo, bound ev s.length hi with
      | some a, some b => if a ≤ b ∧ b ≤ s.length then ov (.str (cut s a b)) else none
      | _, _ => none
    | some n, .slc r off ln k =>
      match bound ev 0 lo, bound ev ln hi with
      | some a, some b => if k = n ∧ a ≤ b ∧ b ≤ ln then ov (.slc r (off + a * n) (b - a) n) else none
      | _, _ => none
    | some _, .nils =>
      match bound ev 0 lo, bound ev 0 hi with
      | some 0, some 0 => ov .nils
      | _, _ => none
    | _, _ => none
  | .lookup m k e z ok =>
    match (match opd ev m with
      | .nilm => some []
      | .map r => match g r with | some (.map es) => some es | _ => none
      | _ => none) with
    | none => none
    | some es =>
      match if (eqv e (opd ev k) (opd ev k)).isSome then find e (opd ev k) es else none with
      | none => none
      | some none => if ok then ov (.tup [z, .bool false]) else ov z
      | some (some v) => if ok then ov (.tup [v, .bool true]) else ov v
  | .mapup m k v e =>
    match opd ev m with
    | .map r =>
      match g r with
      | some (.map es) =>
        if (opd ev v).plain && (eqv e (opd ev k) (opd ev k)).isSome then
        match ups e (opd ev k) (opd ev v) es with
        | some es' => some { v := .tup [], puts := [(r, .map es')] }
        | none => none
        else none
      | _ => none
    | _ => none
  | .extract x i =>
    match opd ev x with
    | .tup vs => match vs[i]? with | some v => if v.plain then ov v else none | none => none
    | _ => none
  | .len k x =>
    match k, opd ev x with
    | 0, .str s => ov (.int .i64 s.length)
    | 1, .slc _ _ ln _ => ov (.int .i64 ln)
    | 1, .nils => ov (.int .i64 0)
    | 2, .nilm => ov (.int .i64 0)
    | 2, .map r => match g r with | some (.map es) => ov (.int .i64 es.length) | _ => none
    | _, _ => none
  | .append s x et esz bytes =>
    match srcCells g esz (opd ev x) with
    | none => none
    | some new =>
      let n := srcLen (opd ev x)
      match opd ev s with
      | .nils =>
        if n = 0 then ov .nils
        else if n ≤ 1073741824 ∧ bytes ≤ 4096 ∧ allSc new = true then some { v := .slc nx 0 n esz, new := some (.cells et true new) } else none
      | .slc r off ln k =>
        if n = 0 then ov (.slc r off ln k)
        else
          match g r with
          | some (.cells e0 hd cs) =>
            if e0 = et ∧ k = esz ∧ off + ln * esz ≤ cs.length ∧ ln + n ≤ 1073741824 ∧ bytes ≤ 4096 ∧ allSc new = true then
              some { v := .slc nx 0 (ln + n) esz, puts := [(r, .dead)], new := some (.cells et (hd && off == 0) ((cs.drop off).take (ln * esz) ++ new)) }
            else none
          | _ => none
      | _ => none
  | .uData x =>
    match opd ev x with
    | .nils => ov .nilp
    | .slc r off ln _ => if 0 < ln then ov (.ptr r off) else none
    | _ => none
  | .uStr p n et =>
    match opd ev p, opd ev n with
    | .nilp, .int .i64 k => if k = 0 then ov (.str []) else none
    | .ptr r off, .int .i64 k =>
      match g r with
      | some (.cells e0 true cs) =>
        if e0 = et ∧ off = 0 ∧ 0 < k ∧ k ≤ 4611686018427387904 ∧ off + k.toNat ≤ cs.length then
          match bytesOf ((cs.drop off).take k.toNat) with
          | some l => some { v := .str l, puts := [(r, .fix cs)] }
          | none => none
        else none
      | _ => none
    | _, _ => none
  | .mm isMax x y =>
    match opd ev x, opd ev y with
    | .int k a, .int k' b => if k = k' then ov (.int k (if isMax then (if b > a then b else a) else (if b < a then b else a))) else none
    | _, _ => none
  | .call _ _ => none

structure St where
  e : Env
  h : Heap

inductive Ex where
  | nrm
  | ex (id : Nat)
  | ret

def Op.reads (o : Op) : List Nat := o.i.slots ++ (match o.g with | some (t, _) => [t] | none => [])

/-- What an operation of a region looked into and wrote: rows; slots that hold boxes. -/
structure Foot where
  acc : List Nat := []
  wr : List Nat := []
  sacc : List Nat := []
  swr : List Nat := []
  chg : Option (Nat → Bool) := none

def Heap.puts (h : Heap) : List (Nat × Row) → Heap
  | [] => h
  | (r, x) :: l => Heap.puts (h.put r x) l

def Heap.outs (h : Heap) (o : Out) : Option Heap :=
  match o.new with
  | none => some (h.puts o.puts)
  | some x => if (h.get h.next).isNone then some ((h.puts o.puts).new x) else none

def setD (e : Env) (d : Option Nat) (v : AVal) : Env :=
  match d with
  | some t => e.set t v
  | none => e

def alD (a : Al) (d : Option Nat) (x : Option (Nat × Nat)) : Al :=
  match d with
  | some t => match x with | some p => (t, p) :: a.del t | none => a.del t
  | none => a

def setB (e : Env) : Option (Nat × AVal) → Env
  | some (t, v) => e.set t v
  | none => e

structure Rs where
  e : Env
  al : Al
  h : Heap

/-- Is it wanted? none: that can't be told. -/
def wants (ev : Nat → AVal) : Option (Nat × Bool) → Option Bool
  | none => some true
  | some (t, b) =>
    match ev t with
    | .bool b' => some (b' == b)
    | .tup [] => some false
    | _ => none

abbrev CallF := Nat → List AVal → Heap → Option (AVal × Heap)

def calls (cf : CallF) (ev : Nat → AVal) (h : Heap) (f : Opd) (args : List Opd) : Option (AVal × Heap) :=
  match opd ev f, vals ev args with
  | .fn k caps, some l => cf k (l ++ caps) h
  | _, _ => none

def Heap.has (h : Heap) (l : List Nat) : Bool := l.all fun r => (h.get r).isSome

def Ins.mkB : Ins → Bool
  | .allocB _ | .boxB _ _ => true
  | _ => false

def simple1 (s : Rs) (o : Op) : Option (Rs × Foot) :=
  match o.i.sem s.e.get s.al.get s.h.get s.al.free s.h.next o.d with
  | none => none
  | some u =>
    if s.h.has (o.i.acc s.e.get) && (u.v.plain || o.i.mkB) then
      match s.h.outs u with
      | none => none
      | some h' => some ({ e := setB (setD s.e o.d u.v) u.bx, al := alD s.al o.d u.al, h := h' },
          { acc := o.i.acc s.e.get, wr := u.puts.map (·.1), sacc := o.reads ++ o.i.boxes s.e.get s.al.get, swr := o.i.makesBox o.d ++ (match u.bx with | some (t, _) => [t] | none => []) })
    else none

def call1 (cf : CallF) (s : Rs) (o : Op) (f : Opd) (args : List Opd) : Option (Rs × Foot) :=
  match calls cf s.e.get s.h f args with
  | some (v, h') => if v.plain then some ({ e := setD s.e o.d v, al := alD s.al o.d none, h := h' }, { sacc := o.reads, chg := some fun r => h'.ver r != s.h.ver r }) else none
  | none => none

def step1 (cf : CallF) (s : Rs) (o : Op) : Option (Rs × Foot) :=
  match wants s.e.get o.g with
  | none => none
  | some false => some ({ e := setD s.e o.d (.tup []), al := alD s.al o.d none, h := s.h }, { sacc := o.reads, swr := o.i.makesBox o.d })
  | some true =>
    match o.i with
    | .call f args => call1 cf s o f args
    | _ => simple1 s o

def steps (cf : CallF) : List Op → Rs → Option (Rs × List Foot)
  | [], s => some (s, [])
  | o :: l, s =>
    match step1 cf s o with
    | none => none
    | some (s', f) =>
      match steps cf l s' with
      | none => none
      | some (s'', fs) => some (s'', f :: fs)

def apartL (a b : List Nat) : Bool := a.all fun x => !b.contains x

def apart (a b : Foot) : Bool :=
  match a.chg, b.chg with
  | none, none => apartL a.wr b.acc && apartL b.wr a.acc && apartL a.swr b.sacc && apartL b.swr a.sacc
  | some c, none => b.wr.isEmpty && (b.acc.all fun r => !c r) && apartL b.swr a.sacc
  | none, some c => a.wr.isEmpty && (a.acc.all fun r => !c r) && apartL a.swr b.sacc
  | some _, some _ => false

def apartAll (fs : List Foot) : List (Nat × Nat) → Bool
  | [] => true
  | (i, j) :: l =>
    match fs[i]?, fs[j]? with
    | some a, some b => apart a b && apartAll fs l
    | _, _ => false

def exec (cf : CallF) : Nat → Cd → St → Option (Ex × St)
  | 0, _, _ => none
  | n + 1, c, s =>
    match c with
    | .skip => some (.nrm, s)
    | .reg ops conf kill =>
      match steps cf ops { e := s.e, al := [], h := s.h } with
      | some (s', fs) => if apartAll fs conf = true then some (.nrm, { e := s'.e.kill kill, h := s'.h }) else none
      | none => none
    | .seq a b =>
      match exec cf n a s with
      | some (.nrm, s') => exec cf n b s'
      | r => r
    | .cond c a b =>
      match opd s.e.get c with
      | .bool true => exec cf n a s
      | .bool false => exec cf n b s
      | _ => none
    | .block id b =>
      match exec cf n b s with
      | some (.ex j, s') => if j = id then some (.nrm, s') else some (.ex j, s')
      | r => r
    | .loop b =>
      match exec cf n b s with
      | some (.nrm, s') => exec cf n (.loop b) s'
      | r => r
    | .exit id => some (.ex id, s)
    | .ret => some (.ret, s)
    | .bad => none

def resOf (e : Env) : List Res → Option (List AVal)
  | [] => some []
  | .t n :: r =>
    if (e.get n).plain then
      match resOf e r with
      | some l => some (e.get n :: l)
      | none => none
    else none
  | .cell t n ag :: r =>
    match e.get t with
    | .box cs =>
      match part cs 0 n ag, resOf e r with
      | some v, some l => some (v :: l)
      | _, _ => none
    | _ => none

def one : List AVal → AVal
  | [v] => v
  | l => .tup l

def params : Nat → List AVal → Env
  | _, [] => []
  | i, v :: r => (i, v) :: params (i + 1) r

/-- A function: its code; or what it comes to, where that is known otherwise (a pure function of values). -/
inductive Fun where
  | code (f : Fn)
  | prim (p : List AVal → Option AVal)

abbrev Tbl := Nat → Option Fun

def callF (tb : Tbl) : Nat → CallF
  | 0 => fun _ _ _ => none
  | n + 1 => fun f args h =>
    match tb f with
    | none => none
    | some (.prim p) => match p args with | some v => some (v, h) | none => none
    | some (.code fn) =>
      if args.length = fn.np ∧ args.all AVal.plain = true then
        match exec (callF tb n) n fn.body { e := params 0 args, h := h } with
        | some (.ex _, _) => none
        | some (_, s) =>
          match resOf s.e fn.res with
          | some l => some (one l, s.h)
          | none => none
        | none => none
      else none

end Ab

/- From the Go machine's code to the abstract machine's. -/
namespace Ab
open Go

def bsOf (s : ByteArray) : Bs := s.data.toList.map (·.toNat)

def absC : Value → Option AVal
  | .bool b => some (.bool b)
  | .int k n => some (.int k n)
  | .string s => some (.str (bsOf s))
  | .pointer none => some .nilp
  | .slice none 0 0 => some .nils
  | .map none => some .nilm
  | .nilFunc => some .nilf
  | .nilIface => some .nili
  | _ => none

def absL : List Value → Option (List AVal)
  | [] => some []
  | v :: r =>
    match absC v, absL r with
    | some x, some l => some (x :: l)
    | _, _ => none

def absV : Value → Option AVal
  | .agg cs => (absL cs.toList).map .agg
  | v => absC v

def cOpd : Operand → Option Opd
  | .tmp t => some (.t t)
  | .const v => (absV v).map .c
  | .func f => some (.c (.fn f []))
  | .global _ => none

def cOpds : List Operand → Option (List Opd)
  | [] => some []
  | x :: r =>
    match cOpd x, cOpds r with
    | some a, some l => some (a :: l)
    | _, _ => none

def cOpdO : Option Operand → Option (Option Opd)
  | none => some none
  | some x => (cOpd x).map some

section
variable (P : Program)

def basicT (t : TypeId) : Option BT :=
  match P.underlying t with
  | some .bool => some .bool
  | some (.int _) => some .int
  | some .string => some .str
  | _ => none

def sizeT (t : TypeId) : Option Nat := (P.info? t).map (·.size)

def aggT (t : TypeId) : Option Bool :=
  match P.underlying t with
  | some (.struct _) | some (.array _ _) => some true
  | some _ => some false
  | none => none

/-- All fields of basic types, one cell each, in their order: their types. -/
def flatF : Nat → List Field → Option (List BT)
  | _, [] => some []
  | i, f :: r =>
    match basicT P f.type, aggT P f.type, flatF (i + 1) r with
    | some b, some false, some l => if f.offset = i ∧ f.name ≠ "_" then some (b :: l) else none
    | _, _, _ => none

def eqT (t : TypeId) : Option ETy :=
  match P.underlying t with
  | some .bool => some (.basic .bool)
  | some (.int _) => some (.basic .int)
  | some .string => some (.basic .str)
  | some (.pointer e) => match sizeT P e with | some (_ + 1) => some .ptr | _ => none
  | some (.slice _) => some .slice
  | some (.func _ _ _) => some .func
  | some (.struct fs) => if !P.eqGuardType P.depth t && !P.stoodInHeld t then (flatF P 0 fs.toList).map .struct else none
  | _ => none

def zeroT (t : TypeId) : Option (List AVal) :=
  match P.info? t with
  | some i =>
    match i.zero with
    | some z => match absL z.cells.toList with | some l => if l.length = i.size then some l else none | none => none
    | none => none
  | none => none

def zeroV (t : TypeId) : Option AVal :=
  match P.info? t with
  | some i => match i.zero with | some z => absV z | none => none
  | none => none

def cParts (place : Nat → Option (Nat × Nat)) : List (Nat × Operand) → Option (List (Nat × Nat × Opd))
  | [] => some []
  | (i, x) :: r =>
    match place i, cOpd x, cParts place r with
    | some (off, n), some y, some l => some ((off, n, y) :: l)
    | _, _, _ => none

def fieldPl (fs : Array Field) (i : Nat) : Option (Nat × Nat) :=
  match fs[i]? with
  | some f => (sizeT P f.type).map fun n => (f.offset, n)
  | none => none

def cBox (bs : List Nat) (d : Option Nat) : Bool :=
  match d with
  | some t => bs.contains t
  | none => false

def cMapup (o : Oper) (t : TypeId) (m k v : Operand) : Option Ins :=
  match P.underlying t with
  | some (.map kt _) =>
    match eqT P kt, cOpd m, cOpd k, cOpd v with
    | some (.basic n), some m, some k, some v => if o.dst = none then some (.mapup m k v (.basic n)) else none
    | some (.struct n), some m, some k, some v => if o.dst = none then some (.mapup m k v (.struct n)) else none
    | _, _, _, _ => none
  | _ => none

/-- Is it held against nil, of an interface type? -/
def cNil (op : BinOp) (t : TypeId) (y : Operand) : Option Bool :=
  match P.underlying t, y, op with
  | some (.interface _), .const .nilIface, .eql => some true
  | some (.interface _), .const .nilIface, .neq => some false
  | _, _, _ => none

/-- Is it a string's bytes in a row of their own? -/
def cBytes (s t : TypeId) : Bool :=
  match P.underlying s, P.underlying t with
  | some .string, some (.slice e) => (match P.underlying e with | some (.int .u8) => true | _ => false)
  | _, _ => false

def cIns (bs : List Nat) (o : Oper) : Option Ins :=
  match o.op with
  | .move x | .assign x => (cOpd x).map .mv
  | .pick a b c => match cOpd a, cOpd b, cOpd c with | some a, some b, some c => some (.pick a b c) | _, _, _ => none
  | .alloc e => (zeroT P e).map fun z => if cBox bs o.dst then .allocB z else .allocH e z
  | .box e x => match sizeT P e, cOpd x with | some n, some x => some (if cBox bs o.dst then .boxB n x else .boxH e n x) | _, _ => none
  | .build t ps =>
    match P.underlying t with
    | some (.struct fs) =>
      match zeroT P t, fs.toList.all (fun f => (sizeT P f.type).isSome), cParts (fieldPl P fs) ps.toList with
      | some z, true, some l => some (.build z l)
      | _, _, _ => none
    | _ => none
  | .buildSlice t len ps =>
    match P.underlying t with
    | some (.slice e) =>
      match zeroT P e, sizeT P e with
      | some z, some n =>
        if 0 < n ∧ len * n ≤ 65536 then (cParts (fun i => some (i * n, n)) ps.toList).map fun l => .buildSlice e n len z l else none
      | _, _ => none
    | _ => none
  | .load t a =>
    match cOpd a, aggT P t, sizeT P t with
    | some a, some ag, some n => if ag || n == 1 then some (.load a n ag) else none
    | _, _, _ => none
  | .store t a x =>
    match cOpd a, sizeT P t, cOpd x with
    | some a, some n, some x => if o.dst = none then some (.store a n x) else none
    | _, _, _ => none
  | .fieldAddr s x f =>
    match P.underlying s with
    | some (.struct fs) =>
      match fs[f]? with
      | some fd =>
        match sizeT P fd.type, cOpd x with
        | some (_ + 1), some x => some (.fieldAddr x fd.offset)
        | _, _ => none
      | none => none
    | _ => none
  | .field s x f =>
    match P.underlying s with
    | some (.struct fs) =>
      match fs[f]? with
      | some fd =>
        match sizeT P fd.type, aggT P fd.type, cOpd x with
        | some n, some ag, some x => some (.field x fd.offset n ag)
        | _, _, _ => none
      | none => none
    | _ => none
  | .indexAddr t x i =>
    match P.underlying t with
    | some (.slice e) =>
      match sizeT P e, cOpd x, cOpd i with
      | some n, some x, some i => some (.indexAddr x i n)
      | _, _, _ => none
    | _ => none
  | .index t x i =>
    match P.underlying t, cOpd x, cOpd i with
    | some .string, some x, some i => some (.idxStr x i)
    | _, _, _ => none
  | .nilCheck x => (cOpd x).map .nilCheck
  | .binOp op t x y _ =>
    match cNil P op t y with
    | some b => (cOpd x).map (.conv (.isNil b))
    | none => match eqT P t, cOpd x, cOpd y with | some e, some x, some y => some (.bin op e x y) | _, _, _ => none
  | .unOp op _ x => (cOpd x).map (.un op)
  | .convert s t x =>
    if cBytes P s t then (cOpd x).map .toBytes else
    match P.underlying s, P.underlying t, cOpd x with
    | some (.int _), some (.int k), some x => some (.conv (.int k) x)
    | some .string, some .string, some x => some (.conv .same x)
    | some (.pointer e), some .unsafePointer, some x => match sizeT P e with | some (_ + 1) => some (.conv .toUns x) | _ => none
    | some .unsafePointer, some (.pointer e), some x => match sizeT P e with | some n => some (.conv (.ofUns e n) x) | _ => none
    | some (.slice e), some .string, some x => match P.underlying e with | some (.int .u8) => some (.conv .toStr x) | _ => none
    | _, _, _ => none
  | .makeFunc (.func f) first caps => if first.isEmpty then (cOpds caps.toList).map (.mkfn f) else none
  | .makeMap _ none => some .mkmap
  | .makeSlice t l c =>
    match P.underlying t with
    | some (.slice e) =>
      match zeroT P e, P.info? e, cOpd l, cOpd c with
      | some z, some i, some l, some c => if 0 < i.size then some (.mkslice e i.size i.bytes z l c) else none
      | _, _, _, _ => none
    | _ => none
  | .slice t x lo hi none =>
    match P.underlying t, cOpd x, cOpdO lo, cOpdO hi with
    | some .string, some x, some lo, some hi => some (.slice x lo hi none)
    | some (.slice e), some x, some lo, some hi => (sizeT P e).map fun n => .slice x lo hi (some n)
    | _, _, _, _ => none
  | .lookup t m k ok =>
    match P.underlying t with
    | some (.map kt e) =>
      match eqT P kt, zeroV P e, cOpd m, cOpd k with
      | some (.basic n), some z, some m, some k => some (.lookup m k (.basic n) z ok)
      | some (.struct n), some z, some m, some k => some (.lookup m k (.struct n) z ok)
      | _, _, _, _ => none
    | _ => none
  | .mapUpdate t m k v | .insert t m k v => cMapup P o t m k v
  | .extract x i => (cOpd x).map fun x => .extract x i
  | .call c =>
    match c.callee with
    | .value f => match cOpd f, cOpds c.args.toList with | some f, some l => some (.call f l) | _, _ => none
    | .builtin .len =>
      match c.args.toList, c.argTypes.toList with
      | [x], t :: _ =>
        match P.underlying t with
        | some .string => (cOpd x).map (.len 0)
        | some (.slice _) => (cOpd x).map (.len 1)
        | some (.map _ _) => (cOpd x).map (.len 2)
        | _ => none
      | _, _ => none
    | .builtin .append =>
      match c.args.toList, c.argTypes.toList with
      | [s, x], [t, u] =>
        match P.underlying t, P.underlying u with
        | some (.slice e), some .string =>
          match P.info? e, cOpd s, cOpd x with
          | some i, some s, some x => if i.size = 1 ∧ (zeroT P e).isSome = true then some (.append s x e i.size i.bytes) else none
          | _, _, _ => none
        | some (.slice e), some (.slice e') =>
          match P.info? e, P.info? e', cOpd s, cOpd x with
          | some i, some i', some s, some x => if (i.size = i'.size ∧ 0 < i.size) ∧ (zeroT P e).isSome = true then some (.append s x e i.size i.bytes) else none
          | _, _, _, _ => none
        | _, _ => none
      | _, _ => none
    | .builtin .unsafeSliceData => match c.args.toList with | [x] => (cOpd x).map .uData | _ => none
    | .builtin .unsafeString =>
      match c.args.toList, c.argTypes.toList with
      | [x, n], [t, _] =>
        match P.underlying t with
        | some (.pointer e) => match P.underlying e, sizeT P e, cOpd x, cOpd n with | some (.int .u8), some 1, some x, some n => some (.uStr x n e) | _, _, _, _ => none
        | _ => none
      | _, _ => none
    | .builtin .min => match c.args.toList with | [x, y] => (match cOpd x, cOpd y with | some x, some y => some (.mm false x y) | _, _ => none) | _ => none
    | .builtin .max => match c.args.toList with | [x, y] => (match cOpd x, cOpd y with | some x, some y => some (.mm true x y) | _, _ => none) | _ => none
    | _ => none
  | _ => none

def cGuard (ops : Array Oper) (o : Oper) : Option (Option (Nat × Bool)) :=
  match o.guard with
  | none => some none
  | some (j, b) =>
    match (ops[j]?).bind (·.dst) with
    | some d => some (some (d, b))
    | none => none

def cOps (nt : Nat) (bs : List Nat) (ops : Array Oper) : List Oper → Option (List Op)
  | [] => some []
  | o :: r =>
    match cIns P bs o, cGuard ops o, cOps nt bs ops r with
    | some i, some g, some l => if o.dst.all (fun t => decide (t < nt)) && (cBox bs o.dst == i.mkB) then some ({ d := o.dst, g := g, i := i } :: l) else none
    | _, _, _ => none

end

/- Which pairs of a region must be looked at. -/
def Ins.writes : Ins → Bool
  | .store _ _ _ | .append _ _ _ _ _ | .mapup _ _ _ _ | .uStr _ _ _ => true
  | _ => false

def Ins.boxes? : Ins → Bool
  | .store _ _ _ | .allocB _ | .boxB _ _ => true
  | _ => false

def Ins.makes : Ins → Bool
  | .allocH _ _ | .boxH _ _ _ | .buildSlice _ _ _ _ _ | .mkmap | .toBytes _ | .mkslice _ _ _ _ _ _ | .append _ _ _ _ _ => true
  | _ => false

def Ins.isCall : Ins → Bool
  | .call _ _ => true
  | _ => false

def Ins.looks : Ins → Bool
  | .load _ _ _ | .store _ _ _ | .conv .toStr _ | .lookup _ _ _ _ _ | .mapup _ _ _ _ | .len _ _ | .append _ _ _ _ _ | .uStr _ _ _ | .conv .toUns _ | .conv (.ofUns _ _) _ | .bin _ .ptr _ _ => true
  | _ => false

def notIn (d : Option Nat) (l : List Nat) : Bool :=
  match d with
  | some t => !l.contains t
  | none => true

/-- By their slots alone: may they be in either order? And no call beside what writes rows or makes them. -/
def slotsOk (a b : Op) : Bool :=
  notIn a.d b.reads && notIn b.d a.reads &&
  !(a.i.isCall && (b.i.isCall || b.i.makes || b.i.writes)) && !(b.i.isCall && (a.i.isCall || a.i.makes || a.i.writes))

/-- Need nothing be looked at when they run? -/
def harm1 (a b : Op) : Bool :=
  ((a.i.writes || a.i.isCall) && b.i.looks) || (a.i.boxes? && !b.reads.isEmpty)

def harmless (a b : Op) : Bool := !harm1 a b && !harm1 b a

def pairsFrom (f : Nat → Nat → Bool) (n : Nat) : List (Nat × Nat) :=
  (List.range n).flatMap fun j => ((List.range j).filter fun i => f i j).map fun i => (i, j)

def looseB (bef : List Nat) (i j : Nat) : Bool := !(bef.getD j 0).testBit i

def opAt (l : List Op) (i : Nat) : Op := l.getD i default

def confs (bef : List Nat) (l : List Op) : List (Nat × Nat) :=
  pairsFrom (fun i j => looseB bef i j && !harmless (opAt l i) (opAt l j)) l.length

def sameD (a b : Option Nat) : Bool :=
  match a, b with
  | some x, some y => x == y
  | _, _ => false

def slotsAll (bef : List Nat) (l : List Op) : Bool :=
  ((pairsFrom (fun i j => looseB bef i j) l.length).all fun p => slotsOk (opAt l p.1) (opAt l p.2)) &&
  ((pairsFrom (fun _ _ => true) l.length).all fun p => !sameD (opAt l p.1).d (opAt l p.2).d)

/-- The bits that the edges of one operation bring. -/
def edgeBits (bef : List Nat) : List Edge → Nat
  | [] => 0
  | e :: r => if Region.binds .any e then 2 ^ e.on ||| bef.getD e.on 0 ||| edgeBits bef r else edgeBits bef r

/-- Edges that bind go back; and the numbers are what they bring. -/
def befOk (bef : List Nat) : Nat → List Oper → Bool
  | _, [] => true
  | j, o :: r => (o.after.toList.all fun e => !Region.binds .any e || decide (e.on < j)) && (bef.getD j 0 == edgeBits bef o.after.toList) && befOk bef (j + 1) r

/-- Hints for a function: its boxes; what to forget after a region; what stands before what in a drawn region. -/
structure Hint where
  bs : List Nat
  ks : Nat → List (Nat × Bool)
  bf : Nat → List Nat

def cReg (P : Program) (nt : Nat) (k : Hint) (id : Nat) (ops : Array Oper) (draw : Bool) : Option Cd :=
  match cOps P nt k.bs ops ops.toList with
  | some l =>
    if draw then (if slotsAll (k.bf id) l && befOk (k.bf id) 0 ops.toList then some (.reg l (confs (k.bf id) l) (k.ks id)) else none)
    else some (.reg l [] (k.ks id))
  | none => none

/-- What is not served has no answer. -/
def cCode (P : Program) (nt : Nat) (k : Hint) : Code → Option Cd
  | .skip => some .skip
  | .region id ops draw => match cReg P nt k id ops draw with | some c => some c | none => some .bad
  | .seq a b => match cCode P nt k a, cCode P nt k b with | some a, some b => some (.seq a b) | _, _ => none
  | .cond c a b => match cOpd c, cCode P nt k a, cCode P nt k b with | some c, some a, some b => some (.cond c a b) | _, _, _ => none
  | .block id b => (cCode P nt k b).map (.block id)
  | .loop b => (cCode P nt k b).map .loop
  | .exit id => some (.exit id)
  | .ret => some .ret
  | _ => some .bad

def cRes (P : Program) : List ResultVar → Option (List Res)
  | [] => some []
  | .tmp t :: r => (cRes P r).map (.t t :: ·)
  | .cell a t :: r =>
    match sizeT P t, aggT P t, cRes P r with
    | some n, some ag, some l => if ag || n == 1 then some (.cell a n ag :: l) else none
    | _, _, _ => none

def cFunc (P : Program) (k : Hint) (f : Func) : Option Fn :=
  match f.body with
  | some c =>
    match cCode P f.ntmps k c, cRes P f.results.toList with
    | some b, some r => if f.params.size + f.nfree ≤ f.ntmps then some { np := f.params.size + f.nfree, body := b, res := r } else none
    | _, _ => none
  | none => none

end Ab

/- How the abstract machine's values, rows and slots lie in the Go machine's memory. -/
set_option linter.unusedVariables false
set_option linter.unusedSimpArgs false
namespace Ab
open Go

/-- Where a row lies: its block, the place of its first cell, the block's cells; may it be written? -/
structure Pl where
  b : Nat
  sh : Nat
  sz : Nat
  own : Bool

inductive Mp where
  | unk
  | dead
  | at (p : Pl)

abbrev M := Nat → Mp

mutual
def VRel (m : M) : AVal → Value → Prop
  | .bool b, v => v = .bool b
  | .int k n, v => v = .int k n
  | .str l, v => ∃ s, v = .string s ∧ bsOf s = l
  | .ptr r off, v =>
    match m r with
    | .at p => v = .pointer (some ⟨p.b, p.sh + off, none⟩)
    | .dead => ∃ a, v = .pointer (some a)
    | .unk => False
  | .nilp, v => v = .pointer none
  | .slc r off ln k, v =>
    match m r with
    | .at p => ∃ o cap, v = .slice (some ⟨p.b, o, none⟩) ln cap ∧ ln ≤ cap ∧ (cap = 0 ∨ o = p.sh + off) ∧ (p.own = true → cap = 0 ∨ o + cap * k ≤ p.sz)
    | .dead => ∃ a cap, v = .slice (some a) ln cap ∧ ln ≤ cap
    | .unk => False
  | .nils, v => v = .slice none 0 0
  | .map r, v =>
    match m r with
    | .at p => v = .map (some p.b)
    | .dead => ∃ b, v = .map (some b)
    | .unk => False
  | .nilm, v => v = .map none
  | .fn f caps, v => ∃ cs : List Value, v = .func (.func f) #[] cs.toArray ∧ VsRel m caps cs
  | .nilf, v => v = .nilFunc
  | .nili, v => v = .nilIface
  | .agg cs, v => ∃ vs : List Value, v = .agg vs.toArray ∧ VsRel m cs vs
  | .tup cs, v => ∃ vs : List Value, v = .tuple vs.toArray ∧ VsRel m cs vs
  | .box _, _ => False
  | .opq, _ => True
def VsRel (m : M) : List AVal → List Value → Prop
  | [], vs => vs = []
  | x :: r, vs => ∃ v l, vs = v :: l ∧ VRel m x v ∧ VsRel m r l
end

/-- What is known goes on to be so; what is there may die. -/
structure MLe (m m' : M) : Prop where
  at_ : ∀ r p, m r = .at p → m' r = .at p ∨ m' r = .dead
  dead : ∀ r, m r = .dead → m' r = .dead

theorem MLe.refl (m : M) : MLe m m := ⟨fun _ _ h => .inl h, fun _ h => h⟩
theorem MLe.trans {a b c : M} (h : MLe a b) (k : MLe b c) : MLe a c :=
  ⟨fun r p e => (h.at_ r p e).elim (k.at_ r p) (fun e => .inr (k.dead r e)), fun r e => k.dead r (h.dead r e)⟩

mutual
theorem VRel.mono {m m' : M} (h : MLe m m') : ∀ (a : AVal) (v : Value), VRel m a v → VRel m' a v
  | .bool b, v, e => by simpa [VRel] using e
  | .int k n, v, e => by simpa [VRel] using e
  | .str l, v, e => by simpa [VRel] using e
  | .ptr r off, v, e => by
    simp only [VRel] at e ⊢
    cases hm : m r with
    | unk => rw [hm] at e; exact e.elim
    | dead => rw [hm] at e; rw [h.dead r hm]; exact e
    | «at» p =>
      rw [hm] at e
      rcases h.at_ r p hm with h' | h'
      · rw [h']; exact e
      · rw [h']; exact ⟨_, e⟩
  | .nilp, v, e => by simpa [VRel] using e
  | .slc r off ln k, v, e => by
    simp only [VRel] at e ⊢
    cases hm : m r with
    | unk => rw [hm] at e; exact e.elim
    | dead => rw [hm] at e; rw [h.dead r hm]; exact e
    | «at» p =>
      rw [hm] at e
      rcases h.at_ r p hm with h' | h'
      · rw [h']; exact e
      · rw [h']; obtain ⟨o, cap, e, hl, _⟩ := e; exact ⟨_, cap, e, hl⟩
  | .nils, v, e => by simpa [VRel] using e
  | .map r, v, e => by
    simp only [VRel] at e ⊢
    cases hm : m r with
    | unk => rw [hm] at e; exact e.elim
    | dead => rw [hm] at e; rw [h.dead r hm]; exact e
    | «at» p =>
      rw [hm] at e
      rcases h.at_ r p hm with h' | h'
      · rw [h']; exact e
      · rw [h']; exact ⟨_, e⟩
  | .nilm, v, e => by simpa [VRel] using e
  | .fn f caps, v, e => by
    simp only [VRel] at e ⊢
    obtain ⟨cs, hv, hs⟩ := e
    exact ⟨cs, hv, VsRel.mono h caps cs hs⟩
  | .nilf, v, e => by simpa [VRel] using e
  | .nili, v, e => by simpa [VRel] using e
  | .agg cs, v, e => by
    simp only [VRel] at e ⊢
    obtain ⟨vs, hv, hs⟩ := e
    exact ⟨vs, hv, VsRel.mono h cs vs hs⟩
  | .tup cs, v, e => by
    simp only [VRel] at e ⊢
    obtain ⟨vs, hv, hs⟩ := e
    exact ⟨vs, hv, VsRel.mono h cs vs hs⟩
  | .box cs, v, e => by simp [VRel] at e
  | .opq, v, e => by simp [VRel]
theorem VsRel.mono {m m' : M} (h : MLe m m') : ∀ (l : List AVal) (vs : List Value), VsRel m l vs → VsRel m' l vs
  | [], vs, e => by simpa [VsRel] using e
  | x :: r, vs, e => by
    simp only [VsRel] at e ⊢
    obtain ⟨v, l, hv, h1, h2⟩ := e
    exact ⟨v, l, hv, VRel.mono h x v h1, VsRel.mono h r l h2⟩
end

theorem VsRel.nil {m : M} : VsRel m [] [] := by simp [VsRel]
theorem VsRel.cons {m : M} {x : AVal} {v : Value} {r : List AVal} {l : List Value} (h : VRel m x v) (k : VsRel m r l) : VsRel m (x :: r) (v :: l) := by
  simp only [VsRel]; exact ⟨v, l, rfl, h, k⟩
theorem VsRel.uncons {m : M} {x : AVal} {r : List AVal} {vs : List Value} (h : VsRel m (x :: r) vs) : ∃ v l, vs = v :: l ∧ VRel m x v ∧ VsRel m r l := by
  simpa only [VsRel] using h
theorem VsRel.unnil {m : M} {vs : List Value} (h : VsRel m [] vs) : vs = [] := by simpa only [VsRel] using h

theorem VsRel.length {m : M} : ∀ {l : List AVal} {vs : List Value}, VsRel m l vs → vs.length = l.length
  | [], vs, h => by rw [h.unnil]; rfl
  | x :: r, vs, h => by
    obtain ⟨v, l, rfl, _, h2⟩ := h.uncons
    simp [h2.length]

theorem VsRel.get {m : M} : ∀ {l : List AVal} {vs : List Value}, VsRel m l vs → ∀ (i : Nat) (x : AVal), l[i]? = some x → ∃ v, vs[i]? = some v ∧ VRel m x v
  | [], vs, h, i, x, e => by simp at e
  | y :: r, vs, h, 0, x, e => by
    obtain ⟨v, l, rfl, h1, _⟩ := h.uncons
    simp at e; subst e
    exact ⟨v, rfl, h1⟩
  | y :: r, vs, h, i + 1, x, e => by
    obtain ⟨v, l, rfl, _, h2⟩ := h.uncons
    simpa using h2.get i x (by simpa using e)

theorem VsRel.of_get {m : M} : ∀ {l : List AVal} {vs : List Value}, vs.length = l.length → (∀ (i : Nat) (x : AVal), l[i]? = some x → ∃ v, vs[i]? = some v ∧ VRel m x v) → VsRel m l vs
  | [], vs, hl, h => by
    have : vs = [] := by simpa using hl
    rw [this]; exact .nil
  | x :: r, [], hl, h => by simp at hl
  | x :: r, v :: l, hl, h => by
    obtain ⟨v', hv, hx⟩ := h 0 x rfl
    simp at hv; subst hv
    exact .cons hx (VsRel.of_get (by simpa using hl) fun i y e => by simpa using h (i + 1) y (by simpa using e))

theorem VsRel.append {m : M} : ∀ {a : List AVal} {va : List Value} {b : List AVal} {vb : List Value}, VsRel m a va → VsRel m b vb → VsRel m (a ++ b) (va ++ vb)
  | [], va, b, vb, h, k => by rw [h.unnil]; exact k
  | x :: r, va, b, vb, h, k => by
    obtain ⟨v, l, rfl, h1, h2⟩ := h.uncons
    exact .cons h1 (h2.append k)

theorem VsRel.take {m : M} : ∀ (n : Nat) {a : List AVal} {va : List Value}, VsRel m a va → VsRel m (a.take n) (va.take n)
  | 0, a, va, h => by simpa using VsRel.nil
  | n + 1, [], va, h => by rw [h.unnil]; exact .nil
  | n + 1, x :: r, va, h => by
    obtain ⟨v, l, rfl, h1, h2⟩ := h.uncons
    exact .cons h1 (h2.take n)

theorem VsRel.drop {m : M} : ∀ (n : Nat) {a : List AVal} {va : List Value}, VsRel m a va → VsRel m (a.drop n) (va.drop n)
  | 0, a, va, h => h
  | n + 1, [], va, h => by rw [h.unnil]; exact .nil
  | n + 1, x :: r, va, h => by
    obtain ⟨v, l, rfl, h1, h2⟩ := h.uncons
    exact h2.drop n

/-- A value of one cell is so on both sides. -/
theorem VRel.one {m : M} {x : AVal} {v : Value} (h : VRel m x v) (hs : x.sc = true) : v.cells = #[v] ∧ (∀ c, v ≠ .agg c) ∧ (∀ c, v ≠ .tuple c) := by
  cases x <;> simp only [VRel, AVal.sc] at h hs <;>
    first
      | exact False.elim hs
      | (exact absurd hs Bool.false_ne_true)
      | (subst h; exact ⟨rfl, fun c => by simp, fun c => by simp⟩)
      | (obtain ⟨s, rfl, _⟩ := h; exact ⟨rfl, fun c => by simp, fun c => by simp⟩)
      | (split at h
         · subst h; exact ⟨rfl, fun c => by simp, fun c => by simp⟩
         · obtain ⟨a, rfl⟩ := h; exact ⟨rfl, fun c => by simp, fun c => by simp⟩
         · exact h.elim)
      | (split at h
         · obtain ⟨a, b, rfl, _⟩ := h; exact ⟨rfl, fun c => by simp, fun c => by simp⟩
         · obtain ⟨a, b, rfl, _⟩ := h; exact ⟨rfl, fun c => by simp, fun c => by simp⟩
         · exact h.elim)

theorem cells_sc {x : AVal} (h : x.sc = true) : x.cells = [x] := by cases x <;> simp_all [AVal.sc, AVal.cells]

/-- A value whose cells are of one cell each: its cells are the value's. -/
theorem VRel.cells {m : M} {x : AVal} {v : Value} (h : VRel m x v) (hs : allSc x.cells = true) : VsRel m x.cells v.cells.toList := by
  by_cases hx : ∃ cs, x = .agg cs
  · obtain ⟨cs, rfl⟩ := hx
    simp only [VRel] at h
    obtain ⟨vs, rfl, h⟩ := h
    exact h
  · have hc : x.cells = [x] := by cases x <;> simp_all [AVal.cells]
    have hsc : x.sc = true := by rw [hc] at hs; simpa [allSc] using hs
    rw [hc, (h.one hsc).1]
    exact .cons h .nil

/- Constants. -/
theorem absC_rel {m : M} : ∀ {v : Value} {x : AVal}, absC v = some x → VRel m x v ∧ x.sc = true := by
  intro v x h
  unfold absC at h
  split at h <;> simp at h <;> subst h <;> simp [VRel, AVal.sc]

theorem absL_rel {m : M} : ∀ {l : List Value} {xs : List AVal}, absL l = some xs → VsRel m xs l ∧ allSc xs = true
  | [], xs, h => by simp [absL] at h; subst h; exact ⟨.nil, rfl⟩
  | v :: r, xs, h => by
    simp only [absL] at h
    split at h
    · rename_i x l h1 h2
      simp at h; subst h
      obtain ⟨a, b⟩ := absC_rel (m := m) h1
      obtain ⟨c, d⟩ := absL_rel (m := m) h2
      exact ⟨.cons a c, by simp [allSc, b]; simpa [allSc] using d⟩
    · simp at h

theorem absV_rel {m : M} {v : Value} {x : AVal} (h : absV v = some x) : VRel m x v ∧ x.plain = true := by
  unfold absV at h
  split at h
  · rename_i cs
    cases hl : absL cs.toList with
    | none => simp [hl] at h
    | some l =>
      simp [hl] at h; subst h
      simp only [VRel]
      exact ⟨⟨cs.toList, by simp, (absL_rel hl).1⟩, rfl⟩
  · obtain ⟨a, b⟩ := absC_rel (m := m) h
    exact ⟨a, by cases x <;> simp_all [AVal.sc, AVal.plain]⟩

/- Rows, worlds. -/
/-- Nothing of it is frozen. -/
def NoFr (fr : Nat × Nat) (_ : Nat) : Prop := fr = (0, 0)

def CsRel (m : M) (cs : List AVal) (c : Array Value) (sh : Nat) : Prop :=
  ∀ i x, cs[i]? = some x → x.sc = true ∧ ∃ v, c[sh + i]? = some v ∧ VRel m x v

def EsRel (m : M) : List (AVal × AVal) → List MapEntry → Prop
  | [], l => l = []
  | (k, v) :: r, l => ∃ e t, l = e :: t ∧ VRel m k e.key ∧ VRel m v e.val ∧ EsRel m r t

def RowRel (m : M) (p : Pl) (row : Row) (o : Obj) : Prop :=
  match row with
  | .cells et hd cs => ∃ c fr, o = .cells c et fr ∧ (hd = true → p.sh = 0) ∧ p.own = true ∧ c.size = p.sz ∧ NoFr fr c.size ∧ p.sh + cs.length ≤ c.size ∧ CsRel m cs c p.sh
  | .fix cs => ∃ c et fr, o = .cells c et fr ∧ CsRel m cs c p.sh
  | .map es => ∃ a clock, o = .map a clock ∧ p.own = true ∧ EsRel m es a.toList
  | .dead => False

structure Sim (m : M) (g : Nat → Option Row) (w : World) : Prop where
  row : ∀ r p, m r = .at p → ∃ row o, g r = some row ∧ w.heap[p.b]? = some o ∧ RowRel m p row o
  dead : ∀ r, m r = .dead → g r = some .dead
  inj : ∀ r r' p p', m r = .at p → m r' = .at p' → p.own = true → p.b = p'.b → r = r'

abbrev BM := Nat → Option Nat

def BoxAt (m : M) (w : World) (b : Nat) (cs : List AVal) : Prop :=
  ∃ c et fr, w.heap[b]? = some (.cells c et fr) ∧ NoFr fr c.size ∧ c.size = cs.length ∧ CsRel m cs c 0

def SlotRel (m : M) (bm : BM) (w : World) (t : Nat) (x : AVal) (v : Value) : Prop :=
  match x with
  | .box cs => ∃ b, bm t = some b ∧ v = .pointer (some ⟨b, 0, none⟩) ∧ BoxAt m w b cs
  | x => VRel m x v

structure Fr (m : M) (bm : BM) (e : Nat → AVal) (al : Nat → Option (Nat × Nat)) (tm : Array Value) (w : World) : Prop where
  slot : ∀ t, SlotRel m bm w t (e t) (tm.getD t undef)
  al : ∀ t u off, al t = some (u, off) → ∃ b, bm u = some b ∧ tm.getD t undef = .pointer (some ⟨b, off, none⟩)
  inj : ∀ t u b, bm t = some b → bm u = some b → t = u
  disj : ∀ t b, bm t = some b → b < w.heap.size ∧ ∀ r p, m r = .at p → p.b ≠ b

/-- What may be written: the blocks of rows that are owned, and boxes. -/
def Own (m : M) (bm : BM) (b : Nat) : Prop := (∃ r p, m r = .at p ∧ p.own = true ∧ p.b = b) ∨ ∃ t, bm t = some b

structure WFr (A : Nat → Prop) (w w' : World) : Prop where
  os : w'.os = w.os
  tape : w'.tape = w.tape
  output : w'.output = w.output
  size : w.heap.size ≤ w'.heap.size
  block : ∀ b, b < w.heap.size → ¬ A b → w'.heap[b]? = w.heap[b]?

theorem WFr.refl (A : Nat → Prop) (w : World) : WFr A w w := ⟨rfl, rfl, rfl, Nat.le_refl _, fun _ _ _ => rfl⟩
theorem WFr.trans {A B : Nat → Prop} {a b c : World} (h : WFr A a b) (k : WFr B b c) (hB : ∀ x, x < a.heap.size → B x → A x) : WFr A a c :=
  ⟨k.os.trans h.os, k.tape.trans h.tape, k.output.trans h.output, Nat.le_trans h.size k.size,
    fun x hx hn => (k.block x (Nat.lt_of_lt_of_le hx h.size) fun hb => hn (hB x hx hb)).trans (h.block x hx hn)⟩
theorem WFr.mono {A B : Nat → Prop} {a b : World} (h : WFr A a b) (hB : ∀ x, A x → B x) : WFr B a b :=
  ⟨h.os, h.tape, h.output, h.size, fun x hx hn => h.block x hx fun ha => hn (hB x ha)⟩

/-- From one state to a later one. -/
structure Later (m : M) (bm : BM) (w : World) (m' : M) (bm' : BM) (w' : World) : Prop where
  le : MLe m m'
  wfr : WFr (Own m bm) w w'
  rows : ∀ r p, m' r = .at p → m r = .at p ∨ w.heap.size ≤ p.b ∨ ∃ r0 p0, m r0 = .at p0 ∧ p0.own = true ∧ p0.b = p.b
  boxes : ∀ t b, bm' t = some b → bm t = some b ∨ w.heap.size ≤ b

theorem Later.refl (m : M) (bm : BM) (w : World) : Later m bm w m bm w :=
  ⟨.refl m, .refl _ w, fun _ _ h => .inl h, fun _ _ h => .inl h⟩

theorem Later.own {m m' : M} {bm bm' : BM} {w w' : World} (h : Later m bm w m' bm' w') (b : Nat) (hb : b < w.heap.size) (ho : Own m' bm' b) : Own m bm b := by
  rcases ho with ⟨r, p, hr, ho, rfl⟩ | ⟨t, ht⟩
  · rcases h.rows r p hr with h' | h' | ⟨r0, p0, h1, h2, h3⟩
    · exact .inl ⟨r, p, h', ho, rfl⟩
    · omega
    · exact .inl ⟨r0, p0, h1, h2, h3⟩
  · rcases h.boxes t b ht with h' | h'
    · exact .inr ⟨t, h'⟩
    · omega

theorem Later.trans {m1 m2 m3 : M} {b1 b2 b3 : BM} {w1 w2 w3 : World} (h : Later m1 b1 w1 m2 b2 w2) (k : Later m2 b2 w2 m3 b3 w3) : Later m1 b1 w1 m3 b3 w3 where
  le := h.le.trans k.le
  wfr := h.wfr.trans k.wfr fun b hb ho => h.own b hb ho
  rows := fun r p e => by
    rcases k.rows r p e with e' | e' | ⟨r0, p0, e1, e2, e3⟩
    · exact h.rows r p e'
    · have := h.wfr.size; exact .inr (.inl (by omega))
    · rcases h.rows r0 p0 e1 with f | f | ⟨r1, p1, f1, f2, f3⟩
      · exact .inr (.inr ⟨r0, p0, f, e2, e3⟩)
      · exact .inr (.inl (by omega))
      · exact .inr (.inr ⟨r1, p1, f1, f2, f3.trans e3⟩)
  boxes := fun t b e => by
    rcases k.boxes t b e with e' | e'
    · exact h.boxes t b e'
    · have := h.wfr.size; exact .inr (by omega)

end Ab

/- The instructions that only compute or read: the Go machine's operation yields a related value, and the world is as it was. -/
set_option linter.unusedVariables false
set_option linter.unusedSimpArgs false
namespace Ab
open Go

section
variable {P : Program} {bs : List Nat} {m : M} {bm : BM} {e : Nat → AVal} {al : Nat → Option (Nat × Nat)} {tm : Array Value} {w : World} {g : Nat → Option Row}

abbrev ac (tm : Array Value) : Act := ⟨tm, []⟩

theorem Fr.val (hF : Fr m bm e al tm w) (t : Nat) (hp : (e t).plain = true) : VRel m (e t) (tm.getD t undef) := by
  have h := hF.slot t
  unfold SlotRel at h
  split at h
  · rename_i cs hx; rw [hx] at hp; simp [AVal.plain] at hp
  · exact h

theorem opd_rel (hF : Fr m bm e al tm w) {x : Operand} {y : Opd} (h : cOpd x = some y) (hp : (opd e y).plain = true) : VRel m (opd e y) ((ac tm).eval x) := by
  cases x with
  | tmp t => simp [cOpd] at h; subst h; exact hF.val t hp
  | const v =>
    simp only [cOpd, Option.map_eq_some_iff] at h
    obtain ⟨a, ha, rfl⟩ := h
    exact (absV_rel ha).1
  | func f =>
    simp [cOpd] at h; subst h
    simp only [opd, VRel]
    exact ⟨[], rfl, .nil⟩
  | global g => simp [cOpd] at h

theorem opd_bool (hF : Fr m bm e al tm w) {x : Operand} {y : Opd} (h : cOpd x = some y) {b : Bool} (hy : opd e y = .bool b) : (ac tm).eval x = .bool b := by
  have := opd_rel hF h (by rw [hy]; rfl); rw [hy] at this; simpa [VRel] using this
theorem opd_int (hF : Fr m bm e al tm w) {x : Operand} {y : Opd} (h : cOpd x = some y) {k : IntKind} {n : Int} (hy : opd e y = .int k n) : (ac tm).eval x = .int k n := by
  have := opd_rel hF h (by rw [hy]; rfl); rw [hy] at this; simpa [VRel] using this
theorem opd_str (hF : Fr m bm e al tm w) {x : Operand} {y : Opd} (h : cOpd x = some y) {l : Bs} (hy : opd e y = .str l) : ∃ s, (ac tm).eval x = .string s ∧ bsOf s = l := by
  have := opd_rel hF h (by rw [hy]; rfl); rw [hy] at this; simpa [VRel] using this

/-- The Go operation yields the value x; the world stays. -/
def Val (P : Program) (tm : Array Value) (o : Oper) (w : World) (x : Value) : Prop := (execOp (ac tm).eval o).run P w = .ok (.value x) w

/-- What is to be shown of an instruction that only computes. -/
def Pur (P : Program) (m : M) (tm : Array Value) (o : Oper) (w : World) (out : Out) : Prop :=
  ∃ x, Val P tm o w x ∧ VRel m out.v x ∧ out.al = none ∧ out.bx = none ∧ out.puts = [] ∧ out.new = none

theorem Pur.mk {o : Oper} {v : AVal} {x : Value} (h : Val P tm o w x) (hv : VRel m v x) : Pur P m tm o w { v := v } := ⟨x, h, hv, rfl, rfl, rfl, rfl⟩

theorem run_info {t : TypeId} {i : TypeInfo} (h : P.info? t = some i) : (typeInfo t).run P w = .ok i w := by simp [typeInfo, h]
theorem run_size {t : TypeId} {n : Nat} (h : sizeT P t = some n) : (Go.sizeOf t).run P w = .ok n w := by
  simp only [sizeT, Option.map_eq_some_iff] at h
  obtain ⟨i, hi, rfl⟩ := h
  simp [Go.sizeOf, run_info hi]
theorem run_agg {t : TypeId} {b : Bool} (h : aggT P t = some b) : (isAgg t).run P w = .ok b w := by
  unfold aggT at h
  split at h <;> simp at h <;> subst h <;> rename_i hu
  · simp [isAgg, run_underlying hu]
  · simp [isAgg, run_underlying hu]
  · rename_i h1 h2
    simp only [isAgg, Sem.run_bind, run_underlying hu, Result.andThen_ok]
    rfl

theorem add_off (b o n : Nat) : (⟨b, o, none⟩ : Addr).add n = ⟨b, o + n, none⟩ := by
  unfold Addr.add; split
  · rename_i h; subst h; rfl
  · rfl

theorem cell_of {b o : Nat} {c : Array Value} {et : TypeId} {fr : Nat × Nat} {v : Value} (h : w.heap[b]? = some (.cells c et fr)) (hv : c[o]? = some v) : w.cell? ⟨b, o, none⟩ = some v := by
  simp [World.cell?, h, hv]

/-- A range of related cells: their values. -/
theorem CsRel.range {cs : List AVal} {c : Array Value} {sh : Nat} (h : CsRel m cs c sh) (off n : Nat) (hn : off + n ≤ cs.length) :
    ∃ vs : List Value, VsRel m ((cs.drop off).take n) vs ∧ vs.length = n ∧ (∀ j v, vs[j]? = some v → c[sh + (off + j)]? = some v) ∧ allSc ((cs.drop off).take n) = true := by
  induction n with
  | zero => exact ⟨[], by simpa using VsRel.nil, rfl, fun j v h => by simp at h, by simp [allSc]⟩
  | succ n ih =>
    obtain ⟨vs, h1, h2, h3, h4⟩ := ih (by omega)
    have hx : cs[off + n]? = some cs[off + n] := List.getElem?_eq_getElem (by omega)
    obtain ⟨hs, v, hv, hr⟩ := h _ _ hx
    have ht : (cs.drop off).take (n + 1) = (cs.drop off).take n ++ [cs[off + n]] := by
      rw [List.take_succ_eq_append_getElem (by simp; omega)]
      simp
    refine ⟨vs ++ [v], ?_, by simp [h2], fun j u hj => ?_, ?_⟩
    · rw [ht]; exact h1.append (.cons hr .nil)
    · by_cases hjn : j < vs.length
      · rw [List.getElem?_append_left hjn] at hj; exact h3 j u hj
      · rw [List.getElem?_append_right (by omega)] at hj
        have : j = n := by
          rcases Nat.lt_or_ge (j - vs.length) 1 with h' | h'
          · omega
          · rw [List.getElem?_eq_none (by simpa using h')] at hj; cases hj
        subst this
        simp [h2] at hj; subst hj; exact hv
    · rw [ht]; simp only [allSc, List.all_append, List.all_cons, List.all_nil, Bool.and_true, Bool.and_eq_true]; exact ⟨h4, hs⟩

theorem loadVar_sound {t : TypeId} {ag : Bool} {n : Nat} (hag : aggT P t = some ag) (hn : sizeT P t = some n) {cs : List AVal} {c : Array Value} {sh : Nat} (hcs : CsRel m cs c sh)
    {b : Nat} {et : TypeId} {fr : Nat × Nat} (hh : w.heap[b]? = some (.cells c et fr)) {off : Nat} {v : AVal} (hp : part cs off n ag = some v) :
    ∃ x, (loadVar t ⟨b, sh + off, none⟩).run P w = .ok x w ∧ VRel m v x := by
  cases ag with
  | false =>
    simp only [part, Bool.false_eq_true, if_false] at hp
    obtain ⟨hs, x, hx, hr⟩ := hcs _ _ hp
    exact ⟨x, by simp [loadVar, run_agg hag, cell_of hh hx], hr⟩
  | true =>
    simp only [part, if_true] at hp
    split at hp
    · rename_i hle
      simp at hp; subst hp
      obtain ⟨vs, h1, h2, h3, _⟩ := hcs.range off n hle
      refine ⟨.agg vs.toArray, ?_, ?_⟩
      · have := run_loadCells_list (P := P) w ⟨b, sh + off, none⟩ vs (fun j u hj => by rw [add_off]; exact cell_of hh (by rw [← h3 j u hj]; congr 1; omega))
        rw [h2] at this
        simp [loadVar, run_agg hag, run_size hn, this]
      · simp only [VRel]; exact ⟨vs, rfl, h1⟩
    · simp at hp

/-- What an address is. -/
theorem addr_row (hF : Fr m bm e al tm w) {x : Operand} {y : Opd} (h : cOpd x = some y) {r off : Nat} (ha : addr e al y = some (.row r off)) : opd e y = .ptr r off := by
  cases y with
  | c v => simp [addr] at ha
  | t n =>
    simp only [addr] at ha
    split at ha
    · rename_i hx; simp at ha; obtain ⟨rfl, rfl⟩ := ha; exact hx
    · simp at ha
    · split at ha <;> simp at ha

theorem addr_box (hF : Fr m bm e al tm w) {x : Operand} {y : Opd} (h : cOpd x = some y) {u off : Nat} (ha : addr e al y = some (.box u off)) :
    ∃ t b, x = .tmp t ∧ bm u = some b ∧ (ac tm).eval x = .pointer (some ⟨b, off, none⟩) := by
  cases y with
  | c v => simp [addr] at ha
  | t n =>
    have hx : x = .tmp n := by
      cases x with
      | tmp t => simp [cOpd] at h; rw [h]
      | const v => simp [cOpd] at h
      | func f => simp [cOpd] at h
      | global g => simp [cOpd] at h
    subst hx
    simp only [addr] at ha
    split at ha
    · simp at ha
    · rename_i cs hx
      simp at ha; obtain ⟨rfl, rfl⟩ := ha
      have hs := hF.slot n
      rw [hx] at hs
      obtain ⟨b, hb, hv, _⟩ := hs
      exact ⟨n, b, rfl, hb, hv⟩
    · split at ha
      · rename_i t off' hal
        simp at ha; obtain ⟨rfl, rfl⟩ := ha
        obtain ⟨b, hb, hv⟩ := hF.al _ _ _ hal
        exact ⟨n, b, rfl, hb, hv⟩
      · simp at ha

theorem box_at (hF : Fr m bm e al tm w) {u b : Nat} {cs : List AVal} (hb : bm u = some b) (he : e u = .box cs) : BoxAt m w b cs := by
  have hs := hF.slot u
  rw [he] at hs
  obtain ⟨b', hb', _, h⟩ := hs
  rw [hb] at hb'; injection hb' with hb'; subst hb'; exact h

/-- A row that is looked into lies somewhere. -/
theorem Sim.lies (hS : Sim m g w) {r : Nat} {row : Row} (hg : g r = some row) (hd : row ≠ .dead) (hu : m r ≠ .unk) : ∃ p o, m r = .at p ∧ w.heap[p.b]? = some o ∧ RowRel m p row o := by
  cases hm : m r with
  | unk => exact (hu hm).elim
  | dead => rw [hS.dead r hm] at hg; injection hg with hg; exact (hd hg.symm).elim
  | «at» p =>
    obtain ⟨row', o, h1, h2, h3⟩ := hS.row r p hm
    rw [hg] at h1; injection h1 with h1; subst h1
    exact ⟨p, o, rfl, h2, h3⟩

theorem RowRel.cells {p : Pl} {row : Row} {o : Obj} (h : RowRel m p row o) {cs : List AVal} (hc : rowCells row = some cs) : ∃ c et fr, o = .cells c et fr ∧ CsRel m cs c p.sh := by
  cases row with
  | cells et hd cs' => simp [rowCells] at hc; subst hc; obtain ⟨c, fr, rfl, _, _, _, _, _, h⟩ := h; exact ⟨c, et, fr, rfl, h⟩
  | fix cs' => simp [rowCells] at hc; subst hc; obtain ⟨c, et, fr, rfl, h⟩ := h; exact ⟨c, et, fr, rfl, h⟩
  | map es => simp [rowCells] at hc
  | dead => simp [rowCells] at hc

theorem rowCells_live {row : Row} {cs : List AVal} (h : rowCells row = some cs) : row ≠ .dead := by
  rintro rfl; simp [rowCells] at h

theorem VRel.ptr_at {r off : Nat} {v : Value} (h : VRel m (.ptr r off) v) {p : Pl} (hm : m r = .at p) : v = .pointer (some ⟨p.b, p.sh + off, none⟩) := by
  simp only [VRel, hm] at h; exact h
theorem VRel.ptr_known {r off : Nat} {v : Value} (h : VRel m (.ptr r off) v) : m r ≠ .unk := by
  intro hm; simp only [VRel, hm] at h
theorem VRel.slc_known {r off ln k : Nat} {v : Value} (h : VRel m (.slc r off ln k) v) : m r ≠ .unk := by
  intro hm; simp only [VRel, hm] at h
theorem VRel.map_known {r : Nat} {v : Value} (h : VRel m (.map r) v) : m r ≠ .unk := by
  intro hm; simp only [VRel, hm] at h

/- load -/
theorem s_load (hF : Fr m bm e al tm w) (hS : Sim m g w) {o : Oper} {t : TypeId} {a : Operand} (ho : o.op = .load t a) {i : Ins} (hc : cIns P bs o = some i) {fr : Nat → Bool} {nx : Nat} {out : Out}
    (hs : i.sem e al g fr nx o.dst = some out) : Pur P m tm o w out := by
  simp only [cIns, ho] at hc
  split at hc
  · rename_i y ag n h1 h2 h3
    split at hc
    · simp at hc; subst hc
      simp only [Ins.sem] at hs
      split at hs
      · rename_i u off ha
        split at hs
        · rename_i cs he
          split at hs
          · rename_i v hp
            simp at hs; subst hs
            obtain ⟨t', b, hx, hb, hv⟩ := addr_box hF h1 ha
            obtain ⟨c, et, fr', hh, _, hsz, hcs⟩ := box_at hF hb he
            obtain ⟨x, hx1, hx2⟩ := loadVar_sound h2 h3 hcs hh hp
            rw [Nat.zero_add] at hx1
            exact .mk (by simp [Val, execOp, ho, Instr.loadAt, hv, Instr.sureAddr, hx1]) hx2
          · simp at hs
        · simp at hs
      · rename_i r off ha
        have hy := addr_row hF h1 ha
        have hr := opd_rel hF h1 (by rw [hy]; rfl)
        rw [hy] at hr
        split at hs
        · rename_i row hg
          split at hs
          · rename_i cs hcs
            split at hs
            · rename_i v hp
              simp at hs; subst hs
              obtain ⟨p, ob, hm, hh, hrow⟩ := hS.lies hg (rowCells_live hcs) hr.ptr_known
              obtain ⟨c, et, fr', rfl, hrel⟩ := hrow.cells hcs
              have hv := hr.ptr_at hm
              obtain ⟨x, hx1, hx2⟩ := loadVar_sound h2 h3 hrel hh hp
              exact .mk (by simp [Val, execOp, ho, Instr.loadAt, hv, Instr.sureAddr, hx1]) hx2
            · simp at hs
          · simp at hs
        · simp at hs
      · simp at hs
    · simp at hc
  · simp at hc

theorem s_move (hF : Fr m bm e al tm w) {o : Oper} {x : Operand} (ho : o.op = .move x ∨ o.op = .assign x) {i : Ins} (hc : cIns P bs o = some i) {fr : Nat → Bool} {nx : Nat} {out : Out}
    (hs : i.sem e al g fr nx o.dst = some out) : Pur P m tm o w out := by
  have hc' : (cOpd x).map Ins.mv = some i := by rcases ho with ho | ho <;> simpa only [cIns, ho] using hc
  simp only [Option.map_eq_some_iff] at hc'
  obtain ⟨y, hy, rfl⟩ := hc'
  simp only [Ins.sem] at hs
  split at hs
  · rename_i hp
    simp at hs; subst hs
    exact .mk (x := (ac tm).eval x) (by rcases ho with ho | ho <;> simp [Val, execOp, ho]) (opd_rel hF hy hp)
  · simp at hs

theorem s_pick (hF : Fr m bm e al tm w) {o : Oper} {a b c : Operand} (ho : o.op = .pick a b c) {i : Ins} (hc : cIns P bs o = some i) {fr : Nat → Bool} {nx : Nat} {out : Out}
    (hs : i.sem e al g fr nx o.dst = some out) : Pur P m tm o w out := by
  simp only [cIns, ho] at hc
  split at hc
  · rename_i ya yb yc h1 h2 h3
    simp at hc; subst hc
    simp only [Ins.sem] at hs
    split at hs
    · rename_i hb
      split at hs
      · rename_i hp
        simp at hs; subst hs
        exact .mk (x := (ac tm).eval b) (by simp [Val, execOp, ho, opd_bool hF h1 hb, asBool]) (opd_rel hF h2 hp)
      · simp at hs
    · rename_i hb
      split at hs
      · rename_i hp
        simp at hs; subst hs
        exact .mk (x := (ac tm).eval c) (by simp [Val, execOp, ho, opd_bool hF h1 hb, asBool]) (opd_rel hF h3 hp)
      · simp at hs
    · simp at hs
  · simp at hc

theorem s_nilCheck (hF : Fr m bm e al tm w) {o : Oper} {x : Operand} (ho : o.op = .nilCheck x) {i : Ins} (hc : cIns P bs o = some i) {fr : Nat → Bool} {nx : Nat} {out : Out}
    (hs : i.sem e al g fr nx o.dst = some out) : Pur P m tm o w out := by
  simp only [cIns, ho, Option.map_eq_some_iff] at hc
  obtain ⟨y, hy, rfl⟩ := hc
  simp only [Ins.sem] at hs
  split at hs
  · rename_i r off hx
    simp at hs; subst hs
    have h := opd_rel hF hy (by rw [hx]; rfl)
    rw [hx] at h
    have hv : ∃ a, (ac tm).eval x = .pointer (some a) := by
      simp only [VRel] at h
      split at h
      · exact ⟨_, h⟩
      · exact h
      · exact h.elim
    obtain ⟨a, hv⟩ := hv
    refine .mk (x := .pointer (some a)) (by simp [Val, execOp, ho, hv]) (by rw [hv] at h; exact h)
  · rename_i f cs hx
    simp at hs; subst hs
    have h := opd_rel hF hy (by rw [hx]; rfl)
    rw [hx] at h
    have h' := h
    simp only [VRel] at h
    obtain ⟨vs, hv, _⟩ := h
    refine .mk (x := (ac tm).eval x) (by simp [Val, execOp, ho, hv]) h'
  · simp at hs

theorem s_extract (hF : Fr m bm e al tm w) {o : Oper} {x : Operand} {k : Nat} (ho : o.op = .extract x k) {i : Ins} (hc : cIns P bs o = some i) {fr : Nat → Bool} {nx : Nat} {out : Out}
    (hs : i.sem e al g fr nx o.dst = some out) : Pur P m tm o w out := by
  simp only [cIns, ho, Option.map_eq_some_iff] at hc
  obtain ⟨y, hy, rfl⟩ := hc
  simp only [Ins.sem] at hs
  split at hs
  · rename_i vs hx
    split at hs
    · rename_i v hv
      split at hs
      · simp at hs; subst hs
        have h := opd_rel hF hy (by rw [hx]; rfl)
        rw [hx] at h
        simp only [VRel] at h
        obtain ⟨us, hu, h⟩ := h
        obtain ⟨u, hu', hr⟩ := h.get k v hv
        exact .mk (x := u) (by simp [Val, execOp, ho, hu, Instr.extract, hu']) hr
      · simp at hs
    · simp at hs
  · simp at hs

theorem s_fieldAddr_row (hF : Fr m bm e al tm w) {o : Oper} {s : TypeId} {x : Operand} {f : Nat} (ho : o.op = .fieldAddr s x f) {i : Ins} (hc : cIns P bs o = some i) :
    ∃ y off, i = .fieldAddr y off ∧ cOpd x = some y ∧ ∀ b o' , (ac tm).eval x = .pointer (some ⟨b, o', none⟩) → Val P tm o w (.pointer (some ⟨b, o' + off, none⟩)) := by
  simp only [cIns, ho] at hc
  split at hc
  · rename_i fs hu
    split at hc
    · rename_i fd hf
      split at hc
      · rename_i n y h1 h2
        simp at hc; subst hc
        refine ⟨y, fd.offset, rfl, h2, fun b o' hv => ?_⟩
        simp [Val, execOp, ho, Instr.fieldAt, run_underlying hu, hf, hv, Instr.sureAddr, fieldPlace, run_size h1, add_off]
      · simp at hc
    · simp at hc
  · simp at hc

theorem bsOf_length (s : ByteArray) : (bsOf s).length = s.size := by simp [bsOf]

theorem bsOf_get (s : ByteArray) (i : Nat) : (bsOf s)[i]? = (s[i]?).map (·.toNat) := by
  simp only [bsOf, List.getElem?_map]
  congr 1
  by_cases h : i < s.size
  · rw [getElem?_pos s i h]
    have : i < s.data.toList.length := by simpa using h
    rw [List.getElem?_eq_getElem this]
    rfl
  · rw [getElem?_neg s i h, List.getElem?_eq_none (by simpa using h)]

theorem s_index (hF : Fr m bm e al tm w) {o : Oper} {t : TypeId} {x k : Operand} (ho : o.op = .index t x k) {i : Ins} (hc : cIns P bs o = some i) {fr : Nat → Bool} {nx : Nat} {out : Out}
    (hs : i.sem e al g fr nx o.dst = some out) : Pur P m tm o w out := by
  simp only [cIns, ho] at hc
  split at hc
  · rename_i y z h1 h2 h3
    simp at hc; subst hc
    simp only [Ins.sem] at hs
    split at hs
    · rename_i l kk n hx hk
      split at hs
      · rename_i hn
        split at hs
        · rename_i b hb
          simp at hs; subst hs
          obtain ⟨s, hv, hl⟩ := opd_str hF h2 hx
          have hi := opd_int hF h3 hk
          have hb' : ∃ c : UInt8, s[n.toNat]? = some c ∧ c.toNat = b := by
            rw [← hl, bsOf_get] at hb
            simpa using hb
          obtain ⟨c, hc, rfl⟩ := hb'
          exact .mk (x := .int .u8 c.toNat) (by simp [Val, execOp, ho, Instr.index, hv, hi, asIntOf, run_underlying h1, hn, hc]) (by simp [VRel])
        · simp at hs
      · simp at hs
    · simp at hs
  · simp at hc

theorem s_indexAddr (hF : Fr m bm e al tm w) {o : Oper} {t : TypeId} {x k : Operand} (ho : o.op = .indexAddr t x k) {i : Ins} (hc : cIns P bs o = some i) {fr : Nat → Bool} {nx : Nat} {out : Out}
    (hs : i.sem e al g fr nx o.dst = some out) : Pur P m tm o w out := by
  simp only [cIns, ho] at hc
  split at hc
  · rename_i el hu
    split at hc
    · rename_i n y z h1 h2 h3
      simp at hc; subst hc
      simp only [Ins.sem] at hs
      split at hs
      · rename_i r off ln k0 kk j hx hk
        split at hs
        · rename_i hj
          obtain ⟨rfl, hj⟩ := hj
          simp at hs; subst hs
          have h := opd_rel hF h2 (by rw [hx]; rfl)
          rw [hx] at h
          have hi := opd_int hF h3 hk
          simp only [VRel] at h
          split at h
          · rename_i p hm
            obtain ⟨o', cap, hv, hcap, ho', _⟩ := h
            have ho2 : o' = p.sh + off := by rcases ho' with h0 | h0 <;> omega
            subst ho2
            refine .mk (x := .pointer (some ⟨p.b, p.sh + off + j.toNat * k0, none⟩)) (by simp [Val, execOp, ho, Instr.indexAt, hi, asIntOf, run_underlying hu, hv, hj, run_size h1, add_off]) ?_
            simp only [VRel, hm]; simp; omega
          · rename_i hm
            obtain ⟨a, cap, hv, _⟩ := h
            refine .mk (x := .pointer (some (a.add (j.toNat * k0)))) (by simp [Val, execOp, ho, Instr.indexAt, hi, asIntOf, run_underlying hu, hv, hj, run_size h1]) ?_
            simp only [VRel, hm]; exact ⟨_, rfl⟩
          · exact h.elim
        · simp at hs
      · simp at hs
    · simp at hc
  · simp at hc

theorem cOpds_rel (hF : Fr m bm e al tm w) : ∀ {l : List Operand} {ys : List Opd}, cOpds l = some ys → ∀ {vs : List AVal}, vals e ys = some vs → VsRel m vs (l.map (ac tm).eval)
  | [], ys, h, vs, hv => by simp [cOpds] at h; subst h; simp [vals] at hv; subst hv; exact .nil
  | x :: r, ys, h, vs, hv => by
    simp only [cOpds] at h
    split at h
    · rename_i a l h1 h2
      simp at h; subst h
      simp only [vals] at hv
      split at hv
      · rename_i hp
        split at hv
        · rename_i l' hl
          simp at hv; subst hv
          exact .cons (opd_rel hF h1 hp) (cOpds_rel hF h2 hl)
        · simp at hv
      · simp at hv
    · simp at h

theorem s_makeFunc (hF : Fr m bm e al tm w) {o : Oper} {fn : Go.Fn} {first caps : Array Operand} (ho : o.op = .makeFunc fn first caps) {i : Ins} (hc : cIns P bs o = some i) {fr : Nat → Bool} {nx : Nat} {out : Out}
    (hs : i.sem e al g fr nx o.dst = some out) : Pur P m tm o w out := by
  cases fn with
  | func f =>
    simp only [cIns, ho] at hc
    split at hc
    · rename_i hfirst
      simp only [Option.map_eq_some_iff] at hc
      obtain ⟨ys, hys, rfl⟩ := hc
      simp only [Ins.sem] at hs
      split at hs
      · rename_i l hl
        simp at hs; subst hs
        have hr := cOpds_rel hF hys hl
        have hf : first = #[] := by simpa using hfirst
        refine .mk (x := .func (.func f) #[] (caps.map (ac tm).eval)) (by simp [Val, execOp, ho, Instr.makeFunc, hf]) ?_
        simp only [VRel]
        exact ⟨caps.toList.map (ac tm).eval, by rw [← Array.toList_map], hr⟩
      · simp at hs
    · simp at hc
  | _ => simp [cIns, ho] at hc

theorem s_unOp (hF : Fr m bm e al tm w) {o : Oper} {op : UnOp} {t : TypeId} {x : Operand} (ho : o.op = .unOp op t x) {i : Ins} (hc : cIns P bs o = some i) {fr : Nat → Bool} {nx : Nat} {out : Out}
    (hs : i.sem e al g fr nx o.dst = some out) : Pur P m tm o w out := by
  simp only [cIns, ho, Option.map_eq_some_iff] at hc
  obtain ⟨y, hy, rfl⟩ := hc
  simp only [Ins.sem] at hs
  split at hs
  · rename_i v hv
    simp at hs; subst hs
    unfold unv at hv
    split at hv
    · rename_i k n hx
      simp at hv; subst hv
      exact .mk (x := .int k (k.wrap (0 - n))) (by simp [Val, execOp, ho, Op.unary, opd_int hF hy hx, Op.intArith]) (by simp [VRel])
    · rename_i b hx
      simp at hv; subst hv
      exact .mk (x := .bool !b) (by simp [Val, execOp, ho, Op.unary, opd_bool hF hy hx]) (by simp [VRel])
    · simp at hv
  · simp at hs

end
end Ab

/- More instructions that only compute or read. -/
set_option linter.unusedVariables false
set_option linter.unusedSimpArgs false
namespace Ab
open Go

section
variable {P : Program} {bs : List Nat} {m : M} {bm : BM} {e : Nat → AVal} {al : Nat → Option (Nat × Nat)} {tm : Array Value} {w : World} {g : Nat → Option Row}

/- Parts of an aggregate. -/
theorem part_sound {t : TypeId} {ag : Bool} {n : Nat} (hag : aggT P t = some ag) (hn : sizeT P t = some n) {cs : List AVal} {vs : List Value} (h : VsRel m cs vs) {off : Nat} {v : AVal}
    (hp : part cs off n ag = some v) : ∃ x, (Go.part t vs.toArray off).run P w = .ok x w ∧ VRel m v x := by
  cases ag with
  | false =>
    simp only [Ab.part, Bool.false_eq_true, if_false] at hp
    obtain ⟨x, hx, hr⟩ := h.get _ _ hp
    exact ⟨x, by simp [Go.part, run_agg hag, hx], hr⟩
  | true =>
    simp only [Ab.part, if_true] at hp
    split at hp
    · rename_i hle
      simp at hp; subst hp
      refine ⟨.agg (vs.toArray.extract off (off + n)), by simp [Go.part, run_agg hag, run_size hn], ?_⟩
      simp only [VRel]
      refine ⟨(vs.drop off).take n, ?_, (h.drop off).take n⟩
      rw [List.extract_toArray]
      congr 2
      simp [List.extract]
    · simp at hp

theorem s_field (hF : Fr m bm e al tm w) {o : Oper} {s : TypeId} {x : Operand} {f : Nat} (ho : o.op = .field s x f) {i : Ins} (hc : cIns P bs o = some i) {fr : Nat → Bool} {nx : Nat} {out : Out}
    (hs : i.sem e al g fr nx o.dst = some out) : Pur P m tm o w out := by
  simp only [cIns, ho] at hc
  split at hc
  · rename_i fs hu
    split at hc
    · rename_i fd hf
      split at hc
      · rename_i n ag y h1 h2 h3
        simp at hc; subst hc
        simp only [Ins.sem] at hs
        split at hs
        · rename_i cs hx
          split at hs
          · rename_i v hp
            simp at hs; subst hs
            have h := opd_rel hF h3 (by rw [hx]; rfl)
            rw [hx] at h
            simp only [VRel] at h
            obtain ⟨vs, hv, h⟩ := h
            obtain ⟨u, hu1, hu2⟩ := part_sound (P := P) (w := w) h2 h1 h hp
            exact .mk (x := u) (by simp [Val, execOp, ho, Instr.field, run_underlying hu, hf, hv, asAgg, hu1]) hu2
          · simp at hs
        · simp at hs
      · simp at hc
    · simp at hc
  · simp at hc

/- Equality. -/
theorem bsOf_inj {s t : ByteArray} (h : bsOf s = bsOf t) : s = t := by
  have : s.data.toList = t.data.toList := List.map_inj_right (fun a b h => UInt8.toNat_inj.1 h) |>.1 h
  cases s; cases t
  simp at this
  simp [this]

theorem data_inj {s t : ByteArray} : s.data.toList = t.data.toList ↔ s = t := by
  constructor
  · intro h; cases s; cases t; simp at h; simp [h]
  · rintro rfl; rfl

theorem toList_beq (s t : ByteArray) : (s.toList == t.toList) = decide (bsOf s = bsOf t) := by
  rw [ByteArray.toList_eq, ByteArray.toList_eq, Bool.eq_iff_iff, beq_iff_eq, decide_eq_true_iff, data_inj]
  exact ⟨fun h => by rw [h], bsOf_inj⟩

/-- Two basic values of a basic type. -/
theorem eq1_sound {t : TypeId} {bt : BT} (ht : basicT P t = some bt) {a b : AVal} {x y : Value} {r : Bool} (h : eq1 bt a b = some r) (hx : VRel m a x) (hy : VRel m b y) (d : Nat) :
    (Op.equalIn (d + 1) t x y).run P w = .ok r w := by
  unfold basicT at ht
  unfold eq1 at h
  split at h
  · rename_i p q
    simp at h; subst h
    simp only [VRel] at hx hy; subst hx; subst hy
    split at ht <;> simp at ht
    rename_i hu
    rw [run_equalIn_bool' _ _ _ _ _ hu]
  · rename_i k p k' q
    split at h
    · rename_i hk
      simp at h; subst h; subst hk
      simp only [VRel] at hx hy; subst hx; subst hy
      split at ht <;> simp at ht
      rename_i hu
      rw [run_equalIn_int _ _ _ _ _ _ _ hu]
    · simp at h
  · rename_i p q
    simp at h; subst h
    simp only [VRel] at hx hy
    obtain ⟨s, rfl, rfl⟩ := hx
    obtain ⟨s', rfl, rfl⟩ := hy
    split at ht <;> simp at ht
    rename_i hu
    rw [run_equalIn_string _ _ _ _ _ hu, toList_beq]
  · simp at h

theorem eqFields_sound (d : Nat) (xs ys : List Value) {cx cy : List AVal} (hx : VsRel m cx xs) (hy : VsRel m cy ys) : ∀ (fs : List Field) (k : Nat) (l : List BT) (r : Bool),
    flatF P k fs = some l → eqs l (cx.drop k) (cy.drop k) = some r → (Op.eqFields (d + 1) xs.toArray ys.toArray fs).run P w = .ok r w
  | [], k, l, r, hf, he => by
    simp [flatF] at hf; subst hf
    simp only [Op.eqFields, Sem.run_pure]
    cases hcx : cx.drop k <;> cases hcy : cy.drop k <;> simp [eqs, hcx, hcy] at he
    rw [← he]
  | f :: fs, k, l, r, hf, he => by
    simp only [flatF] at hf
    split at hf
    · rename_i b l' h1 h2 h3
      split at hf
      · rename_i hk
        simp at hf; subst hf
        cases hcx : cx.drop k with
        | nil => cases hcy : cy.drop k <;> simp [eqs, hcx, hcy] at he
        | cons u ur =>
          cases hcy : cy.drop k with
          | nil => simp [eqs, hcx, hcy] at he
          | cons v vr =>
            rw [hcx, hcy] at he
            have hu : cx[k]? = some u := by have := congrArg (fun z => z[0]?) hcx; simpa using this
            have hv : cy[k]? = some v := by have := congrArg (fun z => z[0]?) hcy; simpa using this
            have hur : cx.drop (k + 1) = ur := by rw [← List.drop_drop, hcx]; rfl
            have hvr : cy.drop (k + 1) = vr := by rw [← List.drop_drop, hcy]; rfl
            obtain ⟨x, hx1, hx2⟩ := hx.get k u hu
            obtain ⟨y, hy1, hy2⟩ := hy.get k v hv
            simp only [eqs] at he
            have hpx : (Go.part f.type xs.toArray f.offset).run P w = .ok x w := by simp [Go.part, run_agg h2, hk.1, hx1]
            have hpy : (Go.part f.type ys.toArray f.offset).run P w = .ok y w := by simp [Go.part, run_agg h2, hk.1, hy1]
            simp only [Op.eqFields, hk.2, ne_eq, not_false_eq_true, if_true, Sem.run_bind, hpx, hpy, Result.andThen_ok]
            split at he
            · rename_i he1
              rw [eq1_sound h1 he1 hx2 hy2]
              simp only [Result.andThen_ok, Bool.not_true, Bool.false_eq_true, if_false]
              exact eqFields_sound d xs ys hx hy fs (k + 1) l' r h3 (by rw [hur, hvr]; exact he)
            · rename_i he1
              rw [eq1_sound h1 he1 hx2 hy2]
              split at he
              · simp at he; subst he
                simp
              · simp at he
            · simp at he
      · simp at hf
    · simp at hf

theorem eqT_struct {t : TypeId} {l : List BT} (h : eqT P t = some (.struct l)) : ∃ fs, P.underlying t = some (.struct fs) ∧ flatF P 0 fs.toList = some l ∧ P.eqGuardType P.depth t = false ∧ P.stoodInHeld t = false := by
  unfold eqT at h
  split at h
  · simp at h
  · simp at h
  · simp at h
  · split at h <;> simp at h
  · simp at h
  · simp at h
  · rename_i fs hu
    split at h
    · rename_i hc
      simp at h hc
      exact ⟨fs, hu, h, hc.1, hc.2⟩
    · simp at h
  · simp at h

theorem eqT_basic {t : TypeId} {b : BT} (h : eqT P t = some (.basic b)) : basicT P t = some b := by
  unfold eqT at h
  unfold basicT
  split at h
  · rename_i hu; simp at h; subst h; rw [hu]
  · rename_i hu; simp at h; subst h; rw [hu]
  · rename_i hu; simp at h; subst h; rw [hu]
  · split at h <;> simp at h
  · simp at h
  · simp at h
  · split at h <;> simp at h
  · simp at h

theorem eqT_ptr {t : TypeId} (h : eqT P t = some .ptr) : ∃ u n, P.underlying t = some (.pointer u) ∧ sizeT P u = some (n + 1) := by
  unfold eqT at h
  split at h
  · simp at h
  · simp at h
  · simp at h
  · rename_i u hu
    split at h
    · rename_i n hn; exact ⟨u, n, hu, hn⟩
    · simp at h
  · simp at h
  · simp at h
  · split at h <;> simp at h
  · simp at h

theorem eqT_slice {t : TypeId} (h : eqT P t = some .slice) : ∃ u, P.underlying t = some (.slice u) := by
  unfold eqT at h
  split at h
  · simp at h
  · simp at h
  · simp at h
  · split at h <;> simp at h
  · rename_i u hu; exact ⟨u, hu⟩
  · simp at h
  · split at h <;> simp at h
  · simp at h

theorem eqT_func {t : TypeId} (h : eqT P t = some .func) : ∃ a b c, P.underlying t = some (.func a b c) := by
  unfold eqT at h
  split at h
  · simp at h
  · simp at h
  · simp at h
  · split at h <;> simp at h
  · simp at h
  · rename_i a b c hu; exact ⟨a, b, c, hu⟩
  · split at h <;> simp at h
  · simp at h

theorem VRel.ptr_some {r off : Nat} {v : Value} (h : VRel m (.ptr r off) v) : ∃ a, v = .pointer (some a) := by
  simp only [VRel] at h
  split at h
  · exact ⟨_, h⟩
  · exact h
  · exact h.elim

theorem VRel.slc_some {r off ln k : Nat} {v : Value} (h : VRel m (.slc r off ln k) v) : ∃ a cap, v = .slice (some a) ln cap := by
  simp only [VRel] at h
  split at h
  · obtain ⟨_, cap, h, _⟩ := h; exact ⟨_, cap, h⟩
  · obtain ⟨a, cap, h, _⟩ := h; exact ⟨_, cap, h⟩
  · exact h.elim

/-- Equality of related values. -/
theorem eqv_sound {t : TypeId} {et : ETy} (ht : eqT P t = some et) {a b : AVal} {x y : Value} {r : Bool} (h : eqv et a b = some r) (hx : VRel m a x) (hy : VRel m b y) (d : Nat) :
    (Op.equalIn (d + 2) t x y).run P w = .ok r w := by
  unfold eqv at h
  split at h
  · exact eq1_sound (eqT_basic ht) h hx hy _
  · rename_i l cx cy
    obtain ⟨fs, hu, hf, _, hs⟩ := eqT_struct ht
    simp only [VRel] at hx hy
    obtain ⟨xs, rfl, hx⟩ := hx
    obtain ⟨ys, rfl, hy⟩ := hy
    have hfs : P.fieldsOf t = fs := by simp [Program.fieldsOf, hu]
    rw [run_equalIn_struct w _ t _ _ (by rw [hfs]; exact hu) hs, hfs]
    exact eqFields_sound d xs ys hx hy fs.toList 0 l r hf (by simpa using h)
  · obtain ⟨u, n, hu, hn⟩ := eqT_ptr ht
    simp at h; subst h; simp only [VRel] at hx hy; subst hx; subst hy
    unfold Op.equalIn; rw [Sem.run_bind, run_underlying hu]; rfl
  · obtain ⟨u, n, hu, hn⟩ := eqT_ptr ht
    simp at h; subst h; simp only [VRel] at hx; subst hx; obtain ⟨a, rfl⟩ := hy.ptr_some
    unfold Op.equalIn; rw [Sem.run_bind, run_underlying hu]; rfl
  · obtain ⟨u, n, hu, hn⟩ := eqT_ptr ht
    simp at h; subst h; simp only [VRel] at hy; subst hy; obtain ⟨a, rfl⟩ := hx.ptr_some
    unfold Op.equalIn; rw [Sem.run_bind, run_underlying hu]; rfl
  · obtain ⟨u, hu⟩ := eqT_slice ht
    simp at h; subst h; simp only [VRel] at hx hy; subst hx; subst hy
    unfold Op.equalIn; rw [Sem.run_bind, run_underlying hu]; rfl
  · obtain ⟨u, hu⟩ := eqT_slice ht
    simp at h; subst h; simp only [VRel] at hx; subst hx; obtain ⟨a, c, rfl⟩ := hy.slc_some
    unfold Op.equalIn; rw [Sem.run_bind, run_underlying hu]; rfl
  · obtain ⟨u, hu⟩ := eqT_slice ht
    simp at h; subst h; simp only [VRel] at hy; subst hy; obtain ⟨a, c, rfl⟩ := hx.slc_some
    unfold Op.equalIn; rw [Sem.run_bind, run_underlying hu]; rfl
  · obtain ⟨a, b, c, hu⟩ := eqT_func ht
    simp at h; subst h; simp only [VRel] at hx hy; subst hx; subst hy
    unfold Op.equalIn; rw [Sem.run_bind, run_underlying hu]; rfl
  · obtain ⟨a, b, c, hu⟩ := eqT_func ht
    simp at h; subst h; simp only [VRel] at hx hy; subst hx; obtain ⟨cs, rfl, _⟩ := hy
    unfold Op.equalIn; rw [Sem.run_bind, run_underlying hu]; rfl
  · obtain ⟨a, b, c, hu⟩ := eqT_func ht
    simp at h; subst h; simp only [VRel] at hx hy; subst hy; obtain ⟨cs, rfl, _⟩ := hx
    unfold Op.equalIn; rw [Sem.run_bind, run_underlying hu]; rfl
  · simp at h

/- Integers, strings. -/
theorem intOp_sound {op : BinOp} {k k' : IntKind} {a b : Int} {v : AVal} (hk : k = k' ∨ isShift op = true) (h : intOp op k a b = some v) (t : TypeId) :
    ∃ x, (binOp op t (.int k a) (.int k' b)).run P w = .ok x w ∧ VRel m v x := by
  cases op <;> simp only [intOp, isShift, Bool.false_eq_true, or_false, or_true] at h hk
  case shl =>
    split at h
    · simp at h
    · rename_i hb
      simp at h; subst h
      exact ⟨.int k (k.wrap (a * 2 ^ (min b.toNat k.bits))), by simp only [binOp, Op.shift, if_neg hb, Sem.run_pure], by simp only [VRel]⟩
  case shr =>
    split at h
    · simp at h
    · rename_i hb
      simp at h; subst h
      exact ⟨.int k (a.fdiv (2 ^ (min b.toNat k.bits))), by simp only [binOp, Op.shift, if_neg hb, Sem.run_pure], by simp only [VRel]⟩
  case quo =>
    split at h
    · simp at h
    · rename_i hb
      simp at h; subst h; subst hk
      exact ⟨_, by simp [binOp, Op.intDiv, hb]; rfl, by simp [VRel]⟩
  case rem =>
    split at h
    · simp at h
    · rename_i hb
      simp at h; subst h; subst hk
      exact ⟨_, by simp [binOp, Op.intDiv, hb]; rfl, by simp [VRel]⟩
  all_goals (subst hk)
  all_goals (first
    | (simp only [bits, Option.some.injEq] at h; subst h; exact ⟨_, by simp [binOp, Op.intBits, Op.intArith, Op.intCmp]; rfl, by simp [VRel]⟩)
    | (simp only [Option.some.injEq] at h; subst h; exact ⟨_, by simp [binOp, Op.intBits, Op.intArith, Op.intCmp]; rfl, by simp [VRel]⟩))

end
end Ab

/- Still more instructions that only compute or read. -/
set_option linter.unusedVariables false
set_option linter.unusedSimpArgs false
namespace Ab
open Go

section
variable {P : Program} {bs : List Nat} {m : M} {bm : BM} {e : Nat → AVal} {al : Nat → Option (Nat × Nat)} {tm : Array Value} {w : World} {g : Nat → Option Row}

theorem bsLess_sound : ∀ (a b : List UInt8), Op.bytesLess a b = bsLess (a.map (·.toNat)) (b.map (·.toNat))
  | a, [] => by cases a <;> simp [Op.bytesLess, bsLess]
  | [], b :: y => by simp [Op.bytesLess, bsLess]
  | a :: x, b :: y => by
    simp only [Op.bytesLess, bsLess, List.map_cons, bsLess_sound x y]
    congr 1
    congr 1
    rw [Bool.eq_iff_iff, beq_iff_eq, beq_iff_eq]
    exact ⟨fun h => by rw [h], fun h => UInt8.toNat_inj.1 h⟩

theorem bytesLess_sound (s t : ByteArray) : Op.bytesLess s.toList t.toList = bsLess (bsOf s) (bsOf t) := by
  rw [ByteArray.toList_eq, ByteArray.toList_eq]; exact bsLess_sound _ _

theorem bsOf_append (s t : ByteArray) : bsOf (s ++ t) = bsOf s ++ bsOf t := by
  simp [bsOf]

theorem strOp_sound {op : BinOp} {s s' : ByteArray} {v : AVal} (h : strOp op (bsOf s) (bsOf s') = some v) (t : TypeId) :
    ∃ x, (binOp op t (.string s) (.string s')).run P w = .ok x w ∧ VRel m v x := by
  cases op <;> simp only [strOp] at h
  case add =>
    split at h
    · rename_i hl
      simp at h; subst h
      rw [bsOf_length, bsOf_length] at hl
      have hm : ¬ ((s.size + s'.size : Nat) : Int) > IntKind.i64.max := by
        have : IntKind.i64.max = 9223372036854775807 := by decide
        rw [this]; omega
      exact ⟨.string (s ++ s'), by simp only [binOp, Op.stringOp, if_neg hm, Sem.run_pure], by simp only [VRel]; exact ⟨_, rfl, bsOf_append s s'⟩⟩
    · simp at h
  all_goals (first | (simp at h; done) | skip)
  all_goals (simp only [Option.some.injEq] at h; subst h)
  case eql => exact ⟨.bool (decide (bsOf s = bsOf s')), by simp only [binOp, Op.stringOp, Sem.run_pure, toList_beq], by simp [VRel]⟩
  case neq => exact ⟨.bool (!decide (bsOf s = bsOf s')), by simp only [binOp, Op.stringOp, Sem.run_pure, toList_beq], by simp [VRel]⟩
  case lss => exact ⟨.bool (bsLess (bsOf s) (bsOf s')), by simp only [binOp, Op.stringOp, Sem.run_pure, bytesLess_sound], by simp [VRel]⟩
  case leq => exact ⟨.bool (bsLess (bsOf s) (bsOf s') || decide (bsOf s = bsOf s')), by simp only [binOp, Op.stringOp, Sem.run_pure, bytesLess_sound, toList_beq], by simp [VRel]⟩
  case gtr => exact ⟨.bool (!(bsLess (bsOf s) (bsOf s') || decide (bsOf s = bsOf s'))), by simp only [binOp, Op.stringOp, Sem.run_pure, bytesLess_sound, toList_beq], by simp [VRel]⟩
  case geq => exact ⟨.bool (!bsLess (bsOf s) (bsOf s')), by simp only [binOp, Op.stringOp, Sem.run_pure, bytesLess_sound], by simp [VRel]⟩

/-- The guard ahead of '==' says nothing here. -/
theorem guard_ok {op : BinOp} {t : TypeId} {et : ETy} (ht : eqT P t = some et) (x y : Operand) {a b : AVal} {u v : Value} (hu : VRel m a u) (hv : VRel m b v) (hn : a ≠ .nili) (hq : (∃ l, et = .struct l) ∨ ∀ cs, a ≠ .agg cs) (hoq : a ≠ .opq) :
    (eqGuard op t x y u v).run P w = .ok () w := by
  rcases hq with ⟨l, rfl⟩ | hagg
  · obtain ⟨fs, hu1, hf, hg, hs⟩ := eqT_struct ht
    by_cases hag : ∃ us, u = .agg us
    · obtain ⟨us, rfl⟩ := hag
      by_cases hav : ∃ vs, v = .agg vs
      · obtain ⟨vs, rfl⟩ := hav
        exact run_eqGuard_agg w op t x y us vs hg
      · cases op <;> cases v <;> first | rfl | (exact (hav ⟨_, rfl⟩).elim)
    · have hnil : u ≠ .nilIface := by
        rintro rfl
        cases a <;> simp [VRel] at hu <;> first | (exact hn rfl) | (exact hoq rfl) | skip
        all_goals (split at hu <;> simp at hu)
      cases op <;> cases u <;> first | rfl | (exact (hag ⟨_, rfl⟩).elim) | (exact (hnil rfl).elim)
  · have hnil : u ≠ .nilIface := by
      rintro rfl
      cases a <;> simp [VRel] at hu <;> first | (exact hn rfl) | (exact hoq rfl) | skip
      all_goals (split at hu <;> simp at hu)
    have hag : ∀ us, u ≠ .agg us := by
      rintro us rfl
      cases a <;> simp [VRel] at hu <;> first | (exact hagg _ rfl) | (exact hoq rfl) | skip
      all_goals (split at hu <;> simp at hu)
    cases op <;> cases u <;> first | rfl | (exact (hag _ rfl).elim) | (exact (hnil rfl).elim)

/-- '==' and '!=' on what is neither two integers nor two strings. -/
theorem eq_op {t : TypeId} {et : ETy} (ht : eqT P t = some et) {a b : AVal} {u v : Value} {r : Bool} (h : eqv et a b = some r) (hu : VRel m a u) (hv : VRel m b v)
    (hi : ∀ k n k' n', a = .int k n → b = .int k' n' → False) (hs : ∀ s s', a = .str s → b = .str s' → False) :
    (binOp .eql t u v).run P w = .ok (.bool r) w ∧ (binOp .neq t u v).run P w = .ok (.bool !r) w := by
  have key := eqv_sound (P := P) (w := w) ht h hu hv 9998
  have hb : ∀ (x y : Value), (binOp .eql t x y = (do pure (.bool (← Op.equal t x y))) ∧ binOp .neq t x y = (do pure (.bool (!(← Op.equal t x y))))) →
      (Op.equalIn 10000 t x y).run P w = .ok r w → (binOp .eql t x y).run P w = .ok (.bool r) w ∧ (binOp .neq t x y).run P w = .ok (.bool !r) w := by
    intro x y ⟨h1, h2⟩ hk
    rw [h1, h2]
    constructor <;> simp [Op.equal, Op.maxDepth, hk]
  refine hb u v ?_ key
  clear hb key
  unfold eqv at h
  split at h
  · unfold eq1 at h
    split at h
    · simp only [VRel] at hu hv; subst hu; subst hv; exact ⟨rfl, rfl⟩
    · exact (hi _ _ _ _ rfl rfl).elim
    · exact (hs _ _ rfl rfl).elim
    · simp at h
  · simp only [VRel] at hu hv; obtain ⟨_, rfl, _⟩ := hu; obtain ⟨_, rfl, _⟩ := hv; exact ⟨rfl, rfl⟩
  · simp only [VRel] at hu hv; subst hu; subst hv; exact ⟨rfl, rfl⟩
  · simp only [VRel] at hu; subst hu; obtain ⟨a, rfl⟩ := hv.ptr_some; exact ⟨rfl, rfl⟩
  · simp only [VRel] at hv; subst hv; obtain ⟨a, rfl⟩ := hu.ptr_some; exact ⟨rfl, rfl⟩
  · simp only [VRel] at hu hv; subst hu; subst hv; exact ⟨rfl, rfl⟩
  · simp only [VRel] at hu; subst hu; obtain ⟨a, c, rfl⟩ := hv.slc_some; exact ⟨rfl, rfl⟩
  · simp only [VRel] at hv; subst hv; obtain ⟨a, c, rfl⟩ := hu.slc_some; exact ⟨rfl, rfl⟩
  · simp only [VRel] at hu hv; subst hu; subst hv; exact ⟨rfl, rfl⟩
  · simp only [VRel] at hu hv; subst hu; obtain ⟨_, rfl, _⟩ := hv; exact ⟨rfl, rfl⟩
  · simp only [VRel] at hu hv; subst hv; obtain ⟨_, rfl, _⟩ := hu; exact ⟨rfl, rfl⟩
  · simp at h

/-- What '==' takes is a value of its type. -/
theorem eqv_shape {et : ETy} {a b : AVal} {r : Bool} (h : eqv et a b = some r) : a ≠ .nili ∧ a ≠ .opq ∧ a.plain = true ∧ b.plain = true ∧ ((∃ l, et = .struct l) ∨ ∀ cs, a ≠ .agg cs) := by
  unfold eqv at h
  split at h
  · unfold eq1 at h
    split at h
    · exact ⟨by simp, by simp, rfl, rfl, .inr (by simp)⟩
    · exact ⟨by simp, by simp, rfl, rfl, .inr (by simp)⟩
    · exact ⟨by simp, by simp, rfl, rfl, .inr (by simp)⟩
    · simp at h
  · exact ⟨by simp, by simp, rfl, rfl, .inl ⟨_, rfl⟩⟩
  all_goals (first | (simp at h; done) | exact ⟨by simp, by simp, rfl, rfl, .inr (by simp)⟩)

theorem binv_sound (hF : Fr m bm e al tm w) {o : Oper} {op : BinOp} {t t' : TypeId} {x y : Operand} (ho : o.op = .binOp op t x y t') {et : ETy} {a b : Opd} (h1 : eqT P t = some et) (h2 : cOpd x = some a) (h3 : cOpd y = some b) {v : AVal}
    (h : binv op et (opd e a) (opd e b) = some v) : ∃ z, Val P tm o w z ∧ VRel m v z := by
  have hval : ∀ z, (eqGuard op t x y ((ac tm).eval x) ((ac tm).eval y)).run P w = .ok () w → (binOp op t ((ac tm).eval x) ((ac tm).eval y)).run P w = .ok z w → Val P tm o w z := by
    intro z hg hb
    simp only [Val, execOp, ho, Sem.run_bind, hg, hb, Result.andThen_ok, Sem.run_pure]
  unfold binv at h
  split at h
  · rename_i k n k' n' ha hb
    split at h
    · rename_i hk
      have hx := opd_int hF h2 ha
      have hy := opd_int hF h3 hb
      obtain ⟨z, hz1, hz2⟩ := intOp_sound (P := P) (w := w) (m := m) hk h t
      refine ⟨z, hval z ?_ (by rw [hx, hy]; exact hz1), hz2⟩
      rw [hx, hy]; cases op <;> rfl
    · simp at h
  · rename_i s s' ha hb
    obtain ⟨u, hx, rfl⟩ := opd_str hF h2 ha
    obtain ⟨u', hy, rfl⟩ := opd_str hF h3 hb
    obtain ⟨z, hz1, hz2⟩ := strOp_sound (P := P) (w := w) (m := m) h t
    refine ⟨z, hval z ?_ (by rw [hx, hy]; exact hz1), hz2⟩
    rw [hx, hy]; cases op <;> rfl
  · rename_i hni hns
    split at h
    · simp only [Option.map_eq_some_iff] at h
      obtain ⟨r, hr, rfl⟩ := h
      obtain ⟨g1, g2, g3, g4, g5⟩ := eqv_shape hr
      have hu := opd_rel hF h2 g3
      have hv := opd_rel hF h3 g4
      exact ⟨.bool r, hval _ (guard_ok h1 x y hu hv g1 g5 g2) (eq_op h1 hr hu hv (fun k n k' n' ha hb => hni _ _ _ _ ha hb) (fun s s' ha hb => hns _ _ ha hb)).1, by simp [VRel]⟩
    · simp only [Option.map_eq_some_iff] at h
      obtain ⟨r, hr, rfl⟩ := h
      obtain ⟨g1, g2, g3, g4, g5⟩ := eqv_shape hr
      have hu := opd_rel hF h2 g3
      have hv := opd_rel hF h3 g4
      exact ⟨.bool !r, hval _ (guard_ok h1 x y hu hv g1 g5 g2) (eq_op h1 hr hu hv (fun k n k' n' ha hb => hni _ _ _ _ ha hb) (fun s s' ha hb => hns _ _ ha hb)).2, by simp [VRel]⟩
    · simp at h

theorem s_isNil (hF : Fr m bm e al tm w) {o : Oper} {op : BinOp} {t t' : TypeId} {x y : Operand} (ho : o.op = .binOp op t x y t') {b : Bool} (hn : cNil P op t y = some b) {i : Ins} (hc : (cOpd x).map (fun x => Ins.conv (.isNil b) x) = some i) {fr : Nat → Bool} {nx : Nat} {out : Out}
    (hs : i.sem e al g fr nx o.dst = some out) : Pur P m tm o w out := by
  simp only [Option.map_eq_some_iff] at hc
  obtain ⟨a, h2, rfl⟩ := hc
  simp only [Ins.sem] at hs
  split at hs
  all_goals first | (rename_i he; simp at he; done) | skip
  all_goals first | (rename_i he _; simp at he; done) | skip
  all_goals first | (simp at hs; done) | skip
  rename_i b' hc' hx
  cases hc'
  simp at hs; subst hs
  have hv := opd_rel hF h2 (by rw [hx]; rfl)
  rw [hx] at hv
  simp only [VRel] at hv
  unfold cNil at hn
  split at hn
  · rename_i ms hu
    simp at hn; subst hn
    refine .mk (x := .bool true) ?_ (by simp [VRel])
    have h0 : (Op.equalIn 10000 t .nilIface .nilIface).run P w = .ok true w := by
      unfold Op.equalIn; rw [Sem.run_bind, run_underlying hu]; rfl
    have hge : ∀ op, (eqGuard op t x (.const .nilIface) .nilIface .nilIface).run P w = .ok () w := by intro op; cases op <;> cases x <;> rfl
    simp only [Val, execOp, ho, Sem.run_bind]
    rw [hv]
    rw [show (ac tm).eval (.const .nilIface) = .nilIface from rfl, hge]
    rw [Result.andThen_ok]
    show (Sem.run P (do pure (Value.bool ((← Op.equal t _ _)))) w).andThen _ = _
    simp [Op.equal, Op.maxDepth, h0]
  · rename_i ms hu
    simp at hn; subst hn
    refine .mk (x := .bool false) ?_ (by simp [VRel])
    have h0 : (Op.equalIn 10000 t .nilIface .nilIface).run P w = .ok true w := by
      unfold Op.equalIn; rw [Sem.run_bind, run_underlying hu]; rfl
    have hge : ∀ op, (eqGuard op t x (.const .nilIface) .nilIface .nilIface).run P w = .ok () w := by intro op; cases op <;> cases x <;> rfl
    simp only [Val, execOp, ho, Sem.run_bind]
    rw [hv]
    rw [show (ac tm).eval (.const .nilIface) = .nilIface from rfl, hge]
    rw [Result.andThen_ok]
    show (Sem.run P (do pure (Value.bool (!(← Op.equal t _ _)))) w).andThen _ = _
    simp [Op.equal, Op.maxDepth, h0]
  · simp at hn

theorem s_binOp (hF : Fr m bm e al tm w) (hS : Sim m g w) {o : Oper} {op : BinOp} {t t' : TypeId} {x y : Operand} (ho : o.op = .binOp op t x y t') {i : Ins} (hc : cIns P bs o = some i) {fr : Nat → Bool} {nx : Nat} {out : Out}
    (hs : i.sem e al g fr nx o.dst = some out) : Pur P m tm o w out := by
  simp only [cIns, ho] at hc
  split at hc
  · rename_i b hn
    exact s_isNil hF ho hn hc hs
  split at hc
  · rename_i et a b h1 h2 h3
    simp at hc; subst hc
    simp only [Ins.sem] at hs
    split at hs
    · rename_i r hr
      unfold ptrEq at hr
      split at hr
      · rename_i r1 o1 r2 o2 ha hb
        split at hr
        · rename_i hrr
          split at hr
          · rename_i et' hd' cs hg
            simp at hr
            subst hrr
            have hu := opd_rel hF h2 (by rw [ha]; rfl)
            have hv := opd_rel hF h3 (by rw [hb]; rfl)
            rw [ha] at hu; rw [hb] at hv
            obtain ⟨p, ob, hm, hh, hrow⟩ := hS.lies hg (by simp) hu.ptr_known
            have hx := hu.ptr_at hm
            have hy := hv.ptr_at hm
            obtain ⟨u, n, hu1, hu2⟩ := eqT_ptr h1
            have hone : ∀ q : Bool, q = decide (o1 = o2) → (Op.equalIn 10000 t (.pointer (some ⟨p.b, p.sh + o1, none⟩)) (.pointer (some ⟨p.b, p.sh + o2, none⟩))).run P w = .ok q w := by
              intro q hq
              have : ((⟨p.b, p.sh + o1, none⟩ : Addr) == ⟨p.b, p.sh + o2, none⟩) = decide (o1 = o2) := by
                rw [Bool.eq_iff_iff, beq_iff_eq, decide_eq_true_iff]
                simp
              unfold Op.equalIn
              rw [Sem.run_bind, run_underlying hu1]
              show (Sem.run P (do if (← Go.sizeOf u) ≠ 0 then sameAddr _ _ else _) w) = _
              simp only [Sem.run_bind, run_size hu2, Result.andThen_ok, ne_eq, Nat.add_eq_zero_iff, Nat.succ_ne_self, and_false, not_false_eq_true, if_true, sameAddr, beq_self_eq_true, Sem.run_ite, Sem.run_pure, this, hq]
            have hge : (eqGuard op t x y ((ac tm).eval x) ((ac tm).eval y)).run P w = .ok () w := by rw [hx, hy]; cases op <;> rfl
            have h0 := hone _ rfl
            split at hs
            · simp at hs; subst hs
              refine .mk (x := .bool r) ?_ (by simp [VRel])
              simp only [Val, execOp, ho, Sem.run_bind, hge, Result.andThen_ok]
              rw [hx, hy]
              show (Sem.run P (do pure (Value.bool (← Op.equal t _ _))) w).andThen _ = _
              simp [Op.equal, Op.maxDepth, h0, hr]
            · simp at hs; subst hs
              refine .mk (x := .bool !r) ?_ (by simp [VRel])
              simp only [Val, execOp, ho, Sem.run_bind, hge, Result.andThen_ok]
              rw [hx, hy]
              show (Sem.run P (do pure (Value.bool (!(← Op.equal t _ _)))) w).andThen _ = _
              simp [Op.equal, Op.maxDepth, h0, hr]
            · simp at hs
          · simp at hr
        · simp at hr
      · simp at hr
    · split at hs
      · rename_i v hv
        simp at hs; subst hs
        obtain ⟨z, hz1, hz2⟩ := binv_sound hF ho h1 h2 h3 hv
        exact .mk hz1 hz2
      · simp at hs
  · simp at hc

end
end Ab

/- The last instructions that only compute or read. -/
set_option linter.unusedVariables false
set_option linter.unusedSimpArgs false
namespace Ab
open Go

section
variable {P : Program} {bs : List Nat} {m : M} {bm : BM} {e : Nat → AVal} {al : Nat → Option (Nat × Nat)} {tm : Array Value} {w : World} {g : Nat → Option Row}

theorem eval1 {l : Array Operand} {x : Operand} (h : l.toList = [x]) : l.map (ac tm).eval = #[(ac tm).eval x] := by
  have : l = #[x] := by cases l with | mk l => simp at h; simp [h]
  rw [this]; simp
theorem eval2 {l : Array Operand} {x y : Operand} (h : l.toList = [x, y]) : l.map (ac tm).eval = #[(ac tm).eval x, (ac tm).eval y] := by
  have : l = #[x, y] := by cases l with | mk l => simp at h; simp [h]
  rw [this]; simp
theorem at0 {α : Type} {l : Array α} {x : α} {r : List α} (h : l.toList = x :: r) : l[0]? = some x := by
  have : l.toList[0]? = some x := by rw [h]; rfl
  simpa using this
theorem at1 {α : Type} {l : Array α} {x y : α} {r : List α} (h : l.toList = x :: y :: r) : l[1]? = some y := by
  have : l.toList[1]? = some y := by rw [h]; rfl
  simpa using this

theorem EsRel.length : ∀ {es : List (AVal × AVal)} {l : List MapEntry}, EsRel m es l → l.length = es.length
  | [], l, h => by simp only [EsRel] at h; rw [h]; rfl
  | (k, v) :: r, l, h => by
    simp only [EsRel] at h
    obtain ⟨e, t, rfl, _, _, h⟩ := h
    simp [h.length]

theorem VRel.map_at {r : Nat} {v : Value} (h : VRel m (.map r) v) {p : Pl} (hm : m r = .at p) : v = .map (some p.b) := by
  simp only [VRel, hm] at h; exact h

/-- A map that is looked into. -/
theorem Sim.map_lies (hS : Sim m g w) {r : Nat} {es : List (AVal × AVal)} (hg : g r = some (.map es)) {v : Value} (hv : VRel m (.map r) v) :
    ∃ p a clock, m r = .at p ∧ v = .map (some p.b) ∧ w.heap[p.b]? = some (.map a clock) ∧ EsRel m es a.toList ∧ p.own = true := by
  obtain ⟨p, o, hm, hh, hrow⟩ := hS.lies hg (by simp) hv.map_known
  obtain ⟨a, clock, rfl, hown, hes⟩ := hrow
  exact ⟨p, a, clock, hm, hv.map_at hm, hh, hes, hown⟩

theorem run_getObj {b : Nat} {o : Obj} (h : w.heap[b]? = some o) (hc : ∀ c e f, o ≠ .cells c e f) : (getObj b).run P w = .ok o w := by
  simp only [getObj, Sem.run, h]

theorem s_len (hF : Fr m bm e al tm w) (hS : Sim m g w) {o : Oper} {c : Call} (ho : o.op = .call c) (hb : c.callee = .builtin .len) {i : Ins} (hc : cIns P bs o = some i) {fr : Nat → Bool} {nx : Nat} {out : Out}
    (hs : i.sem e al g fr nx o.dst = some out) : Pur P m tm o w out := by
  simp only [cIns, ho, hb] at hc
  split at hc
  · rename_i x t tr h1 h2
    have hrun : ∀ z, (Builtin.len_ c.argTypes o.type #[(ac tm).eval x]).run P w = .ok z w → Val P tm o w z := by
      intro z hz
      simp only [Val, execOp, ho, resolve, hb, eval1 h1, Sem.run_bind, Sem.run_pure, Result.andThen_ok, invoke, builtin, hz]
    have ht := at0 h2
    split at hc
    · rename_i hu
      simp only [Option.map_eq_some_iff] at hc
      obtain ⟨y, hy, rfl⟩ := hc
      simp only [Ins.sem] at hs
      cases hx : opd e y <;> rw [hx] at hs <;> first | (simp at hs; done) | skip
      rename_i s
      simp at hs; subst hs
      obtain ⟨v, hv, rfl⟩ := opd_str hF hy hx
      exact .mk (x := .int .i64 v.size) (hrun _ (by simp [Builtin.len_, ht, run_underlying hu, hv, goInt])) (by simp [VRel, bsOf_length])
    · rename_i u hu
      simp only [Option.map_eq_some_iff] at hc
      obtain ⟨y, hy, rfl⟩ := hc
      simp only [Ins.sem] at hs
      cases hx : opd e y <;> rw [hx] at hs <;> first | (simp at hs; done) | skip
      · rename_i r off ln k
        simp at hs; subst hs
        have h := opd_rel hF hy (by rw [hx]; rfl)
        rw [hx] at h
        obtain ⟨a, cap, hv⟩ := h.slc_some
        exact .mk (x := .int .i64 ln) (hrun _ (by simp [Builtin.len_, ht, run_underlying hu, hv, goInt])) (by simp [VRel])
      · simp at hs; subst hs
        have h := opd_rel hF hy (by rw [hx]; rfl)
        rw [hx] at h
        simp only [VRel] at h
        exact .mk (x := .int .i64 0) (hrun _ (by simp [Builtin.len_, ht, run_underlying hu, h, goInt])) (by simp [VRel])
    · rename_i u v hu
      simp only [Option.map_eq_some_iff] at hc
      obtain ⟨y, hy, rfl⟩ := hc
      simp only [Ins.sem] at hs
      cases hx : opd e y <;> rw [hx] at hs <;> first | (simp at hs; done) | skip
      rotate_left 1
      · simp at hs; subst hs
        have h := opd_rel hF hy (by rw [hx]; rfl)
        rw [hx] at h
        simp only [VRel] at h
        exact .mk (x := .int .i64 0) (hrun _ (by simp [Builtin.len_, ht, run_underlying hu, h, goInt])) (by simp [VRel])
      · rename_i r
        simp only at hs
        split at hs
        rotate_left 1
        · simp at hs
        rename_i es hg
        simp at hs; subst hs
        have h := opd_rel hF hy (by rw [hx]; rfl)
        rw [hx] at h
        obtain ⟨p, a, clock, hm, hv, hh, hes, _⟩ := hS.map_lies hg h
        have hlen : a.size = es.length := by have := hes.length; simpa using this
        exact .mk (x := .int .i64 es.length) (hrun _ (by simp [Builtin.len_, ht, run_underlying hu, hv, run_getObj hh (by simp), goInt, hlen])) (by simp [VRel])
    · simp at hc
  · simp at hc

theorem bound_sound (hF : Fr m bm e al tm w) {x : Option Operand} {y : Option Opd} (h : cOpdO x = some y) {d n : Nat} (hb : bound e d y = some n) :
    (x = none ∧ n = d) ∨ ∃ o k, x = some o ∧ (ac tm).eval o = .int k n := by
  cases x with
  | none => simp [cOpdO] at h; subst h; simp [bound] at hb; exact .inl ⟨rfl, hb.symm⟩
  | some o =>
    simp only [cOpdO, Option.map_eq_some_iff] at h
    obtain ⟨z, hz, rfl⟩ := h
    simp only [bound] at hb
    split at hb
    · rename_i k j hj
      split at hb
      · simp at hb
        refine .inr ⟨o, k, rfl, ?_⟩
        rw [opd_int hF hz hj]
        congr 1; omega
      · simp at hb
    · simp at hb

theorem run_bounds {isS : Bool} {ln cap lo hi a b : Nat} {xl xh : Option Operand} (hl : (xl = none ∧ a = 0) ∨ ∃ o k, xl = some o ∧ (ac tm).eval o = .int k a)
    (hh : (xh = none ∧ b = ln) ∨ ∃ o k, xh = some o ∧ (ac tm).eval o = .int k b) (hab : a ≤ b) (hbc : b ≤ cap) :
    (Instr.sliceBounds isS ln cap (xl.map (ac tm).eval) (xh.map (ac tm).eval) none).run P w = .ok (a, b, cap) w := by
  have e1 : ∀ (c : BoundsCode), (Instr.sliceBound (.int .i64 0) 0 c).run P w = (Instr.sliceBound (.int .i64 0) 0 c).run P w := fun _ => rfl
  rcases hl with ⟨rfl, rfl⟩ | ⟨o, k, rfl, ho⟩ <;> rcases hh with ⟨rfl, rfl⟩ | ⟨o', k', rfl, ho'⟩
  · simp [Instr.sliceBounds]
  · have : (0 : Int) ≤ b ∧ (b : Int) ≤ cap := by omega
    simp [Instr.sliceBounds, ho', Instr.sliceBound, asIntOf, this]
    omega
  · have : (0 : Int) ≤ a ∧ (a : Int) ≤ b := by omega
    simp [Instr.sliceBounds, ho, Instr.sliceBound, asIntOf, this]
    omega
  · have h1 : (0 : Int) ≤ b ∧ (b : Int) ≤ cap := by omega
    have h2 : (0 : Int) ≤ a ∧ (a : Int) ≤ b := by omega
    simp [Instr.sliceBounds, ho, ho', Instr.sliceBound, asIntOf, hab, hbc]

theorem bsOf_extract (s : ByteArray) (a b : Nat) : bsOf (s.extract a b) = cut (bsOf s) a b := by
  simp only [bsOf, cut, ByteArray.data_extract, Array.toList_extract, List.extract, List.map_take, List.map_drop]

theorem s_slice (hF : Fr m bm e al tm w) {o : Oper} {t : TypeId} {x : Operand} {lo hi mx : Option Operand} (ho : o.op = .slice t x lo hi mx) {i : Ins} (hc : cIns P bs o = some i) {fr : Nat → Bool} {nx : Nat} {out : Out}
    (hs : i.sem e al g fr nx o.dst = some out) : Pur P m tm o w out := by
  cases mx with
  | some z => simp [cIns, ho] at hc
  | none =>
    simp only [cIns, ho] at hc
    split at hc
    · rename_i y l h hu h2 h3 h4
      simp at hc; subst hc
      simp only [Ins.sem] at hs
      split at hs
      · rename_i s hx
        split at hs
        · rename_i a b ha hb
          split at hs
          · rename_i hab
            simp at hs; subst hs
            obtain ⟨u, hv, rfl⟩ := opd_str hF h2 hx
            have hr := run_bounds (P := P) (w := w) (isS := false) (bound_sound hF h3 ha) (bound_sound hF h4 hb) hab.1 (by exact hab.2) (lo := 0) (hi := 0)
            rw [bsOf_length] at hr
            refine .mk (x := .string (u.extract a b)) ?_ (by simp only [VRel]; exact ⟨_, rfl, bsOf_extract u a b⟩)
            simp [Val, execOp, ho, Instr.sliceAt, run_underlying hu, Instr.slice, hv, hr]
          · simp at hs
        · simp at hs
      all_goals simp_all
    · rename_i el y l h hu h2 h3 h4
      simp only [Option.map_eq_some_iff] at hc
      obtain ⟨n, hn, rfl⟩ := hc
      simp only [Ins.sem] at hs
      split at hs
      · simp_all
      · rename_i n' r off ln k hn' hx
        simp at hn'; subst hn'
        split at hs
        · rename_i a b ha hb
          split at hs
          · rename_i hab
            obtain ⟨rfl, hab⟩ := hab
            simp at hs; subst hs
            have hrel := opd_rel hF h2 (by rw [hx]; rfl)
            rw [hx] at hrel
            simp only [VRel] at hrel
            split at hrel
            · rename_i p hm
              obtain ⟨o', cap, hv, hcap, hoff, hown⟩ := hrel
              have hr := run_bounds (P := P) (w := w) (isS := true) (bound_sound hF h3 ha) (bound_sound hF h4 hb) hab.1 (Nat.le_trans hab.2 hcap) (lo := 0) (hi := 0)
              by_cases hcl : cap = a
              · subst hcl
                refine .mk (x := .slice (some ⟨p.b, o', none⟩) (b - cap) (cap - cap)) (by simp [Val, execOp, ho, Instr.sliceAt, run_underlying hu, Instr.slice, hv, hr, run_size hn]) ?_
                simp only [VRel, hm]
                exact ⟨o', cap - cap, rfl, by omega, .inl (by omega), fun _ => .inl (by omega)⟩
              · refine .mk (x := .slice (some ⟨p.b, o' + a * k, none⟩) (b - a) (cap - a)) (by simp [Val, execOp, ho, Instr.sliceAt, run_underlying hu, Instr.slice, hv, hr, run_size hn, hcl, add_off]) ?_
                simp only [VRel, hm]
                refine ⟨o' + a * k, cap - a, rfl, by omega, ?_, ?_⟩
                · rcases hoff with h0 | h0
                  · exact .inl (by omega)
                  · exact .inr (by omega)
                · intro hw
                  rcases hown hw with h0 | h0
                  · exact .inl (by omega)
                  · refine .inr ?_
                    have : a * k + (cap - a) * k = cap * k := by rw [← Nat.add_mul]; congr 1; omega
                    omega
            · rename_i hm
              obtain ⟨q, cap, hv, hcap⟩ := hrel
              have hr := run_bounds (P := P) (w := w) (isS := true) (bound_sound hF h3 ha) (bound_sound hF h4 hb) hab.1 (Nat.le_trans hab.2 hcap) (lo := 0) (hi := 0)
              refine .mk (x := .slice (some (if cap = a then q else q.add (a * k))) (b - a) (cap - a)) ?_ (by simp only [VRel, hm]; exact ⟨_, _, rfl, by omega⟩)
              by_cases hcl : cap = a
              · subst hcl; simp [Val, execOp, ho, Instr.sliceAt, run_underlying hu, Instr.slice, hv, hr, run_size hn]
              · simp [Val, execOp, ho, Instr.sliceAt, run_underlying hu, Instr.slice, hv, hr, run_size hn, hcl]
            · exact hrel.elim
          · simp at hs
        · simp at hs
      · rename_i n' hn' hx
        simp at hn'
        split at hs
        · rename_i ha hb
          simp at hs; subst hs
          have hrel := opd_rel hF h2 (by rw [hx]; rfl)
          rw [hx] at hrel
          simp only [VRel] at hrel
          have hr := run_bounds (P := P) (w := w) (isS := true) (bound_sound hF h3 ha) (bound_sound hF h4 hb) (Nat.le_refl 0) (Nat.le_refl 0) (lo := 0) (hi := 0)
          refine .mk (x := .slice none 0 0) (by simp [Val, execOp, ho, Instr.sliceAt, run_underlying hu, Instr.slice, hrel, hr, run_size hn]) (by simp [VRel])
        · simp at hs
      · simp at hs
    · simp at hc

theorem bytesOf_sound : ∀ {cs : List AVal} {l : Bs} {vs : List Value}, bytesOf cs = some l → VsRel m cs vs →
    ∃ ns : List Int, vs = ns.map (Value.int .u8) ∧ l = ns.map Int.toNat ∧ ∀ n ∈ ns, 0 ≤ n ∧ n < 256
  | [], l, vs, h, hv => by simp [bytesOf] at h; subst h; rw [hv.unnil]; exact ⟨[], rfl, rfl, by simp⟩
  | x :: r, l, vs, h, hv => by
    obtain ⟨v, t, rfl, h1, h2⟩ := hv.uncons
    unfold bytesOf at h
    split at h
    · simp_all
    · rename_i n r' he
      injection he with he1 he2
      subst he1; subst he2
      split at h
      · rename_i hn
        split at h
        · rename_i l' hl
          simp at h; subst h
          obtain ⟨ns, rfl, rfl, hns⟩ := bytesOf_sound hl h2
          simp only [VRel] at h1
          subst h1
          exact ⟨n :: ns, rfl, rfl, by intro k hk; cases hk with | head => exact hn | tail _ h => exact hns k h⟩
        · simp at h
      · simp at h
    · simp at h

theorem foldl_push_ints : ∀ (ns : List Int) (b : ByteArray), (∀ n ∈ ns, 0 ≤ n ∧ n < 256) → bsOf (ns.foldl (fun r n => r.push (UInt8.ofNat n.toNat)) b) = bsOf b ++ ns.map Int.toNat
  | [], b, _ => by simp
  | n :: r, b, h => by
    rw [List.foldl_cons, foldl_push_ints r _ (fun k hk => h k (.tail _ hk))]
    have hn := h n (.head _)
    have : bsOf (b.push (UInt8.ofNat n.toNat)) = bsOf b ++ [n.toNat] := by
      simp only [bsOf, ByteArray.push, Array.toList_push, List.map_append, List.map_cons, List.map_nil]
      congr 2
      simp
      omega
    rw [this]
    simp

theorem s_conv (hF : Fr m bm e al tm w) (hS : Sim m g w) {o : Oper} {s t : TypeId} {x : Operand} (ho : o.op = .convert s t x) (hb : ¬ cBytes P s t = true) {i : Ins} (hc : cIns P bs o = some i) {fr : Nat → Bool} {nx : Nat} {out : Out}
    (hs : i.sem e al g fr nx o.dst = some out) : Pur P m tm o w out := by
  have hval : ∀ z, (convert s t ((ac tm).eval x)).run P w = .ok z w → Val P tm o w z := by
    intro z hz; simp only [Val, execOp, ho, Sem.run_bind, hz, Result.andThen_ok, Sem.run_pure]
  simp only [cIns, ho] at hc
  rw [if_neg hb] at hc
  split at hc
  · rename_i k' k y h1 h2 h3
    simp at hc; subst hc
    simp only [Ins.sem] at hs
    cases hx : opd e y <;> rw [hx] at hs <;> first | (simp at hs; done) | skip
    rename_i kk n
    simp at hs; subst hs
    refine .mk (x := .int k (k.wrap n)) (hval _ ?_) (by simp [VRel])
    rw [opd_int hF h3 hx]
    simp [convert, run_underlying h1, run_underlying h2, Conv.intToInt]
  · rename_i y h1 h2 h3
    simp at hc; subst hc
    simp only [Ins.sem] at hs
    cases hx : opd e y <;> rw [hx] at hs <;> first | (simp at hs; done) | skip
    rename_i l
    simp at hs; subst hs
    obtain ⟨u, hv, rfl⟩ := opd_str hF h3 hx
    refine .mk (x := .string u) (hval _ ?_) (by simp [VRel])
    rw [hv]
    simp [convert, run_underlying h1, run_underlying h2]
  · rename_i el y h1 h2 h3
    split at hc
    · rename_i n hn
      simp at hc; subst hc
      simp only [Ins.sem] at hs
      cases hx : opd e y <;> rw [hx] at hs <;> first | (simp at hs; done) | skip
      rename_i r off
      simp only at hs
      split at hs
      · rename_i et hd cs hg
        split at hs
        · rename_i hoff
          simp at hs; subst hs
          have hr := opd_rel hF h3 (by rw [hx]; rfl)
          rw [hx] at hr
          obtain ⟨p, ob, hm, hh, hrow⟩ := hS.lies hg (by simp) hr.ptr_known
          obtain ⟨c, fr', rfl, _, _, _, _, hlen, hcs⟩ := hrow
          have hv := hr.ptr_at hm
          obtain ⟨j, hj, hjn⟩ : ∃ j, P.info? el = some j ∧ j.size = n + 1 := by
            simp only [sizeT, Option.map_eq_some_iff] at hn
            exact hn
          refine .mk (x := (ac tm).eval x) (hval _ ?_) hr
          rw [hv]
          exact Lib.run_to_unsafe w (e := et) (cells := c.size) ⟨p.b, p.sh + off, none⟩ h1 h2 hj (by omega) (by simp [World.shape?, hh]) (by show p.sh + off < c.size; omega)
        · simp at hs
      · simp at hs
    · simp at hc
  · rename_i el y h1 h2 h3
    split at hc
    · rename_i n hn
      simp at hc; subst hc
      simp only [Ins.sem] at hs
      cases hx : opd e y <;> rw [hx] at hs <;> first | (simp at hs; done) | skip
      rename_i r off
      simp only at hs
      split at hs
      · rename_i et cs hg
        split at hs
        · rename_i hoff
          obtain ⟨rfl, rfl, hle, hn0⟩ := hoff
          simp at hs; subst hs
          have hr := opd_rel hF h3 (by rw [hx]; rfl)
          rw [hx] at hr
          obtain ⟨p, ob, hm, hh, hrow⟩ := hS.lies hg (by simp) hr.ptr_known
          obtain ⟨c, fr', rfl, hsh, _, _, _, hlen, hcs⟩ := hrow
          have hsh := hsh rfl
          have hv := hr.ptr_at hm
          obtain ⟨j, hj, hjn⟩ : ∃ j, P.info? et = some j ∧ j.size = n := by
            simp only [sizeT, Option.map_eq_some_iff] at hn
            exact hn
          refine .mk (x := (ac tm).eval x) (hval _ ?_) hr
          rw [hv]
          refine Lib.run_from_unsafe w (e := et) (cells := c.size) ⟨p.b, p.sh + 0, none⟩ h1 h2 hj (by simp [World.shape?, hh]) ?_
          have hcel : P.cellsOf et = n := by simp [Program.cellsOf, hj, hjn]
          have hdep : ∃ d, P.depth = d + 2 := ⟨2 * (P.types.size + Made.depth), rfl⟩
          obtain ⟨d, hd⟩ := hdep
          rw [hd]
          show liesAt P (d + 2) et (c.size / P.cellsOf et) (p.sh + 0) et 1 = true
          have hn' : n ≠ 0 := by omega
          have hdiv : 1 ≤ c.size / n := by
            rw [Nat.le_div_iff_mul_le (by omega)]; omega
          simp only [liesAt, rowAt, hcel, hn', if_false, hd, sameLayout, beq_self_eq_true, Bool.true_or, hsh, Nat.add_zero, Nat.zero_div, Nat.zero_mod, Nat.zero_add, decide_eq_true hdiv, Bool.and_true, Bool.true_and]
        · simp at hs
      · simp at hs
    · simp at hc
  · rename_i el y h1 h2 h3
    split at hc
    · rename_i hu
      simp at hc; subst hc
      simp only [Ins.sem] at hs
      cases hx : opd e y <;> rw [hx] at hs <;> first | (simp at hs; done) | skip
      · rename_i r off ln k
        by_cases hk : k = 1
        · subst hk
          simp only at hs
          split at hs
          · rename_i row hg
            split at hs
            · rename_i cs hcs
              split at hs
              · rename_i hle
                split at hs
                · rename_i l hl
                  simp at hs; subst hs
                  have hr := opd_rel hF h3 (by rw [hx]; rfl)
                  rw [hx] at hr
                  obtain ⟨p, ob, hm, hh, hrow⟩ := hS.lies hg (rowCells_live hcs) hr.slc_known
                  obtain ⟨c, et, fr', rfl, hrel⟩ := hrow.cells hcs
                  simp only [VRel, hm] at hr
                  obtain ⟨o', cap, hv, hcap, hoff, _⟩ := hr
                  obtain ⟨vs, g1, g2, g3, _⟩ := hrel.range off ln hle
                  obtain ⟨ns, rfl, rfl, hns⟩ := bytesOf_sound hl g1
                  have hload := run_loadCells_list (P := P) w ⟨p.b, o', none⟩ (ns.map (Value.int .u8)) (fun j u hj => by
                    have hj' : j < ln := by
                      have := (List.getElem?_eq_some_iff.1 hj).1
                      omega
                    have ho' : o' = p.sh + off := by rcases hoff with h0 | h0 <;> omega
                    subst ho'
                    rw [add_off]; exact cell_of hh (by rw [← g3 j u hj]; congr 1; omega))
                  rw [g2] at hload
                  refine .mk (x := .string (ns.foldl (fun r n => r.push (UInt8.ofNat n.toNat)) ByteArray.empty)) (hval _ ?_) ?_
                  · rw [hv, run_convert_bytes_string w s t el _ ln cap h1 hu h2, run_bytesToString w _ ln cap ns hload]
                  · simp only [VRel]
                    exact ⟨_, rfl, by rw [foldl_push_ints ns _ hns]; rfl⟩
                · simp at hs
              · simp at hs
            · simp at hs
          · simp at hs
        · exfalso
          revert hs
          cases k with
          | zero => simp
          | succ k => cases k with | zero => exact (hk rfl).elim | succ k => simp
      · simp at hs; subst hs
        have h := opd_rel hF h3 (by rw [hx]; rfl)
        rw [hx] at h
        simp only [VRel] at h
        refine .mk (x := .string .empty) (hval _ ?_) (by simp only [VRel]; exact ⟨_, rfl, rfl⟩)
        rw [h, run_convert_bytes_string w s t el none 0 0 h1 hu h2]
        simp [Conv.bytesToString]
    · simp at hc
  · simp at hc

end
end Ab

/- Building; the least and the greatest; look-ups. -/
set_option linter.unusedVariables false
set_option linter.unusedSimpArgs false
namespace Ab
open Go

section
variable {P : Program} {bs : List Nat} {m : M} {bm : BM} {e : Nat → AVal} {al : Nat → Option (Nat × Nat)} {tm : Array Value} {w : World} {g : Nat → Option Row}

theorem zeroT_spec {t : TypeId} {z : List AVal} (h : zeroT P t = some z) : ∃ i v, P.info? t = some i ∧ i.zero = some v ∧ absL v.cells.toList = some z ∧ z.length = i.size ∧ v.cells.size = i.size := by
  unfold zeroT at h
  split at h
  · rename_i i hi
    split at h
    · rename_i v hv
      split at h
      · rename_i l hl
        split at h
        · rename_i hs
          simp at h; subst h
          have := (absL_rel (m := fun _ => .unk) hl).1.length
          exact ⟨i, v, hi, hv, hl, hs, by simpa [hs] using this⟩
        · simp at h
      · simp at h
    · simp at h
  · simp at h

/-- Cells written one behind the other. -/
theorem foldl_set' (off : Nat) : ∀ (us : List Value) (k : Nat) (A B C : List Value), A.length = off + k → B.length = us.length →
    ((us.zipIdx k).foldl (fun (cs : Array Value) (x : Value × Nat) => cs.setIfInBounds (off + x.2) x.1) (A ++ B ++ C).toArray) = (A ++ us ++ C).toArray
  | [], k, A, B, C, hA, hB => by
    have : B = [] := by simpa using hB
    simp [this]
  | u :: r, k, A, [], C, hA, hB => by simp at hB
  | u :: r, k, A, b :: B, C, hA, hB => by
    rw [List.zipIdx_cons, List.foldl_cons]
    have h1 : ((A ++ b :: B ++ C).toArray.setIfInBounds (off + k) u) = ((A ++ [u]) ++ B ++ C).toArray := by
      rw [← hA]
      simp
    rw [h1, foldl_set' off r (k + 1) (A ++ [u]) B C (by simp [hA]; omega) (by simpa using hB)]
    simp

theorem foldl_set (off : Nat) (us : List Value) (c : List Value) (h : off + us.length ≤ c.length) :
    ((us.zipIdx 0).foldl (fun (cs : Array Value) (x : Value × Nat) => cs.setIfInBounds (off + x.2) x.1) c.toArray) = (c.take off ++ us ++ c.drop (off + us.length)).toArray := by
  have e : c = c.take off ++ (c.drop off).take us.length ++ c.drop (off + us.length) := by
    rw [← List.drop_drop, List.append_assoc, List.take_append_drop, List.take_append_drop]
  have := foldl_set' off us 0 (c.take off) ((c.drop off).take us.length) (c.drop (off + us.length)) (by simp; omega) (by simp; omega)
  rwa [← e] at this

theorem splice_sound {cs vs : List AVal} {c us : List Value} (h : VsRel m cs c) (k : VsRel m vs us) (off : Nat) : VsRel m (splice cs off vs) (c.take off ++ us ++ c.drop (off + us.length)) := by
  unfold splice
  rw [k.length]
  exact ((h.take off).append k).append (h.drop _)

theorem splice_length {cs vs : List AVal} {off : Nat} (h : off + vs.length ≤ cs.length) : (splice cs off vs).length = cs.length := by
  simp [splice]; omega

theorem fill_sound (hF : Fr m bm e al tm w) (place : Nat → Option (Nat × Nat)) : ∀ {ps : List (Nat × Operand)} {l : List (Nat × Nat × Opd)}, cParts place ps = some l →
    ∀ {cs cs' : List AVal} {c : List Value}, VsRel m cs c → fills e cs l = some cs' →
      ∃ c', Instr.fill place c.toArray (ps.map fun p => (p.1, (ac tm).eval p.2)) = some c'.toArray ∧ VsRel m cs' c' ∧ cs'.length = cs.length
  | [], l, h, cs, cs', c, hc, hf => by
    simp [cParts] at h; subst h
    simp [fills] at hf; subst hf
    exact ⟨c, rfl, hc, rfl⟩
  | (i, x) :: r, l, h, cs, cs', c, hc, hf => by
    simp only [cParts] at h
    split at h
    · rename_i off n y l' h1 h2 h3
      simp at h; subst h
      simp only [fills] at hf
      split at hf
      · rename_i hh
        obtain ⟨hn, hle, hsc⟩ := hh
        have hp : (opd e y).plain = true := by
          cases hx : opd e y <;> first | rfl | skip
          rw [hx] at hsc; simp [AVal.cells, allSc, AVal.sc] at hsc
        have hr := opd_rel hF h2 hp
        have hcells := hr.cells hsc
        have hlen := hcells.length
        have hlc := hc.length
        have hus : (c.take off ++ ((ac tm).eval x).cells.toList ++ c.drop (off + ((ac tm).eval x).cells.toList.length)).length = cs.length := by
          have := (splice_sound hc hcells off).length
          rw [this, splice_length (by omega)]
        obtain ⟨c', g1, g2, g3⟩ := fill_sound hF place h3 (splice_sound hc hcells off) hf
        refine ⟨c', ?_, g2, by rw [g3, splice_length (by omega)]⟩
        simp only [List.map_cons, Instr.fill, h1]
        have hsz : ((ac tm).eval x).cells.size = n := by rw [← hn, ← hlen]; simp
        rw [if_neg (by simp [hsz]; omega)]
        rw [← g1]
        congr 1
        have := foldl_set off ((ac tm).eval x).cells.toList c (by simp; omega)
        rw [← this]
        rw [← Array.foldl_toList]
        simp
      · simp at hf
    · simp at h

theorem places_sound (fs : Array Field) (h : fs.toList.all (fun f => (sizeT P f.type).isSome) = true) :
    ∃ places, fs.toList.mapM (fun f => (P.info? f.type).map fun i => (f.offset, i.size)) = some places ∧ ∀ i, places[i]? = fieldPl P fs i := by
  have key : ∀ (l : List Field), l.all (fun f => (sizeT P f.type).isSome) = true →
      ∃ places, l.mapM (fun f => (P.info? f.type).map fun i => (f.offset, i.size)) = some places ∧ ∀ i : Nat, places[i]? = (match l[i]? with | some f => (sizeT P f.type).map fun n => (f.offset, n) | none => none) := by
    intro l
    induction l with
    | nil => intro _; exact ⟨[], by simp, by simp⟩
    | cons f r ih =>
      intro h
      simp only [List.all_cons, Bool.and_eq_true] at h
      obtain ⟨pl, h1, h2⟩ := ih h.2
      obtain ⟨n, hn⟩ := Option.isSome_iff_exists.1 h.1
      have hn' := hn
      simp only [sizeT, Option.map_eq_some_iff] at hn'
      obtain ⟨j, hj, hjn⟩ := hn'
      refine ⟨(f.offset, j.size) :: pl, by simp [List.mapM_cons, hj, h1], fun i => ?_⟩
      cases i with
      | zero => simp [hn, hjn]
      | succ i => simpa using h2 i
  obtain ⟨pl, h1, h2⟩ := key fs.toList h
  refine ⟨pl, h1, fun i => ?_⟩
  rw [h2 i]
  first
    | (simp only [fieldPl, Array.getElem?_toList]; done)
    | (simp only [fieldPl, Array.getElem?_toList]; cases fs[i]? <;> rfl)

theorem s_build (hF : Fr m bm e al tm w) {o : Oper} {t : TypeId} {ps : Array (Nat × Operand)} (ho : o.op = .build t ps) {i : Ins} (hc : cIns P bs o = some i) {fr : Nat → Bool} {nx : Nat} {out : Out}
    (hs : i.sem e al g fr nx o.dst = some out) : Pur P m tm o w out := by
  simp only [cIns, ho] at hc
  split at hc
  · rename_i fs hu
    split at hc
    · rename_i z l h1 h2 h3
      simp at hc; subst hc
      simp only [Ins.sem] at hs
      split at hs
      · rename_i cs hf
        simp at hs; subst hs
        obtain ⟨it, zv, hi, hz, hzl, hlen, hsz⟩ := zeroT_spec h1
        obtain ⟨pl, hpl1, hpl2⟩ := places_sound (P := P) fs h2
        obtain ⟨c', g1, g2, _⟩ := fill_sound hF (fieldPl P fs) h3 (absL_rel hzl).1 hf
        refine .mk (x := .agg c'.toArray) ?_ (by simp only [VRel]; exact ⟨c', rfl, g2⟩)
        simp only [Val, execOp, ho, Sem.run_bind]
        rw [run_build (cells := c'.toArray)]
        · simp
        · simp only [Program.built, hi, hu, hz, hpl1]
          have : (fun x => pl.toArray[x]?) = fieldPl P fs := by funext j; simpa using hpl2 j
          rw [this]
          simpa using g1
      · simp at hs
    · simp at hc
  · simp at hc

theorem s_mm (hF : Fr m bm e al tm w) {o : Oper} {c : Call} (ho : o.op = .call c) (hb : c.callee = .builtin .min ∨ c.callee = .builtin .max) {i : Ins} (hc : cIns P bs o = some i) {fr : Nat → Bool} {nx : Nat} {out : Out}
    (hs : i.sem e al g fr nx o.dst = some out) : Pur P m tm o w out := by
  rcases hb with hb | hb
  · simp only [cIns, ho, hb] at hc
    split at hc
    · rename_i x y h1
      split at hc
      · rename_i a b h2 h3
        simp at hc; subst hc
        simp only [Ins.sem] at hs
        cases hx : opd e a <;> rw [hx] at hs <;> first | (simp at hs; done) | skip
        rename_i k n
        cases hy : opd e b <;> rw [hy] at hs <;> first | (simp at hs; done) | skip
        rename_i k' n'
        simp only [Bool.false_eq_true, if_false] at hs
        split at hs
        · rename_i hk
          simp at hs; subst hs; subst hk
          refine .mk (x := .int k (if n' < n then n' else n)) ?_ (by simp [VRel])
          simp only [Val, execOp, ho, resolve, hb, eval2 h1, Sem.run_bind, Sem.run_pure, Result.andThen_ok, invoke, builtin]
          rw [opd_int hF h2 hx, opd_int hF h3 hy]
          simp [Builtin.min_, Builtin.min2]
        · simp at hs
      · simp at hc
    · simp at hc
  · simp only [cIns, ho, hb] at hc
    split at hc
    · rename_i x y h1
      split at hc
      · rename_i a b h2 h3
        simp at hc; subst hc
        simp only [Ins.sem] at hs
        cases hx : opd e a <;> rw [hx] at hs <;> first | (simp at hs; done) | skip
        rename_i k n
        cases hy : opd e b <;> rw [hy] at hs <;> first | (simp at hs; done) | skip
        rename_i k' n'
        simp only [if_true] at hs
        split at hs
        · rename_i hk
          simp at hs; subst hs; subst hk
          refine .mk (x := .int k (if n' > n then n' else n)) ?_ (by simp [VRel])
          simp only [Val, execOp, ho, resolve, hb, eval2 h1, Sem.run_bind, Sem.run_pure, Result.andThen_ok, invoke, builtin]
          rw [opd_int hF h2 hx, opd_int hF h3 hy]
          simp [Builtin.max_, Builtin.max2]
        · simp at hs
      · simp at hc
    · simp at hc

theorem s_uData (hF : Fr m bm e al tm w) {o : Oper} {c : Call} (ho : o.op = .call c) (hb : c.callee = .builtin .unsafeSliceData) {i : Ins} (hc : cIns P bs o = some i) {fr : Nat → Bool} {nx : Nat} {out : Out}
    (hs : i.sem e al g fr nx o.dst = some out) : Pur P m tm o w out := by
  simp only [cIns, ho, hb] at hc
  split at hc
  · rename_i x h1
    simp only [Option.map_eq_some_iff] at hc
    obtain ⟨y, hy, rfl⟩ := hc
    have hrun : ∀ z, (Builtin.unsafeSliceData_ c.argTypes o.type #[(ac tm).eval x]).run P w = .ok z w → Val P tm o w z := by
      intro z hz
      simp only [Val, execOp, ho, resolve, hb, eval1 h1, Sem.run_bind, Sem.run_pure, Result.andThen_ok, invoke, builtin, hz]
    simp only [Ins.sem] at hs
    cases hx : opd e y <;> rw [hx] at hs <;> first | (simp at hs; done) | skip
    · rename_i r off ln k
      simp only at hs
      split at hs
      · rename_i hl
        simp at hs; subst hs
        have h := opd_rel hF hy (by rw [hx]; rfl)
        rw [hx] at h
        simp only [VRel] at h
        split at h
        · rename_i p hm
          obtain ⟨o', cap, hv, hcap, hoff, _⟩ := h
          have ho' : o' = p.sh + off := by rcases hoff with h0 | h0 <;> omega
          subst ho'
          refine .mk (x := .pointer (some ⟨p.b, p.sh + off, none⟩)) (hrun _ ?_) (by simp only [VRel, hm])
          rw [hv]
          exact Lib.run_unsafeSliceData_row w _ _ _ _ _ (by omega)
        · rename_i hm
          obtain ⟨a, cap, hv, hcap⟩ := h
          refine .mk (x := .pointer (some a)) (hrun _ ?_) (by simp only [VRel, hm]; exact ⟨_, rfl⟩)
          rw [hv]
          exact Lib.run_unsafeSliceData_row w _ _ _ _ _ (by omega)
        · exact h.elim
      · simp at hs
    · simp at hs; subst hs
      have h := opd_rel hF hy (by rw [hx]; rfl)
      rw [hx] at h
      simp only [VRel] at h
      refine .mk (x := .pointer none) (hrun _ ?_) (by simp [VRel])
      rw [h]
      exact Lib.run_unsafeSliceData_nil w _ _ _ _
  · simp at hc

end
end Ab

/- Maps: the keys; look-ups; updates. -/
set_option linter.unusedVariables false
set_option linter.unusedSimpArgs false
namespace Ab
open Go

section
variable {P : Program} {bs : List Nat} {m : M} {bm : BM} {e : Nat → AVal} {al : Nat → Option (Nat × Nat)} {tm : Array Value} {w : World} {g : Nat → Option Row}

/-- Types of keys: basic ones, flat structs. -/
def ETy.key : ETy → Bool
  | .basic _ | .struct _ => true
  | _ => false

theorem eq1_self {t : BT} {a b : AVal} {r : Bool} (h : eq1 t a b = some r) : eq1 t a a = some true := by
  unfold eq1 at h
  split at h
  · simp [eq1]
  · simp [eq1]
  · simp [eq1]
  · simp at h

theorem checkKey_basic {t : TypeId} {b : BT} (ht : basicT P t = some b) (em : Bool) (n : Nat) (v : Value) : (Instr.checkKey em (n + 1) t v).run P w = .ok () w := by
  unfold Instr.checkKey
  unfold basicT at ht
  split at ht <;> simp at ht <;> rename_i hu <;> rw [Sem.run_bind, run_underlying hu] <;> rfl

theorem checkKey_fields (em : Bool) (n : Nat) (vs : List Value) {cs : List AVal} (hv : VsRel m cs vs) : ∀ (fs : List Field) (k : Nat) (l : List BT), flatF P k fs = some l → k + l.length ≤ cs.length →
    (forIn fs PUnit.unit fun (f : Field) (r : PUnit) => (do
      if f.name ≠ "_" then Instr.checkKey em (n + 1) f.type (← Go.part f.type vs.toArray f.offset)
      pure (ForInStep.yield PUnit.unit) : Sem (ForInStep PUnit))).run P w = .ok PUnit.unit w
  | [], k, l, hf, hl => by simp
  | f :: fs, k, l, hf, hl => by
    simp only [flatF] at hf
    split at hf
    · rename_i b l' h1 h2 h3
      split at hf
      · rename_i hk
        simp at hf; subst hf
        simp at hl
        obtain ⟨x, hx, _⟩ := hv.get k cs[k] (List.getElem?_eq_getElem (by omega))
        have hp : (Go.part f.type vs.toArray f.offset).run P w = .ok x w := by simp [Go.part, run_agg h2, hk.1, hx]
        simp only [List.forIn_cons, Sem.run_bind, hk.2, ne_eq, not_false_eq_true, if_true, hp, Result.andThen_ok, checkKey_basic h1, Sem.run_pure]
        exact checkKey_fields em n vs hv fs (k + 1) l' h3 (by omega)
      · simp at hf
    · simp at hf

theorem eqs_length : ∀ {l : List BT} {x y : List AVal} {r : Bool}, eqs l x y = some r → x.length = l.length ∧ y.length = l.length
  | [], x, y, r, h => by cases x <;> cases y <;> simp [eqs] at h ⊢
  | t :: l, x, y, r, h => by
    cases x with
    | nil => simp [eqs] at h
    | cons a x =>
      cases y with
      | nil => simp [eqs] at h
      | cons b y =>
        simp only [eqs] at h
        split at h
        · have := eqs_length h; simp [this.1, this.2]
        · split at h
          · rename_i h'; have := eqs_length h'; simp [this.1, this.2]
          · simp at h
        · simp at h

theorem eqv_struct {l : List BT} {a b : AVal} {r : Bool} (h : eqv (.struct l) a b = some r) : ∃ x y, a = .agg x ∧ b = .agg y ∧ eqs l x y = some r := by
  cases a <;> cases b <;> first | (exact ⟨_, _, rfl, rfl, h⟩) | (exfalso; revert h; simp [eqv]; done)

theorem eqv_basic {t : BT} {a b : AVal} : eqv (.basic t) a b = eq1 t a b := by
  unfold eqv; rfl

theorem checkKey_sound {t : TypeId} {et : ETy} (ht : eqT P t = some et) (hk : et.key = true) {a : AVal} {v : Value} (hv : VRel m a v) {r : Bool} (hr : eqv et a a = some r) (em : Bool) : (Instr.checkKey em 10000 t v).run P w = .ok () w := by
  cases et with
  | basic b => exact checkKey_basic (eqT_basic ht) em 9999 v
  | struct l =>
    obtain ⟨fs, hu, hf, _, _⟩ := eqT_struct ht
    obtain ⟨x, y, rfl, h2, hr⟩ := eqv_struct hr
    have hl := eqs_length hr
    simp only [VRel] at hv
    obtain ⟨vs, rfl, hv⟩ := hv
    unfold Instr.checkKey
    rw [Sem.run_bind, run_underlying hu]
    have := checkKey_fields (P := P) (w := w) em 9998 vs hv fs.toList 0 l hf (by omega)
    show (Sem.run P (do for f in fs do if f.name ≠ "_" then Instr.checkKey em 9999 f.type (← Go.part f.type vs.toArray f.offset)) w) = _
    rw [← Array.forIn_toList]
    simpa using this
  | ptr => cases hk
  | slice => cases hk
  | func => cases hk

/-- Keys that are equal are one value. -/
theorem eq1_same {t : BT} {a b : AVal} (h : eq1 t a b = some true) {u v : Value} (hu : VRel m a u) (hv : VRel m b v) : u = v := by
  unfold eq1 at h
  split at h
  · simp only [VRel] at hu hv; subst hu; subst hv; simp at h; rw [h]
  · split at h
    · rename_i hk
      simp only [VRel] at hu hv; subst hu; subst hv; simp at h; rw [h, hk]
    · simp at h
  · simp only [VRel] at hu hv
    obtain ⟨s, rfl, rfl⟩ := hu
    obtain ⟨s', rfl, rfl⟩ := hv
    simp at h; rw [bsOf_inj h]
  · simp at h

theorem eqs_same : ∀ {l : List BT} {x y : List AVal}, eqs l x y = some true → ∀ {us vs : List Value}, VsRel m x us → VsRel m y vs → us = vs
  | [], x, y, h, us, vs, hu, hv => by
    cases x <;> cases y <;> simp [eqs] at h
    rw [hu.unnil, hv.unnil]
  | t :: l, x, y, h, us, vs, hu, hv => by
    cases x with
    | nil => simp [eqs] at h
    | cons a x =>
      cases y with
      | nil => simp [eqs] at h
      | cons b y =>
        obtain ⟨u, us, rfl, hu1, hu2⟩ := hu.uncons
        obtain ⟨v, vs, rfl, hv1, hv2⟩ := hv.uncons
        simp only [eqs] at h
        split at h
        · rename_i h1
          rw [eq1_same h1 hu1 hv1, eqs_same h hu2 hv2]
        · split at h <;> simp at h
        · simp at h

theorem eqv_same {et : ETy} (hk : et.key = true) {a b : AVal} (h : eqv et a b = some true) {u v : Value} (hu : VRel m a u) (hv : VRel m b v) : u = v := by
  cases et with
  | basic t => rw [eqv_basic] at h; exact eq1_same h hu hv
  | struct l =>
    obtain ⟨x, y, rfl, rfl, h⟩ := eqv_struct h
    simp only [VRel] at hu hv
    obtain ⟨us, rfl, hu⟩ := hu
    obtain ⟨vs, rfl, hv⟩ := hv
    rw [eqs_same h hu hv]
  | ptr => cases hk
  | slice => cases hk
  | func => cases hk

theorem beq_bytes' (s t : ByteArray) : (s == t) = decide (bsOf s = bsOf t) := by
  rw [beq_toListBytes, toList_beq]

/-- .. and the machine sees that their bits are the same. -/
theorem sameBits_eq1 {t : BT} {a b : AVal} {r : Bool} (h : eq1 t a b = some r) {u : Value} (hu : VRel m a u) (n : Nat) : Instr.sameBits n u u = true := by
  unfold eq1 at h
  split at h
  · simp only [VRel] at hu; subst hu; cases n <;> simp [Instr.sameBits]
  · simp only [VRel] at hu; subst hu; cases n <;> simp [Instr.sameBits]
  · simp only [VRel] at hu; obtain ⟨s, rfl, _⟩ := hu
    cases n <;> simp only [Instr.sameBits, beq_bytes', decide_true]
  · simp at h

theorem sameBits_eqs (n : Nat) : ∀ {l : List BT} {x y : List AVal} {r : Bool}, eqs l x y = some r → ∀ {us : List Value}, VsRel m x us → (us.zip us).all (fun (p : Value × Value) => Instr.sameBits n p.1 p.2) = true
  | [], x, y, r, h, us, hu => by
    cases x with
    | nil => rw [hu.unnil]; rfl
    | cons a x => cases y <;> simp [eqs] at h
  | t :: l, x, y, r, h, us, hu => by
    cases x with
    | nil => simp [eqs] at h
    | cons a x =>
      cases y with
      | nil => simp [eqs] at h
      | cons b y =>
        obtain ⟨u, us, rfl, hu1, hu2⟩ := hu.uncons
        simp only [eqs] at h
        split at h
        · rename_i h1
          simp only [List.zip_cons_cons, List.all_cons, sameBits_eq1 h1 hu1, Bool.true_and]
          exact sameBits_eqs n h hu2
        · rename_i h1
          split at h
          · rename_i h2
            simp only [List.zip_cons_cons, List.all_cons, sameBits_eq1 h1 hu1, Bool.true_and]
            exact sameBits_eqs n h2 hu2
          · simp at h
        · simp at h

theorem sameBits_eqv {et : ETy} (hk : et.key = true) {a b : AVal} {r : Bool} (h : eqv et a b = some r) {u : Value} (hu : VRel m a u) : Instr.sameBits 10000 u u = true := by
  cases et with
  | basic t => rw [eqv_basic] at h; exact sameBits_eq1 h hu 10000
  | struct l =>
    obtain ⟨x, y, rfl, rfl, h⟩ := eqv_struct h
    simp only [VRel] at hu
    obtain ⟨us, rfl, hu⟩ := hu
    show (us.toArray.size == us.toArray.size && (us.toArray.toList.zip us.toArray.toList).all fun (x, y) => Instr.sameBits 9999 x y) = true
    simp only [beq_self_eq_true, Bool.true_and]
    exact sameBits_eqs 9999 h hu
  | ptr => cases hk
  | slice => cases hk
  | func => cases hk

/-- The search. -/
structure Found (m : M) (l : List MapEntry) (r : Option AVal) (ans : Option (Nat × Value)) : Prop where
  no : r = none → ans = none
  yes : ∀ v, r = some v → ∃ n x, ans = some (n, x) ∧ VRel m v x ∧ (l[n]?).map (·.val) = some x

theorem findNow_shift {d : TypeDesc} {k : Value} : ∀ (l : List MapEntry) (i : Nat) (a : Option (Nat × Value)), Instr.findNow d k l i = some a → ∀ j, Instr.findNow d k l (i + j) = some (a.map fun p => (p.1 + j, p.2))
  | [], i, a, h, j => by simp [Instr.findNow] at h ⊢; subst h; rfl
  | e :: es, i, a, h, j => by
    simp only [Instr.findNow] at h ⊢
    split at h
    · simp at h; subst h; simp
    · have := findNow_shift es (i + 1) a h j
      rw [show i + j + 1 = i + 1 + j from by omega]; exact this
    · simp at h

theorem sameNow_sound {t : TypeId} {b : BT} (ht : basicT P t = some b) {a c : AVal} {r : Bool} (h : eq1 b a c = some r) {u v : Value} (hu : VRel m a u) (hv : VRel m c v) : ∃ d, P.underlying t = some d ∧ Instr.sameNow d u v = some r := by
  unfold basicT at ht
  unfold eq1 at h
  split at h
  · simp only [VRel] at hu hv; subst hu; subst hv
    split at ht <;> simp at ht
    rename_i hd; simp at h; exact ⟨_, hd, by simp [Instr.sameNow, h]⟩
  · split at h
    · rename_i hk
      simp only [VRel] at hu hv; subst hu; subst hv
      split at ht <;> simp at ht
      rename_i hd; simp at h; exact ⟨_, hd, by simp [Instr.sameNow, h, hk]⟩
    · simp at h
  · simp only [VRel] at hu hv
    obtain ⟨s, rfl, rfl⟩ := hu
    obtain ⟨s', rfl, rfl⟩ := hv
    split at ht <;> simp at ht
    rename_i hd; simp at h
    refine ⟨_, hd, ?_⟩
    simp only [Instr.sameNow, Option.some.injEq]
    rw [beq_bytes' s s']; exact h
  · simp at h

theorem find_sound {t : TypeId} {et : ETy} (ht : eqT P t = some et) (hk : et.key = true) {a : AVal} {u : Value} (hu : VRel m a u) : ∀ (es : List (AVal × AVal)) (l : List MapEntry), EsRel m es l → ∀ r, find et a es = some r →
    ∃ ans, Found m l r ans ∧ (∀ i, (Instr.findAsking t u l i).run P w = .ok (ans.map fun p => (p.1 + i, p.2)) w) ∧
      (∀ b d, et = .basic b → P.underlying t = some d → ∀ i, Instr.findNow d u l i = some (ans.map fun p => (p.1 + i, p.2)))
  | [], l, hl, r, h => by
    simp only [EsRel] at hl; subst hl
    simp [find] at h; subst h
    exact ⟨none, ⟨fun _ => rfl, fun v hv => by cases hv⟩, fun i => by simp [Instr.findAsking], fun b d _ _ i => by simp [Instr.findNow]⟩
  | (k, v) :: r', l, hl, r, h => by
    simp only [EsRel] at hl
    obtain ⟨en, tl, rfl, h1, h2, h3⟩ := hl
    simp only [find] at h
    split at h
    · rename_i he
      simp at h; subst h
      refine ⟨some (0, en.val), ⟨fun h => (by cases h), fun v' hv => (by injection hv with hv; subst hv; exact ⟨0, en.val, rfl, h2, rfl⟩)⟩, fun i => ?_, fun b d hb hd i => ?_⟩
      · have := eqv_sound (P := P) (w := w) ht he hu h1 9998
        simp [Instr.findAsking, Op.equal, Op.maxDepth, this]
      · subst hb
        rw [eqv_basic] at he
        obtain ⟨d', hd', hs⟩ := sameNow_sound (P := P) (eqT_basic ht) he hu h1
        rw [hd] at hd'; injection hd' with hd'; subst hd'
        simp [Instr.findNow, hs]
    · rename_i he
      obtain ⟨ans, hf, ha, hn⟩ := find_sound ht hk hu r' tl h3 r h
      refine ⟨ans.map fun p => (p.1 + 1, p.2), ⟨fun h => by rw [hf.no h]; rfl, fun v' hv => ?_⟩, fun i => ?_, fun b d hb hd i => ?_⟩
      · obtain ⟨n, x, g1, g2, g3⟩ := hf.yes v' hv
        exact ⟨n + 1, x, by rw [g1]; rfl, g2, by simpa using g3⟩
      · have := eqv_sound (P := P) (w := w) ht he hu h1 9998
        simp [Instr.findAsking, Op.equal, Op.maxDepth, this, ha (i + 1)]
        cases ans <;> simp
        omega
      · have hn' := hn b d hb hd (i + 1)
        subst hb
        rw [eqv_basic] at he
        obtain ⟨d', hd', hs⟩ := sameNow_sound (P := P) (eqT_basic ht) he hu h1
        rw [hd] at hd'; injection hd' with hd'; subst hd'
        simp only [Instr.findNow, hs, hn']
        cases ans <;> simp
        omega
    · simp at h

theorem findKey_sound {t : TypeId} {et : ETy} (ht : eqT P t = some et) (hk : et.key = true) {a : AVal} {u : Value} (hu : VRel m a u) {es : List (AVal × AVal)} {l : List MapEntry} (hl : EsRel m es l) {r : Option AVal} (h : find et a es = some r) :
    ∃ ans, Found m l r ans ∧ (Instr.findKey t u l).run P w = .ok ans w := by
  obtain ⟨ans, hf, ha, hn⟩ := find_sound (P := P) (w := w) ht hk hu es l hl r h
  have hid : ∀ (x : Option (Nat × Value)), (x.map fun p => (p.1 + 0, p.2)) = x := by intro x; cases x <;> simp
  refine ⟨ans, hf, ?_⟩
  cases et with
  | basic b =>
    have hb := eqT_basic ht
    obtain ⟨d, hd⟩ : ∃ d, P.underlying t = some d := by
      unfold basicT at hb
      split at hb <;> simp at hb <;> exact ⟨_, by assumption⟩
    have := hn b d rfl hd 0
    rw [hid] at this
    simp [Instr.findKey, run_underlying hd, this]
  | struct bl =>
    obtain ⟨fs, hd, _⟩ := eqT_struct ht
    have ha0 := ha 0
    rw [hid] at ha0
    cases l with
    | nil =>
      have : ans = none := by
        have := ha 0
        simp [Instr.findAsking] at this
        cases ans <;> simp at this ⊢
      subst this
      simp [Instr.findKey, run_underlying hd, Instr.findNow]
    | cons en tl =>
      have : Instr.findNow (.struct fs) u (en :: tl) 0 = none := by
        simp only [Instr.findNow]
        have : Instr.sameNow (.struct fs) u en.key = none := rfl
        rw [this]
      simp [Instr.findKey, run_underlying hd, this, ha0]
  | ptr => cases hk
  | slice => cases hk
  | func => cases hk

theorem zeroV_spec {t : TypeId} {z : AVal} (h : zeroV P t = some z) : ∃ v, (zeroValue t).run P w = .ok v w ∧ ∀ m, VRel m z v := by
  unfold zeroV at h
  split at h
  · rename_i i hi
    split at h
    · rename_i v hv
      exact ⟨v, by simp [zeroValue, run_info hi, hv], fun m => (absV_rel h).1⟩
    · simp at h
  · simp at h

/-- A look-up's compiled form. -/
theorem c_lookup {o : Oper} {t : TypeId} {x k : Operand} {ok : Bool} (ho : o.op = .lookup t x k ok) {i : Ins} (hc : cIns P bs o = some i) :
    ∃ kt el et z a b, P.underlying t = some (.map kt el) ∧ eqT P kt = some et ∧ et.key = true ∧ zeroV P el = some z ∧ cOpd x = some a ∧ cOpd k = some b ∧ i = .lookup a b et z ok := by
  simp only [cIns, ho] at hc
  split at hc
  · rename_i kt el hu
    split at hc
    · rename_i n z a b h1 h2 h3 h4
      simp at hc
      exact ⟨kt, el, _, z, a, b, hu, h1, rfl, h2, h3, h4, hc.symm⟩
    · rename_i n z a b h1 h2 h3 h4
      simp at hc
      exact ⟨kt, el, _, z, a, b, hu, h1, rfl, h2, h3, h4, hc.symm⟩
    · simp at hc
  · simp at hc

theorem run_lookup_ok {t kt el : TypeId} (hu : P.underlying t = some (.map kt el)) {x k : Value} {l : Array MapEntry} (hm : (x = .map none ∧ l = #[]) ∨ ∃ b clock, x = .map (some b) ∧ w.heap[b]? = some (.map l clock))
    (hck : (Instr.checkKey l.isEmpty 10000 kt k).run P w = .ok () w) {ans : Option (Nat × Value)} (hfk : (Instr.findKey kt k l.toList).run P w = .ok ans w) {zv : Value} (hz : (zeroValue el).run P w = .ok zv w) (ok : Bool) :
    (Instr.lookup t x k ok).run P w = .ok (if ok then .tuple #[(ans.map (·.2)).getD zv, .bool ans.isSome] else (ans.map (·.2)).getD zv) w := by
  rcases hm with ⟨rfl, rfl⟩ | ⟨b, clock, rfl, hh⟩
  · simp only [Instr.lookup, Sem.run_bind, run_underlying hu, Result.andThen_ok, Sem.run_pure, hck, hfk]
    cases ans <;> simp [hz]
  · simp only [Instr.lookup, Sem.run_bind, run_underlying hu, Result.andThen_ok, Sem.run_pure, run_getObj hh (by simp), hck, hfk]
    cases ans <;> simp [hz]

theorem s_lookup (hF : Fr m bm e al tm w) (hS : Sim m g w) {o : Oper} {t : TypeId} {x k : Operand} {ok : Bool} (ho : o.op = .lookup t x k ok) {i : Ins} (hc : cIns P bs o = some i) {fr : Nat → Bool} {nx : Nat} {out : Out}
    (hs : i.sem e al g fr nx o.dst = some out) : Pur P m tm o w out := by
  obtain ⟨kt, el, et, z, a, b, hu, het, hkey, hz, ha, hb, rfl⟩ := c_lookup ho hc
  simp only [Ins.sem] at hs
  split at hs
  · simp at hs
  · rename_i es hes
    have hmap : ∃ l : Array MapEntry, EsRel m es l.toList ∧ (((ac tm).eval x = .map none ∧ l = #[]) ∨ ∃ b clock, (ac tm).eval x = .map (some b) ∧ w.heap[b]? = some (.map l clock)) := by
      split at hes
      · rename_i hx
        simp at hes; subst hes
        have h := opd_rel hF ha (by rw [hx]; rfl)
        rw [hx] at h
        simp only [VRel] at h
        exact ⟨#[], by simp [EsRel], .inl ⟨h, rfl⟩⟩
      · rename_i r hx
        split at hes
        · rename_i es' hg
          simp at hes; subst hes
          have h := opd_rel hF ha (by rw [hx]; rfl)
          rw [hx] at h
          obtain ⟨p, l, clock, hm, hv, hh, hel, _⟩ := hS.map_lies hg h
          exact ⟨l, hel, .inr ⟨p.b, clock, hv, hh⟩⟩
        · simp at hes
      · simp at hes
    obtain ⟨l, hl, hmv⟩ := hmap
    by_cases hself : (eqv et (opd e b) (opd e b)).isSome = true
    · rw [if_pos hself] at hs
      obtain ⟨r0, hr0⟩ := Option.isSome_iff_exists.1 hself
      have hkp : (opd e b).plain = true := (eqv_shape hr0).2.2.1
      have hkr := opd_rel hF hb hkp
      have hck := checkKey_sound (P := P) (w := w) het hkey hkr hr0 l.isEmpty
      obtain ⟨zv, hzr, hzrel⟩ := zeroV_spec (P := P) (w := w) hz
      have hrun : ∀ ans, (Instr.findKey kt ((ac tm).eval k) l.toList).run P w = .ok ans w → Val P tm o w (if ok then .tuple #[(ans.map (·.2)).getD zv, .bool ans.isSome] else (ans.map (·.2)).getD zv) := by
        intro ans hans
        simp only [Val, execOp, ho, Sem.run_bind, run_lookup_ok hu hmv hck hans hzr, Result.andThen_ok, Sem.run_pure]
      split at hs
      · simp at hs
      · rename_i hfind
        obtain ⟨ans, hf, hfk⟩ := findKey_sound (P := P) (w := w) het hkey hkr hl hfind
        have hnone := hf.no rfl
        subst hnone
        have hv := hrun none hfk
        cases ok with
        | true =>
          simp at hs; subst hs
          exact .mk hv (by simp only [VRel]; exact ⟨[zv, .bool false], rfl, .cons (hzrel m) (.cons (by simp [VRel]) .nil)⟩)
        | false =>
          simp at hs; subst hs
          exact .mk hv (hzrel m)
      · rename_i v hfind
        obtain ⟨ans, hf, hfk⟩ := findKey_sound (P := P) (w := w) het hkey hkr hl hfind
        obtain ⟨n, xv, rfl, hxv, _⟩ := hf.yes v rfl
        have hv := hrun _ hfk
        cases ok with
        | true =>
          simp at hs; subst hs
          exact .mk hv (by simp only [VRel]; exact ⟨[xv, .bool true], rfl, .cons hxv (.cons (by simp [VRel]) .nil)⟩)
        | false =>
          simp at hs; subst hs
          exact .mk hv hxv
    · rw [if_neg hself] at hs
      simp at hs

end
end Ab
