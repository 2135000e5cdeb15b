/- The instructions' meaning, one small definition each; the dispatch with closed branches. -/
import Derived.Test.YtfogmpakbdcbbaaDoorAbC
import Derived.Below
import Derived.ChangeSame
set_option linter.unusedVariables false
set_option linter.unusedSimpArgs false
set_option linter.unusedVariables false
namespace Ab
open Go

def sem_mv (x : Opd) (ev : Nat → AVal) (al : Nat → Option (Nat × Nat)) (g : Nat → Option Row) (fr : Nat → Bool) (nx : Nat) (d : Option Nat) : Option Out :=
  if (opd ev x).plain then ov (opd ev x) else none
def sem_pick (c : Opd) (a : Opd) (b : Opd) (ev : Nat → AVal) (al : Nat → Option (Nat × Nat)) (g : Nat → Option Row) (fr : Nat → Bool) (nx : Nat) (d : Option Nat) : Option Out :=
  match opd ev c with
    | .bool true => if (opd ev a).plain then ov (opd ev a) else none
    | .bool false => if (opd ev b).plain then ov (opd ev b) else none
    | _ => none
def sem_allocB (z : List AVal) (ev : Nat → AVal) (al : Nat → Option (Nat × Nat)) (g : Nat → Option Row) (fr : Nat → Bool) (nx : Nat) (d : Option Nat) : Option Out :=
  match d with
    | some t => if fr t = true ∧ allSc z = true then ov (.box z) else none
    | none => none
def sem_boxB (n : Nat) (x : Opd) (ev : Nat → AVal) (al : Nat → Option (Nat × Nat)) (g : Nat → Option Row) (fr : Nat → Bool) (nx : Nat) (d : Option Nat) : Option Out :=
  match d with
    | some t => if fr t = true ∧ (opd ev x).cells.length = n ∧ allSc (opd ev x).cells = true then ov (.box (opd ev x).cells) else none
    | none => none
def sem_allocH (et : Nat) (z : List AVal) (ev : Nat → AVal) (al : Nat → Option (Nat × Nat)) (g : Nat → Option Row) (fr : Nat → Bool) (nx : Nat) (d : Option Nat) : Option Out :=
  if allSc z = true then some { v := .ptr nx 0, new := some (.cells et true z) } else none
def sem_boxH (et : Nat) (n : Nat) (x : Opd) (ev : Nat → AVal) (al : Nat → Option (Nat × Nat)) (g : Nat → Option Row) (fr : Nat → Bool) (nx : Nat) (d : Option Nat) : Option Out :=
  if (opd ev x).cells.length = n ∧ allSc (opd ev x).cells = true then some { v := .ptr nx 0, new := some (.cells et true (opd ev x).cells) } else none
def sem_load (p : Opd) (n : Nat) (ag : Bool) (ev : Nat → AVal) (al : Nat → Option (Nat × Nat)) (g : Nat → Option Row) (fr : Nat → Bool) (nx : Nat) (d : Option Nat) : Option Out :=
  match addr ev al p with
    | some (.box t off) =>
      match ev t with
      | .box cs => match part cs off n ag with | some v => ov v | none => none
      | _ => none
    | some (.row r off) =>
      match g r with
      | some row =>
        match rowCells row with
        | some cs => match part cs off n ag with | some v => ov v | none => none
        | none => none
      | none => none
    | none => none
def sem_store (p : Opd) (n : Nat) (x : Opd) (ev : Nat → AVal) (al : Nat → Option (Nat × Nat)) (g : Nat → Option Row) (fr : Nat → Bool) (nx : Nat) (d : Option Nat) : Option Out :=
  let vs := (opd ev x).cells
    if vs.length = n ∧ allSc vs = true then
      match addr ev al p with
      | some (.box t off) =>
        match ev t with
        | .box cs => if off + n ≤ cs.length then some { v := .tup [], bx := some (t, .box (splice cs off vs)) } else none
        | _ => none
      | some (.row r off) =>
        match g r with
        | some (.cells et hd cs) => if off + n ≤ cs.length then some { v := .tup [], puts := [(r, .cells et hd (splice cs off vs))] } else none
        | _ => none
      | none => none
    else none
def sem_fieldAddr (p : Opd) (off : Nat) (ev : Nat → AVal) (al : Nat → Option (Nat × Nat)) (g : Nat → Option Row) (fr : Nat → Bool) (nx : Nat) (d : Option Nat) : Option Out :=
  match addr ev al p with
    | some (.box t o) => some { v := .opq, al := some (t, o + off) }
    | some (.row r o) => ov (.ptr r (o + off))
    | none => none
def sem_field (x : Opd) (off : Nat) (n : Nat) (ag : Bool) (ev : Nat → AVal) (al : Nat → Option (Nat × Nat)) (g : Nat → Option Row) (fr : Nat → Bool) (nx : Nat) (d : Option Nat) : Option Out :=
  match opd ev x with
    | .agg cs => match part cs off n ag with | some v => ov v | none => none
    | _ => none
def sem_indexAddr (x : Opd) (i : Opd) (esz : Nat) (ev : Nat → AVal) (al : Nat → Option (Nat × Nat)) (g : Nat → Option Row) (fr : Nat → Bool) (nx : Nat) (d : Option Nat) : Option Out :=
  match opd ev x, opd ev i with
    | .slc r off ln k, .int _ n => if k = esz ∧ 0 ≤ n ∧ n < ln then ov (.ptr r (off + n.toNat * esz)) else none
    | _, _ => none
def sem_idxStr (x : Opd) (i : Opd) (ev : Nat → AVal) (al : Nat → Option (Nat × Nat)) (g : Nat → Option Row) (fr : Nat → Bool) (nx : Nat) (d : Option Nat) : Option Out :=
  match opd ev x, opd ev i with
    | .str s, .int _ n => if 0 ≤ n then (match s[n.toNat]? with | some b => ov (.int .u8 b) | none => none) else none
    | _, _ => none
def sem_build (z : List AVal) (ps : List (Nat × Nat × Opd)) (ev : Nat → AVal) (al : Nat → Option (Nat × Nat)) (g : Nat → Option Row) (fr : Nat → Bool) (nx : Nat) (d : Option Nat) : Option Out :=
  match fills ev z ps with | some cs => ov (.agg cs) | none => none
def sem_buildSlice (et : Nat) (esz : Nat) (ln : Nat) (z : List AVal) (ps : List (Nat × Nat × Opd)) (ev : Nat → AVal) (al : Nat → Option (Nat × Nat)) (g : Nat → Option Row) (fr : Nat → Bool) (nx : Nat) (d : Option Nat) : Option Out :=
  match fills ev (rep ln z) ps with
    | some cs => if allSc cs = true ∧ cs.length = ln * esz then some { v := .slc nx 0 ln esz, new := some (.cells et true cs) } else none
    | none => none
def sem_nilCheck (x : Opd) (ev : Nat → AVal) (al : Nat → Option (Nat × Nat)) (g : Nat → Option Row) (fr : Nat → Bool) (nx : Nat) (d : Option Nat) : Option Out :=
  match opd ev x with
    | .ptr r o => ov (.ptr r o)
    | .fn f cs => ov (.fn f cs)
    | _ => none
def sem_bin (op : BinOp) (e : ETy) (x : Opd) (y : Opd) (ev : Nat → AVal) (al : Nat → Option (Nat × Nat)) (g : Nat → Option Row) (fr : Nat → Bool) (nx : Nat) (d : Option Nat) : Option Out :=
  match ptrEq g e (opd ev x) (opd ev y) with
    | some b => match op with | .eql => ov (.bool b) | .neq => ov (.bool !b) | _ => none
    | none => match binv op e (opd ev x) (opd ev y) with | some v => ov v | none => none
def sem_un (op : UnOp) (x : Opd) (ev : Nat → AVal) (al : Nat → Option (Nat × Nat)) (g : Nat → Option Row) (fr : Nat → Bool) (nx : Nat) (d : Option Nat) : Option Out :=
  match unv op (opd ev x) with | some v => ov v | none => none
def sem_conv (c : Cv) (x : Opd) (ev : Nat → AVal) (al : Nat → Option (Nat × Nat)) (g : Nat → Option Row) (fr : Nat → Bool) (nx : Nat) (d : Option Nat) : Option Out :=
  match c, opd ev x with
    | .int k, .int _ n => ov (.int k (k.wrap n))
    | .same, .str s => ov (.str s)
    | .isNil b, .nili => ov (.bool b)
    | .toUns, .ptr r o =>
      match g r with
      | some (.cells _ _ cs) => if o < cs.length then ov (.ptr r o) else none
      | _ => none
    | .ofUns u n, .ptr r o =>
      match g r with
      | some (.cells et true cs) => if et = u ∧ o = 0 ∧ n ≤ cs.length ∧ 0 < n then ov (.ptr r o) else none
      | _ => none
    | .toStr, .nils => ov (.str [])
    | .toStr, .slc r off ln 1 =>
      match g r with
      | some row =>
        match rowCells row with
        | some cs => if off + ln ≤ cs.length then (match bytesOf ((cs.drop off).take ln) with | some l => ov (.str l) | none => none) else none
        | none => none
      | none => none
    | _, _ => none
def sem_mkfn (f : Nat) (caps : List Opd) (ev : Nat → AVal) (al : Nat → Option (Nat × Nat)) (g : Nat → Option Row) (fr : Nat → Bool) (nx : Nat) (d : Option Nat) : Option Out :=
  match vals ev caps with
    | some l => ov (.fn f l)
    | none => none
def sem_mkmap  (ev : Nat → AVal) (al : Nat → Option (Nat × Nat)) (g : Nat → Option Row) (fr : Nat → Bool) (nx : Nat) (d : Option Nat) : Option Out :=
  some { v := .map nx, new := some (.map []) }
def sem_toBytes (x : Opd) (ev : Nat → AVal) (al : Nat → Option (Nat × Nat)) (g : Nat → Option Row) (fr : Nat → Bool) (nx : Nat) (d : Option Nat) : Option Out :=
  match opd ev x with
    | .str s => some { v := .slc nx 0 s.length 1, new := some (.fix (s.map fun (n : Nat) => AVal.int .u8 (Int.ofNat n))) }
    | _ => none
def sem_mkslice (et : Nat) (esz : Nat) (bytes : Nat) (z : List AVal) (l : Opd) (c : Opd) (ev : Nat → AVal) (al : Nat → Option (Nat × Nat)) (g : Nat → Option Row) (fr : Nat → Bool) (nx : Nat) (d : Option Nat) : Option Out :=
  match opd ev l, opd ev c with
    | .int _ a, .int _ b =>
      if 0 ≤ a ∧ a ≤ b ∧ b ≤ 1073741824 ∧ bytes ≤ 4096 ∧ z.length = esz ∧ allSc z = true then some { v := .slc nx 0 a.toNat esz, new := some (.cells et true (rep b.toNat z)) } else none
    | _, _ => none
def sem_slice (x : Opd) (lo : Option Opd) (hi : Option Opd) (esz : Option Nat) (ev : Nat → AVal) (al : Nat → Option (Nat × Nat)) (g : Nat → Option Row) (fr : Nat → Bool) (nx : Nat) (d : Option Nat) : Option Out :=
  match esz, opd ev x with
    | none, .str s =>
      match bound ev 0 lo, bound ev s.length hi with
      | some a, some b => if a ≤ b ∧ b ≤ s.length then ov (.str (cut s a b)) else none
      | _, _ => none
    | some n, .slc r off ln k =>
      match bound ev 0 lo, bound ev ln hi with
      | some a, some b => if k = n ∧ a ≤ b ∧ b ≤ ln then ov (.slc r (off + a * n) (b - a) n) else none
      | _, _ => none
    | some _, .nils =>
      match bound ev 0 lo, bound ev 0 hi with
      | some 0, some 0 => ov .nils
      | _, _ => none
    | _, _ => none
def sem_lookup (m : Opd) (k : Opd) (e : ETy) (z : AVal) (ok : Bool) (ev : Nat → AVal) (al : Nat → Option (Nat × Nat)) (g : Nat → Option Row) (fr : Nat → Bool) (nx : Nat) (d : Option Nat) : Option Out :=
  match (match opd ev m with
      | .nilm => some []
      | .map r => match g r with | some (.map es) => some es | _ => none
      | _ => none) with
    | none => none
    | some es =>
      match if (eqv e (opd ev k) (opd ev k)).isSome then find e (opd ev k) es else none with
      | none => none
      | some none => if ok then ov (.tup [z, .bool false]) else ov z
      | some (some v) => if ok then ov (.tup [v, .bool true]) else ov v
def sem_mapup (m : Opd) (k : Opd) (v : Opd) (e : ETy) (ev : Nat → AVal) (al : Nat → Option (Nat × Nat)) (g : Nat → Option Row) (fr : Nat → Bool) (nx : Nat) (d : Option Nat) : Option Out :=
  match opd ev m with
    | .map r =>
      match g r with
      | some (.map es) =>
        if (opd ev v).plain && (eqv e (opd ev k) (opd ev k)).isSome then
        match ups e (opd ev k) (opd ev v) es with
        | some es' => some { v := .tup [], puts := [(r, .map es')] }
        | none => none
        else none
      | _ => none
    | _ => none
def sem_extract (x : Opd) (i : Nat) (ev : Nat → AVal) (al : Nat → Option (Nat × Nat)) (g : Nat → Option Row) (fr : Nat → Bool) (nx : Nat) (d : Option Nat) : Option Out :=
  match opd ev x with
    | .tup vs => match vs[i]? with | some v => if v.plain then ov v else none | none => none
    | _ => none
def sem_len (k : Nat) (x : Opd) (ev : Nat → AVal) (al : Nat → Option (Nat × Nat)) (g : Nat → Option Row) (fr : Nat → Bool) (nx : Nat) (d : Option Nat) : Option Out :=
  match k, opd ev x with
    | 0, .str s => ov (.int .i64 s.length)
    | 1, .slc _ _ ln _ => ov (.int .i64 ln)
    | 1, .nils => ov (.int .i64 0)
    | 2, .nilm => ov (.int .i64 0)
    | 2, .map r => match g r with | some (.map es) => ov (.int .i64 es.length) | _ => none
    | _, _ => none
def sem_append (s : Opd) (x : Opd) (et : Nat) (esz : Nat) (bytes : Nat) (ev : Nat → AVal) (al : Nat → Option (Nat × Nat)) (g : Nat → Option Row) (fr : Nat → Bool) (nx : Nat) (d : Option Nat) : Option Out :=
  match srcCells g esz (opd ev x) with
    | none => none
    | some new =>
      let n := srcLen (opd ev x)
      match opd ev s with
      | .nils =>
        if n = 0 then ov .nils
        else if n ≤ 1073741824 ∧ bytes ≤ 4096 ∧ allSc new = true then some { v := .slc nx 0 n esz, new := some (.cells et true new) } else none
      | .slc r off ln k =>
        if n = 0 then ov (.slc r off ln k)
        else
          match g r with
          | some (.cells e0 hd cs) =>
            if e0 = et ∧ k = esz ∧ off + ln * esz ≤ cs.length ∧ ln + n ≤ 1073741824 ∧ bytes ≤ 4096 ∧ allSc new = true then
              some { v := .slc nx 0 (ln + n) esz, puts := [(r, .dead)], new := some (.cells et (hd && off == 0) ((cs.drop off).take (ln * esz) ++ new)) }
            else none
          | _ => none
      | _ => none
def sem_uData (x : Opd) (ev : Nat → AVal) (al : Nat → Option (Nat × Nat)) (g : Nat → Option Row) (fr : Nat → Bool) (nx : Nat) (d : Option Nat) : Option Out :=
  match opd ev x with
    | .nils => ov .nilp
    | .slc r off ln _ => if 0 < ln then ov (.ptr r off) else none
    | _ => none
def sem_uStr (p : Opd) (n : Opd) (et : Nat) (ev : Nat → AVal) (al : Nat → Option (Nat × Nat)) (g : Nat → Option Row) (fr : Nat → Bool) (nx : Nat) (d : Option Nat) : Option Out :=
  match opd ev p, opd ev n with
    | .nilp, .int .i64 k => if k = 0 then ov (.str []) else none
    | .ptr r off, .int .i64 k =>
      match g r with
      | some (.cells e0 true cs) =>
        if e0 = et ∧ off = 0 ∧ 0 < k ∧ k ≤ 4611686018427387904 ∧ off + k.toNat ≤ cs.length then
          match bytesOf ((cs.drop off).take k.toNat) with
          | some l => some { v := .str l, puts := [(r, .fix cs)] }
          | none => none
        else none
      | _ => none
    | _, _ => none
def sem_mm (isMax : Bool) (x : Opd) (y : Opd) (ev : Nat → AVal) (al : Nat → Option (Nat × Nat)) (g : Nat → Option Row) (fr : Nat → Bool) (nx : Nat) (d : Option Nat) : Option Out :=
  match opd ev x, opd ev y with
    | .int k a, .int k' b => if k = k' then ov (.int k (if isMax then (if b > a then b else a) else (if b < a then b else a))) else none
    | _, _ => none
def sem_call (x0 : Opd) (x1 : List Opd) (ev : Nat → AVal) (al : Nat → Option (Nat × Nat)) (g : Nat → Option Row) (fr : Nat → Bool) (nx : Nat) (d : Option Nat) : Option Out :=
  none

def semF : Ins → (Nat → AVal) → (Nat → Option (Nat × Nat)) → (Nat → Option Row) → (Nat → Bool) → Nat → Option Nat → Option Out
  | .mv x => sem_mv x
  | .pick c a b => sem_pick c a b
  | .allocB z => sem_allocB z
  | .boxB n x => sem_boxB n x
  | .allocH et z => sem_allocH et z
  | .boxH et n x => sem_boxH et n x
  | .load p n ag => sem_load p n ag
  | .store p n x => sem_store p n x
  | .fieldAddr p off => sem_fieldAddr p off
  | .field x off n ag => sem_field x off n ag
  | .indexAddr x i esz => sem_indexAddr x i esz
  | .idxStr x i => sem_idxStr x i
  | .build z ps => sem_build z ps
  | .buildSlice et esz ln z ps => sem_buildSlice et esz ln z ps
  | .nilCheck x => sem_nilCheck x
  | .bin op e x y => sem_bin op e x y
  | .un op x => sem_un op x
  | .conv c x => sem_conv c x
  | .mkfn f caps => sem_mkfn f caps
  | .mkmap => sem_mkmap
  | .toBytes x => sem_toBytes x
  | .mkslice et esz bytes z l c => sem_mkslice et esz bytes z l c
  | .slice x lo hi esz => sem_slice x lo hi esz
  | .lookup m k e z ok => sem_lookup m k e z ok
  | .mapup m k v e => sem_mapup m k v e
  | .extract x i => sem_extract x i
  | .len k x => sem_len k x
  | .append s x et esz bytes => sem_append s x et esz bytes
  | .uData x => sem_uData x
  | .uStr p n et => sem_uStr p n et
  | .mm isMax x y => sem_mm isMax x y
  | .call x0 x1 => sem_call x0 x1

theorem semF_eq (i : Ins) (ev : Nat → AVal) (al : Nat → Option (Nat × Nat)) (g : Nat → Option Row) (fr : Nat → Bool) (nx : Nat) (d : Option Nat) : semF i ev al g fr nx d = i.sem ev al g fr nx d := by
  cases i <;> rfl
end Ab

/- The same machine in a form that the kernel runs fast: continuations, closed branches. -/
set_option linter.unusedVariables false
set_option linter.unusedSimpArgs false
namespace Ab
open Go

/- α: what comes of a run; z: what comes of one that has no answer. -/
def plainK {α : Type} (z : α) : AVal → α → α
  | .box _ => fun _ => z
  | _ => fun b => b

theorem plainK_eq {α : Type} (z : α) (v : AVal) (b : α) : plainK z v b = if v.plain = true then b else z := by cases v <;> simp [plainK, AVal.plain]

noncomputable def getK (e : Env) : Nat → AVal :=
  List.rec (motive := fun _ => Nat → AVal) (fun _ => .opq) (fun p _ ih n => Bool.rec (motive := fun _ => AVal) (ih n) p.2 (Nat.beq p.1 n)) e

theorem getK_eq : ∀ (e : Env), getK e = e.get
  | [] => rfl
  | (k, v) :: r => by
    funext n
    show Bool.rec (motive := fun _ => AVal) (getK r n) v (Nat.beq k n) = if k = n then v else Env.get r n
    rw [getK_eq r]
    by_cases h : k = n
    · subst h; rw [if_pos rfl, Nat.beq_refl]
    · rw [if_neg h]
      have : Nat.beq k n = false := by
        cases hb : Nat.beq k n with
        | false => rfl
        | true => exact (h (Nat.eq_of_beq_eq_true hb)).elim
      rw [this]

def putK {α : Type} : Option Nat → AVal → Env → (Env → α) → α
  | none => fun _ e k => k e
  | some t => fun v e k => k ((t, v) :: e)

theorem putK_eq {α : Type} (d : Option Nat) (v : AVal) (e : Env) (k : Env → α) : putK d v e k = k (setD e d v) := by cases d <;> rfl

def alK : Al → Option Nat → Al
  | [] => fun _ => []
  | x :: a => fun d => alD (x :: a) d none

theorem alK_eq (a : Al) (d : Option Nat) : alK a d = alD a d none := by
  cases a with
  | nil => cases d <;> rfl
  | cons x a => rfl

abbrev KF (α : Type) := Env → Al → Heap → Foot → α
abbrev SemT := (Nat → AVal) → (Nat → Option (Nat × Nat)) → (Nat → Option Row) → (Nat → Bool) → Nat → Option Nat → Option Out

/-- What one simple operation is to be, in this form. -/
def simpS {α : Type} (z : α) (s : Rs) (o : Op) (k : KF α) : α :=
  match simple1 s o with
  | some (s', f) => k s'.e s'.al s'.h f
  | none => z

def footT (s : Rs) (o : Op) : Foot :=
  match simple1 s o with
  | some (_, f) => f
  | none => {}

def pureK {α : Type} (z : α) (u : Option Out) (d : Option Nat) (e : Env) (al : Al) (h : Heap) (f : Foot) (k : KF α) : α :=
  match u with
  | none => z
  | some u => plainK z u.v (putK d u.v e fun e => k e (alK al d) h f)

structure OnlyV (u : Out) : Prop where
  al : u.al = none
  bx : u.bx = none
  puts : u.puts = []
  new : u.new = none

theorem pureK_eq {α : Type} (z : α) {s : Rs} {o : Op} (hacc : o.i.acc s.e.get = []) (hm : o.i.mkB = false) (hu : ∀ u, o.i.sem s.e.get s.al.get s.h.get s.al.free s.h.next o.d = some u → OnlyV u) (k : KF α) :
    pureK z (o.i.sem s.e.get s.al.get s.h.get s.al.free s.h.next o.d) o.d s.e s.al s.h (footT s o) k = simpS z s o k := by
  unfold simpS footT pureK
  cases hs : o.i.sem s.e.get s.al.get s.h.get s.al.free s.h.next o.d with
  | none => simp [simple1, hs]
  | some u =>
    obtain ⟨h1, h2, h3, h4⟩ := hu u hs
    have hh : s.h.has (o.i.acc s.e.get) = true := by rw [hacc]; rfl
    have ho : s.h.outs u = some s.h := by simp [Heap.outs, h4, h3, Heap.puts]
    cases hp : u.v.plain with
    | false => simp [simple1, hs, hh, ho, hp, hm, plainK_eq]
    | true => simp [simple1, hs, hh, ho, hp, hm, plainK_eq, putK_eq, alK_eq, h1, h2, setB]
end Ab

/- One operation, fast. -/
set_option linter.unusedVariables false
set_option linter.unusedSimpArgs false
namespace Ab
open Go

def Ins.onlyV : Ins → Bool
  | .mv _ | .pick _ _ _ | .build _ _ | .field _ _ _ _ | .indexAddr _ _ _ | .idxStr _ _ | .nilCheck _ | .un _ _ | .mkfn _ _ | .slice _ _ _ _ | .extract _ _ | .mm _ _ _ | .uData _ => true
  | .load _ _ _ | .bin _ _ _ _ | .conv _ _ | .lookup _ _ _ _ _ | .len _ _ => true
  | _ => false

def Ins.noRow : Ins → Bool
  | .mv _ | .pick _ _ _ | .build _ _ | .field _ _ _ _ | .indexAddr _ _ _ | .idxStr _ _ | .nilCheck _ | .un _ _ | .mkfn _ _ | .slice _ _ _ _ | .extract _ _ | .mm _ _ _ | .uData _ => true
  | _ => false

theorem onlyV_ok {i : Ins} (hi : i.onlyV = true) {ev : Nat → AVal} {al : Nat → Option (Nat × Nat)} {g : Nat → Option Row} {fr : Nat → Bool} {nx : Nat} {d : Option Nat} {u : Out} (h : i.sem ev al g fr nx d = some u) : OnlyV u := by
  cases i <;> first
    | (simp [Ins.onlyV] at hi; done)
    | (simp only [Ins.sem] at h
       try (repeat' split at h)
       all_goals first | (simp at h; done) | (simp at h; subst h; exact ⟨rfl, rfl, rfl, rfl⟩))

theorem onlyV_mkB {i : Ins} (hi : i.onlyV = true) : i.mkB = false := by cases i <;> simp_all [Ins.onlyV, Ins.mkB]
theorem noRow_acc {i : Ins} (hi : i.noRow = true) (ev : Nat → AVal) : i.acc ev = [] := by cases i <;> simp_all [Ins.noRow, Ins.acc]
theorem noRow_onlyV {i : Ins} (hi : i.noRow = true) : i.onlyV = true := by cases i <;> simp_all [Ins.noRow, Ins.onlyV]

def condB {α : Type} (z : α) : Bool → α → α
  | true => fun b => b
  | false => fun _ => z

def readK {α : Type} (z : α) (ac : List Nat) (u : Option Out) (d : Option Nat) (e : Env) (al : Al) (h : Heap) (f : Foot) (k : KF α) : α :=
  match u with
  | none => z
  | some u => condB z (h.has ac) (plainK z u.v (putK d u.v e fun e => k e (alK al d) h f))

theorem readK_eq {α : Type} (z : α) {s : Rs} {o : Op} (hi : o.i.onlyV = true) (k : KF α) :
    readK z (o.i.acc s.e.get) (o.i.sem s.e.get s.al.get s.h.get s.al.free s.h.next o.d) o.d s.e s.al s.h (footT s o) k = simpS z s o k := by
  have hm := onlyV_mkB hi
  unfold simpS footT readK
  cases hs : o.i.sem s.e.get s.al.get s.h.get s.al.free s.h.next o.d with
  | none => simp [simple1, hs]
  | some u =>
    obtain ⟨h1, h2, h3, h4⟩ := onlyV_ok hi hs
    have ho : s.h.outs u = some s.h := by simp [Heap.outs, h4, h3, Heap.puts]
    cases hh : s.h.has (o.i.acc s.e.get) with
    | false => simp [simple1, hs, hh, condB]
    | true =>
      cases hp : u.v.plain with
      | false => simp [simple1, hs, hh, ho, hp, hm, plainK_eq, condB]
      | true => simp [simple1, hs, hh, ho, hp, hm, plainK_eq, putK_eq, alK_eq, h1, h2, setB, condB]

def genK {α : Type} (z : α) (s : Rs) (o : Op) (f : Foot) (k : KF α) : α :=
  match semF o.i s.e.get s.al.get s.h.get s.al.free s.h.next o.d with
  | none => z
  | some u =>
    condB z (s.h.has (o.i.acc s.e.get) && (u.v.plain || o.i.mkB))
      (match s.h.outs u with
       | none => z
       | some h' => k (setB (setD s.e o.d u.v) u.bx) (alD s.al o.d u.al) h' f)

theorem genK_eq {α : Type} (z : α) (s : Rs) (o : Op) (k : KF α) : genK z s o (footT s o) k = simpS z s o k := by
  unfold simpS footT genK
  rw [semF_eq]
  cases hs : o.i.sem s.e.get s.al.get s.h.get s.al.free s.h.next o.d with
  | none => simp [simple1, hs]
  | some u =>
    cases hc : (s.h.has (o.i.acc s.e.get) && (u.v.plain || o.i.mkB)) with
    | false => simp [simple1, hs, hc, condB]
    | true =>
      cases ho : s.h.outs u with
      | none => simp [simple1, hs, hc, ho, condB]
      | some h' => simp [simple1, hs, hc, ho, condB]
end Ab

/- Dispatch, guards, calls: one operation of a region, fast. -/
set_option linter.unusedVariables false
set_option linter.unusedSimpArgs false
namespace Ab
open Go

abbrev HK (α : Type) := Option Nat → Option (Nat × Bool) → Env → Al → Heap → KF α → α

noncomputable def hP {α : Type} (z : α) (i : Ins) (sm : SemT) : HK α := fun d g e al h k => pureK z (sm (getK e) al.get h.get al.free h.next d) d e al h (footT ⟨e, al, h⟩ ⟨d, g, i⟩) k
noncomputable def hR {α : Type} (z : α) (i : Ins) (sm : SemT) : HK α := fun d g e al h k => readK z (i.acc (getK e)) (sm (getK e) al.get h.get al.free h.next d) d e al h (footT ⟨e, al, h⟩ ⟨d, g, i⟩) k
def hG {α : Type} (z : α) (i : Ins) : HK α := fun d g e al h k => genK z ⟨e, al, h⟩ ⟨d, g, i⟩ (footT ⟨e, al, h⟩ ⟨d, g, i⟩) k

noncomputable def dispK {α : Type} (z : α) : Ins → HK α
  | .mv x => hP z (.mv x) (sem_mv x)
  | .pick a b c => hP z (.pick a b c) (sem_pick a b c)
  | .build q l => hP z (.build q l) (sem_build q l)
  | .field x a b c => hP z (.field x a b c) (sem_field x a b c)
  | .indexAddr x i q => hP z (.indexAddr x i q) (sem_indexAddr x i q)
  | .idxStr x i => hP z (.idxStr x i) (sem_idxStr x i)
  | .nilCheck x => hP z (.nilCheck x) (sem_nilCheck x)
  | .un o x => hP z (.un o x) (sem_un o x)
  | .mkfn f l => hP z (.mkfn f l) (sem_mkfn f l)
  | .slice x a b c => hP z (.slice x a b c) (sem_slice x a b c)
  | .extract x i => hP z (.extract x i) (sem_extract x i)
  | .mm b x y => hP z (.mm b x y) (sem_mm b x y)
  | .load p n ag => hR z (.load p n ag) (sem_load p n ag)
  | .bin o e x y => hR z (.bin o e x y) (sem_bin o e x y)
  | .conv c x => hR z (.conv c x) (sem_conv c x)
  | .len k x => hR z (.len k x) (sem_len k x)
  | .lookup m k e q ok => hR z (.lookup m k e q ok) (sem_lookup m k e q ok)
  | i => hG z i

theorem hP_eq {α : Type} (z : α) {i : Ins} {sm : SemT} (hi : i.noRow = true) (hs : ∀ ev al g fr nx d, sm ev al g fr nx d = i.sem ev al g fr nx d) (d : Option Nat) (g : Option (Nat × Bool)) (e : Env) (al : Al) (h : Heap) (k : KF α) :
    hP z i sm d g e al h k = simpS z ⟨e, al, h⟩ ⟨d, g, i⟩ k := by
  unfold hP
  rw [getK_eq, hs]
  exact pureK_eq z (s := ⟨e, al, h⟩) (o := ⟨d, g, i⟩) (noRow_acc hi _) (onlyV_mkB (noRow_onlyV hi)) (fun u hu => onlyV_ok (noRow_onlyV hi) hu) k

theorem hR_eq {α : Type} (z : α) {i : Ins} {sm : SemT} (hi : i.onlyV = true) (hs : ∀ ev al g fr nx d, sm ev al g fr nx d = i.sem ev al g fr nx d) (d : Option Nat) (g : Option (Nat × Bool)) (e : Env) (al : Al) (h : Heap) (k : KF α) :
    hR z i sm d g e al h k = simpS z ⟨e, al, h⟩ ⟨d, g, i⟩ k := by
  unfold hR
  rw [getK_eq, hs]
  exact readK_eq z (s := ⟨e, al, h⟩) (o := ⟨d, g, i⟩) hi k

theorem hG_eq {α : Type} (z : α) (i : Ins) (d : Option Nat) (g : Option (Nat × Bool)) (e : Env) (al : Al) (h : Heap) (k : KF α) : hG z i d g e al h k = simpS z ⟨e, al, h⟩ ⟨d, g, i⟩ k :=
  genK_eq z ⟨e, al, h⟩ ⟨d, g, i⟩ k

theorem dispK_eq {α : Type} (z : α) (i : Ins) (d : Option Nat) (g : Option (Nat × Bool)) (e : Env) (al : Al) (h : Heap) (k : KF α) : dispK z i d g e al h k = simpS z ⟨e, al, h⟩ ⟨d, g, i⟩ k := by
  cases i <;> first
    | (refine hP_eq z ?_ ?_ d g e al h k
       · rfl
       · intros; rfl)
    | (refine hR_eq z ?_ ?_ d g e al h k
       · rfl
       · intros; rfl)
    | exact hG_eq z _ d g e al h k

def wantB {α : Type} : Bool → Bool → α → α → α
  | true => fun b s r => match b with | true => r | false => s
  | false => fun b s r => match b with | true => s | false => r
def wantL {α : Type} (z : α) : List AVal → α → α
  | [] => fun s => s
  | _ :: _ => fun _ => z
def wantK {α : Type} (z : α) : AVal → Bool → α → α → α
  | .bool b' => wantB b'
  | .tup l => fun _ s _ => wantL z l s
  | _ => fun _ _ _ => z
noncomputable def guardK {α : Type} (z : α) : Option (Nat × Bool) → Env → α → α → α
  | none => fun _ _ r => r
  | some p => fun e s r => wantK z (getK e p.1) p.2 s r

theorem guardK_eq {α : Type} (z : α) (g : Option (Nat × Bool)) (e : Env) (s r : α) : guardK z g e s r = match wants e.get g with | none => z | some false => s | some true => r := by
  cases g with
  | none => rfl
  | some p =>
    obtain ⟨t, b⟩ := p
    simp only [guardK, wants, getK_eq]
    cases hv : e.get t with
    | bool b' => cases b' <;> cases b <;> rfl
    | tup l => cases l <;> rfl
    | _ => rfl

abbrev CFK (α : Type) := Nat → List AVal → Heap → (AVal → Heap → α) → α
def CfEq {α : Type} (z : α) (cfk : CFK α) (cf : CallF) : Prop := ∀ f l h k, cfk f l h k = match cf f l h with | some (v, h') => k v h' | none => z

def fnK {α : Type} (z : α) : AVal → (Nat → List AVal → α) → α
  | .fn k caps => fun q => q k caps
  | _ => fun _ => z

noncomputable def callOpK {α : Type} (z : α) (cfk : CFK α) (f : Opd) (args : List Opd) : HK α := fun d g e al h k =>
  fnK z (opd (getK e) f) fun q caps =>
    match vals (getK e) args with
    | none => z
    | some l => cfk q (l ++ caps) h fun v h' => plainK z v (putK d v e fun e' => k e' (alK al d) h' { sacc := Op.reads ⟨d, g, .call f args⟩, chg := some fun r => h'.ver r != h.ver r })

theorem callOpK_eq {α : Type} {z : α} {cfk : CFK α} {cf : CallF} (hc : CfEq z cfk cf) (f : Opd) (args : List Opd) (d : Option Nat) (g : Option (Nat × Bool)) (e : Env) (al : Al) (h : Heap) (k : KF α) :
    callOpK z cfk f args d g e al h k = match call1 cf ⟨e, al, h⟩ ⟨d, g, .call f args⟩ f args with | some (s', f) => k s'.e s'.al s'.h f | none => z := by
  unfold callOpK call1 calls
  rw [getK_eq]
  cases hf : opd e.get f with
  | fn q caps =>
    cases hv : vals e.get args with
    | none => simp [fnK]
    | some l =>
      simp only [fnK]
      rw [hc q (l ++ caps) h]
      cases hq : cf q (l ++ caps) h with
      | none => simp
      | some p =>
        obtain ⟨v, h'⟩ := p
        cases hp : v.plain <;> simp [plainK_eq, putK_eq, alK_eq, hp]
  | _ => simp [fnK]
end Ab

/- Regions, fast. -/
set_option linter.unusedVariables false
set_option linter.unusedSimpArgs false
namespace Ab
open Go

abbrev KC (α : Type) := Env → Al → Heap → List Foot → α

noncomputable def runK {α : Type} (z : α) : Ins → CFK α → HK α
  | .call f args => fun cfk => callOpK z cfk f args
  | i => fun _ => dispK z i

noncomputable def opK {α : Type} (z : α) (cfk : CFK α) (o : Op) (ih : Env → Al → Heap → KC α → α) (e : Env) (al : Al) (h : Heap) (k : KC α) : α :=
  guardK z o.g e
    (putK o.d (.tup []) e fun e' => ih e' (alK al o.d) h fun e2 al2 h2 fs => k e2 al2 h2 ({ sacc := o.reads, swr := o.i.makesBox o.d } :: fs))
    (runK z o.i cfk o.d o.g e al h fun e1 al1 h1 f => ih e1 al1 h1 fun e2 al2 h2 fs => k e2 al2 h2 (f :: fs))

noncomputable def opsK {α : Type} (z : α) (cfk : CFK α) (l : List Op) : Env → Al → Heap → KC α → α :=
  List.rec (motive := fun _ => Env → Al → Heap → KC α → α) (fun e al h k => k e al h []) (fun o _ ih => opK z cfk o ih) l

theorem opsK_eq {α : Type} {z : α} {cfk : CFK α} {cf : CallF} (hc : CfEq z cfk cf) : ∀ (l : List Op) (e : Env) (al : Al) (h : Heap) (k : KC α),
    opsK z cfk l e al h k = match steps cf l ⟨e, al, h⟩ with | some (s, fs) => k s.e s.al s.h fs | none => z
  | [], e, al, h, k => rfl
  | o :: l, e, al, h, k => by
    show opK z cfk o (opsK z cfk l) e al h k = _
    unfold opK
    rw [guardK_eq]
    simp only [steps, step1]
    cases hw : wants e.get o.g with
    | none => simp
    | some b =>
      cases b with
      | false =>
        simp only [putK_eq, alK_eq]
        rw [opsK_eq hc l]
        cases hs : steps cf l { e := setD e o.d (.tup []), al := alD al o.d none, h := h } with
        | none => simp
        | some p => simp
      | true =>
        have hk : ∀ (r : Option (Rs × Foot)), (match r with | some (s', f) => opsK z cfk l s'.e s'.al s'.h (fun e2 al2 h2 fs => k e2 al2 h2 (f :: fs)) | none => z) =
            match (match r with | none => none | some (s', f) => match steps cf l s' with | none => none | some (s'', fs) => some (s'', f :: fs)) with | some (s, fs) => k s.e s.al s.h fs | none => z := by
          intro r
          cases r with
          | none => rfl
          | some p =>
            obtain ⟨s', f⟩ := p
            simp only []
            rw [opsK_eq hc l]
            cases steps cf l s' with
            | none => rfl
            | some q => rfl
        obtain ⟨d, g, i⟩ := o
        simp only []
        cases i with
        | call f args =>
          simp only [runK]
          rw [callOpK_eq hc]
          exact hk _
        | _ =>
          simp only [runK]
          rw [dispK_eq]
          exact hk (simple1 ⟨e, al, h⟩ ⟨d, g, _⟩)
end Ab

/- Code and calls, fast. -/
set_option linter.unusedVariables false
set_option linter.unusedSimpArgs false
namespace Ab
open Go

abbrev KN (α : Type) := Env → Heap → α
abbrev KX (α : Type) := Ex → Env → Heap → α

noncomputable def lookK : List (Nat × Bool) → Nat → Option Bool := fun l =>
  List.rec (motive := fun _ => Nat → Option Bool) (fun _ => none) (fun p _ ih n => Bool.rec (motive := fun _ => Option Bool) (ih n) (some p.2) (Nat.beq p.1 n)) l

theorem lookK_eq : ∀ (l : List (Nat × Bool)) (n : Nat), lookK l n = look l n
  | [], n => rfl
  | (k, b) :: r, n => by
    show Bool.rec (motive := fun _ => Option Bool) (lookK r n) (some b) (Nat.beq k n) = if k = n then some b else look r n
    rw [lookK_eq r]
    by_cases h : k = n
    · subst h; rw [if_pos rfl, Nat.beq_refl]
    · rw [if_neg h]
      have : Nat.beq k n = false := by
        cases hb : Nat.beq k n with
        | false => rfl
        | true => exact (h (Nat.eq_of_beq_eq_true hb)).elim
      rw [this]

abbrev KT (α : Type) := List (Nat × Bool) → (Env → α) → α
def killB {α : Type} : Option Bool → Nat × AVal → KT α → KT α
  | some true => fun _ ih l k => ih l k
  | some false => fun p ih l k => ih ((p.1, true) :: l) fun e => k (p :: e)
  | none => fun p ih l k => ih l fun e => k (p :: e)
noncomputable def killK {α : Type} : Env → KT α := fun e => List.rec (motive := fun _ => KT α) (fun _ k => k []) (fun p _ ih l k => killB (lookK l p.1) p ih l k) e

theorem killK_eq {α : Type} : ∀ (e : Env) (l : List (Nat × Bool)) (k : Env → α), killK e l k = k (e.kill l)
  | [], l, k => rfl
  | (t, v) :: r, l, k => by
    show killB (lookK l t) (t, v) (killK r) l k = _
    rw [lookK_eq]
    simp only [Env.kill]
    cases look l t with
    | none => exact killK_eq r l _
    | some b => cases b <;> exact killK_eq r _ _

noncomputable def regK {α : Type} (z : α) (cfk : CFK α) (ops : List Op) (conf : List (Nat × Nat)) (kill : List (Nat × Bool)) (e : Env) (h : Heap) (kn : KN α) : α :=
  opsK z cfk ops e [] h fun e' _ h' fs => condB z (apartAll fs conf) (killK e' kill fun e2 => kn e2 h')

def condK {α : Type} (z : α) : AVal → α → α → α
  | .bool true => fun a _ => a
  | .bool false => fun _ b => b
  | _ => fun _ _ => z

def blkX {α : Type} (id : Nat) (kn : KN α) (kx : KX α) : KX α
  | .ex j => fun e h => if j = id then kn e h else kx (.ex j) e h
  | x => kx x

abbrev IH (α : Type) := Cd → Env → Heap → KN α → KX α → α

noncomputable def cdK {α : Type} (z : α) : Cd → CFK α → IH α → Env → Heap → KN α → KX α → α
  | .skip => fun _ _ e h kn _ => kn e h
  | .reg ops conf kill => fun cfk _ e h kn _ => regK z cfk ops conf kill e h kn
  | .seq a b => fun _ ih e h kn kx => ih a e h (fun e h => ih b e h kn kx) kx
  | .cond c a b => fun _ ih e h kn kx => condK z (opd (getK e) c) (ih a e h kn kx) (ih b e h kn kx)
  | .block id b => fun _ ih e h kn kx => ih b e h kn (blkX id kn kx)
  | .loop b => fun _ ih e h kn kx => ih b e h (fun e h => ih (.loop b) e h kn kx) kx
  | .exit id => fun _ _ e h _ kx => kx (.ex id) e h
  | .ret => fun _ _ e h _ kx => kx .ret e h
  | .bad => fun _ _ _ _ _ _ => z

noncomputable def codeK {α : Type} (z : α) (cfk : CFK α) (n : Nat) : IH α := Nat.rec (motive := fun _ => IH α) (fun _ _ _ _ _ => z) (fun _ ih c => cdK z c cfk ih) n

def outX {α : Type} (z : α) (kn : KN α) (kx : KX α) : Option (Ex × St) → α
  | some (.nrm, s) => kn s.e s.h
  | some (x, s) => kx x s.e s.h
  | none => z

theorem codeK_eq {α : Type} {z : α} {cfk : CFK α} {cf : CallF} (hc : CfEq z cfk cf) : ∀ (n : Nat) (c : Cd) (e : Env) (h : Heap) (kn : KN α) (kx : KX α),
    codeK z cfk n c e h kn kx = outX z kn kx (exec cf n c ⟨e, h⟩)
  | 0, c, e, h, kn, kx => rfl
  | n + 1, c, e, h, kn, kx => by
    have ih := fun c e h kn kx => codeK_eq hc n c e h kn kx
    show cdK z c cfk (codeK z cfk n) e h kn kx = _
    cases c with
    | skip => rfl
    | exit id => rfl
    | ret => rfl
    | bad => rfl
    | reg ops conf kill =>
      simp only [cdK, regK, exec]
      rw [opsK_eq hc]
      cases steps cf ops { e := e, al := [], h := h } with
      | none => rfl
      | some p =>
        obtain ⟨s', fs⟩ := p
        simp only []
        rw [killK_eq]
        cases apartAll fs conf <;> rfl
    | seq a b =>
      simp only [cdK, exec]
      rw [ih a]
      cases exec cf n a ⟨e, h⟩ with
      | none => rfl
      | some p =>
        obtain ⟨x, s⟩ := p
        cases x with
        | nrm => exact ih b s.e s.h kn kx
        | ex id => rfl
        | ret => rfl
    | cond c a b =>
      simp only [cdK, exec, getK_eq]
      cases hv : opd e.get c with
      | bool t =>
        cases t with
        | true => exact ih a e h kn kx
        | false => exact ih b e h kn kx
      | _ => rfl
    | block id b =>
      simp only [cdK, exec]
      rw [ih b]
      cases exec cf n b ⟨e, h⟩ with
      | none => rfl
      | some p =>
        obtain ⟨x, s⟩ := p
        cases x with
        | nrm => rfl
        | ex j =>
          simp only [outX, blkX]
          by_cases hj : j = id
          · rw [if_pos hj, if_pos hj]
          · rw [if_neg hj, if_neg hj]
        | ret => rfl
    | loop b =>
      simp only [cdK, exec]
      rw [ih b]
      cases exec cf n b ⟨e, h⟩ with
      | none => rfl
      | some p =>
        obtain ⟨x, s⟩ := p
        cases x with
        | nrm => exact ih (.loop b) s.e s.h kn kx
        | ex id => rfl
        | ret => rfl
end Ab

/- Calls, fast. -/
set_option linter.unusedVariables false
set_option linter.unusedSimpArgs false
namespace Ab
open Go

def endK {α : Type} (z : α) (fn : Fn) (k : AVal → Heap → α) : KN α := fun e h =>
  match resOf e fn.res with
  | some l => k (one l) h
  | none => z

def endX {α : Type} (z : α) (fn : Fn) (k : AVal → Heap → α) : KX α
  | .ret => endK z fn k
  | _ => fun _ _ => z

noncomputable def funK {α : Type} (z : α) : Fun → Nat → CFK α → List AVal → Heap → (AVal → Heap → α) → α
  | .prim p => fun _ _ args h k => (match p args with | some v => k v h | none => z)
  | .code fn => fun n cfk args h k => condB z (Nat.beq args.length fn.np && args.all AVal.plain) (codeK z cfk n fn.body (params 0 args) h (endK z fn k) (endX z fn k))

def optK {α : Type} (z : α) : Option Fun → (Fun → α) → α
  | none => fun _ => z
  | some u => fun q => q u

noncomputable def callK {α : Type} (z : α) (tb : Tbl) (n : Nat) : CFK α :=
  Nat.rec (motive := fun _ => CFK α) (fun _ _ _ _ => z) (fun n cfk f args h k => optK z (tb f) fun u => funK z u n cfk args h k) n

theorem callK_eq {α : Type} (z : α) (tb : Tbl) : ∀ n, CfEq z (callK z tb n) (callF tb n)
  | 0 => fun f l h k => rfl
  | n + 1 => fun f l h k => by
    show optK z (tb f) (fun u => funK z u n (callK z tb n) l h k) = _
    simp only [callF]
    cases tb f with
    | none => rfl
    | some u =>
      cases u with
      | prim p =>
        simp only [optK, funK]
        cases p l <;> rfl
      | code fn =>
        simp only [optK, funK]
        rw [codeK_eq (callK_eq z tb n)]
        by_cases hc : l.length = fn.np ∧ l.all AVal.plain = true
        · rw [if_pos hc]
          have : (Nat.beq l.length fn.np && l.all AVal.plain) = true := by rw [hc.1, hc.2, Nat.beq_refl]; rfl
          rw [this]
          simp only [condB]
          cases exec (callF tb n) n fn.body ⟨params 0 l, h⟩ with
          | none => rfl
          | some p =>
            obtain ⟨x, s⟩ := p
            cases x with
            | nrm =>
              simp only [outX, endK]
              cases resOf s.e fn.res <;> rfl
            | ret =>
              simp only [outX, endX, endK]
              cases resOf s.e fn.res <;> rfl
            | ex id => rfl
        · rw [if_neg hc]
          have : (Nat.beq l.length fn.np && l.all AVal.plain) = false := by
            rw [Bool.eq_false_iff]
            intro hq
            rw [Bool.and_eq_true] at hq
            exact hc ⟨Nat.eq_of_beq_eq_true hq.1, hq.2⟩
          rw [this]
          rfl
end Ab

/- What is shown of runs of the abstract machine, whatever the fuel: more fuel does no harm; new rows are free. -/
set_option linter.unusedVariables false
set_option linter.unusedSimpArgs false
namespace Ab
open Go

def CfLe (a b : CallF) : Prop := ∀ f l h r, a f l h = some r → b f l h = some r

theorem calls_mono {a b : CallF} (hab : CfLe a b) {ev : Nat → AVal} {h : Heap} {f : Opd} {args : List Opd} {r : AVal × Heap} (hs : calls a ev h f args = some r) : calls b ev h f args = some r := by
  unfold calls at hs ⊢
  cases h1 : opd ev f <;> rw [h1] at hs <;> first | (simp at hs; done) | skip
  cases h2 : vals ev args <;> rw [h2] at hs <;> first | (simp at hs; done) | skip
  exact hab _ _ _ _ hs

theorem step1_mono {a b : CallF} (hab : CfLe a b) {s : Rs} {o : Op} {r : Rs × Foot} (hs : step1 a s o = some r) : step1 b s o = some r := by
  unfold step1 at hs ⊢
  cases hw : wants s.e.get o.g with
  | none => rw [hw] at hs; simp at hs
  | some w =>
    rw [hw] at hs
    cases w with
    | false => exact hs
    | true =>
      simp only [] at hs ⊢
      cases hi : o.i <;> rw [hi] at hs <;> first | exact hs | skip
      rename_i f args
      simp only [] at hs ⊢
      unfold call1 at hs ⊢
      cases hc : calls a s.e.get s.h f args with
      | none => rw [hc] at hs; simp at hs
      | some p =>
        rw [calls_mono hab hc]
        rw [hc] at hs
        exact hs

theorem steps_mono {a b : CallF} (hab : CfLe a b) : ∀ {l : List Op} {s : Rs} {r : Rs × List Foot}, steps a l s = some r → steps b l s = some r
  | [], s, r, h => h
  | o :: l, s, r, h => by
    simp only [steps] at h ⊢
    split at h
    · simp at h
    · rename_i s' f h1
      rw [step1_mono hab h1]
      simp only []
      split at h
      · simp at h
      · rename_i s'' fs h2
        rw [steps_mono hab h2]
        exact h

theorem exec_mono {a b : CallF} (hab : CfLe a b) : ∀ {n m : Nat}, n ≤ m → ∀ {c : Cd} {s : St} {r : Ex × St}, exec a n c s = some r → exec b m c s = some r
  | 0, m, _, c, s, r, h => by simp [exec] at h
  | n + 1, 0, hnm, c, s, r, h => by omega
  | n + 1, m + 1, hnm, c, s, r, h => by
    have ih : ∀ {c s r}, exec a n c s = some r → exec b m c s = some r := fun {c s r} h => exec_mono hab (by omega) h
    cases c with
    | skip => exact h
    | exit id => exact h
    | ret => exact h
    | bad => exact h
    | reg ops conf kill =>
      simp only [exec] at h ⊢
      split at h
      · rename_i s' fs h1
        rw [steps_mono hab h1]
        exact h
      · simp at h
    | seq x y =>
      simp only [exec] at h ⊢
      split at h
      · rename_i s' h1
        rw [ih h1]
        exact ih h
      · rename_i h1
        rw [ih h]
        split
        · rename_i s' h2
          injection h2 with h2
          subst h2
          exact (h1 _ h).elim
        · rfl
    | cond t x y =>
      simp only [exec] at h ⊢
      split at h
      · exact ih h
      · exact ih h
      · simp at h
    | block id x =>
      simp only [exec] at h ⊢
      split at h
      · rename_i j s' h1
        rw [ih h1]
        exact h
      · rename_i h1
        rw [ih h]
        split
        · rename_i j s' h2
          injection h2 with h2
          subst h2
          exact (h1 _ _ h).elim
        · rfl
    | loop x =>
      simp only [exec] at h ⊢
      split at h
      · rename_i s' h1
        rw [ih h1]
        exact ih h
      · rename_i h1
        rw [ih h]
        split
        · rename_i s' h2
          injection h2 with h2
          subst h2
          exact (h1 _ h).elim
        · rfl

theorem callF_mono (tb : Tbl) : ∀ {n m : Nat}, n ≤ m → CfLe (callF tb n) (callF tb m)
  | 0, m, _ => fun f l h r hs => by simp [callF] at hs
  | n + 1, 0, hnm => by omega
  | n + 1, m + 1, hnm => fun f l h r hs => by
    have ih := callF_mono tb (n := n) (m := m) (by omega)
    simp only [callF] at hs ⊢
    cases h1 : tb f with
    | none => rw [h1] at hs; simp at hs
    | some u =>
      rw [h1] at hs
      cases u with
      | prim p => exact hs
      | code fn =>
        simp only [] at hs ⊢
        split at hs
        · rename_i h2
          rw [if_pos h2]
          cases h3 : exec (callF tb n) n fn.body { e := params 0 l, h := h } with
          | none => rw [h3] at hs; simp at hs
          | some p =>
            rw [h3] at hs
            rw [exec_mono ih (by omega) h3]
            exact hs
        · simp at hs

/-- A call comes to this, with fuel enough. -/
def Cl (tb : Tbl) (f : Nat) (l : List AVal) (h : Heap) (v : AVal) (h' : Heap) : Prop := ∃ n, callF tb n f l h = some (v, h')

/-- The rows from the next number on are free; no row is newer than the clock. -/
structure Fresh (h : Heap) : Prop where
  free : ∀ r, h.next ≤ r → h.get r = none
  hw : HW h

theorem Fresh.lt {h : Heap} (hf : Fresh h) {r : Nat} (hr : h.get r ≠ none) : r < h.next := by
  rcases Nat.lt_or_ge r h.next with h1 | h1
  · exact h1
  · exact (hr (hf.free r h1)).elim

theorem Fresh.empty : Fresh Heap.empty := ⟨fun r _ => by simp [Heap.empty, Heap.get, Tr.get], fun r x h => by simp [Heap.empty, Tr.get] at h⟩

theorem Fresh.put {h : Heap} (hf : Fresh h) {r : Nat} (hr : h.get r ≠ none) (x : Row) : Fresh (h.put r x) := ⟨fun q hq => by
  have h1 : (h.put r x).next = h.next := rfl
  rw [get_put, if_neg (by have := hf.lt hr; omega)]
  exact hf.free q (by omega), (put_ok hf.hw r x).1⟩

theorem Fresh.new {h : Heap} (hf : Fresh h) (x : Row) : Fresh (h.new x) := ⟨fun q hq => by
  have h1 : (h.new x).next = h.next + 1 := rfl
  rw [get_new, if_neg (by omega)]
  exact hf.free q (by omega), (new_ok hf.hw x).1⟩

theorem Fresh.puts : ∀ {l : List (Nat × Row)} {h : Heap}, Fresh h → (∀ p ∈ l, h.get p.1 ≠ none) → Fresh (h.puts l)
  | [], h, hf, _ => hf
  | (r, x) :: l, h, hf, hp => by
    refine Fresh.puts (l := l) (h := h.put r x) (hf.put (hp (r, x) (by simp)) x) fun p hm => ?_
    rw [get_put]
    by_cases h1 : p.1 = r
    · simp [h1]
    · rw [if_neg h1]; exact hp p (by simp [hm])

def CfFr (cf : CallF) : Prop := ∀ f args h v h', Fresh h → cf f args h = some (v, h') → Fresh h'

theorem step1_fresh {cf : CallF} (hcf : CfFr cf) {s s' : Rs} {o : Op} {f : Foot} (hf : Fresh s.h) (hs : step1 cf s o = some (s', f)) : Fresh s'.h := by
  unfold step1 at hs
  split at hs
  · simp at hs
  · simp at hs; obtain ⟨rfl, _⟩ := hs; exact hf
  · split at hs
    · rename_i fo args hi
      unfold call1 at hs
      split at hs
      · rename_i v h' hc
        split at hs
        · simp at hs; obtain ⟨rfl, _⟩ := hs
          unfold calls at hc
          split at hc
          · exact hcf _ _ _ _ _ hf hc
          · simp at hc
        · simp at hs
      · simp at hs
    · unfold simple1 at hs
      split at hs
      · simp at hs
      · rename_i u hu
        split at hs
        · rename_i hc
          simp only [Bool.and_eq_true] at hc
          split at hs
          · simp at hs
          · rename_i h' ho
            simp at hs; obtain ⟨rfl, _⟩ := hs
            show Fresh h'
            have hp : ∀ p ∈ u.puts, s.h.get p.1 ≠ none := fun p hp => by
              have h1 := ((sem_out hu).puts p hp).1
              have h2 := List.all_eq_true.1 hc.1 _ h1
              intro h3
              rw [h3] at h2
              simp at h2
            unfold Heap.outs at ho
            split at ho
            · simp at ho; subst ho; exact hf.puts hp
            · split at ho
              · simp at ho; subst ho; exact (hf.puts hp).new _
              · simp at ho
        · simp at hs

theorem steps_fresh {cf : CallF} (hcf : CfFr cf) : ∀ (l : List Op) {s s' : Rs} {fs : List Foot}, Fresh s.h → steps cf l s = some (s', fs) → Fresh s'.h
  | [], s, s', fs, hf, hs => by simp [steps] at hs; obtain ⟨rfl, _⟩ := hs; exact hf
  | o :: l, s, s', fs, hf, hs => by
    simp only [steps] at hs
    split at hs
    · simp at hs
    · rename_i s1 f h1
      split at hs
      · simp at hs
      · rename_i s2 fs2 h2
        simp at hs; obtain ⟨rfl, _⟩ := hs
        exact steps_fresh hcf l (step1_fresh hcf hf h1) h2

theorem exec_fresh {cf : CallF} (hcf : CfFr cf) : ∀ (n : Nat) (c : Cd) {s s' : St} {x : Ex}, Fresh s.h → exec cf n c s = some (x, s') → Fresh s'.h
  | 0, c, s, s', x, hf, hs => by simp [exec] at hs
  | n + 1, c, s, s', x, hf, hs => by
    cases c with
    | skip => simp [exec] at hs; obtain ⟨_, rfl⟩ := hs; exact hf
    | exit id => simp [exec] at hs; obtain ⟨_, rfl⟩ := hs; exact hf
    | ret => simp [exec] at hs; obtain ⟨_, rfl⟩ := hs; exact hf
    | bad => simp [exec] at hs
    | reg ops conf kill =>
      simp only [exec] at hs
      split at hs
      · rename_i s1 fs h1
        split at hs
        · simp at hs; obtain ⟨_, rfl⟩ := hs
          exact steps_fresh hcf ops (s := ⟨s.e, [], s.h⟩) hf h1
        · simp at hs
      · simp at hs
    | seq a b =>
      simp only [exec] at hs
      split at hs
      · rename_i s1 h1
        exact exec_fresh hcf n b (exec_fresh hcf n a hf h1) hs
      · exact exec_fresh hcf n a hf hs
    | cond c a b =>
      simp only [exec] at hs
      split at hs
      · exact exec_fresh hcf n a hf hs
      · exact exec_fresh hcf n b hf hs
      · simp at hs
    | block id b =>
      simp only [exec] at hs
      split at hs
      · rename_i j s1 h1
        split at hs <;> (simp at hs; obtain ⟨_, rfl⟩ := hs; exact exec_fresh hcf n b hf h1)
      · exact exec_fresh hcf n b hf hs
    | loop b =>
      simp only [exec] at hs
      split at hs
      · rename_i s1 h1
        exact exec_fresh hcf n (.loop b) (exec_fresh hcf n b hf h1) hs
      · exact exec_fresh hcf n b hf hs

theorem callF_fresh (tb : Tbl) : ∀ n, CfFr (callF tb n)
  | 0 => fun f args h v h' hf hs => by simp [callF] at hs
  | n + 1 => fun f args h v h' hf hs => by
    simp only [callF] at hs
    split at hs
    · simp at hs
    · split at hs
      · simp at hs; obtain ⟨_, rfl⟩ := hs; exact hf
      · simp at hs
    · split at hs
      · split at hs
        · simp at hs
        · rename_i x s hx _
          split at hs
          · simp at hs; obtain ⟨_, rfl⟩ := hs
            exact exec_fresh (callF_fresh tb n) n _ (s := ⟨_, h⟩) hf (by assumption)
          · simp at hs
        · simp at hs
      · simp at hs

theorem new_next (h : Heap) (x : Row) : (h.new x).next = h.next + 1 := rfl
theorem put_next (h : Heap) (r : Nat) (x : Row) : (h.put r x).next = h.next := rfl

/-- An environment's list, a slot laid in at its place. -/
def Env.ins : Env → Nat → AVal → Env
  | [], n, v => [(n, v)]
  | (k, w) :: r, n, v => if n < k then (n, v) :: (k, w) :: r else if n = k then (n, v) :: r else (k, w) :: Env.ins r n v

theorem Env.get_ins : ∀ (l : Env) (n : Nat) (v : AVal) (m : Nat), (l.ins n v).get m = if m = n then v else l.get m
  | [], n, v, m => by
    simp only [Env.ins, Env.get]
    by_cases h : m = n
    · simp [h]
    · rw [if_neg (by omega), if_neg h]
  | (k, w) :: r, n, v, m => by
    simp only [Env.ins]
    split
    · simp only [Env.get]
      by_cases h : m = n
      · simp [h]
      · rw [if_neg (by omega), if_neg h]
    · split
      · rename_i h1 h2
        subst h2
        simp only [Env.get]
        by_cases h : m = n
        · simp [h]
        · rw [if_neg (by omega), if_neg h, if_neg (by omega)]
      · simp only [Env.get]
        rw [Env.get_ins r n v m]
        by_cases h : m = n
        · subst h
          rw [if_neg (by omega), if_pos rfl, if_pos rfl]
        · rw [if_neg h, if_neg h]

/-- Slots forgotten. -/
def Env.drop : Env → List (Nat × Bool) → Env
  | [], _ => []
  | (k, v) :: r, l => match look l k with | some true => Env.drop r l | _ => (k, v) :: Env.drop r l

theorem Env.get_drop : ∀ (e : Env) (l : List (Nat × Bool)) (m : Nat), (e.drop l).get m = if look l m = some true then .opq else e.get m
  | [], l, m => by simp [Env.drop, Env.get]
  | (k, v) :: r, l, m => by
    simp only [Env.drop]
    split
    · rename_i h
      rw [Env.get_drop r l m]
      simp only [Env.get]
      by_cases hk : k = m
      · subst hk; simp [h]
      · rw [if_neg hk]
    · rename_i h
      simp only [Env.get]
      rw [Env.get_drop r l m]
      by_cases hk : k = m
      · subst hk
        rw [if_pos rfl]
        rw [if_neg h, if_pos rfl]
      · rw [if_neg hk, if_neg hk]

def Env.insO (l : Env) (d : Option Nat) (v : AVal) : Env :=
  match d with
  | some t => l.ins t v
  | none => l

def Env.insB (l : Env) : Option (Nat × AVal) → Env
  | some (t, v) => l.ins t v
  | none => l

theorem get_insO {e l : Env} (h : e.get = l.get) (d : Option Nat) (v : AVal) : (setD e d v).get = (l.insO d v).get := by
  cases d with
  | none => exact h
  | some t => funext m; simp only [setD, Env.insO, Env.get_set, Env.get_ins, h]

theorem get_insB {e l : Env} (h : e.get = l.get) (x : Option (Nat × AVal)) : (setB e x).get = (l.insB x).get := by
  cases x with
  | none => exact h
  | some p => funext m; simp only [setB, Env.insB, Env.get_set, Env.get_ins, h]

theorem get_kill_drop {e l : Env} (h : e.get = l.get) (ks : List (Nat × Bool)) : (e.kill ks).get = (l.drop ks).get := by
  funext m; rw [Env.get_kill, Env.get_drop, h]

/- Stuck places: a thing that must be found. -/
/-- Something is there, and of it this. -/
def Get {α : Type} (o : Option α) (K : α → Prop) : Prop := ∃ v, o = some v ∧ K v

@[congr] theorem Get_congr {α : Type} {o o' : Option α} (h : o = o') (K : α → Prop) : Get o K = Get o' K := by rw [h]
theorem Get_some {α : Type} (v : α) (K : α → Prop) : Get (some v) K = K v := propext ⟨fun ⟨_, h, k⟩ => by injection h with h; subst h; exact k, fun k => ⟨v, rfl, k⟩⟩
theorem Get_none {α : Type} (K : α → Prop) : Get (none : Option α) K = False := propext ⟨fun ⟨_, h, _⟩ => by simp at h, False.elim⟩
theorem Get.mk {α : Type} {o : Option α} {v : α} {K : α → Prop} (h : o = some v) (k : K v) : Get o K := ⟨v, h, k⟩

/-- A call. -/
def CallW (tb : Tbl) (f : Nat) (l : List AVal) (h : Heap) (K : AVal → Heap → Prop) : Prop :=
  Fresh h → ∃ v h', Cl tb f l h v h' ∧ Fresh h' ∧ v.plain = true ∧ K v h'

@[congr] theorem CallW_congr {tb : Tbl} {f f' : Nat} {l l' : List AVal} {h h' : Heap} (K : AVal → Heap → Prop) (h1 : f = f') (h2 : l = l') (h3 : h = h') : CallW tb f l h K = CallW tb f' l' h' K := by rw [h1, h2, h3]

theorem CallW.mono {tb : Tbl} {f : Nat} {l : List AVal} {h : Heap} {K K' : AVal → Heap → Prop} (hc : CallW tb f l h K) (hk : ∀ v h', Fresh h' → K v h' → K' v h') : CallW tb f l h K' := fun hf => by
  obtain ⟨v, h', h1, h2, h3, h4⟩ := hc hf
  exact ⟨v, h', h1, h2, h3, hk v h' h2 h4⟩

/-- Just this comes of it. -/
def Is (v : AVal) (h : Heap) : AVal → Heap → Prop := fun v' h' => v' = v ∧ h' = h

theorem CallW.to {tb : Tbl} {f : Nat} {l : List AVal} {h : Heap} {v : AVal} {h1 : Heap} {K : AVal → Heap → Prop} (hc : CallW tb f l h (Is v h1)) (hk : K v h1) : CallW tb f l h K :=
  hc.mono fun _ _ _ ⟨a, b⟩ => by rw [a, b]; exact hk
end Ab

/- What must hold ahead of one instruction, that a thing hold behind it: in a form that 'simp' can reckon out. -/
set_option linter.unusedVariables false
set_option linter.unusedSimpArgs false
namespace Ab
open Go

abbrev KI := Env → Al → Heap → List Nat → List Nat → Prop

def bxl : Option (Nat × AVal) → List Nat
  | some (t, _) => [t]
  | none => []

/-- What is asked of one simple instruction. -/
def Sem1 (i : Ins) (d : Option Nat) (l : Env) (al : Al) (h : Heap) (K : KI) : Prop :=
  ∃ u h', i.sem l.get al.get h.get al.free h.next d = some u ∧ h.has (i.acc l.get) = true ∧ (u.v.plain || i.mkB) = true ∧ h.outs u = some h' ∧ Fresh h' ∧
    K ((l.insO d u.v).insB u.bx) (alD al d u.al) h' (u.puts.map (·.1)) (bxl u.bx)

def binW (op : BinOp) (e : ETy) (x y : AVal) (K : AVal → Prop) : Prop :=
  match x, y with
  | .int k a, .int k' b =>
    match op with
    | .add => k = k' ∧ K (.int k (k.wrap (a + b)))
    | .sub => k = k' ∧ K (.int k (k.wrap (a - b)))
    | .mul => k = k' ∧ K (.int k (k.wrap (a * b)))
    | .quo => (k = k' ∧ b ≠ 0) ∧ K (.int k (k.wrap (a.tdiv b)))
    | .rem => (k = k' ∧ b ≠ 0) ∧ K (.int k (a.tmod b))
    | .eql => k = k' ∧ K (.bool (decide (a = b)))
    | .neq => k = k' ∧ K (.bool (decide (a ≠ b)))
    | .lss => k = k' ∧ K (.bool (decide (a < b)))
    | .leq => k = k' ∧ K (.bool (decide (a ≤ b)))
    | .gtr => k = k' ∧ K (.bool (decide (b < a)))
    | .geq => k = k' ∧ K (.bool (decide (b ≤ a)))
    | op => Get (binv op e (.int k a) (.int k' b)) K
  | .str a, .str b =>
    match op with
    | .add => a.length + b.length ≤ 4611686018427387904 ∧ K (.str (a ++ b))
    | .eql => K (.bool (decide (a = b)))
    | .neq => K (.bool (!decide (a = b)))
    | op => Get (strOp op a b) K
  | x, y => Get (binv op e x y) K

theorem binW_sound {op : BinOp} {e : ETy} {x y : AVal} {K : AVal → Prop} (h : binW op e x y K) : ∃ v, binv op e x y = some v ∧ K v := by
  unfold binW at h
  split at h
  · rename_i k a k' b
    split at h
    case h_12 => exact h
    case h_4 => obtain ⟨⟨h1, h0⟩, h2⟩ := h; subst h1; exact ⟨_, by simp [binv, intOp, h0], h2⟩
    case h_5 => obtain ⟨⟨h1, h0⟩, h2⟩ := h; subst h1; exact ⟨_, by simp [binv, intOp, h0], h2⟩
    all_goals (obtain ⟨rfl, h2⟩ := h; refine ⟨_, ?_, h2⟩; simp [binv, intOp]; try rfl)
  · rename_i a b
    split at h
    case h_4 => exact h
    · exact ⟨_, by simp [binv, strOp, h.1], h.2⟩
    · exact ⟨_, by simp [binv, strOp], h⟩
    · exact ⟨_, by simp [binv, strOp], h⟩
  · exact h

theorem intOp_plain {op : BinOp} {k : IntKind} {a b : Int} {v : AVal} (h : intOp op k a b = some v) : v.plain = true := by
  unfold intOp at h
  split at h
  all_goals first
    | (simp at h; subst h; rfl)
    | (split at h <;> simp at h; subst h; rfl)
    | (unfold bits at h; simp only [] at h; split at h <;> simp at h <;> subst h <;> rfl)

theorem binv_plain {op : BinOp} {e : ETy} {x y v : AVal} (h : binv op e x y = some v) : v.plain = true := by
  unfold binv at h
  split at h
  · split at h
    · exact intOp_plain h
    · simp at h
  · unfold strOp at h
    split at h
    all_goals first
      | (simp at h; done)
      | (simp at h; subst h; rfl)
      | (split at h <;> simp at h; subst h; rfl)
  · split at h
    · simp only [Option.map_eq_some_iff] at h; obtain ⟨_, _, rfl⟩ := h; rfl
    · simp only [Option.map_eq_some_iff] at h; obtain ⟨_, _, rfl⟩ := h; rfl
    · simp at h

theorem unv_plain {op : UnOp} {x v : AVal} (h : unv op x = some v) : v.plain = true := by
  unfold unv at h
  split at h <;> simp at h <;> subst h <;> rfl

def mapOf (g : Nat → Option Row) : AVal → Option (List (AVal × AVal))
  | .nilm => some []
  | .map r => match g r with | some (.map es) => some es | _ => none
  | _ => none

def rowMap : Row → Option (List (AVal × AVal))
  | .map es => some es
  | _ => none

def rowC : Row → Option (Nat × Bool × List AVal)
  | .cells et hd cs => some (et, hd, cs)
  | _ => none

/- What comes behind: each by a name, that 'simp' never looks into what is not yet reached. -/
def setV (d : Option Nat) (l : Env) (al : Al) (h : Heap) (K : KI) (v : AVal) : Prop := K (l.insO d v) (alD al d none) h [] []
def valV (d : Option Nat) (l : Env) (al : Al) (h : Heap) (K : KI) (v : AVal) : Prop := v.plain = true ∧ K (l.insO d v) (alD al d none) h [] []
def newV (d : Option Nat) (l : Env) (al : Al) (h : Heap) (K : KI) (v : AVal) (x : Row) : Prop := K (l.insO d v) (alD al d none) (h.new x) [] []
def ldCs (off n : Nat) (ag : Bool) (J : AVal → Prop) (cs : List AVal) : Prop := Get (part cs off n ag) J
def ldRow (off n : Nat) (ag : Bool) (J : AVal → Prop) (row : Row) : Prop := Get (rowCells row) (ldCs off n ag J)
def stC (d : Option Nat) (l : Env) (al : Al) (h : Heap) (K : KI) (r off n : Nat) (vs : List AVal) (c : Nat × Bool × List AVal) : Prop :=
  off + n ≤ c.2.2.length ∧ K (l.insO d (.tup [])) (alD al d none) (h.put r (.cells c.1 c.2.1 (splice c.2.2 off vs))) [r] []
def stRow (d : Option Nat) (l : Env) (al : Al) (h : Heap) (K : KI) (r off n : Nat) (vs : List AVal) (row : Row) : Prop := Get (rowC row) (stC d l al h K r off n vs)
def u8V (J : AVal → Prop) (b : Nat) : Prop := J (.int .u8 b)
def aggV (J : AVal → Prop) (cs : List AVal) : Prop := J (.agg cs)
def strV (J : AVal → Prop) (s : Bs) : Prop := J (.str s)
def fnV (J : AVal → Prop) (f : Nat) (vs : List AVal) : Prop := J (.fn f vs)
def bsV (d : Option Nat) (l : Env) (al : Al) (h : Heap) (K : KI) (et esz ln : Nat) (cs : List AVal) : Prop :=
  (allSc cs = true ∧ cs.length = ln * esz) ∧ newV d l al h K (.slc h.next 0 ln esz) (.cells et true cs)
def strOfRow (h : Heap) (r off ln : Nat) : Option Bs :=
  match h.get r with
  | some row => match rowCells row with | some cs => if off + ln ≤ cs.length then bytesOf ((cs.drop off).take ln) else none | none => none
  | none => none
def sStrB (J : AVal → Prop) (s : Bs) (a b : Nat) : Prop := (a ≤ b ∧ b ≤ s.length) ∧ J (.str (cut s a b))
def sStrA (ev : Nat → AVal) (hi : Option Opd) (J : AVal → Prop) (s : Bs) (a : Nat) : Prop := Get (bound ev s.length hi) (sStrB J s a)
def sSlcB (J : AVal → Prop) (n r off ln k a b : Nat) : Prop := (k = n ∧ a ≤ b ∧ b ≤ ln) ∧ J (.slc r (off + a * n) (b - a) n)
def sSlcA (ev : Nat → AVal) (hi : Option Opd) (J : AVal → Prop) (n r off ln k a : Nat) : Prop := Get (bound ev ln hi) (sSlcB J n r off ln k a)
def sNilB (J : AVal → Prop) (a b : Nat) : Prop := (a = 0 ∧ b = 0) ∧ J .nils
def sNilA (ev : Nat → AVal) (hi : Option Opd) (J : AVal → Prop) (a : Nat) : Prop := Get (bound ev 0 hi) (sNilB J a)
def lkB (J : AVal → Prop) (z : AVal) (ok : Bool) : Option AVal → Prop
  | none => if ok then J (.tup [z, .bool false]) else z.plain = true ∧ J z
  | some v => if ok then J (.tup [v, .bool true]) else v.plain = true ∧ J v
def lkA (J : AVal → Prop) (e : ETy) (k z : AVal) (ok : Bool) (es : List (AVal × AVal)) : Prop := (eqv e k k).isSome = true ∧ Get (find e k es) (lkB J z ok)
def muB (d : Option Nat) (l : Env) (al : Al) (h : Heap) (K : KI) (r : Nat) (es : List (AVal × AVal)) : Prop := K (l.insO d (.tup [])) (alD al d none) (h.put r (.map es)) [r] []
def muA (d : Option Nat) (l : Env) (al : Al) (h : Heap) (K : KI) (r : Nat) (e : ETy) (k v : AVal) (es : List (AVal × AVal)) : Prop := (v.plain = true ∧ (eqv e k k).isSome = true) ∧ Get (ups e k v es) (muB d l al h K r)
def muRow (d : Option Nat) (l : Env) (al : Al) (h : Heap) (K : KI) (r : Nat) (e : ETy) (k v : AVal) (row : Row) : Prop := Get (rowMap row) (muA d l al h K r e k v)
def lenV (J : AVal → Prop) (es : List (AVal × AVal)) : Prop := J (.int .i64 es.length)
def lenRow (J : AVal → Prop) (row : Row) : Prop := Get (rowMap row) (lenV J)
def apC (d : Option Nat) (l : Env) (al : Al) (h : Heap) (K : KI) (et esz bytes r off ln k n : Nat) (new : List AVal) (c : Nat × Bool × List AVal) : Prop :=
  (c.1 = et ∧ k = esz ∧ off + ln * esz ≤ c.2.2.length ∧ ln + n ≤ 1073741824 ∧ bytes ≤ 4096 ∧ allSc new = true) ∧
  K (l.insO d (.slc h.next 0 (ln + n) esz)) (alD al d none) ((h.put r .dead).new (.cells et (c.2.1 && off == 0) ((c.2.2.drop off).take (ln * esz) ++ new))) [r] []
def apRow (d : Option Nat) (l : Env) (al : Al) (h : Heap) (K : KI) (et esz bytes r off ln k n : Nat) (new : List AVal) (row : Row) : Prop := Get (rowC row) (apC d l al h K et esz bytes r off ln k n new)
def apV (d : Option Nat) (l : Env) (al : Al) (h : Heap) (K : KI) (et esz bytes n : Nat) (s : AVal) (new : List AVal) : Prop :=
  match s with
  | .nils => (n = 0 → setV d l al h K .nils) ∧ (n ≠ 0 → (n ≤ 1073741824 ∧ bytes ≤ 4096 ∧ allSc new = true) ∧ newV d l al h K (.slc h.next 0 n esz) (.cells et true new))
  | .slc r off ln k => (n = 0 → setV d l al h K (.slc r off ln k)) ∧ (n ≠ 0 → Get (h.get r) (apRow d l al h K et esz bytes r off ln k n new))
  | _ => False
def pkB (v : AVal) (c : Bool) (t : Bool) (d : Option Nat) (l : Env) (al : Al) (h : Heap) (K : KI) : Prop := t = c → valV d l al h K v

/-- What must hold ahead of an instruction. -/
def insW (i : Ins) (d : Option Nat) (l : Env) (al : Al) (h : Heap) (K : KI) : Prop :=
  match i with
  | .mv x => valV d l al h K (opd l.get x)
  | .pick c a b =>
    match opd l.get c with
    | .bool t => pkB (opd l.get a) true t d l al h K ∧ pkB (opd l.get b) false t d l al h K
    | _ => False
  | .allocB z => match d with | some t => (al.free t = true ∧ allSc z = true) ∧ K (l.ins t (.box z)) (alD al d none) h [] [] | none => False
  | .boxB n x => match d with | some t => (al.free t = true ∧ (opd l.get x).cells.length = n ∧ allSc (opd l.get x).cells = true) ∧ K (l.ins t (.box (opd l.get x).cells)) (alD al d none) h [] [] | none => False
  | .allocH et z => allSc z = true ∧ newV d l al h K (.ptr h.next 0) (.cells et true z)
  | .boxH et n x => ((opd l.get x).cells.length = n ∧ allSc (opd l.get x).cells = true) ∧ newV d l al h K (.ptr h.next 0) (.cells et true (opd l.get x).cells)
  | .load p n ag =>
    match addr l.get al.get p with
    | some (.box t off) => (match l.get t with | .box cs => Get (part cs off n ag) (valV d l al h K) | _ => False)
    | some (.row r off) => Get (h.get r) (ldRow off n ag (valV d l al h K))
    | none => False
  | .store p n x =>
    ((opd l.get x).cells.length = n ∧ allSc (opd l.get x).cells = true) ∧
    match addr l.get al.get p with
    | some (.box t off) => (match l.get t with | .box cs => off + n ≤ cs.length ∧ K ((l.insO d (.tup [])).ins t (.box (splice cs off (opd l.get x).cells))) (alD al d none) h [] [t] | _ => False)
    | some (.row r off) => Get (h.get r) (stRow d l al h K r off n (opd l.get x).cells)
    | none => False
  | .fieldAddr p off =>
    match addr l.get al.get p with
    | some (.box t o) => K (l.insO d .opq) (alD al d (some (t, o + off))) h [] []
    | some (.row r o) => setV d l al h K (.ptr r (o + off))
    | none => False
  | .field x off n ag =>
    match opd l.get x with
    | .agg cs => Get (part cs off n ag) (valV d l al h K)
    | _ => False
  | .indexAddr x i esz =>
    match opd l.get x, opd l.get i with
    | .slc r off ln k, .int _ n => (k = esz ∧ 0 ≤ n ∧ n < ln) ∧ setV d l al h K (.ptr r (off + n.toNat * esz))
    | _, _ => False
  | .idxStr x i =>
    match opd l.get x, opd l.get i with
    | .str s, .int _ n => 0 ≤ n ∧ Get (s[n.toNat]?) (u8V (setV d l al h K))
    | _, _ => False
  | .build z ps => Get (fills l.get z ps) (aggV (setV d l al h K))
  | .buildSlice et esz ln z ps => Get (fills l.get (rep ln z) ps) (bsV d l al h K et esz ln)
  | .nilCheck x =>
    match opd l.get x with
    | .ptr r o => setV d l al h K (.ptr r o)
    | .fn f cs => setV d l al h K (.fn f cs)
    | _ => False
  | .bin op e x y =>
    h.has ((Ins.bin op e x y).acc l.get) = true ∧
    match ptrEq h.get e (opd l.get x) (opd l.get y) with
    | some b => (match op with | .eql => setV d l al h K (.bool b) | .neq => setV d l al h K (.bool !b) | _ => False)
    | none => binW op e (opd l.get x) (opd l.get y) (setV d l al h K)
  | .un op x => Get (unv op (opd l.get x)) (setV d l al h K)
  | .conv c x =>
    match c, opd l.get x with
    | .int k, .int _ n => setV d l al h K (.int k (k.wrap n))
    | .same, .str s => setV d l al h K (.str s)
    | .isNil b, .nili => setV d l al h K (.bool b)
    | .toStr, .nils => setV d l al h K (.str [])
    | .toStr, .slc r off ln 1 => Get (strOfRow h r off ln) (strV (setV d l al h K))
    | _, _ => Sem1 i d l al h K
  | .mkfn f caps => Get (vals l.get caps) (fnV (setV d l al h K) f)
  | .mkmap => newV d l al h K (.map h.next) (.map [])
  | .toBytes x =>
    match opd l.get x with
    | .str s => newV d l al h K (.slc h.next 0 s.length 1) (.fix (s.map fun (n : Nat) => AVal.int .u8 (Int.ofNat n)))
    | _ => False
  | .mkslice et esz bytes z lo c =>
    match opd l.get lo, opd l.get c with
    | .int _ a, .int _ b => (0 ≤ a ∧ a ≤ b ∧ b ≤ 1073741824 ∧ bytes ≤ 4096 ∧ z.length = esz ∧ allSc z = true) ∧ newV d l al h K (.slc h.next 0 a.toNat esz) (.cells et true (rep b.toNat z))
    | _, _ => False
  | .slice x lo hi esz =>
    match esz, opd l.get x with
    | none, .str s => Get (bound l.get 0 lo) (sStrA l.get hi (setV d l al h K) s)
    | some n, .slc r off ln k => Get (bound l.get 0 lo) (sSlcA l.get hi (setV d l al h K) n r off ln k)
    | some n, .nils => Get (bound l.get 0 lo) (sNilA l.get hi (setV d l al h K))
    | _, _ => False
  | .lookup m k e z ok =>
    h.has ((Ins.lookup m k e z ok).acc l.get) = true ∧ Get (mapOf h.get (opd l.get m)) (lkA (setV d l al h K) e (opd l.get k) z ok)
  | .mapup m k v e =>
    match opd l.get m with
    | .map r => Get (h.get r) (muRow d l al h K r e (opd l.get k) (opd l.get v))
    | _ => False
  | .extract x i =>
    match opd l.get x with
    | .tup vs => Get vs[i]? (valV d l al h K)
    | _ => False
  | .len k x =>
    match k, opd l.get x with
    | 0, .str s => setV d l al h K (.int .i64 s.length)
    | 1, .slc _ _ ln _ => setV d l al h K (.int .i64 ln)
    | 1, .nils => setV d l al h K (.int .i64 0)
    | 2, .nilm => setV d l al h K (.int .i64 0)
    | 2, .map r => Get (h.get r) (lenRow (setV d l al h K))
    | _, _ => False
  | .append s x et esz bytes =>
    h.has ((Ins.append s x et esz bytes).acc l.get) = true ∧ Get (srcCells h.get esz (opd l.get x)) (apV d l al h K et esz bytes (srcLen (opd l.get x)) (opd l.get s))
  | .uData x =>
    match opd l.get x with
    | .nils => setV d l al h K .nilp
    | .slc r off ln _ => 0 < ln ∧ setV d l al h K (.ptr r off)
    | _ => False
  | .mm isMax x y =>
    match opd l.get x, opd l.get y with
    | .int k a, .int k' b => k = k' ∧ setV d l al h K (.int k (if isMax then (if b > a then b else a) else (if b < a then b else a)))
    | _, _ => False
  | .uStr p n et => Sem1 i d l al h K
  | .call _ _ => False

theorem has_nil (h : Heap) : h.has [] = true := rfl
theorem has_one {h : Heap} {r : Nat} {x : Row} (hr : h.get r = some x) : h.has [r] = true := by simp [Heap.has, hr]

theorem Sem1.val {i : Ins} {d : Option Nat} {l : Env} {al : Al} {h : Heap} {K : KI} (hf : Fresh h) {v : AVal} (h1 : i.sem l.get al.get h.get al.free h.next d = some { v := v }) (h2 : h.has (i.acc l.get) = true) (h3 : (v.plain || i.mkB) = true) (hk : K (l.insO d v) (alD al d none) h [] []) : Sem1 i d l al h K :=
  ⟨{ v := v }, h, h1, h2, h3, rfl, hf, hk⟩

theorem Sem1.mk {i : Ins} {d : Option Nat} {l : Env} {al : Al} {h : Heap} {K : KI} (hf : Fresh h) {v : AVal} {x : Row} (h1 : i.sem l.get al.get h.get al.free h.next d = some { v := v, new := some x }) (h2 : h.has (i.acc l.get) = true) (h3 : v.plain = true) (hk : K (l.insO d v) (alD al d none) (h.new x) [] []) : Sem1 i d l al h K :=
  ⟨{ v := v, new := some x }, h.new x, h1, h2, by simp [h3], by simp [Heap.outs, hf.free h.next (Nat.le_refl _), Heap.puts], hf.new x, hk⟩

theorem Sem1.wr {i : Ins} {d : Option Nat} {l : Env} {al : Al} {h : Heap} {K : KI} (hf : Fresh h) {v : AVal} {r : Nat} {x : Row} (hr : h.get r ≠ none) (h1 : i.sem l.get al.get h.get al.free h.next d = some { v := v, puts := [(r, x)] }) (h2 : h.has (i.acc l.get) = true) (h3 : v.plain = true) (hk : K (l.insO d v) (alD al d none) (h.put r x) [r] []) : Sem1 i d l al h K :=
  ⟨{ v := v, puts := [(r, x)] }, h.put r x, h1, h2, by simp [h3], by simp [Heap.outs, Heap.puts], hf.put hr x, hk⟩

theorem addr_opd {ev : Nat → AVal} {al : Nat → Option (Nat × Nat)} {p : Opd} {r off : Nat} (h : addr ev al p = some (.row r off)) : opd ev p = .ptr r off := addr_row' h
theorem addr_boxed {ev : Nat → AVal} {al : Nat → Option (Nat × Nat)} {p : Opd} {t off : Nat} (h : addr ev al p = some (.box t off)) : ∀ r o, opd ev p ≠ .ptr r o := by
  unfold addr at h
  split at h
  · simp at h
  · rename_i n
    intro r o hr
    simp only [opd] at hr
    rw [hr] at h
    simp at h

set_option maxHeartbeats 1000000 in
theorem insW_sound {i : Ins} {d : Option Nat} {l : Env} {al : Al} {h : Heap} {K : KI} (hf : Fresh h) (hw : insW i d l al h K) : Sem1 i d l al h K := by
  cases i with
  | mv x =>
    obtain ⟨h1, h2⟩ := hw
    exact .val hf (by simp [Ins.sem, h1]) rfl (by simp [h1]) h2
  | pick c a b =>
    simp only [insW] at hw
    split at hw
    · rename_i t ht
      cases t with
      | true =>
        obtain ⟨h1, h2⟩ := hw.1 rfl
        exact .val hf (by simp [Ins.sem, ht, h1]) rfl (by simp [h1]) h2
      | false =>
        obtain ⟨h1, h2⟩ := hw.2 rfl
        exact .val hf (by simp [Ins.sem, ht, h1]) rfl (by simp [h1]) h2
    · exact hw.elim
  | allocB z =>
    cases d with
    | none => exact hw.elim
    | some t =>
      obtain ⟨h1, h2⟩ := hw
      exact .val hf (by simp [Ins.sem, h1]) rfl rfl h2
  | boxB n x =>
    cases d with
    | none => exact hw.elim
    | some t =>
      obtain ⟨h1, h2⟩ := hw
      exact .val hf (by simp [Ins.sem, h1]) rfl rfl h2
  | allocH et z => exact .mk hf (by simp [Ins.sem, hw.1]) rfl rfl hw.2
  | boxH et n x => exact .mk hf (by simp [Ins.sem, hw.1]) rfl rfl hw.2
  | load p n ag =>
    simp only [insW] at hw
    split at hw
    · rename_i t off ha
      split at hw
      · rename_i cs hcs
        obtain ⟨v, h1, h2, h3⟩ := hw
        refine .val hf (v := v) (by simp [Ins.sem, ha, hcs, h1]) ?_ (by simp [h2]) h3
        simp only [Ins.acc]
        split
        · rename_i r o hr; exact (addr_boxed ha _ _ hr).elim
        · rfl
      · exact hw.elim
    · rename_i r off ha
      obtain ⟨row, h0, cs, h1, v, h2, h3, h4⟩ := hw
      exact .val hf (v := v) (by simp [Ins.sem, ha, h0, h1, h2]) (by simp only [Ins.acc, addr_opd ha]; exact has_one h0) (by simp [h3]) h4
    · exact hw.elim
  | store p n x =>
    simp only [insW] at hw
    obtain ⟨hc, hw⟩ := hw
    split at hw
    · rename_i t off ha
      split at hw
      · rename_i cs hcs
        refine ⟨{ v := .tup [], bx := some (t, .box (splice cs off (opd l.get x).cells)) }, h, ?_, ?_, rfl, rfl, hf, hw.2⟩
        · simp [Ins.sem, hc, ha, hcs, hw.1]
        · simp only [Ins.acc]
          split
          · rename_i r o hr; exact (addr_boxed ha _ _ hr).elim
          · rfl
      · exact hw.elim
    · rename_i r off ha
      obtain ⟨row, h0, c, h1, h2, h3⟩ := hw
      cases row <;> simp only [rowC, Option.some.injEq] at h1 <;> first | (simp at h1; done) | skip
      subst h1
      refine .wr hf (by rw [h0]; simp) (by simp [Ins.sem, hc, ha, h0]; exact h2) (by simp only [Ins.acc, addr_opd ha]; exact has_one h0) rfl h3
    · exact hw.elim
  | fieldAddr p off =>
    simp only [insW] at hw
    split at hw
    · rename_i t o ha
      exact ⟨{ v := .opq, al := some (t, o + off) }, h, by simp [Ins.sem, ha], rfl, rfl, rfl, hf, hw⟩
    · rename_i r o ha
      exact .val hf (by simp [Ins.sem, ha]) rfl rfl hw
    · exact hw.elim
  | field x off n ag =>
    simp only [insW] at hw
    split at hw
    · rename_i cs hcs
      obtain ⟨v, h1, h2, h3⟩ := hw
      exact .val hf (v := v) (by simp [Ins.sem, hcs, h1]) rfl (by simp [h2]) h3
    · exact hw.elim
  | indexAddr x i esz =>
    simp only [insW] at hw
    split at hw
    · rename_i r off ln k kk n h1 h2
      exact .val hf (by simp [Ins.sem, h1, h2, hw.1]) rfl rfl hw.2
    · exact hw.elim
  | idxStr x i =>
    simp only [insW] at hw
    split at hw
    · rename_i s kk n h1 h2
      obtain ⟨h3, b, h4, h5⟩ := hw
      exact .val hf (v := .int .u8 b) (by simp [Ins.sem, h1, h2, h3, h4]) rfl rfl h5
    · exact hw.elim
  | build z ps =>
    obtain ⟨cs, h1, h2⟩ := hw
    exact .val hf (v := .agg cs) (by simp [Ins.sem, h1]) rfl rfl h2
  | buildSlice et esz ln z ps =>
    obtain ⟨cs, h1, h2, h3⟩ := hw
    exact .mk hf (v := .slc h.next 0 ln esz) (by simp only [Ins.sem, h1]; rw [if_pos h2]) rfl rfl h3
  | nilCheck x =>
    simp only [insW] at hw
    split at hw
    · rename_i r o hx; exact .val hf (by simp [Ins.sem, hx]) rfl rfl hw
    · rename_i f cs hx; exact .val hf (by simp [Ins.sem, hx]) rfl rfl hw
    · exact hw.elim
  | bin op e x y =>
    simp only [insW] at hw
    obtain ⟨h0, hw⟩ := hw
    split at hw
    · rename_i b hb
      split at hw
      · exact .val hf (by simp [Ins.sem, hb]) h0 rfl hw
      · exact .val hf (by simp [Ins.sem, hb]) h0 rfl hw
      · exact hw.elim
    · rename_i hb
      obtain ⟨v, h1, h2⟩ := binW_sound hw
      exact .val hf (v := v) (by simp [Ins.sem, hb, h1]) h0 (by simp [binv_plain h1]) h2
  | un op x =>
    obtain ⟨v, h1, h2⟩ := hw
    exact .val hf (v := v) (by simp [Ins.sem, h1]) rfl (by simp [unv_plain h1]) h2
  | conv c x =>
    simp only [insW] at hw
    split at hw
    · rename_i k kk n hx; exact .val hf (by simp [Ins.sem, hx]) rfl rfl hw
    · rename_i s hx; exact .val hf (by simp [Ins.sem, hx]) rfl rfl hw
    · rename_i b hx; exact .val hf (by simp [Ins.sem, hx]) rfl rfl hw
    · rename_i hx; exact .val hf (by simp [Ins.sem, hx]) (by simp [Ins.acc, hx]; rfl) rfl hw
    · rename_i r off ln hx
      obtain ⟨s, h1, h4⟩ := hw
      unfold strOfRow at h1
      cases h0 : h.get r with
      | none => rw [h0] at h1; simp at h1
      | some row =>
        rw [h0] at h1
        simp only [] at h1
        exact .val hf (v := .str s) (by
          simp only [Ins.sem, hx, h0]
          cases hc : rowCells row with
          | none => rw [hc] at h1; simp at h1
          | some cs =>
            rw [hc] at h1
            simp only [] at h1 ⊢
            split at h1
            · rename_i hle; rw [if_pos hle, h1]
            · simp at h1) (by simp only [Ins.acc, hx]; exact has_one h0) rfl h4
    · exact hw
  | mkfn f caps =>
    obtain ⟨vs, h1, h2⟩ := hw
    exact .val hf (v := .fn f vs) (by simp [Ins.sem, h1]) rfl rfl h2
  | mkmap => exact .mk hf (by simp [Ins.sem]) rfl rfl hw
  | toBytes x =>
    simp only [insW] at hw
    split at hw
    · rename_i s hx; exact .mk hf (by simp [Ins.sem, hx]) rfl rfl hw
    · exact hw.elim
  | mkslice et esz bytes z lo c =>
    simp only [insW] at hw
    split at hw
    · rename_i k a k' b h1 h2
      exact .mk hf (v := .slc h.next 0 a.toNat esz) (by simp only [Ins.sem, h1, h2]; rw [if_pos hw.1]) rfl rfl hw.2
    · exact hw.elim
  | slice x lo hi esz =>
    simp only [insW] at hw
    split at hw
    · rename_i s hx
      obtain ⟨a, h1, b, h2, h3, h4⟩ := hw
      exact .val hf (v := .str (cut s a b)) (by simp [Ins.sem, hx, h1, h2, h3]) rfl rfl h4
    · rename_i n r off ln k hx
      obtain ⟨a, h1, b, h2, h3, h4⟩ := hw
      exact .val hf (v := .slc r (off + a * n) (b - a) n) (by simp [Ins.sem, hx, h1, h2, h3]) rfl rfl h4
    · rename_i n hx
      obtain ⟨a, h1, b, h2, ⟨h5, h6⟩, h4⟩ := hw
      subst h5; subst h6
      exact .val hf (v := .nils) (by simp [Ins.sem, hx, h1, h2]) rfl rfl h4
    · exact hw.elim
  | lookup m k e z ok =>
    simp only [insW] at hw
    obtain ⟨h0, es, h1, h2, r, h3, h4⟩ := hw
    have hm : ∀ {α : Type} (a : α) (f : List (AVal × AVal) → α), (match (match opd l.get m with | .nilm => some [] | .map r => (match h.get r with | some (.map es) => some es | _ => none) | _ => none : Option (List (AVal × AVal))) with | none => a | some es => f es) = f es := by
      intro α a f
      unfold mapOf at h1
      rw [h1]
    cases r with
    | none =>
      cases ok with
      | true => exact .val hf (v := .tup [z, .bool false]) (by simp only [Ins.sem]; refine (hm _ _).trans ?_; simp [h2, h3]) h0 rfl (by simpa [lkB, setV] using h4)
      | false =>
        simp [lkB, setV] at h4
        exact .val hf (v := z) (by simp only [Ins.sem]; refine (hm _ _).trans ?_; simp [h2, h3]) h0 (by simp [h4.1]) h4.2
    | some v =>
      cases ok with
      | true => exact .val hf (v := .tup [v, .bool true]) (by simp only [Ins.sem]; refine (hm _ _).trans ?_; simp [h2, h3]) h0 rfl (by simpa [lkB, setV] using h4)
      | false =>
        simp [lkB, setV] at h4
        exact .val hf (v := v) (by simp only [Ins.sem]; refine (hm _ _).trans ?_; simp [h2, h3]) h0 (by simp [h4.1]) h4.2
  | mapup m k v e =>
    simp only [insW] at hw
    split at hw
    · rename_i r hm
      obtain ⟨row, h0, es, h1, h2, es', h3, h4⟩ := hw
      cases row <;> simp only [rowMap, Option.some.injEq] at h1 <;> first | (simp at h1; done) | skip
      subst h1
      exact .wr hf (by rw [h0]; simp) (v := .tup []) (by simp [Ins.sem, hm, h0, h2, h3]) (by simp only [Ins.acc, hm]; exact has_one h0) rfl h4
    · exact hw.elim
  | extract x i =>
    simp only [insW] at hw
    split at hw
    · rename_i vs hx
      obtain ⟨v, h1, h2, h3⟩ := hw
      exact .val hf (v := v) (by simp [Ins.sem, hx, h1, h2]) rfl (by simp [h2]) h3
    · exact hw.elim
  | len k x =>
    simp only [insW] at hw
    split at hw
    · rename_i s hx; exact .val hf (by simp [Ins.sem, hx]) (by simp [Ins.acc, hx]; rfl) rfl hw
    · rename_i r off ln z hx; exact .val hf (by simp [Ins.sem, hx]) (by simp [Ins.acc, hx]; rfl) rfl hw
    · rename_i hx; exact .val hf (by simp [Ins.sem, hx]) (by simp [Ins.acc, hx]; rfl) rfl hw
    · rename_i hx; exact .val hf (by simp [Ins.sem, hx]) (by simp [Ins.acc, hx]; rfl) rfl hw
    · rename_i r hx
      obtain ⟨row, h0, es, h1, h2⟩ := hw
      cases row <;> simp only [rowMap, Option.some.injEq] at h1 <;> first | (simp at h1; done) | skip
      subst h1
      exact .val hf (by simp [Ins.sem, hx, h0]) (by simp only [Ins.acc, hx]; exact has_one h0) rfl h2
    · exact hw.elim
  | append s x et esz bytes =>
    simp only [insW] at hw
    obtain ⟨h0, new, h1, hw⟩ := hw
    unfold apV at hw
    split at hw
    · rename_i hs
      by_cases hn : srcLen (opd l.get x) = 0
      · exact .val hf (v := .nils) (by simp [Ins.sem, h1, hs, hn]) h0 rfl (hw.1 hn)
      · exact .mk hf (v := .slc h.next 0 (srcLen (opd l.get x)) esz) (by simp only [Ins.sem, h1, hs]; rw [if_neg hn, if_pos (hw.2 hn).1]) h0 rfl (hw.2 hn).2
    · rename_i r off ln k hs
      by_cases hn : srcLen (opd l.get x) = 0
      · exact .val hf (v := .slc r off ln k) (by simp [Ins.sem, h1, hs, hn]) h0 rfl (hw.1 hn)
      · obtain ⟨row, h2, c, h3, h4, h5⟩ := hw.2 hn
        cases row <;> simp only [rowC, Option.some.injEq] at h3 <;> first | (simp at h3; done) | skip
        subst h3
        rename_i e0 hd cs
        refine ⟨{ v := .slc h.next 0 (ln + srcLen (opd l.get x)) esz, puts := [(r, .dead)], new := some (.cells et (hd && off == 0) ((cs.drop off).take (ln * esz) ++ new)) }, _, ?_, h0, rfl, ?_, (hf.put (by rw [h2]; simp) .dead).new _, h5⟩
        · simp only [Ins.sem, h1, hs, h2]
          rw [if_neg hn, if_pos h4]
        · simp [Heap.outs, hf.free h.next (Nat.le_refl _), Heap.puts]
    · exact hw.elim
  | uData x =>
    simp only [insW] at hw
    split at hw
    · rename_i hx; exact .val hf (by simp [Ins.sem, hx]) rfl rfl hw
    · rename_i r off ln k hx; exact .val hf (by simp [Ins.sem, hx, hw.1]) rfl rfl hw.2
    · exact hw.elim
  | mm isMax x y =>
    simp only [insW] at hw
    split at hw
    · rename_i k a k' b h1 h2
      exact .val hf (by simp [Ins.sem, h1, h2, hw.1]) rfl rfl hw.2
    · exact hw.elim
  | uStr p n et => exact hw
  | call f args => exact hw.elim
end Ab

/- What must hold ahead of a code, that a thing hold behind it; loops; functions; runs by the kernel. -/
set_option linter.unusedVariables false
set_option linter.unusedSimpArgs false
namespace Ab
open Go

abbrev KO := Env → Al → Heap → Foot → Prop
abbrev KQ := Ex → Env → Heap → Prop

def callV (o : Op) (l : Env) (al : Al) (h : Heap) (K : KO) (v : AVal) (h' : Heap) : Prop := K (l.insO o.d v) (alD al o.d none) h' { sacc := o.reads, chg := some fun r => h'.ver r != h.ver r }
def callA (tb : Tbl) (q : Nat) (caps : List AVal) (h : Heap) (J : AVal → Heap → Prop) (vs : List AVal) : Prop := CallW tb q (vs ++ caps) h J

def callI (tb : Tbl) (o : Op) (f : Opd) (args : List Opd) (l : Env) (al : Al) (h : Heap) (K : KO) : Prop :=
  match opd l.get f with
  | .fn q caps => Get (vals l.get args) (callA tb q caps h (callV o l al h K))
  | _ => False

def simV (o : Op) (i : Ins) (l : Env) (al : Al) (K : KO) (l' : Env) (al' : Al) (h' : Heap) (wr sw : List Nat) : Prop := K l' al' h' { acc := i.acc l.get, wr := wr, sacc := o.reads ++ i.boxes l.get al.get, swr := i.makesBox o.d ++ sw }

def runW (tb : Tbl) (o : Op) (i : Ins) (l : Env) (al : Al) (h : Heap) (K : KO) : Prop :=
  match i with
  | .call f args => callI tb o f args l al h K
  | i => insW i o.d l al h (simV o i l al K)

def grdT (tb : Tbl) (o : Op) (b b' : Bool) (t : Nat) (l : Env) (al : Al) (h : Heap) (K : KO) : Prop := b' = b → runW tb o o.i (l.ins t (.bool b)) al h K
def grdF (o : Op) (b b' : Bool) (t : Nat) (l : Env) (al : Al) (h : Heap) (K : KO) : Prop := b' = (!b) → K ((l.ins t (.bool (!b))).insO o.d (.tup [])) (alD al o.d none) h { sacc := o.reads, swr := o.i.makesBox o.d }

def opW (tb : Tbl) (o : Op) (g : Option (Nat × Bool)) (l : Env) (al : Al) (h : Heap) (K : KO) : Prop :=
  match g with
  | none => runW tb o o.i l al h K
  | some (t, b) =>
    match l.get t with
    | .bool b' => grdT tb o b b' t l al h K ∧ grdF o b b' t l al h K
    | .tup [] => K (l.insO o.d (.tup [])) (alD al o.d none) h { sacc := o.reads, swr := o.i.makesBox o.d }
    | _ => False

mutual
def opsN (tb : Tbl) (ops : List Op) (l : Env) (al : Al) (h : Heap) (K : Env → Heap → Prop) : Prop :=
  match ops with
  | [] => K l h
  | o :: r => opW tb o o.g l al h (opsNK tb r K)
def opsNK (tb : Tbl) (r : List Op) (K : Env → Heap → Prop) (l : Env) (al : Al) (h : Heap) (_f : Foot) : Prop := opsN tb r l al h K
end

def consF (f : Foot) (K : Env → Heap → List Foot → Prop) (l : Env) (h : Heap) (fs : List Foot) : Prop := K l h (f :: fs)
mutual
def opsF (tb : Tbl) (ops : List Op) (l : Env) (al : Al) (h : Heap) (K : Env → Heap → List Foot → Prop) : Prop :=
  match ops with
  | [] => K l h []
  | o :: r => opW tb o o.g l al h (opsFK tb r K)
def opsFK (tb : Tbl) (r : List Op) (K : Env → Heap → List Foot → Prop) (l : Env) (al : Al) (h : Heap) (f : Foot) : Prop := opsF tb r l al h (consF f K)
end

/-- From a state on, a code comes to its end, and this holds there. -/
def Rn (tb : Tbl) (c : Cd) (l : Env) (h : Heap) (Q : KQ) : Prop :=
  ∀ e, e.get = l.get → Fresh h → ∃ n x s' l', exec (callF tb n) n c ⟨e, h⟩ = some (x, s') ∧ s'.e.get = l'.get ∧ Fresh s'.h ∧ Q x l' s'.h

def blkQ (id : Nat) (Q : KQ) : KQ
  | .ex j => fun l h => if j = id then Q .nrm l h else Q (.ex j) l h
  | x => Q x

def killQ (kill : List (Nat × Bool)) (Q : KQ) (l : Env) (h : Heap) : Prop := Q .nrm (l.drop kill) h
def confQ (conf : List (Nat × Nat)) (K : Env → Heap → Prop) (l : Env) (h : Heap) (fs : List Foot) : Prop := apartAll fs conf = true ∧ K l h

def regW (tb : Tbl) (ops : List Op) (conf : List (Nat × Nat)) (l : Env) (h : Heap) (K : Env → Heap → Prop) : Prop :=
  match conf with
  | [] => opsN tb ops l [] h K
  | c :: cs => opsF tb ops l [] h (confQ (c :: cs) K)

mutual
def wpF (tb : Tbl) (c : Cd) (l : Env) (h : Heap) (Q : KQ) : Prop :=
  match c with
  | .skip => Q .nrm l h
  | .reg ops conf kill => regW tb ops conf l h (killQ kill Q)
  | .seq a b => wpF tb a l h (seqQ tb b Q)
  | .cond c a b =>
    match opd l.get c with
    | .bool t => brW tb a true t l h Q ∧ brW tb b false t l h Q
    | _ => False
  | .block id b => wpF tb b l h (blkQ id Q)
  | .loop b => Rn tb (.loop b) l h Q
  | .exit id => Q (.ex id) l h
  | .ret => Q .ret l h
  | .bad => False
def brW (tb : Tbl) (a : Cd) (b t : Bool) (l : Env) (h : Heap) (Q : KQ) : Prop := t = b → wpF tb a l h Q
def seqQ (tb : Tbl) (b : Cd) (Q : KQ) (x : Ex) (l : Env) (h : Heap) : Prop :=
  match x with
  | .nrm => wpF tb b l h Q
  | .ex j => Q (.ex j) l h
  | .ret => Q .ret l h
end

def loopQ (tb : Tbl) (b : Cd) (Q : KQ) : KQ
  | .nrm => fun l h => Rn tb (.loop b) l h Q
  | x => Q x

theorem ins_same {l : Env} {t : Nat} {v : AVal} (h : l.get t = v) : (l.ins t v).get = l.get := by
  funext m
  rw [Env.get_ins]
  by_cases hm : m = t
  · rw [if_pos hm, hm, h]
  · rw [if_neg hm]

section
variable {tb : Tbl}

/-- One operation: as the machine does it. -/
theorem runW_sound {o : Op} {l : Env} {al : Al} {h : Heap} {K : KO} (hf : Fresh h) (hw : runW tb o o.i l al h K) {e : Env} (he : e.get = l.get) (hg : wants e.get o.g = some true) :
    ∃ n s' f l', step1 (callF tb n) ⟨e, al, h⟩ o = some (s', f) ∧ s'.e.get = l'.get ∧ Fresh s'.h ∧ K l' s'.al s'.h f := by
  have key : ∀ i, o.i = i → (∀ f args, i ≠ .call f args) → insW i o.d l al h (simV o i l al K) → ∃ n s' f l', step1 (callF tb n) ⟨e, al, h⟩ o = some (s', f) ∧ s'.e.get = l'.get ∧ Fresh s'.h ∧ K l' s'.al s'.h f := by
    intro i hi hne hw
    obtain ⟨u, h', h1, h2, h3, h4, h5, h6⟩ := insW_sound hf hw
    refine ⟨0, ⟨setB (setD e o.d u.v) u.bx, alD al o.d u.al, h'⟩, _, _, ?_, get_insB (get_insO he o.d u.v) u.bx, h5, h6⟩
    simp only [step1, hg]
    have hs : simple1 ⟨e, al, h⟩ o = some (⟨setB (setD e o.d u.v) u.bx, alD al o.d u.al, h'⟩, { acc := i.acc l.get, wr := u.puts.map (·.1), sacc := o.reads ++ i.boxes l.get al.get, swr := i.makesBox o.d ++ bxl u.bx }) := by
      simp only [simple1, he, hi, h1, h2, h3, h4, Bool.and_self, if_true]
      cases u.bx <;> rfl
    cases hii : o.i with
    | call f args => exact (hne f args (by rw [← hi, hii])).elim
    | _ => exact hs
  cases hi : o.i with
  | call f args =>
    rw [hi] at hw
    simp only [runW, callI] at hw
    cases hq : opd l.get f <;> rw [hq] at hw <;> first | exact hw.elim | skip
    rename_i q caps
    obtain ⟨vs, h1, h2⟩ := hw
    obtain ⟨v, h', ⟨n, h3⟩, h4, h5, h6⟩ := h2 hf
    refine ⟨n, ⟨setD e o.d v, alD al o.d none, h'⟩, _, _, ?_, get_insO he o.d v, h4, h6⟩
    have hc1 : call1 (callF tb n) ⟨e, al, h⟩ o f args = some (⟨setD e o.d v, alD al o.d none, h'⟩, { sacc := o.reads, chg := some fun r => h'.ver r != h.ver r }) := by
      simp only [call1, calls, he, hq, h1, h3, h5, if_true]
    simp only [step1, hg, hi]
    exact hc1
  | _ =>
    rw [hi] at hw
    exact key _ hi (by intro f args h; simp at h) hw

theorem opW_sound {o : Op} {l : Env} {al : Al} {h : Heap} {K : KO} (hf : Fresh h) (hw : opW tb o o.g l al h K) {e : Env} (he : e.get = l.get) :
    ∃ n s' f l', step1 (callF tb n) ⟨e, al, h⟩ o = some (s', f) ∧ s'.e.get = l'.get ∧ Fresh s'.h ∧ K l' s'.al s'.h f := by
  unfold opW at hw
  cases hg : o.g with
  | none =>
    rw [hg] at hw
    exact runW_sound hf hw he (by rw [hg]; rfl)
  | some p =>
    obtain ⟨t, b⟩ := p
    rw [hg] at hw
    simp only [] at hw
    split at hw
    · rename_i b' hb
      by_cases hbb : b' = b
      · subst hbb
        exact runW_sound hf (hw.1 rfl) (he.trans (ins_same hb).symm) (by rw [hg]; simp [wants, he, hb])
      · have hbn : b' = !b := by cases b' <;> cases b <;> simp_all
        refine ⟨0, ⟨setD e o.d (.tup []), alD al o.d none, h⟩, { sacc := o.reads, swr := o.i.makesBox o.d }, _, ?_, get_insO (he.trans (ins_same (v := .bool (!b)) (by rw [hb, hbn])).symm) o.d (.tup []), hf, hw.2 hbn⟩
        simp only [step1, hg, wants, he, hb]
        have : (b' == b) = false := by simp [hbb]
        rw [this]
    · rename_i hb
      refine ⟨0, ⟨setD e o.d (.tup []), alD al o.d none, h⟩, { sacc := o.reads, swr := o.i.makesBox o.d }, _, ?_, get_insO he o.d (.tup []), hf, hw⟩
      simp only [step1, hg, wants, he, hb]
    · exact hw.elim

theorem opsF_sound : ∀ {ops : List Op} {l : Env} {al : Al} {h : Heap} {K : Env → Heap → List Foot → Prop}, Fresh h → opsF tb ops l al h K → ∀ {e : Env}, e.get = l.get →
    ∃ n s' fs l', steps (callF tb n) ops ⟨e, al, h⟩ = some (s', fs) ∧ s'.e.get = l'.get ∧ Fresh s'.h ∧ K l' s'.h fs
  | [], l, al, h, K, hf, hw, e, he => ⟨0, _, _, l, rfl, he, hf, by simpa only [opsF] using hw⟩
  | o :: r, l, al, h, K, hf, hw, e, he => by
    simp only [opsF] at hw
    obtain ⟨n, s1, f, l1, h1, h2, h3, h4⟩ := opW_sound hf hw he
    simp only [opsFK] at h4
    obtain ⟨m, s2, fs, l2, h5, h6, h7, h8⟩ := opsF_sound (ops := r) h3 h4 h2
    refine ⟨max n m, s2, f :: fs, l2, ?_, h6, h7, h8⟩
    simp only [steps, step1_mono (callF_mono tb (Nat.le_max_left n m)) h1]
    rw [steps_mono (callF_mono tb (Nat.le_max_right n m)) h5]

theorem opsN_sound : ∀ {ops : List Op} {l : Env} {al : Al} {h : Heap} {K : Env → Heap → Prop}, Fresh h → opsN tb ops l al h K → ∀ {e : Env}, e.get = l.get →
    ∃ n s' fs l', steps (callF tb n) ops ⟨e, al, h⟩ = some (s', fs) ∧ s'.e.get = l'.get ∧ Fresh s'.h ∧ K l' s'.h
  | [], l, al, h, K, hf, hw, e, he => ⟨0, _, _, l, rfl, he, hf, by simpa only [opsN] using hw⟩
  | o :: r, l, al, h, K, hf, hw, e, he => by
    simp only [opsN] at hw
    obtain ⟨n, s1, f, l1, h1, h2, h3, h4⟩ := opW_sound hf hw he
    simp only [opsNK] at h4
    obtain ⟨m, s2, fs, l2, h5, h6, h7, h8⟩ := opsN_sound (ops := r) h3 h4 h2
    refine ⟨max n m, s2, f :: fs, l2, ?_, h6, h7, h8⟩
    simp only [steps, step1_mono (callF_mono tb (Nat.le_max_left n m)) h1]
    rw [steps_mono (callF_mono tb (Nat.le_max_right n m)) h5]

theorem step1_env {cf : CallF} {e e' : Env} (he : e'.get = e.get) {al : Al} {h : Heap} {o : Op} {s : Rs} {f : Foot} (hs : step1 cf ⟨e, al, h⟩ o = some (s, f)) :
    ∃ s', step1 cf ⟨e', al, h⟩ o = some (s', f) ∧ s'.e.get = s.e.get ∧ s'.al = s.al ∧ s'.h = s.h := by
  have hD : ∀ d v, (setD e' d v).get = (setD e d v).get := fun d v => (get_insO he d v).trans (get_insO rfl d v).symm
  unfold step1 at hs ⊢
  simp only [he] at hs ⊢
  cases hw : wants e.get o.g with
  | none => rw [hw] at hs; simp at hs
  | some w =>
    rw [hw] at hs
    cases w with
    | false =>
      simp at hs
      obtain ⟨rfl, rfl⟩ := hs
      exact ⟨_, rfl, hD _ _, rfl, rfl⟩
    | true =>
      simp only [] at hs ⊢
      have simple : simple1 ⟨e, al, h⟩ o = some (s, f) → ∃ s', simple1 ⟨e', al, h⟩ o = some (s', f) ∧ s'.e.get = s.e.get ∧ s'.al = s.al ∧ s'.h = s.h := by
        intro hs
        unfold simple1 at hs ⊢
        simp only [he] at hs ⊢
        cases hu : o.i.sem e.get al.get h.get al.free h.next o.d with
        | none => rw [hu] at hs; simp at hs
        | some u =>
          rw [hu] at hs
          simp only [] at hs ⊢
          split at hs
          · rename_i hc
            rw [if_pos hc]
            cases ho : h.outs u with
            | none => rw [ho] at hs; simp at hs
            | some h' =>
              rw [ho] at hs
              simp at hs
              obtain ⟨rfl, rfl⟩ := hs
              refine ⟨_, rfl, ?_, rfl, rfl⟩
              exact (get_insB (hD o.d u.v) u.bx).trans (get_insB rfl u.bx).symm
          · simp at hs
      cases hi : o.i with
      | call fo args =>
        rw [hi] at hs
        simp only [] at hs ⊢
        unfold call1 calls at hs ⊢
        simp only [he] at hs ⊢
        split at hs
        · rename_i v h' hc
          split at hs
          · rename_i hp
            simp at hs
            obtain ⟨rfl, rfl⟩ := hs
            rw [if_pos hp]
            exact ⟨_, rfl, hD _ _, rfl, rfl⟩
          · simp at hs
        · simp at hs
      | _ => rw [hi] at hs; exact simple hs

theorem steps_env {cf : CallF} : ∀ {ops : List Op} {e e' : Env} (he : e'.get = e.get) {al : Al} {h : Heap} {s : Rs} {fs : List Foot}, steps cf ops ⟨e, al, h⟩ = some (s, fs) →
    ∃ s', steps cf ops ⟨e', al, h⟩ = some (s', fs) ∧ s'.e.get = s.e.get ∧ s'.h = s.h
  | [], e, e', he, al, h, s, fs, hs => by
    simp [steps] at hs; obtain ⟨rfl, rfl⟩ := hs
    exact ⟨_, rfl, he, rfl⟩
  | o :: r, e, e', he, al, h, s, fs, hs => by
    simp only [steps] at hs ⊢
    split at hs
    · simp at hs
    · rename_i s1 f h1
      split at hs
      · simp at hs
      · rename_i s2 fs2 h2
        simp at hs; obtain ⟨rfl, rfl⟩ := hs
        obtain ⟨t1, k1, k2, k3, k4⟩ := step1_env he h1
        obtain ⟨e1, al1, h1'⟩ := s1
        obtain ⟨te, tal, th⟩ := t1
        simp only at k3 k4 k2
        subst k3; subst k4
        obtain ⟨t2, k5, k6, k7⟩ := steps_env k2 h2
        refine ⟨t2, ?_, k6, k7⟩
        rw [k1]
        simp only []
        rw [k5]

theorem kill_env {e e' : Env} (he : e'.get = e.get) (ks : List (Nat × Bool)) : (e'.kill ks).get = (e.kill ks).get := by
  funext m; rw [Env.get_kill, Env.get_kill, he]

/-- Of an environment's list nothing counts but what it holds. -/
theorem exec_env {cf : CallF} : ∀ {n : Nat} {c : Cd} {e e' : Env} (he : e'.get = e.get) {h : Heap} {x : Ex} {s : St}, exec cf n c ⟨e, h⟩ = some (x, s) →
    ∃ s', exec cf n c ⟨e', h⟩ = some (x, s') ∧ s'.e.get = s.e.get ∧ s'.h = s.h
  | 0, c, e, e', he, h, x, s, hs => by simp [exec] at hs
  | n + 1, c, e, e', he, h, x, s, hs => by
    cases c with
    | skip => simp [exec] at hs; obtain ⟨rfl, rfl⟩ := hs; exact ⟨_, rfl, he, rfl⟩
    | exit id => simp [exec] at hs; obtain ⟨rfl, rfl⟩ := hs; exact ⟨_, rfl, he, rfl⟩
    | ret => simp [exec] at hs; obtain ⟨rfl, rfl⟩ := hs; exact ⟨_, rfl, he, rfl⟩
    | bad => simp [exec] at hs
    | reg ops conf kill =>
      simp only [exec] at hs ⊢
      split at hs
      · rename_i s1 fs h1
        split at hs
        · rename_i hc
          simp at hs; obtain ⟨rfl, rfl⟩ := hs
          obtain ⟨t, k1, k2, k3⟩ := steps_env he h1
          rw [k1]
          simp only [hc, if_true]
          exact ⟨_, rfl, kill_env k2 kill, k3⟩
        · simp at hs
      · simp at hs
    | seq a b =>
      simp only [exec] at hs ⊢
      cases h1 : exec cf n a ⟨e, h⟩ with
      | none => rw [h1] at hs; simp at hs
      | some p =>
        obtain ⟨y, s1⟩ := p
        rw [h1] at hs
        obtain ⟨t, k1, k2, k3⟩ := exec_env he h1
        rw [k1]
        cases y with
        | nrm =>
          simp only [] at hs ⊢
          obtain ⟨te, th⟩ := t
          obtain ⟨se, sh⟩ := s1
          simp only at k2 k3
          subst k3
          exact exec_env k2 hs
        | ex j => simp at hs; obtain ⟨rfl, rfl⟩ := hs; exact ⟨_, rfl, k2, k3⟩
        | ret => simp at hs; obtain ⟨rfl, rfl⟩ := hs; exact ⟨_, rfl, k2, k3⟩
    | cond t a b =>
      simp only [exec, he] at hs ⊢
      cases ht : opd e.get t <;> rw [ht] at hs <;> first | (simp at hs; done) | skip
      rename_i bb
      cases bb with
      | true => exact exec_env he hs
      | false => exact exec_env he hs
    | block id b =>
      simp only [exec] at hs ⊢
      cases h1 : exec cf n b ⟨e, h⟩ with
      | none => rw [h1] at hs; simp at hs
      | some p =>
        obtain ⟨y, s1⟩ := p
        rw [h1] at hs
        obtain ⟨t, k1, k2, k3⟩ := exec_env he h1
        rw [k1]
        cases y with
        | nrm => simp at hs; obtain ⟨rfl, rfl⟩ := hs; exact ⟨_, rfl, k2, k3⟩
        | ret => simp at hs; obtain ⟨rfl, rfl⟩ := hs; exact ⟨_, rfl, k2, k3⟩
        | ex j =>
          simp only [] at hs ⊢
          split at hs
          · rename_i hj; simp at hs; obtain ⟨rfl, rfl⟩ := hs; rw [if_pos hj]; exact ⟨_, rfl, k2, k3⟩
          · rename_i hj; simp at hs; obtain ⟨rfl, rfl⟩ := hs; rw [if_neg hj]; exact ⟨_, rfl, k2, k3⟩
    | loop b =>
      simp only [exec] at hs ⊢
      cases h1 : exec cf n b ⟨e, h⟩ with
      | none => rw [h1] at hs; simp at hs
      | some p =>
        obtain ⟨y, s1⟩ := p
        rw [h1] at hs
        obtain ⟨t, k1, k2, k3⟩ := exec_env he h1
        rw [k1]
        cases y with
        | nrm =>
          simp only [] at hs ⊢
          obtain ⟨te, th⟩ := t
          obtain ⟨se, sh⟩ := s1
          simp only at k2 k3
          subst k3
          exact exec_env k2 hs
        | ex j => simp at hs; obtain ⟨rfl, rfl⟩ := hs; exact ⟨_, rfl, k2, k3⟩
        | ret => simp at hs; obtain ⟨rfl, rfl⟩ := hs; exact ⟨_, rfl, k2, k3⟩

theorem exec_up {n m : Nat} (h : n ≤ m) {c : Cd} {s : St} {r : Ex × St} (hx : exec (callF tb n) n c s = some r) : exec (callF tb m) m c s = some r := exec_mono (callF_mono tb h) h hx
theorem exec_up' {n m : Nat} (h : n ≤ m) {c : Cd} {s : St} {r : Ex × St} (hx : exec (callF tb n) n c s = some r) : exec (callF tb (m + 1)) m c s = some r := exec_mono (callF_mono tb (by omega)) h hx

theorem Rn.reg {ops : List Op} {conf : List (Nat × Nat)} {kill : List (Nat × Bool)} {l : Env} {h : Heap} {Q : KQ} (hw : regW tb ops conf l h fun l h => Q .nrm (l.drop kill) h) : Rn tb (.reg ops conf kill) l h Q := fun e he hf => by
  cases conf with
  | nil =>
    obtain ⟨n, s', fs, l', h1, h2, h3, h4⟩ := opsN_sound hf hw he
    refine ⟨n + 1, .nrm, ⟨s'.e.kill kill, s'.h⟩, l'.drop kill, ?_, get_kill_drop h2 kill, h3, h4⟩
    simp only [exec]
    rw [steps_mono (callF_mono tb (Nat.le_succ n)) h1]
    rfl
  | cons c cs =>
    obtain ⟨n, s', fs, l', h1, h2, h3, h4, h5⟩ := opsF_sound hf hw he
    refine ⟨n + 1, .nrm, ⟨s'.e.kill kill, s'.h⟩, l'.drop kill, ?_, get_kill_drop h2 kill, h3, h5⟩
    simp only [exec]
    rw [steps_mono (callF_mono tb (Nat.le_succ n)) h1]
    simp only [h4, if_true]

theorem Rn.seq {a b : Cd} {l : Env} {h : Heap} {Q : KQ} (hw : Rn tb a l h fun x l h => match x with | .nrm => Rn tb b l h Q | x => Q x l h) : Rn tb (.seq a b) l h Q := fun e he hf => by
  obtain ⟨n, x, s1, l1, h1, h2, h3, h4⟩ := hw e he hf
  cases x with
  | nrm =>
    obtain ⟨m, x, s2, l2, h5, h6, h7, h8⟩ := h4 s1.e h2 h3
    refine ⟨max n m + 1, x, s2, l2, ?_, h6, h7, h8⟩
    simp only [exec, exec_up' (Nat.le_max_left n m) h1]
    exact exec_up' (Nat.le_max_right n m) h5
  | ex j =>
    refine ⟨n + 1, .ex j, s1, l1, ?_, h2, h3, h4⟩
    simp only [exec, exec_up' (Nat.le_refl n) h1]
  | ret =>
    refine ⟨n + 1, .ret, s1, l1, ?_, h2, h3, h4⟩
    simp only [exec, exec_up' (Nat.le_refl n) h1]

theorem Rn.block {id : Nat} {b : Cd} {l : Env} {h : Heap} {Q : KQ} (hw : Rn tb b l h (blkQ id Q)) : Rn tb (.block id b) l h Q := fun e he hf => by
  obtain ⟨n, x, s1, l1, h1, h2, h3, h4⟩ := hw e he hf
  cases x with
  | nrm => exact ⟨n + 1, .nrm, s1, l1, by simp only [exec, exec_up' (Nat.le_refl n) h1], h2, h3, h4⟩
  | ex j =>
    simp only [blkQ] at h4
    by_cases hj : j = id
    · rw [if_pos hj] at h4
      exact ⟨n + 1, .nrm, s1, l1, by simp only [exec, exec_up' (Nat.le_refl n) h1]; rw [if_pos hj], h2, h3, h4⟩
    · rw [if_neg hj] at h4
      exact ⟨n + 1, .ex j, s1, l1, by simp only [exec, exec_up' (Nat.le_refl n) h1]; rw [if_neg hj], h2, h3, h4⟩
  | ret => exact ⟨n + 1, .ret, s1, l1, by simp only [exec, exec_up' (Nat.le_refl n) h1], h2, h3, h4⟩

theorem Rn.mono {c : Cd} {l : Env} {h : Heap} {Q Q' : KQ} (hr : Rn tb c l h Q) (hq : ∀ x l h, Q x l h → Q' x l h) : Rn tb c l h Q' := fun e he hf => by
  obtain ⟨n, x, s1, l1, h1, h2, h3, h4⟩ := hr e he hf
  exact ⟨n, x, s1, l1, h1, h2, h3, hq _ _ _ h4⟩

theorem Rn.env {c : Cd} {l l' : Env} {h : Heap} {Q : KQ} (hl : l.get = l'.get) (hr : Rn tb c l' h Q) : Rn tb c l h Q := fun e he hf => hr e (he.trans hl) hf

theorem wpF_run : ∀ {c : Cd} {l : Env} {h : Heap} {Q : KQ}, wpF tb c l h Q → Rn tb c l h Q
  | .skip, l, h, Q, hw => fun e he hf => ⟨1, .nrm, ⟨e, h⟩, l, rfl, he, hf, by simpa only [wpF] using hw⟩
  | .exit id, l, h, Q, hw => fun e he hf => ⟨1, .ex id, ⟨e, h⟩, l, rfl, he, hf, by simpa only [wpF] using hw⟩
  | .ret, l, h, Q, hw => fun e he hf => ⟨1, .ret, ⟨e, h⟩, l, rfl, he, hf, by simpa only [wpF] using hw⟩
  | .bad, l, h, Q, hw => by simp only [wpF] at hw
  | .reg ops conf kill, l, h, Q, hw => by simp only [wpF] at hw; exact Rn.reg hw
  | .loop b, l, h, Q, hw => by simpa only [wpF] using hw
  | .block id b, l, h, Q, hw => by simp only [wpF] at hw; exact Rn.block (wpF_run hw)
  | .seq a b, l, h, Q, hw => by
    simp only [wpF] at hw
    refine Rn.seq ((wpF_run hw).mono fun x l h hq => ?_)
    cases x with
    | nrm => simp only [seqQ] at hq; exact wpF_run hq
    | ex j => simpa only [seqQ] using hq
    | ret => simpa only [seqQ] using hq
  | .cond c a b, l, h, Q, hw => fun e he hf => by
    simp only [wpF] at hw
    split at hw
    · rename_i t ht
      simp only [brW] at hw
      cases t with
      | true =>
        obtain ⟨n, x, s1, l1, h1, h2, h3, h4⟩ := wpF_run (hw.1 rfl) e he hf
        exact ⟨n + 1, x, s1, l1, by simp only [exec, he, ht]; exact exec_up' (Nat.le_refl n) h1, h2, h3, h4⟩
      | false =>
        obtain ⟨n, x, s1, l1, h1, h2, h3, h4⟩ := wpF_run (hw.2 rfl) e he hf
        exact ⟨n + 1, x, s1, l1, by simp only [exec, he, ht]; exact exec_up' (Nat.le_refl n) h1, h2, h3, h4⟩
    · exact hw.elim

/-- One round of a loop. -/
theorem Rn.loop {b : Cd} {l : Env} {h : Heap} {Q : KQ} (hw : wpF tb b l h (loopQ tb b Q)) : Rn tb (.loop b) l h Q := fun e he hf => by
  obtain ⟨n, x, s1, l1, h1, h2, h3, h4⟩ := wpF_run hw e he hf
  cases x with
  | nrm =>
    obtain ⟨m, x, s2, l2, h5, h6, h7, h8⟩ := h4 s1.e h2 h3
    refine ⟨max n m + 1, x, s2, l2, ?_, h6, h7, h8⟩
    simp only [exec, exec_up' (Nat.le_max_left n m) h1]
    exact exec_up' (Nat.le_max_right n m) h5
  | ex j =>
    refine ⟨n + 1, .ex j, s1, l1, ?_, h2, h3, h4⟩
    simp only [exec, exec_up' (Nat.le_refl n) h1]
  | ret =>
    refine ⟨n + 1, .ret, s1, l1, ?_, h2, h3, h4⟩
    simp only [exec, exec_up' (Nat.le_refl n) h1]

theorem resOf_congr {e l : Env} (he : e.get = l.get) : ∀ rs, resOf e rs = resOf l rs
  | [] => rfl
  | .t n :: r => by simp only [resOf, he, resOf_congr he r]
  | .cell t n ag :: r => by simp only [resOf, he, resOf_congr he r]

def retV (K : AVal → Heap → Prop) (h : Heap) (vs : List AVal) : Prop := (one vs).plain = true ∧ K (one vs) h
def retQ (res : List Res) (K : AVal → Heap → Prop) : KQ
  | .ex _ => fun _ _ => False
  | _ => fun l h => Get (resOf l res) (retV K h)

/-- A function's call, by its code. -/
theorem CallW.code {f : Nat} {fn : Fn} {args : List AVal} {h : Heap} {K : AVal → Heap → Prop} (ht : tb f = some (.code fn)) (hn : args.length = fn.np) (hp : args.all AVal.plain = true) (hw : Rn tb fn.body (params 0 args) h (retQ fn.res K)) : CallW tb f args h K := fun hf => by
  obtain ⟨n, x, s1, l1, h1, h2, h3, h4⟩ := hw (params 0 args) rfl hf
  have hx : ∃ l, resOf s1.e fn.res = some l ∧ (one l).plain = true ∧ K (one l) s1.h ∧ ∀ j, x ≠ .ex j := by
    cases x with
    | ex j => exact h4.elim
    | nrm => obtain ⟨l, a, b, c⟩ := h4; exact ⟨l, by rw [resOf_congr h2]; exact a, b, c, by simp⟩
    | ret => obtain ⟨l, a, b, c⟩ := h4; exact ⟨l, by rw [resOf_congr h2]; exact a, b, c, by simp⟩
  obtain ⟨l, a, b, c, d⟩ := hx
  refine ⟨one l, s1.h, ⟨n + 1, ?_⟩, h3, b, c⟩
  simp only [callF, ht]
  rw [if_pos ⟨hn, hp⟩, h1]
  cases x with
  | ex j => exact (d j rfl).elim
  | nrm => simp [a]
  | ret => simp [a]

theorem CallW.prim {f : Nat} {p : List AVal → Option AVal} {args : List AVal} {h : Heap} {K : AVal → Heap → Prop} (ht : tb f = some (.prim p)) {v : AVal} (hv : p args = some v) (hp : v.plain = true) (hk : K v h) : CallW tb f args h K := fun hf =>
  ⟨v, h, ⟨1, by simp [callF, ht, hv]⟩, hf, hp, hk⟩

/-- A call, reckoned by the kernel. -/
theorem CallW.kern {n f : Nat} {args : List AVal} {h : Heap} {K : AVal → Heap → Prop} (hk : callK False tb n f args h fun v h' => v.plain = true ∧ K v h') : CallW tb f args h K := fun hf => by
  rw [callK_eq] at hk
  cases hc : callF tb n f args h with
  | none => rw [hc] at hk; exact hk.elim
  | some p => rw [hc] at hk; exact ⟨p.1, p.2, ⟨n, hc⟩, callF_fresh tb n _ _ _ _ _ hf hc, hk.1, hk.2⟩

/-- A code, reckoned by the kernel. -/
theorem Rn.kern {n : Nat} {c : Cd} {l : Env} {h : Heap} {Q : KQ} (hk : codeK False (callK False tb n) n c l h (fun e h => Q .nrm e h) (fun x e h => Q x e h)) : Rn tb c l h Q := by
  rw [codeK_eq (callK_eq False tb n)] at hk
  intro e he hf
  have hx : ∃ x s1, exec (callF tb n) n c ⟨l, h⟩ = some (x, s1) ∧ Q x s1.e s1.h := by
    cases hc : exec (callF tb n) n c ⟨l, h⟩ with
    | none => rw [hc] at hk; exact hk.elim
    | some p =>
      obtain ⟨x, s1⟩ := p
      rw [hc] at hk
      cases x <;> exact ⟨_, s1, rfl, hk⟩
  obtain ⟨x, s1, h1, h2⟩ := hx
  obtain ⟨s', k1, k2, k3⟩ := exec_env he h1
  exact ⟨n, x, s', s1.e, k1, k2, exec_fresh (callF_fresh tb n) n c (s := ⟨e, h⟩) hf k1, by rw [k3]; exact h2⟩
end
end Ab

/- From the abstract machine's answer to the statement's frame; the table, entry by entry; a call that is known becomes a value. -/
set_option linter.unusedVariables false
set_option linter.unusedSimpArgs false
namespace Ab
open Go Go.RowKit Go.ChangeShapes Go.WideShapes

/-- All entries of a trie. -/
def TrAll {α : Type} (p : Nat → α → Prop) : Tr α → (Nat → Nat) → Prop
  | .leaf, _ => True
  | .node l v r, φ => (∀ x, v = some x → p (φ 0) x) ∧ TrAll p l (fun n => φ (2 * n + 1)) ∧ TrAll p r (fun n => φ (2 * n + 2))

theorem TrAll.get {α : Type} {p : Nat → α → Prop} : ∀ {t : Tr α} {φ : Nat → Nat}, TrAll p t φ → ∀ {k : Nat} {x : α}, t.get k = some x → p (φ k) x
  | .leaf, φ, h, k, x, hx => by simp [Tr.get] at hx
  | .node l v r, φ, ⟨h1, h2, h3⟩, k, x, hx => by
    simp only [Tr.get] at hx
    split at hx
    · rename_i h0; subst h0; exact h1 x hx
    · split at hx
      · rename_i h0 hk
        have := h2.get hx
        rwa [show 2 * (k / 2) + 1 = k by omega] at this
      · rename_i h0 hk
        have := h3.get hx
        rwa [show 2 * (k / 2 - 1) + 2 = k by omega] at this

section
variable {P : Program} {I : (Nat → Prop) → World → Prop} {tb : Tbl}

theorem TbOk.of {t : Tr Fun} (h : TrAll (FunOk P I) t id) : TbOk P I (fun k => t.get k) := fun f u hu => h.get hu

theorem unk_sim (w : World) : Sim (fun _ => .unk) Heap.empty.get w where
  row := fun r p h => by cases h
  dead := fun r h => by cases h
  inj := fun r r' p p' h => by cases h
theorem unk_own (m : M) (hm : ∀ r p, m r = .at p → p.own = false) (b : Nat) : ¬ Own m nb b := by
  rintro (⟨r, p, h1, h2, _⟩ | ⟨t, h⟩)
  · rw [hm r p h1] at h2; cases h2
  · simp [nb] at h

theorem below_of_wfr {A : Nat → Prop} {w w' : World} (h : WFr A w w') (hA : ∀ b, ¬ A b) : Below w.heap.size w w' := ⟨h.os, h.tape, h.output, h.size, fun k hk => h.block k hk (hA k)⟩

/-- A call without arguments, of the empty heap, with a plain scalar's answer, is known whatever the world. -/
theorem prim_of_closed (hm : P.follows .mixedOrders = true) (hI : Keeps I) (ht : TbOk P I tb) {n f : Nat} {b : Bool} {h' : Heap} (hc : callF tb n f [] Heap.empty = some (.bool b, h')) :
    FunOk P I f (.prim fun l => match l with | [] => some (.bool b) | _ => none) := by
  intro l v hv m w vs hi hvs
  cases l with
  | cons x l => simp at hv
  | nil =>
    simp at hv; subst hv
    have hs := callF_sound hm hI ht n f [] Heap.empty _ _ Fresh.empty.hw hc (fun _ => .unk) w vs (hI _ _ w w hi (.refl _ w) fun b hb _ => (unk_own _ (fun r p h => by cases h) b hb).elim) (unk_sim w) (by rw [hvs.unnil]; exact .nil)
    have fin : ∀ x w', After (fun _ => .unk) Heap.empty h' w (.bool b) x w' → WFr (fun _ => False) w w' ∧ VRel m (.bool b) x := by
      rintro x w' ⟨m', h1, h2, h3, h4⟩
      refine ⟨h1.wfr.mono fun b hb => unk_own _ (fun r p h => by cases h) b hb, ?_⟩
      simpa only [VRel] using h3
    rcases hs with ⟨x, w', q1, q2⟩ | ⟨q1, q2⟩
    · exact .inl ⟨x, w', q1, fin x w' q2⟩
    · exact .inr ⟨q1, Calls.mono q2 fun en w' he => by
        cases en with
        | returned x => exact fin x w' he
        | _ => exact he.elim⟩

/-- The statement's walk: from the abstract machine's answer. -/
theorem calls_top (hm : P.follows .mixedOrders = true) (hI : Keeps I) (ht : TbOk P I tb) {f : Nat} {fn : Func} {c : Code} (hfn : P.funcs[f]? = some fn) (hname : (fn.name == "runtime.NumGoroutine") = false) (hb : fn.body = some c)
    {l : List AVal} {h : Heap} (hf : Fresh h) (hw : CallW tb f l h fun v _ => v = .bool true) {m : M} {w : World} {vs : List Value} (hi : I (Own m nb) w) (hS : Sim m h.get w) (hv : VsRel m l vs) (hown : ∀ r p, m r = .at p → p.own = false) :
    Calls P f vs.toArray w fun e w' => e = .returned (.bool true) ∧ Below w.heap.size w w' := by
  obtain ⟨v, h', ⟨n, hc⟩, _, _, rfl⟩ := hw hf
  have hs := callF_sound hm hI ht n f l h _ _ hf.hw hc m w vs hi hS hv
  rcases hs with ⟨x, w', q1, q2⟩ | ⟨q1, q2⟩
  · rw [enter_run hfn hname hb] at q1; cases q1
  · refine Calls.mono q2 fun en w' he => ?_
    cases en with
    | returned x =>
      obtain ⟨m', h1, h2, h3, h4⟩ := he
      simp only [VRel] at h3
      subst h3
      exact ⟨rfl, below_of_wfr h1.wfr (unk_own m hown)⟩
    | _ => exact he.elim
end

section
variable {H : Type} {enc : TypeId × Value → H} {P : Program}

/-- The row's end: nothing that was there has turned. -/
theorem post_of_below {f : Func} {s : ChangeSpec} {apart fresh handsOn again : Bool} {W W' : World} {args : Array Value} {v : Value} {ds gs : List (DataW H)} {before pa pv : List MemPlace}
    (hW : DataW.Whole enc P f.params.toList s.vars apart W args.toList ds gs before)
    (hres : ∀ (b : Nat) (sp : Nat → Bool) (hd : Bool), DataW.TrodAll enc P W' b sp hd f.resultTypes.toList (v.resultList f.resultTypes.size) (s.fn H (ds ++ gs)).results [])
    (hargs : ∀ sp : Nat → Bool, (∀ p ∈ before, sp p.block = true) → DataW.TrodAll enc P W' 0 sp true f.params.toList args.toList (s.fn H (ds ++ gs)).args pa)
    (hvars : ∀ sp : Nat → Bool, (∀ p ∈ before, sp p.block = true) → DataW.TrodVars enc P W' sp s.vars (s.fn H (ds ++ gs)).vars pv)
    (hps : before = pa ++ pv) (hb : Below W.heap.size W W')
    (hok : ∀ (j : Nat) (t : TypeId) (r : Value), f.resultTypes[j]? = some t → (v.resultList f.resultTypes.size)[j]? = some r → Value.okWide P W' .any 0 t r) :
    s.post enc P f apart fresh handsOn again W args v W' := by
  have hlt : ∀ p ∈ before, p.block < W.heap.size := fun p hp => hW.lt p hp
  have hold : ∀ p ∈ before, (fun b => decide (b < W.heap.size)) p.block = true := fun p hp => by simpa using hW.lt p hp
  refine ⟨ds, gs, before, [], pa, pv, hW, hres _ _ _, hargs _ hold, hvars _ hold, World.keptBut_mono (fun p hp => ⟨hp, ?_⟩) (hb.frame (· ∈ before)), fun _ => ?_⟩
  · rw [hps, List.mem_append] at hp
    exact Or.inr hp
  · obtain ⟨_, _, _, _, _, hz, hn⟩ := hW
    refine ⟨hok, _, _, ([] ++ pa) ++ pv, ⟨[] ++ pa, pv, trodAll_append (hargs _ (fun _ _ => rfl)) (hres _ _ _), hvars _ (fun _ _ => rfl), rfl, ?_, ?_⟩, ?_⟩
    · intro b off hp
      have hp' : MemPlace.cell b off ∈ before := by rw [hps]; simpa using hp
      rw [hb.frozen (p := ⟨b, off, none⟩) (hlt _ hp')]
      exact hz b off hp'
    · intro ha
      have := hn ha
      rw [hps] at this
      simpa using this
    · intro p hp _
      rw [hps]
      simpa using hp
end
end Ab

namespace Ab
open Go
section
variable {tb : Tbl}

def rnQ (tb : Tbl) (b : Cd) (Q : KQ) (x : Ex) (l : Env) (h : Heap) : Prop :=
  match x with
  | .nrm => Rn tb b l h Q
  | .ex j => Q (.ex j) l h
  | .ret => Q .ret l h

/-- A sequence, its first part reckoned out. -/
theorem Rn.seq' {a b : Cd} {l : Env} {h : Heap} {Q : KQ} (hw : wpF tb a l h (rnQ tb b Q)) : Rn tb (.seq a b) l h Q :=
  Rn.seq ((wpF_run hw).mono fun x l h hq => by cases x <;> exact hq)

def isYes (res : List Res) (e : Env) : Bool :=
  match resOf e res with
  | some [.bool true] => true
  | _ => false
def isYesX (res : List Res) : Ex → Env → Bool
  | .ex _ => fun _ => false
  | _ => isYes res

theorem isYes_ret {res : List Res} {e : Env} {h : Heap} (hy : isYes res e = true) : Get (resOf e res) (retV (fun v _ => v = .bool true) h) := by
  unfold isYes at hy
  split at hy
  · rename_i hr; exact ⟨_, hr, rfl, rfl⟩
  · simp at hy

/-- A code that comes to 'true', reckoned by the kernel. -/
theorem Rn.yes (n : Nat) {c : Cd} {l : Env} {h : Heap} {res : List Res} (hk : codeK false (callK false tb n) n c l h (fun e _ => isYes res e) (fun x e _ => isYesX res x e) = true) :
    Rn tb c l h (retQ res fun v _ => v = .bool true) := by
  rw [codeK_eq (callK_eq false tb n)] at hk
  intro e he hf
  cases hc : exec (callF tb n) n c ⟨l, h⟩ with
  | none => rw [hc] at hk; simp [outX] at hk
  | some p =>
    obtain ⟨x, s1⟩ := p
    rw [hc] at hk
    obtain ⟨s', k1, k2, k3⟩ := exec_env he hc
    refine ⟨n, x, s', s1.e, k1, k2, exec_fresh (callF_fresh tb n) n c (s := ⟨e, h⟩) hf k1, ?_⟩
    cases x with
    | ex j => simp [outX, isYesX] at hk
    | nrm => exact isYes_ret hk
    | ret => exact isYes_ret hk
end
end Ab
