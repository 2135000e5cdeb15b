/- Instructions that make rows and boxes, and that write. -/
import Derived.Test.YtfogmpakbdcbbaaDoorAbA
import Derived.Laws.Append
import Derived.Laws.CopyRow
import Derived.IntWalk
import Derived.Laws.MakeOwn
import Derived.Laws.IdiomStrings
import Derived.Orders
set_option linter.unusedVariables false
set_option linter.unusedSimpArgs false
set_option linter.unusedVariables false
set_option linter.unusedSimpArgs false
namespace Ab
open Go

/- Slots after an instruction. -/
def upE (e : Nat → AVal) (d : Option Nat) (v : AVal) : Nat → AVal :=
  match d with
  | some t => fun u => if u = t then v else e u
  | none => e

def upA (al : Nat → Option (Nat × Nat)) (d : Option Nat) (x : Option (Nat × Nat)) : Nat → Option (Nat × Nat) :=
  match d with
  | some t => fun u => if u = t then x else al u
  | none => al

def upB (e : Nat → AVal) (x : Option (Nat × AVal)) : Nat → AVal :=
  match x with
  | some (t, v) => fun u => if u = t then v else e u
  | none => e

/- Rows after an instruction. -/
def upG (g : Nat → Option Row) : List (Nat × Row) → Nat → Option Row
  | [] => g
  | (r, x) :: l => upG (fun u => if u = r then some x else g u) l

def upN (g : Nat → Option Row) (nx : Nat) : Option Row → Nat → Option Row
  | none => g
  | some x => fun u => if u = nx then some x else g u

def upO (g : Nat → Option Row) (nx : Nat) (o : Out) : Nat → Option Row := upN (upG g o.puts) nx o.new

section
variable {P : Program} {bs : List Nat} {m : M} {bm : BM} {e : Nat → AVal} {al : Nat → Option (Nat × Nat)} {tm : Array Value} {w : World} {g : Nat → Option Row}

theorem getD_set (tm : Array Value) (t u : Nat) (x : Value) (h : t < tm.size) : (tm.setIfInBounds t x).getD u undef = if u = t then x else tm.getD u undef := by
  by_cases hu : u = t
  · subst hu; simp [Array.getD_eq_getD_getElem?, h]
  · simp [Array.getD_eq_getD_getElem?, hu, Array.getElem?_setIfInBounds_ne (Ne.symm hu)]

theorem SlotRel.mono {m' : M} {bm' : BM} {w' : World} (hle : MLe m m') (t : Nat) (hb : ∀ b, bm t = some b → bm' t = some b ∧ w'.heap[b]? = w.heap[b]?) {x : AVal} {v : Value} (h : SlotRel m bm w t x v) : SlotRel m' bm' w' t x v := by
  unfold SlotRel at h ⊢
  split at h
  · rename_i cs
    obtain ⟨b, h1, h2, c, et, fr, h3, h4, h5, h6⟩ := h
    obtain ⟨g1, g2⟩ := hb b h1
    exact ⟨b, g1, h2, c, et, fr, by rw [g2]; exact h3, h4, h5, fun i x hx => ⟨(h6 i x hx).1, by obtain ⟨v, q1, q2⟩ := (h6 i x hx).2; exact ⟨v, q1, q2.mono hle⟩⟩⟩
  · exact h.mono hle

/-- The slots stay related while what is known of rows grows and boxes are left alone. -/
theorem Fr.later {m' : M} {w' : World} (hF : Fr m bm e al tm w) (hL : Later m bm w m' bm w') (hb : ∀ t b, bm t = some b → w'.heap[b]? = w.heap[b]?) : Fr m' bm e al tm w' where
  slot := fun t => (hF.slot t).mono hL.le t fun b h => ⟨h, hb t b h⟩
  al := hF.al
  inj := hF.inj
  disj := fun t b h => by
    obtain ⟨h1, h2⟩ := hF.disj t b h
    refine ⟨Nat.lt_of_lt_of_le h1 hL.wfr.size, fun r p hr => ?_⟩
    rcases hL.rows r p hr with h' | h' | ⟨r0, p0, q1, q2, q3⟩
    · exact h2 r p h'
    · omega
    · rw [← q3]; exact h2 r0 p0 q1

/-- A plain value is laid into a slot. -/
theorem Fr.put (hF : Fr m bm e al tm w) {d : Option Nat} (hd : ∀ t, d = some t → t < tm.size) {v : AVal} {x : Value} (h : VRel m v x) :
    Fr m bm (upE e d v) (upA al d none) ((ac tm).put d x).tmps w := by
  cases d with
  | none => exact hF
  | some t =>
    have ht := hd t rfl
    have hbox : ∀ cs, v ≠ .box cs := by rintro cs rfl; simp [VRel] at h
    refine ⟨fun u => ?_, fun u t' off hu => ?_, hF.inj, hF.disj⟩
    · show SlotRel m bm w u (if u = t then v else e u) ((tm.setIfInBounds t x).getD u undef)
      rw [getD_set tm t u x ht]
      by_cases hu : u = t
      · rw [if_pos hu, if_pos hu]
        unfold SlotRel
        split
        · exact (hbox _ rfl).elim
        · exact h
      · rw [if_neg hu, if_neg hu]; exact hF.slot u
    · simp only [upA] at hu
      by_cases hut : u = t
      · simp [hut] at hu
      · rw [if_neg hut] at hu
        obtain ⟨b, h1, h2⟩ := hF.al u t' off hu
        refine ⟨b, h1, ?_⟩
        show (tm.setIfInBounds t x).getD u undef = _
        rw [getD_set tm t u x ht, if_neg hut]; exact h2

/-- An address within a box is laid into a slot. -/
theorem Fr.putAl (hF : Fr m bm e al tm w) {d : Option Nat} (hd : ∀ t, d = some t → t < tm.size) {u off b : Nat} (hb : bm u = some b) :
    Fr m bm (upE e d .opq) (upA al d (some (u, off))) ((ac tm).put d (.pointer (some ⟨b, off, none⟩))).tmps w := by
  cases d with
  | none => exact hF
  | some t =>
    have ht := hd t rfl
    have h0 := hF.put (d := some t) hd (v := .opq) (x := .pointer (some ⟨b, off, none⟩)) (by simp [VRel])
    refine ⟨h0.slot, fun u' t' off' hu => ?_, hF.inj, hF.disj⟩
    simp only [upA] at hu
    by_cases hut : u' = t
    · rw [if_pos hut] at hu
      injection hu with hu; injection hu with h1 h2
      subst h1; subst h2
      refine ⟨b, hb, ?_⟩
      show (tm.setIfInBounds t _).getD u' undef = _
      rw [getD_set tm t u' _ ht, if_pos hut]
    · rw [if_neg hut] at hu
      exact h0.al u' t' off' (by simp only [upA]; rw [if_neg hut]; exact hu)

/-- What an instruction comes to, in the Go machine and in the relation. -/
def Done (P : Program) (m : M) (bm : BM) (e : Nat → AVal) (al : Nat → Option (Nat × Nat)) (tm : Array Value) (w : World) (g : Nat → Option Row) (nx : Nat) (o : Oper) (out : Out) : Prop :=
  ∃ (n : Next) (x : Value) (w' : World) (m' : M) (bm' : BM), (execOp (ac tm).eval o).run P w = .ok n w' ∧ (n = .value x ∨ (n = .skip ∧ x = undef)) ∧
    Later m bm w m' bm' w' ∧ Sim m' (upO g nx out) w' ∧ Fr m' bm' (upB (upE e o.dst out.v) out.bx) (upA al o.dst out.al) ((ac tm).put o.dst x).tmps w' ∧
    (∀ r, m' r ≠ .unk → m r = .unk → r = nx)

theorem Pur.done (hF : Fr m bm e al tm w) (hS : Sim m g w) {o : Oper} {out : Out} (hd : ∀ t, o.dst = some t → t < tm.size) (h : Pur P m tm o w out) (nx : Nat) : Done P m bm e al tm w g nx o out := by
  obtain ⟨x, h1, h2, h3, h4, h5, h6⟩ := h
  refine ⟨.value x, x, w, m, bm, h1, .inl rfl, .refl _ _ _, ?_, ?_, fun r a b => (a b).elim⟩
  · simp only [upO, h5, h6, upG, upN]; exact hS
  · rw [h3, h4]; exact hF.put hd h2

theorem RowRel.mono {m' : M} (h : MLe m m') {p : Pl} {row : Row} {o : Obj} (hr : RowRel m p row o) : RowRel m' p row o := by
  have hcs : ∀ {cs c sh}, CsRel m cs c sh → CsRel m' cs c sh := fun hc i x hx => ⟨(hc i x hx).1, by obtain ⟨v, q1, q2⟩ := (hc i x hx).2; exact ⟨v, q1, q2.mono h⟩⟩
  have hes : ∀ {es : List (AVal × AVal)} {l : List MapEntry}, EsRel m es l → EsRel m' es l := by
    intro es
    induction es with
    | nil => intro l h; exact h
    | cons x r ih =>
      intro l hh
      obtain ⟨k, v⟩ := x
      simp only [EsRel] at hh ⊢
      obtain ⟨en, t, rfl, h1, h2, h3⟩ := hh
      exact ⟨en, t, rfl, h1.mono h, h2.mono h, ih h3⟩
  cases row with
  | cells et hd cs => obtain ⟨c, fr, rfl, q0, q1, q2, q3, q4, q5⟩ := hr; exact ⟨c, fr, rfl, q0, q1, q2, q3, q4, hcs q5⟩
  | fix cs => obtain ⟨c, et, fr, rfl, q⟩ := hr; exact ⟨c, et, fr, rfl, hcs q⟩
  | map es => obtain ⟨a, ck, rfl, q1, q2⟩ := hr; exact ⟨a, ck, rfl, q1, hes q2⟩
  | dead => exact hr.elim

/-- The simulation goes on: rows that are as they were, and those of which it is shown anew. -/
theorem Sim.next {m' : M} {g' : Nat → Option Row} {w' : World} (hS : Sim m g w) (hle : MLe m m')
    (hrow : ∀ r p, m' r = .at p → (m r = .at p ∧ g' r = g r ∧ w'.heap[p.b]? = w.heap[p.b]?) ∨ ∃ row o, g' r = some row ∧ w'.heap[p.b]? = some o ∧ RowRel m' p row o)
    (hdead : ∀ r, m' r = .dead → g' r = some .dead)
    (hinj : ∀ r r' p p', m' r = .at p → m' r' = .at p' → p.own = true → p.b = p'.b → r = r') : Sim m' g' w' where
  row := fun r p h => by
    rcases hrow r p h with ⟨h1, h2, h3⟩ | h'
    · obtain ⟨row, o, q1, q2, q3⟩ := hS.row r p h1
      exact ⟨row, o, by rw [h2]; exact q1, by rw [h3]; exact q2, q3.mono hle⟩
    · exact h'
  dead := hdead
  inj := hinj

theorem Sim.lt (hS : Sim m g w) {r : Nat} {p : Pl} (h : m r = .at p) : p.b < w.heap.size := by
  obtain ⟨row, o, _, h2, _⟩ := hS.row r p h
  rcases Nat.lt_or_ge p.b w.heap.size with h' | h'
  · exact h'
  · rw [Array.getElem?_eq_none h'] at h2; cases h2

/-- A new block that a new row lies in. -/
theorem new_row (hF : Fr m bm e al tm w) (hS : Sim m g w) {nx : Nat} (hnx : m nx = .unk) {ob : Obj} {row : Row} {p : Pl} (hp : p.b = w.heap.size) (w' : World)
    (hw : w'.heap = w.heap.push ob) (hos : w'.os = w.os) (htp : w'.tape = w.tape) (hot : w'.output = w.output)
    (hrow : RowRel (fun r => if r = nx then .at p else m r) p row ob) :
    Later m bm w (fun r => if r = nx then .at p else m r) bm w' ∧ Sim (fun r => if r = nx then .at p else m r) (fun u => if u = nx then some row else g u) w' ∧
      Fr (fun r => if r = nx then .at p else m r) bm e al tm w' := by
  have hle : MLe m (fun r => if r = nx then .at p else m r) := by
    constructor
    · intro r q h
      refine .inl ?_
      have : r ≠ nx := by rintro rfl; rw [hnx] at h; cases h
      simp only [if_neg this]; exact h
    · intro r h
      have : r ≠ nx := by rintro rfl; rw [hnx] at h; cases h
      simp only [if_neg this]; exact h
  have hheap : ∀ b, b < w.heap.size → w'.heap[b]? = w.heap[b]? := by
    intro b hb; rw [hw, Array.getElem?_push, if_neg (by omega)]
  have hL : Later m bm w (fun r => if r = nx then .at p else m r) bm w' := by
    refine ⟨hle, ⟨hos, htp, hot, by rw [hw]; simp, fun b hb _ => hheap b hb⟩, fun r q h => ?_, fun t b h => .inl h⟩
    by_cases hr : r = nx
    · simp only [hr, if_true] at h
      injection h with h; subst h
      exact .inr (.inl (by omega))
    · simp only [if_neg hr] at h; exact .inl h
  refine ⟨hL, ?_, hF.later hL fun t b h => hheap b (hF.disj t b h).1⟩
  refine hS.next hle (fun r q h => ?_) (fun r h => ?_) (fun r r' q q' h h' ho he => ?_)
  · by_cases hr : r = nx
    · simp only [hr, if_true] at h
      injection h with h; subst h
      refine .inr ⟨row, ob, by simp [hr], ?_, hrow⟩
      rw [hw, hp]; simp
    · simp only [if_neg hr] at h
      exact .inl ⟨h, by simp [hr], hheap _ (hS.lt h)⟩
  · by_cases hr : r = nx
    · simp [hr] at h
    · simp only [if_neg hr] at h ⊢
      exact hS.dead r h
  · by_cases hr : r = nx <;> by_cases hr' : r' = nx
    · rw [hr, hr']
    · simp only [hr, if_true] at h
      simp only [if_neg hr'] at h'
      injection h with h; subst h
      have := hS.lt h'
      omega
    · simp only [hr', if_true] at h'
      simp only [if_neg hr] at h
      injection h' with h'; subst h'
      have := hS.lt h
      omega
    · simp only [if_neg hr] at h
      simp only [if_neg hr'] at h'
      exact hS.inj r r' q q' h h' ho he

end
end Ab

/- Instructions that make rows and boxes. -/
set_option linter.unusedVariables false
set_option linter.unusedSimpArgs false
namespace Ab
open Go

section
variable {P : Program} {bs : List Nat} {m : M} {bm : BM} {e : Nat → AVal} {al : Nat → Option (Nat × Nat)} {tm : Array Value} {w : World} {g : Nat → Option Row}

theorem CsRel.of {cs : List AVal} {c : Array Value} (h : VsRel m cs c.toList) (hs : allSc cs = true) : CsRel m cs c 0 := by
  intro i x hx
  refine ⟨?_, ?_⟩
  · have := List.mem_of_getElem? hx
    exact (List.all_eq_true.1 hs) x this
  · obtain ⟨v, h1, h2⟩ := h.get i x hx
    exact ⟨v, by rw [Nat.zero_add]; simpa using h1, h2⟩

theorem NoFr.zero (n : Nat) : NoFr (0, 0) n := rfl

theorem run_newVar (t : TypeId) (v : Value) : (newVar t v).run P w = .ok ⟨w.heap.size, 0, none⟩ { w with heap := w.heap.push (.cells v.cells t) } := by
  simp [newVar, newRow, newObj, Sem.run]

/-- A new box in a slot. -/
theorem new_box (hF : Fr m bm e al tm w) (hS : Sim m g w) {t : Nat} (ht : t < tm.size) (hfree : ∀ u p, al u = some p → p.1 ≠ t) {c : Array Value} {et : TypeId} {cs : List AVal} (hc : VsRel m cs c.toList) (hs : allSc cs = true)
    (w' : World) (hw : w'.heap = w.heap.push (.cells c et)) (hos : w'.os = w.os) (htp : w'.tape = w.tape) (hot : w'.output = w.output) :
    Later m bm w m (fun u => if u = t then some w.heap.size else bm u) w' ∧ Sim m g w' ∧
      Fr m (fun u => if u = t then some w.heap.size else bm u) (upE e (some t) (.box cs)) (upA al (some t) none) ((ac tm).put (some t) (.pointer (some ⟨w.heap.size, 0, none⟩))).tmps w' := by
  have hheap : ∀ b, b < w.heap.size → w'.heap[b]? = w.heap[b]? := by
    intro b hb; rw [hw, Array.getElem?_push, if_neg (by omega)]
  have hsz : w'.heap.size = w.heap.size + 1 := by rw [hw]; simp
  refine ⟨⟨.refl m, ⟨hos, htp, hot, by omega, fun b hb _ => hheap b hb⟩, fun r p h => .inl h, fun u b h => ?_⟩, ?_, ?_⟩
  · by_cases hu : u = t
    · simp only [hu, if_true] at h; injection h with h; exact .inr (by omega)
    · simp only [if_neg hu] at h; exact .inl h
  · exact hS.next (.refl m) (fun r p h => .inl ⟨h, rfl, hheap _ (hS.lt h)⟩) hS.dead hS.inj
  · refine ⟨fun u => ?_, fun u t' off hu => ?_, fun u u' b h h' => ?_, fun u b h => ?_⟩
    · show SlotRel m _ w' u (if u = t then .box cs else e u) ((tm.setIfInBounds t _).getD u undef)
      rw [getD_set tm t u _ ht]
      by_cases hu : u = t
      · rw [if_pos hu, if_pos hu]
        refine ⟨w.heap.size, by simp [hu], rfl, c, et, (0, 0), by rw [hw]; simp, NoFr.zero _, ?_, CsRel.of hc hs⟩
        have := hc.length
        simpa using this
      · rw [if_neg hu, if_neg hu]
        exact (hF.slot u).mono (.refl m) u fun b hb => ⟨by simp only [if_neg hu]; exact hb, hheap b (hF.disj u b hb).1⟩
    · simp only [upA] at hu
      by_cases hut : u = t
      · simp [hut] at hu
      · rw [if_neg hut] at hu
        obtain ⟨b, h1, h2⟩ := hF.al u t' off hu
        have hne : t' ≠ t := hfree u _ hu
        refine ⟨b, by simp only [if_neg hne]; exact h1, ?_⟩
        show (tm.setIfInBounds t _).getD u undef = _
        rw [getD_set tm t u _ ht, if_neg hut]; exact h2
    · by_cases hu : u = t <;> by_cases hu' : u' = t
      · rw [hu, hu']
      · simp only [hu, if_true] at h
        simp only [if_neg hu'] at h'
        injection h with h
        have := (hF.disj u' b h').1
        omega
      · simp only [hu', if_true] at h'
        simp only [if_neg hu] at h
        injection h' with h'
        have := (hF.disj u b h).1
        omega
      · simp only [if_neg hu] at h
        simp only [if_neg hu'] at h'
        exact hF.inj u u' b h h'
    · by_cases hu : u = t
      · simp only [hu, if_true] at h
        injection h with h; subst h
        exact ⟨by omega, fun r p hr => by have := hS.lt hr; omega⟩
      · simp only [if_neg hu] at h
        obtain ⟨h1, h2⟩ := hF.disj u b h
        exact ⟨by omega, h2⟩

theorem free_spec : ∀ (a : Al) (t : Nat), a.free t = true → ∀ u p, a.get u = some p → p.1 ≠ t
  | [], t, h, u, p, hu => by simp [Al.get] at hu
  | (k, v) :: r, t, h, u, p, hu => by
    simp only [Al.free] at h
    split at h
    · simp at h
    · rename_i hv
      simp only [Al.get] at hu
      split at hu
      · injection hu with hu; subst hu; exact hv
      · exact free_spec r t h u p hu

/-- A new row whose address goes into a slot. -/
theorem done_new (hF : Fr m bm e al tm w) (hS : Sim m g w) {o : Oper} (hd : ∀ t, o.dst = some t → t < tm.size) {nx : Nat} (hnx : m nx = .unk) {ob : Obj} {row : Row} {p : Pl} (hp : p.b = w.heap.size) {w' : World} {x : Value} {v : AVal}
    (hrun : (execOp (ac tm).eval o).run P w = .ok (.value x) w') (hw : w'.heap = w.heap.push ob) (hos : w'.os = w.os) (htp : w'.tape = w.tape) (hot : w'.output = w.output)
    (hrow : RowRel (fun r => if r = nx then .at p else m r) p row ob) (hv : VRel (fun r => if r = nx then .at p else m r) v x) :
    Done P m bm e al tm w g nx o { v := v, new := some row } := by
  obtain ⟨h1, h2, h3⟩ := new_row hF hS hnx hp w' hw hos htp hot hrow
  refine ⟨.value x, x, w', _, bm, hrun, .inl rfl, h1, h2, h3.put hd hv, fun r a b => ?_⟩
  by_cases hr : r = nx
  · exact hr
  · simp only [if_neg hr] at a; exact (a b).elim

theorem MLe.new {nx : Nat} (hnx : m nx = .unk) (p : Pl) : MLe m (fun r => if r = nx then .at p else m r) := by
  constructor
  · intro r q h
    refine .inl ?_
    have : r ≠ nx := by rintro rfl; rw [hnx] at h; cases h
    simp only [if_neg this]; exact h
  · intro r h
    have : r ≠ nx := by rintro rfl; rw [hnx] at h; cases h
    simp only [if_neg this]; exact h

theorem VsRel.mono' {m' : M} (h : MLe m m') {l : List AVal} {vs : List Value} (k : VsRel m l vs) : VsRel m' l vs := VsRel.mono h l vs k

/-- A new row of cells. -/
theorem row_new {nx : Nat} (hnx : m nx = .unk) {cs : List AVal} {c : Array Value} (hc : VsRel m cs c.toList) (hs : allSc cs = true) (et : TypeId) (extra : Array Value) (b : Nat) :
    RowRel (fun r => if r = nx then .at ⟨b, 0, (c ++ extra).size, true⟩ else m r) ⟨b, 0, (c ++ extra).size, true⟩ (.cells et true cs) (.cells (c ++ extra) et) := by
  refine ⟨c ++ extra, (0, 0), rfl, fun _ => rfl, rfl, rfl, NoFr.zero _, ?_, ?_⟩
  · have := hc.length
    simp at this ⊢; omega
  · intro i x hx
    obtain ⟨h1, v, h2, h3⟩ := CsRel.of hc hs i x hx
    refine ⟨h1, v, ?_, h3.mono (MLe.new hnx _)⟩
    have hlt : 0 + i < c.size := (Array.getElem?_eq_some_iff.1 h2).1
    rw [Array.getElem?_append_left hlt]; exact h2

theorem row_new' {nx : Nat} (hnx : m nx = .unk) {cs : List AVal} {c : Array Value} (hc : VsRel m cs c.toList) (hs : allSc cs = true) (et : TypeId) (b : Nat) :
    RowRel (fun r => if r = nx then .at ⟨b, 0, c.size, true⟩ else m r) ⟨b, 0, c.size, true⟩ (.cells et true cs) (.cells c et) := by
  have := row_new hnx hc hs et #[] b
  simpa using this

theorem s_alloc (hF : Fr m bm e al tm w) (hS : Sim m g w) {o : Oper} (hd : ∀ t, o.dst = some t → t < tm.size) {el : TypeId} (ho : o.op = .alloc el) {i : Ins} (hc : cIns P bs o = some i) {fr : Nat → Bool} (hfr : ∀ t, fr t = true → ∀ u p, al u = some p → p.1 ≠ t) {nx : Nat} (hnx : m nx = .unk) {out : Out}
    (hs : i.sem e al g fr nx o.dst = some out) : Done P m bm e al tm w g nx o out := by
  simp only [cIns, ho, Option.map_eq_some_iff] at hc
  obtain ⟨z, hz, rfl⟩ := hc
  obtain ⟨it, zv, hi, hiz, hzl, hlen, hsz⟩ := zeroT_spec hz
  obtain ⟨hzr, hzs⟩ := absL_rel (m := m) hzl
  have hrun : (execOp (ac tm).eval o).run P w = .ok (.value (.pointer (some ⟨w.heap.size, 0, none⟩))) { w with heap := w.heap.push (.cells zv.cells el) } := by
    simp [execOp, ho, Instr.alloc, zeroValue, run_info hi, hiz, run_newVar]
  split at hs
  · simp only [Ins.sem] at hs
    split at hs
    · rename_i t hdst
      split at hs
      · rename_i hh
        simp at hs; subst hs
        obtain ⟨h1, h2, h3⟩ := new_box hF hS (hd t hdst) (hfr t hh.1) (et := el) hzr hzs { w with heap := w.heap.push (.cells zv.cells el) } rfl rfl rfl rfl
        refine ⟨_, _, _, m, _, hrun, .inl rfl, h1, h2, ?_, fun r a b => (a b).elim⟩
        rw [hdst]; exact h3
      · simp at hs
    · simp at hs
  · simp only [Ins.sem, hzs, if_true] at hs
    injection hs with hs; subst hs
    exact done_new hF hS hd hnx (p := ⟨w.heap.size, 0, zv.cells.size, true⟩) rfl hrun rfl rfl rfl rfl (row_new' hnx hzr hzs el _) (by simp only [VRel, if_true])

theorem s_box (hF : Fr m bm e al tm w) (hS : Sim m g w) {o : Oper} (hd : ∀ t, o.dst = some t → t < tm.size) {el : TypeId} {x : Operand} (ho : o.op = .box el x) {i : Ins} (hc : cIns P bs o = some i) {fr : Nat → Bool} (hfr : ∀ t, fr t = true → ∀ u p, al u = some p → p.1 ≠ t) {nx : Nat} (hnx : m nx = .unk) {out : Out}
    (hs : i.sem e al g fr nx o.dst = some out) : Done P m bm e al tm w g nx o out := by
  simp only [cIns, ho] at hc
  split at hc
  · rename_i n y hn hy
    simp at hc; subst hc
    have hrun : (execOp (ac tm).eval o).run P w = .ok (.value (.pointer (some ⟨w.heap.size, 0, none⟩))) { w with heap := w.heap.push (.cells ((ac tm).eval x).cells el) } := by
      simp [execOp, ho, Instr.box, run_newVar]
    have hpl : allSc (opd e y).cells = true → (opd e y).plain = true := by
      intro hsc
      cases hx : opd e y <;> first | rfl | skip
      rw [hx] at hsc; simp [AVal.cells, allSc, AVal.sc] at hsc
    split at hs
    · simp only [Ins.sem] at hs
      split at hs
      · rename_i t hdst
        split at hs
        · rename_i hh
          simp at hs; subst hs
          have hcells := (opd_rel hF hy (hpl hh.2.2)).cells hh.2.2
          obtain ⟨h1, h2, h3⟩ := new_box hF hS (hd t hdst) (hfr t hh.1) (et := el) hcells hh.2.2 { w with heap := w.heap.push (.cells ((ac tm).eval x).cells el) } rfl rfl rfl rfl
          refine ⟨_, _, _, m, _, hrun, .inl rfl, h1, h2, ?_, fun r a b => (a b).elim⟩
          rw [hdst]; exact h3
        · simp at hs
      · simp at hs
    · simp only [Ins.sem] at hs
      split at hs
      · rename_i hh
        simp at hs; subst hs
        have hcells := (opd_rel hF hy (hpl hh.2)).cells hh.2
        exact done_new hF hS hd hnx (p := ⟨w.heap.size, 0, ((ac tm).eval x).cells.size, true⟩) rfl hrun rfl rfl rfl rfl (row_new' hnx hcells hh.2 el _) (by simp only [VRel, if_true])
      · simp at hs
  · simp at hc

theorem s_makeMap (hF : Fr m bm e al tm w) (hS : Sim m g w) {o : Oper} (hd : ∀ t, o.dst = some t → t < tm.size) {t : TypeId} {r : Option Operand} (ho : o.op = .makeMap t r) {i : Ins} (hc : cIns P bs o = some i) {fr : Nat → Bool} {nx : Nat} (hnx : m nx = .unk) {out : Out}
    (hs : i.sem e al g fr nx o.dst = some out) : Done P m bm e al tm w g nx o out := by
  cases r with
  | some z => simp [cIns, ho] at hc
  | none =>
    simp [cIns, ho] at hc; subst hc
    simp [Ins.sem] at hs; subst hs
    exact done_new hF hS hd hnx (ob := .map #[] 0) (x := .map (some w.heap.size)) (p := ⟨w.heap.size, 0, 0, true⟩) (w' := { w with heap := w.heap.push (.map #[] 0) }) rfl (by simp [execOp, ho, Instr.makeMap, newObj, Sem.run]) rfl rfl rfl rfl ⟨#[], 0, rfl, rfl, by simp [EsRel]⟩
      (by simp only [VRel, if_true])

/-- The zero cells of a row. -/
theorem zero_cells (z : Array Value) (n : Nat) (hz : 0 < z.size) : ((Array.range (n * z.size)).map (fun i => z[i % z.size]!)).toList = (List.replicate n z.toList).flatten := by
  apply List.ext_getElem?
  intro j
  have hlen : (List.replicate n z.toList).flatten.length = n * z.size := by simp
  by_cases hj : j < n * z.size
  · have h1 : ((Array.range (n * z.size)).map (fun i => z[i % z.size]!)).toList[j]? = some (z[j % z.size]!) := by
      simp [hj]
    rw [h1]
    have hmod : j % z.size < z.size := Nat.mod_lt _ hz
    have : ∀ (n : Nat) (j : Nat), j < n * z.size → (List.replicate n z.toList).flatten[j]? = some (z[j % z.size]!) := by
      intro n
      induction n with
      | zero => intro j hj; omega
      | succ n ih =>
        intro j hj
        rw [List.replicate_succ, List.flatten_cons]
        by_cases hlt : j < z.size
        · rw [List.getElem?_append_left (by simpa using hlt), Nat.mod_eq_of_lt hlt]
          simp [hlt]
        · rw [List.getElem?_append_right (by simpa using Nat.le_of_not_lt hlt)]
          have : z.toList.length = z.size := by simp
          rw [this, ih (j - z.size) (by rw [Nat.succ_mul] at hj; omega)]
          congr 2
          rw [Nat.mod_eq_sub_mod (Nat.le_of_not_lt hlt)]
    rw [this n j hj]
  · rw [List.getElem?_eq_none (by simpa using hj), List.getElem?_eq_none (by rw [hlen]; omega)]

theorem rep_rel {z : List AVal} {zv : List Value} (h : VsRel m z zv) (n : Nat) : VsRel m (rep n z) (List.replicate n zv).flatten := by
  unfold rep
  induction n with
  | zero => exact .nil
  | succ n ih => rw [List.replicate_succ, List.replicate_succ, List.flatten_cons, List.flatten_cons]; exact h.append ih

theorem rep_sc {z : List AVal} (h : allSc z = true) (n : Nat) : allSc (rep n z) = true := by
  unfold rep allSc at *
  simp only [List.all_flatten]
  rw [List.all_eq_true]
  intro l hl
  rw [List.eq_of_mem_replicate hl]; exact h

theorem fills_sc (ev : Nat → AVal) : ∀ (l : List (Nat × Nat × Opd)) (cs cs' : List AVal), allSc cs = true → fills ev cs l = some cs' → allSc cs' = true
  | [], cs, cs', h, hf => by simp [fills] at hf; subst hf; exact h
  | (off, n, x) :: r, cs, cs', h, hf => by
    simp only [fills] at hf
    split at hf
    · rename_i hh
      refine fills_sc ev r _ cs' ?_ hf
      unfold splice allSc at *
      simp only [List.all_append, Bool.and_eq_true]
      refine ⟨⟨?_, hh.2.2⟩, ?_⟩
      · rw [List.all_eq_true] at h ⊢; exact fun y hy => h y (List.mem_of_mem_take hy)
      · rw [List.all_eq_true] at h ⊢; exact fun y hy => h y (List.mem_of_mem_drop hy)
    · simp at hf

theorem s_buildSlice (hF : Fr m bm e al tm w) (hS : Sim m g w) {o : Oper} (hd : ∀ t, o.dst = some t → t < tm.size) {t : TypeId} {ln : Nat} {ps : Array (Nat × Operand)} (ho : o.op = .buildSlice t ln ps) {i : Ins} (hc : cIns P bs o = some i) {fr : Nat → Bool} {nx : Nat} (hnx : m nx = .unk) {out : Out}
    (hs : i.sem e al g fr nx o.dst = some out) : Done P m bm e al tm w g nx o out := by
  simp only [cIns, ho] at hc
  split at hc
  · rename_i el hu
    split at hc
    · rename_i z n hz hn
      split at hc
      · rename_i hh
        simp only [Option.map_eq_some_iff] at hc
        obtain ⟨l, hl, rfl⟩ := hc
        simp only [Ins.sem] at hs
        split at hs
        · rename_i cs hf
          split at hs
          · rename_i hcs
            simp at hs; subst hs
            obtain ⟨it, zv, hi, hiz, hzl, hlen, hsz⟩ := zeroT_spec hz
            obtain ⟨hzr, hzs⟩ := absL_rel (m := m) hzl
            have hnn : it.size = n := by
              simp only [sizeT, hi, Option.map_some, Option.some.injEq] at hn; exact hn
            obtain ⟨c', g1, g2, g3⟩ := fill_sound hF (fun i => some (i * n, n)) hl (rep_rel hzr ln) hf
            have hlenc := g2.length
            refine done_new hF hS hd hnx (ob := .cells c'.toArray el) (p := ⟨w.heap.size, 0, c'.toArray.size, true⟩) (w' := { w with heap := w.heap.push (.cells c'.toArray el) }) (x := .slice (some ⟨w.heap.size, 0, none⟩) ln ln) rfl ?_ rfl rfl rfl rfl
              (row_new' hnx (c := c'.toArray) (by simpa using g2) (fills_sc e _ _ _ (rep_sc hzs ln) hf) el _) ?_
            · have hbig : ¬ (16777216 < ln * n) := by omega
              have hzero : (Sem.run P (if ln * n = 0 then pure #[] else do pure (← zeroValue el).cells : Sem (Array Value)) w) = .ok (if ln * n = 0 then #[] else zv.cells) w := by
                split <;> simp [zeroValue, run_info hi, hiz]
              have hfill : Instr.fill (fun i => some (i * n, n)) ((Array.range (ln * n)).map fun i => (if ln * n = 0 then #[] else zv.cells)[i % (if ln * n = 0 then #[] else zv.cells).size]!) (ps.toList.map fun p => (p.1, (ac tm).eval p.2)) = some c'.toArray := by
                rw [← g1]
                congr 1
                by_cases hz0 : ln * n = 0
                · have : ln = 0 := by
                    rcases Nat.mul_eq_zero.1 hz0 with h | h <;> omega
                  subst this
                  simp
                · rw [if_neg hz0]
                  have hzsz : zv.cells.size = n := by omega
                  have := zero_cells zv.cells ln (by omega)
                  rw [hzsz] at this ⊢
                  apply Array.ext'
                  simpa using this
              simp only [execOp, ho, Instr.buildSlice, Sem.run_bind, run_underlying hu, Result.andThen_ok, run_size hn, gt_iff_lt, Nat.reducePow, hbig, if_false, hzero, Array.toList_map, Sem.run_pure]
              by_cases hz0 : ln * n = 0
              · rw [if_pos hz0]
                simp only [if_pos hz0] at hfill
                simp only [Sem.run_bind, Sem.run_pure, Result.andThen_ok]
                rw [hfill]
                simp [newRow, newObj, Sem.run]
              · rw [if_neg hz0]
                simp only [if_neg hz0] at hfill
                simp only [Sem.run_bind, zeroValue, run_info hi, hiz, Sem.run_pure, Result.andThen_ok]
                rw [hfill]
                simp [newRow, newObj, Sem.run]
            · simp only [VRel, if_true]
              exact ⟨0, ln, rfl, Nat.le_refl _, .inr rfl, fun _ => .inr (by simp; omega)⟩
          · simp at hs
        · simp at hs
      · simp at hc
    · simp at hc
  · simp at hc

end
end Ab

/- Instructions that write. -/
set_option linter.unusedVariables false
set_option linter.unusedSimpArgs false
namespace Ab
open Go

section
variable {P : Program} {bs : List Nat} {m : M} {bm : BM} {e : Nat → AVal} {al : Nat → Option (Nat × Nat)} {tm : Array Value} {w : World} {g : Nat → Option Row}

theorem VRel.oneCell {x : AVal} {v : Value} (h : VRel m x v) (hs : x.sc = true) : v.oneCell' = true := by
  obtain ⟨_, h1, h2⟩ := h.one hs
  cases v <;> first | rfl | exact (h1 _ rfl).elim | exact (h2 _ rfl).elim

theorem VsRel.oneCells : ∀ {cs : List AVal} {vs : List Value}, VsRel m cs vs → allSc cs = true → ∀ v ∈ vs, v.oneCell' = true
  | [], vs, h, _, v, hv => by rw [h.unnil] at hv; cases hv
  | x :: r, vs, h, hs, v, hv => by
    obtain ⟨u, l, rfl, h1, h2⟩ := h.uncons
    simp only [allSc, List.all_cons, Bool.and_eq_true] at hs
    cases hv with
    | head => exact h1.oneCell hs.1
    | tail _ hv => exact h2.oneCells hs.2 v hv

/-- Cells written over, in the row and in its block. -/
theorem CsRel.splice {cs vs : List AVal} {c : Array Value} {us : List Value} {sh off : Nat} (h : CsRel m cs c sh) (k : VsRel m vs us) (hs : allSc vs = true) (hle : off + vs.length ≤ cs.length) (hsz : sh + cs.length ≤ c.size) :
    CsRel m (splice cs off vs) (c.toList.take (sh + off) ++ us ++ c.toList.drop (sh + off + us.length)).toArray sh := by
  have hul := k.length
  intro i x hx
  unfold Ab.splice at hx
  have hclen : c.toList.length = c.size := by simp
  by_cases h1 : i < off
  · rw [List.append_assoc, List.getElem?_append_left (by simp; omega), List.getElem?_take_of_lt h1] at hx
    obtain ⟨q1, v, q2, q3⟩ := h i x hx
    refine ⟨q1, v, ?_, q3⟩
    simp only [List.getElem?_toArray]
    rw [List.append_assoc, List.getElem?_append_left (by simp; omega), List.getElem?_take_of_lt (by omega)]
    simpa using q2
  · have htl : (cs.take off).length = off := by simp; omega
    rw [List.append_assoc, List.getElem?_append_right (by omega), htl] at hx
    have htl2 : (c.toList.take (sh + off)).length = sh + off := by simp; omega
    by_cases h2 : i - off < vs.length
    · rw [List.getElem?_append_left h2] at hx
      obtain ⟨v, q1, q2⟩ := k.get _ _ hx
      refine ⟨(List.all_eq_true.1 hs) x (List.mem_of_getElem? hx), v, ?_, q2⟩
      simp only [List.getElem?_toArray]
      rw [List.append_assoc, List.getElem?_append_right (by omega), htl2, List.getElem?_append_left (by omega)]
      rw [show sh + i - (sh + off) = i - off from by omega]; exact q1
    · rw [List.getElem?_append_right (by omega), List.getElem?_drop] at hx
      have hidx : off + vs.length + (i - off - vs.length) = i := by omega
      rw [hidx] at hx
      obtain ⟨q1, v, q2, q3⟩ := h i x hx
      refine ⟨q1, v, ?_, q3⟩
      simp only [List.getElem?_toArray]
      rw [List.append_assoc, List.getElem?_append_right (by omega), htl2, List.getElem?_append_right (by omega), List.getElem?_drop]
      rw [show sh + off + us.length + (sh + i - (sh + off) - us.length) = sh + i from by omega]
      simpa using q2

theorem run_storeVar {t : TypeId} {n : Nat} (hn : sizeT P t = some n) {v : Value} {us : List Value} (hu : v.cells.toList = us) (hl : us.length = n) (h1 : ∀ u ∈ us, u.oneCell' = true) {b o : Nat} {c : Array Value} {et : TypeId} (hh : w.heap[b]? = some (.cells c et (0, 0))) (hle : o + n ≤ c.size) :
    (storeVar t ⟨b, o, none⟩ v).run P w = .ok () (w.setRow b (c.toList.take o ++ us ++ c.toList.drop (o + us.length)).toArray) := by
  have hsz : v.cells.size = n := by rw [← hl, ← hu]; simp
  have := run_storeCells_at P b o et us 0 c w hh (by omega) h1
  simp only [Nat.add_zero] at this
  simp only [storeVar, Sem.run_bind, run_size hn, Result.andThen_ok, hsz, ne_eq, not_true, if_false, hu, Sem.run_ite]
  exact this

/-- A write into an owned row. -/
theorem write_row (hF : Fr m bm e al tm w) (hS : Sim m g w) {r : Nat} {p : Pl} (hm : m r = .at p) (hown : p.own = true) {row : Row} {w' : World} (hsz : w'.heap.size = w.heap.size) (hos : w'.os = w.os) (htp : w'.tape = w.tape) (hot : w'.output = w.output)
    (hoth : ∀ b, b ≠ p.b → w'.heap[b]? = w.heap[b]?) (hrow : ∃ o, w'.heap[p.b]? = some o ∧ RowRel m p row o) :
    Later m bm w m bm w' ∧ Sim m (fun u => if u = r then some row else g u) w' ∧ Fr m bm e al tm w' := by
  have hL : Later m bm w m bm w' := by
    refine ⟨.refl m, ⟨hos, htp, hot, by omega, fun b hb hn => hoth b ?_⟩, fun r p h => .inl h, fun t b h => .inl h⟩
    rintro rfl
    exact hn (.inl ⟨r, p, hm, hown, rfl⟩)
  refine ⟨hL, ?_, hF.later hL fun t b h => hoth b ?_⟩
  · refine hS.next (.refl m) (fun r' p' h => ?_) (fun r' h => ?_) hS.inj
    · by_cases hr : r' = r
      · subst hr
        rw [hm] at h; injection h with h; subst h
        obtain ⟨o, h1, h2⟩ := hrow
        exact .inr ⟨row, o, by simp, h1, h2⟩
      · refine .inl ⟨h, by simp [hr], hoth _ fun he => hr ?_⟩
        exact (hS.inj r r' p p' hm h hown he.symm).symm
    · have hr : r' ≠ r := by rintro rfl; rw [hm] at h; cases h
      simp only [if_neg hr]; exact hS.dead r' h
  · rintro rfl
    exact (hF.disj t _ h).2 r p hm rfl

theorem skip_undef : (undef : Value) = .tuple #[] := rfl

theorem s_store (hF : Fr m bm e al tm w) (hS : Sim m g w) {o : Oper} (hd : ∀ t, o.dst = some t → t < tm.size) {t : TypeId} {a x : Operand} (ho : o.op = .store t a x) {i : Ins} (hc : cIns P bs o = some i) {fr : Nat → Bool} {nx : Nat} {out : Out}
    (hs : i.sem e al g fr nx o.dst = some out) : Done P m bm e al tm w g nx o out := by
  simp only [cIns, ho] at hc
  split at hc
  · rename_i y n z h1 h2 h3
    split at hc
    rotate_left 1
    · simp at hc
    rename_i hdst
    simp at hc; subst hc
    simp only [Ins.sem] at hs
    split at hs
    · rename_i hh
      obtain ⟨hlen, hsc⟩ := hh
      have hpl : (opd e z).plain = true := by
        cases hx : opd e z <;> first | rfl | skip
        rw [hx] at hsc; simp [AVal.cells, allSc, AVal.sc] at hsc
      have hcells := (opd_rel hF h3 hpl).cells hsc
      have hclen := hcells.length
      have hone := hcells.oneCells hsc
      obtain ⟨us, hus⟩ : ∃ us, ((ac tm).eval x).cells.toList = us := ⟨_, rfl⟩
      rw [hus] at hcells hclen hone
      split at hs
      · rename_i u off ha
        split at hs
        · rename_i cs he
          split at hs
          · rename_i hle
            simp at hs; subst hs
            obtain ⟨t', b, hx, hb, hv⟩ := addr_box hF h1 ha
            obtain ⟨c, et, fr', hh, hfr, hsz, hcs⟩ := box_at hF hb he
            have hfr : fr' = (0, 0) := hfr
            subst hfr
            have hst := run_storeVar (P := P) h2 (v := (ac tm).eval x) hus (by omega) hone hh (o := off) (by omega)
            have hne : ∀ b', b' ≠ b → (w.setRow b (c.toList.take off ++ us ++ c.toList.drop (off + us.length)).toArray).heap[b']? = w.heap[b']? := fun b' h => setRow_other w b b' _ h
            have hL : Later m bm w m bm (w.setRow b (c.toList.take off ++ us ++ c.toList.drop (off + us.length)).toArray) := by
              refine ⟨.refl m, ⟨rfl, rfl, rfl, by simp, fun b' hb' hn => hne b' ?_⟩, fun r p h => .inl h, fun t b h => .inl h⟩
              rintro rfl
              exact hn (.inr ⟨u, hb⟩)
            have hF0 := hF.put hd (v := .tup []) (x := undef) (by simp only [VRel]; exact ⟨[], rfl, .nil⟩)
            refine ⟨.skip, undef, _, m, bm, ?_, .inr ⟨rfl, rfl⟩, hL, ?_, ?_, fun r a b => (a b).elim⟩
            · simp only [execOp, ho, Instr.storeAt, hv, Instr.sureAddr, Sem.run_bind, Sem.run_pure, Result.andThen_ok, hst]
            · simp only [upO, upG, upN]
              exact hS.next (.refl m) (fun r p h => .inl ⟨h, rfl, hne _ fun he => (hF.disj u b hb).2 r p h he⟩) hS.dead hS.inj
            · rw [hdst] at hF0 ⊢
              refine ⟨fun v => ?_, hF0.al, hF.inj, fun v b' h => by obtain ⟨q1, q2⟩ := hF.disj v b' h; exact ⟨by simpa using q1, q2⟩⟩
              show SlotRel m bm _ v (if v = u then _ else e v) (tm.getD v undef)
              by_cases hvu : v = u
              · subst hvu
                rw [if_pos rfl]
                have hs0 := hF.slot v
                rw [he] at hs0
                obtain ⟨b0, hb0, hv0, _⟩ := hs0
                rw [hb] at hb0; injection hb0 with hb0; subst hb0
                refine ⟨b, hb, hv0, _, et, (0, 0), setRow_heap w b c _ et (0, 0) hh, rfl, ?_, ?_⟩
                · rw [splice_length (by omega)]; simp; omega
                · have := CsRel.splice (sh := 0) (off := off) hcs hcells hsc (by omega) (by omega)
                  simpa using this
              · rw [if_neg hvu]
                refine (hF0.slot v).mono (.refl m) v fun b' hb' => ⟨hb', hne b' ?_⟩
                rintro rfl
                exact hvu (hF.inj v u _ hb' hb)
          · simp at hs
        · simp at hs
      · rename_i r off ha
        have hy := addr_row hF h1 ha
        have hr := opd_rel hF h1 (by rw [hy]; rfl)
        rw [hy] at hr
        split at hs
        · rename_i et hd' cs hg
          split at hs
          · rename_i hle
            simp at hs; subst hs
            obtain ⟨p, ob, hm, hh, hrow⟩ := hS.lies hg (by simp) hr.ptr_known
            obtain ⟨c, fr', rfl, q0, q1, q2, q3, q4, q5⟩ := hrow
            have q3 : fr' = (0, 0) := q3
            subst q3
            have hv := hr.ptr_at hm
            have hst := run_storeVar (P := P) h2 (v := (ac tm).eval x) hus (by omega) hone hh (o := p.sh + off) (by omega)
            obtain ⟨g1, g2, g3⟩ := write_row hF hS hm q1 (row := .cells et hd' (splice cs off (opd e z).cells))
              (w' := w.setRow p.b (c.toList.take (p.sh + off) ++ us ++ c.toList.drop (p.sh + off + us.length)).toArray) (by simp) rfl rfl rfl
              (fun b h => setRow_other w p.b b _ h) ⟨_, setRow_heap w p.b c _ et (0, 0) hh, _, (0, 0), rfl, q0, q1, by simp; omega, rfl, by
                rw [splice_length (by omega)]; simp; omega, q5.splice hcells hsc (by omega) q4⟩
            refine ⟨.skip, undef, _, m, bm, ?_, .inr ⟨rfl, rfl⟩, g1, ?_, g3.put hd (by simp only [VRel]; exact ⟨[], rfl, .nil⟩), fun r a b => (a b).elim⟩
            · simp only [execOp, ho, Instr.storeAt, hv, Instr.sureAddr, Sem.run_bind, Sem.run_pure, Result.andThen_ok, hst]
            · simp only [upO, upG, upN]; exact g2
          · simp at hs
        · simp at hs
      · simp at hs
    · simp at hs
  · simp at hc

end
end Ab

/- Writes into maps; slices made. -/
set_option linter.unusedVariables false
set_option linter.unusedSimpArgs false
namespace Ab
open Go

section
variable {P : Program} {bs : List Nat} {m : M} {bm : BM} {e : Nat → AVal} {al : Nat → Option (Nat × Nat)} {tm : Array Value} {w : World} {g : Nat → Option Row}

theorem EsRel.snoc : ∀ {es : List (AVal × AVal)} {l : List MapEntry}, EsRel m es l → ∀ {k v : AVal} {en : MapEntry}, VRel m k en.key → VRel m v en.val → EsRel m (es ++ [(k, v)]) (l ++ [en])
  | [], l, h, k, v, en, h1, h2 => by
    simp only [EsRel] at h; subst h
    exact ⟨en, [], rfl, h1, h2, rfl⟩
  | (k', v') :: r, l, h, k, v, en, h1, h2 => by
    simp only [EsRel] at h
    obtain ⟨e', t, rfl, q1, q2, q3⟩ := h
    exact ⟨e', t ++ [en], rfl, q1, q2, q3.snoc h1 h2⟩

/-- What an update of the entries comes to: a place where the key is, or the end. -/
theorem ups_sound {t : TypeId} {et : ETy} (ht : eqT P t = some et) (hk : et.key = true) {a : AVal} {u : Value} (hu : VRel m a u) {vv : AVal} {x : Value} (hx : VRel m vv x) : ∀ (es : List (AVal × AVal)) (l : List MapEntry), EsRel m es l → ∀ es', ups et a vv es = some es' →
    (find et a es = some none ∧ es' = es ++ [(a, vv)]) ∨ ∃ n v en, find et a es = some (some v) ∧ l[n]? = some en ∧ en.key = u ∧ (∀ y, VRel m v y → True) ∧
      (∀ ans, Found m l (some v) ans → True) ∧ EsRel m es' (l.modify n fun en => { en with key := u, val := x }) ∧
      (∀ i, (Instr.findAsking t u l i).run P w = .ok (some (n + i, en.val)) w) ∧ (∀ b d, et = .basic b → P.underlying t = some d → ∀ i, Instr.findNow d u l i = some (some (n + i, en.val)))
  | [], l, hl, es', h => by
    simp [ups] at h; subst h
    exact .inl ⟨rfl, rfl⟩
  | (k, v) :: r', l, hl, es', h => by
    simp only [EsRel] at hl
    obtain ⟨en, tl, rfl, h1, h2, h3⟩ := hl
    simp only [ups] at h
    split at h
    · rename_i he
      simp at h; subst h
      have hkey : en.key = u := (eqv_same hk he hu h1).symm
      refine .inr ⟨0, v, en, by simp [find, he], rfl, hkey, fun _ _ => trivial, fun _ _ => trivial, ?_, fun i => ?_, fun b d hb hd i => ?_⟩
      · exact ⟨{ en with key := u, val := x }, tl, by simp, hu, hx, h3⟩
      · have := eqv_sound (P := P) (w := w) ht he hu h1 9998
        simp [Instr.findAsking, Op.equal, Op.maxDepth, this]
      · subst hb
        rw [eqv_basic] at he
        obtain ⟨d', hd', hs⟩ := sameNow_sound (P := P) (eqT_basic ht) he hu h1
        rw [hd] at hd'; injection hd' with hd'; subst hd'
        simp [Instr.findNow, hs]
    · rename_i he
      split at h
      · rename_i r'' hr
        simp at h; subst h
        rcases ups_sound ht hk hu hx r' tl h3 r'' hr with ⟨q1, q2⟩ | ⟨n, v0, en0, q1, q2, q3, _, _, q4, q5, q6⟩
        · exact .inl ⟨by simp [find, he, q1], by rw [q2]; rfl⟩
        · refine .inr ⟨n + 1, v0, en0, by simp [find, he, q1], by simpa using q2, q3, fun _ _ => trivial, fun _ _ => trivial, ⟨en, tl.modify n fun en => { en with key := u, val := x }, by simp, h1, h2, q4⟩, fun i => ?_, fun b d hb hd i => ?_⟩
          · have := eqv_sound (P := P) (w := w) ht he hu h1 9998
            simp [Instr.findAsking, Op.equal, Op.maxDepth, this, q5 (i + 1)]
            omega
          · have hn' := q6 b d hb hd (i + 1)
            subst hb
            rw [eqv_basic] at he
            obtain ⟨d', hd', hs⟩ := sameNow_sound (P := P) (eqT_basic ht) he hu h1
            rw [hd] at hd'; injection hd' with hd'; subst hd'
            simp only [Instr.findNow, hs, hn']
            simp
            omega
      · simp at h
    · simp at h

theorem findKey_at {t : TypeId} {et : ETy} (ht : eqT P t = some et) (hk : et.key = true) {u : Value} {l : List MapEntry} {n : Nat} {en : MapEntry} (hn : l[n]? = some en)
    (h5 : ∀ i, (Instr.findAsking t u l i).run P w = .ok (some (n + i, en.val)) w) (h6 : ∀ b d, et = .basic b → P.underlying t = some d → ∀ i, Instr.findNow d u l i = some (some (n + i, en.val))) :
    (Instr.findKey t u l).run P w = .ok (some (n, en.val)) w := by
  cases et with
  | basic b =>
    have hb := eqT_basic ht
    obtain ⟨d, hd⟩ : ∃ d, P.underlying t = some d := by
      unfold basicT at hb
      split at hb <;> simp at hb <;> exact ⟨_, by assumption⟩
    have := h6 b d rfl hd 0
    simp [Instr.findKey, run_underlying hd, this]
  | struct bl =>
    obtain ⟨fs, hd, _⟩ := eqT_struct ht
    have ha0 := h5 0
    cases l with
    | nil => simp at hn
    | cons e0 tl =>
      have : Instr.findNow (.struct fs) u (e0 :: tl) 0 = none := by
        simp only [Instr.findNow]
        have : Instr.sameNow (.struct fs) u e0.key = none := rfl
        rw [this]
      simp at ha0
      simp [Instr.findKey, run_underlying hd, this, ha0]
  | ptr => cases hk
  | slice => cases hk
  | func => cases hk

theorem run_setObj {b : Nat} {o o' : Obj} (h : w.heap[b]? = some o) (hc : ∀ c e f, o ≠ .cells c e f) : (setObj b o').run P w = .ok () { w with heap := w.heap.setIfInBounds b o' } := by
  simp only [setObj, Sem.run, h]

theorem c_mapup {o : Oper} {t : TypeId} {x k v : Operand} (ho : o.op = .mapUpdate t x k v ∨ o.op = .insert t x k v) {i : Ins} (hc : cIns P bs o = some i) :
    ∃ kt el et a b c, P.underlying t = some (.map kt el) ∧ eqT P kt = some et ∧ et.key = true ∧ cOpd x = some a ∧ cOpd k = some b ∧ cOpd v = some c ∧ i = .mapup a b c et ∧ o.dst = none := by
  have hc' : cMapup P o t x k v = some i := by rcases ho with ho | ho <;> simpa only [cIns, ho] using hc
  unfold cMapup at hc'
  split at hc'
  · rename_i kt el hu
    split at hc'
    · rename_i n a b c h1 h2 h3 h4
      split at hc'
      · rename_i hd
        simp at hc'
        exact ⟨kt, el, _, a, b, c, hu, h1, rfl, h2, h3, h4, hc'.symm, hd⟩
      · simp at hc'
    · rename_i n a b c h1 h2 h3 h4
      split at hc'
      · rename_i hd
        simp at hc'
        exact ⟨kt, el, _, a, b, c, hu, h1, rfl, h2, h3, h4, hc'.symm, hd⟩
      · simp at hc'
    · simp at hc'
  · simp at hc'

theorem s_mapup (hF : Fr m bm e al tm w) (hS : Sim m g w) {o : Oper} (hd : ∀ t, o.dst = some t → t < tm.size) {t : TypeId} {x k v : Operand} (ho : o.op = .mapUpdate t x k v ∨ o.op = .insert t x k v) {i : Ins} (hc : cIns P bs o = some i) {fr : Nat → Bool} {nx : Nat} {out : Out}
    (hs : i.sem e al g fr nx o.dst = some out) : Done P m bm e al tm w g nx o out := by
  obtain ⟨kt, el, et, a, b, c, hu, het, hkey, ha, hb, hcv, rfl, hdst⟩ := c_mapup ho hc
  simp only [Ins.sem] at hs
  split at hs
  · rename_i r hx
    split at hs
    · rename_i es hg
      split at hs
      · rename_i hh
        simp only [Bool.and_eq_true] at hh
        obtain ⟨hvp, hself⟩ := hh
        split at hs
        · rename_i es' hups
          simp at hs; subst hs
          obtain ⟨r0, hr0⟩ := Option.isSome_iff_exists.1 hself
          have hkr := opd_rel hF hb (eqv_shape hr0).2.2.1
          have hvr := opd_rel hF hcv hvp
          have h := opd_rel hF ha (by rw [hx]; rfl)
          rw [hx] at h
          obtain ⟨p, l, clock, hm, hv, hh, hel, hown⟩ := hS.map_lies hg h
          have hck := checkKey_sound (P := P) (w := w) het hkey hkr hr0 false
          have hgo : ∀ (l' : Array MapEntry) (ck : Nat), EsRel m es' l'.toList → (Instr.mapUpdate t ((ac tm).eval x) ((ac tm).eval k) ((ac tm).eval v)).run P w = .ok () { w with heap := w.heap.setIfInBounds p.b (.map l' ck) } →
              Done P m bm e al tm w g nx o { v := .tup [], puts := [(r, .map es')] } := by
            intro l' ck hes' hrun
            have hlt := hS.lt hm
            obtain ⟨g1, g2, g3⟩ := write_row hF hS hm hown (row := .map es') (w' := { w with heap := w.heap.setIfInBounds p.b (.map l' ck) }) (by simp) rfl rfl rfl
              (fun b hb => by simp [Array.getElem?_setIfInBounds_ne (Ne.symm hb)]) ⟨.map l' ck, by simp [hlt], l', ck, rfl, hown, hes'⟩
            refine ⟨.skip, undef, _, m, bm, ?_, .inr ⟨rfl, rfl⟩, g1, ?_, g3.put hd (by simp only [VRel]; exact ⟨[], rfl, .nil⟩), fun r a b => (a b).elim⟩
            · rcases ho with ho | ho <;> simp only [execOp, ho, Sem.run_bind, hrun, Result.andThen_ok, Sem.run_pure]
            · simp only [upO, upG, upN]; exact g2
          rcases ups_sound (P := P) (w := w) het hkey hkr hvr es l.toList hel es' hups with ⟨q1, q2⟩ | ⟨n, v0, en, q1, q2, q3, _, _, q4, q5, q6⟩
          · obtain ⟨ans, hf, hfk⟩ := findKey_sound (P := P) (w := w) het hkey hkr hel q1
            have hnone := hf.no rfl
            subst hnone
            refine hgo (l.push { key := (ac tm).eval k, val := (ac tm).eval v, born := clock }) (clock + 1) ?_ ?_
            · rw [q2, Array.toList_push]; exact hel.snoc hkr hvr
            · simp only [Instr.mapUpdate, Sem.run_bind, run_underlying hu, Result.andThen_ok, hv, run_getObj hh (by simp), hck, hfk]
              exact run_setObj hh (by simp)
          · have hfk := findKey_at (P := P) (w := w) het hkey q2 q5 q6
            have hln : l[n]? = some en := by simpa using q2
            refine hgo (l.modify n fun en => { en with key := (ac tm).eval k, val := (ac tm).eval v }) clock ?_ ?_
            · simpa using q4
            · have hsame : Instr.sameBits 10000 (((l[n]?).map (·.key)).getD ((ac tm).eval k)) ((ac tm).eval k) = true := by
                rw [hln]
                simp only [Option.map_some, Option.getD_some, q3]
                exact sameBits_eqv hkey hr0 hkr
              simp only [Instr.mapUpdate, Sem.run_bind, run_underlying hu, Result.andThen_ok, hv, run_getObj hh (by simp), hck, hfk, Instr.keyThatStays, hsame, if_true, Sem.run_pure, Sem.run_ite]
              exact run_setObj hh (by simp)
        · simp at hs
      · simp at hs
    · simp at hs
  · simp at hs

end
end Ab

/- Appends. -/
set_option linter.unusedVariables false
set_option linter.unusedSimpArgs false
namespace Ab
open Go

section
variable {P : Program} {bs : List Nat} {m : M} {bm : BM} {e : Nat → AVal} {al : Nat → Option (Nat × Nat)} {tm : Array Value} {w : World} {g : Nat → Option Row}

/-- What is appended: how many; its cells, whatever else has been drawn. -/
structure Src (P : Program) (w : World) (size : Nat) (x : Value) (n : Nat) (news : List Value) : Prop where
  len : (Builtin.lenOf x).run P w = .ok n w
  cells : (Builtin.firstCells size n x).run P w = .ok news.toArray w
  drew : (Builtin.firstCells size n x).run P w.drew = .ok news.toArray w.drew

theorem append_in {t u el ty : TypeId} {i : TypeInfo} (ht : P.underlying t = some (.slice el)) (hu : P.underlying u = some .string ∨ ∃ el', P.underlying u = some (.slice el')) (hi : P.info? el = some i) {b o : Nat} {sLen sCap n : Nat} {x : Value} {news : List Value}
    (hs : Src P w i.size x n news) (hle : sLen + n ≤ sCap) {c : Array Value} {et : TypeId} (hh : w.heap[b]? = some (.cells c et (0, 0))) (hl : o + sLen * i.size + news.length ≤ c.size) (h1 : ∀ v ∈ news, v.oneCell' = true) :
    (Builtin.append_ #[t, u] ty #[.slice (some ⟨b, o, none⟩) sLen sCap, x]).run P w =
      .ok (.slice (some ⟨b, o, none⟩) (sLen + n) sCap) (w.setRow b (c.toList.take (o + sLen * i.size) ++ news ++ c.toList.drop (o + sLen * i.size + news.length)).toArray) := by
  have hcs' := hs.cells
  have hst := run_storeCells_at P b (o + sLen * i.size) et news 0 c w hh (by omega) h1
  simp only [Nat.add_zero] at hst
  rcases hu with hu | ⟨el', hu⟩ <;>
    simp [Builtin.append_, run_underlying ht, run_underlying hu, Go.sizeOf, run_info hi, hs.len, hle, hcs', add_off, hst, hs.len]

theorem append_out {t u el ty : TypeId} {i : TypeInfo} {z : Value} (ht : P.underlying t = some (.slice el)) (hu : P.underlying u = some .string ∨ ∃ el', P.underlying u = some (.slice el')) (hi : P.info? el = some i) (hz : i.zero = some z) {base : Option Addr} {sLen sCap n : Nat} {x : Value} {news olds : List Value}
    (hs : Src P w i.size x n news) (hgt : sCap < sLen + n) (hbig : sLen + n ≤ 1073741824) (hby : i.bytes ≤ 4096)
    (hold : (Builtin.firstCells i.size sLen (.slice base sLen sCap)).run P w.drew = .ok olds.toArray w.drew) :
    (Builtin.append_ #[t, u] ty #[.slice base sLen sCap, x]).run P w =
      .ok (.slice (some ⟨w.heap.size, 0, none⟩) (sLen + n) (grownCap w (sLen + n) sCap el))
        (w.drew.alloc (.cells ((olds ++ news).toArray ++ Builtin.zeroCells z.cells (grownCap w (sLen + n) sCap el - (sLen + n))) el)) := by
  have hcs := hs.drew
  have hmul : (sLen + n) * i.bytes ≤ 1073741824 * 4096 := Nat.mul_le_mul hbig hby
  have hfit := growslice_fits (bytes := i.bytes) hgt (by omega)
  have hn : ¬ (sLen + n ≤ sCap) := by omega
  have h63' : ¬ (9223372036854775807 < ((sLen : Int) + (n : Int))) := by omega
  have h48' : ¬ (281474976710656 < Builtin.nextslicecap (sLen + n) sCap * i.bytes) := by omega
  have hass : ∀ q : Array Value, olds.toArray ++ (news.toArray ++ q) = (olds ++ news).toArray ++ q := by
    intro q; rw [← Array.append_assoc]; simp
  rcases hu with hu | ⟨el', hu⟩ <;>
    simp [Builtin.append_, run_underlying ht, run_underlying hu, Go.sizeOf, hass, hn, h63', h48', Question.forced, newRow, grownCap, hcs, hold, hs.len, run_info hi, zeroValue, hz]

end
end Ab

/- Appends, in the relation. -/
set_option linter.unusedVariables false
set_option linter.unusedSimpArgs false
namespace Ab
open Go

section
variable {P : Program} {bs : List Nat} {m : M} {bm : BM} {e : Nat → AVal} {al : Nat → Option (Nat × Nat)} {tm : Array Value} {w : World} {g : Nat → Option Row}

/-- The map behind an append: the old row is dead, the new one lies at p. -/
def appM (m : M) (r nx : Nat) (p : Pl) : M := fun u => if u = nx then .at p else if u = r then .dead else m u

theorem appM_le {r nx : Nat} (hnx : m nx = .unk) {p0 : Pl} (hr : m r = .at p0) (p : Pl) : MLe m (appM m r nx p) := by
  constructor
  · intro u q h
    have h1 : u ≠ nx := by rintro rfl; rw [hnx] at h; cases h
    by_cases h2 : u = r
    · exact .inr (by simp [appM, h1, h2]; intro h3; rw [h3, hnx] at hr; cases hr)
    · exact .inl (by simp only [appM, if_neg h1, if_neg h2]; exact h)
  · intro u h
    have h1 : u ≠ nx := by rintro rfl; rw [hnx] at h; cases h
    have h2 : u ≠ r := by rintro rfl; rw [hr] at h; cases h
    simp only [appM, if_neg h1, if_neg h2]; exact h

theorem app_row (hF : Fr m bm e al tm w) (hS : Sim m g w) {r nx : Nat} (hnx : m nx = .unk) {p0 p : Pl} (hr : m r = .at p0) (hown0 : p0.own = true) (hown : p.own = true) (hb : p.b = p0.b ∨ p.b = w.heap.size) {row : Row} {w' : World}
    (hsz : w.heap.size ≤ w'.heap.size) (hos : w'.os = w.os) (htp : w'.tape = w.tape) (hot : w'.output = w.output) (hoth : ∀ b, b < w.heap.size → b ≠ p0.b → w'.heap[b]? = w.heap[b]?)
    (hrow : ∃ o, w'.heap[p.b]? = some o ∧ RowRel (appM m r nx p) p row o) :
    Later m bm w (appM m r nx p) bm w' ∧ Sim (appM m r nx p) (fun u => if u = nx then some row else if u = r then some .dead else g u) w' ∧ Fr (appM m r nx p) bm e al tm w' := by
  have hle := appM_le hnx hr p
  have hrn : r ≠ nx := by rintro rfl; rw [hnx] at hr; cases hr
  have hcase : ∀ u q, appM m r nx p u = .at q → (u = nx ∧ q = p) ∨ (u ≠ nx ∧ u ≠ r ∧ m u = .at q) := by
    intro u q h
    unfold appM at h
    split at h
    · rename_i hu; injection h with h; exact .inl ⟨hu, h.symm⟩
    · rename_i hu
      split at h
      · cases h
      · rename_i hu2; exact .inr ⟨hu, hu2, h⟩
  have hL : Later m bm w (appM m r nx p) bm w' := by
    refine ⟨hle, ⟨hos, htp, hot, hsz, fun b hb hn => hoth b hb ?_⟩, fun u q h => ?_, fun t b h => .inl h⟩
    · rintro rfl; exact hn (.inl ⟨r, p0, hr, hown0, rfl⟩)
    · rcases hcase u q h with ⟨rfl, rfl⟩ | ⟨_, _, h⟩
      · rcases hb with hb | hb
        · exact .inr (.inr ⟨r, p0, hr, hown0, hb.symm⟩)
        · exact .inr (.inl (by omega))
      · exact .inl h
  refine ⟨hL, ?_, hF.later hL fun t b h => hoth b (hF.disj t b h).1 ?_⟩
  · refine hS.next hle (fun u q h => ?_) (fun u h => ?_) (fun u u' q q' h h' ho he => ?_)
    · rcases hcase u q h with ⟨rfl, rfl⟩ | ⟨h1, h2, h3⟩
      · obtain ⟨o, q1, q2⟩ := hrow
        exact .inr ⟨row, o, by simp, q1, q2⟩
      · refine .inl ⟨h3, by simp [h1, h2], hoth _ (hS.lt h3) fun he => h2 ?_⟩
        exact (hS.inj r u p0 q hr h3 hown0 he.symm).symm
    · unfold appM at h
      by_cases h1 : u = nx
      · simp [h1] at h
      · by_cases h2 : u = r
        · simp [h1, h2, hrn]
        · simp only [if_neg h1, if_neg h2] at h ⊢
          exact hS.dead u h
    · rcases hcase u q h with ⟨rfl, rfl⟩ | ⟨h1, h2, h3⟩ <;> rcases hcase u' q' h' with ⟨rfl, rfl⟩ | ⟨h1', h2', h3'⟩
      · rfl
      · rcases hb with hb | hb
        · exact (h2' (hS.inj r u' p0 q' hr h3' hown0 (by omega)).symm).elim
        · have := hS.lt h3'; omega
      · rcases hb with hb | hb
        · exact (h2 (hS.inj u r q p0 h3 hr ho (by omega))).elim
        · have := hS.lt h3; omega
      · exact hS.inj u u' q q' h3 h3' ho he
  · rintro rfl
    exact (hF.disj t _ h).2 r p0 hr rfl

theorem appM_known {r nx : Nat} {p0 p : Pl} (hr : m r = .at p0) : ∀ u, appM m r nx p u ≠ .unk → m u = .unk → u = nx := by
  intro u h1 h2
  unfold appM at h1
  by_cases hu : u = nx
  · exact hu
  · by_cases hu2 : u = r
    · subst hu2; rw [hr] at h2; cases h2
    · simp only [if_neg hu, if_neg hu2] at h1; exact (h1 h2).elim

/-- The value that is appended, as a source. -/
theorem src_sound (hF : Fr m bm e al tm w) (hS : Sim m g w) {x : Operand} {y : Opd} (hy : cOpd x = some y) {esz : Nat} {new : List AVal}
    (h : srcCells g esz (opd e y) = some new) :
    ∃ news, Src P w esz ((ac tm).eval x) (srcLen (opd e y)) news ∧ VsRel m new news ∧ news.length = srcLen (opd e y) * esz := by
  cases hx : opd e y <;> rw [hx] at h <;> first | (simp [srcCells] at h; done) | skip
  · rename_i b
    simp only [srcCells, srcLen] at h ⊢
    split at h
    · rename_i h1
      subst h1
      simp at h; subst h
      obtain ⟨s, hv, rfl⟩ := opd_str hF hy hx
      refine ⟨s.data.toList.map fun b => .int .u8 b.toNat, ⟨by rw [hv, bsOf_length]; rfl, ?_, ?_⟩, ?_, by simp [bsOf]⟩
      · rw [hv, bsOf_length]
        simp only [Builtin.firstCells, Sem.run_pure]
        congr 1
        simp
        rw [← Array.toList_map, Array.toArray_toList]
      · rw [hv, bsOf_length]
        simp only [Builtin.firstCells, Sem.run_pure]
        congr 1
        simp
        rw [← Array.toList_map, Array.toArray_toList]
      · refine VsRel.of_get (by simp [bsOf]) fun i x hi => ?_
        simp only [bsOf, List.map_map, List.getElem?_map, Option.map_eq_some_iff] at hi
        obtain ⟨b, hb, rfl⟩ := hi
        exact ⟨.int .u8 b.toNat, by simp [hb], by simp [VRel]⟩
    · simp at h
  · rename_i r off ln k
    simp only [srcCells, srcLen] at h ⊢
    split at h
    · rename_i row hg
      split at h
      · rename_i cs hcs
        split at h
        · rename_i hle
          obtain ⟨rfl, hle⟩ := hle
          simp at h; subst h
          have hr := opd_rel hF hy (by rw [hx]; rfl)
          rw [hx] at hr
          obtain ⟨p, ob, hm, hh, hrow⟩ := hS.lies hg (rowCells_live hcs) hr.slc_known
          obtain ⟨c, et, fr', rfl, hrel⟩ := hrow.cells hcs
          simp only [VRel, hm] at hr
          obtain ⟨o', cap, hv, hcap, hoff, _⟩ := hr
          obtain ⟨vs, g1, g2, g3, _⟩ := hrel.range off (ln * k) hle
          have hcell : ∀ j u, vs[j]? = some u → w.cell? ((⟨p.b, o', none⟩ : Addr).add j) = some u := by
            intro j u hj
            have hj' : j < ln * k := by
              have := (List.getElem?_eq_some_iff.1 hj).1
              omega
            have hl0 : 0 < ln := by
              rcases Nat.eq_zero_or_pos ln with h0 | h0
              · subst h0; simp at hj'
              · exact h0
            have ho' : o' = p.sh + off := by rcases hoff with h0 | h0 <;> omega
            subst ho'
            rw [add_off]; exact cell_of hh (by rw [← g3 j u hj]; congr 1; omega)
          refine ⟨vs, ⟨by rw [hv]; rfl, ?_, ?_⟩, g1, g2⟩
          · rw [hv]; exact run_firstCells_some w k ln ⟨p.b, o', none⟩ ln cap vs g2 hcell
          · rw [hv]; exact run_firstCells_some w.drew k ln ⟨p.b, o', none⟩ ln cap vs g2 (by simpa using hcell)
        · simp at h
      · simp at h
    · simp at h
  · simp [srcCells] at h; subst h
    have hr := opd_rel hF hy (by rw [hx]; rfl)
    rw [hx] at hr
    simp only [VRel] at hr
    exact ⟨[], ⟨by rw [hr]; rfl, by rw [hr]; simp [Builtin.firstCells], by rw [hr]; simp [Builtin.firstCells]⟩, .nil, by simp [srcLen]⟩

theorem mul_split (a b k : Nat) : (a + b) * k = a * k + b * k := Nat.add_mul a b k

/-- The cells of an append, in the row as it was and behind it. -/
theorem app_cells {m' : M} (hle : MLe m m') {cs : List AVal} {c : Array Value} {sh off n1 : Nat} (h : CsRel m cs c sh) (h1 : off + n1 ≤ cs.length) {new : List AVal} {news : List Value} (hn : VsRel m new news) (hs : allSc new = true) {c' : Array Value} {sh' : Nat}
    (ho : ∀ i, i < n1 → c'[sh' + i]? = c[sh + (off + i)]?) (hw : ∀ i v, news[i]? = some v → c'[sh' + (n1 + i)]? = some v) : CsRel m' ((cs.drop off).take n1 ++ new) c' sh' := by
  have hl : ((cs.drop off).take n1).length = n1 := by simp; omega
  intro i x hx
  by_cases hi : i < n1
  · rw [List.getElem?_append_left (by omega), List.getElem?_take_of_lt hi, List.getElem?_drop] at hx
    obtain ⟨q1, v, q2, q3⟩ := h _ x hx
    exact ⟨q1, v, by rw [ho i hi]; exact q2, q3.mono hle⟩
  · rw [List.getElem?_append_right (by omega), hl] at hx
    obtain ⟨v, q1, q2⟩ := hn.get _ _ hx
    refine ⟨(List.all_eq_true.1 hs) x (List.mem_of_getElem? hx), v, ?_, q2.mono hle⟩
    have := hw _ v q1
    rw [show sh' + i = sh' + (n1 + (i - n1)) from by omega]; exact this

theorem c_append {o : Oper} {c : Call} (ho : o.op = .call c) (hb : c.callee = .builtin .append) {i : Ins} (hc : cIns P bs o = some i) :
    ∃ s x t u el it a b, c.args = #[s, x] ∧ c.argTypes = #[t, u] ∧ P.underlying t = some (.slice el) ∧ (P.underlying u = some .string ∨ ∃ el', P.underlying u = some (.slice el')) ∧ P.info? el = some it ∧ cOpd s = some a ∧ cOpd x = some b ∧
      0 < it.size ∧ (∃ z, zeroT P el = some z) ∧ i = .append a b el it.size it.bytes := by
  have harr : ∀ {α : Type} {l : Array α} {p q : α}, l.toList = [p, q] → l = #[p, q] := by
    intro α l p q h; cases l with | mk l => simp at h; simp [h]
  simp only [cIns, ho, hb] at hc
  split at hc
  · rename_i s x t u h1 h2
    split at hc
    · rename_i el hu1 hu2
      split at hc
      · rename_i it a b h3 h4 h5
        split at hc
        · rename_i hsz
          simp at hc
          exact ⟨s, x, t, u, el, it, a, b, harr h1, harr h2, hu1, .inl hu2, h3, h4, h5, by omega, Option.isSome_iff_exists.1 hsz.2, hc.symm⟩
        · simp at hc
      · simp at hc
    · rename_i el el' hu1 hu2
      split at hc
      · rename_i it it' a b h3 h3' h4 h5
        split at hc
        · rename_i hsz
          simp at hc
          exact ⟨s, x, t, u, el, it, a, b, harr h1, harr h2, hu1, .inr ⟨el', hu2⟩, h3, h4, h5, hsz.1.2, Option.isSome_iff_exists.1 hsz.2, hc.symm⟩
        · simp at hc
      · simp at hc
    · simp at hc
  · simp at hc

theorem append_id {t u el ty : TypeId} {it : TypeInfo} (ht : P.underlying t = some (.slice el)) (hu : P.underlying u = some .string ∨ ∃ el', P.underlying u = some (.slice el')) (hi : P.info? el = some it) {base : Option Addr} {sLen sCap : Nat} {x : Value}
    (hs : Src P w it.size x 0 []) (hle : sLen ≤ sCap) : (Builtin.append_ #[t, u] ty #[.slice base sLen sCap, x]).run P w = .ok (.slice base sLen sCap) w := by
  have hcs := hs.cells
  rcases hu with hu | ⟨el', hu⟩ <;> cases base <;>
    simp [Builtin.append_, run_underlying ht, run_underlying hu, Go.sizeOf, run_info hi, hs.len, hle, hcs, storeCells]

theorem le_grown (need old : Nat) (el : TypeId) : need ≤ grownCap w need old el := by
  simp only [grownCap, Question.cut]; omega

theorem in_cells (ce : Array Value) (news : List Value) (A : Nat) (h : A + news.length ≤ ce.size) :
    ∃ c' : Array Value, c' = (ce.toList.take A ++ news ++ ce.toList.drop (A + news.length)).toArray ∧ c'.size = ce.size ∧ (∀ i, i < A → c'[i]? = ce[i]?) ∧ ∀ i v, news[i]? = some v → c'[A + i]? = some v := by
  have htl : (ce.toList.take A).length = A := by simp; omega
  refine ⟨_, rfl, by simp; omega, fun i hi => ?_, fun i v hi => ?_⟩
  · simp only [List.getElem?_toArray]
    rw [List.append_assoc, List.getElem?_append_left (by omega), List.getElem?_take_of_lt hi]
    simp
  · have hil : i < news.length := (List.getElem?_eq_some_iff.1 hi).1
    simp only [List.getElem?_toArray]
    rw [List.append_assoc, List.getElem?_append_right (by omega), htl, List.getElem?_append_left (by omega), Nat.add_sub_cancel_left]
    exact hi

/-- Appended within the capacity. -/
theorem app_fit (hF : Fr m bm e al tm w) (hS : Sim m g w) {o : Oper} (hd : ∀ t, o.dst = some t → t < tm.size) {nx r off ln n : Nat} (hnx : m nx = .unk) {t u el ty : TypeId} {it : TypeInfo} {x : Value} {news : List Value} {new cs : List AVal} {hdf : Bool}
    (hut : P.underlying t = some (.slice el)) (huu : P.underlying u = some .string ∨ ∃ el', P.underlying u = some (.slice el')) (hit : P.info? el = some it) (hsrc : Src P w it.size x n news) (hrel : VsRel m new news) (hlen : news.length = n * it.size) (hnsc : allSc new = true)
    (hg : g r = some (.cells el hdf cs)) (hle : off + ln * it.size ≤ cs.length) (hn0 : n ≠ 0) {s : Value} (hr : VRel m (.slc r off ln it.size) s) {p0 : Pl} (hm : m r = .at p0) {o' cap : Nat} (hv : s = .slice (some ⟨p0.b, o', none⟩) ln cap) (hfit : ln + n ≤ cap)
    (hrun : ∀ z w', (Builtin.append_ #[t, u] ty #[s, x]).run P w = .ok z w' → (execOp (ac tm).eval o).run P w = .ok (.value z) w') :
    Done P m bm e al tm w g nx o { v := .slc nx 0 (ln + n) it.size, puts := [(r, .dead)], new := some (.cells el (hdf && off == 0) ((cs.drop off).take (ln * it.size) ++ new)) } := by
  obtain ⟨p, ob, hm', hh, hrow⟩ := hS.lies hg (by simp) hr.slc_known
  rw [hm] at hm'; injection hm' with hm'; subst hm'
  obtain ⟨ce, fr', rfl, q0, q1, q2, q3, q4, q5⟩ := hrow
  have q3 : fr' = (0, 0) := q3
  subst q3
  simp only [VRel, hm] at hr
  obtain ⟨o2, cap2, hv2, hcap, hoff, hcown⟩ := hr
  rw [hv] at hv2; injection hv2 with h1 h2 h3
  injection h1 with h1; injection h1 with _ h1 _
  subst h1; subst h3
  have hone := hrel.oneCells hnsc
  have ho' : o' = p0.sh + off := by rcases hoff with h0 | h0 <;> omega
  subst ho'
  have hcapsz : p0.sh + off + cap * it.size ≤ p0.sz := by
    rcases hcown q1 with h0 | h0
    · omega
    · exact h0
  have hmul : (ln + n) * it.size ≤ cap * it.size := Nat.mul_le_mul_right _ hfit
  have hms : (ln + n) * it.size = ln * it.size + n * it.size := Nat.add_mul _ _ _
  have hfits : p0.sh + off + ln * it.size + news.length ≤ ce.size := by omega
  have happ := append_in (P := P) (w := w) (ty := ty) hut huu hit hsrc hfit hh hfits hone
  obtain ⟨c', hc', hcs, hcold, hcnew⟩ := in_cells ce news (p0.sh + off + ln * it.size) hfits
  rw [← hc'] at happ
  have hnl := hrel.length
  obtain ⟨g1, g2, g3⟩ := app_row hF hS hnx hm q1 (p := ⟨p0.b, p0.sh + off, p0.sz, true⟩) rfl (.inl rfl) (row := .cells el (hdf && off == 0) ((cs.drop off).take (ln * it.size) ++ new)) (w' := w.setRow p0.b c')
    (by simp) rfl rfl rfl (fun b _ h => setRow_other w p0.b b _ h) ⟨_, setRow_heap w p0.b ce c' el (0, 0) hh, c', (0, 0), rfl, by
      intro h
      simp only [Bool.and_eq_true, beq_iff_eq] at h
      show p0.sh + off = 0
      have := q0 h.1; omega, rfl, by
      show c'.size = p0.sz
      omega, rfl, by
      show p0.sh + off + _ ≤ _
      simp; omega, app_cells (appM_le hnx hm _) q5 hle hrel hnsc (fun i hi => by
        show c'[p0.sh + off + i]? = _
        rw [hcold _ (by omega)]; congr 1; omega) (fun i v hi => by
        show c'[p0.sh + off + (ln * it.size + i)]? = _
        rw [← hcnew i v hi]; congr 1; omega)⟩
  refine ⟨_, _, _, _, bm, hrun _ _ (by rw [hv]; exact happ), .inl rfl, g1, ?_, g3.put hd ?_, appM_known hm⟩
  · simp only [upO, upG, upN]; exact g2
  · simp only [VRel, appM, if_true]
    exact ⟨p0.sh + off, cap, rfl, hfit, .inr rfl, fun _ => .inr hcapsz⟩

/-- Appended into a new block. -/
theorem app_grow (hF : Fr m bm e al tm w) (hS : Sim m g w) {o : Oper} (hd : ∀ t, o.dst = some t → t < tm.size) {nx r off ln n : Nat} (hnx : m nx = .unk) {t u el ty : TypeId} {it : TypeInfo} {zv x : Value} {news : List Value} {new cs : List AVal} {hdf : Bool}
    (hut : P.underlying t = some (.slice el)) (huu : P.underlying u = some .string ∨ ∃ el', P.underlying u = some (.slice el')) (hit : P.info? el = some it) (hiz : it.zero = some zv) (hzs : zv.cells.size = it.size) (hsrc : Src P w it.size x n news) (hrel : VsRel m new news) (hlen : news.length = n * it.size) (hnsc : allSc new = true)
    (hg : g r = some (.cells el hdf cs)) (hle : off + ln * it.size ≤ cs.length) (hn0 : n ≠ 0) (hbig : ln + n ≤ 1073741824) (hby : it.bytes ≤ 4096) {s : Value} (hr : VRel m (.slc r off ln it.size) s) {p0 : Pl} (hm : m r = .at p0) {o' cap : Nat} (hv : s = .slice (some ⟨p0.b, o', none⟩) ln cap) (hfit : ¬ ln + n ≤ cap)
    (hrun : ∀ z w', (Builtin.append_ #[t, u] ty #[s, x]).run P w = .ok z w' → (execOp (ac tm).eval o).run P w = .ok (.value z) w') :
    Done P m bm e al tm w g nx o { v := .slc nx 0 (ln + n) it.size, puts := [(r, .dead)], new := some (.cells el (hdf && off == 0) ((cs.drop off).take (ln * it.size) ++ new)) } := by
  obtain ⟨p, ob, hm', hh, hrow⟩ := hS.lies hg (by simp) hr.slc_known
  rw [hm] at hm'; injection hm' with hm'; subst hm'
  obtain ⟨ce, fr', rfl, q0, q1, q2, q3, q4, q5⟩ := hrow
  simp only [VRel, hm] at hr
  obtain ⟨o2, cap2, hv2, hcap, hoff, hcown⟩ := hr
  rw [hv] at hv2; injection hv2 with h1 h2 h3
  injection h1 with h1; injection h1 with _ h1 _
  subst h1; subst h3
  obtain ⟨olds, r1, r2, r3, _⟩ := q5.range off (ln * it.size) hle
  have hold : (Builtin.firstCells it.size ln (.slice (some ⟨p0.b, o', none⟩) ln cap)).run P w.drew = .ok olds.toArray w.drew := by
    refine run_firstCells_some w.drew it.size ln _ ln cap olds r2 fun j v hj => ?_
    have hj' : j < ln * it.size := by
      have := (List.getElem?_eq_some_iff.1 hj).1
      omega
    have hl0 : 0 < ln := by
      rcases Nat.eq_zero_or_pos ln with h0 | h0
      · subst h0; simp at hj'
      · exact h0
    have ho' : o' = p0.sh + off := by rcases hoff with h0 | h0 <;> omega
    subst ho'
    rw [add_off]
    have : w.cell? ⟨p0.b, p0.sh + off + j, none⟩ = some v := cell_of hh (by rw [← r3 j v hj]; congr 1; omega)
    simpa using this
  have happ := append_out (P := P) (w := w) (ty := ty) hut huu hit hiz hsrc (by omega) hbig hby hold
  have hge := le_grown (w := w) (ln + n) cap el
  generalize grownCap w (ln + n) cap el = gc at happ hge
  have hzsz : (Builtin.zeroCells zv.cells (gc - (ln + n))).size = (gc - (ln + n)) * it.size := by rw [size_zeroCells, hzs]
  have hnl := hrel.length
  have hms : (ln + n) * it.size = ln * it.size + n * it.size := Nat.add_mul _ _ _
  have hgc : gc * it.size = (ln + n) * it.size + (gc - (ln + n)) * it.size := by rw [← Nat.add_mul]; congr 1; omega
  obtain ⟨c', hc'⟩ : ∃ c', c' = (olds ++ news).toArray ++ Builtin.zeroCells zv.cells (gc - (ln + n)) := ⟨_, rfl⟩
  have hcsz : c'.size = gc * it.size := by
    rw [hc', Array.size_append, hzsz]; simp; omega
  have hcold : ∀ i, i < ln * it.size → c'[i]? = ce[p0.sh + (off + i)]? := by
    intro i hi
    have : olds[i]? = some olds[i] := List.getElem?_eq_getElem (by omega)
    rw [hc', Array.getElem?_append_left (by simp; omega), List.getElem?_toArray, List.getElem?_append_left (by omega), this, ← r3 i _ this]
  have hcnew : ∀ i v, news[i]? = some v → c'[ln * it.size + i]? = some v := by
    intro i v hi
    have hil : i < news.length := (List.getElem?_eq_some_iff.1 hi).1
    rw [hc', Array.getElem?_append_left (by simp; omega), List.getElem?_toArray, List.getElem?_append_right (by omega), r2, Nat.add_sub_cancel_left]
    exact hi
  rw [← hc'] at happ
  obtain ⟨g1, g2, g3⟩ := app_row hF hS hnx hm q1 (p := ⟨w.heap.size, 0, gc * it.size, true⟩) rfl (.inr rfl) (row := .cells el (hdf && off == 0) ((cs.drop off).take (ln * it.size) ++ new)) (w' := w.drew.alloc (.cells c' el))
    (by show w.heap.size ≤ (w.heap.push _).size; simp) rfl rfl rfl (fun b hb _ => by show (w.heap.push _)[b]? = _; rw [Array.getElem?_push, if_neg (by omega)]) ⟨.cells c' el, by show (w.heap.push _)[w.heap.size]? = _; simp, c', (0, 0), rfl, fun _ => rfl, rfl, hcsz, rfl, by
      rw [hcsz]
      simp; omega, app_cells (appM_le hnx hm _) q5 hle hrel hnsc (fun i hi => by
        show c'[0 + i]? = _
        rw [Nat.zero_add]; exact hcold i hi) (fun i v hi => by
        show c'[0 + (ln * it.size + i)]? = _
        rw [Nat.zero_add]; exact hcnew i v hi)⟩
  refine ⟨_, _, _, _, bm, hrun _ _ (by rw [hv]; exact happ), .inl rfl, g1, ?_, g3.put hd ?_, appM_known hm⟩
  · simp only [upO, upG, upN]; exact g2
  · simp only [VRel, appM, if_true]
    exact ⟨0, gc, rfl, hge, .inr rfl, fun _ => .inr (by omega)⟩

theorem s_append (hF : Fr m bm e al tm w) (hS : Sim m g w) {o : Oper} (hd : ∀ t, o.dst = some t → t < tm.size) {c : Call} (ho : o.op = .call c) (hb : c.callee = .builtin .append) {i : Ins} (hc : cIns P bs o = some i) {fr : Nat → Bool} {nx : Nat} (hnx : m nx = .unk) {out : Out}
    (hs : i.sem e al g fr nx o.dst = some out) : Done P m bm e al tm w g nx o out := by
  obtain ⟨s, x, t, u, el, it, a, b, hargs, hats, hut, huu, hit, ha, hbx, hsz0, ⟨zl, hzl⟩, rfl⟩ := c_append ho hb hc
  obtain ⟨it', zv, hit', hiz, _, _, hzs⟩ := zeroT_spec hzl
  rw [hit] at hit'; injection hit' with hit'; subst hit'
  have hrun : ∀ z w', (Builtin.append_ #[t, u] o.type #[(ac tm).eval s, (ac tm).eval x]).run P w = .ok z w' → (execOp (ac tm).eval o).run P w = .ok (.value z) w' := by
    intro z w' hz
    simp only [execOp, ho, resolve, hb, hargs, hats, Sem.run_bind, Sem.run_pure, Result.andThen_ok, invoke, builtin, List.map_toArray, List.map_cons, List.map_nil, hz]
  simp only [Ins.sem] at hs
  split at hs
  · simp at hs
  · rename_i new hnew
    obtain ⟨news, hsrc, hrel, hlen⟩ := src_sound (P := P) hF hS hbx hnew
    generalize srcLen (opd e b) = n at hs hsrc hlen
    cases hx : opd e a <;> rw [hx] at hs <;> first | (simp at hs; done) | skip
    · rename_i r off ln k
      have hr := opd_rel hF ha (by rw [hx]; rfl)
      rw [hx] at hr
      simp only at hs
      split at hs
      · rename_i hn0
        simp at hs; subst hs; subst hn0
        have hnil : news = [] := by simpa using hlen
        subst hnil
        have hv : ∃ q cap, (ac tm).eval s = .slice (some q) ln cap ∧ ln ≤ cap := by
          simp only [VRel] at hr
          split at hr
          · obtain ⟨o', cap, hv, hcap, _⟩ := hr; exact ⟨_, cap, hv, hcap⟩
          · exact hr
          · exact hr.elim
        obtain ⟨q, cap, hv, hcap⟩ := hv
        refine Pur.done hF hS hd (.mk (x := .slice (some q) ln cap) ?_ (by rw [← hv]; exact hr)) nx
        exact hrun _ _ (by rw [hv]; exact append_id hut huu hit hsrc hcap)
      · rename_i hn0
        split at hs
        · rename_i e0 hdf cs hg
          split at hs
          · rename_i hh
            obtain ⟨rfl, rfl, hle, hbig, hby, hnsc⟩ := hh
            simp at hs; subst hs
            obtain ⟨p0, ob, hm, hh, hrow⟩ := hS.lies hg (by simp) hr.slc_known
            have hr' := hr
            simp only [VRel, hm] at hr'
            obtain ⟨o', cap, hv, _⟩ := hr'
            by_cases hfit : ln + n ≤ cap
            · exact app_fit hF hS hd hnx hut huu hit hsrc hrel hlen hnsc hg hle hn0 hr hm hv hfit hrun
            · exact app_grow hF hS hd hnx hut huu hit hiz hzs hsrc hrel hlen hnsc hg hle hn0 hbig hby hr hm hv hfit hrun
          · simp at hs
        · simp at hs
    · have hr := opd_rel hF ha (by rw [hx]; rfl)
      rw [hx] at hr
      simp only [VRel] at hr
      simp only at hs
      split at hs
      · rename_i hn0
        simp at hs; subst hs; subst hn0
        have hnil : news = [] := by simpa using hlen
        subst hnil
        refine Pur.done hF hS hd (.mk (x := .slice none 0 0) ?_ (by simp [VRel])) nx
        exact hrun _ _ (by rw [hr]; exact append_id hut huu hit hsrc (Nat.le_refl _))
      · rename_i hn0
        split at hs
        · rename_i hh
          obtain ⟨hbig, hby, hnsc⟩ := hh
          simp at hs; subst hs
          have happ := append_out (P := P) (w := w) (ty := o.type) (base := none) (sLen := 0) (sCap := 0) (olds := []) hut huu hit hiz hsrc (by omega) (by omega) hby (by simp [Builtin.firstCells])
          have hge := le_grown (w := w) (0 + n) 0 el
          generalize grownCap w (0 + n) 0 el = gc at happ hge
          simp only [Nat.zero_add, List.nil_append] at happ hge
          have hzsz : (Builtin.zeroCells zv.cells (gc - n)).size = (gc - n) * it.size := by rw [size_zeroCells, hzs]
          have hgc : gc * it.size = n * it.size + (gc - n) * it.size := by rw [← Nat.add_mul]; congr 1; omega
          have hcsz : (news.toArray ++ Builtin.zeroCells zv.cells (gc - n)).size = gc * it.size := by
            rw [Array.size_append, hzsz]; simp; omega
          refine done_new hF hS hd hnx (ob := .cells (news.toArray ++ Builtin.zeroCells zv.cells (gc - n)) el) (w' := w.drew.alloc (.cells (news.toArray ++ Builtin.zeroCells zv.cells (gc - n)) el)) (p := ⟨w.heap.size, 0, (news.toArray ++ Builtin.zeroCells zv.cells (gc - n)).size, true⟩) rfl (hrun _ _ (by rw [hr]; exact happ)) rfl rfl rfl rfl
            (row_new hnx (c := news.toArray) (by simpa using hrel) hnsc el (Builtin.zeroCells zv.cells (gc - n)) w.heap.size) ?_
          simp only [VRel, if_true]
          exact ⟨0, gc, rfl, hge, .inr rfl, fun _ => .inr (by rw [hcsz]; omega)⟩
        · simp at hs

end
end Ab

/- Slices made; the bytes of a row as a string; addresses within a box; and all simple instructions together. -/
set_option linter.unusedVariables false
set_option linter.unusedSimpArgs false
namespace Ab
open Go

section
variable {P : Program} {bs : List Nat} {m : M} {bm : BM} {e : Nat → AVal} {al : Nat → Option (Nat × Nat)} {tm : Array Value} {w : World} {g : Nat → Option Row}

theorem s_makeSlice (hF : Fr m bm e al tm w) (hS : Sim m g w) {o : Oper} (hd : ∀ t, o.dst = some t → t < tm.size) {t : TypeId} {x y : Operand} (ho : o.op = .makeSlice t x y) {i : Ins} (hc : cIns P bs o = some i) {fr : Nat → Bool} {nx : Nat} (hnx : m nx = .unk) {out : Out}
    (hs : i.sem e al g fr nx o.dst = some out) : Done P m bm e al tm w g nx o out := by
  simp only [cIns, ho] at hc
  split at hc
  · rename_i el hu
    split at hc
    · rename_i z it a b h1 h2 h3 h4
      split at hc
      · rename_i hsz
        simp at hc; subst hc
        simp only [Ins.sem] at hs
        cases hx : opd e a <;> rw [hx] at hs <;> first | (simp at hs; done) | skip
        rename_i k n
        cases hy : opd e b <;> rw [hy] at hs <;> first | (simp at hs; done) | skip
        rename_i k' n'
        simp only at hs
        split at hs
        · rename_i hh
          obtain ⟨q1, q2, q3, q4, q5, q6⟩ := hh
          simp at hs; subst hs
          obtain ⟨it', zv, hi, hiz, hzl, hlen, hzs⟩ := zeroT_spec h1
          rw [h2] at hi; injection hi with hi; subst hi
          obtain ⟨hzr, _⟩ := absL_rel (m := m) hzl
          obtain ⟨N, rfl⟩ : ∃ N : Nat, n' = N := ⟨n'.toNat, by omega⟩
          obtain ⟨L, rfl⟩ : ∃ L : Nat, n = L := ⟨n.toNat, by omega⟩
          have hmul : (it.bytes : Int) * (N : Int) ≤ 4096 * 1073741824 := by
            have h1 : it.bytes * N ≤ 4096 * 1073741824 := Nat.mul_le_mul q4 (by omega)
            have h2 : ((it.bytes * N : Nat) : Int) ≤ ((4096 * 1073741824 : Nat) : Int) := Int.ofNat_le.2 h1
            rw [Int.natCast_mul] at h2
            exact h2
          have hrun := run_make (P := P) w t el it zv hu h2 hiz k k' L N q1 q2 (by omega) (by omega)
          have hcells : madeCells zv.cells (N * it.size) = (List.replicate N zv.cells.toList).flatten.toArray := by
            apply Array.ext'
            have := zero_cells zv.cells N (by omega)
            rw [hzs] at this
            unfold madeCells
            rw [hzs, this]
          rw [Int.toNat_natCast, Int.toNat_natCast, hcells] at hrun
          have hrel := rep_rel hzr N
          have hcl : ((List.replicate N zv.cells.toList).flatten.toArray).size = N * it.size := by simp [hzs]
          refine done_new hF hS hd hnx (ob := .cells (List.replicate N zv.cells.toList).flatten.toArray el) (w' := w.alloc (.cells (List.replicate N zv.cells.toList).flatten.toArray el)) (x := .slice (some ⟨w.heap.size, 0, none⟩) L N)
            (p := ⟨w.heap.size, 0, (List.replicate N zv.cells.toList).flatten.toArray.size, true⟩) rfl ?_ rfl rfl rfl rfl (row_new' hnx (c := (List.replicate N zv.cells.toList).flatten.toArray) (by simpa using hrel) (rep_sc q6 N) el _) ?_
          · simp only [execOp, ho, opd_int hF h3 hx, opd_int hF h4 hy, Sem.run_bind, hrun, Result.andThen_ok, Sem.run_pure]
          · simp only [VRel, if_true]
            refine ⟨0, N, by simp, by omega, .inr rfl, fun _ => .inr ?_⟩
            rw [hcl]; omega
        · simp at hs
      · simp at hc
    · simp at hc
  · simp at hc

theorem bytes_cells (ns : List Int) (h : ∀ n ∈ ns, 0 ≤ n ∧ n < 256) : ∃ l : List UInt8, ns = l.map (fun b => (b.toNat : Int)) := by
  refine ⟨ns.map fun n => UInt8.ofNat n.toNat, ?_⟩
  rw [List.map_map]
  refine (List.map_id' ns).symm.trans (List.map_congr_left fun n hn => ?_)
  obtain ⟨h1, h2⟩ := h n hn
  simp only [Function.comp_apply, UInt8.toNat_ofNat']
  omega

theorem freeze_other (a : Addr) (n b : Nat) (h : b ≠ a.block) : (w.freeze a n).heap[b]? = w.heap[b]? := by
  unfold World.freeze
  split
  · rfl
  · simp only [Array.getElem?_modify]
    rw [if_neg (fun h' => h h'.symm)]

theorem freeze_at (a : Addr) (n : Nat) {c : Array Value} {et : TypeId} {fr : Nat × Nat} (h : w.heap[a.block]? = some (.cells c et fr)) : ∃ fr', (w.freeze a n).heap[a.block]? = some (.cells c et fr') := by
  unfold World.freeze
  split
  · exact ⟨fr, h⟩
  · simp only [Array.getElem?_modify, if_true, h, Option.map_some]
    exact ⟨_, rfl⟩

theorem run_unsafeString_row' {pt el : TypeId} (hp : P.underlying pt = some (.pointer el)) (hc : P.cellsOf el = 1) {b : Nat} {c : Array Value} {fr : Nat × Nat} (hh : w.heap[b]? = some (.cells c el fr)) (l : List UInt8) (h0 : l ≠ []) (hn : l.length ≤ c.size) (h63 : l.length ≤ 9223372036854775807)
    (hcell : ∀ (j : Nat) (x : UInt8), l[j]? = some x → c[j]? = some (Value.int .u8 (x.toNat : Int))) (it ty : TypeId) :
    (Builtin.unsafeString_ #[pt, it] ty #[.pointer (some ⟨b, 0, none⟩), .int .i64 l.length]).run P w = .ok (.string ⟨l.toArray⟩) (w.freeze ⟨b, 0, none⟩ l.length) :=
  Lib.run_unsafeString_row w pt it ty el hp hc b c.size (by simp [World.shape?, hh]) l h0 hn h63 (fun j x hj => by rw [add_off]; exact cell_of hh (by rw [Nat.zero_add]; exact hcell j x hj))

theorem s_uStr (hF : Fr m bm e al tm w) (hS : Sim m g w) {o : Oper} (hd : ∀ t, o.dst = some t → t < tm.size) {c : Call} (ho : o.op = .call c) (hb : c.callee = .builtin .unsafeString) {i : Ins} (hc : cIns P bs o = some i) {fr : Nat → Bool} {nx : Nat} {out : Out}
    (hs : i.sem e al g fr nx o.dst = some out) : Done P m bm e al tm w g nx o out := by
  simp only [cIns, ho, hb] at hc
  split at hc
  · rename_i x y t it h1 h2
    split at hc
    · rename_i el hu
      split at hc
      · rename_i a b h3 h4 h5 h6
        simp at hc; subst hc
        have hts : c.argTypes = #[t, it] := by
          cases hq : c.argTypes with | mk l => rw [hq] at h2; simp at h2; simp [h2]
        have hrun : ∀ z w', (Builtin.unsafeString_ #[t, it] o.type #[(ac tm).eval x, (ac tm).eval y]).run P w = .ok z w' → (execOp (ac tm).eval o).run P w = .ok (.value z) w' := by
          intro z w' hz
          simp only [execOp, ho, resolve, hb, hts, eval2 h1, Sem.run_bind, Sem.run_pure, Result.andThen_ok, invoke, builtin, hz]
        simp only [Ins.sem] at hs
        cases hx : opd e a <;> rw [hx] at hs <;> first | (simp at hs; done) | skip
        · rename_i r off
          cases hy : opd e b <;> rw [hy] at hs <;> first | (simp at hs; done) | skip
          rename_i kk k
          cases kk <;> first | (simp at hs; done) | skip
          simp only at hs
          split at hs
          · rename_i e0 cs hg
            split at hs
            · rename_i hh
              obtain ⟨rfl, rfl, hk0, hkb, hle⟩ := hh
              split at hs
              · rename_i l hl
                simp at hs; subst hs
                have hr := opd_rel hF h5 (by rw [hx]; rfl)
                rw [hx] at hr
                obtain ⟨p, ob, hm, hh, hrow⟩ := hS.lies hg (by simp) hr.ptr_known
                obtain ⟨ce, fr', rfl, q0, q1, q2, q3, q4, q5⟩ := hrow
                have q0 := q0 rfl
                have hv := hr.ptr_at hm
                rw [q0] at hv
                obtain ⟨vs, g1, g2, g3, _⟩ := q5.range 0 k.toNat hle
                obtain ⟨ns, rfl, rfl, hns⟩ := bytesOf_sound hl g1
                obtain ⟨us, rfl⟩ := bytes_cells ns hns
                have hul : us.length = k.toNat := by simpa using g2
                have hkeq : k = (us.length : Int) := by omega
                have hcel : P.cellsOf e0 = 1 := by
                  simp only [sizeT] at h4
                  simp [Program.cellsOf, h4]
                have hus := run_unsafeString_row' hu hcel hh us (by intro h; subst h; simp at hul; omega) (by omega) (by omega) (fun j b hj => by
                  have : (us.map fun b => Value.int .u8 (b.toNat : Int))[j]? = some (.int .u8 b.toNat) := by simp [hj]
                  have h3 := g3 j (.int .u8 b.toNat) (by simpa using this)
                  rw [q0] at h3
                  simpa using h3) it o.type
                have hfo : ∀ b, b ≠ p.b → (w.freeze ⟨p.b, 0, none⟩ us.length).heap[b]? = w.heap[b]? := fun b h => freeze_other ⟨p.b, 0, none⟩ us.length b h
                obtain ⟨fr2, hfa⟩ := freeze_at (w := w) ⟨p.b, 0, none⟩ us.length hh
                have hsz : (w.freeze ⟨p.b, 0, none⟩ us.length).heap.size = w.heap.size := by unfold World.freeze; split <;> simp
                have hos : (w.freeze ⟨p.b, 0, none⟩ us.length).os = w.os := by unfold World.freeze; split <;> rfl
                have htp : (w.freeze ⟨p.b, 0, none⟩ us.length).tape = w.tape := by unfold World.freeze; split <;> rfl
                have hot : (w.freeze ⟨p.b, 0, none⟩ us.length).output = w.output := by unfold World.freeze; split <;> rfl
                obtain ⟨k1, k2, k3⟩ := write_row hF hS hm q1 (row := .fix cs) hsz hos htp hot hfo ⟨_, hfa, ce, e0, fr2, rfl, q5⟩
                refine ⟨_, _, _, m, bm, hrun _ _ (by rw [hv, opd_int hF h6 hy, hkeq]; exact hus), .inl rfl, k1, ?_, k3.put hd ?_, fun r a b => (a b).elim⟩
                · simp only [upO, upG, upN]; exact k2
                · simp only [VRel]
                  refine ⟨_, rfl, ?_⟩
                  simp [bsOf]
              · simp at hs
            · simp at hs
          · simp at hs
        · cases hy : opd e b <;> rw [hy] at hs <;> first | (simp at hs; done) | skip
          rename_i kk k
          cases kk <;> first | (simp at hs; done) | skip
          simp only at hs
          split at hs
          · rename_i hk0
            simp at hs; subst hs; subst hk0
            have hr := opd_rel hF h5 (by rw [hx]; rfl)
            rw [hx] at hr
            simp only [VRel] at hr
            refine Pur.done hF hS hd (.mk (x := .string .empty) ?_ (by simp only [VRel]; exact ⟨_, rfl, rfl⟩)) nx
            exact hrun _ _ (by rw [hr, opd_int hF h6 hy]; exact Lib.run_unsafeString_none w _ _ _ _)
          · simp at hs
      · simp at hc
    · simp at hc
  · simp at hc

theorem s_fieldAddr (hF : Fr m bm e al tm w) (hS : Sim m g w) {o : Oper} (hd : ∀ t, o.dst = some t → t < tm.size) {s : TypeId} {x : Operand} {f : Nat} (ho : o.op = .fieldAddr s x f) {i : Ins} (hc : cIns P bs o = some i) {fr : Nat → Bool} {nx : Nat} {out : Out}
    (hs : i.sem e al g fr nx o.dst = some out) : Done P m bm e al tm w g nx o out := by
  obtain ⟨y, off, rfl, hy, hval⟩ := s_fieldAddr_row (w := w) hF ho hc
  simp only [Ins.sem] at hs
  split at hs
  · rename_i u o' ha
    simp at hs; subst hs
    obtain ⟨t, b, hx, hb, hv⟩ := addr_box hF hy ha
    have hrun := hval b o' hv
    refine ⟨_, _, w, m, bm, hrun, .inl rfl, .refl _ _ _, ?_, ?_, fun r a b => (a b).elim⟩
    · simp only [upO, upG, upN]; exact hS
    · exact hF.putAl hd hb
  · rename_i r o' ha
    simp at hs; subst hs
    have hy' := addr_row hF hy ha
    have hr := opd_rel hF hy (by rw [hy']; rfl)
    rw [hy'] at hr
    have hr' := hr
    simp only [VRel] at hr
    split at hr
    · rename_i p hm
      refine Pur.done hF hS hd (.mk (hval p.b (p.sh + o') hr) ?_) nx
      simp only [VRel, hm]; simp; omega
    · rename_i hm
      obtain ⟨a, hv⟩ := hr
      refine Pur.done hF hS hd (.mk (x := .pointer (some (a.add off))) ?_ (by simp only [VRel, hm]; exact ⟨_, rfl⟩)) nx
      simp only [cIns, ho] at hc
      split at hc
      · rename_i fs hu
        split at hc
        · rename_i fd hf
          split at hc
          · rename_i n y' h1 h2
            simp at hc
            obtain ⟨_, rfl⟩ := hc
            simp [Val, execOp, ho, Instr.fieldAt, run_underlying hu, hf, hv, Instr.sureAddr, fieldPlace, run_size h1]
          · simp at hc
        · simp at hc
      · simp at hc
    · exact hr.elim
  · simp at hs

theorem s_toBytes (hF : Fr m bm e al tm w) (hS : Sim m g w) {o : Oper} (hd : ∀ t, o.dst = some t → t < tm.size) {s t : TypeId} {x : Operand} (ho : o.op = .convert s t x) (hb : cBytes P s t = true) {i : Ins} (hc : cIns P bs o = some i) {fr : Nat → Bool} {nx : Nat} (hnx : m nx = .unk) {out : Out}
    (hs : i.sem e al g fr nx o.dst = some out) : Done P m bm e al tm w g nx o out := by
  simp only [cIns, ho] at hc
  rw [if_pos hb] at hc
  simp only [Option.map_eq_some_iff] at hc
  obtain ⟨a, h2, rfl⟩ := hc
  simp only [Ins.sem] at hs
  split at hs
  · rename_i l hx
    simp at hs; subst hs
    obtain ⟨u, hu, rfl⟩ := opd_str hF h2 hx
    unfold cBytes at hb
    split at hb
    · rename_i el h3 h4
      split at hb
      · rename_i h5
        have hrun := run_bytes_of_string (P := P) w s t el u h3 h4 h5
        refine done_new hF hS hd hnx (w' := w.drew.alloc (.cells (bytesRow u (grownCap w u.size 0 el)) el ((bytesRow u (grownCap w u.size 0 el)).size, (bytesRow u (grownCap w u.size 0 el)).size + 1))) (row := .fix ((bsOf u).map fun (n : Nat) => AVal.int .u8 (Int.ofNat n))) (ob := .cells (bytesRow u (grownCap w u.size 0 el)) el ((bytesRow u (grownCap w u.size 0 el)).size, (bytesRow u (grownCap w u.size 0 el)).size + 1)) (x := .slice (some ⟨w.heap.size, 0, none⟩) u.size (grownCap w u.size 0 el))
          (p := ⟨w.heap.size, 0, 0, false⟩) rfl ?_ rfl rfl rfl rfl ?_ ?_
        · simp only [execOp, ho, hu, Sem.run_bind, hrun, Result.andThen_ok, Sem.run_pure]
        · refine ⟨_, _, _, rfl, fun i x hi => ?_⟩
          simp only [List.getElem?_map, Option.map_eq_some_iff] at hi
          obtain ⟨n, hn, rfl⟩ := hi
          refine ⟨rfl, .int .u8 n, ?_, by simp [VRel]⟩
          have hi : i < u.data.size := by
            have := (List.getElem?_eq_some_iff.1 hn).1
            simpa [bsOf] using this
          have hn' : u.data[i].toNat = n := by
            have h := hn
            simp only [bsOf, List.getElem?_map, Array.getElem?_toList, Array.getElem?_eq_getElem hi, Option.map_some, Option.some.injEq] at h
            exact h
          show (bytesRow u _)[0 + i]? = _
          rw [Nat.zero_add, bytesRow, Array.getElem?_append_left (by simpa using hi)]
          simp only [Array.getElem?_map, Array.getElem?_eq_getElem hi, Option.map_some, hn']
        · simp only [VRel, if_true]
          have hl : (bsOf u).length = u.size := by simp [bsOf]
          rw [hl]
          exact ⟨0, _, rfl, le_grown _ _ _, .inr rfl, fun h => by cases h⟩
      · simp at hb
    · simp at hb
  · simp at hs

/-- Every simple instruction. -/
theorem simple_sound (hF : Fr m bm e al tm w) (hS : Sim m g w) {o : Oper} (hd : ∀ t, o.dst = some t → t < tm.size) {i : Ins} (hc : cIns P bs o = some i) {fr : Nat → Bool} (hfr : ∀ t, fr t = true → ∀ u p, al u = some p → p.1 ≠ t) {nx : Nat} (hnx : m nx = .unk) {out : Out}
    (hs : i.sem e al g fr nx o.dst = some out) : Done P m bm e al tm w g nx o out := by
  cases ho : o.op with
  | move x => exact (s_move hF (.inl ho) hc hs).done hF hS hd nx
  | assign x => exact (s_move hF (.inr ho) hc hs).done hF hS hd nx
  | pick a b c => exact (s_pick hF ho hc hs).done hF hS hd nx
  | alloc t => exact s_alloc hF hS hd ho hc hfr hnx hs
  | box t x => exact s_box hF hS hd ho hc hfr hnx hs
  | build t ps => exact (s_build hF ho hc hs).done hF hS hd nx
  | buildSlice t n ps => exact s_buildSlice hF hS hd ho hc hnx hs
  | insert t a b c => exact s_mapup hF hS hd (.inr ho) hc hs
  | load t a => exact (s_load hF hS ho hc hs).done hF hS hd nx
  | store t a b => exact s_store hF hS hd ho hc hs
  | nilCheck x => exact (s_nilCheck hF ho hc hs).done hF hS hd nx
  | binOp op t x y t' => exact (s_binOp hF hS ho hc hs).done hF hS hd nx
  | unOp op t x => exact (s_unOp hF ho hc hs).done hF hS hd nx
  | convert s t x =>
    by_cases hb : cBytes P s t = true
    · exact s_toBytes hF hS hd ho hb hc hnx hs
    · exact (s_conv hF hS ho hb hc hs).done hF hS hd nx
  | makeFunc fn a b => exact (s_makeFunc hF ho hc hs).done hF hS hd nx
  | makeMap t r => exact s_makeMap hF hS hd ho hc hnx hs
  | makeSlice t l c => exact s_makeSlice hF hS hd ho hc hnx hs
  | slice t x lo hi mx => exact (s_slice hF ho hc hs).done hF hS hd nx
  | fieldAddr s x f => exact s_fieldAddr hF hS hd ho hc hs
  | field s x f => exact (s_field hF ho hc hs).done hF hS hd nx
  | indexAddr t x k => exact (s_indexAddr hF ho hc hs).done hF hS hd nx
  | index t x k => exact (s_index hF ho hc hs).done hF hS hd nx
  | lookup t x k ok => exact (s_lookup hF hS ho hc hs).done hF hS hd nx
  | mapUpdate t a b c => exact s_mapup hF hS hd (.inl ho) hc hs
  | extract x k => exact (s_extract hF ho hc hs).done hF hS hd nx
  | call c =>
    cases hb : c.callee with
    | builtin b =>
      cases b with
      | len => exact (s_len hF hS ho hb hc hs).done hF hS hd nx
      | append => exact s_append hF hS hd ho hb hc hnx hs
      | min => exact (s_mm hF ho (.inl hb) hc hs).done hF hS hd nx
      | max => exact (s_mm hF ho (.inr hb) hc hs).done hF hS hd nx
      | unsafeSliceData => exact (s_uData hF ho hb hc hs).done hF hS hd nx
      | unsafeString => exact s_uStr hF hS hd ho hb hc hs
      | _ => simp [cIns, ho, hb] at hc
    | value f =>
      exfalso
      simp only [cIns, ho, hb] at hc
      split at hc
      · simp at hc; subst hc; simp [Ins.sem] at hs
      · simp at hc
    | invoke r mt => simp [cIns, ho, hb] at hc
  | ready g => simp [cIns, ho] at hc
  | waits g => simp [cIns, ho] at hc
  | sliceToArrayPointer t x => simp [cIns, ho] at hc
  | makeInterface t x => simp [cIns, ho] at hc
  | makeChan t x => simp [cIns, ho] at hc
  | mapEntry t a b => simp [cIns, ho] at hc
  | entryStore t a b c => simp [cIns, ho] at hc
  | range t x => simp [cIns, ho] at hc
  | next i b => simp [cIns, ho] at hc
  | entry i => simp [cIns, ho] at hc
  | typeAssert x a b c => simp [cIns, ho] at hc
  | go c => simp [cIns, ho] at hc
  | defer c => simp [cIns, ho] at hc
  | panic x => simp [cIns, ho] at hc
  | send a b => simp [cIns, ho] at hc
  | recv a b c => simp [cIns, ho] at hc
  | select a b => simp [cIns, ho] at hc

end
end Ab

/- Heaps only grow: rows that are there stay there; a row that is written bears a new stamp. -/
set_option linter.unusedVariables false
set_option linter.unusedSimpArgs false
namespace Ab
open Go

/-- Each stamp is below the clock. -/
def HW (h : Heap) : Prop := ∀ r x, h.t.get r = some x → x.1 < h.clk

structure Upd (h h' : Heap) : Prop where
  clk : h.clk ≤ h'.clk
  next : h.next ≤ h'.next
  row : ∀ r, h'.t.get r = h.t.get r ∨ ∃ x, h'.t.get r = some x ∧ h.clk ≤ x.1

theorem Upd.refl (h : Heap) : Upd h h := ⟨Nat.le_refl _, Nat.le_refl _, fun _ => .inl rfl⟩
theorem Upd.trans {a b c : Heap} (h : Upd a b) (k : Upd b c) : Upd a c where
  clk := Nat.le_trans h.clk k.clk
  next := Nat.le_trans h.next k.next
  row := fun r => by
    rcases k.row r with e | ⟨x, e, hx⟩
    · rcases h.row r with e' | ⟨x, e', hx⟩
      · exact .inl (e.trans e')
      · exact .inr ⟨x, e.trans e', hx⟩
    · exact .inr ⟨x, e, Nat.le_trans h.clk hx⟩

theorem Upd.has {h h' : Heap} (k : Upd h h') {r : Nat} (hr : h.get r ≠ none) : h'.get r ≠ none := by
  unfold Heap.get at *
  rcases k.row r with e | ⟨x, e, _⟩
  · rw [e]; exact hr
  · rw [e]; simp

theorem Upd.same {h h' : Heap} (k : Upd h h') (hw : HW h) {r : Nat} (hr : h.get r ≠ none) (hv : h'.ver r = h.ver r) : h'.get r = h.get r := by
  unfold Heap.get at *
  unfold Heap.ver at hv
  rcases k.row r with e | ⟨x, e, hx⟩
  · rw [e]
  · cases hq : h.t.get r with
    | none => rw [hq] at hr; simp at hr
    | some y =>
      have := hw r y hq
      rw [e, hq] at hv
      simp at hv
      omega

theorem put_ok {h : Heap} (hw : HW h) (r : Nat) (x : Row) : HW (h.put r x) ∧ Upd h (h.put r x) := by
  refine ⟨fun q y hq => ?_, ⟨Nat.le_succ _, Nat.le_refl _, fun q => ?_⟩⟩
  · simp only [Heap.put, Tr.get_set] at hq ⊢
    split at hq
    · injection hq with hq; subst hq; exact Nat.lt_succ_self _
    · have := hw q y hq; omega
  · simp only [Heap.put, Tr.get_set]
    split
    · exact .inr ⟨_, rfl, Nat.le_refl _⟩
    · exact .inl rfl

theorem new_ok {h : Heap} (hw : HW h) (x : Row) : HW (h.new x) ∧ Upd h (h.new x) := by
  refine ⟨fun q y hq => ?_, ⟨Nat.le_succ _, Nat.le_succ _, fun q => ?_⟩⟩
  · simp only [Heap.new, Tr.get_set] at hq ⊢
    split at hq
    · injection hq with hq; subst hq; exact Nat.lt_succ_self _
    · have := hw q y hq; omega
  · simp only [Heap.new, Tr.get_set]
    split
    · exact .inr ⟨_, rfl, Nat.le_refl _⟩
    · exact .inl rfl

theorem get_put (h : Heap) (r : Nat) (x : Row) (q : Nat) : (h.put r x).get q = if q = r then some x else h.get q := by
  simp only [Heap.get, Heap.put, Tr.get_set]; split <;> rfl

theorem get_new (h : Heap) (x : Row) (q : Nat) : (h.new x).get q = if q = h.next then some x else h.get q := by
  simp only [Heap.get, Heap.new, Tr.get_set]; split <;> rfl

theorem puts_ok : ∀ (l : List (Nat × Row)) {h : Heap}, HW h → HW (h.puts l) ∧ Upd h (h.puts l) ∧ (h.puts l).next = h.next
  | [], h, hw => ⟨hw, .refl _, rfl⟩
  | (r, x) :: l, h, hw => by
    obtain ⟨a, b⟩ := put_ok hw r x
    obtain ⟨c, d, e⟩ := puts_ok l a
    exact ⟨c, b.trans d, e⟩

theorem get_puts : ∀ (l : List (Nat × Row)) (h : Heap), (h.puts l).get = upG h.get l
  | [], h => rfl
  | (r, x) :: l, h => by
    show ((h.put r x).puts l).get = _
    rw [get_puts l (h.put r x)]
    show upG (h.put r x).get l = upG (fun u => if u = r then some x else h.get u) l
    congr 1
    funext u
    exact get_put h r x u

theorem outs_ok {h h' : Heap} (hw : HW h) {u : Out} (ho : h.outs u = some h') : HW h' ∧ Upd h h' ∧ h'.get = upO h.get h.next u ∧ (u.new.isSome = true → h.get h.next = none) := by
  unfold Heap.outs at ho
  obtain ⟨a, b, c⟩ := puts_ok u.puts hw
  split at ho
  · rename_i hn
    simp at ho; subst ho
    exact ⟨a, b, by rw [get_puts]; simp [upO, upN, hn], by rw [hn]; intro h; cases h⟩
  · rename_i x hn
    split at ho
    · rename_i hx
      simp at ho; subst ho
      obtain ⟨d, e⟩ := new_ok a x
      refine ⟨d, b.trans e, ?_, fun _ => by simpa using hx⟩
      funext q
      rw [get_new, get_puts, c]
      simp [upO, upN, hn]
    · simp at ho

/-- A call does nothing else to the heap. -/
def CfOk (cf : CallF) : Prop := ∀ f args h v h', HW h → cf f args h = some (v, h') → HW h' ∧ Upd h h'

theorem step1_ok {cf : CallF} (hcf : CfOk cf) {s s' : Rs} {o : Op} {f : Foot} (hw : HW s.h) (hs : step1 cf s o = some (s', f)) : HW s'.h ∧ Upd s.h s'.h := by
  unfold step1 at hs
  split at hs
  · simp at hs
  · simp at hs; obtain ⟨rfl, _⟩ := hs; exact ⟨hw, .refl _⟩
  · split at hs
    · rename_i fo args hi
      unfold call1 at hs
      split at hs
      · rename_i v h' hc
        split at hs
        · simp at hs; obtain ⟨rfl, _⟩ := hs
          unfold calls at hc
          split at hc
          · exact hcf _ _ _ _ _ hw hc
          · simp at hc
        · simp at hs
      · simp at hs
    · unfold simple1 at hs
      split at hs
      · simp at hs
      · split at hs
        · split at hs
          · simp at hs
          · rename_i h' ho
            simp at hs; obtain ⟨rfl, _⟩ := hs
            obtain ⟨a, b, _⟩ := outs_ok hw ho
            exact ⟨a, b⟩
        · simp at hs

theorem steps_ok {cf : CallF} (hcf : CfOk cf) : ∀ (l : List Op) {s s' : Rs} {fs : List Foot}, HW s.h → steps cf l s = some (s', fs) → HW s'.h ∧ Upd s.h s'.h
  | [], s, s', fs, hw, hs => by simp [steps] at hs; obtain ⟨rfl, _⟩ := hs; exact ⟨hw, .refl _⟩
  | o :: l, s, s', fs, hw, hs => by
    simp only [steps] at hs
    split at hs
    · simp at hs
    · rename_i s1 f h1
      split at hs
      · simp at hs
      · rename_i s2 fs2 h2
        simp at hs; obtain ⟨rfl, _⟩ := hs
        obtain ⟨a, b⟩ := step1_ok hcf hw h1
        obtain ⟨c, d⟩ := steps_ok hcf l a h2
        exact ⟨c, b.trans d⟩

theorem exec_ok {cf : CallF} (hcf : CfOk cf) : ∀ (n : Nat) (c : Cd) {s s' : St} {x : Ex}, HW s.h → exec cf n c s = some (x, s') → HW s'.h ∧ Upd s.h s'.h
  | 0, c, s, s', x, hw, hs => by simp [exec] at hs
  | n + 1, c, s, s', x, hw, hs => by
    cases c with
    | skip => simp [exec] at hs; obtain ⟨_, rfl⟩ := hs; exact ⟨hw, .refl _⟩
    | exit id => simp [exec] at hs; obtain ⟨_, rfl⟩ := hs; exact ⟨hw, .refl _⟩
    | ret => simp [exec] at hs; obtain ⟨_, rfl⟩ := hs; exact ⟨hw, .refl _⟩
    | bad => simp [exec] at hs
    | reg ops conf kill =>
      simp only [exec] at hs
      split at hs
      · rename_i s1 fs h1
        split at hs
        · simp at hs; obtain ⟨_, rfl⟩ := hs
          exact steps_ok hcf ops (s := ⟨s.e, [], s.h⟩) hw h1
        · simp at hs
      · simp at hs
    | seq a b =>
      simp only [exec] at hs
      split at hs
      · rename_i s1 h1
        obtain ⟨p, q⟩ := exec_ok hcf n a hw h1
        obtain ⟨u, v⟩ := exec_ok hcf n b p hs
        exact ⟨u, q.trans v⟩
      · exact exec_ok hcf n a hw hs
    | cond c a b =>
      simp only [exec] at hs
      split at hs
      · exact exec_ok hcf n a hw hs
      · exact exec_ok hcf n b hw hs
      · simp at hs
    | block id b =>
      simp only [exec] at hs
      split at hs
      · rename_i j s1 h1
        split at hs <;> (simp at hs; obtain ⟨_, rfl⟩ := hs; exact exec_ok hcf n b hw h1)
      · exact exec_ok hcf n b hw hs
    | loop b =>
      simp only [exec] at hs
      split at hs
      · rename_i s1 h1
        obtain ⟨p, q⟩ := exec_ok hcf n b hw h1
        obtain ⟨u, v⟩ := exec_ok hcf n (.loop b) p hs
        exact ⟨u, q.trans v⟩
      · exact exec_ok hcf n b hw hs

theorem callF_ok (tb : Tbl) : ∀ n, CfOk (callF tb n)
  | 0 => fun f args h v h' hw hs => by simp [callF] at hs
  | n + 1 => fun f args h v h' hw hs => by
    simp only [callF] at hs
    split at hs
    · simp at hs
    · split at hs
      · simp at hs; obtain ⟨_, rfl⟩ := hs; exact ⟨hw, .refl _⟩
      · simp at hs
    · split at hs
      · split at hs
        · simp at hs
        · rename_i x s hx _
          split at hs
          · simp at hs; obtain ⟨_, rfl⟩ := hs
            exact exec_ok (callF_ok tb n) n _ (s := ⟨_, h⟩) hw (by assumption)
          · simp at hs
        · simp at hs
      · simp at hs

end Ab

/- One operation of a region: a simple one; a call; one that is not wanted. -/
set_option linter.unusedVariables false
set_option linter.unusedSimpArgs false
namespace Ab
open Go

abbrev nb : BM := fun _ => none

/-- The function, called, yields a value so. -/
def Does (P : Program) (f : FuncId) (args : Array Value) (w : World) (R : Value → World → Prop) : Prop :=
  (∃ v w', (callFunc f args).run P w = .ok (.value v) w' ∧ R v w') ∨
  ((callFunc f args).run P w = .ok (.enter f args) w ∧ Calls P f args w fun e w' => match e with | .returned v => R v w' | _ => False)

/-- What is known of blocks that are not written. -/
def Keeps (I : (Nat → Prop) → World → Prop) : Prop :=
  ∀ (A A' : Nat → Prop) (w w' : World), I A w → WFr A w w' → (∀ b, A' b → b < w.heap.size → A b) → I A' w'

def After (m : M) (h h' : Heap) (w : World) (v : AVal) (x : Value) (w' : World) : Prop :=
  ∃ m', Later m nb w m' nb w' ∧ Sim m' h'.get w' ∧ VRel m' v x ∧ ∀ r, m' r ≠ .unk → m r = .unk → h.get r = none ∧ h'.get r ≠ none

def CallOk (P : Program) (I : (Nat → Prop) → World → Prop) (cf : CallF) : Prop :=
  ∀ f l h v h', HW h → cf f l h = some (v, h') → ∀ m w vs, I (Own m nb) w → Sim m h.get w → VsRel m l vs → Does P f vs.toArray w (After m h h' w v)

theorem Keeps.later {I : (Nat → Prop) → World → Prop} (hI : Keeps I) {m m' : M} {bm bm' : BM} {w w' : World} (h : I (Own m bm) w) (hL : Later m bm w m' bm' w') : I (Own m' bm') w' :=
  hI _ _ w w' h hL.wfr fun b hb hs => hL.own b hs hb

theorem Keeps.less {I : (Nat → Prop) → World → Prop} (hI : Keeps I) {m : M} {bm : BM} {w : World} (h : I (Own m bm) w) : I (Own m nb) w :=
  hI _ _ w w h (.refl _ w) fun b hb _ => by
    rcases hb with h | ⟨t, ht⟩
    · exact .inl h
    · simp [nb] at ht

section
variable {P : Program} {I : (Nat → Prop) → World → Prop} {bs : List Nat} {m : M} {bm : BM} {e : Nat → AVal} {al : Nat → Option (Nat × Nat)} {a : Act} {w : World} {ops : Array Oper} {Q : Exit → Act → World → Prop}

theorem wanted_of (hF : Fr m bm e al a.tmps w) {o : Oper} {g : Option (Nat × Bool)} (hg : cGuard ops o = some g) {b : Bool} (hw : wants e g = some b) : Region.wanted o (yielded ops a.tmps) = b := by
  unfold cGuard at hg
  unfold Region.wanted
  cases ho : o.guard with
  | none => rw [ho] at hg; simp at hg; subst hg; simpa [wants] using hw
  | some jb =>
    obtain ⟨j, b0⟩ := jb
    rw [ho] at hg
    cases hd : (ops[j]?).bind (·.dst) with
    | none => simp [hd] at hg
    | some d =>
      simp [hd] at hg; subst hg
      have hs := hF.slot d
      simp only [wants] at hw
      simp only [yielded, hd, Option.bind_some]
      split at hw
      · rename_i b' he
        simp at hw
        rw [he] at hs
        simp only [SlotRel, VRel] at hs
        have : a.tmps[d]? = some (.bool b') := by
          cases ht : a.tmps[d]? with
          | none => simp [Array.getD_eq_getD_getElem?, ht, undef] at hs
          | some v => simp [Array.getD_eq_getD_getElem?, ht] at hs; rw [hs]
        rw [this]
        subst hw
        cases b' <;> cases b0 <;> rfl
      · rename_i he
        simp at hw
        rw [he] at hs
        simp only [SlotRel, VRel] at hs
        obtain ⟨vs, hv, hn⟩ := hs
        have := hn.unnil
        subst this
        cases ht : a.tmps[d]? with
        | none => subst hw; rfl
        | some v =>
          simp [Array.getD_eq_getD_getElem?, ht] at hv
          rw [hv]; subst hw; rfl
      · simp at hw

theorem Later.of_call {m' : M} {w' : World} (hL : Later m nb w m' nb w') : Later m bm w m' bm w' where
  le := hL.le
  wfr := hL.wfr.mono fun b hb => by
    rcases hb with h | ⟨t, ht⟩
    · exact .inl h
    · simp [nb] at ht
  rows := hL.rows
  boxes := fun _ _ h => .inl h

theorem Fr.of_call (hF : Fr m bm e al a.tmps w) {m' : M} {w' : World} (hL : Later m nb w m' nb w') : Fr m' bm e al a.tmps w' :=
  hF.later hL.of_call fun t b hb => hL.wfr.block b (hF.disj t b hb).1 fun ho => by
    rcases ho with ⟨r, p, h1, _, h3⟩ | ⟨t, ht⟩
    · exact (hF.disj t b hb).2 r p h1 h3
    · simp [nb] at ht

theorem put_tmps (a : Act) (d : Option Tmp) (x : Value) : ((ac a.tmps).put d x).tmps = (a.put d x).tmps := by cases d <;> rfl

theorem op_call {cf : CallF} (hI : Keeps I) (hcf : CallOk P I cf) (hF : Fr m bm e al a.tmps w) {h : Heap} (hH : HW h) (hS : Sim m h.get w) (hi : I (Own m bm) w) {o : Oper} (hd : ∀ t, o.dst = some t → t < a.tmps.size)
    {f : Opd} {args : List Opd} (hc : cIns P bs o = some (.call f args)) {k : Nat} {caps l : List AVal} (hf : opd e f = .fn k caps) (hl : vals e args = some l) {v : AVal} {h' : Heap} (hv : cf k (l ++ caps) h = some (v, h'))
    {K : Act → World → Prop}
    (hK : ∀ x w' m', Later m bm w m' bm w' → Sim m' h'.get w' → Fr m' bm (upE e o.dst v) (upA al o.dst none) (a.put o.dst x).tmps w' → (∀ r, m' r ≠ .unk → m r = .unk → h.get r = none ∧ h'.get r ≠ none) → K (a.put o.dst x) w') :
    o.wp P a w K Q := by
  have hop : ∃ c x, o.op = .call c ∧ c.callee = .value x ∧ cOpd x = some f ∧ cOpds c.args.toList = some args := by
    cases ho : o.op with
    | call c =>
      cases hb : c.callee with
      | value x =>
        simp only [cIns, ho, hb] at hc
        split at hc
        · rename_i h1 h2; simp at hc; obtain ⟨rfl, rfl⟩ := hc; exact ⟨c, x, rfl, hb, h1, h2⟩
        · simp at hc
      | builtin b =>
        exfalso
        simp only [cIns, ho, hb] at hc
        repeat' split at hc
        all_goals first | (simp at hc; done) | (simp_all; done) | (simp only [Option.map_eq_some_iff] at hc; obtain ⟨_, _, hc⟩ := hc; first | (cases hc; done) | (split at hc <;> cases hc; done))
      | invoke r mt => simp [cIns, ho, hb] at hc
    | insert t x y z =>
      exfalso
      simp only [cIns, ho, cMapup] at hc
      repeat' split at hc
      all_goals first | (simp at hc; done) | (simp_all; done) | (simp only [Option.map_eq_some_iff] at hc; obtain ⟨_, _, hc⟩ := hc; first | (cases hc; done) | (split at hc <;> cases hc; done))
    | mapUpdate t x y z =>
      exfalso
      simp only [cIns, ho, cMapup] at hc
      repeat' split at hc
      all_goals first | (simp at hc; done) | (simp_all; done) | (simp only [Option.map_eq_some_iff] at hc; obtain ⟨_, _, hc⟩ := hc; first | (cases hc; done) | (split at hc <;> cases hc; done))
    | _ =>
      exfalso
      simp only [cIns, ho] at hc
      try (repeat' split at hc)
      all_goals first | (simp at hc; done) | (simp_all; done) | (simp only [Option.map_eq_some_iff] at hc; obtain ⟨_, _, hc⟩ := hc; first | (cases hc; done) | (split at hc <;> cases hc; done))
  obtain ⟨c, x, ho, hb, hx, hargs⟩ := hop
  have hfv := opd_rel hF hx (by rw [hf]; rfl)
  rw [hf] at hfv
  simp only [VRel] at hfv
  obtain ⟨cs, hfe, hcs⟩ := hfv
  have has := cOpds_rel hF hargs hl
  have hdo := hcf k (l ++ caps) h v h' hH hv m w _ (hI.less hi) hS (has.append hcs)
  have hex : (execOp a.eval o).run P w = (callFunc k (c.args.toList.map a.eval ++ cs).toArray).run P w := by
    have he : a.eval x = .func (.func k) #[] cs.toArray := hfe
    unfold execOp
    simp [ho, resolve, hb, he, Deferred.ofValue, invoke]
    congr 2
    apply Array.ext'
    simp
  have fin : ∀ y w', After m h h' w v y w' → K (a.put o.dst y) w' := by
    rintro y w' ⟨m', h1, h2, h3, h4⟩
    exact hK y w' m' h1.of_call h2 (put_tmps a o.dst y ▸ (hF.of_call h1).put hd h3) h4
  unfold Oper.wp
  rw [hex]
  rcases hdo with ⟨y, w', h1, h2⟩ | ⟨h1, h2⟩
  · have h1' : (callFunc k (c.args.toList.map a.eval ++ cs).toArray).run P w = .ok (.value y) w' := h1
    rw [h1']
    exact fin y w' h2
  · have h1' : (callFunc k (c.args.toList.map a.eval ++ cs).toArray).run P w = .ok (.enter k (c.args.toList.map a.eval ++ cs).toArray) w := h1
    rw [h1']
    exact Calls.mono h2 fun en w' he => by
      cases en with
      | returned y => exact fin y w' he
      | _ => exact he.elim

/-- A simple one. -/
theorem op_simple (hF : Fr m bm e al a.tmps w) {g : Nat → Option Row} (hS : Sim m g w) {o : Oper} (hd : ∀ t, o.dst = some t → t < a.tmps.size) {i : Ins} (hc : cIns P bs o = some i)
    {fr : Nat → Bool} (hfr : ∀ t, fr t = true → ∀ u p, al u = some p → p.1 ≠ t) {nx : Nat} (hnx : m nx = .unk) {out : Out} (hs : i.sem e al g fr nx o.dst = some out) {K : Act → World → Prop}
    (hK : ∀ x w' m' bm', Later m bm w m' bm' w' → Sim m' (upO g nx out) w' → Fr m' bm' (upB (upE e o.dst out.v) out.bx) (upA al o.dst out.al) (a.put o.dst x).tmps w' → (∀ r, m' r ≠ .unk → m r = .unk → r = nx) → K (a.put o.dst x) w') :
    o.wp P a w K Q := by
  obtain ⟨n, x, w', m', bm', h1, h2, h3, h4, h5, h6⟩ := simple_sound hF hS hd hc hfr hnx hs
  have h1' : (execOp a.eval o).run P w = .ok n w' := h1
  unfold Oper.wp
  rw [h1']
  have := hK x w' m' bm' h3 h4 (put_tmps a o.dst x ▸ h5) h6
  rcases h2 with rfl | ⟨rfl, rfl⟩
  · exact this
  · exact this

/-- One that is not wanted. -/
theorem op_skip (hF : Fr m bm e al a.tmps w) {o : Oper} (hd : ∀ t, o.dst = some t → t < a.tmps.size) : Fr m bm (upE e o.dst (.tup [])) (upA al o.dst none) (a.put o.dst undef).tmps w :=
  put_tmps a o.dst undef ▸ hF.put hd (v := .tup []) (x := undef) (by simp only [VRel]; exact ⟨[], rfl, .nil⟩)

theorem put_size (a : Act) (d : Option Tmp) (x : Value) : (a.put d x).tmps.size = a.tmps.size := by
  cases d with
  | none => rfl
  | some t => simp [Act.put]

theorem put_defers (a : Act) (d : Option Tmp) (x : Value) : (a.put d x).defers = a.defers := by
  cases d <;> rfl
end

/- The compiled operations, one by one. -/
theorem cOps_at {P : Program} {nt : Nat} {bs : List Nat} {ops : Array Oper} : ∀ {l : List Oper} {ys : List Op}, cOps P nt bs ops l = some ys →
    ys.length = l.length ∧ ∀ (i : Nat) (o : Oper), l[i]? = some o → ∃ op, ys[i]? = some op ∧ cIns P bs o = some op.i ∧ cGuard ops o = some op.g ∧ op.d = o.dst ∧ (∀ t, o.dst = some t → t < nt) ∧ cBox bs o.dst = op.i.mkB
  | [], ys, h => by simp [cOps] at h; subst h; simp
  | o :: r, ys, h => by
    simp only [cOps] at h
    split at h
    · rename_i i g l hi hg hl
      split at h
      · rename_i hx
        simp at h; subst h
        obtain ⟨h1, h2⟩ := cOps_at hl
        refine ⟨by simp [h1], fun k o' hk => ?_⟩
        cases k with
        | zero =>
          simp at hk; subst hk
          simp only [Bool.and_eq_true, beq_iff_eq] at hx
          refine ⟨_, rfl, hi, hg, rfl, fun t ht => ?_, hx.2⟩
          have := hx.1; rw [ht] at this; simpa using this
        | succ k => simpa using h2 k o' (by simpa using hk)
      · simp at h
    · simp at h
end Ab
