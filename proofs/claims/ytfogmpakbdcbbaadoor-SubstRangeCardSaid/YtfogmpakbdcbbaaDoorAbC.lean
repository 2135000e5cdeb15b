/- What an instruction looks into and writes. -/
import Derived.Test.YtfogmpakbdcbbaaDoorAbB
import Derived.LoopN
set_option linter.unusedVariables false
set_option linter.unusedSimpArgs false
set_option linter.unusedVariables false
set_option linter.unusedSimpArgs false
namespace Ab
open Go

section
variable {ev ev' : Nat → AVal} {al al' : Nat → Option (Nat × Nat)} {g g' : Nat → Option Row} {fr fr' : Nat → Bool}

theorem opd_congr {x : Opd} (h : ∀ t ∈ x.slots, ev' t = ev t) : opd ev' x = opd ev x := by
  cases x with
  | t n => exact h n (by simp [Opd.slots])
  | c v => rfl

theorem addr_congr {x : Opd} (h : ∀ t ∈ x.slots, ev' t = ev t ∧ al' t = al t) : addr ev' al' x = addr ev al x := by
  cases x with
  | t n => have := h n (by simp [Opd.slots]); simp only [addr, this.1, this.2]
  | c v => rfl

theorem vals_congr : ∀ {l : List Opd}, (∀ t ∈ slotsL l, ev' t = ev t) → vals ev' l = vals ev l
  | [], _ => rfl
  | x :: r, h => by
    have hx : opd ev' x = opd ev x := opd_congr fun t ht => h t (by simp [slotsL]; exact .inl ht)
    have hr : vals ev' r = vals ev r := vals_congr fun t ht => h t (by simp only [slotsL, List.flatMap_cons, List.mem_append]; exact .inr ht)
    simp only [vals, hx, hr]

theorem fills_congr : ∀ {ps : List (Nat × Nat × Opd)} (cs : List AVal), (∀ t ∈ ps.flatMap (fun p => p.2.2.slots), ev' t = ev t) → fills ev' cs ps = fills ev cs ps
  | [], cs, _ => rfl
  | (off, n, x) :: r, cs, h => by
    have hx : opd ev' x = opd ev x := opd_congr fun t ht => h t (by simp only [List.flatMap_cons, List.mem_append]; exact .inl ht)
    have hr : ∀ cs, fills ev' cs r = fills ev cs r := fun cs => fills_congr cs fun t ht => h t (by simp only [List.flatMap_cons, List.mem_append]; exact .inr ht)
    simp only [fills, hx, hr]

theorem bound_congr {d : Nat} {x : Option Opd} (h : ∀ t ∈ slotsO x, ev' t = ev t) : bound ev' d x = bound ev d x := by
  cases x with
  | none => rfl
  | some x => simp only [bound, opd_congr (x := x) h]

theorem slots_l {x y : List Nat} {p : Nat → Prop} (h : ∀ t ∈ x ++ y, p t) : (∀ t ∈ x, p t) ∧ ∀ t ∈ y, p t :=
  ⟨fun t ht => h t (List.mem_append_left _ ht), fun t ht => h t (List.mem_append_right _ ht)⟩

theorem srcCells_congr {esz : Nat} {v : AVal} (h : ∀ r off ln k, v = .slc r off ln k → g' r = g r) : srcCells g' esz v = srcCells g esz v := by
  cases v <;> simp only [srcCells]
  rename_i r off ln k
  rw [h r off ln k rfl]

theorem sem_congr {i : Ins} {d : Option Nat} {nx : Nat} (hs : ∀ t ∈ i.slots, ev' t = ev t ∧ al' t = al t) (hb : ∀ t ∈ i.boxes ev al, ∀ cs, ev t = .box cs → ev' t = .box cs)
    (hg : ∀ r ∈ i.acc ev, g' r = g r) (hf : ∀ t ∈ i.makesBox d, fr t = true → fr' t = true) {out : Out} (h : i.sem ev al g fr nx d = some out) : i.sem ev' al' g' fr' nx d = some out := by
  have hs1 : ∀ t ∈ i.slots, ev' t = ev t := fun t ht => (hs t ht).1
  cases i with
  | mv x | field x off n ag | un op x | mkmap | extract x k | uData x | allocH et z | nilCheck x | boxH et n x =>
    simp only [Ins.slots] at hs1
    first
      | (rw [← h]; simp only [Ins.sem, opd_congr hs1]; done)
      | (rw [← h]; rfl)
  | pick a b c =>
    simp only [Ins.slots] at hs1
    obtain ⟨h12, h3⟩ := slots_l hs1; obtain ⟨h1, h2⟩ := slots_l h12
    rw [← h]; simp only [Ins.sem, opd_congr h1, opd_congr h2, opd_congr h3]
  | allocB z =>
    simp only [Ins.sem] at h ⊢
    split at h
    · rename_i t
      split at h
      · rename_i hc
        rw [if_pos ⟨hf t (by simp [Ins.makesBox]) hc.1, hc.2⟩]; exact h
      · simp at h
    · simp at h
  | boxB n x =>
    simp only [Ins.slots] at hs1
    simp only [Ins.sem, opd_congr hs1] at h ⊢
    split at h
    · rename_i t
      split at h
      · rename_i hc
        rw [if_pos ⟨hf t (by simp [Ins.makesBox]) hc.1, hc.2⟩]; exact h
      · simp at h
    · simp at h
  | load p n ag =>
    simp only [Ins.slots] at hs hs1
    have ha := addr_congr hs
    simp only [Ins.sem] at h ⊢
    rw [ha]
    cases hq : addr ev al p with
    | none => rw [hq] at h; simp at h
    | some q =>
      cases q with
      | row r off =>
        rw [hq] at h
        have hr : opd ev p = .ptr r off := by
          cases p with
          | c v => simp [addr] at hq
          | t k => simp only [addr] at hq; split at hq <;> simp_all [opd]; split at hq <;> simp at hq
        simp only [] at h ⊢; rw [hg r (by simp [Ins.acc, hr])]; exact h
      | box t off =>
        rw [hq] at h
        cases he : ev t with
        | box cs => simp only [hb t (by simp [Ins.boxes, hq]) cs he]; simpa [he] using h
        | _ => simp [he] at h
  | store p n x =>
    simp only [Ins.slots] at hs hs1
    obtain ⟨h1, h2⟩ := slots_l hs
    have ha := addr_congr h1
    have hx : opd ev' x = opd ev x := opd_congr fun t ht => (h2 t ht).1
    simp only [Ins.sem] at h ⊢
    rw [ha, hx]
    split at h
    · rename_i hc
      rw [if_pos hc]
      cases hq : addr ev al p with
      | none => rw [hq] at h; simp at h
      | some q =>
        cases q with
        | row r off =>
          rw [hq] at h
          have hr : opd ev p = .ptr r off := by
            cases p with
            | c v => simp [addr] at hq
            | t k => simp only [addr] at hq; split at hq <;> simp_all [opd]; split at hq <;> simp at hq
          simp only [] at h ⊢; rw [hg r (by simp [Ins.acc, hr])]; exact h
        | box t off =>
          rw [hq] at h
          cases he : ev t with
          | box cs => simp only [hb t (by simp [Ins.boxes, hq]) cs he]; simpa [he] using h
          | _ => simp [he] at h
    · simp at h
  | fieldAddr p off =>
    simp only [Ins.slots] at hs
    rw [← h]; simp only [Ins.sem, addr_congr hs]
  | indexAddr x y esz =>
    simp only [Ins.slots] at hs1
    obtain ⟨h1, h2⟩ := slots_l hs1
    rw [← h]; simp only [Ins.sem, opd_congr h1, opd_congr h2]
  | idxStr x y =>
    simp only [Ins.slots] at hs1
    obtain ⟨h1, h2⟩ := slots_l hs1
    rw [← h]; simp only [Ins.sem, opd_congr h1, opd_congr h2]
  | mm b x y =>
    simp only [Ins.slots] at hs1
    obtain ⟨h1, h2⟩ := slots_l hs1
    rw [← h]; simp only [Ins.sem, opd_congr h1, opd_congr h2]
  | toBytes x =>
    simp only [Ins.slots] at hs1
    rw [← h]; simp only [Ins.sem, opd_congr hs1]
  | mkslice et esz by' z x y =>
    simp only [Ins.slots] at hs1
    obtain ⟨h1, h2⟩ := slots_l hs1
    rw [← h]; simp only [Ins.sem, opd_congr h1, opd_congr h2]
  | build z ps =>
    simp only [Ins.slots] at hs1
    rw [← h]; simp only [Ins.sem, fills_congr _ hs1]
  | buildSlice et esz ln z ps =>
    simp only [Ins.slots] at hs1
    rw [← h]; simp only [Ins.sem, fills_congr _ hs1]
  | mkfn f l =>
    simp only [Ins.slots] at hs1
    rw [← h]; simp only [Ins.sem, vals_congr hs1]
  | bin op e x y =>
    simp only [Ins.slots] at hs1
    obtain ⟨h1, h2⟩ := slots_l hs1
    have hp : ptrEq g' e (opd ev x) (opd ev y) = ptrEq g e (opd ev x) (opd ev y) := by
      cases e with
      | ptr =>
        cases hx : opd ev x with
        | ptr r o =>
          cases hy : opd ev y with
          | ptr r' o' => simp only [ptrEq]; rw [hg r (by simp [Ins.acc, hx])]
          | _ => simp only [ptrEq]
        | _ => simp only [ptrEq]
      | _ => simp only [ptrEq]
    rw [← h]; simp only [Ins.sem, opd_congr h1, opd_congr h2, hp]
  | conv c x =>
    simp only [Ins.slots] at hs1
    rw [← h]; simp only [Ins.sem, opd_congr hs1]
    cases c with
    | int k => cases opd ev x <;> rfl
    | same => cases opd ev x <;> rfl
    | isNil b => cases opd ev x <;> rfl
    | toStr =>
      cases hx : opd ev x with
      | slc r off ln k =>
        have := hg r (by simp [Ins.acc, hx])
        rcases k with _ | _ | k <;> first | rfl | (simp only []; rw [this])
      | _ => rfl
    | toUns =>
      cases hx : opd ev x with
      | ptr r o => simp only []; rw [hg r (by simp [Ins.acc, hx])]
      | _ => rfl
    | ofUns u n =>
      cases hx : opd ev x with
      | ptr r o => simp only []; rw [hg r (by simp [Ins.acc, hx])]
      | _ => rfl
  | slice x lo hi esz =>
    simp only [Ins.slots] at hs1
    obtain ⟨h12, h3⟩ := slots_l hs1; obtain ⟨h1, h2⟩ := slots_l h12
    rw [← h]; simp only [Ins.sem, opd_congr h1, bound_congr h2, bound_congr h3]
  | lookup m k e z ok =>
    simp only [Ins.slots] at hs1
    obtain ⟨h1, h2⟩ := slots_l hs1
    rw [← h]; simp only [Ins.sem, opd_congr h1, opd_congr h2]
    cases hx : opd ev m with
    | map r => simp only []; rw [hg r (by simp [Ins.acc, hx])]
    | _ => rfl
  | mapup m k v e =>
    simp only [Ins.slots] at hs1
    obtain ⟨h12, h3⟩ := slots_l hs1; obtain ⟨h1, h2⟩ := slots_l h12
    rw [← h]; simp only [Ins.sem, opd_congr h1, opd_congr h2, opd_congr h3]
    cases hx : opd ev m with
    | map r => simp only []; rw [hg r (by simp [Ins.acc, hx])]
    | _ => rfl
  | len k x =>
    simp only [Ins.slots] at hs1
    rw [← h]; simp only [Ins.sem, opd_congr hs1]
    have hm : ∀ r, opd ev x = .map r → g' r = g r := fun r hx => hg r (by simp [Ins.acc, hx])
    cases hx : opd ev x <;> rcases k with _ | _ | _ | k <;> first | rfl | (simp only []; rw [hm _ hx])
  | append s x et esz by' =>
    simp only [Ins.slots] at hs1
    obtain ⟨h1, h2⟩ := slots_l hs1
    have hx : srcCells g' esz (opd ev x) = srcCells g esz (opd ev x) := srcCells_congr fun r off ln k he => hg r (by simp [Ins.acc, he])
    rw [← h]; simp only [Ins.sem, opd_congr h1, opd_congr h2, hx]
    cases hq : opd ev s with
    | slc r off ln k => simp only []; rw [hg r (by simp [Ins.acc, hq])]
    | _ => rfl
  | uStr p n et =>
    simp only [Ins.slots] at hs1
    obtain ⟨h1, h2⟩ := slots_l hs1
    rw [← h]; simp only [Ins.sem, opd_congr h1, opd_congr h2]
    have hm : ∀ r off, opd ev p = .ptr r off → g' r = g r := fun r off hx => hg r (by simp [Ins.acc, hx])
    cases hq : opd ev p with
    | ptr r off =>
      have := hm r off hq
      cases hn : opd ev n with
      | int k z => cases k <;> first | rfl | (simp only []; rw [this])
      | _ => rfl
    | _ => cases hn : opd ev n with
      | int k z => cases k <;> rfl
      | _ => rfl
  | call f l => simp [Ins.sem] at h

end
end Ab

/- What an instruction looks into and writes: bounds. -/
set_option linter.unusedVariables false
set_option linter.unusedSimpArgs false
namespace Ab
open Go

structure OutOk (ev : Nat → AVal) (al : Nat → Option (Nat × Nat)) (i : Ins) (out : Out) : Prop where
  puts : ∀ p ∈ out.puts, p.1 ∈ i.acc ev ∧ i.writes = true
  new : out.new ≠ none → i.makes = true
  bx : ∀ t v, out.bx = some (t, v) → t ∈ i.boxes ev al ∧ i.boxes? = true ∧ (∃ cs, ev t = .box cs) ∧ ∃ cs, v = .box cs
  al : ∀ t off, out.al = some (t, off) → t ∈ i.boxes ev al

section
variable {ev : Nat → AVal} {al : Nat → Option (Nat × Nat)} {g : Nat → Option Row} {fr : Nat → Bool}

theorem OutOk.ov {i : Ins} {v : AVal} : OutOk ev al i { v := v } := ⟨by simp, by simp, by simp, by simp⟩

theorem addr_boxes {p : Opd} {t off : Nat} (h : addr ev al p = some (.box t off)) : p.slots ≠ [] := by
  cases p with
  | t n => simp [Opd.slots]
  | c v => simp [addr] at h

theorem addr_row' {p : Opd} {r off : Nat} (h : addr ev al p = some (.row r off)) : opd ev p = .ptr r off := by
  cases p with
  | c v => simp [addr] at h
  | t k => simp only [addr] at h; split at h <;> simp_all [opd]; split at h <;> simp at h

theorem boxes_slots {i : Ins} (h : i.boxes ev al ≠ []) : i.slots ≠ [] := by
  have key : ∀ {p : Opd}, (match addr ev al p with | some (.box t _) => [t] | _ => ([] : List Nat)) ≠ [] → p.slots ≠ [] := by
    intro p hp
    split at hp
    · exact addr_boxes (by assumption)
    · exact (hp rfl).elim
  cases i <;> simp only [Ins.boxes] at h <;> first | exact (h rfl).elim | (have := key h; simp only [Ins.slots]; simp [this]; done) | skip
  

theorem sem_out {i : Ins} {d : Option Nat} {nx : Nat} {out : Out} (h : i.sem ev al g fr nx d = some out) : OutOk ev al i out := by
  cases i with
  | store p n x =>
    simp only [Ins.sem] at h
    split at h
    · split at h
      · rename_i t off ha
        split at h
        · rename_i cs he
          split at h
          · simp at h; subst h
            exact ⟨by simp, by simp, fun t' v' e => by simp at e; obtain ⟨rfl, rfl⟩ := e; exact ⟨by simp [Ins.boxes, ha], rfl, ⟨cs, he⟩, _, rfl⟩, by simp⟩
          · simp at h
        · simp at h
      · rename_i r off ha
        split at h
        · split at h
          · simp at h; subst h
            exact ⟨by simp [Ins.acc, addr_row' ha, Ins.writes], by simp, by simp, by simp⟩
          · simp at h
        · simp at h
      · simp at h
    · simp at h
  | fieldAddr p off =>
    simp only [Ins.sem] at h
    split at h
    · rename_i t o ha
      simp at h; subst h
      exact ⟨by simp, by simp, by simp, fun t' v' e => by simp at e; obtain ⟨rfl, rfl⟩ := e; simp [Ins.boxes, ha]⟩
    · simp at h; subst h; exact .ov
    · simp at h
  | mapup m k v e =>
    simp only [Ins.sem] at h
    split at h
    · rename_i r hm
      split at h
      · split at h
        · split at h
          · simp at h; subst h
            exact ⟨by simp [Ins.acc, hm, Ins.writes], by simp, by simp, by simp⟩
          · simp at h
        · simp at h
      · simp at h
    · simp at h
  | append s x et esz by' =>
    simp only [Ins.sem] at h
    split at h
    · simp at h
    · split at h
      · split at h
        · simp at h; subst h; exact .ov
        · split at h
          · simp at h; subst h; exact ⟨by simp, fun _ => rfl, by simp, by simp⟩
          · simp at h
      · rename_i r off ln k hs
        split at h
        · simp at h; subst h; exact .ov
        · split at h
          · split at h
            · simp at h; subst h
              exact ⟨by simp [Ins.acc, hs, Ins.writes], fun _ => rfl, by simp, by simp⟩
            · simp at h
          · simp at h
      · simp at h
  | uStr p n et =>
    simp only [Ins.sem] at h
    split at h
    · split at h
      · simp at h; subst h; exact .ov
      · simp at h
    · rename_i r off k hp hn
      split at h
      · split at h
        · split at h
          · simp at h; subst h
            exact ⟨by simp [Ins.acc, hp, Ins.writes], by simp, by simp, by simp⟩
          · simp at h
        · simp at h
      · simp at h
    · simp at h
  | allocH et z =>
    simp only [Ins.sem] at h
    split at h
    · simp at h; subst h; exact ⟨by simp, fun _ => rfl, by simp, by simp⟩
    · simp at h
  | boxH et n x =>
    simp only [Ins.sem] at h
    split at h
    · simp at h; subst h; exact ⟨by simp, fun _ => rfl, by simp, by simp⟩
    · simp at h
  | buildSlice et esz ln z ps =>
    simp only [Ins.sem] at h
    split at h
    · split at h
      · simp at h; subst h; exact ⟨by simp, fun _ => rfl, by simp, by simp⟩
      · simp at h
    · simp at h
  | mkmap => simp [Ins.sem] at h; subst h; exact ⟨by simp, fun _ => rfl, by simp, by simp⟩
  | toBytes x =>
    simp only [Ins.sem] at h
    split at h
    · simp at h; subst h; exact ⟨by simp, fun _ => rfl, by simp, by simp⟩
    · simp at h
  | mkslice et esz by' z x y =>
    simp only [Ins.sem] at h
    split at h
    · split at h
      · simp at h; subst h; exact ⟨by simp, fun _ => rfl, by simp, by simp⟩
      · simp at h
    · simp at h
  | call f l => simp [Ins.sem] at h
  | _ =>
    simp only [Ins.sem] at h
    try (repeat' split at h)
    all_goals first | (simp at h; done) | (simp at h; subst h; exact .ov)

theorem acc_looks {i : Ins} {r : Nat} (h : r ∈ i.acc ev) : i.looks = true := by
  cases i with
  | bin op e x y => cases e <;> simp_all [Ins.acc, Ins.looks]
  | conv c x => cases c <;> simp_all [Ins.acc, Ins.looks]
  | _ => first | rfl | (simp [Ins.acc] at h; done)

end

section
variable {P : Program} {bs : List Nat} {m : M} {bm : BM} {e : Nat → AVal} {al : Nat → Option (Nat × Nat)} {tm : Array Value} {w : World}

def Ins.looksAt : Ins → List Opd
  | .load p _ _ | .store p _ _ | .uStr p _ _ | .conv _ p | .lookup p _ _ _ _ | .mapup p _ _ _ | .len _ p | .bin _ _ p _ => [p]
  | .append s x _ _ _ => [s, x]
  | _ => []

theorem looksAt_c {o : Oper} {i : Ins} (hc : cIns P bs o = some i) : ∀ y ∈ i.looksAt, ∃ x, cOpd x = some y := by
  cases ho : o.op with
  | call c =>
    cases hb : c.callee with
    | invoke r mt => simp [cIns, ho, hb] at hc
    | _ =>
      simp only [cIns, ho, hb] at hc
      try (repeat' split at hc)
      all_goals first
        | (simp at hc; done)
        | (injection hc with hc; subst hc; intro y hy; first | (simp [Ins.looksAt] at hy; done) | (simp only [Ins.looksAt, List.mem_cons, List.not_mem_nil, or_false] at hy; first | (subst hy; exact ⟨_, by assumption⟩) | (rcases hy with rfl | rfl <;> exact ⟨_, by assumption⟩)))
        | (simp only [Option.map_eq_some_iff] at hc; obtain ⟨_, _, hc⟩ := hc; subst hc; intro y hy; first | (simp [Ins.looksAt] at hy; done) | (simp only [Ins.looksAt, List.mem_cons, List.not_mem_nil, or_false] at hy; first | (subst hy; exact ⟨_, by assumption⟩) | (rcases hy with rfl | rfl <;> exact ⟨_, by assumption⟩)))
        | (simp only [Option.map_eq_some_iff] at hc; obtain ⟨_, _, hc⟩ := hc; split at hc <;> subst hc <;> intro y hy; first | (simp [Ins.looksAt] at hy; done) | (simp only [Ins.looksAt, List.mem_cons, List.not_mem_nil, or_false] at hy; first | (subst hy; exact ⟨_, by assumption⟩) | (rcases hy with rfl | rfl <;> exact ⟨_, by assumption⟩)))
        | (simp_all; done)
  | _ =>
    simp only [cIns, ho, cMapup] at hc
    try (repeat' split at hc)
    all_goals first
      | (simp at hc; done)
      | (injection hc with hc; subst hc; intro y hy; first | (simp [Ins.looksAt] at hy; done) | (simp only [Ins.looksAt, List.mem_cons, List.not_mem_nil, or_false] at hy; first | (subst hy; exact ⟨_, by assumption⟩) | (rcases hy with rfl | rfl <;> exact ⟨_, by assumption⟩)))
      | (simp only [Option.map_eq_some_iff] at hc; obtain ⟨_, _, hc⟩ := hc; subst hc; intro y hy; first | (simp [Ins.looksAt] at hy; done) | (simp only [Ins.looksAt, List.mem_cons, List.not_mem_nil, or_false] at hy; first | (subst hy; exact ⟨_, by assumption⟩) | (rcases hy with rfl | rfl <;> exact ⟨_, by assumption⟩)))
      | (simp only [Option.map_eq_some_iff] at hc; obtain ⟨_, _, hc⟩ := hc; split at hc <;> subst hc <;> intro y hy; first | (simp [Ins.looksAt] at hy; done) | (simp only [Ins.looksAt, List.mem_cons, List.not_mem_nil, or_false] at hy; first | (subst hy; exact ⟨_, by assumption⟩) | (rcases hy with rfl | rfl <;> exact ⟨_, by assumption⟩)))
      | (simp_all; done)

theorem acc_known (hF : Fr m bm e al tm w) {o : Oper} {i : Ins} (hc : cIns P bs o = some i) {r : Nat} (hr : r ∈ i.acc e) : m r ≠ .unk := by
  have key : ∀ y ∈ i.looksAt, ∀ o k l, (opd e y = .ptr r o ∨ opd e y = .slc r o k l ∨ opd e y = .map r) → m r ≠ .unk := by
    intro y hy o k l h
    obtain ⟨x, hx⟩ := looksAt_c hc y hy
    rcases h with h | h | h
    · have := opd_rel hF hx (by rw [h]; rfl); rw [h] at this; exact this.ptr_known
    · have := opd_rel hF hx (by rw [h]; rfl); rw [h] at this; exact this.slc_known
    · have := opd_rel hF hx (by rw [h]; rfl); rw [h] at this; exact this.map_known
  have kp : ∀ p, p ∈ i.looksAt → r ∈ (match opd e p with | .ptr r _ => [r] | _ => ([] : List Nat)) → m r ≠ .unk := by
    intro p hp h
    split at h
    · rename_i r' o h'
      simp at h; subst h; exact key p hp o 0 0 (.inl h')
    · simp at h
  have km : ∀ p, p ∈ i.looksAt → r ∈ (match opd e p with | .map r => [r] | _ => ([] : List Nat)) → m r ≠ .unk := by
    intro p hp h
    split at h
    · rename_i r' h'
      simp at h; subst h; exact key p hp 0 0 0 (.inr (.inr h'))
    · simp at h
  have ks : ∀ p, p ∈ i.looksAt → r ∈ (match opd e p with | .slc r _ _ _ => [r] | _ => ([] : List Nat)) → m r ≠ .unk := by
    intro p hp h
    split at h
    · rename_i r' off ln k h'
      simp at h; subst h; exact key p hp off ln k (.inr (.inl h'))
    · simp at h
  cases i with
  | load p n ag => exact kp p (by simp [Ins.looksAt]) hr
  | store p n x => exact kp p (by simp [Ins.looksAt]) hr
  | uStr p n x => exact kp p (by simp [Ins.looksAt]) hr
  | lookup p k z ok => exact km p (by simp [Ins.looksAt]) hr
  | mapup p k v z => exact km p (by simp [Ins.looksAt]) hr
  | len k p => exact km p (by simp [Ins.looksAt]) hr
  | bin op z x y => cases z <;> first | exact kp x (by simp [Ins.looksAt]) hr | (simp [Ins.acc] at hr; done)
  | conv c x => cases c <;> first | exact kp x (by simp [Ins.looksAt]) hr | exact ks x (by simp [Ins.looksAt]) hr | (simp [Ins.acc] at hr; done)
  | append s x et k by' =>
    simp only [Ins.acc, List.mem_append] at hr
    rcases hr with hr | hr
    · exact ks s (by simp [Ins.looksAt]) hr
    · exact ks x (by simp [Ins.looksAt]) hr
  | _ => simp [Ins.acc] at hr
end
end Ab

/- Changes laid over functions, in index order, for a set of operations. -/
set_option linter.unusedVariables false
set_option linter.unusedSimpArgs false
namespace Ab
open Go

def over {X : Type} (d : Nat → Option X) (f : Nat → X) : Nat → X := fun t => (d t).getD (f t)

theorem over_none {X : Type} {d : Nat → Option X} {f : Nat → X} {t : Nat} (h : d t = none) : over d f t = f t := by simp [over, h]
theorem over_some {X : Type} {d : Nat → Option X} {f : Nat → X} {t : Nat} {x : X} (h : d t = some x) : over d f t = x := by simp [over, h]

def foldD {X : Type} (D : Nat → Bool) (δ : Nat → Nat → Option X) (f0 : Nat → X) : Nat → Nat → X
  | 0 => f0
  | k + 1 => if D k then over (δ k) (foldD D δ f0 k) else foldD D δ f0 k

section
variable {X : Type} {D : Nat → Bool} {δ : Nat → Nat → Option X} {f0 : Nat → X} {S : Nat → Nat → X}

theorem foldD_read {n i : Nat} (hS0 : S 0 = f0) (hS : ∀ k, k < n → S (k + 1) = over (δ k) (S k)) (hi : i ≤ n) {l : Nat} (h1 : ∀ k, k < i → D k = false → δ k l = none) (h2 : ∀ k, i ≤ k → k < n → D k = true → δ k l = none) :
    foldD D δ f0 n l = S i l := by
  have a : ∀ k, k ≤ i → foldD D δ f0 k l = S k l := by
    intro k
    induction k with
    | zero => intro _; rw [hS0]; rfl
    | succ k ih =>
      intro hk
      simp only [foldD]
      rw [hS k (by omega)]
      by_cases hd : D k = true
      · rw [if_pos hd]
        unfold over
        rw [ih (by omega)]
      · rw [if_neg hd, over_none (h1 k (by omega) (by simpa using hd)), ih (by omega)]
  have b : ∀ j, i + j ≤ n → foldD D δ f0 (i + j) l = S i l := by
    intro j
    induction j with
    | zero => intro _; exact a i (Nat.le_refl _)
    | succ j ih =>
      intro hj
      show foldD D δ f0 (i + j + 1) l = S i l
      simp only [foldD]
      by_cases hd : D (i + j) = true
      · rw [if_pos hd, over_none (h2 (i + j) (by omega) (by omega) hd), ih (by omega)]
      · rw [if_neg hd, ih (by omega)]
  have := b (n - i) (by omega)
  rwa [show i + (n - i) = n by omega] at this

theorem foldD_add {n i : Nat} (hi : i < n) (hD : D i = false) {D' : Nat → Bool} (hD' : ∀ k, D' k = (D k || k == i)) {l : Nat} (h : ∀ k, i < k → k < n → D k = true → δ i l ≠ none → δ k l = none) :
    foldD D' δ f0 n l = over (δ i) (foldD D δ f0 n) l := by
  have a : ∀ k, k ≤ i → foldD D' δ f0 k l = foldD D δ f0 k l := by
    intro k
    induction k with
    | zero => intro _; rfl
    | succ k ih =>
      intro hk
      have : D' k = D k := by rw [hD']; have : (k == i) = false := by simp; omega
                              simp [this]
      simp only [foldD, this]
      split
      · unfold over; rw [ih (by omega)]
      · exact ih (by omega)
  have b : ∀ j, i + 1 + j ≤ n → foldD D' δ f0 (i + 1 + j) l = over (δ i) (foldD D δ f0 (i + 1 + j)) l := by
    intro j
    induction j with
    | zero =>
      intro _
      simp only [foldD, Nat.add_zero]
      have : D' i = true := by rw [hD']; simp
      rw [if_pos this, hD]
      simp only [over]
      rw [a i (Nat.le_refl _)]
      rfl
    | succ j ih =>
      intro hj
      show foldD D' δ f0 (i + 1 + j + 1) l = over (δ i) (foldD D δ f0 (i + 1 + j + 1)) l
      have : D' (i + 1 + j) = D (i + 1 + j) := by rw [hD']; have : (i + 1 + j == i) = false := by simp; omega
                                                  simp [this]
      simp only [foldD, this]
      by_cases hd : D (i + 1 + j) = true
      · rw [if_pos hd, if_pos hd]
        cases hq : δ i l with
        | none =>
          simp only [over, hq]
          have := ih (by omega)
          rw [this]; simp [over, hq]
        | some x =>
          have hn := h (i + 1 + j) (by omega) (by omega) hd (by simp [hq])
          rw [over_none hn, ih (by omega), over_some hq, over_some hq]
      · rw [if_neg hd, if_neg hd]; exact ih (by omega)
  have := b (n - (i + 1)) (by omega)
  rwa [show i + 1 + (n - (i + 1)) = n by omega] at this

theorem foldD_full {n : Nat} (hS0 : S 0 = f0) (hS : ∀ k, k < n → S (k + 1) = over (δ k) (S k)) (hD : ∀ k, k < n → D k = true) : foldD D δ f0 n = S n :=
  funext fun l => foldD_read hS0 hS (Nat.le_refl n) (fun k hk hd => by rw [hD k hk] at hd; simp at hd) (fun k h1 h2 => by omega)

/-- Where a value comes from. -/
theorem foldD_from {n : Nat} {l : Nat} : foldD D δ f0 n l = f0 l ∨ ∃ k, k < n ∧ D k = true ∧ δ k l = some (foldD D δ f0 n l) := by
  induction n with
  | zero => exact .inl rfl
  | succ n ih =>
    simp only [foldD]
    by_cases hd : D n = true
    · rw [if_pos hd]
      cases hq : δ n l with
      | none =>
        rw [over_none hq]
        rcases ih with h | ⟨k, h1, h2, h3⟩
        · exact .inl h
        · exact .inr ⟨k, by omega, h2, h3⟩
      | some x => rw [over_some hq]; exact .inr ⟨n, by omega, hd, hq⟩
    · rw [if_neg hd]
      rcases ih with h | ⟨k, h1, h2, h3⟩
      · exact .inl h
      · exact .inr ⟨k, by omega, h2, h3⟩
end

/- What one step changes. -/
def dE (d : Option Nat) (u : Out) (t : Nat) : Option AVal :=
  match u.bx with
  | some (b, v) => if t = b then some v else if d = some t then some u.v else none
  | none => if d = some t then some u.v else none

def dA (d : Option Nat) (u : Out) (t : Nat) : Option (Option (Nat × Nat)) := if d = some t then some u.al else none

def dO (nx : Nat) (u : Out) (r : Nat) : Option (Option Row) :=
  match upO (fun _ => none) nx u r with
  | some x => some (some x)
  | none => none

def dC (h h' : Heap) (r : Nat) : Option (Option Row) :=
  if (h'.ver r = h.ver r ∧ (h.get r).isSome = true) ∨ (h'.get r).isNone = true then none else some (h'.get r)

theorem over_dE (d : Option Nat) (u : Out) (e : Nat → AVal) : over (dE d u) e = upB (upE e d u.v) u.bx := by
  funext t
  unfold over dE upB
  cases hb : u.bx with
  | none =>
    cases d with
    | none => simp [upE]
    | some t' =>
      simp only [upE]
      by_cases h : t = t'
      · simp [h]
      · rw [if_neg (by simp; omega), if_neg h]; rfl
  | some x =>
    obtain ⟨b, v⟩ := x
    simp only []
    by_cases hh : t = b
    · rw [if_pos hh, if_pos hh]; rfl
    · rw [if_neg hh, if_neg hh]
      cases d with
      | none => simp [upE]
      | some t' =>
        simp only [upE]
        by_cases h : t = t'
        · simp [h]
        · rw [if_neg (by simp; omega), if_neg h]; rfl

theorem over_dA (d : Option Nat) (u : Out) (al : Nat → Option (Nat × Nat)) : over (dA d u) al = upA al d u.al := by
  funext t
  unfold over dA upA
  cases d with
  | none => simp
  | some t' =>
    simp only []
    by_cases h : t = t'
    · simp [h]
    · rw [if_neg (by simp; omega), if_neg h]; rfl

theorem upG_eq : ∀ (l : List (Nat × Row)) (g : Nat → Option Row) (r : Nat), upG g l r = match upG (fun _ => none) l r with | some x => some x | none => g r
  | [], g, r => rfl
  | (q, x) :: l, g, r => by
    simp only [upG]
    rw [upG_eq l (fun u => if u = q then some x else g u) r, upG_eq l (fun u => if u = q then some x else none) r]
    cases upG (fun _ => none) l r with
    | some y => rfl
    | none =>
      simp only []
      by_cases h : r = q
      · rw [if_pos h, if_pos h]
      · rw [if_neg h, if_neg h]

theorem over_dO (nx : Nat) (u : Out) (g : Nat → Option Row) : over (dO nx u) g = upO g nx u := by
  funext r
  unfold over dO upO
  cases hn : u.new with
  | none =>
    simp only [upN]
    rw [upG_eq u.puts g r]
    cases upG (fun _ => none) u.puts r <;> rfl
  | some x =>
    simp only [upN]
    by_cases h : r = nx
    · rw [if_pos h, if_pos h]; rfl
    · rw [if_neg h, if_neg h, upG_eq u.puts g r]
      cases upG (fun _ => none) u.puts r <;> rfl

theorem upG_in : ∀ (l : List (Nat × Row)) (g : Nat → Option Row) (r : Nat), upG g l r ≠ g r → r ∈ l.map (·.1)
  | [], g, r, h => (h rfl).elim
  | (q, x) :: l, g, r, h => by
    simp only [upG] at h
    by_cases hr : r = q
    · simp [hr]
    · have := upG_in l (fun u => if u = q then some x else g u) r (by rw [if_neg hr]; exact h)
      simp only [List.map_cons, List.mem_cons]; exact .inr this

theorem dO_some {nx : Nat} {u : Out} {r : Nat} (h : dO nx u r ≠ none) : r ∈ u.puts.map (·.1) ∨ (u.new ≠ none ∧ r = nx) := by
  unfold dO at h
  split at h
  · rename_i x hx
    unfold upO at hx
    cases hn : u.new with
    | none =>
      rw [hn] at hx
      simp only [upN] at hx
      exact .inl (upG_in u.puts (fun _ => none) r (by rw [hx]; simp))
    | some y =>
      rw [hn] at hx
      simp only [upN] at hx
      by_cases hr : r = nx
      · exact .inr ⟨by simp, hr⟩
      · rw [if_neg hr] at hx
        exact .inl (upG_in u.puts (fun _ => none) r (by rw [hx]; simp))
  · exact (h rfl).elim

theorem over_dC {h h' : Heap} (hw : HW h) (hu : Upd h h') : over (dC h h') h.get = h'.get := by
  funext r
  unfold over dC
  split
  · rename_i hc
    simp only [Option.getD_none]
    rcases hc with ⟨h1, h2⟩ | h1
    · exact (hu.same hw (by intro e; rw [e] at h2; simp at h2) h1).symm
    · cases hq : h.get r with
      | none => rw [Option.isNone_iff_eq_none] at h1; exact h1.symm
      | some x => exact absurd (by simpa using h1) (hu.has (r := r) (by simp [hq]))
  · rfl

theorem dC_some {h h' : Heap} {r : Nat} (hd : dC h h' r ≠ none) : (h'.ver r ≠ h.ver r ∨ h.get r = none) ∧ h'.get r ≠ none := by
  unfold dC at hd
  split at hd
  · exact (hd rfl).elim
  · rename_i hc
    refine ⟨?_, fun e => hc (.inr (by simp [e]))⟩
    by_cases hv : h'.ver r = h.ver r
    · right
      cases hq : h.get r with
      | none => rfl
      | some x => exact (hc (.inl ⟨hv, by simp [hq]⟩)).elim
    · exact .inl hv
end Ab

/- One step of the abstract machine; two operations that may be in either order. -/
set_option linter.unusedVariables false
set_option linter.unusedSimpArgs false
namespace Ab
open Go

inductive Stp (cf : CallF) (op : Op) (s s' : Rs) : Foot → Out → (Nat → Option (Option Row)) → Prop
  | skip (hw : wants s.e.get op.g = some false) (hh : s'.h = s.h) : Stp cf op s s' { sacc := op.reads, swr := op.i.makesBox op.d } { v := .tup [] } (fun _ => none)
  | simple (hw : wants s.e.get op.g = some true) (u : Out) (hs : op.i.sem s.e.get s.al.get s.h.get s.al.free s.h.next op.d = some u) (hn : u.new ≠ none → s.h.get s.h.next = none)
      (ha : ∀ r ∈ op.i.acc s.e.get, s.h.get r ≠ none) (hp : u.v.plain = true ∨ op.i.mkB = true) :
      Stp cf op s s' { acc := op.i.acc s.e.get, wr := u.puts.map (·.1), sacc := op.reads ++ op.i.boxes s.e.get s.al.get, swr := op.i.makesBox op.d ++ (match u.bx with | some (t, _) => [t] | none => []) } u (dO s.h.next u)
  | call (hw : wants s.e.get op.g = some true) (f : Opd) (args : List Opd) (hi : op.i = .call f args) (k : Nat) (caps l : List AVal) (hf : opd s.e.get f = .fn k caps) (hl : vals s.e.get args = some l) (v : AVal)
      (hv : cf k (l ++ caps) s.h = some (v, s'.h)) (hp : v.plain = true) : Stp cf op s s' { sacc := op.reads, chg := some fun r => s'.h.ver r != s.h.ver r } { v := v } (dC s.h s'.h)

theorem get_setD (e : Env) (d : Option Nat) (v : AVal) : (setD e d v).get = upE e.get d v := by
  funext t
  cases d with
  | none => rfl
  | some t' => simp only [setD, upE, Env.get_set]

theorem get_setB (e : Env) (x : Option (Nat × AVal)) : (setB e x).get = upB e.get x := by
  funext t
  cases x with
  | none => rfl
  | some p => obtain ⟨b, v⟩ := p; simp only [setB, upB, Env.get_set]

theorem Al.get_del : ∀ (a : Al) (n m : Nat), (a.del n).get m = if m = n then none else a.get m
  | [], n, m => by simp [Al.del, Al.get]
  | (k, v) :: r, n, m => by
    simp only [Al.del]
    by_cases h : k = n
    · rw [if_pos h, Al.get_del r n m]
      by_cases hm : m = n
      · simp [hm]
      · rw [if_neg hm, if_neg hm, Al.get, if_neg (by omega)]
    · rw [if_neg h, Al.get, Al.get, Al.get_del r n m]
      by_cases hm : m = n
      · rw [if_pos hm, if_neg (by omega), if_pos hm]
      · rw [if_neg hm, if_neg hm]

theorem get_alD (a : Al) (d : Option Nat) (x : Option (Nat × Nat)) : (alD a d x).get = upA a.get d x := by
  funext t
  cases d with
  | none => rfl
  | some t' =>
    cases x with
    | none => simp only [alD, upA, Al.get_del]
    | some p =>
      simp only [alD, upA, Al.get, Al.get_del]
      by_cases h : t = t'
      · rw [if_pos h.symm, if_pos h]
      · rw [if_neg (by omega), if_neg h, if_neg h]

theorem step1_stp {cf : CallF} (hcf : CfOk cf) {s s' : Rs} {op : Op} {f : Foot} (hw : HW s.h) (hs : step1 cf s op = some (s', f)) :
    ∃ u G, Stp cf op s s' f u G ∧ s'.e.get = over (dE op.d u) s.e.get ∧ s'.al.get = over (dA op.d u) s.al.get ∧ s'.h.get = over G s.h.get := by
  have hup := step1_ok hcf hw hs
  unfold step1 at hs
  split at hs
  · simp at hs
  · rename_i hwa
    simp at hs; obtain ⟨rfl, rfl⟩ := hs
    refine ⟨_, _, .skip hwa rfl, ?_, ?_, ?_⟩
    · rw [over_dE]; exact get_setD _ _ _
    · rw [over_dA]; exact get_alD s.al op.d none
    · rfl
  · rename_i hwa
    split at hs
    · rename_i fo args hi
      unfold call1 at hs
      split at hs
      · rename_i v h' hc
        split at hs
        · rename_i hp
          simp at hs; obtain ⟨rfl, rfl⟩ := hs
          unfold calls at hc
          split at hc
          · rename_i k caps l h1 h2
            refine ⟨_, _, .call hwa fo args hi k caps l h1 h2 v hc hp, ?_, ?_, ?_⟩
            · rw [over_dE]; exact get_setD _ _ _
            · rw [over_dA]; exact get_alD s.al op.d none
            · exact (over_dC hw hup.2).symm
          · simp at hc
        · simp at hs
      · simp at hs
    · unfold simple1 at hs
      split at hs
      · simp at hs
      · rename_i u hu
        split at hs
        · rename_i hc
          split at hs
          · simp at hs
          · rename_i h' ho
            simp at hs; obtain ⟨rfl, rfl⟩ := hs
            obtain ⟨_, _, q3, q4⟩ := outs_ok hw ho
            simp only [Bool.and_eq_true, Bool.or_eq_true] at hc
            refine ⟨_, _, .simple hwa u hu (fun hn => q4 (by cases hq : u.new with | none => exact (hn hq).elim | some x => rfl)) (fun r hr => ?_) hc.2, ?_, ?_, ?_⟩
            · have := hc.1
              unfold Heap.has at this
              rw [List.all_eq_true] at this
              have := this r hr
              intro e; rw [e] at this; simp at this
            · rw [over_dE, get_setB, get_setD]
            · rw [over_dA]; exact get_alD s.al op.d u.al
            · rw [over_dO]; exact q3
        · simp at hs

theorem steps_states {cf : CallF} : ∀ {l : List Op} {s s' : Rs} {fs : List Foot}, steps cf l s = some (s', fs) →
    ∃ (S : Nat → Rs) (F : Nat → Foot), S 0 = s ∧ S l.length = s' ∧ fs.length = l.length ∧ ∀ i, i < l.length → fs[i]? = some (F i) ∧ step1 cf (S i) (opAt l i) = some (S (i + 1), F i)
  | [], s, s', fs, h => by
    simp [steps] at h; obtain ⟨rfl, rfl⟩ := h
    exact ⟨fun _ => s, fun _ => {}, rfl, rfl, rfl, by simp⟩
  | o :: l, s, s', fs, h => by
    simp only [steps] at h
    split at h
    · simp at h
    · rename_i s1 f h1
      split at h
      · simp at h
      · rename_i s2 fs2 h2
        simp at h; obtain ⟨rfl, rfl⟩ := h
        obtain ⟨S, F, q1, q2, q3, q4⟩ := steps_states h2
        refine ⟨fun i => match i with | 0 => s | i + 1 => S i, fun i => match i with | 0 => f | i + 1 => F i, rfl, q2, by simp [q3], fun i hi => ?_⟩
        cases i with
        | zero => simp only [opAt, List.getD_cons_zero, q1, List.getElem?_cons_zero]; exact ⟨trivial, h1⟩
        | succ i => simpa [opAt] using q4 i (by simpa using hi)

/- Pairs. -/
theorem mem_pairs {f : Nat → Nat → Bool} {n i j : Nat} : (i, j) ∈ pairsFrom f n ↔ j < n ∧ i < j ∧ f i j = true := by
  unfold pairsFrom
  simp only [List.mem_flatMap, List.mem_range, List.mem_map, List.mem_filter, Prod.mk.injEq]
  constructor
  · rintro ⟨j', h1, i', ⟨h2, h3⟩, rfl, rfl⟩; exact ⟨h1, h2, h3⟩
  · rintro ⟨h1, h2, h3⟩; exact ⟨j, h1, i, ⟨h2, h3⟩, rfl, rfl⟩

structure PairOk (a b : Op) (fa fb : Foot) : Prop where
  slot : notIn a.d b.reads = true
  slot' : notIn b.d a.reads = true
  call : a.i.isCall = true → b.i.isCall = false ∧ b.i.makes = false ∧ b.i.writes = false
  call' : b.i.isCall = true → a.i.isCall = false ∧ a.i.makes = false ∧ a.i.writes = false
  ap : harm1 a b = true ∨ harm1 b a = true → apart fa fb = true
  dst : ∀ t, a.d = some t → b.d ≠ some t

theorem apart_comm (a b : Foot) : apart a b = apart b a := by
  unfold apart
  cases a.chg <;> cases b.chg <;> simp only [] <;> (try rfl)
  generalize apartL a.wr b.acc = x; generalize apartL b.wr a.acc = y; generalize apartL a.swr b.sacc = z; generalize apartL b.swr a.sacc = t
  cases x <;> cases y <;> cases z <;> cases t <;> rfl

theorem PairOk.symm {a b : Op} {fa fb : Foot} (h : PairOk a b fa fb) : PairOk b a fb fa :=
  ⟨h.slot', h.slot, h.call', h.call, fun q => (apart_comm fb fa).trans (h.ap q.symm), fun t h1 h2 => h.dst t h2 h1⟩

theorem apartAll_at {fs : List Foot} : ∀ {l : List (Nat × Nat)}, apartAll fs l = true → ∀ i j, (i, j) ∈ l → ∃ a b, fs[i]? = some a ∧ fs[j]? = some b ∧ apart a b = true
  | [], _, i, j, hm => by simp at hm
  | (i0, j0) :: l, h, i, j, hm => by
    simp only [apartAll] at h
    split at h
    · rename_i a b h1 h2
      simp only [Bool.and_eq_true] at h
      rcases List.mem_cons.1 hm with e | e
      · injection e with e1 e2; subst e1; subst e2; exact ⟨a, b, h1, h2, h.1⟩
      · exact apartAll_at h.2 i j e
    · simp at h

theorem pair_ok {bef : List Nat} {ys : List Op} {fs : List Foot} (hs : slotsAll bef ys = true) (ha : apartAll fs (confs bef ys) = true) {F : Nat → Foot} (hF : ∀ i, i < ys.length → fs[i]? = some (F i))
    {i j : Nat} (hij : i < j) (hj : j < ys.length) (hl : looseB bef i j = true) : PairOk (opAt ys i) (opAt ys j) (F i) (F j) := by
  unfold slotsAll at hs
  simp only [Bool.and_eq_true, List.all_eq_true] at hs
  have h1 := hs.1 (i, j) (mem_pairs.2 ⟨hj, hij, hl⟩)
  have h2 := hs.2 (i, j) (mem_pairs.2 ⟨hj, hij, rfl⟩)
  simp only [slotsOk, Bool.and_eq_true, Bool.not_eq_true', Bool.and_eq_false_iff, Bool.or_eq_false_iff] at h1
  obtain ⟨⟨⟨a1, a2⟩, a3⟩, a4⟩ := h1
  refine ⟨a1, a2, fun hc => ?_, fun hc => ?_, fun hh => ?_, fun t e1 e2 => ?_⟩
  · rcases a3 with a3 | a3
    · rw [hc] at a3; simp at a3
    · exact ⟨a3.1.1, a3.1.2, a3.2⟩
  · rcases a4 with a4 | a4
    · rw [hc] at a4; simp at a4
    · exact ⟨a4.1.1, a4.1.2, a4.2⟩
  · have hm : (i, j) ∈ confs bef ys := by
      unfold confs
      refine mem_pairs.2 ⟨hj, hij, ?_⟩
      simp only [hl, harmless, Bool.true_and, Bool.not_and, Bool.not_not, Bool.or_eq_true]
      exact hh
    obtain ⟨x, y, q1, q2, q3⟩ := apartAll_at ha i j hm
    rw [hF i (by omega)] at q1
    rw [hF j hj] at q2
    injection q1 with q1; injection q2 with q2
    subst q1; subst q2
    exact q3
  · rw [e1, e2] at h2; simp [sameD] at h2

/-- Distinct destinations. -/
theorem dst_ne {bef : List Nat} {ys : List Op} (hs : slotsAll bef ys = true) {i j : Nat} (hij : i ≠ j) (hi : i < ys.length) (hj : j < ys.length) {t : Nat} (h1 : (opAt ys i).d = some t) : (opAt ys j).d ≠ some t := by
  unfold slotsAll at hs
  simp only [Bool.and_eq_true, List.all_eq_true] at hs
  intro h2
  rcases Nat.lt_or_gt_of_ne hij with h | h
  · have := hs.2 (i, j) (mem_pairs.2 ⟨hj, h, rfl⟩)
    rw [h1, h2] at this; simp [sameD] at this
  · have := hs.2 (j, i) (mem_pairs.2 ⟨hi, h, rfl⟩)
    rw [h1, h2] at this; simp [sameD] at this
end Ab

/- Two operations that may be in either order do not meet. -/
set_option linter.unusedVariables false
set_option linter.unusedSimpArgs false
namespace Ab
open Go

theorem apartL_not {x y : List Nat} (h : apartL x y = true) {t : Nat} (hx : t ∈ x) (hy : t ∈ y) : False := by
  unfold apartL at h
  rw [List.all_eq_true] at h
  have := h t hx
  simp [hy] at this

theorem apart_swr {a b : Foot} (h : apart a b = true) (hc : a.chg = none) : apartL a.swr b.sacc = true := by
  unfold apart at h
  rw [hc] at h
  cases hb : b.chg <;> simp only [hb, Bool.and_eq_true] at h
  · exact h.1.2
  · exact h.2

theorem apart_wr {a b : Foot} (h : apart a b = true) (hc : a.chg = none) (hb : b.chg = none) : apartL a.wr b.acc = true := by
  unfold apart at h
  rw [hc, hb] at h
  simp only [Bool.and_eq_true] at h
  exact h.1.1.1

theorem apart_chg {a b : Foot} (h : apart a b = true) {c : Nat → Bool} (hc : a.chg = some c) (hb : b.chg = none) {r : Nat} (hr : r ∈ b.acc) : c r = false := by
  unfold apart at h
  rw [hc, hb] at h
  simp only [Bool.and_eq_true, List.all_eq_true] at h
  simpa using h.1.2 r hr

theorem dE_some {d : Option Nat} {u : Out} {t : Nat} (h : dE d u t ≠ none) : d = some t ∨ ∃ v, u.bx = some (t, v) := by
  unfold dE at h
  split at h
  · rename_i b v hb
    by_cases e : t = b
    · exact .inr ⟨v, by rw [e]; exact hb⟩
    · rw [if_neg e] at h
      split at h
      · exact .inl (by assumption)
      · exact (h rfl).elim
  · split at h
    · exact .inl (by assumption)
    · exact (h rfl).elim

theorem dA_some {d : Option Nat} {u : Out} {t : Nat} (h : dA d u t ≠ none) : d = some t := by
  unfold dA at h
  split at h
  · assumption
  · exact (h rfl).elim

theorem mkB_boxes {i : Ins} (h : i.mkB = true) : i.boxes? = true := by cases i <;> simp_all [Ins.mkB, Ins.boxes?]
theorem mkB_makes {i : Ins} (h : i.mkB = true) (d : Option Nat) : i.makesBox d = d.toList := by cases i <;> simp_all [Ins.mkB, Ins.makesBox]
theorem makes_mkB {i : Ins} {d : Option Nat} {t : Nat} (h : t ∈ i.makesBox d) : i.mkB = true ∧ d = some t := by
  cases i <;> simp_all [Ins.mkB, Ins.makesBox]

section
variable {cf : CallF} {a b : Op} {sa sa' sb sb' : Rs} {fa fb : Foot} {ua ub : Out} {Ga Gb : Nat → Option (Option Row)}

theorem Stp.reads (hb : Stp cf b sb sb' fb ub Gb) {t : Nat} (h : t ∈ b.reads) : t ∈ fb.sacc := by
  cases hb with
  | skip => exact h
  | simple => exact List.mem_append_left _ h
  | call => exact h

theorem notIn_not {d : Option Nat} {l : List Nat} (h : notIn d l = true) {t : Nat} (hd : d = some t) : t ∉ l := by
  subst hd; simpa [notIn] using h

theorem harm_boxes (ha : a.i.boxes? = true) (hr : b.reads ≠ []) : harm1 a b = true := by
  have : b.reads.isEmpty = false := by cases h : b.reads with | nil => exact (hr h).elim | cons => rfl
  simp [harm1, ha, this]

/-- What is read of a slot, or of a box, by the one is not written by the other. -/
theorem meet_slot (ha : Stp cf a sa sa' fa ua Ga) (p : PairOk a b fa fb) {t : Nat} (hr : b.reads ≠ []) (hs : t ∈ fb.sacc) (hd : a.d = some t → t ∈ b.reads ∨ a.i.mkB = true) : dE a.d ua t = none := by
  cases hq : dE a.d ua t with
  | none => rfl
  | some x =>
    exfalso
    rcases dE_some (by rw [hq]; simp) with h | ⟨v, h⟩
    · rcases hd h with h1 | h1
      · exact notIn_not p.slot h h1
      · have hap := p.ap (.inl (harm_boxes (mkB_boxes h1) hr))
        cases ha with
        | skip hw hh => exact apartL_not (apart_swr hap rfl) (by simp only [mkB_makes h1, h]; simp) hs
        | simple hw u hsem hn hacc hp => exact apartL_not (apart_swr hap rfl) (by simp only [mkB_makes h1, h]; simp) hs
        | call hw f args hi => rw [hi] at h1; simp [Ins.mkB] at h1
    · cases ha with
      | skip hw hh => simp at h
      | simple hw u hsem hn hacc hp =>
        obtain ⟨q1, q2, q3, q4⟩ := (sem_out hsem).bx t v h
        have hap := p.ap (.inl (harm_boxes q2 hr))
        exact apartL_not (apart_swr hap rfl) (by simp [h]) hs
      | call hw f args hi => simp at h

theorem meet_al (p : PairOk a b fa fb) {t : Nat} (ht : t ∈ b.reads) : dA a.d ua t = none := by
  cases hq : dA a.d ua t with
  | none => rfl
  | some x => exact (notIn_not p.slot (dA_some (by rw [hq]; simp)) ht).elim

/-- What a simple one looks into is not written by the other; it may be made by it. -/
theorem meet_row (ha : Stp cf a sa sa' fa ua Ga) (hg : sa'.h.get = over Ga sa.h.get) (p : PairOk a b fa fb) {r : Nat} (hl : b.i.looks = true) (hc : fb.chg = none) (hr : r ∈ fb.acc) (hG : Ga r ≠ none) :
    sa.h.get r = none ∧ sa'.h.get r ≠ none := by
  cases ha with
  | skip hw hh => exact (hG rfl).elim
  | simple hw u hsem hn hacc hp =>
    rcases dO_some hG with h | ⟨h1, h2⟩
    · exfalso
      obtain ⟨q, hq, hq'⟩ := List.mem_map.1 h
      have hwr := ((sem_out hsem).puts q hq).2
      have hap := p.ap (.inl (by simp [harm1, hwr, hl]))
      exact apartL_not (apart_wr hap rfl hc) h hr
    · subst h2
      refine ⟨hn h1, ?_⟩
      rw [hg]
      cases hq : dO sa.h.next ua sa.h.next with
      | none => exact (hG hq).elim
      | some x =>
        rw [over_some hq]
        unfold dO at hq
        split at hq
        · injection hq with hq; subst hq; simp
        · simp at hq
  | call hw f args hi =>
    have hap := p.ap (.inl (by simp [harm1, hi, Ins.isCall, hl]))
    have hv := apart_chg hap rfl hc hr
    obtain ⟨h1, h2⟩ := dC_some hG
    simp at hv
    exact ⟨h1.resolve_left (fun h => h hv), h2⟩

/-- Beside a call nothing is written or made. -/
theorem meet_call (ha : Stp cf a sa sa' fa ua Ga) (p : PairOk a b fa fb) (hb : b.i.isCall = true) (r : Nat) : Ga r = none := by
  obtain ⟨q1, q2, q3⟩ := p.call' hb
  cases ha with
  | skip hw hh => rfl
  | simple hw u hsem hn hacc hp =>
    cases hq : dO sa.h.next ua r with
    | none => rfl
    | some x =>
      exfalso
      rcases dO_some (by rw [hq]; simp) with h | ⟨h1, h2⟩
      · obtain ⟨q, hq, hq'⟩ := List.mem_map.1 h
        have := ((sem_out hsem).puts q hq).2
        rw [q3] at this; simp at this
      · have := (sem_out hsem).new h1
        rw [q2] at this; simp at this
  | call hw f args hi => rw [hi] at q1; simp [Ins.isCall] at q1
end

theorem Tr.free {α : Type} : ∀ t : Tr α, ∃ n, t.get n = none
  | .leaf => ⟨0, rfl⟩
  | .node l v r => by
    obtain ⟨n, hn⟩ := Tr.free l
    refine ⟨2 * n + 1, ?_⟩
    simp only [Tr.get]
    rw [if_neg (by omega), if_pos (by omega), show (2 * n + 1) / 2 = n by omega]
    exact hn

theorem sem_nx {ev : Nat → AVal} {al : Nat → Option (Nat × Nat)} {g : Nat → Option Row} {fr : Nat → Bool} {nx nx' : Nat} {d : Option Nat} {i : Ins} {u : Out} (h : i.sem ev al g fr nx d = some u) (hn : u.new = none) :
    i.sem ev al g fr nx' d = some u := by
  cases i with
  | allocH et z =>
    simp only [Ins.sem] at h
    split at h
    · simp at h; subst h; simp at hn
    · simp at h
  | boxH et n x =>
    simp only [Ins.sem] at h
    split at h
    · simp at h; subst h; simp at hn
    · simp at h
  | buildSlice et esz ln z ps =>
    simp only [Ins.sem] at h
    split at h
    · split at h
      · simp at h; subst h; simp at hn
      · simp at h
    · simp at h
  | mkmap => simp [Ins.sem] at h; subst h; simp at hn
  | toBytes x =>
    simp only [Ins.sem] at h
    split at h
    · simp at h; subst h; simp at hn
    · simp at h
  | mkslice et esz by' z x y =>
    simp only [Ins.sem] at h
    split at h
    · split at h
      · simp at h; subst h; simp at hn
      · simp at h
    · simp at h
  | append s x et esz by' =>
    simp only [Ins.sem] at h ⊢
    split at h
    · simp at h
    · rename_i new hnew
      split at h
      · rename_i hs
        split at h
        · rename_i h0; rw [if_pos h0]; exact h
        · split at h
          · simp at h; subst h; simp at hn
          · simp at h
      · rename_i r off ln k hs
        split at h
        · rename_i h0; rw [if_pos h0]; exact h
        · split at h
          · split at h
            · simp at h; subst h; simp at hn
            · simp at h
          · simp at h
      · simp at h
  | _ => exact h
end Ab

/- A drawn region: any order of its operations comes to the same. -/
set_option linter.unusedVariables false
set_option linter.unusedSimpArgs false
namespace Ab
open Go

theorem Stp.inv {cf : CallF} {op : Op} {s s' : Rs} {f : Foot} {u : Out} {G : Nat → Option (Option Row)} (h : Stp cf op s s' f u G) :
    (wants s.e.get op.g = some false ∧ s'.h = s.h ∧ f = { sacc := op.reads, swr := op.i.makesBox op.d } ∧ u = { v := .tup [] } ∧ G = fun _ => none) ∨
    (wants s.e.get op.g = some true ∧ op.i.sem s.e.get s.al.get s.h.get s.al.free s.h.next op.d = some u ∧ (u.new ≠ none → s.h.get s.h.next = none) ∧ (∀ r ∈ op.i.acc s.e.get, s.h.get r ≠ none) ∧ (u.v.plain = true ∨ op.i.mkB = true) ∧
      f = { acc := op.i.acc s.e.get, wr := u.puts.map (·.1), sacc := op.reads ++ op.i.boxes s.e.get s.al.get, swr := op.i.makesBox op.d ++ (match u.bx with | some (t, _) => [t] | none => []) } ∧ G = dO s.h.next u) ∨
    (wants s.e.get op.g = some true ∧ ∃ fo args k caps l v, op.i = .call fo args ∧ opd s.e.get fo = .fn k caps ∧ vals s.e.get args = some l ∧ cf k (l ++ caps) s.h = some (v, s'.h) ∧ v.plain = true ∧
      f = { sacc := op.reads, chg := some fun r => s'.h.ver r != s.h.ver r } ∧ u = { v := v } ∧ G = dC s.h s'.h) := by
  cases h with
  | skip hw hh => exact .inl ⟨hw, hh, rfl, rfl, rfl⟩
  | simple hw u hs hn ha hp => exact .inr (.inl ⟨hw, hs, hn, ha, hp, rfl, rfl⟩)
  | call hw fo args hi k caps l hf hl v hv hp => exact .inr (.inr ⟨hw, fo, args, k, caps, l, v, hi, hf, hl, hv, hp, rfl, rfl, rfl⟩)

theorem reads_of_boxes {op : Op} {ev : Nat → AVal} {al : Nat → Option (Nat × Nat)} {t : Nat} (h : t ∈ op.i.boxes ev al) : op.reads ≠ [] := by
  have : op.i.slots ≠ [] := boxes_slots (ev := ev) (al := al) (by intro e; rw [e] at h; simp at h)
  unfold Op.reads
  simp [this]

theorem Stp.bx {cf : CallF} {op : Op} {s s' : Rs} {f : Foot} {u : Out} {G : Nat → Option (Option Row)} (h : Stp cf op s s' f u G) {t : Nat} {v : AVal} (hb : u.bx = some (t, v)) :
    t ∈ f.sacc ∧ op.reads ≠ [] ∧ (∃ cs, s.e.get t = .box cs) ∧ ∃ cs, v = .box cs := by
  rcases h.inv with ⟨_, _, _, q, _⟩ | ⟨_, q1, _, _, _, q2, _⟩ | ⟨_, fo, args, k, caps, l, v', _, _, _, _, _, _, q, _⟩
  · rw [q] at hb; simp at hb
  · obtain ⟨h1, h2, h3, h4⟩ := (sem_out q1).bx t v hb
    exact ⟨by rw [q2]; exact List.mem_append_right _ h1, reads_of_boxes h1, h3, h4⟩
  · rw [q] at hb; simp at hb

theorem Stp.alb {cf : CallF} {op : Op} {s s' : Rs} {f : Foot} {u : Out} {G : Nat → Option (Option Row)} (h : Stp cf op s s' f u G) {t off : Nat} (hb : u.al = some (t, off)) : t ∈ f.sacc ∧ op.reads ≠ [] := by
  rcases h.inv with ⟨_, _, _, q, _⟩ | ⟨_, q1, _, _, _, q2, _⟩ | ⟨_, fo, args, k, caps, l, v', _, _, _, _, _, _, q, _⟩
  · rw [q] at hb; simp at hb
  · have h1 := (sem_out q1).al t off hb
    exact ⟨by rw [q2]; exact List.mem_append_right _ h1, reads_of_boxes h1⟩
  · rw [q] at hb; simp at hb

/-- All that is known of one run in index order. -/
structure Run (P : Program) (cf : CallF) (ops : Array Oper) (bs : List Nat) (nt n : Nat) (bef : List Nat) (Y : Nat → Op) (S : Nat → Rs) (F : Nat → Foot) (U : Nat → Out) (G : Nat → Nat → Option (Option Row)) : Prop where
  len : ops.size = n
  cmp : ∀ (i : Nat) (o : Oper), ops[i]? = some o → cIns P bs o = some (Y i).i ∧ cGuard ops o = some (Y i).g ∧ (Y i).d = o.dst ∧ (∀ t, o.dst = some t → t < nt) ∧ cBox bs o.dst = (Y i).i.mkB
  stp : ∀ i, i < n → Stp cf (Y i) (S i) (S (i + 1)) (F i) (U i) (G i)
  e : ∀ i, i < n → (S (i + 1)).e.get = over (dE (Y i).d (U i)) (S i).e.get
  al : ∀ i, i < n → (S (i + 1)).al.get = over (dA (Y i).d (U i)) (S i).al.get
  g : ∀ i, i < n → (S (i + 1)).h.get = over (G i) (S i).h.get
  hw : ∀ i, i ≤ n → HW (S i).h
  upd : ∀ i j, i ≤ j → j ≤ n → Upd (S i).h (S j).h
  pair : ∀ i j, i < j → j < n → looseB bef i j = true → PairOk (Y i) (Y j) (F i) (F j)
  dst : ∀ i j, i ≠ j → i < n → j < n → ∀ t, (Y i).d = some t → (Y j).d ≠ some t
  bx : ∀ i, i ≤ n → ∀ t cs, (S i).e.get t = .box cs → t ∈ bs
  al0 : (S 0).al.get = fun _ => none

section
variable {P : Program} {I : (Nat → Prop) → World → Prop} {cf : CallF} {ops : Array Oper} {bs : List Nat} {nt n : Nat} {bef : List Nat} {Y : Nat → Op} {S : Nat → Rs} {F : Nat → Foot} {U : Nat → Out} {G : Nat → Nat → Option (Option Row)}

theorem Run.boxd (R : Run P cf ops bs nt n bef Y S F U G) {k t : Nat} (hk : k < n) (ht : t ∈ bs) (hd : (Y k).d = some t) : (Y k).i.mkB = true := by
  have hlt : k < ops.size := by rw [R.len]; exact hk
  obtain ⟨_, _, q1, _, q2⟩ := R.cmp k ops[k] (Array.getElem?_eq_getElem hlt)
  rw [← q2, ← q1, hd]
  simpa [cBox] using ht

theorem Run.has (R : Run P cf ops bs nt n bef Y S F U G) {i j r : Nat} (hij : i ≤ j) (hj : j ≤ n) (h : (S i).h.get r ≠ none) : (S j).h.get r ≠ none := (R.upd i j hij hj).has h

/-- Its rows were not there before step k, and are after it. -/
def NewBy (S : Nat → Rs) (k r : Nat) : Prop := (S k).h.get r = none ∧ (S (k + 1)).h.get r ≠ none

theorem Run.new_one (R : Run P cf ops bs nt n bef Y S F U G) {k k' r : Nat} (hk : k < n) (hk' : k' < n) (h : NewBy S k r) (h' : NewBy S k' r) : k = k' := by
  rcases Nat.lt_trichotomy k k' with q | q | q
  · exact (R.has (i := k + 1) (j := k') (by omega) (by omega) h.2 h'.1).elim
  · exact q
  · exact (R.has (i := k' + 1) (j := k) (by omega) (by omega) h'.2 h.1).elim

structure SetOk (bef : List Nat) (n : Nat) (D : Nat → Bool) : Prop where
  closed : ∀ k, D k = true → ∀ j, (bef.getD k 0).testBit j = true → D j = true
  lt : ∀ k, D k = true → k < n

theorem Run.meets (R : Run P cf ops bs nt n bef Y S F U G) {D : Nat → Bool} (hD : SetOk bef n D) {i : Nat} (hi : i < n) (hn : D i = false) (hr : ∀ j, (bef.getD i 0).testBit j = true → D j = true) {k : Nat}
    (hk : (k < i ∧ D k = false) ∨ (i < k ∧ D k = true)) : k < n ∧ PairOk (Y k) (Y i) (F k) (F i) := by
  rcases hk with ⟨h1, h2⟩ | ⟨h1, h2⟩
  · refine ⟨by omega, R.pair k i h1 hi ?_⟩
    unfold looseB
    cases hb : (bef.getD i 0).testBit k with
    | false => rfl
    | true => rw [hr k hb] at h2; simp at h2
  · have hkn := hD.lt k h2
    refine ⟨hkn, (R.pair i k h1 hkn ?_).symm⟩
    unfold looseB
    cases hb : (bef.getD k 0).testBit i with
    | false => rfl
    | true => rw [hD.closed k h2 i hb] at hn; simp at hn

abbrev eD (Y : Nat → Op) (S : Nat → Rs) (U : Nat → Out) (n : Nat) (D : Nat → Bool) : Nat → AVal := foldD D (fun k => dE (Y k).d (U k)) (S 0).e.get n
abbrev aD (Y : Nat → Op) (S : Nat → Rs) (U : Nat → Out) (n : Nat) (D : Nat → Bool) : Nat → Option (Nat × Nat) := foldD D (fun k => dA (Y k).d (U k)) (S 0).al.get n
abbrev gD (S : Nat → Rs) (G : Nat → Nat → Option (Option Row)) (n : Nat) (D : Nat → Bool) : Nat → Option Row := foldD D G (S 0).h.get n

/- One operation i that is ready beside the set D. -/
structure Rdy (bef : List Nat) (n : Nat) (D : Nat → Bool) (i : Nat) : Prop where
  set : SetOk bef n D
  lt : i < n
  out : D i = false
  bits : ∀ j, (bef.getD i 0).testBit j = true → D j = true

variable {D : Nat → Bool} {i : Nat}

theorem Run.read_e (R : Run P cf ops bs nt n bef Y S F U G) (h : Rdy bef n D i) {t : Nat} (ht : t ∈ (Y i).reads) : eD Y S U n D t = (S i).e.get t := by
  have hb := R.stp i h.lt
  have hne : (Y i).reads ≠ [] := by intro e; rw [e] at ht; simp at ht
  refine foldD_read (S := fun k => (S k).e.get) (f0 := (S 0).e.get) rfl (fun k hk => R.e k hk) (Nat.le_of_lt h.lt) (fun k hk hd => ?_) (fun k h1 h2 hd => ?_)
  · obtain ⟨q1, q2⟩ := R.meets h.set h.lt h.out h.bits (.inl ⟨hk, hd⟩)
    exact meet_slot (R.stp k q1) q2 hne (hb.reads ht) fun _ => .inl ht
  · have : k ≠ i := by intro e; rw [e, h.out] at hd; simp at hd
    obtain ⟨q1, q2⟩ := R.meets h.set h.lt h.out h.bits (.inr ⟨by omega, hd⟩)
    exact meet_slot (R.stp k q1) q2 hne (hb.reads ht) fun _ => .inl ht

theorem Run.read_b (R : Run P cf ops bs nt n bef Y S F U G) (h : Rdy bef n D i) {t : Nat} (hne : (Y i).reads ≠ []) (hs : t ∈ (F i).sacc) {cs : List AVal} (ht : (S i).e.get t = .box cs) : eD Y S U n D t = (S i).e.get t := by
  have hbs := R.bx i (Nat.le_of_lt h.lt) t cs ht
  refine foldD_read (S := fun k => (S k).e.get) (f0 := (S 0).e.get) rfl (fun k hk => R.e k hk) (Nat.le_of_lt h.lt) (fun k hk hd => ?_) (fun k h1 h2 hd => ?_)
  · obtain ⟨q1, q2⟩ := R.meets h.set h.lt h.out h.bits (.inl ⟨hk, hd⟩)
    exact meet_slot (R.stp k q1) q2 hne hs fun hq => .inr (R.boxd q1 hbs hq)
  · have : k ≠ i := by intro e; rw [e, h.out] at hd; simp at hd
    obtain ⟨q1, q2⟩ := R.meets h.set h.lt h.out h.bits (.inr ⟨by omega, hd⟩)
    exact meet_slot (R.stp k q1) q2 hne hs fun hq => .inr (R.boxd q1 hbs hq)

theorem Run.read_a (R : Run P cf ops bs nt n bef Y S F U G) (h : Rdy bef n D i) {t : Nat} (ht : t ∈ (Y i).reads) : aD Y S U n D t = (S i).al.get t := by
  refine foldD_read (S := fun k => (S k).al.get) (f0 := (S 0).al.get) rfl (fun k hk => R.al k hk) (Nat.le_of_lt h.lt) (fun k hk hd => ?_) (fun k h1 h2 hd => ?_)
  · obtain ⟨q1, q2⟩ := R.meets h.set h.lt h.out h.bits (.inl ⟨hk, hd⟩)
    exact meet_al q2 ht
  · have : k ≠ i := by intro e; rw [e, h.out] at hd; simp at hd
    obtain ⟨q1, q2⟩ := R.meets h.set h.lt h.out h.bits (.inr ⟨by omega, hd⟩)
    exact meet_al q2 ht

/-- The set with i. -/
abbrev addI (D : Nat → Bool) (i : Nat) : Nat → Bool := fun k => D k || k == i

theorem Run.add_e (R : Run P cf ops bs nt n bef Y S F U G) (h : Rdy bef n D i) : eD Y S U n (addI D i) = over (dE (Y i).d (U i)) (eD Y S U n D) := by
  funext t
  refine foldD_add h.lt h.out (fun _ => rfl) fun k hik hkn hd hne => ?_
  obtain ⟨q1, q2⟩ := R.meets h.set h.lt h.out h.bits (.inr ⟨hik, hd⟩)
  rcases dE_some hne with hd' | ⟨v, hv⟩
  · cases hq : dE (Y k).d (U k) t with
    | none => rfl
    | some x =>
      exfalso
      rcases dE_some (by rw [hq]; simp) with hk' | ⟨v, hv⟩
      · exact R.dst i k (by omega) h.lt q1 t hd' hk'
      · obtain ⟨a1, a2, ⟨cs, a3⟩, _⟩ := (R.stp k q1).bx hv
        have hbs := R.bx k (by omega) t cs a3
        exact hne (meet_slot (R.stp i h.lt) q2.symm a2 a1 fun hq => .inr (R.boxd h.lt hbs hq))
  · obtain ⟨a1, a2, ⟨cs, a3⟩, _⟩ := (R.stp i h.lt).bx hv
    have hbs := R.bx i (Nat.le_of_lt h.lt) t cs a3
    exact meet_slot (R.stp k q1) q2 a2 a1 fun hq => .inr (R.boxd q1 hbs hq)

theorem Run.add_a (R : Run P cf ops bs nt n bef Y S F U G) (h : Rdy bef n D i) : aD Y S U n (addI D i) = over (dA (Y i).d (U i)) (aD Y S U n D) := by
  funext t
  refine foldD_add h.lt h.out (fun _ => rfl) fun k hik hkn hd hne => ?_
  cases hq : dA (Y k).d (U k) t with
  | none => rfl
  | some x => exact (R.dst i k (by omega) h.lt hkn t (dA_some hne) (dA_some (by rw [hq]; simp))).elim
end
end Ab

/- A drawn region: one more operation. -/
set_option linter.unusedVariables false
set_option linter.unusedSimpArgs false
namespace Ab
open Go

theorem acc_congr {ev ev' : Nat → AVal} {i : Ins} (h : ∀ t ∈ i.slots, ev' t = ev t) : i.acc ev' = i.acc ev := by
  cases i with
  | load p n ag => simp only [Ins.slots] at h; simp only [Ins.acc, opd_congr h]
  | store p n x => simp only [Ins.slots] at h; simp only [Ins.acc, opd_congr (slots_l h).1]
  | uStr p n x => simp only [Ins.slots] at h; simp only [Ins.acc, opd_congr (slots_l h).1]
  | lookup p k z w ok => simp only [Ins.slots] at h; simp only [Ins.acc, opd_congr (slots_l h).1]
  | mapup p k v z => simp only [Ins.slots] at h; simp only [Ins.acc, opd_congr (slots_l (slots_l h).1).1]
  | len k p => simp only [Ins.slots] at h; simp only [Ins.acc, opd_congr h]
  | bin op z x y => simp only [Ins.slots] at h; cases z <;> simp only [Ins.acc, opd_congr (slots_l h).1]
  | conv c x => simp only [Ins.slots] at h; cases c <;> simp only [Ins.acc, opd_congr h]
  | append s x et k by' => simp only [Ins.slots] at h; simp only [Ins.acc, opd_congr (slots_l h).1, opd_congr (slots_l h).2]
  | _ => rfl

theorem Sim.congr {m : M} {g g' : Nat → Option Row} {w : World} (hS : Sim m g w) (h : ∀ r, m r ≠ .unk → g r = g' r) : Sim m g' w where
  row := fun r p hr => by
    obtain ⟨row, o, h1, h2⟩ := hS.row r p hr
    exact ⟨row, o, (h r (by rw [hr]; simp)) ▸ h1, h2⟩
  dead := fun r hr => (h r (by rw [hr]; simp)) ▸ hS.dead r hr
  inj := hS.inj

theorem Sim.has {m : M} {g : Nat → Option Row} {w : World} (hS : Sim m g w) {r : Nat} (h : m r ≠ .unk) : g r ≠ none := by
  cases hm : m r with
  | unk => exact (h hm).elim
  | dead => rw [hS.dead r hm]; simp
  | «at» p => obtain ⟨row, o, h1, _⟩ := hS.row r p hm; rw [h1]; simp

theorem Al.free_not : ∀ {a : Al} {t : Nat}, a.free t = true → ∀ u p, a.get u = some p → p.1 ≠ t
  | [], t, _, u, p, h => by simp [Al.get] at h
  | (k, v) :: r, t, hf, u, p, h => by
    simp only [Al.free] at hf
    split at hf
    · simp at hf
    · rename_i hv
      simp only [Al.get] at h
      split at h
      · injection h with h; subst h; exact hv
      · exact Al.free_not hf u p h

section
variable {P : Program} {I : (Nat → Prop) → World → Prop} {cf : CallF} {ops : Array Oper} {bs : List Nat} {nt n : Nat} {bef : List Nat} {Y : Nat → Op} {S : Nat → Rs} {F : Nat → Foot} {U : Nat → Out} {G : Nat → Nat → Option (Option Row)}
variable {m0 m : M} {bm0 bm : BM} {w0 w : World} {a0 a : Act} {D : Nat → Bool} {i : Nat} {Q : Exit → Act → World → Prop}

def Kn (S : Nat → Rs) (n : Nat) (m0 : M) (D : Nat → Bool) (r : Nat) : Prop := m0 r ≠ .unk ∨ ∃ k, k < n ∧ D k = true ∧ NewBy S k r

structure Inv (Y : Nat → Op) (S : Nat → Rs) (F : Nat → Foot) (U : Nat → Out) (G : Nat → Nat → Option (Option Row)) (n : Nat) (m0 : M) (bm0 : BM) (w0 : World) (a0 : Act) (D : Nat → Bool) (m : M) (bm : BM) (a : Act) (w : World) : Prop where
  sim : Sim m (gD S G n D) w
  fr : Fr m bm (eD Y S U n D) (aD Y S U n D) a.tmps w
  kn : ∀ r, m r ≠ .unk → Kn S n m0 D r
  acc : ∀ k, k < n → D k = true → ∀ r ∈ (F k).acc, Kn S n m0 D r
  later : Later m0 bm0 w0 m bm w
  size : a.tmps.size = a0.tmps.size
  defers : a.defers = a0.defers

theorem Kn.mono {r : Nat} (h : Kn S n m0 D r) : Kn S n m0 (addI D i) r := by
  rcases h with h | ⟨k, h1, h2, h3⟩
  · exact .inl h
  · exact .inr ⟨k, h1, by simp [addI, h2], h3⟩

theorem Run.kn_not (R : Run P cf ops bs nt n bef Y S F U G) (h0 : ∀ r, m0 r ≠ .unk → (S 0).h.get r ≠ none) {k r : Nat} (hk : k < n) (hn : NewBy S k r) (hd : D k = false) (h : Kn S n m0 D r) : False := by
  rcases h with h | ⟨k', h1, h2, h3⟩
  · exact R.has (Nat.zero_le k) (by omega) (h0 r h) hn.1
  · have := R.new_one hk h1 hn h3
    subst this
    rw [hd] at h2; simp at h2

theorem Run.fr_ok (R : Run P cf ops bs nt n bef Y S F U G) (h : Rdy bef n D i) {t : Nat} (ht : t ∈ (Y i).i.makesBox (Y i).d) (hsw : t ∈ (F i).swr) (hc : (F i).chg = none) (hf : (S i).al.free t = true) :
    ∀ u p, aD Y S U n D u = some p → p.1 ≠ t := by
  intro u p hu e
  obtain ⟨t', off⟩ := p
  simp only at e; subst e
  rcases foldD_from (D := D) (δ := fun k => dA (Y k).d (U k)) (f0 := (S 0).al.get) (n := n) (l := u) with q | ⟨k, hk, hd, q⟩
  · have : aD Y S U n D u = (S 0).al.get u := q
    rw [this, R.al0] at hu; simp at hu
  · have q' : dA (Y k).d (U k) u = some (some (t', off)) := by rw [← hu]; exact q
    have hdu := dA_some (d := (Y k).d) (u := U k) (t := u) (by rw [q']; simp)
    have hal : (U k).al = some (t', off) := by unfold dA at q'; rw [if_pos hdu] at q'; injection q'
    obtain ⟨b1, b2⟩ := (R.stp k hk).alb hal
    have hki : k ≠ i := by intro e; rw [e, h.out] at hd; simp at hd
    rcases Nat.lt_or_gt_of_ne hki with hlt | hgt
    · have step : ∀ j, k + 1 + j ≤ i → (S (k + 1 + j)).al.get u = some (t', off) := by
        intro j
        induction j with
        | zero =>
          intro _
          have := R.al k hk
          show (S (k + 1)).al.get u = _
          rw [this, over_some q']
        | succ j ih =>
          intro hj
          have hjn : k + 1 + j < n := by have := h.lt; omega
          have := R.al (k + 1 + j) hjn
          show (S (k + 1 + j + 1)).al.get u = _
          rw [this, over_none, ih (by omega)]
          cases hq : dA (Y (k + 1 + j)).d (U (k + 1 + j)) u with
          | none => rfl
          | some x => exact (R.dst k (k + 1 + j) (by omega) hk hjn u hdu (dA_some (by rw [hq]; simp))).elim
      have := step (i - (k + 1)) (by omega)
      rw [show k + 1 + (i - (k + 1)) = i by omega] at this
      exact Al.free_not hf u _ this rfl
    · obtain ⟨q1, q2⟩ := R.meets h.set h.lt h.out h.bits (.inr ⟨hgt, hd⟩)
      have hmk := makes_mkB ht
      have hap := q2.symm.ap (.inl (harm_boxes (mkB_boxes hmk.1) b2))
      exact apartL_not (apart_swr hap hc) hsw b1

theorem Run.add_set (R : Run P cf ops bs nt n bef Y S F U G) (h : Rdy bef n D i) : SetOk bef n (addI D i) where
  closed := fun k hk j hj => by
    simp only [addI, Bool.or_eq_true, beq_iff_eq] at hk ⊢
    rcases hk with hk | rfl
    · exact .inl (h.set.closed k hk j hj)
    · exact .inl (h.bits j hj)
  lt := fun k hk => by
    simp only [addI, Bool.or_eq_true, beq_iff_eq] at hk
    rcases hk with hk | rfl
    · exact h.set.lt k hk
    · exact h.lt

theorem gD_none (R : Run P cf ops bs nt n bef Y S F U G) {r : Nat} (hr : (S n).h.get r = none) : gD S G n D r = none := by
  rcases foldD_from (D := D) (δ := G) (f0 := (S 0).h.get) (n := n) (l := r) with q | ⟨k, hk, hd, q⟩
  · have q' : gD S G n D r = (S 0).h.get r := q
    rw [q']
    cases hq : (S 0).h.get r with
    | none => rfl
    | some x => exact (R.has (Nat.zero_le n) (Nat.le_refl n) (by rw [hq]; simp) hr).elim
  · have hk' : (S (k + 1)).h.get r = gD S G n D r := by rw [R.g k hk]; exact over_some q
    cases hq : gD S G n D r with
    | none => rfl
    | some x => rw [hq] at hk'; exact (R.has (i := k + 1) (j := n) (by omega) (Nat.le_refl n) (by rw [hk']; simp) hr).elim

/-- One more operation, whichever is ready. -/
theorem Run.step (R : Run P cf ops bs nt n bef Y S F U G) (hI : Keeps I) (hco : CallOk P I cf) (h0 : ∀ r, m0 r ≠ .unk → (S 0).h.get r ≠ none) (hi0 : I (Own m0 bm0) w0) (hnt : nt ≤ a0.tmps.size)
    (h : Rdy bef n D i) (V : Inv Y S F U G n m0 bm0 w0 a0 D m bm a w) {K : Act → World → Prop}
    (hK : ∀ a' w' m' bm', Inv Y S F U G n m0 bm0 w0 a0 (addI D i) m' bm' a' w' → K a' w') : wpOp P ops Q i K a w := by
  have hlt : i < ops.size := by rw [R.len]; exact h.lt
  have ho : ops[i]? = some ops[i] := Array.getElem?_eq_getElem hlt
  generalize ops[i] = o at ho
  obtain ⟨c1, c2, c3, c4, c5⟩ := R.cmp i o ho
  have hd : ∀ t, o.dst = some t → t < a.tmps.size := fun t ht => by rw [V.size]; exact Nat.lt_of_lt_of_le (c4 t ht) hnt
  unfold wpOp
  rw [ho]
  simp only []
  have hwant : wants (eD Y S U n D) (Y i).g = wants (S i).e.get (Y i).g := by
    cases hg : (Y i).g with
    | none => rfl
    | some p =>
      obtain ⟨t, b⟩ := p
      simp only [wants]
      rw [R.read_e h (t := t) (by simp [Op.reads, hg])]
  have hki : ∀ k, i ≤ k → D k = true → i < k := fun k h1 hd => by
    have : k ≠ i := by intro e; rw [e, h.out] at hd; simp at hd
    omega
  have hadd_e := R.add_e h
  have hadd_a := R.add_a h
  rcases (R.stp i h.lt).inv with ⟨hw, hh, hF, hU, hG⟩ | ⟨hw, hsem, hnew, hhas, hpl, hF, hG⟩ | ⟨hw, fo, args, k, caps, l, v, hi, hf, hl, hv, hp, hF, hU, hG⟩
  · rw [wanted_of V.fr c2 (hwant.trans hw)]
    simp only [Bool.false_eq_true, if_false]
    refine hK _ _ m bm ⟨?_, ?_, fun r hr => (V.kn r hr).mono, fun k hk hdk r hr => ?_, V.later, (put_size _ _ _).trans V.size, (put_defers _ _ _).trans V.defers⟩
    · refine V.sim.congr fun r hr => ?_
      show _ = foldD (addI D i) G (S 0).h.get n r
      rw [foldD_add h.lt h.out (fun _ => rfl) (fun k _ _ _ hne => (hne (by rw [hG])).elim), over_none (by rw [hG])]
    · rw [hadd_e, hadd_a, hU, over_dE, over_dA, c3]
      exact op_skip V.fr hd
    · simp only [addI, Bool.or_eq_true, beq_iff_eq] at hdk
      rcases hdk with hdk | rfl
      · exact (V.acc k hk hdk r hr).mono
      · rw [hF] at hr; simp at hr
  · rw [wanted_of V.fr c2 (hwant.trans hw)]
    simp only [if_true]
    refine .inl ?_
    have hsl : ∀ t ∈ (Y i).i.slots, t ∈ (Y i).reads := fun t ht => by unfold Op.reads; exact List.mem_append_left _ ht
    have hacc : (Y i).i.acc (eD Y S U n D) = (Y i).i.acc (S i).e.get := acc_congr fun t ht => R.read_e h (hsl t ht)
    have hkn : ∀ r ∈ (Y i).i.acc (S i).e.get, Kn S n m0 D r := fun r hr => V.kn r (acc_known V.fr c1 (by rw [hacc]; exact hr))
    have hrow : ∀ r ∈ (Y i).i.acc (S i).e.get, ∀ k, k < n → ((k < i ∧ D k = false) ∨ (i < k ∧ D k = true)) → G k r = none := by
      intro r hr k hkn' hk
      obtain ⟨q1, q2⟩ := R.meets h.set h.lt h.out h.bits hk
      cases hq : G k r with
      | none => rfl
      | some x =>
        exfalso
        have hnb : NewBy S k r := meet_row (R.stp k q1) (R.g k q1) q2 (acc_looks hr) (by rw [hF]) (by rw [hF]; exact hr) (by rw [hq]; simp)
        rcases hk with ⟨hk1, hk2⟩ | ⟨hk1, hk2⟩
        · exact R.kn_not h0 q1 hnb hk2 (hkn r hr)
        · exact R.has (Nat.le_of_lt hk1) (by omega) (hhas r hr) hnb.1
    have hg : ∀ r ∈ (Y i).i.acc (S i).e.get, gD S G n D r = (S i).h.get r := fun r hr =>
      foldD_read (S := fun k => (S k).h.get) (f0 := (S 0).h.get) rfl (fun k hk => R.g k hk) (Nat.le_of_lt h.lt)
        (fun k hk hd => hrow r hr k (by have := h.lt; omega) (.inl ⟨hk, hd⟩))
        (fun k h1 h2 hd => hrow r hr k h2 (.inr ⟨hki k h1 hd, hd⟩))
    let fr' : Nat → Bool := fun t => @decide (∀ u p, aD Y S U n D u = some p → p.1 ≠ t) (Classical.propDecidable _)
    have hfr' : ∀ t, fr' t = true → ∀ u p, aD Y S U n D u = some p → p.1 ≠ t := fun t ht => by simpa [fr'] using ht
    have hsem1 : (Y i).i.sem (eD Y S U n D) (aD Y S U n D) (gD S G n D) fr' (S i).h.next (Y i).d = some (U i) := by
      refine sem_congr (fun t ht => ⟨R.read_e h (hsl t ht), R.read_a h (hsl t ht)⟩) (fun t ht cs he => ?_) hg (fun t ht hf => ?_) hsem
      · rw [R.read_b h (reads_of_boxes ht) (by rw [hF]; exact List.mem_append_right _ ht) he]; exact he
      · have := R.fr_ok h ht (by rw [hF]; exact List.mem_append_left _ ht) (by rw [hF]) hf
        simpa [fr'] using this
    -- its new row
    have hnx : ∃ nx, m nx = .unk ∧ (Y i).i.sem (eD Y S U n D) (aD Y S U n D) (gD S G n D) fr' nx (Y i).d = some (U i) ∧ (∀ g, upO g nx (U i) = over (G i) g) ∧
        ∀ r, upO (gD S G n D) nx (U i) r ≠ none → m r = .unk → r = nx → NewBy S i r := by
      cases hn : (U i).new with
      | some x =>
        refine ⟨(S i).h.next, ?_, hsem1, fun g => by rw [hG, over_dO], fun r _ _ e => ?_⟩
        · cases hq : m (S i).h.next with
          | unk => rfl
          | _ =>
            exfalso
            have hnb : NewBy S i (S i).h.next := ⟨hnew (by rw [hn]; simp), by rw [R.g i h.lt, hG, over_dO]; simp [upO, hn, upN]⟩
            exact R.kn_not h0 h.lt hnb h.out (V.kn _ (by rw [hq]; simp))
        · subst e
          exact ⟨hnew (by rw [hn]; simp), by rw [R.g i h.lt, hG, over_dO]; simp [upO, hn, upN]⟩
      | none =>
        obtain ⟨nx, hx⟩ := Tr.free (S n).h.t
        have hx' : (S n).h.get nx = none := by simp [Heap.get, hx]
        have hun : m nx = .unk := by
          cases hq : m nx with
          | unk => rfl
          | _ => exact (V.sim.has (r := nx) (by rw [hq]; simp) (gD_none R hx')).elim
        refine ⟨nx, hun, sem_nx hsem1 hn, fun g => by rw [hG, over_dO]; simp [upO, hn, upN], fun r hne hu e => ?_⟩
        subst e
        exfalso
        have hne' : upG (gD S G n D) (U i).puts r ≠ gD S G n D r := by
          rw [gD_none R hx']
          simpa [upO, hn, upN] using hne
        obtain ⟨q, hq, hq'⟩ := List.mem_map.1 (upG_in _ _ _ hne')
        have hac := ((sem_out hsem).puts q hq).1
        rw [hq'] at hac
        exact acc_known V.fr c1 (by rw [hacc]; exact hac) hu
    obtain ⟨nx, hx1, hx2, hx3, hx4⟩ := hnx
    rw [c3] at hx2
    refine op_simple V.fr V.sim hd c1 hfr' hx1 hx2 fun x w' m' bm' hL hS' hF' hk' => ?_
    refine hK _ _ m' bm' ⟨?_, ?_, fun r hr => ?_, fun k hk hdk r hr => ?_, V.later.trans hL, (put_size _ _ _).trans V.size, (put_defers _ _ _).trans V.defers⟩
    · refine hS'.congr fun r hr => ?_
      rw [hx3]
      refine (foldD_add h.lt h.out (fun _ => rfl) fun k hik hkn' hdk hne => ?_).symm
      cases hq : G k r with
      | none => rfl
      | some x =>
        exfalso
        have hq' : G k r ≠ none := by rw [hq]; simp
        rw [hG] at hne
        rcases dO_some hne with hin | ⟨hn1, hn2⟩
        · obtain ⟨q, hq1, hq2⟩ := List.mem_map.1 hin
          have hac := ((sem_out hsem).puts q hq1).1
          rw [hq2] at hac
          exact hq' (hrow r hac k hkn' (.inr ⟨hik, hdk⟩))
        · have hnb : NewBy S i r := by
            subst hn2
            refine ⟨hnew hn1, ?_⟩
            rw [R.g i h.lt, hG, over_dO]
            cases hn : (U i).new with
            | none => exact (hn1 hn).elim
            | some y => simp [upO, hn, upN]
          rcases (R.stp k hkn').inv with ⟨_, _, _, _, kG⟩ | ⟨_, ksem, knew, khas, _, kF, kG⟩ | ⟨_, kfo, kargs, _, _, _, _, ki, _⟩
          · exact hq' (by rw [kG])
          · rw [kG] at hq'
            rcases dO_some hq' with kin | ⟨kn1, kn2⟩
            · obtain ⟨q, kq1, kq2⟩ := List.mem_map.1 kin
              have hac := ((sem_out ksem).puts q kq1).1
              rw [kq2] at hac
              exact R.kn_not h0 h.lt hnb h.out (V.acc k hkn' hdk r (by rw [kF]; exact hac))
            · have := knew kn1
              rw [← kn2] at this
              exact R.has (i := i + 1) (j := k) (by omega) (by omega) hnb.2 this
          · obtain ⟨_, q2⟩ := R.meets h.set h.lt h.out h.bits (.inr ⟨hik, hdk⟩)
            have := (q2.call (by rw [ki]; rfl)).2.1
            rw [(sem_out hsem).new hn1] at this; simp at this
    · rw [hadd_e, hadd_a, over_dE, over_dA, c3]
      exact hF'
    · by_cases hu : m r = .unk
      · have hr' := hk' r hr hu
        have := hx4 r (hS'.has hr) hu hr'
        exact .inr ⟨i, h.lt, by simp [addI], this⟩
      · exact (V.kn r hu).mono
    · simp only [addI, Bool.or_eq_true, beq_iff_eq] at hdk
      rcases hdk with hdk | rfl
      · exact (V.acc k hk hdk r hr).mono
      · rw [hF] at hr; exact (hkn r hr).mono
  · rw [wanted_of V.fr c2 (hwant.trans hw)]
    simp only [if_true]
    refine .inl ?_
    have hcall : (Y i).i.isCall = true := by rw [hi]; rfl
    have hG0 : ∀ r k, k < n → ((k < i ∧ D k = false) ∨ (i < k ∧ D k = true)) → G k r = none := fun r k hkn' hk => by
      obtain ⟨q1, q2⟩ := R.meets h.set h.lt h.out h.bits hk
      exact meet_call (R.stp k q1) q2 hcall r
    have hg : ∀ r, gD S G n D r = (S i).h.get r := fun r =>
      foldD_read (S := fun k => (S k).h.get) (f0 := (S 0).h.get) rfl (fun k hk => R.g k hk) (Nat.le_of_lt h.lt)
        (fun k hk hd => hG0 r k (by have := h.lt; omega) (.inl ⟨hk, hd⟩))
        (fun k h1 h2 hd => hG0 r k h2 (.inr ⟨hki k h1 hd, hd⟩))
    have hS1 : Sim m (S i).h.get w := V.sim.congr fun r _ => hg r
    have hsl : ∀ t ∈ (Y i).i.slots, eD Y S U n D t = (S i).e.get t := fun t ht => R.read_e h (by unfold Op.reads; exact List.mem_append_left _ ht)
    rw [hi] at hsl
    simp only [Ins.slots] at hsl
    rw [hi] at c1
    have hf' : opd (eD Y S U n D) fo = .fn k caps := (opd_congr (slots_l hsl).1).trans hf
    have hl' : vals (eD Y S U n D) args = some l := (vals_congr (slots_l hsl).2).trans hl
    refine op_call hI hco V.fr (R.hw i (Nat.le_of_lt h.lt)) hS1 (hI.later hi0 V.later) hd c1 hf' hl' hv fun x w' m' hL hS' hF' hk' => ?_
    refine hK _ _ m' bm ⟨?_, ?_, fun r hr => ?_, fun k hk hdk r hr => ?_, V.later.trans hL, (put_size _ _ _).trans V.size, (put_defers _ _ _).trans V.defers⟩
    · refine hS'.congr fun r hr => ?_
      have e1 : foldD (addI D i) G (S 0).h.get n r = over (G i) (gD S G n D) r := foldD_add h.lt h.out (fun _ => rfl) fun k hik hkn' hdk hne => hG0 r k hkn' (.inr ⟨hik, hdk⟩)
      show _ = foldD (addI D i) G (S 0).h.get n r
      rw [e1, R.g i h.lt]
      unfold over
      rw [hg r]
    · rw [hadd_e, hadd_a, hU, over_dE, over_dA, c3]
      exact hF'
    · by_cases hu : m r = .unk
      · exact .inr ⟨i, h.lt, by simp [addI], hk' r hr hu⟩
      · exact (V.kn r hu).mono
    · simp only [addI, Bool.or_eq_true, beq_iff_eq] at hdk
      rcases hdk with hdk | rfl
      · exact (V.acc k hk hdk r hr).mono
      · rw [hF] at hr; simp at hr
end
end Ab

/- Regions: those that are drawn, those that are not. -/
set_option linter.unusedVariables false
set_option linter.unusedSimpArgs false
namespace Ab
open Go

/-- A run's states and what its steps come to. -/
structure Base (P : Program) (cf : CallF) (ops : Array Oper) (bs : List Nat) (nt n : Nat) (Y : Nat → Op) (S : Nat → Rs) (F : Nat → Foot) (U : Nat → Out) (G : Nat → Nat → Option (Option Row)) : Prop where
  len : ops.size = n
  cmp : ∀ (i : Nat) (o : Oper), ops[i]? = some o → cIns P bs o = some (Y i).i ∧ cGuard ops o = some (Y i).g ∧ (Y i).d = o.dst ∧ (∀ t, o.dst = some t → t < nt) ∧ cBox bs o.dst = (Y i).i.mkB
  stp : ∀ i, i < n → Stp cf (Y i) (S i) (S (i + 1)) (F i) (U i) (G i)
  e : ∀ i, i < n → (S (i + 1)).e.get = over (dE (Y i).d (U i)) (S i).e.get
  al : ∀ i, i < n → (S (i + 1)).al.get = over (dA (Y i).d (U i)) (S i).al.get
  g : ∀ i, i < n → (S (i + 1)).h.get = over (G i) (S i).h.get
  hw : ∀ i, i ≤ n → HW (S i).h
  upd : ∀ i j, i ≤ j → j ≤ n → Upd (S i).h (S j).h
  bx : ∀ i, i ≤ n → ∀ t cs, (S i).e.get t = .box cs → t ∈ bs

theorem base_of {P : Program} {cf : CallF} (hcf : CfOk cf) {ops : Array Oper} {bs : List Nat} {nt : Nat} {ys : List Op} (hys : cOps P nt bs ops ops.toList = some ys) {s0 sn : Rs} {fs : List Foot}
    (hst : steps cf ys s0 = some (sn, fs)) (hw : HW s0.h) (hbx : ∀ t cs, s0.e.get t = .box cs → t ∈ bs) :
    ∃ S F U G, S 0 = s0 ∧ S ops.size = sn ∧ (∀ i, i < ys.length → fs[i]? = some (F i)) ∧ ys.length = ops.size ∧ Base P cf ops bs nt ops.size (opAt ys) S F U G := by
  obtain ⟨S, F, h1, h2, h3, h4⟩ := steps_states hst
  obtain ⟨l1, l2⟩ := cOps_at hys
  have hlen : ys.length = ops.size := by simpa using l1
  rw [hlen] at h2 h4
  have hhw : ∀ i, i ≤ ops.size → HW (S i).h := by
    intro i
    induction i with
    | zero => intro _; rw [h1]; exact hw
    | succ i ih => intro hi; exact (step1_ok hcf (ih (by omega)) (h4 i (by omega)).2).1
  have hup : ∀ i, i < ops.size → Upd (S i).h (S (i + 1)).h := fun i hi => (step1_ok hcf (hhw i (by omega)) (h4 i hi).2).2
  have hex : ∀ i : Nat, ∃ x : Out × (Nat → Option (Option Row)), i < ops.size → Stp cf (opAt ys i) (S i) (S (i + 1)) (F i) x.1 x.2 ∧ (S (i + 1)).e.get = over (dE (opAt ys i).d x.1) (S i).e.get ∧
      (S (i + 1)).al.get = over (dA (opAt ys i).d x.1) (S i).al.get ∧ (S (i + 1)).h.get = over x.2 (S i).h.get := by
    intro i
    by_cases hi : i < ops.size
    · obtain ⟨u, G, q⟩ := step1_stp hcf (hhw i (by omega)) (h4 i hi).2
      exact ⟨(u, G), fun _ => q⟩
    · exact ⟨({ v := .opq }, fun _ => none), fun h => (hi h).elim⟩
  obtain ⟨X, hX⟩ := Classical.axiomOfChoice hex
  have hcmp : ∀ (i : Nat) (o : Oper), ops[i]? = some o → cIns P bs o = some (opAt ys i).i ∧ cGuard ops o = some (opAt ys i).g ∧ (opAt ys i).d = o.dst ∧ (∀ t, o.dst = some t → t < nt) ∧ cBox bs o.dst = (opAt ys i).i.mkB := by
    intro i o ho
    obtain ⟨op, q1, q2, q3, q4, q5, q6⟩ := l2 i o (by simpa using ho)
    have : opAt ys i = op := by simp [opAt, q1]
    rw [this]
    exact ⟨q2, q3, q4, q5, q6⟩
  refine ⟨S, F, fun i => (X i).1, fun i => (X i).2, h1, h2, fun i hi => (h4 i (by omega)).1, hlen, rfl, hcmp, fun i hi => (hX i hi).1, fun i hi => (hX i hi).2.1, fun i hi => (hX i hi).2.2.1, fun i hi => (hX i hi).2.2.2, hhw, ?_, ?_⟩
  · intro i j hij hj
    obtain ⟨d, rfl⟩ : ∃ d, j = i + d := ⟨j - i, by omega⟩
    induction d with
    | zero => exact .refl _
    | succ d ih => exact (ih (by omega) (by omega)).trans (hup (i + d) (by omega))
  · intro i
    induction i with
    | zero => intro _ t cs h; rw [h1] at h; exact hbx t cs h
    | succ i ih =>
      intro hi t cs h
      have hlt : i < ops.size := by omega
      obtain ⟨_, _, c3, _, c5⟩ := hcmp i ops[i] (Array.getElem?_eq_getElem hlt)
      obtain ⟨x1, x2, _, _⟩ := hX i hlt
      rw [x2] at h
      cases hq : dE (opAt ys i).d (X i).1 t with
      | none => rw [over_none hq] at h; exact ih (by omega) t cs h
      | some v =>
        rw [over_some hq] at h
        subst h
        cases hb : (X i).1.bx with
        | some p =>
          obtain ⟨b, v⟩ := p
          by_cases htb : t = b
          · subst htb
            obtain ⟨_, _, ⟨cs', q⟩, _⟩ := x1.bx hb
            exact ih (by omega) t cs' q
          · unfold dE at hq
            rw [hb] at hq
            simp only [] at hq
            rw [if_neg htb] at hq
            split at hq
            · rename_i hd
              injection hq with hq
              rcases x1.inv with ⟨_, _, _, q, _⟩ | ⟨_, _, _, _, q, _⟩ | ⟨_, _, _, _, _, _, v', _, _, _, _, q', _, q, _⟩
              · rw [q] at hb; simp at hb
              · rw [hq] at q
                have hm : (opAt ys i).i.mkB = true := q.resolve_left (by simp [AVal.plain])
                rw [← c5, ← c3, hd] at hm
                simpa [cBox] using hm
              · rw [q] at hb; simp at hb
            · simp at hq
        | none =>
          unfold dE at hq
          rw [hb] at hq
          simp only [] at hq
          split at hq
          · rename_i hd
            injection hq with hq
            rcases x1.inv with ⟨_, _, _, q, _⟩ | ⟨_, _, _, _, q, _⟩ | ⟨_, _, _, _, _, _, v', _, _, _, _, q', _, q, _⟩
            · rw [q] at hq; simp at hq
            · rw [hq] at q
              have hm : (opAt ys i).i.mkB = true := q.resolve_left (by simp [AVal.plain])
              rw [← c5, ← c3, hd] at hm
              simpa [cBox] using hm
            · rw [q] at hq; simp at hq; rw [hq] at q'; simp [AVal.plain] at q'
          · simp at hq

/-- What a code leaves: a state that is in the relation again. -/
structure Left (m0 : M) (bm0 : BM) (w0 : World) (a0 : Act) (h0 : Heap) (e' : Nat → AVal) (al' : Nat → Option (Nat × Nat)) (h' : Heap) (m : M) (bm : BM) (a : Act) (w : World) : Prop where
  sim : Sim m h'.get w
  fr : Fr m bm e' al' a.tmps w
  later : Later m0 bm0 w0 m bm w
  kn : ∀ r, m r ≠ .unk → m0 r = .unk → h0.get r = none ∧ h'.get r ≠ none
  size : a.tmps.size = a0.tmps.size
  defers : a.defers = a0.defers

section
variable {P : Program} {I : (Nat → Prop) → World → Prop} {cf : CallF} {ops : Array Oper} {bs : List Nat} {nt n : Nat} {bef : List Nat} {Y : Nat → Op} {S : Nat → Rs} {F : Nat → Foot} {U : Nat → Out} {G : Nat → Nat → Option (Option Row)}
variable {m0 m : M} {bm0 bm : BM} {w0 w : World} {a0 a : Act} {i : Nat} {Q : Exit → Act → World → Prop}

/-- In index order: the next one. -/
theorem Base.step (R : Base P cf ops bs nt n Y S F U G) (hI : Keeps I) (hco : CallOk P I cf) (h0 : ∀ r, m0 r ≠ .unk → (S 0).h.get r ≠ none) (hi0 : I (Own m0 bm0) w0) (hnt : nt ≤ a0.tmps.size) (hin : i < n)
    (V : Left m0 bm0 w0 a0 (S 0).h (S i).e.get (S i).al.get (S i).h m bm a w) {K : Act → World → Prop}
    (hK : ∀ a' w' m' bm', Left m0 bm0 w0 a0 (S 0).h (S (i + 1)).e.get (S (i + 1)).al.get (S (i + 1)).h m' bm' a' w' → K a' w') : wpOp P ops Q i K a w := by
  have hlt : i < ops.size := by rw [R.len]; exact hin
  have ho : ops[i]? = some ops[i] := Array.getElem?_eq_getElem hlt
  generalize ops[i] = o at ho
  obtain ⟨c1, c2, c3, c4, c5⟩ := R.cmp i o ho
  have hd : ∀ t, o.dst = some t → t < a.tmps.size := fun t ht => by rw [V.size]; exact Nat.lt_of_lt_of_le (c4 t ht) hnt
  have kn0 : ∀ r, m r = .unk → (S i).h.get r = none → m0 r = .unk → (S 0).h.get r = none := fun r _ h2 _ => by
    cases hq : (S 0).h.get r with
    | none => rfl
    | some x => exact ((R.upd 0 i (Nat.zero_le _) (by omega)).has (by rw [hq]; simp) h2).elim
  have knm : ∀ r, m r ≠ .unk → m0 r = .unk → (S 0).h.get r = none ∧ (S (i + 1)).h.get r ≠ none := fun r h1 h2 =>
    ⟨(V.kn r h1 h2).1, (R.upd i (i + 1) (by omega) (by omega)).has (V.kn r h1 h2).2⟩
  unfold wpOp
  rw [ho]
  simp only []
  rcases (R.stp i hin).inv with ⟨hw, hh, hF, hU, hG⟩ | ⟨hw, hsem, hnew, hhas, hpl, hF, hG⟩ | ⟨hw, fo, args, k, caps, l, v, hi, hf, hl, hv, hp, hF, hU, hG⟩
  · rw [wanted_of V.fr c2 hw]
    simp only [Bool.false_eq_true, if_false]
    refine hK _ _ m bm ⟨?_, ?_, V.later, knm, (put_size _ _ _).trans V.size, (put_defers _ _ _).trans V.defers⟩
    · rw [hh]; exact V.sim
    · rw [R.e i hin, R.al i hin, hU, over_dE, over_dA, c3]
      exact op_skip V.fr hd
  · rw [wanted_of V.fr c2 hw]
    simp only [if_true]
    refine .inl ?_
    have hgi : (S (i + 1)).h.get = upO (S i).h.get (S i).h.next (U i) := by rw [R.g i hin, hG, over_dO]
    have hnx : ∃ nx, m nx = .unk ∧ (Y i).i.sem (S i).e.get (S i).al.get (S i).h.get (S i).al.free nx (Y i).d = some (U i) ∧ upO (S i).h.get nx (U i) = (S (i + 1)).h.get ∧ (S i).h.get nx = none := by
      cases hn : (U i).new with
      | some x =>
        have hnn := hnew (by rw [hn]; simp)
        refine ⟨(S i).h.next, ?_, hsem, hgi.symm, hnn⟩
        cases hq : m (S i).h.next with
        | unk => rfl
        | _ => exact (V.sim.has (r := (S i).h.next) (by rw [hq]; simp) hnn).elim
      | none =>
        obtain ⟨nx, hx⟩ := Tr.free (S i).h.t
        have hx' : (S i).h.get nx = none := by simp [Heap.get, hx]
        refine ⟨nx, ?_, sem_nx hsem hn, by rw [hgi]; simp [upO, hn, upN], hx'⟩
        cases hq : m nx with
        | unk => rfl
        | _ => exact (V.sim.has (r := nx) (by rw [hq]; simp) hx').elim
    obtain ⟨nx, hx1, hx2, hx3, hx4⟩ := hnx
    rw [c3] at hx2
    refine op_simple V.fr V.sim hd c1 (fun t ht => Al.free_not ht) hx1 hx2 fun x w' m' bm' hL hS' hF' hk' => ?_
    rw [hx3] at hS'
    refine hK _ _ m' bm' ⟨hS', ?_, V.later.trans hL, fun r hr hr0 => ?_, (put_size _ _ _).trans V.size, (put_defers _ _ _).trans V.defers⟩
    · rw [R.e i hin, R.al i hin, over_dE, over_dA, c3]; exact hF'
    · by_cases hu : m r = .unk
      · have hr' := hk' r hr hu
        exact ⟨kn0 r hu (hr' ▸ hx4) hr0, hS'.has hr⟩
      · exact knm r hu hr0
  · rw [wanted_of V.fr c2 hw]
    simp only [if_true]
    refine .inl ?_
    rw [hi] at c1
    refine op_call hI hco V.fr (R.hw i (Nat.le_of_lt hin)) V.sim (hI.later hi0 V.later) hd c1 hf hl hv fun x w' m' hL hS' hF' hk' => ?_
    refine hK _ _ m' bm ⟨hS', ?_, V.later.trans hL, fun r hr hr0 => ?_, (put_size _ _ _).trans V.size, (put_defers _ _ _).trans V.defers⟩
    · rw [R.e i hin, R.al i hin, hU, over_dE, over_dA, c3]; exact hF'
    · by_cases hu : m r = .unk
      · exact ⟨kn0 r hu (hk' r hr hu).1 hr0, (hk' r hr hu).2⟩
      · exact knm r hu hr0

theorem Base.all (R : Base P cf ops bs nt n Y S F U G) (hI : Keeps I) (hco : CallOk P I cf) (h0 : ∀ r, m0 r ≠ .unk → (S 0).h.get r ≠ none) (hi0 : I (Own m0 bm0) w0) (hnt : nt ≤ a0.tmps.size)
    (hQ : ∀ a' w' m' bm', Left m0 bm0 w0 a0 (S 0).h (S n).e.get (S n).al.get (S n).h m' bm' a' w' → Q .normal a' w') :
    ∀ (j i : Nat) (m : M) (bm : BM) (a : Act) (w : World), i + j = n → Left m0 bm0 w0 a0 (S 0).h (S i).e.get (S i).al.get (S i).h m bm a w → wpOps P ops Q (List.range' i j) a w
  | 0, i, m, bm, a, w, hij, V => by
    have : i = n := by omega
    subst this
    exact hQ a w m bm V
  | j + 1, i, m, bm, a, w, hij, V => by
    rw [List.range'_succ, wpOps_cons]
    exact R.step hI hco h0 hi0 hnt (by omega) V fun a' w' m' bm' V' => Base.all R hI hco h0 hi0 hnt hQ j (i + 1) m' bm' a' w' (by omega) V'

/-- A region that is not drawn. -/
theorem wp_seq_region (R : Base P cf ops bs nt n Y S F U G) (hI : Keeps I) (hco : CallOk P I cf) (hi0 : I (Own m0 bm0) w0) (hnt : nt ≤ a0.tmps.size) (hS : Sim m0 (S 0).h.get w0) (hF : Fr m0 bm0 (S 0).e.get (S 0).al.get a0.tmps w0) {id : Nat}
    (hQ : ∀ a' w' m' bm', Left m0 bm0 w0 a0 (S 0).h (S n).e.get (S n).al.get (S n).h m' bm' a' w' → Q .normal a' w') : (Code.region id ops false).wp P Q a0 w0 := by
  refine wp_region ?_
  rw [List.range_eq_range', R.len]
  exact R.all hI hco (fun r hr => hS.has hr) hi0 hnt hQ n 0 m0 bm0 a0 w0 (by omega) ⟨hS, hF, .refl _ _ _, fun r h1 h2 => (h1 h2).elim, rfl, rfl⟩
end

/- The numbers of what stands before. -/
theorem edgeBits_spec {bef : List Nat} {j : Nat} : ∀ {l : List Edge}, (edgeBits bef l).testBit j = true → ∃ e ∈ l, Region.binds .any e = true ∧ (e.on = j ∨ (bef.getD e.on 0).testBit j = true)
  | [], h => by simp [edgeBits] at h
  | e :: r, h => by
    simp only [edgeBits] at h
    split at h
    · rename_i hb
      simp only [Nat.testBit_or, Nat.testBit_two_pow, Bool.or_eq_true, decide_eq_true_eq] at h
      rcases h with (h | h) | h
      · exact ⟨e, by simp, hb, .inl h⟩
      · exact ⟨e, by simp, hb, .inr h⟩
      · obtain ⟨e', h1, h2, h3⟩ := edgeBits_spec h
        exact ⟨e', List.mem_cons_of_mem _ h1, h2, h3⟩
    · obtain ⟨e', h1, h2, h3⟩ := edgeBits_spec h
      exact ⟨e', List.mem_cons_of_mem _ h1, h2, h3⟩

theorem befOk_at {bef : List Nat} : ∀ {l : List Oper} {s : Nat}, befOk bef s l = true → ∀ (i : Nat) (o : Oper), l[i]? = some o →
    (∀ e ∈ o.after, Region.binds .any e = true → e.on < s + i) ∧ bef.getD (s + i) 0 = edgeBits bef o.after.toList
  | [], s, h, i, o, ho => by simp at ho
  | x :: r, s, h, i, o, ho => by
    simp only [befOk, Bool.and_eq_true, List.all_eq_true, beq_iff_eq] at h
    cases i with
    | zero =>
      simp at ho; subst ho
      refine ⟨fun e he hb => ?_, h.1.2⟩
      have := h.1.1 e (by simpa using he)
      simpa [hb] using this
    | succ i =>
      have := befOk_at h.2 i o (by simpa using ho)
      rwa [show s + 1 + i = s + (i + 1) by omega] at this

section
variable {P : Program} {I : (Nat → Prop) → World → Prop} {cf : CallF} {ops : Array Oper} {bs : List Nat} {nt n : Nat} {bef : List Nat} {Y : Nat → Op} {S : Nat → Rs} {F : Nat → Foot} {U : Nat → Out} {G : Nat → Nat → Option (Option Row)}
variable {m0 m : M} {bm0 bm : BM} {w0 w : World} {a0 a : Act} {i : Nat} {Q : Exit → Act → World → Prop}

theorem Run.any (R : Run P cf ops bs nt n bef Y S F U G) (hb : befOk bef 0 ops.toList = true) (hI : Keeps I) (hco : CallOk P I cf) (h0 : ∀ r, m0 r ≠ .unk → (S 0).h.get r ≠ none) (hi0 : I (Own m0 bm0) w0) (hnt : nt ≤ a0.tmps.size)
    (hQ : ∀ a' w' m' bm', Left m0 bm0 w0 a0 (S 0).h (S n).e.get (S n).al.get (S n).h m' bm' a' w' → Q .normal a' w') :
    ∀ (fuel : Nat) (listed : Array Bool) (rest : List Nat) (m : M) (bm : BM) (a : Act) (w : World), listed.size = n → (∀ k, k < n → listed.getD k false = false → k ∈ rest) → rest.length ≤ fuel →
      SetOk bef n (fun k => listed.getD k false) → Inv Y S F U G n m0 bm0 w0 a0 (fun k => listed.getD k false) m bm a w → wpAny P .any ops Q fuel listed a w := by
  have hdone : ∀ (listed : Array Bool) (m : M) (bm : BM) (a : Act) (w : World), (∀ k, k < n → listed.getD k false = true) → Inv Y S F U G n m0 bm0 w0 a0 (fun k => listed.getD k false) m bm a w → Q .normal a w := by
    intro listed m bm a w hall V
    have he : eD Y S U n (fun k => listed.getD k false) = (S n).e.get := foldD_full (S := fun k => (S k).e.get) (f0 := (S 0).e.get) rfl (fun k hk => R.e k hk) hall
    have ha : aD Y S U n (fun k => listed.getD k false) = (S n).al.get := foldD_full (S := fun k => (S k).al.get) (f0 := (S 0).al.get) rfl (fun k hk => R.al k hk) hall
    have hg : gD S G n (fun k => listed.getD k false) = (S n).h.get := foldD_full (S := fun k => (S k).h.get) (f0 := (S 0).h.get) rfl (fun k hk => R.g k hk) hall
    refine hQ a w m bm ⟨hg ▸ V.sim, he ▸ ha ▸ V.fr, V.later, fun r hr hr0 => ?_, V.size, V.defers⟩
    rcases V.kn r hr with h | ⟨k, h1, h2, h3⟩
    · exact (h hr0).elim
    · refine ⟨?_, R.has (i := k + 1) (j := n) (by omega) (Nat.le_refl _) h3.2⟩
      cases hq : (S 0).h.get r with
      | none => rfl
      | some x => exact (R.has (Nat.zero_le k) (by omega) (by rw [hq]; simp) h3.1).elim
  have hready : ∀ listed : Array Bool, listed.size = n → Region.ready .any ops listed = [] → ∀ k, k < n → listed.getD k false = true := by
    intro listed hls hr k
    induction k using Nat.strongRecOn with
    | ind k ih =>
      intro hk
      cases hq : listed.getD k false with
      | true => rfl
      | false =>
        exfalso
        have hlt : k < ops.size := by rw [R.len]; exact hk
        have : k ∈ Region.ready .any ops listed := by
          rw [mem_ready]
          refine ⟨?_, ops[k], Array.getElem?_eq_getElem hlt, fun e he hbi => ?_⟩
          · have hlk : k < listed.size := by rw [hls]; exact hk
            simp only [Array.getD_eq_getD_getElem?, Array.getElem?_eq_getElem hlk, Option.getD_some] at hq ⊢
            exact hq
          · have := (befOk_at hb k ops[k] (by simp [hlt])).1 e he hbi
            exact ih e.on (by omega) (by omega)
        rw [hr] at this; simp at this
  intro fuel
  induction fuel with
  | zero =>
    intro listed rest m bm a w hls hrest hlen hset V
    have hall : ∀ k, k < n → listed.getD k false = true := fun k hk => by
      cases hq : listed.getD k false with
      | true => rfl
      | false =>
        have := hrest k hk hq
        have : rest = [] := List.length_eq_zero_iff.1 (by omega)
        simp_all
    refine ⟨?_, hdone listed m bm a w hall V⟩
    cases hr : Region.ready .any ops listed with
    | nil => rfl
    | cons k l =>
      exfalso
      have hk : k ∈ Region.ready .any ops listed := by rw [hr]; simp
      rw [mem_ready] at hk
      obtain ⟨q1, o, q2, _⟩ := hk
      have hlt : k < n := by rw [← R.len]; exact (Array.getElem?_eq_some_iff.1 q2).1
      have h1 := hall k hlt
      have hlk : k < listed.size := by rw [hls]; exact hlt
      simp only [Array.getD_eq_getD_getElem?, Array.getElem?_eq_getElem hlk, Option.getD_some] at h1 q1
      rw [h1] at q1; simp at q1
  | succ fuel ih =>
    intro listed rest m bm a w hls hrest hlen hset V
    refine ⟨fun hr => hdone listed m bm a w (hready listed hls hr) V, fun i hi => ?_⟩
    rw [mem_ready] at hi
    obtain ⟨q1, o, q2, q3⟩ := hi
    have hlt : i < n := by rw [← R.len]; exact (Array.getElem?_eq_some_iff.1 q2).1
    have hli : i < listed.size := by rw [hls]; exact hlt
    have hout : listed.getD i false = false := by
      simp only [Array.getD_eq_getD_getElem?, Array.getElem?_eq_getElem hli, Option.getD_some] at q1 ⊢
      exact q1
    have hrdy : Rdy bef n (fun k => listed.getD k false) i := by
      refine ⟨hset, hlt, hout, fun j hj => ?_⟩
      have hbe := (befOk_at hb i o (by simpa using q2)).2
      rw [Nat.zero_add] at hbe
      rw [hbe] at hj
      obtain ⟨e, e1, e2, e3⟩ := edgeBits_spec hj
      have hon := q3 e (by simpa using e1) e2
      rcases e3 with rfl | e3
      · exact hon
      · exact hset.closed e.on hon j e3
    have hD : (fun k => (listed.setIfInBounds i true).getD k false) = addI (fun k => listed.getD k false) i := by
      funext k
      simp only [addI]
      by_cases hk : k = i
      · subst hk; simp [hli]
      · rw [getD_set_ne false (Ne.symm hk)]; simp [hk]
    refine R.step hI hco h0 hi0 hnt hrdy V fun a' w' m' bm' V' => ?_
    refine ih (listed.setIfInBounds i true) (rest.erase i) m' bm' a' w' (by simpa using hls) (fun k hk hq => ?_) ?_ ?_ ?_
    · have hki : k ≠ i := by
        intro e; subst e
        have := congrFun hD k
        simp only [addI] at this
        rw [this] at hq; simp at hq
      refine (List.mem_erase_of_ne hki).2 (hrest k hk ?_)
      rwa [getD_set_ne false (Ne.symm hki)] at hq
    · rw [List.length_erase_of_mem (hrest i hlt hout)]; omega
    · rw [hD]; exact R.add_set hrdy
    · rw [hD]; exact V'

/-- A region that is drawn. -/
theorem wp_any_region (R : Run P cf ops bs nt n bef Y S F U G) (hm : P.follows .mixedOrders = true) (hb : befOk bef 0 ops.toList = true) (hI : Keeps I) (hco : CallOk P I cf) (hi0 : I (Own m0 bm0) w0) (hnt : nt ≤ a0.tmps.size)
    (hS : Sim m0 (S 0).h.get w0) (hF : Fr m0 bm0 (S 0).e.get (S 0).al.get a0.tmps w0) {id : Nat}
    (hQ : ∀ a' w' m' bm', Left m0 bm0 w0 a0 (S 0).h (S n).e.get (S n).al.get (S n).h m' bm' a' w' → Q .normal a' w') : (Code.region id ops true).wp P Q a0 w0 := by
  refine wp_region_any hm ?_
  have hL : Later m0 bm0 w0 m0 bm0 { w0 with drawn := w0.drawn + 1 } := ⟨.refl m0, ⟨rfl, rfl, rfl, Nat.le_refl _, fun _ _ _ => rfl⟩, fun _ _ h => .inl h, fun _ _ h => .inl h⟩
  have hD : (fun k => (Array.replicate ops.size false).getD k false) = fun _ => false := by
    funext k
    simp only [Array.getD_eq_getD_getElem?, Array.getElem?_replicate]
    split <;> rfl
  refine R.any hb hI hco (fun r hr => hS.has hr) hi0 hnt hQ ops.size _ (List.range n) m0 bm0 a0 _ (by simp [R.len]) (fun k hk _ => by simpa using hk) (by simp [R.len]) ?_ ?_
  · rw [hD]; exact ⟨fun k h => by simp at h, fun k h => by simp at h⟩
  · rw [hD]
    have hz : ∀ {X : Type} (δ : Nat → Nat → Option X) (f0 : Nat → X) (k : Nat), foldD (fun _ => false) δ f0 k = f0 := by
      intro X δ f0 k
      induction k with
      | zero => rfl
      | succ k ih => simp only [foldD]; simpa using ih
    refine ⟨?_, ?_, fun r hr => .inl hr, fun k hk h => by simp at h, hL, rfl, rfl⟩
    · show Sim m0 (foldD _ _ _ _) _
      rw [hz]
      exact ⟨hS.row, hS.dead, hS.inj⟩
    · show Fr m0 bm0 (foldD _ _ _ _) (foldD _ _ _ _) _ _
      rw [hz, hz]
      exact ⟨hF.slot, hF.al, hF.inj, hF.disj⟩
end
end Ab

/- Code: what the abstract machine's run says of the Go machine's. -/
set_option linter.unusedVariables false
set_option linter.unusedSimpArgs false
namespace Ab
open Go

def exOf : Ex → Exit
  | .nrm => .normal
  | .ex id => .exit id
  | .ret => .ret

def BxIn (bs : List Nat) (e : Env) : Prop := ∀ t cs, e.get t = .box cs → t ∈ bs

abbrev noAl : Nat → Option (Nat × Nat) := fun _ => none

theorem Left.trans {m0 m1 m2 : M} {b0 b1 b2 : BM} {w0 w1 w2 : World} {a0 a1 a2 : Act} {h0 h1 h2 : Heap} {e1 e2 : Nat → AVal} {al1 al2 : Nat → Option (Nat × Nat)}
    (p : Left m0 b0 w0 a0 h0 e1 al1 h1 m1 b1 a1 w1) (q : Left m1 b1 w1 a1 h1 e2 al2 h2 m2 b2 a2 w2) (u : Upd h0 h1) (v : Upd h1 h2) : Left m0 b0 w0 a0 h0 e2 al2 h2 m2 b2 a2 w2 where
  sim := q.sim
  fr := q.fr
  later := p.later.trans q.later
  kn := fun r h2' h0' => by
    by_cases h1' : m1 r = .unk
    · obtain ⟨k1, k2⟩ := q.kn r h2' h1'
      refine ⟨?_, k2⟩
      cases hq : h0.get r with
      | none => rfl
      | some x => exact (u.has (by rw [hq]; simp) k1).elim
    · obtain ⟨k1, k2⟩ := p.kn r h1' h0'
      exact ⟨k1, v.has k2⟩
  size := q.size.trans p.size
  defers := q.defers.trans p.defers

theorem Fr.forget {m : M} {bm : BM} {e : Nat → AVal} {al : Nat → Option (Nat × Nat)} {tm : Array Value} {w : World} (hF : Fr m bm e al tm w) {e' : Nat → AVal} (he : ∀ t, e' t = e t ∨ e' t = .opq) : Fr m bm e' noAl tm w where
  slot := fun t => by
    rcases he t with h | h
    · rw [h]; exact hF.slot t
    · rw [h]; simp [SlotRel, VRel]
  al := fun t u off h => by simp [noAl] at h
  inj := hF.inj
  disj := hF.disj

section
variable {P : Program} {I : (Nat → Prop) → World → Prop} {cf : CallF} {k : Hint} {nt : Nat}

theorem region_sound (hm : P.follows .mixedOrders = true) (hI : Keeps I) (hcf : CfOk cf) (hco : CallOk P I cf) {id : Nat} {ops : Array Oper} {draw : Bool} {cc : Cd} (hc : cReg P nt k id ops draw = some cc) {fu : Nat} {s s' : St} {x : Ex}
    (hx : exec cf (fu + 1) cc s = some (x, s')) {m : M} {bm : BM} {w : World} {a : Act} (hw : HW s.h) (hS : Sim m s.h.get w) (hF : Fr m bm s.e.get noAl a.tmps w) (hi : I (Own m bm) w) (hb : BxIn k.bs s.e) (hnt : nt ≤ a.tmps.size)
    {Q : Exit → Act → World → Prop} (hQ : ∀ a' w' m' bm', Left m bm w a s.h s'.e.get noAl s'.h m' bm' a' w' → BxIn k.bs s'.e → Q (exOf x) a' w') : (Code.region id ops draw).wp P Q a w := by
  unfold cReg at hc
  split at hc
  · rename_i ys hys
    have key : ∀ (conf : List (Nat × Nat)) , exec cf (fu + 1) (.reg ys conf (k.ks id)) s = some (x, s') → ∃ s1 fs, steps cf ys { e := s.e, al := [], h := s.h } = some (s1, fs) ∧ apartAll fs conf = true ∧ x = .nrm ∧ s' = { e := s1.e.kill (k.ks id), h := s1.h } := by
      intro conf hx
      simp only [exec] at hx
      split at hx
      · rename_i s1 fs h1
        split at hx
        · rename_i ha
          simp at hx
          exact ⟨s1, fs, h1, ha, hx.1.symm, hx.2.symm⟩
        · simp at hx
      · simp at hx
    have fin : ∀ (S : Nat → Rs) (n : Nat) (s1 : Rs), S 0 = { e := s.e, al := [], h := s.h } → S n = s1 → (∀ t cs, (S n).e.get t = .box cs → t ∈ k.bs) → x = .nrm → s' = { e := s1.e.kill (k.ks id), h := s1.h } →
        ∀ a' w' m' bm', Left m bm w a (S 0).h (S n).e.get (S n).al.get (S n).h m' bm' a' w' → Q .normal a' w' := by
      intro S n s1 h0 hn hbx hx' hs' a' w' m' bm' V
      subst hx'
      refine hQ a' w' m' bm' ?_ ?_
      · rw [h0, hn] at V
        rw [hs']
        exact ⟨V.sim, V.fr.forget fun t => by rw [Env.get_kill]; by_cases ht : look (k.ks id) t = some true <;> simp [ht], V.later, V.kn, V.size, V.defers⟩
      · intro t cs ht
        rw [hs'] at ht
        rw [Env.get_kill] at ht
        split at ht
        · simp at ht
        · rw [hn] at hbx; exact hbx t cs ht
    split at hc
    · rename_i hdr
      split at hc
      · rename_i hsl
        injection hc with hc; subst hc
        subst hdr
        obtain ⟨s1, fs, q1, q2, q3, q4⟩ := key _ hx
        obtain ⟨S, F, U, G, h0, hn, hfs, hlen, R⟩ := base_of hcf hys q1 hw hb
        simp only [Bool.and_eq_true] at hsl
        have R' : Run P cf ops k.bs nt ops.size (k.bf id) (opAt ys) S F U G :=
          { len := R.len, cmp := R.cmp, stp := R.stp, e := R.e, al := R.al, g := R.g, hw := R.hw, upd := R.upd, bx := R.bx,
            pair := fun i j hij hj hl => pair_ok hsl.1 q2 hfs hij (by rw [hlen]; exact hj) hl,
            dst := fun i j hij hi hj t h1 => dst_ne hsl.1 hij (by rw [hlen]; exact hi) (by rw [hlen]; exact hj) h1,
            al0 := by rw [h0]; rfl }
        exact wp_any_region R' hm hsl.2 hI hco hi hnt (by rw [h0]; exact hS) (by rw [h0]; exact hF) (fin S ops.size s1 h0 hn (R.bx _ (Nat.le_refl _)) q3 q4)
      · simp at hc
    · rename_i hdr
      injection hc with hc; subst hc
      have hdr' : draw = false := by simpa using hdr
      subst hdr'
      obtain ⟨s1, fs, q1, q2, q3, q4⟩ := key _ hx
      obtain ⟨S, F, U, G, h0, hn, hfs, hlen, R⟩ := base_of hcf hys q1 hw hb
      exact wp_seq_region R hI hco hi hnt (by rw [h0]; exact hS) (by rw [h0]; exact hF) (fin S ops.size s1 h0 hn (R.bx _ (Nat.le_refl _)) q3 q4)
  · simp at hc

/-- What is shown of a code, at some fuel. -/
def Sound (P : Program) (I : (Nat → Prop) → World → Prop) (cf : CallF) (k : Hint) (nt : Nat) (fu : Nat) (cc : Cd) (W : (Exit → Act → World → Prop) → Act → World → Prop) : Prop :=
  ∀ (s s' : St) (x : Ex), exec cf fu cc s = some (x, s') → ∀ (m : M) (bm : BM) (w : World) (a : Act), HW s.h → Sim m s.h.get w → Fr m bm s.e.get noAl a.tmps w → I (Own m bm) w → BxIn k.bs s.e → nt ≤ a.tmps.size →
    ∀ (Q : Exit → Act → World → Prop), (∀ a' w' m' bm', Left m bm w a s.h s'.e.get noAl s'.h m' bm' a' w' → BxIn k.bs s'.e → Q (exOf x) a' w') → W Q a w

theorem exec_sound (hm : P.follows .mixedOrders = true) (hI : Keeps I) (hcf : CfOk cf) (hco : CallOk P I cf) : ∀ fu,
    (∀ c cc, cCode P nt k c = some cc → Sound P I cf k nt fu cc (fun Q a w => c.wp P Q a w)) ∧
    (∀ c cc, cCode P nt k c = some cc → Sound P I cf k nt fu (.loop cc) (fun Q a w => Code.rounds P c Q fu a w)) := by
  intro fu
  induction fu with
  | zero => exact ⟨fun c cc _ s s' x hx => by simp [exec] at hx, fun c cc _ s s' x hx => by simp [exec] at hx⟩
  | succ fu ih =>
    obtain ⟨ihA, ihB⟩ := ih
    have same : ∀ (s : St) (m : M) (bm : BM) (w : World) (a : Act), Sim m s.h.get w → Fr m bm s.e.get noAl a.tmps w → Left m bm w a s.h s.e.get noAl s.h m bm a w :=
      fun s m bm w a hS hF => ⟨hS, hF, .refl _ _ _, fun r h1 h2 => (h1 h2).elim, rfl, rfl⟩
    have hB : ∀ c cc, cCode P nt k c = some cc → Sound P I cf k nt (fu + 1) (.loop cc) (fun Q a w => Code.rounds P c Q (fu + 1) a w) := by
      intro c cc hc s s' x hx m bm w a hw hS hF hi hb hnt Q hQ
      show c.wp P (Exit.then (Code.rounds P c Q fu) Q) a w
      simp only [exec] at hx
      split at hx
      · rename_i s1 h1
        obtain ⟨u1, u2⟩ := exec_ok hcf fu cc hw h1
        refine ihA c cc hc s s1 .nrm h1 m bm w a hw hS hF hi hb hnt _ fun a1 w1 m1 bm1 V hb1 => ?_
        show Code.rounds P c Q fu a1 w1
        refine ihB c cc hc s1 s' x hx m1 bm1 w1 a1 u1 V.sim V.fr (hI.later hi V.later) hb1 (by rw [V.size]; exact hnt) Q fun a2 w2 m2 bm2 V2 hb2 => ?_
        exact hQ a2 w2 m2 bm2 (V.trans V2 u2 (exec_ok hcf fu _ u1 hx).2) hb2
      · rename_i hne
        refine ihA c cc hc s s' x hx m bm w a hw hS hF hi hb hnt _ fun a1 w1 m1 bm1 V hb1 => ?_
        have := hQ a1 w1 m1 bm1 V hb1
        cases x with
        | nrm => exact (hne _ hx).elim
        | ex id => exact this
        | ret => exact this
    refine ⟨?_, hB⟩
    intro c cc hc s s' x hx m bm w a hw hS hF hi hb hnt Q hQ
    cases c with
    | skip =>
      simp [cCode] at hc; subst hc
      simp [exec] at hx; obtain ⟨rfl, rfl⟩ := hx
      exact wp_skip (hQ a w m bm (same s m bm w a hS hF) hb)
    | region id ops draw =>
      simp only [cCode] at hc
      split at hc
      · rename_i cc' hcr
        injection hc with hc; subst hc
        exact region_sound hm hI hcf hco hcr hx hw hS hF hi hb hnt hQ
      · injection hc with hc; subst hc
        simp [exec] at hx
    | seq c1 c2 =>
      simp only [cCode] at hc
      split at hc
      · rename_i x1 x2 e1 e2
        injection hc with hc; subst hc
        refine wp_seq ?_
        simp only [exec] at hx
        split at hx
        · rename_i s1 h1
          obtain ⟨u1, u2⟩ := exec_ok hcf fu x1 hw h1
          refine ihA c1 x1 e1 s s1 .nrm h1 m bm w a hw hS hF hi hb hnt _ fun a1 w1 m1 bm1 V hb1 => ?_
          show c2.wp P Q a1 w1
          refine ihA c2 x2 e2 s1 s' x hx m1 bm1 w1 a1 u1 V.sim V.fr (hI.later hi V.later) hb1 (by rw [V.size]; exact hnt) Q fun a2 w2 m2 bm2 V2 hb2 => ?_
          exact hQ a2 w2 m2 bm2 (V.trans V2 u2 (exec_ok hcf fu _ u1 hx).2) hb2
        · rename_i hne
          refine ihA c1 x1 e1 s s' x hx m bm w a hw hS hF hi hb hnt _ fun a1 w1 m1 bm1 V hb1 => ?_
          have := hQ a1 w1 m1 bm1 V hb1
          cases x with
          | nrm => exact (hne _ hx).elim
          | ex id => exact this
          | ret => exact this
      · simp at hc
    | cond c0 c1 c2 =>
      simp only [cCode] at hc
      split at hc
      · rename_i x0 x1 x2 e0 e1 e2
        injection hc with hc; subst hc
        simp only [exec] at hx
        split at hx
        · rename_i hcv
          exact wp_cond_true (opd_bool hF e0 hcv) (ihA c1 x1 e1 s s' x hx m bm w a hw hS hF hi hb hnt Q hQ)
        · rename_i hcv
          exact wp_cond_false (opd_bool hF e0 hcv) (ihA c2 x2 e2 s s' x hx m bm w a hw hS hF hi hb hnt Q hQ)
        · simp at hx
      · simp at hc
    | block id b =>
      simp only [cCode, Option.map_eq_some_iff] at hc
      obtain ⟨x1, e1, rfl⟩ := hc
      refine wp_block ?_
      simp only [exec] at hx
      split at hx
      · rename_i j s1 h1
        refine ihA b x1 e1 s s1 (.ex j) h1 m bm w a hw hS hF hi hb hnt _ fun a1 w1 m1 bm1 V hb1 => ?_
        show Exit.inBlock id Q (.exit j) a1 w1
        simp only [Exit.inBlock]
        split at hx
        · rename_i hj
          simp at hx; obtain ⟨rfl, rfl⟩ := hx
          rw [if_pos hj]
          exact hQ a1 w1 m1 bm1 V hb1
        · rename_i hj
          simp at hx; obtain ⟨rfl, rfl⟩ := hx
          rw [if_neg hj]
          exact hQ a1 w1 m1 bm1 V hb1
      · rename_i hne
        refine ihA b x1 e1 s s' x hx m bm w a hw hS hF hi hb hnt _ fun a1 w1 m1 bm1 V hb1 => ?_
        have := hQ a1 w1 m1 bm1 V hb1
        cases x with
        | nrm => exact this
        | ex id' => exact (hne _ _ hx).elim
        | ret => exact this
    | loop b =>
      simp only [cCode, Option.map_eq_some_iff] at hc
      obtain ⟨x1, e1, rfl⟩ := hc
      exact wp_loop_rounds (fu + 1) (hB b x1 e1 s s' x hx m bm w a hw hS hF hi hb hnt Q hQ)
    | exit id =>
      simp [cCode] at hc; subst hc
      simp [exec] at hx; obtain ⟨rfl, rfl⟩ := hx
      exact wp_exit (hQ a w m bm (same s m bm w a hS hF) hb)
    | ret =>
      simp [cCode] at hc; subst hc
      simp [exec] at hx; obtain ⟨rfl, rfl⟩ := hx
      exact wp_ret (hQ a w m bm (same s m bm w a hS hF) hb)
    | _ =>
      simp only [cCode] at hc
      injection hc with hc
      subst hc
      exact absurd hx (by simp [exec])
end
end Ab

/- Calls: a table of functions whose code is compiled, or whose value is known. -/
set_option linter.unusedVariables false
set_option linter.unusedSimpArgs false
namespace Ab
open Go

def FunOk (P : Program) (I : (Nat → Prop) → World → Prop) (f : Nat) : Fun → Prop
  | .code fn => ∃ g k, P.funcs[f]? = some g ∧ (g.name == "runtime.NumGoroutine") = false ∧ cFunc P k g = some fn
  | .prim p => ∀ l v, p l = some v → ∀ m w vs, I (Own m nb) w → VsRel m l vs → Does P f vs.toArray w (fun x w' => WFr (fun _ => False) w w' ∧ VRel m v x)

def TbOk (P : Program) (I : (Nat → Prop) → World → Prop) (tb : Tbl) : Prop := ∀ f u, tb f = some u → FunOk P I f u

theorem Sim.frame {m : M} {g : Nat → Option Row} {w w' : World} (hS : Sim m g w) (h : WFr (fun _ => False) w w') : Sim m g w' where
  row := fun r p hr => by
    obtain ⟨row, o, h1, h2, h3⟩ := hS.row r p hr
    exact ⟨row, o, h1, (h.block p.b (hS.lt hr) (fun q => q)).trans h2, h3⟩
  dead := hS.dead
  inj := hS.inj

section
variable {P : Program} {m : M} {bm : BM} {e : Env} {tm : Array Value} {w : World}

theorem results_list (hF : Fr m bm e.get noAl tm w) (f : ResultVar → Sem Value) (h1 : ∀ t, f (.tmp t) = pure (tm.getD t undef)) (h2 : ∀ a t, f (.cell a t) = do loadVar t (← asAddr (tm.getD a undef))) :
    ∀ (l : List ResultVar) (rs : List Res) (vs : List AVal), cRes P l = some rs → resOf e rs = some vs → ∃ xs, (l.mapM f).run P w = .ok xs w ∧ VsRel m vs xs
  | [], rs, vs, hc, hr => by
    simp [cRes] at hc; subst hc
    simp [resOf] at hr; subst hr
    exact ⟨[], by simp, .nil⟩
  | .tmp t :: l, rs, vs, hc, hr => by
    simp only [cRes, Option.map_eq_some_iff] at hc
    obtain ⟨rs', hc', rfl⟩ := hc
    simp only [resOf] at hr
    split at hr
    · rename_i hp
      split at hr
      · rename_i l' hl'
        injection hr with hr; subst hr
        obtain ⟨xs, q1, q2⟩ := results_list hF f h1 h2 l rs' l' hc' hl'
        exact ⟨tm.getD t undef :: xs, by simp [List.mapM_cons, h1, q1], .cons (hF.val t hp) q2⟩
      · simp at hr
    · simp at hr
  | .cell a t :: l, rs, vs, hc, hr => by
    simp only [cRes] at hc
    split at hc
    · rename_i n ag rs' hn hag hc'
      split at hc
      · injection hc with hc; subst hc
        simp only [resOf] at hr
        split at hr
        · rename_i cs hcs
          split at hr
          · rename_i v l' hp hl'
            injection hr with hr; subst hr
            obtain ⟨xs, q1, q2⟩ := results_list hF f h1 h2 l rs' l' hc' hl'
            have hs := hF.slot a
            rw [hcs] at hs
            obtain ⟨b, hb, hv, c, et, fr, hh, _, _, hrel⟩ := hs
            obtain ⟨x, hx1, hx2⟩ := loadVar_sound (P := P) (w := w) hag hn hrel hh hp
            refine ⟨x :: xs, ?_, .cons hx2 q2⟩
            have hx1' : (loadVar t ⟨b, 0, none⟩).run P w = .ok x w := by simpa using hx1
            simp [List.mapM_cons, h2, hv, asAddr, hx1', q1]
          · simp at hr
        · simp at hr
      · simp at hc
    · simp at hc

theorem results_sound (hF : Fr m bm e.get noAl tm w) {fn : Func} {rs : List Res} {vs : List AVal} (hc : cRes P fn.results.toList = some rs) (hr : resOf e rs = some vs) : ∃ x, (results fn tm).run P w = .ok x w ∧ VRel m (one vs) x := by
  unfold results
  simp only [Array.mapM_eq_mapM_toList]
  generalize hf : (fun r : ResultVar => (match r with | .tmp t => pure (tm.getD t undef) | .cell a t => do loadVar t (← asAddr (tm.getD a undef)) : Sem Value)) = f
  obtain ⟨xs, q1, q2⟩ := results_list hF f (fun t => by rw [← hf]) (fun a t => by rw [← hf]) fn.results.toList rs vs hc hr
  have hrun : (do
      let vs ← List.toArray <$> List.mapM f fn.results.toList
      pure (if h : vs.size = 1 then vs[0] else Value.tuple vs) : Sem Value).run P w = .ok (if h : xs.toArray.size = 1 then xs.toArray[0] else Value.tuple xs.toArray) w := by
    simp [q1]
  refine ⟨_, hrun, ?_⟩
  match vs, xs, q2 with
  | [], xs, q2 =>
    rw [q2.unnil]
    simp only [one, VRel]
    exact ⟨[], rfl, .nil⟩
  | [v], xs, q2 =>
    obtain ⟨x, l, rfl, h1, h2⟩ := q2.uncons
    rw [h2.unnil]
    exact h1
  | v :: v' :: r, xs, q2 =>
    obtain ⟨x, l, rfl, h1, h2⟩ := q2.uncons
    obtain ⟨x', l', rfl, h1', h2'⟩ := h2.uncons
    simp only [one, VRel]
    refine ⟨x :: x' :: l', ?_, .cons h1 (.cons h1' h2')⟩
    rw [dif_neg (by simp)]
end

section
variable {P : Program} {I : (Nat → Prop) → World → Prop}

theorem enter_run {f : FuncId} {fn : Func} {c : Code} (hf : P.funcs[f]? = some fn) (hname : (fn.name == "runtime.NumGoroutine") = false) (hb : fn.body = some c) (args : Array Value) (w : World) :
    (callFunc f args).run P w = .ok (.enter f args) w := by
  have h1 : fn.name ≠ "runtime.NumGoroutine" := by simpa using hname
  simp [callFunc, hf, h1, hb]

theorem params_get : ∀ (l : List AVal) (i t : Nat), (params i l).get t = if i ≤ t then (l[t - i]?).getD .opq else .opq
  | [], i, t => by simp [params, Env.get]
  | v :: r, i, t => by
    simp only [params, Env.get]
    by_cases h : i = t
    · subst h; simp
    · rw [if_neg h, params_get r (i + 1) t]
      by_cases h2 : i ≤ t
      · rw [if_pos (by omega), if_pos h2, show t - i = (t - (i + 1)) + 1 by omega]; simp
      · rw [if_neg (by omega), if_neg h2]

theorem enter_fr {m : M} {l : List AVal} {vs : List Value} (h : VsRel m l vs) (n : Nat) (w : World) : Fr m nb (params 0 l).get noAl (vs.toArray ++ Array.replicate (n - vs.toArray.size) undef) w where
  slot := fun t => by
    rw [params_get]
    simp only [Nat.zero_le, if_true, Nat.sub_zero]
    cases hq : l[t]? with
    | none => simp [SlotRel, VRel]
    | some x =>
      obtain ⟨v, hv, hx⟩ := h.get t x hq
      have hlt : t < vs.length := (List.getElem?_eq_some_iff.1 hv).1
      have hg : (vs.toArray ++ Array.replicate (n - vs.toArray.size) undef).getD t undef = v := by
        rw [Array.getD_eq_getD_getElem?, Array.getElem?_append_left (by simpa using hlt)]
        simp [hv]
      rw [hg]
      show SlotRel m nb w t x v
      unfold SlotRel
      split
      · simp [VRel] at hx
      · exact hx
  al := fun t u off h => by simp [noAl] at h
  inj := fun t u b h => by simp [nb] at h
  disj := fun t b h => by simp [nb] at h

theorem callF_sound (hm : P.follows .mixedOrders = true) (hI : Keeps I) {tb : Tbl} (ht : TbOk P I tb) : ∀ n, CallOk P I (callF tb n)
  | 0 => fun f l h v h' hw hs => by simp [callF] at hs
  | n + 1 => fun f l h v h' hw hs m w vs hi hS hv => by
    have hco := callF_sound hm hI ht n
    simp only [callF] at hs
    split at hs
    · simp at hs
    · rename_i p hp
      have hfo : ∀ l v, p l = some v → ∀ m w vs, I (Own m nb) w → VsRel m l vs → Does P f vs.toArray w (fun x w' => WFr (fun _ => False) w w' ∧ VRel m v x) := ht f _ hp
      split at hs
      · rename_i v' hv'
        simp at hs; obtain ⟨rfl, rfl⟩ := hs
        have fin : ∀ x w', WFr (fun _ => False) w w' ∧ VRel m v' x → After m h h w v' x w' := fun x w' hh =>
          ⟨m, ⟨.refl m, hh.1.mono fun _ q => q.elim, fun _ _ h => .inl h, fun _ _ h => .inl h⟩, hS.frame hh.1, hh.2, fun r h1 h2 => (h1 h2).elim⟩
        rcases hfo l v' hv' m w vs hi hv with ⟨x, w', q1, q2⟩ | ⟨q1, q2⟩
        · exact .inl ⟨x, w', q1, fin x w' q2⟩
        · exact .inr ⟨q1, Calls.mono q2 fun en w' he => by
            cases en with
            | returned x => exact fin x w' he
            | _ => exact he.elim⟩
      · simp at hs
    · rename_i fn hfn
      obtain ⟨g, k, hg, hname, hc⟩ : ∃ g k, P.funcs[f]? = some g ∧ (g.name == "runtime.NumGoroutine") = false ∧ cFunc P k g = some fn := ht f _ hfn
      unfold cFunc at hc
      split at hc
      · rename_i c hbody
        split at hc
        · rename_i cc rs hcc hrs
          split at hc
          · rename_i hnp
            injection hc with hc; subst hc
            split at hs
            · rename_i hargs
              split at hs
              · simp at hs
              · rename_i x s hex' hx
                split at hs
                · rename_i l' hl'
                  simp at hs; obtain ⟨rfl, rfl⟩ := hs
                  refine .inr ⟨enter_run hg hname hbody _ w, calls_of_wp hg hbody ?_⟩
                  have hlen : vs.length = g.params.size + g.nfree := by rw [hv.length, hargs.1]
                  refine (exec_sound hm hI (callF_ok tb n) hco n).1 c cc hcc _ _ x hx m nb w _ hw hS (enter_fr hv g.ntmps w) hi ?_ ?_ _ fun a' w' m' bm' V _ => ?_
                  · intro t cs hb
                    have hb' : (params 0 l).get t = .box cs := hb
                    rw [params_get] at hb'
                    simp only [Nat.zero_le, if_true, Nat.sub_zero] at hb'
                    cases hq : l[t]? with
                    | none => rw [hq] at hb'; simp at hb'
                    | some y =>
                      rw [hq] at hb'
                      simp at hb'; subst hb'
                      obtain ⟨z, _, hz⟩ := hv.get t _ hq
                      simp [VRel] at hz
                  · simp; omega
                  · obtain ⟨y, q1, q2⟩ := results_sound V.fr hrs hl'
                    have hA : After m h s.h w (one l') y w' := ⟨m', ⟨V.later.le, V.later.wfr, V.later.rows, fun _ _ h => by simp [nb] at h⟩, V.sim, q2, V.kn⟩
                    have hdef : a'.defers = [] := V.defers
                    cases x with
                    | nrm => exact ⟨hdef, y, q1, hA⟩
                    | ret => exact ⟨hdef, y, q1, hA⟩
                    | ex id => exact (hex' _ rfl).elim
                · simp at hs
              · simp at hs
            · simp at hs
          · simp at hc
        · simp at hc
      · simp at hc
end
end Ab
