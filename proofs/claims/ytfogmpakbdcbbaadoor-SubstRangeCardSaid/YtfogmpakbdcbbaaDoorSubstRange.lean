/- SubstRange: of each two integers the law returns true; the arguments read as they did: each of the 72 cases is reckoned by the kernel on an abstract machine of which it is proved that the program's runs follow it. Conditions: the row's own (the listed package variables hold what the program's text lays). -/
import Derived.Test.YtfogmpakbdcbbaaDoorRows
import Derived.Test.YtfogmpakbdcbbaaDoorTie
import Derived.Test.YtfogmpakbdcbbaaDoorCards
import Derived.WalkKit
import Derived.ProofKit
import Derived.OpenShut
import Derived.Lay
import Derived.SevenTiedAt
import Derived.Test.YtfogmpakbdcbbaaDoorKA
import Derived.Test.YtfogmpakbdcbbaaDoorKB
import Derived.Test.YtfogmpakbdcbbaaDoorKC
import Derived.Test.YtfogmpakbdcbbaaDoorKD
import Derived.Test.YtfogmpakbdcbbaaDoorKE
import Derived.Test.YtfogmpakbdcbbaaDoorKF
import Derived.Test.YtfogmpakbdcbbaaDoorKG
import Derived.Test.YtfogmpakbdcbbaaDoorKH
import Derived.MakeChecks
set_option linter.unusedVariables false
set_option linter.unusedSimpArgs false
namespace Go.Proofs.YtfogmpakbdcbbaaDoor.substRange
open Go.ChangeShapes Go.WideShapes Go.ChangeAt Go.RowKit
set_option linter.unusedVariables false

theorem own : ownKnob Tryd.prog.godebug = Option.none := by kernel_rfl

theorem all (x y : Int) (h0 : 0 ≤ x) (h1 : x < 12) (h2 : 0 ≤ y) (h3 : y < 6) : Ab.Rn Ab.T27.tbW Ab.T27.f4r [(0, .int .i64 x), (1, .int .i64 y), (17, .bool false)] Ab.Heap.empty (Ab.retQ Ab.T27.f4.res fun v _ => v = .bool true) := by
  have hx : x = 0 ∨ x = 1 ∨ x = 2 ∨ x = 3 ∨ x = 4 ∨ x = 5 ∨ x = 6 ∨ x = 7 ∨ x = 8 ∨ x = 9 ∨ x = 10 ∨ x = 11 := by omega
  have hy : y = 0 ∨ y = 1 ∨ y = 2 ∨ y = 3 ∨ y = 4 ∨ y = 5 := by omega
  rcases hx with rfl | rfl | rfl | rfl | rfl | rfl | rfl | rfl | rfl | rfl | rfl | rfl
  · rcases hy with rfl | rfl | rfl | rfl | rfl | rfl
    · exact Ab.T27.k_0_0
    · exact Ab.T27.k_0_1
    · exact Ab.T27.k_0_2
    · exact Ab.T27.k_0_3
    · exact Ab.T27.k_0_4
    · exact Ab.T27.k_0_5
  · rcases hy with rfl | rfl | rfl | rfl | rfl | rfl
    · exact Ab.T27.k_1_0
    · exact Ab.T27.k_1_1
    · exact Ab.T27.k_1_2
    · exact Ab.T27.k_1_3
    · exact Ab.T27.k_1_4
    · exact Ab.T27.k_1_5
  · rcases hy with rfl | rfl | rfl | rfl | rfl | rfl
    · exact Ab.T27.k_2_0
    · exact Ab.T27.k_2_1
    · exact Ab.T27.k_2_2
    · exact Ab.T27.k_2_3
    · exact Ab.T27.k_2_4
    · exact Ab.T27.k_2_5
  · rcases hy with rfl | rfl | rfl | rfl | rfl | rfl
    · exact Ab.T27.k_3_0
    · exact Ab.T27.k_3_1
    · exact Ab.T27.k_3_2
    · exact Ab.T27.k_3_3
    · exact Ab.T27.k_3_4
    · exact Ab.T27.k_3_5
  · rcases hy with rfl | rfl | rfl | rfl | rfl | rfl
    · exact Ab.T27.k_4_0
    · exact Ab.T27.k_4_1
    · exact Ab.T27.k_4_2
    · exact Ab.T27.k_4_3
    · exact Ab.T27.k_4_4
    · exact Ab.T27.k_4_5
  · rcases hy with rfl | rfl | rfl | rfl | rfl | rfl
    · exact Ab.T27.k_5_0
    · exact Ab.T27.k_5_1
    · exact Ab.T27.k_5_2
    · exact Ab.T27.k_5_3
    · exact Ab.T27.k_5_4
    · exact Ab.T27.k_5_5
  · rcases hy with rfl | rfl | rfl | rfl | rfl | rfl
    · exact Ab.T27.k_6_0
    · exact Ab.T27.k_6_1
    · exact Ab.T27.k_6_2
    · exact Ab.T27.k_6_3
    · exact Ab.T27.k_6_4
    · exact Ab.T27.k_6_5
  · rcases hy with rfl | rfl | rfl | rfl | rfl | rfl
    · exact Ab.T27.k_7_0
    · exact Ab.T27.k_7_1
    · exact Ab.T27.k_7_2
    · exact Ab.T27.k_7_3
    · exact Ab.T27.k_7_4
    · exact Ab.T27.k_7_5
  · rcases hy with rfl | rfl | rfl | rfl | rfl | rfl
    · exact Ab.T27.k_8_0
    · exact Ab.T27.k_8_1
    · exact Ab.T27.k_8_2
    · exact Ab.T27.k_8_3
    · exact Ab.T27.k_8_4
    · exact Ab.T27.k_8_5
  · rcases hy with rfl | rfl | rfl | rfl | rfl | rfl
    · exact Ab.T27.k_9_0
    · exact Ab.T27.k_9_1
    · exact Ab.T27.k_9_2
    · exact Ab.T27.k_9_3
    · exact Ab.T27.k_9_4
    · exact Ab.T27.k_9_5
  · rcases hy with rfl | rfl | rfl | rfl | rfl | rfl
    · exact Ab.T27.k_10_0
    · exact Ab.T27.k_10_1
    · exact Ab.T27.k_10_2
    · exact Ab.T27.k_10_3
    · exact Ab.T27.k_10_4
    · exact Ab.T27.k_10_5
  · rcases hy with rfl | rfl | rfl | rfl | rfl | rfl
    · exact Ab.T27.k_11_0
    · exact Ab.T27.k_11_1
    · exact Ab.T27.k_11_2
    · exact Ab.T27.k_11_3
    · exact Ab.T27.k_11_4
    · exact Ab.T27.k_11_5

theorem walk (a0 : Int) (a1 : Int) (w0 : (Lit.int .i64 a0).wf = true) (w1 : (Lit.int .i64 a1).wf = true) (w : World) :
    Calls Tryd.prog 4 #[.int .i64 a0, .int .i64 a1] w fun e w' => e = .returned (.bool true) ∧ Below w.heap.size w w' :=
  Ab.calls_top (I := Ab.T27.I) (vs := [.int .i64 a0, .int .i64 a1]) Ab.T27.mixed Ab.T27.keeps Ab.T27.tbOkW Tryd.func4 (by kernel_rfl) rfl Ab.Fresh.empty (Ab.T27.start a0 a1 all) trivial (Ab.unk_sim w)
    (.cons (by simp only [Ab.VRel]) (.cons (by simp only [Ab.VRel]) .nil)) (fun r p h => by cases h)

set_option maxRecDepth 100000 in
theorem lifted (os : Os) (started : os.Started) (H : Type) (enc : TypeId × Value → H) :
    ReturnsInHanded {} Tryd.checked os 4 .any (fun w args => (Rows.substRangeSpec.pre enc Tryd.prog Tryd.f4 [] false w args ∧ laidMetH Tryd.prog Rows.substRangeRow.laid w) ∧ sizedMet enc Tryd.prog Tryd.f4 (OpenSpec.ofChange Rows.substRangeSpec) false w args) (Rows.substRangeSpec.post enc Tryd.prog Tryd.f4 false true false false) := by
  refine returnsInHanded_of_change_and (C := Tryd.checked) (X := fun w _ => laidMetH Tryd.prog Rows.substRangeRow.laid w) (fun _ _ _ hh h => h.of_heap hh) own started (by kernel_rfl) Tryd.func4
    (ChangeSpec.witness_shaped (enc := enc) (C := Tryd.checked) (os := os) (X := fun w _ => laidMetH Tryd.prog Rows.substRangeRow.laid w) false (World.laidAll Tryd.prog os Rows.substRangeRow.laid) #[.int .i64 0, .int .i64 0] 8 (World.laidAll_os _ _ _)
      (World.shaped_of_ZipB (by kernel_rfl) (by kernel_rfl)) (by kernel_rfl) (by kernel_rfl) (by kernel_rfl)
      (by rw [MakeChecks.laidMetH_plain _ _ _ (by kernel_rfl)]; exact laidMet_laidAll _ (by kernel_rfl) (by kernel_rfl))) ?_
  intro W base args ds gs before hval0 hW _ _ hL _
  have hval : ∀ (j : Nat) t v, Tryd.f4.params[j]? = some t → args[j]? = some v → Value.okWide Tryd.prog W .any base t v := hval0
  have hW' := hW
  obtain ⟨p, q, hA0, hV, rfl, hfz, hnd⟩ := hW
  have hA : DataW.TrodAll enc Tryd.prog W 0 (fun _ => true) true Tryd.f4.params.toList args.toList ds p := hA0
  rw [Tryd.params4] at hA hval
  obtain ⟨v0, vs0, d0, ds0, p0, q0, hargs, rfl, rfl, h0, r0⟩ := trodAll_cons hA
  obtain ⟨v1, vs1, d1, ds1, p1, q1, rfl, rfl, rfl, h1, r1⟩ := trodAll_cons r0
  obtain ⟨rfl, rfl, rfl⟩ := trodAll_nil r1
  obtain rfl : args = #[v0, v1] := by cases args; simp_all
  obtain ⟨rfl, rfl⟩ := trodVars_none hV
  obtain ⟨a0, rfl, rfl, rfl, w0⟩ := open_int Tryd.underlying3 (hval 0 3 v0 rfl rfl) h0
  obtain ⟨a1, rfl, rfl, rfl, w1⟩ := open_int Tryd.underlying3 (hval 1 3 v1 rfl rfl) h1
  clear hA0 hval0
  simp only [List.append_nil] at hW'
  refine (walk a0 a1 w0 w1 W).mono fun e W' ⟨he, hb⟩ => ?_
  subst he
  exact ⟨_, rfl, Ab.post_of_below (pa := []) (pv := []) hW' (fun _ _ _ => (trodAll_cons_mk (shut_bool Tryd.underlying4 _) trodAll_mk0)) (fun sp _ => (trodAll_cons_mk (shut_int Tryd.underlying3 w0) (trodAll_cons_mk (shut_int Tryd.underlying3 w1) trodAll_mk0))) (fun _ _ => rfl) rfl
    hb (ok_one (by kernel_rfl) rfl (okWide_bool_mk Tryd.underlying4 _))⟩

theorem over : Rows.substRangeRow.holds Tryd.pinned (OpenSpec.ofChange Rows.substRangeSpec) :=
  OpenClaim.holds_of_wide 4 Tryd.f4 rfl rfl rfl rfl rfl rfl rfl ⟨rfl, rfl, rfl, rfl, rfl⟩ rfl rfl rfl rfl rfl (by kernel_rfl) Tryd.func4 (by kernel_rfl)
    (of_decide_eq_true (by kernel_rfl)) (by unfold Func.isWrapper; first | (rw [if_pos (by decide +kernel)]; kernel_rfl) | (rw [if_neg (by decide +kernel)]; exact ⟨rfl, rfl⟩))
    (fun os started H enc _ => lifted os started H enc)

theorem proved : Rows.SubstRangeSaid := over

theorem card_holds : Rows.SubstRangeCardSaid :=
  Claim7.holds_tied_plain_at .later [] [.data, .data, .data, .sentinel, .sentinel] true (true, "93690e550e1c647ec283a9aa8d74bc04ed6eeba0faae49ea0debb2759b01e6d1") true proved (fun _ h => by cases h) (by kernel_rfl) (fun _ h => by cases h) substRange_row_tie rfl ⟨rfl, rfl⟩ (by kernel_rfl) rfl
    (fun f fn hf hfn => by
      obtain rfl : f = 4 := Option.some.inj ((show Tryd.prog.funcNamed "yucca/yuccalaw27.SubstRange" = some 4 by kernel_rfl).symm.trans hf) |>.symm
      obtain rfl : fn = Tryd.f4 := (Option.some.inj (Tryd.func4.symm.trans hfn)).symm
      exact ⟨by kernel_rfl, fun j t ht => by
        rw [Tryd.params4] at ht
        have hm : t ∈ [3] := by simpa using Array.mem_of_getElem? ht
        simp only [List.mem_singleton] at hm
        subst hm
        exact (show Tryd.prog.wantsStandIn 3 = false by kernel_rfl)⟩)
    (by kernel_rfl)
#print axioms card_holds
end Go.Proofs.YtfogmpakbdcbbaaDoor.substRange
