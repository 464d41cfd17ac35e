-- Printed for this claim by a turned copy of the print (wip/myprint). Lean checks it. Squeezed. Worded. Tightened.
import Derived.Test.YtnpjlpkbefdnlaaQFnExactBillTermx0
import Derived.Test.YtnpjlpkbefdnlaaQFnExactBillTermx2
import Derived.Test.YtnpjlpkbefdnlaaQFnExactBillTermx3
import Derived.Test.YtnpjlpkbefdnlaaQFnExactBillTermx4
import Derived.Test.YtnpjlpkbefdnlaaQFnExactBillTermx9
import Derived.Test.YtnpjlpkbefdnlaaQFnExactBillTermx15
import Derived.Test.YtnpjlpkbefdnlaaQFnExactBillTermx16
namespace Go.Proofs.Ytnpjlpkbefdnlaa.QFnExactBillTerm
open Go.RowKit Go.Proofs.YtnpjlpkbefdnlaaW.PrintWords Go.Proofs.YtnpjlpkbefdnlaaW.PrintLast Go.Proofs.YtnpjlpkbefdnlaaW.PrintMore
attribute [local go_sem] max2_int min2_int max_two min_two max_three min_three max_four min_four Opens.cell_twice   -- for this text's walks alone
set_option linter.unusedVariables false
set_option linter.unusedSimpArgs false

/-! ### laws_FnExactBillTerm: function 13 -/
mutual
def laws_FnExactBillTerm.j0 : Nat → List (S85) → List (S78) → Int → List (S41) → List (S78) → Int → Bool → Int → List Int → Int → List Int → Option (Bool)
 | 0, _, _, _, _, _, _, _, _, _, _, _ => none
 | k + 1, x1, x6, x7, x9, x10, x11, x53, x399000, x399001, x417000, x417001 => if x53 = true then (none) else ((laws_toHouse.f k x399000 x399001).bind fun bt425 => ((laws_eqHouse.f k x417000 x417001 bt425.1 bt425.2).bind fun t429 => (if t429 = true then ((laws_toStepS.f k x1).bind fun t430 => ((laws_eqStepS.f k x9 t430).bind fun t433 => (if t433 = true then ((laws_markHouse.f k x417000 x417001 1).bind fun bt434 => ((laws_markStepS.f k x9 bt434.1).bind fun bt436 => (if bt436.1 < 0 then (laws_FnExactBillTerm.j1 k x1 x6 x7 x10 true x399000 x399001) else ((laws_eqMarkS.f k x10 x6).bind fun t438 => (if t438 = true then (laws_FnExactBillTerm.j1 k x1 x6 x7 x10 (x11 != x7) x399000 x399001) else (laws_FnExactBillTerm.j1 k x1 x6 x7 x10 true x399000 x399001)))))) else (none)))) else (none))))
def laws_FnExactBillTerm.j1 : Nat → List (S85) → List (S78) → Int → List (S78) → Bool → Int → List Int → Option (Bool)
 | 0, _, _, _, _, _, _, _ => none
 | k + 1, x1, x6, x7, x10, x82, x399000, x399001 => if x82 = true then (none) else ((laws_markMarkS.f k x10 1).bind fun bt439 => ((laws_heldMarkS.f k bt439.2 1).bind fun t441 => (if t441 < 0 then (none) else (if t441 = bt439.1 then ((laws_toHouse.f k x399000 x399001).bind fun bt442 => ((laws_toStepS.f k x1).bind fun t446 => ((impl_BillTerm.f k bt442.1 bt442.2 t446).bind fun bt449 => ((laws_eqMarkS.f k bt449.1 x6).bind fun t453 => (if t453 = true then (laws_FnExactBillTerm.j2 k bt439.2 bt439.1 (bt449.2 != x7)) else (laws_FnExactBillTerm.j2 k bt439.2 bt439.1 true)))))) else (none)))))
def laws_FnExactBillTerm.j2 : Nat → List (S78) → Int → Bool → Option (Bool)
 | 0, _, _, _ => none
 | k + 1, x10, x13, x110 => if x110 = true then (none) else ((laws_heldMarkS.f k x10 1).bind fun t454 => (if t454 < 0 then (none) else (if t454 = x13 then (some true) else (none))))
end
def laws_FnExactBillTerm.f (k : Nat) (a0_0 : Int) (l0_1 : List Int) (l1 : List (S85)) : Option (Bool) := (laws_szHouse.f a0_0 l0_1 1048576).bind fun t399 => (if t399 < 0 then (some true) else ((laws_szStepS.f k l1 t399).bind fun t400 => (if t400 < 0 then (some true) else ((laws_toHouse.f k a0_0 l0_1).bind fun bt401 => ((laws_toStepS.f k l1).bind fun t405 => ((spec_BillTerm.f k bt401.1 bt401.2 t405).bind fun bt408 => ((laws_toHouse.f k a0_0 l0_1).bind fun bt412 => ((laws_toStepS.f k l1).bind fun t417 => ((impl_BillTerm.f k bt412.1 bt412.2 t417).bind fun bt420 => ((laws_eqMarkS.f k bt420.1 bt408.1).bind fun t424 => (if t424 = true then (laws_FnExactBillTerm.j0 k l1 bt408.1 bt408.2 t417 bt420.1 bt420.2 (bt420.2 != bt408.2) a0_0 l0_1 bt412.1 bt412.2) else (laws_FnExactBillTerm.j0 k l1 bt408.1 bt408.2 t417 bt420.1 bt420.2 true a0_0 l0_1 bt412.1 bt412.2))))))))))))
theorem laws_FnExactBillTerm.mono_l : ∀ k, (∀ y0 y1 y2 y3 y4 y5 y6 y7 y8 y9 y10, LeO (laws_FnExactBillTerm.j0 k y0 y1 y2 y3 y4 y5 y6 y7 y8 y9 y10) (laws_FnExactBillTerm.j0 (k + 1) y0 y1 y2 y3 y4 y5 y6 y7 y8 y9 y10)) ∧ (∀ y0 y1 y2 y3 y4 y5 y6, LeO (laws_FnExactBillTerm.j1 k y0 y1 y2 y3 y4 y5 y6) (laws_FnExactBillTerm.j1 (k + 1) y0 y1 y2 y3 y4 y5 y6)) ∧ (∀ y0 y1 y2, LeO (laws_FnExactBillTerm.j2 k y0 y1 y2) (laws_FnExactBillTerm.j2 (k + 1) y0 y1 y2))
 | 0 => ⟨fun _ _ _ _ _ _ _ _ _ _ _ r h => by simp [laws_FnExactBillTerm.j0] at h, fun _ _ _ _ _ _ _ r h => by simp [laws_FnExactBillTerm.j1] at h, fun _ _ _ r h => by simp [laws_FnExactBillTerm.j2] at h⟩
 | k + 1 => by
  obtain ⟨ih0, ih1, ih2⟩ := laws_FnExactBillTerm.mono_l k
  refine ⟨?_, ?_, ?_⟩
  ·intro y0 y1 y2 y3 y4 y5 y6 y7 y8 y9 y10
   unfold laws_FnExactBillTerm.j0
   repeat' first
   | (with_reducible exact ih0 _ _ _ _ _ _ _ _ _ _ _)
   | (with_reducible exact ih1 _ _ _ _ _ _ _)
   | (with_reducible exact ih2 _ _ _)
   | (with_reducible exact impl_BillTerm.mono _ _ _ _)
   | (with_reducible exact laws_eqHouse.mono _ _ _ _ _)
   | (with_reducible exact laws_eqMarkS.mono _ _ _)
   | (with_reducible exact laws_eqStepS.mono _ _ _)
   | (with_reducible exact laws_heldMarkS.mono _ _ _)
   | (with_reducible exact laws_markHouse.mono _ _ _ _)
   | (with_reducible exact laws_markMarkS.mono _ _ _)
   | (with_reducible exact laws_markStepS.mono _ _ _)
   | (with_reducible exact laws_szStepS.mono _ _ _)
   | (with_reducible exact laws_toHouse.mono _ _ _)
   | (with_reducible exact laws_toStepS.mono _ _)
   | (with_reducible exact spec_BillTerm.mono _ _ _ _)
   | (with_reducible exact LeO.refl _)
   | (with_reducible exact LeO.none _)
   | (with_reducible refine LeO.ite ?_ ?_)
   | (with_reducible refine LeO.bind ?_ (fun _ => ?_))
   | exact ih0 _ _ _ _ _ _ _ _ _ _ _
   | exact ih1 _ _ _ _ _ _ _
   | exact ih2 _ _ _
   | exact impl_BillTerm.mono _ _ _ _
   | exact laws_eqHouse.mono _ _ _ _ _
   | exact laws_eqMarkS.mono _ _ _
   | exact laws_eqStepS.mono _ _ _
   | exact laws_heldMarkS.mono _ _ _
   | exact laws_markHouse.mono _ _ _ _
   | exact laws_markMarkS.mono _ _ _
   | exact laws_markStepS.mono _ _ _
   | exact laws_szStepS.mono _ _ _
   | exact laws_toHouse.mono _ _ _
   | exact laws_toStepS.mono _ _
   | exact spec_BillTerm.mono _ _ _ _
   | exact LeO.none _
   | refine LeO.ite ?_ ?_
   | refine LeO.bind ?_ (fun _ => ?_)
  ·intro y0 y1 y2 y3 y4 y5 y6
   unfold laws_FnExactBillTerm.j1
   repeat' first
   | (with_reducible exact ih0 _ _ _ _ _ _ _ _ _ _ _)
   | (with_reducible exact ih1 _ _ _ _ _ _ _)
   | (with_reducible exact ih2 _ _ _)
   | (with_reducible exact impl_BillTerm.mono _ _ _ _)
   | (with_reducible exact laws_eqHouse.mono _ _ _ _ _)
   | (with_reducible exact laws_eqMarkS.mono _ _ _)
   | (with_reducible exact laws_eqStepS.mono _ _ _)
   | (with_reducible exact laws_heldMarkS.mono _ _ _)
   | (with_reducible exact laws_markHouse.mono _ _ _ _)
   | (with_reducible exact laws_markMarkS.mono _ _ _)
   | (with_reducible exact laws_markStepS.mono _ _ _)
   | (with_reducible exact laws_szStepS.mono _ _ _)
   | (with_reducible exact laws_toHouse.mono _ _ _)
   | (with_reducible exact laws_toStepS.mono _ _)
   | (with_reducible exact spec_BillTerm.mono _ _ _ _)
   | (with_reducible exact LeO.refl _)
   | (with_reducible exact LeO.none _)
   | (with_reducible refine LeO.ite ?_ ?_)
   | (with_reducible refine LeO.bind ?_ (fun _ => ?_))
   | exact ih0 _ _ _ _ _ _ _ _ _ _ _
   | exact ih1 _ _ _ _ _ _ _
   | exact ih2 _ _ _
   | exact impl_BillTerm.mono _ _ _ _
   | exact laws_eqHouse.mono _ _ _ _ _
   | exact laws_eqMarkS.mono _ _ _
   | exact laws_eqStepS.mono _ _ _
   | exact laws_heldMarkS.mono _ _ _
   | exact laws_markHouse.mono _ _ _ _
   | exact laws_markMarkS.mono _ _ _
   | exact laws_markStepS.mono _ _ _
   | exact laws_szStepS.mono _ _ _
   | exact laws_toHouse.mono _ _ _
   | exact laws_toStepS.mono _ _
   | exact spec_BillTerm.mono _ _ _ _
   | exact LeO.none _
   | refine LeO.ite ?_ ?_
   | refine LeO.bind ?_ (fun _ => ?_)
  ·intro y0 y1 y2
   unfold laws_FnExactBillTerm.j2
   repeat' first
   | (with_reducible exact ih0 _ _ _ _ _ _ _ _ _ _ _)
   | (with_reducible exact ih1 _ _ _ _ _ _ _)
   | (with_reducible exact ih2 _ _ _)
   | (with_reducible exact impl_BillTerm.mono _ _ _ _)
   | (with_reducible exact laws_eqHouse.mono _ _ _ _ _)
   | (with_reducible exact laws_eqMarkS.mono _ _ _)
   | (with_reducible exact laws_eqStepS.mono _ _ _)
   | (with_reducible exact laws_heldMarkS.mono _ _ _)
   | (with_reducible exact laws_markHouse.mono _ _ _ _)
   | (with_reducible exact laws_markMarkS.mono _ _ _)
   | (with_reducible exact laws_markStepS.mono _ _ _)
   | (with_reducible exact laws_szStepS.mono _ _ _)
   | (with_reducible exact laws_toHouse.mono _ _ _)
   | (with_reducible exact laws_toStepS.mono _ _)
   | (with_reducible exact spec_BillTerm.mono _ _ _ _)
   | (with_reducible exact LeO.refl _)
   | (with_reducible exact LeO.none _)
   | (with_reducible refine LeO.ite ?_ ?_)
   | (with_reducible refine LeO.bind ?_ (fun _ => ?_))
   | exact ih0 _ _ _ _ _ _ _ _ _ _ _
   | exact ih1 _ _ _ _ _ _ _
   | exact ih2 _ _ _
   | exact impl_BillTerm.mono _ _ _ _
   | exact laws_eqHouse.mono _ _ _ _ _
   | exact laws_eqMarkS.mono _ _ _
   | exact laws_eqStepS.mono _ _ _
   | exact laws_heldMarkS.mono _ _ _
   | exact laws_markHouse.mono _ _ _ _
   | exact laws_markMarkS.mono _ _ _
   | exact laws_markStepS.mono _ _ _
   | exact laws_szStepS.mono _ _ _
   | exact laws_toHouse.mono _ _ _
   | exact laws_toStepS.mono _ _
   | exact spec_BillTerm.mono _ _ _ _
   | exact LeO.none _
   | refine LeO.ite ?_ ?_
   | refine LeO.bind ?_ (fun _ => ?_)
theorem laws_FnExactBillTerm.mono : ∀ a0 a1 a2 k, LeO (laws_FnExactBillTerm.f k a0 a1 a2) (laws_FnExactBillTerm.f (k + 1) a0 a1 a2) := by
 intro a0 a1 a2 k
 obtain ⟨ih0, ih1, ih2⟩ := laws_FnExactBillTerm.mono_l k
 unfold laws_FnExactBillTerm.f
 repeat' first
   | (with_reducible exact ih0 _ _ _ _ _ _ _ _ _ _ _)
   | (with_reducible exact ih1 _ _ _ _ _ _ _)
   | (with_reducible exact ih2 _ _ _)
   | (with_reducible exact impl_BillTerm.mono _ _ _ _)
   | (with_reducible exact laws_eqHouse.mono _ _ _ _ _)
   | (with_reducible exact laws_eqMarkS.mono _ _ _)
   | (with_reducible exact laws_eqStepS.mono _ _ _)
   | (with_reducible exact laws_heldMarkS.mono _ _ _)
   | (with_reducible exact laws_markHouse.mono _ _ _ _)
   | (with_reducible exact laws_markMarkS.mono _ _ _)
   | (with_reducible exact laws_markStepS.mono _ _ _)
   | (with_reducible exact laws_szStepS.mono _ _ _)
   | (with_reducible exact laws_toHouse.mono _ _ _)
   | (with_reducible exact laws_toStepS.mono _ _)
   | (with_reducible exact spec_BillTerm.mono _ _ _ _)
   | (with_reducible exact LeO.refl _)
   | (with_reducible exact LeO.none _)
   | (with_reducible refine LeO.ite ?_ ?_)
   | (with_reducible refine LeO.bind ?_ (fun _ => ?_))
   | exact ih0 _ _ _ _ _ _ _ _ _ _ _
   | exact ih1 _ _ _ _ _ _ _
   | exact ih2 _ _ _
   | exact impl_BillTerm.mono _ _ _ _
   | exact laws_eqHouse.mono _ _ _ _ _
   | exact laws_eqMarkS.mono _ _ _
   | exact laws_eqStepS.mono _ _ _
   | exact laws_heldMarkS.mono _ _ _
   | exact laws_markHouse.mono _ _ _ _
   | exact laws_markMarkS.mono _ _ _
   | exact laws_markStepS.mono _ _ _
   | exact laws_szStepS.mono _ _ _
   | exact laws_toHouse.mono _ _ _
   | exact laws_toStepS.mono _ _
   | exact spec_BillTerm.mono _ _ _ _
   | exact LeO.none _
   | refine LeO.ite ?_ ?_
   | refine LeO.bind ?_ (fun _ => ?_)
set_option maxHeartbeats 8000000 in
set_option maxRecDepth 100000 in
theorem laws_FnExactBillTerm.calls (k : Nat) (a0_0 : Int) (A0_1 : Option Addr) (c0_1 : Nat) (l0_1 : List Int) (A1 : Option Addr) (c1 : Nat) (l1 : List (S85)) (r : Bool) (w : World) (hr0_1 : Kd.C (Kd.int .i64) w A0_1 l0_1.length l0_1) (hc0_1 : l0_1.length ≤ c0_1) (hr1 : Kd.C k85 w A1 l1.length l1) (hc1 : l1.length ≤ c1) (h : laws_FnExactBillTerm.f k a0_0 l0_1 l1 = some r) :
  Calls Try.prog 13 #[.agg #[.int .i64 a0_0, .slice A0_1 l0_1.length c0_1], .slice A1 l1.length c1] w fun e w' => e = .returned (.bool r) ∧ Below w.heap.size w w' := by
 have hu44 := Try.underlying44
 have hu25 := Try.underlying25
 have HR0_1 := Aside0.mk hr0_1
 have HC0_1 := Aside0.mk hc0_1
 clear hr0_1 hc0_1
 have HR1 := Aside0.mk hr1
 have HC1 := Aside0.mk hc1
 clear hr1 hc1
 have HB := Aside0.mk (Below.refl w.heap.size w)
 have H : ((laws_szHouse.f a0_0 l0_1 1048576).bind fun t399 => (if t399 < 0 then (some true) else ((laws_szStepS.f k l1 t399).bind fun t400 => (if t400 < 0 then (some true) else ((laws_toHouse.f k a0_0 l0_1).bind fun bt401 => ((laws_toStepS.f k l1).bind fun t405 => ((spec_BillTerm.f k bt401.1 bt401.2 t405).bind fun bt408 => ((laws_toHouse.f k a0_0 l0_1).bind fun bt412 => ((laws_toStepS.f k l1).bind fun t417 => ((impl_BillTerm.f k bt412.1 bt412.2 t417).bind fun bt420 => ((laws_eqMarkS.f k bt420.1 bt408.1).bind fun t424 => (if t424 = true then (laws_FnExactBillTerm.j0 k l1 bt408.1 bt408.2 t417 bt420.1 bt420.2 (bt420.2 != bt408.2) a0_0 l0_1 bt412.1 bt412.2) else (laws_FnExactBillTerm.j0 k l1 bt408.1 bt408.2 t417 bt420.1 bt420.2 true a0_0 l0_1 bt412.1 bt412.2))))))))))))) = some r := h
 clear h
 replace H := Option.bind_eq_some_iff.mp H
 obtain ⟨t399, A30, H⟩ := H
 replace H : (if t399 < 0 then (some true) else ((laws_szStepS.f k l1 t399).bind fun t400 => (if t400 < 0 then (some true) else ((laws_toHouse.f k a0_0 l0_1).bind fun bt401 => ((laws_toStepS.f k l1).bind fun t405 => ((spec_BillTerm.f k bt401.1 bt401.2 t405).bind fun bt408 => ((laws_toHouse.f k a0_0 l0_1).bind fun bt412 => ((laws_toStepS.f k l1).bind fun t417 => ((impl_BillTerm.f k bt412.1 bt412.2 t417).bind fun bt420 => ((laws_eqMarkS.f k bt420.1 bt408.1).bind fun t424 => (if t424 = true then (laws_FnExactBillTerm.j0 k l1 bt408.1 bt408.2 t417 bt420.1 bt420.2 (bt420.2 != bt408.2) a0_0 l0_1 bt412.1 bt412.2) else (laws_FnExactBillTerm.j0 k l1 bt408.1 bt408.2 t417 bt420.1 bt420.2 true a0_0 l0_1 bt412.1 bt412.2)))))))))))) = some r := H
 have A3 := Aside0.mk A30
 clear A30
 by_cases c4 : t399 < 0
 ·rw [if_pos c4] at H
  have c4b0 : decide (t399 < 0) = true := decide_eq_true c4
  clear c4
  obtain rfl := Option.some.inj H
  go_enter Try.func13, Try.ntmps13
  go_wp2_with (first | ((with_reducible refine gate_dst (N := 2) rfl ?_); refine box_event ?hg (N := 2) ?hd (cs := #[.int .i64 a0_0, .slice A0_1 l0_1.length c0_1]) (t := 44) ?hr ?_; (case hd => rfl); (case hg => rfl); (case hr => first | (go_simp; done) | (go_simp; rfl)); intro gb398 hg w5 hbox hb; have n0_ := Aside0.mk (below_step bh hb); have n1_ := Aside0.mk (hbox); have n2_ := Aside0.mk ((gs (W0 := w) hg bh)); have n3_ := Aside0.mk ((gs (W0 := w) hg bh)); clear HB; have HB := n0_; have BK398 := n1_; have GW398 := n2_; have GE398 := n3_; clear n0_ n1_ n2_ n3_ hb hbox hg; have hcz6_0 := cz0 BK398; have hcz6_1 := cz1 BK398; have hfz6_0 := blk_frozen BK398.out 0; have hfz6_1 := blk_frozen BK398.out 1) | ((with_reducible refine gate_callee (f := 26) rfl ?_); refine goesL_ (some 19) rfl rfl Try.func26 kr rfl #[.agg #[.int .i64 a0_0, .slice A0_1 l0_1.length c0_1], .int .i64 1048576] rfl lm ?_; (with_reducible refine (laws_szHouse.calls a0_0 _ _ l0_1 1048576 t399 _ ?side1 ?side2 A3.out).mono ?_); (case side1 => repeat (first | exact (Kd.C_below HR0_1.out HB.out) | (with_reducible refine Kd.C_alloc ?_ _) | (with_reducible refine Kd.C_drewN ?_ _) | (with_reducible refine Kd.C_drew ?_))); (case side2 => exact HC0_1.out); rintro e w7 ⟨rfl, hb⟩; refine ⟨_, rfl, ?_⟩; have n0_ := Aside0.mk (blk_below (bz BK398) hb); have n1_ := Aside0.mk (below_step bh hb); clear BK398 HB; have BK398 := n0_; have HB := n1_; clear n0_ n1_; (try clear hb); (try clear hb2); (try clear hk); (try clear hi)))
  go_ret
  exact ⟨by first | rfl | (simp [errW_none, errW_some] <;> rfl) | (simp [*, errW_none, errW_some] <;> rfl), by exact bh⟩
 ·rw [if_neg c4] at H
  have c4b0 : decide (t399 < 0) = false := decide_eq_false c4
  clear c4
  replace H := Option.bind_eq_some_iff.mp H
  obtain ⟨t400, A80, H⟩ := H
  replace H : (if t400 < 0 then (some true) else ((laws_toHouse.f k a0_0 l0_1).bind fun bt401 => ((laws_toStepS.f k l1).bind fun t405 => ((spec_BillTerm.f k bt401.1 bt401.2 t405).bind fun bt408 => ((laws_toHouse.f k a0_0 l0_1).bind fun bt412 => ((laws_toStepS.f k l1).bind fun t417 => ((impl_BillTerm.f k bt412.1 bt412.2 t417).bind fun bt420 => ((laws_eqMarkS.f k bt420.1 bt408.1).bind fun t424 => (if t424 = true then (laws_FnExactBillTerm.j0 k l1 bt408.1 bt408.2 t417 bt420.1 bt420.2 (bt420.2 != bt408.2) a0_0 l0_1 bt412.1 bt412.2) else (laws_FnExactBillTerm.j0 k l1 bt408.1 bt408.2 t417 bt420.1 bt420.2 true a0_0 l0_1 bt412.1 bt412.2)))))))))) = some r := H
  have A8 := Aside0.mk A80
  clear A80
  by_cases c9 : t400 < 0
  ·rw [if_pos c9] at H
   have c9b0 : decide (t400 < 0) = true := decide_eq_true c9
   clear c9
   obtain rfl := Option.some.inj H
   go_enter Try.func13, Try.ntmps13
   go_wp2_with (first | ((with_reducible refine gate_dst (N := 2) rfl ?_); refine box_event ?hg (N := 2) ?hd (cs := #[.int .i64 a0_0, .slice A0_1 l0_1.length c0_1]) (t := 44) ?hr ?_; (case hd => rfl); (case hg => rfl); (case hr => first | (go_simp; done) | (go_simp; rfl)); intro gb398 hg w10 hbox hb; have n0_ := Aside0.mk (below_step bh hb); have n1_ := Aside0.mk (hbox); have n2_ := Aside0.mk ((gs (W0 := w) hg bh)); have n3_ := Aside0.mk ((gs (W0 := w) hg bh)); clear HB; have HB := n0_; have BK398 := n1_; have GW398 := n2_; have GE398 := n3_; clear n0_ n1_ n2_ n3_ hb hbox hg; have hcz11_0 := cz0 BK398; have hcz11_1 := cz1 BK398; have hfz11_0 := blk_frozen BK398.out 0; have hfz11_1 := blk_frozen BK398.out 1) | ((with_reducible refine gate_callee (f := 26) rfl ?_); refine goesL_ (some 19) rfl rfl Try.func26 kr rfl #[.agg #[.int .i64 a0_0, .slice A0_1 l0_1.length c0_1], .int .i64 1048576] rfl lm ?_; (with_reducible refine (laws_szHouse.calls a0_0 _ _ l0_1 1048576 t399 _ ?side1 ?side2 A3.out).mono ?_); (case side1 => repeat (first | exact (Kd.C_below HR0_1.out HB.out) | (with_reducible refine Kd.C_alloc ?_ _) | (with_reducible refine Kd.C_drewN ?_ _) | (with_reducible refine Kd.C_drew ?_))); (case side2 => exact HC0_1.out); rintro e w12 ⟨rfl, hb⟩; refine ⟨_, rfl, ?_⟩; have n0_ := Aside0.mk (blk_below (bz BK398) hb); have n1_ := Aside0.mk (below_step bh hb); clear BK398 HB; have BK398 := n0_; have HB := n1_; clear n0_ n1_; (try clear hb); (try clear hb2); (try clear hk); (try clear hi)) | ((with_reducible refine gate_callee (f := 27) rfl ?_); refine goesL_ (some 24) rfl rfl Try.func27 kr rfl #[.slice A1 l1.length c1, .int .i64 t399] rfl lm ?_; (with_reducible refine (laws_szStepS.calls k _ _ l1 t399 t400 _ ?side1 ?side2 A8.out).mono ?_); (case side1 => repeat (first | exact (Kd.C_below HR1.out HB.out) | (with_reducible refine Kd.C_alloc ?_ _) | (with_reducible refine Kd.C_drewN ?_ _) | (with_reducible refine Kd.C_drew ?_))); (case side2 => exact HC1.out); rintro e w13 ⟨rfl, hb⟩; refine ⟨_, rfl, ?_⟩; have n0_ := Aside0.mk (blk_below (bz BK398) hb); have n1_ := Aside0.mk (below_step bh hb); clear BK398 HB; have BK398 := n0_; have HB := n1_; clear n0_ n1_; (try clear hb); (try clear hb2); (try clear hk); (try clear hi)))
   go_ret
   exact ⟨by first | rfl | (simp [errW_none, errW_some] <;> rfl) | (simp [*, errW_none, errW_some] <;> rfl), by exact bh⟩
  ·rw [if_neg c9] at H
   have c9b0 : decide (t400 < 0) = false := decide_eq_false c9
   clear c9
   replace H := Option.bind_eq_some_iff.mp H
   obtain ⟨⟨t401, t402⟩, A140, H⟩ := H
   replace H : ((laws_toStepS.f k l1).bind fun t405 => ((spec_BillTerm.f k t401 t402 t405).bind fun bt408 => ((laws_toHouse.f k a0_0 l0_1).bind fun bt412 => ((laws_toStepS.f k l1).bind fun t417 => ((impl_BillTerm.f k bt412.1 bt412.2 t417).bind fun bt420 => ((laws_eqMarkS.f k bt420.1 bt408.1).bind fun t424 => (if t424 = true then (laws_FnExactBillTerm.j0 k l1 bt408.1 bt408.2 t417 bt420.1 bt420.2 (bt420.2 != bt408.2) a0_0 l0_1 bt412.1 bt412.2) else (laws_FnExactBillTerm.j0 k l1 bt408.1 bt408.2 t417 bt420.1 bt420.2 true a0_0 l0_1 bt412.1 bt412.2)))))))) = some r := H
   have A14 := Aside0.mk A140
   clear A140
   replace H := Option.bind_eq_some_iff.mp H
   obtain ⟨t405, A150, H⟩ := H
   replace H : ((spec_BillTerm.f k t401 t402 t405).bind fun bt408 => ((laws_toHouse.f k a0_0 l0_1).bind fun bt412 => ((laws_toStepS.f k l1).bind fun t417 => ((impl_BillTerm.f k bt412.1 bt412.2 t417).bind fun bt420 => ((laws_eqMarkS.f k bt420.1 bt408.1).bind fun t424 => (if t424 = true then (laws_FnExactBillTerm.j0 k l1 bt408.1 bt408.2 t417 bt420.1 bt420.2 (bt420.2 != bt408.2) a0_0 l0_1 bt412.1 bt412.2) else (laws_FnExactBillTerm.j0 k l1 bt408.1 bt408.2 t417 bt420.1 bt420.2 true a0_0 l0_1 bt412.1 bt412.2))))))) = some r := H
   have A15 := Aside0.mk A150
   clear A150
   replace H := Option.bind_eq_some_iff.mp H
   obtain ⟨⟨t408, t411⟩, A160, H⟩ := H
   replace H : ((laws_toHouse.f k a0_0 l0_1).bind fun bt412 => ((laws_toStepS.f k l1).bind fun t417 => ((impl_BillTerm.f k bt412.1 bt412.2 t417).bind fun bt420 => ((laws_eqMarkS.f k bt420.1 t408).bind fun t424 => (if t424 = true then (laws_FnExactBillTerm.j0 k l1 t408 t411 t417 bt420.1 bt420.2 (bt420.2 != t411) a0_0 l0_1 bt412.1 bt412.2) else (laws_FnExactBillTerm.j0 k l1 t408 t411 t417 bt420.1 bt420.2 true a0_0 l0_1 bt412.1 bt412.2)))))) = some r := H
   have A16 := Aside0.mk A160
   clear A160
   replace H := Option.bind_eq_some_iff.mp H
   obtain ⟨⟨t412, t413⟩, A170, H⟩ := H
   replace H : ((laws_toStepS.f k l1).bind fun t417 => ((impl_BillTerm.f k t412 t413 t417).bind fun bt420 => ((laws_eqMarkS.f k bt420.1 t408).bind fun t424 => (if t424 = true then (laws_FnExactBillTerm.j0 k l1 t408 t411 t417 bt420.1 bt420.2 (bt420.2 != t411) a0_0 l0_1 t412 t413) else (laws_FnExactBillTerm.j0 k l1 t408 t411 t417 bt420.1 bt420.2 true a0_0 l0_1 t412 t413))))) = some r := H
   have A17 := Aside0.mk A170
   clear A170
   replace H := Option.bind_eq_some_iff.mp H
   obtain ⟨t417, A180, H⟩ := H
   replace H : ((impl_BillTerm.f k t412 t413 t417).bind fun bt420 => ((laws_eqMarkS.f k bt420.1 t408).bind fun t424 => (if t424 = true then (laws_FnExactBillTerm.j0 k l1 t408 t411 t417 bt420.1 bt420.2 (bt420.2 != t411) a0_0 l0_1 t412 t413) else (laws_FnExactBillTerm.j0 k l1 t408 t411 t417 bt420.1 bt420.2 true a0_0 l0_1 t412 t413)))) = some r := H
   have A18 := Aside0.mk A180
   clear A180
   replace H := Option.bind_eq_some_iff.mp H
   obtain ⟨⟨t420, t423⟩, A190, H⟩ := H
   replace H : ((laws_eqMarkS.f k t420 t408).bind fun t424 => (if t424 = true then (laws_FnExactBillTerm.j0 k l1 t408 t411 t417 t420 t423 (t423 != t411) a0_0 l0_1 t412 t413) else (laws_FnExactBillTerm.j0 k l1 t408 t411 t417 t420 t423 true a0_0 l0_1 t412 t413))) = some r := H
   have A19 := Aside0.mk A190
   clear A190
   have HC20 := Aside0.mk H
   clear H
   go_enter Try.func13, Try.ntmps13
   go_upto_region 12 with (first | ((with_reducible refine gate_dst (N := 2) rfl ?_); refine box_event ?hg (N := 2) ?hd (cs := #[.int .i64 a0_0, .slice A0_1 l0_1.length c0_1]) (t := 44) ?hr ?_; (case hd => rfl); (case hg => rfl); (case hr => first | (go_simp; done) | (go_simp; rfl)); intro gb398 hg w21 hbox hb; have n0_ := Aside0.mk (below_step bh hb); have n1_ := Aside0.mk (hbox); have n2_ := Aside0.mk ((gs (W0 := w) hg bh)); have n3_ := Aside0.mk ((gs (W0 := w) hg bh)); clear HB; have HB := n0_; have BK398 := n1_; have GW398 := n2_; have GE398 := n3_; clear n0_ n1_ n2_ n3_ hb hbox hg; have hcz22_0 := cz0 BK398; have hcz22_1 := cz1 BK398; have hfz22_0 := blk_frozen BK398.out 0; have hfz22_1 := blk_frozen BK398.out 1) | ((with_reducible refine gate_callee (f := 26) rfl ?_); refine goesL_ (some 19) rfl rfl Try.func26 kr rfl #[.agg #[.int .i64 a0_0, .slice A0_1 l0_1.length c0_1], .int .i64 1048576] rfl lm ?_; (with_reducible refine (laws_szHouse.calls a0_0 _ _ l0_1 1048576 t399 _ ?side1 ?side2 A3.out).mono ?_); (case side1 => repeat (first | exact (Kd.C_below HR0_1.out HB.out) | (with_reducible refine Kd.C_alloc ?_ _) | (with_reducible refine Kd.C_drewN ?_ _) | (with_reducible refine Kd.C_drew ?_))); (case side2 => exact HC0_1.out); rintro e w23 ⟨rfl, hb⟩; refine ⟨_, rfl, ?_⟩; have n0_ := Aside0.mk (blk_below (bz BK398) hb); have n1_ := Aside0.mk (below_step bh hb); clear BK398 HB; have BK398 := n0_; have HB := n1_; clear n0_ n1_; (try clear hb); (try clear hb2); (try clear hk); (try clear hi)) | ((with_reducible refine gate_callee (f := 27) rfl ?_); refine goesL_ (some 24) rfl rfl Try.func27 kr rfl #[.slice A1 l1.length c1, .int .i64 t399] rfl lm ?_; (with_reducible refine (laws_szStepS.calls k _ _ l1 t399 t400 _ ?side1 ?side2 A8.out).mono ?_); (case side1 => repeat (first | exact (Kd.C_below HR1.out HB.out) | (with_reducible refine Kd.C_alloc ?_ _) | (with_reducible refine Kd.C_drewN ?_ _) | (with_reducible refine Kd.C_drew ?_))); (case side2 => exact HC1.out); rintro e w24 ⟨rfl, hb⟩; refine ⟨_, rfl, ?_⟩; have n0_ := Aside0.mk (blk_below (bz BK398) hb); have n1_ := Aside0.mk (below_step bh hb); clear BK398 HB; have BK398 := n0_; have HB := n1_; clear n0_ n1_; (try clear hb); (try clear hb2); (try clear hk); (try clear hi); have hcz25_0 := cz0 BK398; have hcz25_1 := cz1 BK398; have hfz25_0 := blk_frozen BK398.out 0; have hfz25_1 := blk_frozen BK398.out 1) | ((with_reducible refine gate_callee (f := 28) rfl ?_); refine goesL_ (some 29) rfl rfl Try.func28 kr rfl #[.agg #[.int .i64 a0_0, .slice A0_1 l0_1.length c0_1]] rfl lm ?_; (with_reducible refine (laws_toHouse.calls k a0_0 _ _ l0_1 t401 t402 _ ?side1 ?side2 A14.out).mono ?_); (case side1 => repeat (first | exact (Kd.C_below HR0_1.out HB.out) | (with_reducible refine Kd.C_alloc ?_ _) | (with_reducible refine Kd.C_drewN ?_ _) | (with_reducible refine Kd.C_drew ?_))); (case side2 => exact HC0_1.out); rintro e w26 ⟨v403, rfl, ho0, hb⟩; refine ⟨_, rfl, ?_⟩; have n0_ := Aside0.mk (Kd.R_lower ho0 (below_size bh)); have n1_ := Aside0.mk (blk_below (bz BK398) hb); have n2_ := Aside0.mk (below_step bh hb); clear BK398 HB; have HO404 := n0_; have BK398 := n1_; have HB := n2_; clear n0_ n1_ n2_; (try clear hb); (try clear hb2); (try clear hk); (try clear hi); (try clear ho0)) | ((with_reducible refine gate_callee (f := 29) rfl ?_); refine goesL_ (some 31) rfl rfl Try.func29 kr rfl #[.slice A1 l1.length c1] rfl lm ?_; (with_reducible refine (laws_toStepS.calls k _ _ l1 t405 _ ?side1 ?side2 A15.out).mono ?_); (case side1 => repeat (first | exact (Kd.C_below HR1.out HB.out) | (with_reducible refine Kd.C_alloc ?_ _) | (with_reducible refine Kd.C_drewN ?_ _) | (with_reducible refine Kd.C_drew ?_))); (case side2 => exact HC1.out); rintro e w27 ⟨v406, rfl, ho0, hb⟩; refine ⟨_, rfl, ?_⟩; have n0_ := Aside0.mk (Kd.R_below (rz HO404) hb); have n1_ := Aside0.mk (Kd.S_lower ho0 (below_size bh)); have n2_ := Aside0.mk (blk_below (bz BK398) hb); have n3_ := Aside0.mk (below_step bh hb); clear HO404 BK398 HB; have HO404 := n0_; have HO407 := n1_; have BK398 := n2_; have HB := n3_; clear n0_ n1_ n2_ n3_; (try clear hb); (try clear hb2); (try clear hk); (try clear hi); (try clear ho0); obtain ⟨Ao28, co28, eo28⟩ := Kd.R_slice HO404.out; subst eo28; obtain ⟨Ao29, co29, eo29⟩ := Kd.S_slice HO407.out; subst eo29) | ((with_reducible refine gate_callee (f := 43) rfl ?_); refine goesL_ (some 32) rfl rfl Try.func43 kr rfl #[.agg #[.int .i64 t401, .slice Ao28 t402.length co28], .slice Ao29 t405.length co29] rfl lm ?_; (with_reducible refine (spec_BillTerm.calls k t401 _ _ t402 _ _ t405 t408 t411 _ ?side1 ?side2 ?side3 ?side4 A16.out).mono ?_); (case side1 => repeat (first | exact (Kd.R_reads' HO404.out).2.2 | (with_reducible refine Kd.C_alloc ?_ _) | (with_reducible refine Kd.C_drewN ?_ _) | (with_reducible refine Kd.C_drew ?_))); (case side2 => exact (Kd.R_reads' HO404.out).2.1); (case side3 => repeat (first | exact (Kd.S_reads' HO407.out).2.2 | (with_reducible refine Kd.C_alloc ?_ _) | (with_reducible refine Kd.C_drewN ?_ _) | (with_reducible refine Kd.C_drew ?_))); (case side4 => exact (Kd.S_reads' HO407.out).2.1); rintro e w30 ⟨v409, rfl, ho0, hb⟩; refine ⟨_, rfl, ?_⟩; have n0_ := Aside0.mk (Kd.R_below (rz HO404) hb); have n1_ := Aside0.mk (Kd.S_elder' (sz HO407) (Kd.R_base ho0) hb); have n2_ := Aside0.mk (Kd.R_lower ho0 (below_size bh)); have n3_ := Aside0.mk (blk_below (bz BK398) hb); have n4_ := Aside0.mk (below_step bh hb); clear HO404 HO407 BK398 HB; have HO404 := n0_; have HO407 := n1_; have HO410 := n2_; have BK398 := n3_; have HB := n4_; clear n0_ n1_ n2_ n3_ n4_; (try clear hb); (try clear hb2); (try clear hk); (try clear hi); (try clear ho0); have hcz31_0 := cz0 BK398; have hcz31_1 := cz1 BK398; have hfz31_0 := blk_frozen BK398.out 0; have hfz31_1 := blk_frozen BK398.out 1) | ((with_reducible refine gate_callee (f := 28) rfl ?_); refine goesL_ (some 36) rfl rfl Try.func28 kr rfl #[.agg #[.int .i64 a0_0, .slice A0_1 l0_1.length c0_1]] rfl lm ?_; (with_reducible refine (laws_toHouse.calls k a0_0 _ _ l0_1 t412 t413 _ ?side1 ?side2 A17.out).mono ?_); (case side1 => repeat (first | exact (Kd.C_below HR0_1.out HB.out) | (with_reducible refine Kd.C_alloc ?_ _) | (with_reducible refine Kd.C_drewN ?_ _) | (with_reducible refine Kd.C_drew ?_))); (case side2 => exact HC0_1.out); rintro e w32 ⟨v414, rfl, ho0, hb⟩; refine ⟨_, rfl, ?_⟩; have n0_ := Aside0.mk (Kd.R_elder' (rz HO404) (Kd.R_base ho0) hb); have n1_ := Aside0.mk (Kd.S_below (sz HO407) hb); have n2_ := Aside0.mk (Kd.R_below (rz HO410) hb); have n3_ := Aside0.mk (Kd.R_lower (Kd.R_new' ho0 (Kd.R_lt (rz HO404))) (below_size bh)); have n4_ := Aside0.mk (blk_below (bz BK398) hb); have n5_ := Aside0.mk (below_step bh hb); clear HO404 HO407 HO410 BK398 HB; have HO404 := n0_; have HO407 := n1_; have HO410 := n2_; have HO415 := n3_; have BK398 := n4_; have HB := n5_; clear n0_ n1_ n2_ n3_ n4_ n5_; (try clear hb); (try clear hb2); (try clear hk); (try clear hi); (try clear ho0)) | ((with_reducible refine gate_dst (N := 8) rfl ?_); refine box_event ?hg (N := 8) ?hd (cs := #[.int .i64 0, .slice none 0 0]) (t := 25) ?hr ?_; (case hd => rfl); (case hg => rfl); (case hr => first | (go_simp; done) | (go_simp; rfl)); intro gb416 hg w33 hbox hb; have n0_ := Aside0.mk (Kd.R_below (rz HO404) hb); have n1_ := Aside0.mk (Kd.S_below (sz HO407) hb); have n2_ := Aside0.mk (Kd.R_below (rz HO410) hb); have n3_ := Aside0.mk (Kd.R_below (rz HO415) hb); have n4_ := Aside0.mk (blk_below (bz BK398) hb); have n5_ := Aside0.mk (below_step bh hb); have n6_ := Aside0.mk (hbox); have n7_ := Aside0.mk ((gs (W0 := w) hg bh)); have n8_ := Aside0.mk ((gs (W0 := w) hg bh)); have n9_ := Aside0.mk ((gn hg (bz BK398))); have n10_ := Aside0.mk ((gm hg (bz BK398))); clear HO404 HO407 HO410 HO415 BK398 HB; have HO404 := n0_; have HO407 := n1_; have HO410 := n2_; have HO415 := n3_; have BK398 := n4_; have HB := n5_; have BK416 := n6_; have GW416 := n7_; have GE416 := n8_; have NB398_416 := n9_; have NB416_398 := n10_; clear n0_ n1_ n2_ n3_ n4_ n5_ n6_ n7_ n8_ n9_ n10_ hb hbox hg; have hnb34 := NB416_398.out; have hnc34 := NB398_416.out; have hcz35_0 := cz0 BK416; have hcz35_1 := cz1 BK416; have hfz35_0 := blk_frozen BK416.out 0; have hfz35_1 := blk_frozen BK416.out 1; obtain ⟨Ao36, co36, eo36⟩ := Kd.R_slice HO415.out; subst eo36) | ((with_reducible refine gate_callee (f := 29) rfl ?_); refine goesL_ (some 38) rfl rfl Try.func29 kr rfl #[.slice A1 l1.length c1] rfl lm ?_; (with_reducible refine (laws_toStepS.calls k _ _ l1 t417 _ ?side1 ?side2 A18.out).mono ?_); (case side1 => exact Kd.C_below HR1.out bh); (case side2 => exact HC1.out); rintro e w37 ⟨v418, rfl, ho0, hb⟩; refine ⟨_, rfl, ?_⟩; have n0_ := Aside0.mk (Kd.R_below (fR HO404 BK416) hb); have n1_ := Aside0.mk (Kd.S_elder' (fS HO407 BK416) (Kd.S_base ho0) hb); have n2_ := Aside0.mk (Kd.R_below (fR HO410 BK416) hb); have n3_ := Aside0.mk (Kd.R_below (fR HO415 BK416) hb); have n4_ := Aside0.mk (Kd.S_lower (Kd.S_new' (Kd.S_new' ho0 (Kd.S_lt (fS HO407 BK416))) (Kd.R_lt (fR HO410 BK416))) (below_size bh)); have n5_ := Aside0.mk (blk_below (g := gb398) (o := .cells #[.int .i64 a0_0, .slice A0_1 l0_1.length c0_1] 44 (0, 0)) (bf NB398_416 BK398) hb); have n6_ := Aside0.mk (blk_below (g := gb416) (o := .cells #[.int .i64 t412, .slice Ao36 t413.length co36] 25 (0, 0)) (bp BK416) hb); have n7_ := Aside0.mk (below_step bh hb); clear HO404 HO407 HO410 HO415 BK398 BK416 HB; have HO404 := n0_; have HO407 := n1_; have HO410 := n2_; have HO415 := n3_; have HO419 := n4_; have BK398 := n5_; have BK416 := n6_; have HB := n7_; clear n0_ n1_ n2_ n3_ n4_ n5_ n6_ n7_; (try clear hb); (try clear hb2); (try clear hk); (try clear hi); (try clear ho0); have hcz38_0 := cz0 BK416; have hcz38_1 := cz1 BK416; have hfz38_0 := blk_frozen BK416.out 0; have hfz38_1 := blk_frozen BK416.out 1; obtain ⟨Ao39, co39, eo39⟩ := Kd.S_slice HO419.out; subst eo39) | ((with_reducible refine gate_callee (f := 42) rfl ?_); refine goesL_ (some 42) rfl rfl Try.func42 kr rfl #[.agg #[.int .i64 t412, .slice Ao36 t413.length co36], .slice Ao39 t417.length co39] rfl lm ?_; (with_reducible refine (impl_BillTerm.calls k t412 _ _ t413 _ _ t417 t420 t423 _ ?side1 ?side2 ?side3 ?side4 A19.out).mono ?_); (case side1 => repeat (first | exact (Kd.R_reads' HO415.out).2.2 | (with_reducible refine Kd.C_alloc ?_ _) | (with_reducible refine Kd.C_drewN ?_ _) | (with_reducible refine Kd.C_drew ?_))); (case side2 => exact (Kd.R_reads' HO415.out).2.1); (case side3 => repeat (first | exact (Kd.S_reads' HO419.out).2.2 | (with_reducible refine Kd.C_alloc ?_ _) | (with_reducible refine Kd.C_drewN ?_ _) | (with_reducible refine Kd.C_drew ?_))); (case side4 => exact (Kd.S_reads' HO419.out).2.1); rintro e w40 ⟨v421, rfl, ho0, hb⟩; refine ⟨_, rfl, ?_⟩; have n0_ := Aside0.mk (Kd.R_below (rz HO404) hb); have n1_ := Aside0.mk (Kd.S_elder' (sz HO407) (Kd.R_base ho0) hb); have n2_ := Aside0.mk (Kd.R_elder' (rz HO410) (Kd.R_base ho0) hb); have n3_ := Aside0.mk (Kd.R_below (rz HO415) hb); have n4_ := Aside0.mk (Kd.S_elder' (sz HO419) (Kd.R_base ho0) hb); have n5_ := Aside0.mk (Kd.R_lower (Kd.R_new' ho0 (Kd.R_lt (rz HO410))) (below_size bh)); have n6_ := Aside0.mk (blk_below (bz BK398) hb); have n7_ := Aside0.mk (blk_below (bz BK416) hb); have n8_ := Aside0.mk (below_step bh hb); clear HO404 HO407 HO410 HO415 HO419 BK398 BK416 HB; have HO404 := n0_; have HO407 := n1_; have HO410 := n2_; have HO415 := n3_; have HO419 := n4_; have HO422 := n5_; have BK398 := n6_; have BK416 := n7_; have HB := n8_; clear n0_ n1_ n2_ n3_ n4_ n5_ n6_ n7_ n8_; (try clear hb); (try clear hb2); (try clear hk); (try clear hi); (try clear ho0)))
   (try simp only [Act.put, List.setIfInBounds_toArray, List.set_cons_zero, List.set_cons_succ])
   go_cut [53] (fun v53 wc => ∃ (kq : Nat) (x53_19 : Bool), v53 = .bool x53_19 ∧ Aside0 (laws_FnExactBillTerm.j0 kq l1 t408 t411 t417 t420 t423 x53_19 a0_0 l0_1 t412 t413 = some r) ∧ Aside0 (kq ≤ k) ∧ Aside0 (Kd.R k78 78 wc w.heap.size (fun k_ => some k_ ≠ (v421 : Value).ownBlock) v409 t408) ∧ Aside0 (Kd.S k41 41 wc w.heap.size (fun k_ => some k_ ≠ (v409 : Value).ownBlock ∧ some k_ ≠ (v421 : Value).ownBlock) (.slice Ao39 t417.length co39) t417) ∧ Aside0 (Kd.R k78 78 wc w.heap.size (fun k_ => some k_ ≠ (v409 : Value).ownBlock) v421 t420) ∧ Aside0 (Kd.R (Kd.int .i64) 3 wc w.heap.size (fun _ => True) (.slice Ao36 t413.length co36) t413) ∧ Aside0 (wc.heap[gb398]? = some (.cells #[.int .i64 a0_0, (.slice A0_1 l0_1.length c0_1)] 44 (0, 0))) ∧ Aside0 (wc.heap[gb416]? = some (.cells #[.int .i64 t412, (.slice Ao36 t413.length co36)] 25 (0, 0))) ∧ Aside0 (Below w.heap.size w wc))
   case first =>
    have H := HC20.out
    clear HC20
    replace H := Option.bind_eq_some_iff.mp H
    obtain ⟨t424, A410, H⟩ := H
    replace H : (if t424 = true then (laws_FnExactBillTerm.j0 k l1 t408 t411 t417 t420 t423 (t423 != t411) a0_0 l0_1 t412 t413) else (laws_FnExactBillTerm.j0 k l1 t408 t411 t417 t420 t423 true a0_0 l0_1 t412 t413)) = some r := H
    have A41 := Aside0.mk A410
    clear A410
    by_cases c42 : t424 = true
    ·subst c42
     have H1 : (laws_FnExactBillTerm.j0 k l1 t408 t411 t417 t420 t423 (t423 != t411) a0_0 l0_1 t412 t413) = some r := by rw [if_pos rfl] at H; exact H
     clear H
     have H := H1
     clear H1
     have H' := Aside0.mk H
     clear H
     obtain ⟨Ao43, co43, eo43⟩ := Kd.R_slice HO422.out
     subst eo43
     obtain ⟨Ao44, co44, eo44⟩ := Kd.R_slice HO410.out
     subst eo44
     go_wp2_with (first | ((with_reducible refine gate_callee (f := 46) rfl ?_); refine goesL_ (some 47) rfl rfl Try.func46 kr rfl #[.slice Ao43 t420.length co43, .slice Ao44 t408.length co44] rfl lm ?_; (with_reducible refine (laws_eqMarkS.calls k _ _ t420 _ _ t408 true _ ?side1 ?side2 ?side3 ?side4 A41.out).mono ?_); (case side1 => repeat (first | exact (Kd.R_reads' HO422.out).2.2 | (with_reducible refine Kd.C_alloc ?_ _) | (with_reducible refine Kd.C_drewN ?_ _) | (with_reducible refine Kd.C_drew ?_))); (case side2 => exact (Kd.R_reads' HO422.out).2.1); (case side3 => repeat (first | exact (Kd.R_reads' HO410.out).2.2 | (with_reducible refine Kd.C_alloc ?_ _) | (with_reducible refine Kd.C_drewN ?_ _) | (with_reducible refine Kd.C_drew ?_))); (case side4 => exact (Kd.R_reads' HO410.out).2.1); rintro e w45 ⟨rfl, hb⟩; refine ⟨_, rfl, ?_⟩; have n0_ := Aside0.mk (Kd.R_below (rz HO404) hb); have n1_ := Aside0.mk (Kd.S_below (sz HO407) hb); have n2_ := Aside0.mk (Kd.R_below (rz HO410) hb); have n3_ := Aside0.mk (Kd.R_below (rz HO415) hb); have n4_ := Aside0.mk (Kd.S_below (sz HO419) hb); have n5_ := Aside0.mk (Kd.R_below (rz HO422) hb); have n6_ := Aside0.mk (blk_below (bz BK398) hb); have n7_ := Aside0.mk (blk_below (bz BK416) hb); have n8_ := Aside0.mk (below_step bh hb); clear HO404 HO407 HO410 HO415 HO419 HO422 BK398 BK416 HB; have HO404 := n0_; have HO407 := n1_; have HO410 := n2_; have HO415 := n3_; have HO419 := n4_; have HO422 := n5_; have BK398 := n6_; have BK416 := n7_; have HB := n8_; clear n0_ n1_ n2_ n3_ n4_ n5_ n6_ n7_ n8_; (try clear hb); (try clear hb2); (try clear hk); (try clear hi)))
     go_meet
     case rel => exact ⟨_, ((t423 != t411)), (by first | rfl | (simp; done) | (simp [*]; done)), H', ⟨by first | omega | exact Nat.le_refl _⟩, ⟨mR HO410⟩, ⟨mS HO419⟩, ⟨mR HO422⟩, ⟨mR HO415⟩, ⟨bz BK398⟩, ⟨bz BK416⟩, ⟨by exact bh⟩⟩
    ·replace c42 := Bool.eq_false_iff.mpr c42
     subst c42
     have H1 : (laws_FnExactBillTerm.j0 k l1 t408 t411 t417 t420 t423 true a0_0 l0_1 t412 t413) = some r := by rw [if_neg (show ¬ (false = true) by decide)] at H; exact H
     clear H
     have H := H1
     clear H1
     have H' := Aside0.mk H
     clear H
     obtain ⟨Ao46, co46, eo46⟩ := Kd.R_slice HO422.out
     subst eo46
     obtain ⟨Ao47, co47, eo47⟩ := Kd.R_slice HO410.out
     subst eo47
     go_wp2_with (first | ((with_reducible refine gate_callee (f := 46) rfl ?_); refine goesL_ (some 47) rfl rfl Try.func46 kr rfl #[.slice Ao46 t420.length co46, .slice Ao47 t408.length co47] rfl lm ?_; (with_reducible refine (laws_eqMarkS.calls k _ _ t420 _ _ t408 false _ ?side1 ?side2 ?side3 ?side4 A41.out).mono ?_); (case side1 => repeat (first | exact (Kd.R_reads' HO422.out).2.2 | (with_reducible refine Kd.C_alloc ?_ _) | (with_reducible refine Kd.C_drewN ?_ _) | (with_reducible refine Kd.C_drew ?_))); (case side2 => exact (Kd.R_reads' HO422.out).2.1); (case side3 => repeat (first | exact (Kd.R_reads' HO410.out).2.2 | (with_reducible refine Kd.C_alloc ?_ _) | (with_reducible refine Kd.C_drewN ?_ _) | (with_reducible refine Kd.C_drew ?_))); (case side4 => exact (Kd.R_reads' HO410.out).2.1); rintro e w48 ⟨rfl, hb⟩; refine ⟨_, rfl, ?_⟩; have n0_ := Aside0.mk (Kd.R_below (rz HO404) hb); have n1_ := Aside0.mk (Kd.S_below (sz HO407) hb); have n2_ := Aside0.mk (Kd.R_below (rz HO410) hb); have n3_ := Aside0.mk (Kd.R_below (rz HO415) hb); have n4_ := Aside0.mk (Kd.S_below (sz HO419) hb); have n5_ := Aside0.mk (Kd.R_below (rz HO422) hb); have n6_ := Aside0.mk (blk_below (bz BK398) hb); have n7_ := Aside0.mk (blk_below (bz BK416) hb); have n8_ := Aside0.mk (below_step bh hb); clear HO404 HO407 HO410 HO415 HO419 HO422 BK398 BK416 HB; have HO404 := n0_; have HO407 := n1_; have HO410 := n2_; have HO415 := n3_; have HO419 := n4_; have HO422 := n5_; have BK398 := n6_; have BK416 := n7_; have HB := n8_; clear n0_ n1_ n2_ n3_ n4_ n5_ n6_ n7_ n8_; (try clear hb); (try clear hb2); (try clear hk); (try clear hi)))
     go_meet
     case rel => exact ⟨_, (true), (by first | rfl | (simp; done) | (simp [*]; done)), H', ⟨by first | omega | exact Nat.le_refl _⟩, ⟨mR HO410⟩, ⟨mS HO419⟩, ⟨mR HO422⟩, ⟨mR HO415⟩, ⟨bz BK398⟩, ⟨bz BK416⟩, ⟨by exact bh⟩⟩
   case rest =>
    clear HC20
    try clear c1
    try clear c2
    try clear p2
    try clear c3
    try clear c4
    try clear c4b0
    try clear c9
    try clear c9b0
    try clear c13
    try clear c26
    try clear c27
    try clear c28
    try clear c29
    try clear c34
    try clear c42
    try clear c43
    try clear c46
    try clear hcz11_0
    try clear hcz11_1
    try clear hcz22_0
    try clear hcz22_1
    try clear hcz25_0
    try clear hcz25_1
    try clear hcz31_0
    try clear hcz31_1
    try clear hcz35_0
    try clear hcz35_1
    try clear hcz38_0
    try clear hcz38_1
    try clear hcz6_0
    try clear hcz6_1
    try clear hfz11_0
    try clear hfz11_1
    try clear hfz22_0
    try clear hfz22_1
    try clear hfz25_0
    try clear hfz25_1
    try clear hfz31_0
    try clear hfz31_1
    try clear hfz35_0
    try clear hfz35_1
    try clear hfz38_0
    try clear hfz38_1
    try clear hfz6_0
    try clear hfz6_1
    obtain ⟨kq, x53_19, rfl, HA, HJ19, HO_6, HO_9, HO_10, HO_417001, BK398, BK416, HB⟩ := hcut
    cases kq with
    | zero => exact absurd HA.out (by simp [laws_FnExactBillTerm.j0])
    | succ kj19 =>
     have H := HA.out
     clear HA
     simp only [laws_FnExactBillTerm.j0] at H
     by_cases c49 : x53_19 = true
     ·subst c49
      have H1 : (none) = some r := by rw [if_pos rfl] at H; exact H
      clear H
      have H := H1
      clear H1
      exact absurd H (by simp)
     ·replace c49 := Bool.eq_false_iff.mpr c49
      subst c49
      have H1 : ((laws_toHouse.f kj19 a0_0 l0_1).bind fun bt425 => ((laws_eqHouse.f kj19 t412 t413 bt425.1 bt425.2).bind fun t429 => (if t429 = true then ((laws_toStepS.f kj19 l1).bind fun t430 => ((laws_eqStepS.f kj19 t417 t430).bind fun t433 => (if t433 = true then ((laws_markHouse.f kj19 t412 t413 1).bind fun bt434 => ((laws_markStepS.f kj19 t417 bt434.1).bind fun bt436 => (if bt436.1 < 0 then (laws_FnExactBillTerm.j1 kj19 l1 t408 t411 t420 true a0_0 l0_1) else ((laws_eqMarkS.f kj19 t420 t408).bind fun t438 => (if t438 = true then (laws_FnExactBillTerm.j1 kj19 l1 t408 t411 t420 (t423 != t411) a0_0 l0_1) else (laws_FnExactBillTerm.j1 kj19 l1 t408 t411 t420 true a0_0 l0_1)))))) else (none)))) else (none)))) = some r := by rw [if_neg (show ¬ (false = true) by decide)] at H; exact H
      clear H
      have H := H1
      clear H1
      replace H := Option.bind_eq_some_iff.mp H
      obtain ⟨⟨t425, t426⟩, A500, H⟩ := H
      replace H : ((laws_eqHouse.f kj19 t412 t413 t425 t426).bind fun t429 => (if t429 = true then ((laws_toStepS.f kj19 l1).bind fun t430 => ((laws_eqStepS.f kj19 t417 t430).bind fun t433 => (if t433 = true then ((laws_markHouse.f kj19 t412 t413 1).bind fun bt434 => ((laws_markStepS.f kj19 t417 bt434.1).bind fun bt436 => (if bt436.1 < 0 then (laws_FnExactBillTerm.j1 kj19 l1 t408 t411 t420 true a0_0 l0_1) else ((laws_eqMarkS.f kj19 t420 t408).bind fun t438 => (if t438 = true then (laws_FnExactBillTerm.j1 kj19 l1 t408 t411 t420 (t423 != t411) a0_0 l0_1) else (laws_FnExactBillTerm.j1 kj19 l1 t408 t411 t420 true a0_0 l0_1)))))) else (none)))) else (none))) = some r := H
      have A50 := Aside0.mk A500
      clear A500
      replace H := Option.bind_eq_some_iff.mp H
      obtain ⟨t429, A510, H⟩ := H
      replace H : (if t429 = true then ((laws_toStepS.f kj19 l1).bind fun t430 => ((laws_eqStepS.f kj19 t417 t430).bind fun t433 => (if t433 = true then ((laws_markHouse.f kj19 t412 t413 1).bind fun bt434 => ((laws_markStepS.f kj19 t417 bt434.1).bind fun bt436 => (if bt436.1 < 0 then (laws_FnExactBillTerm.j1 kj19 l1 t408 t411 t420 true a0_0 l0_1) else ((laws_eqMarkS.f kj19 t420 t408).bind fun t438 => (if t438 = true then (laws_FnExactBillTerm.j1 kj19 l1 t408 t411 t420 (t423 != t411) a0_0 l0_1) else (laws_FnExactBillTerm.j1 kj19 l1 t408 t411 t420 true a0_0 l0_1)))))) else (none)))) else (none)) = some r := H
      have A51 := Aside0.mk A510
      clear A510
      by_cases c52 : t429 = true
      ·subst c52
       have H1 : ((laws_toStepS.f kj19 l1).bind fun t430 => ((laws_eqStepS.f kj19 t417 t430).bind fun t433 => (if t433 = true then ((laws_markHouse.f kj19 t412 t413 1).bind fun bt434 => ((laws_markStepS.f kj19 t417 bt434.1).bind fun bt436 => (if bt436.1 < 0 then (laws_FnExactBillTerm.j1 kj19 l1 t408 t411 t420 true a0_0 l0_1) else ((laws_eqMarkS.f kj19 t420 t408).bind fun t438 => (if t438 = true then (laws_FnExactBillTerm.j1 kj19 l1 t408 t411 t420 (t423 != t411) a0_0 l0_1) else (laws_FnExactBillTerm.j1 kj19 l1 t408 t411 t420 true a0_0 l0_1)))))) else (none)))) = some r := by rw [if_pos rfl] at H; exact H
       clear H
       have H := H1
       clear H1
       replace H := Option.bind_eq_some_iff.mp H
       obtain ⟨t430, A530, H⟩ := H
       replace H : ((laws_eqStepS.f kj19 t417 t430).bind fun t433 => (if t433 = true then ((laws_markHouse.f kj19 t412 t413 1).bind fun bt434 => ((laws_markStepS.f kj19 t417 bt434.1).bind fun bt436 => (if bt436.1 < 0 then (laws_FnExactBillTerm.j1 kj19 l1 t408 t411 t420 true a0_0 l0_1) else ((laws_eqMarkS.f kj19 t420 t408).bind fun t438 => (if t438 = true then (laws_FnExactBillTerm.j1 kj19 l1 t408 t411 t420 (t423 != t411) a0_0 l0_1) else (laws_FnExactBillTerm.j1 kj19 l1 t408 t411 t420 true a0_0 l0_1)))))) else (none))) = some r := H
       have A53 := Aside0.mk A530
       clear A530
       replace H := Option.bind_eq_some_iff.mp H
       obtain ⟨t433, A540, H⟩ := H
       replace H : (if t433 = true then ((laws_markHouse.f kj19 t412 t413 1).bind fun bt434 => ((laws_markStepS.f kj19 t417 bt434.1).bind fun bt436 => (if bt436.1 < 0 then (laws_FnExactBillTerm.j1 kj19 l1 t408 t411 t420 true a0_0 l0_1) else ((laws_eqMarkS.f kj19 t420 t408).bind fun t438 => (if t438 = true then (laws_FnExactBillTerm.j1 kj19 l1 t408 t411 t420 (t423 != t411) a0_0 l0_1) else (laws_FnExactBillTerm.j1 kj19 l1 t408 t411 t420 true a0_0 l0_1)))))) else (none)) = some r := H
       have A54 := Aside0.mk A540
       clear A540
       by_cases c55 : t433 = true
       ·subst c55
        have H1 : ((laws_markHouse.f kj19 t412 t413 1).bind fun bt434 => ((laws_markStepS.f kj19 t417 bt434.1).bind fun bt436 => (if bt436.1 < 0 then (laws_FnExactBillTerm.j1 kj19 l1 t408 t411 t420 true a0_0 l0_1) else ((laws_eqMarkS.f kj19 t420 t408).bind fun t438 => (if t438 = true then (laws_FnExactBillTerm.j1 kj19 l1 t408 t411 t420 (t423 != t411) a0_0 l0_1) else (laws_FnExactBillTerm.j1 kj19 l1 t408 t411 t420 true a0_0 l0_1)))))) = some r := by rw [if_pos rfl] at H; exact H
        clear H
        have H := H1
        clear H1
        replace H := Option.bind_eq_some_iff.mp H
        obtain ⟨⟨t434, t435⟩, A560, H⟩ := H
        replace H : ((laws_markStepS.f kj19 t417 t434).bind fun bt436 => (if bt436.1 < 0 then (laws_FnExactBillTerm.j1 kj19 l1 t408 t411 t420 true a0_0 l0_1) else ((laws_eqMarkS.f kj19 t420 t408).bind fun t438 => (if t438 = true then (laws_FnExactBillTerm.j1 kj19 l1 t408 t411 t420 (t423 != t411) a0_0 l0_1) else (laws_FnExactBillTerm.j1 kj19 l1 t408 t411 t420 true a0_0 l0_1))))) = some r := H
        have A56 := Aside0.mk A560
        clear A560
        replace H := Option.bind_eq_some_iff.mp H
        obtain ⟨⟨t436, t437⟩, A570, H⟩ := H
        replace H : (if t436 < 0 then (laws_FnExactBillTerm.j1 kj19 l1 t408 t411 t420 true a0_0 l0_1) else ((laws_eqMarkS.f kj19 t420 t408).bind fun t438 => (if t438 = true then (laws_FnExactBillTerm.j1 kj19 l1 t408 t411 t420 (t423 != t411) a0_0 l0_1) else (laws_FnExactBillTerm.j1 kj19 l1 t408 t411 t420 true a0_0 l0_1)))) = some r := H
        have A57 := Aside0.mk A570
        clear A570
        have HC58 := Aside0.mk H
        clear H
        try go_wp2
        have n0_ := Aside0.mk (Kd.R_drew HO_6.out)
        have n1_ := Aside0.mk (Kd.S_drew HO_9.out)
        have n2_ := Aside0.mk (Kd.R_drew HO_10.out)
        have n3_ := Aside0.mk (Kd.R_drew HO_417001.out)
        have n4_ := Aside0.mk (blk_drew BK398.out)
        have n5_ := Aside0.mk (blk_drew BK416.out)
        have n6_ := Aside0.mk (below_drew1 HB.out)
        clear HO_6 HO_9 HO_10 HO_417001 BK398 BK416 HB
        have HO_6 := n0_
        have HO_9 := n1_
        have HO_10 := n2_
        have HO_417001 := n3_
        have BK398 := n4_
        have BK416 := n5_
        have HB := n6_
        clear n0_ n1_ n2_ n3_ n4_ n5_ n6_
        refine start_ (n := 5) (S := fun w' => w'.cell? ⟨gb416, 0, none⟩ = some (.int .i64 t412) ∧ w'.cell? ⟨gb416, 1, none⟩ = some (.slice Ao36 t413.length co36) ∧ w'.cell? ⟨gb398, 0, none⟩ = some (.int .i64 a0_0) ∧ w'.cell? ⟨gb398, 1, none⟩ = some (.slice A0_1 l0_1.length c0_1)) (ds := []) #[F,F,F,F,F] kr rfl rfl ⟨cz0 BK416, cz1 BK416, cz0 BK398, cz1 BK398⟩ (fun hHeld => ?_)
        generalize wc.drew = w59 at HO_6 HO_9 HO_10 HO_417001 BK398 BK416 HB hHeld ⊢
        refine tk4 0 (some 54) #[T,F,F,F,F] kr ?_
        refine tk4 1 (some 55) #[T,T,F,F,F] kr ?_
        refine one_ (i := 2) (N := some 56) #[T,T,T,F,F] rfl rfl kr (by decide) (fun K hK => ?_)
        refine goes_ Try.func28 kr rfl #[.agg #[.int .i64 a0_0, .slice A0_1 l0_1.length c0_1]] (by rfl) rfl rfl lm ?_
        with_reducible refine (laws_toHouse.calls kj19 a0_0 _ _ l0_1 t425 t426 _ ?side1 ?side2 A50.out).mono ?_
        (case side1 => repeat (first | exact (Kd.C_below HR0_1.out HB.out) | (with_reducible refine Kd.C_alloc ?_ _) | (with_reducible refine Kd.C_drewN ?_ _) | (with_reducible refine Kd.C_drew ?_)))
        (case side2 => exact HC0_1.out)
        rintro e w60 ⟨v427, rfl, ho0, hb⟩
        refine ⟨_, rfl, ?_⟩
        have n0_ := Aside0.mk (Kd.R_below (rz HO_6) hb)
        have n1_ := Aside0.mk (Kd.S_below (sz HO_9) hb)
        have n2_ := Aside0.mk (Kd.R_below (rz HO_10) hb)
        have n3_ := Aside0.mk (Kd.R_elder' (rz HO_417001) (Kd.R_base ho0) hb)
        have n4_ := Aside0.mk (Kd.R_lower (Kd.R_new' ho0 (Kd.R_lt (rz HO_417001))) (below_size bh))
        have n5_ := Aside0.mk (blk_below (bz BK398) hb)
        have n6_ := Aside0.mk (blk_below (bz BK416) hb)
        have n7_ := Aside0.mk (below_step bh hb)
        clear HO_6 HO_9 HO_10 HO_417001 BK398 BK416 HB
        have HO_6 := n0_
        have HO_9 := n1_
        have HO_10 := n2_
        have HO_417001 := n3_
        have HO428 := n4_
        have BK398 := n5_
        have BK416 := n6_
        have HB := n7_
        clear n0_ n1_ n2_ n3_ n4_ n5_ n6_ n7_
        (try clear hb)
        (try clear hb2)
        (try clear hk)
        (try clear hi)
        (try clear ho0)
        obtain ⟨Ao61, co61, eo61⟩ := Kd.R_slice HO428.out
        (first | subst eo61 | (injection eo61 with f1_ f2_ f3_; have f4_ := f1_.symm; have f5_ := f3_.symm; clear f1_ f2_ f3_; subst f4_; subst f5_))
        refine hK.out _ _ ⟨cz0 BK416, cz1 BK416, cz0 BK398, cz1 BK398⟩ (fun hHeld => ?_)
        clear hK K
        refine norm_ (a' := ?_) ?_ ?_
        rotate_left
        ·show Act.put _ (some 56) _ = _
         simp only [Act.put, List.setIfInBounds_toArray, List.set_cons_zero, List.set_cons_succ, i64_w, i32_w]
         rfl
        refine one_ (i := 3) (N := some 57) #[T,T,T,T,F] rfl rfl kr (by decide) (fun K hK => ?_)
        refine goes_ Try.func30 kr rfl #[.agg #[.int .i64 t412, .slice Ao36 t413.length co36], .agg #[.int .i64 t425, .slice Ao61 t426.length co61]] (by rfl) rfl rfl lm ?_
        with_reducible refine (laws_eqHouse.calls kj19 t412 _ _ t413 t425 _ _ t426 true _ ?side1 ?side2 ?side3 ?side4 A51.out).mono ?_
        (case side1 => repeat (first | exact (Kd.R_reads' HO_417001.out).2.2 | (with_reducible refine Kd.C_alloc ?_ _) | (with_reducible refine Kd.C_drewN ?_ _) | (with_reducible refine Kd.C_drew ?_)))
        (case side2 => exact (Kd.R_reads' HO_417001.out).2.1)
        (case side3 => repeat (first | exact (Kd.R_reads' HO428.out).2.2 | (with_reducible refine Kd.C_alloc ?_ _) | (with_reducible refine Kd.C_drewN ?_ _) | (with_reducible refine Kd.C_drew ?_)))
        (case side4 => exact (Kd.R_reads' HO428.out).2.1)
        rintro e w62 ⟨rfl, hb⟩
        refine ⟨_, rfl, ?_⟩
        have n0_ := Aside0.mk (Kd.R_below (rz HO_6) hb)
        have n1_ := Aside0.mk (Kd.S_below (sz HO_9) hb)
        have n2_ := Aside0.mk (Kd.R_below (rz HO_10) hb)
        have n3_ := Aside0.mk (Kd.R_below (rz HO_417001) hb)
        have n4_ := Aside0.mk (Kd.R_below (rz HO428) hb)
        have n5_ := Aside0.mk (blk_below (bz BK398) hb)
        have n6_ := Aside0.mk (blk_below (bz BK416) hb)
        have n7_ := Aside0.mk (below_step bh hb)
        clear HO_6 HO_9 HO_10 HO_417001 HO428 BK398 BK416 HB
        have HO_6 := n0_
        have HO_9 := n1_
        have HO_10 := n2_
        have HO_417001 := n3_
        have HO428 := n4_
        have BK398 := n5_
        have BK416 := n6_
        have HB := n7_
        clear n0_ n1_ n2_ n3_ n4_ n5_ n6_ n7_
        (try clear hb)
        (try clear hb2)
        (try clear hk)
        (try clear hi)
        refine hK.out _ _ ⟨cz0 BK416, cz1 BK416, cz0 BK398, cz1 BK398⟩ (fun hHeld => ?_)
        clear hK K
        refine norm_ (a' := ?_) ?_ ?_
        rotate_left
        ·show Act.put _ (some 57) _ = _
         simp only [Act.put, List.setIfInBounds_toArray, List.set_cons_zero, List.set_cons_succ, i64_w, i32_w]
         rfl
        refine pu 4 (some 58) #[T,T,T,T,T] kr ?_
        refine done_ kr ?_
        go_upto_region 21 with (first | ((with_reducible refine gate_callee (f := 29) rfl ?_); refine goesL_ (some 61) rfl rfl Try.func29 kr rfl #[.slice A1 l1.length c1] rfl lm ?_; (with_reducible refine (laws_toStepS.calls kj19 _ _ l1 t430 _ ?side1 ?side2 A53.out).mono ?_); (case side1 => repeat (first | exact (Kd.C_below HR1.out HB.out) | (with_reducible refine Kd.C_alloc ?_ _) | (with_reducible refine Kd.C_drewN ?_ _) | (with_reducible refine Kd.C_drew ?_))); (case side2 => exact HC1.out); rintro e w63 ⟨v431, rfl, ho0, hb⟩; refine ⟨_, rfl, ?_⟩; have n0_ := Aside0.mk (Kd.R_below (rz HO_6) hb); have n1_ := Aside0.mk (Kd.S_elder' (sz HO_9) (Kd.S_base ho0) hb); have n2_ := Aside0.mk (Kd.R_below (rz HO_10) hb); have n3_ := Aside0.mk (Kd.R_below (rz HO_417001) hb); have n4_ := Aside0.mk (Kd.R_below (rz HO428) hb); have n5_ := Aside0.mk (Kd.S_lower (Kd.S_new' (Kd.S_new' (Kd.S_new' ho0 (Kd.R_lt (rz HO_6))) (Kd.S_lt (sz HO_9))) (Kd.R_lt (rz HO_10))) (below_size bh)); have n6_ := Aside0.mk (blk_below (bz BK398) hb); have n7_ := Aside0.mk (blk_below (bz BK416) hb); have n8_ := Aside0.mk (below_step bh hb); clear HO_6 HO_9 HO_10 HO_417001 HO428 BK398 BK416 HB; have HO_6 := n0_; have HO_9 := n1_; have HO_10 := n2_; have HO_417001 := n3_; have HO428 := n4_; have HO432 := n5_; have BK398 := n6_; have BK416 := n7_; have HB := n8_; clear n0_ n1_ n2_ n3_ n4_ n5_ n6_ n7_ n8_; (try clear hb); (try clear hb2); (try clear hk); (try clear hi); (try clear ho0); obtain ⟨Ao64, co64, eo64⟩ := Kd.S_slice HO432.out; subst eo64) | ((with_reducible refine gate_callee (f := 31) rfl ?_); refine goesL_ (some 62) rfl rfl Try.func31 kr rfl #[.slice Ao39 t417.length co39, .slice Ao64 t430.length co64] rfl lm ?_; (with_reducible refine (laws_eqStepS.calls kj19 _ _ t417 _ _ t430 true _ ?side1 ?side2 ?side3 ?side4 A54.out).mono ?_); (case side1 => repeat (first | exact (Kd.S_reads' HO_9.out).2.2 | (with_reducible refine Kd.C_alloc ?_ _) | (with_reducible refine Kd.C_drewN ?_ _) | (with_reducible refine Kd.C_drew ?_))); (case side2 => exact (Kd.S_reads' HO_9.out).2.1); (case side3 => repeat (first | exact (Kd.S_reads' HO432.out).2.2 | (with_reducible refine Kd.C_alloc ?_ _) | (with_reducible refine Kd.C_drewN ?_ _) | (with_reducible refine Kd.C_drew ?_))); (case side4 => exact (Kd.S_reads' HO432.out).2.1); rintro e w65 ⟨rfl, hb⟩; refine ⟨_, rfl, ?_⟩; have n0_ := Aside0.mk (Kd.R_below (rz HO_6) hb); have n1_ := Aside0.mk (Kd.S_below (sz HO_9) hb); have n2_ := Aside0.mk (Kd.R_below (rz HO_10) hb); have n3_ := Aside0.mk (Kd.R_below (rz HO_417001) hb); have n4_ := Aside0.mk (Kd.R_below (rz HO428) hb); have n5_ := Aside0.mk (Kd.S_below (sz HO432) hb); have n6_ := Aside0.mk (blk_below (bz BK398) hb); have n7_ := Aside0.mk (blk_below (bz BK416) hb); have n8_ := Aside0.mk (below_step bh hb); clear HO_6 HO_9 HO_10 HO_417001 HO428 HO432 BK398 BK416 HB; have HO_6 := n0_; have HO_9 := n1_; have HO_10 := n2_; have HO_417001 := n3_; have HO428 := n4_; have HO432 := n5_; have BK398 := n6_; have BK416 := n7_; have HB := n8_; clear n0_ n1_ n2_ n3_ n4_ n5_ n6_ n7_ n8_; (try clear hb); (try clear hb2); (try clear hk); (try clear hi); have hnb66 := NB416_398.out; have hnc66 := NB398_416.out; have hcz67_0 := cz0 BK416; have hcz67_1 := cz1 BK416; have hfz67_0 := blk_frozen BK416.out 0; have hfz67_1 := blk_frozen BK416.out 1) | ((with_reducible refine gate_callee (f := 47) rfl ?_); refine goesL_ (some 66) rfl rfl Try.func47 kr rfl #[.agg #[.int .i64 t412, .slice Ao36 t413.length co36], .int .i64 1] rfl lm ?_; (with_reducible refine (laws_markHouse.calls kj19 t412 (fun k_ => some k_ = (.slice Ao36 t413.length co36 : Value).ownBlock) (.slice Ao36 t413.length co36) t413 1 t434 t435 w _ ?side1 ?side2 A56.out).mono ?_); (case side1 => repeat (first | (with_reducible first | exact HB.out | apply below_alloc | apply pw_below_drewN | apply below_drew1 | refine below_set ?_ GE398.out | refine below_set ?_ GE416.out) | exact HB.out)); (case side2 => exact Kd.R_tight rfl HO_417001.out); rintro e w68 ⟨rfl, hy0, hb, hkp⟩; refine ⟨_, rfl, ?_⟩; have n0_ := Aside0.mk (Kd.R_mono (ok' := fun k_ => some k_ ≠ (v421 : Value).ownBlock) (Kd.R_keptB ((Kd.R_apart' HO_6.out (Kd.R_typed HO_417001.out) (by decide))) hkp (fun k_ hk_ hs_ => (hk_.2) hs_)) (fun k_ hk_ => hk_.1.1)); have n1_ := Aside0.mk (Kd.S_mono (ok' := fun k_ => some k_ ≠ (v409 : Value).ownBlock ∧ some k_ ≠ (v421 : Value).ownBlock ∧ some k_ ≠ (.slice Ao64 t430.length co64 : Value).ownBlock) (Kd.S_keptB ((Kd.S_apart' HO_9.out (Kd.R_typed HO_417001.out) (by decide))) hkp (fun k_ hk_ hs_ => (hk_.2) hs_)) (fun k_ hk_ => ⟨hk_.1.1.1.1, hk_.1.1.1.2, hk_.1.1.2⟩)); have n2_ := Aside0.mk (Kd.R_mono (ok' := fun k_ => some k_ ≠ (v409 : Value).ownBlock) (Kd.R_keptB ((Kd.R_apart' HO_10.out (Kd.R_typed HO_417001.out) (by decide))) hkp (fun k_ hk_ hs_ => (hk_.2) hs_)) (fun k_ hk_ => hk_.1.1)); have n3_ := Aside0.mk (Kd.R_reok rfl hy0 (fun k_ e_ => HO_417001.out.1 k_ e_)); have n4_ := Aside0.mk (blk_kept (bz BK398) hkp (fun hs_ => (fun e_ => (Kd.R_ne HO_417001.out BK398.out (by decide)) e_) hs_)); have n5_ := Aside0.mk (blk_kept (bz BK416) hkp (fun hs_ => (fun e_ => (Kd.R_ne HO_417001.out BK416.out (by decide)) e_) hs_)); have n6_ := Aside0.mk (Kd.R_mono (ok' := fun k_ => some k_ ≠ (.slice Ao36 t413.length co36 : Value).ownBlock) (Kd.R_keptB (HO428.out) hkp (fun k_ hk_ hs_ => (hk_.2) hs_)) (fun k_ hk_ => hk_.1.2)); have n7_ := Aside0.mk (Kd.S_mono (ok' := fun k_ => some k_ ≠ (v409 : Value).ownBlock ∧ some k_ ≠ (.slice Ao39 t417.length co39 : Value).ownBlock ∧ some k_ ≠ (v421 : Value).ownBlock) (Kd.S_keptB ((Kd.S_apart' HO432.out (Kd.R_typed HO_417001.out) (by decide))) hkp (fun k_ hk_ hs_ => (hk_.2) hs_)) (fun k_ hk_ => ⟨hk_.1.1.1.1.2, hk_.1.1.1.2, hk_.1.1.2⟩)); have n8_ := Aside0.mk (hb); clear HO_6 HO_9 HO_10 HO_417001 BK398 BK416 HO428 HO432 HB; have HO_6 := n0_; have HO_9 := n1_; have HO_10 := n2_; have HO_417001 := n3_; have BK398 := n4_; have BK416 := n5_; have HO428 := n6_; have HO432 := n7_; have HB := n8_; clear n0_ n1_ n2_ n3_ n4_ n5_ n6_ n7_ n8_; (try clear hb); (try clear hkp); (try clear hy0); have n_ := Aside0.mk (Kd.R_mono (ok' := (fun k_ => some k_ ≠ (v421 : Value).ownBlock)) HO_6.out (by (intro k_; (try simp only [and_imp, and_assoc, true_and]); intros; repeat' (first | assumption | exact trivial | apply And.intro)))); clear HO_6; have HO_6 := n_; clear n_; have n_ := Aside0.mk (Kd.S_mono (ok' := (fun k_ => some k_ ≠ (v409 : Value).ownBlock ∧ some k_ ≠ (v421 : Value).ownBlock ∧ some k_ ≠ (.slice Ao64 t430.length co64 : Value).ownBlock)) HO_9.out (by (intro k_; (try simp only [and_imp, and_assoc, true_and]); intros; repeat' (first | assumption | exact trivial | apply And.intro)))); clear HO_9; have HO_9 := n_; clear n_; have n_ := Aside0.mk (Kd.R_mono (ok' := (fun k_ => some k_ ≠ (v409 : Value).ownBlock)) HO_10.out (by (intro k_; (try simp only [and_imp, and_assoc, true_and]); intros; repeat' (first | assumption | exact trivial | apply And.intro)))); clear HO_10; have HO_10 := n_; clear n_; have n_ := Aside0.mk (Kd.R_mono (ok' := (fun k_ => some k_ ≠ (.slice Ao61 t426.length co61 : Value).ownBlock)) HO_417001.out (by (intro k_; (try simp only [and_imp, and_assoc, true_and]); intros; repeat' (first | assumption | exact trivial | apply And.intro)))); clear HO_417001; have HO_417001 := n_; clear n_; have n_ := Aside0.mk (Kd.R_mono (ok' := (fun k_ => some k_ ≠ (.slice Ao36 t413.length co36 : Value).ownBlock)) HO428.out (by (intro k_; (try simp only [and_imp, and_assoc, true_and]); intros; repeat' (first | assumption | exact trivial | apply And.intro)))); clear HO428; have HO428 := n_; clear n_; have n_ := Aside0.mk (Kd.S_mono (ok' := (fun k_ => some k_ ≠ (v409 : Value).ownBlock ∧ some k_ ≠ (.slice Ao39 t417.length co39 : Value).ownBlock ∧ some k_ ≠ (v421 : Value).ownBlock)) HO432.out (by (intro k_; (try simp only [and_imp, and_assoc, true_and]); intros; repeat' (first | assumption | exact trivial | apply And.intro)))); clear HO432; have HO432 := n_; clear n_; have n_ := Aside0.mk (Kd.S_apart' HO_9.out (Kd.R_typed HO_417001.out) (by decide)); clear HO_9; have HO_9 := n_; clear n_; have n_ := Aside0.mk (Kd.S_apart' HO_9.out (Kd.R_typed HO428.out) (by decide)); clear HO_9; have HO_9 := n_; clear n_) | ((with_reducible refine gate_callee (f := 48) rfl ?_); refine goesL_ (some 69) rfl rfl Try.func48 kr rfl #[.slice Ao39 t417.length co39, .int .i64 t434] rfl lm ?_; (with_reducible refine (laws_markStepS.calls kj19 (fun k_ => ((((some k_ ≠ (v409 : Value).ownBlock ∧ (some k_ ≠ (v421 : Value).ownBlock ∧ some k_ ≠ (.slice Ao64 t430.length co64 : Value).ownBlock)) ∧ some k_ ≠ (.slice Ao36 t413.length co36 : Value).ownBlock) ∧ some k_ ≠ (.slice Ao61 t426.length co61 : Value).ownBlock)) ∧ k_ ≠ gb398 ∧ k_ ≠ gb416) (.slice Ao39 t417.length co39) t417 t434 t436 t437 w _ ?side1 ?side2 A57.out).mono ?_); (case side1 => repeat (first | (with_reducible first | exact HB.out | apply below_alloc | apply pw_below_drewN | apply below_drew1 | refine below_set ?_ GE398.out | refine below_set ?_ GE416.out) | exact HB.out)); (case side2 => exact Kd.S_mono ((Kd.S_types (Kd.S_types HO_9.out (bz BK398) (by decide)) (bz BK416) (by decide))) (by (intro k_; (try simp only [and_imp, and_assoc]); intros; repeat' (first | assumption | exact trivial | apply And.intro)))); rintro e w69 ⟨rfl, hy0, hb, hkp⟩; refine ⟨_, rfl, ?_⟩; have n0_ := Aside0.mk (Kd.R_mono (ok' := fun k_ => some k_ ≠ (v421 : Value).ownBlock) (Kd.R_keptB ((Kd.R_mono (ok' := fun k_ => some k_ ≠ (v421 : Value).ownBlock ∧ ¬ (fun k_ => ((((some k_ ≠ (v409 : Value).ownBlock ∧ (some k_ ≠ (v421 : Value).ownBlock ∧ some k_ ≠ (.slice Ao64 t430.length co64 : Value).ownBlock)) ∧ some k_ ≠ (.slice Ao36 t413.length co36 : Value).ownBlock) ∧ some k_ ≠ (.slice Ao61 t426.length co61 : Value).ownBlock)) ∧ k_ ≠ gb398 ∧ k_ ≠ gb416) k_) (Kd.R_tight2 rfl HO_6.out) (fun k_ hk => ⟨hk.2, fun hp_ => (hp_.1.1.1.1) hk.1⟩))) hkp (fun k_ hk_ hs_ => (hk_.2) hs_)) (fun k_ hk_ => hk_.1.1)); have n1_ := Aside0.mk (Kd.S_mono hy0 (fun k_ hk_ => hk_.1)); have n2_ := Aside0.mk (Kd.R_mono (ok' := fun k_ => some k_ ≠ (v409 : Value).ownBlock) (Kd.R_keptB ((Kd.R_mono (ok' := fun k_ => some k_ ≠ (v409 : Value).ownBlock ∧ ¬ (fun k_ => ((((some k_ ≠ (v409 : Value).ownBlock ∧ (some k_ ≠ (v421 : Value).ownBlock ∧ some k_ ≠ (.slice Ao64 t430.length co64 : Value).ownBlock)) ∧ some k_ ≠ (.slice Ao36 t413.length co36 : Value).ownBlock) ∧ some k_ ≠ (.slice Ao61 t426.length co61 : Value).ownBlock)) ∧ k_ ≠ gb398 ∧ k_ ≠ gb416) k_) (Kd.R_tight2 rfl HO_10.out) (fun k_ hk => ⟨hk.2, fun hp_ => (hp_.1.1.1.2.1) hk.1⟩))) hkp (fun k_ hk_ hs_ => (hk_.2) hs_)) (fun k_ hk_ => hk_.1.1)); have n3_ := Aside0.mk (Kd.R_mono (ok' := fun k_ => some k_ ≠ (.slice Ao61 t426.length co61 : Value).ownBlock) (Kd.R_keptB ((Kd.R_mono (ok' := fun k_ => some k_ ≠ (.slice Ao61 t426.length co61 : Value).ownBlock ∧ ¬ (fun k_ => ((((some k_ ≠ (v409 : Value).ownBlock ∧ (some k_ ≠ (v421 : Value).ownBlock ∧ some k_ ≠ (.slice Ao64 t430.length co64 : Value).ownBlock)) ∧ some k_ ≠ (.slice Ao36 t413.length co36 : Value).ownBlock) ∧ some k_ ≠ (.slice Ao61 t426.length co61 : Value).ownBlock)) ∧ k_ ≠ gb398 ∧ k_ ≠ gb416) k_) (Kd.R_tight2 rfl HO_417001.out) (fun k_ hk => ⟨hk.2, fun hp_ => (hp_.1.1.2) hk.1⟩))) hkp (fun k_ hk_ hs_ => (hk_.2) hs_)) (fun k_ hk_ => hk_.1.1)); have n4_ := Aside0.mk (blk_kept (bz BK398) hkp (fun hs_ => (fun e_ => (e_.2.1) rfl) hs_)); have n5_ := Aside0.mk (blk_kept (bz BK416) hkp (fun hs_ => (fun e_ => (e_.2.2) rfl) hs_)); have n6_ := Aside0.mk (Kd.R_mono (ok' := fun k_ => some k_ ≠ (.slice Ao36 t413.length co36 : Value).ownBlock) (Kd.R_keptB ((Kd.R_mono (ok' := fun k_ => some k_ ≠ (.slice Ao36 t413.length co36 : Value).ownBlock ∧ ¬ (fun k_ => ((((some k_ ≠ (v409 : Value).ownBlock ∧ (some k_ ≠ (v421 : Value).ownBlock ∧ some k_ ≠ (.slice Ao64 t430.length co64 : Value).ownBlock)) ∧ some k_ ≠ (.slice Ao36 t413.length co36 : Value).ownBlock) ∧ some k_ ≠ (.slice Ao61 t426.length co61 : Value).ownBlock)) ∧ k_ ≠ gb398 ∧ k_ ≠ gb416) k_) (Kd.R_tight2 rfl HO428.out) (fun k_ hk => ⟨hk.2, fun hp_ => (hp_.1.2) hk.1⟩))) hkp (fun k_ hk_ hs_ => (hk_.2) hs_)) (fun k_ hk_ => hk_.1.1)); have n7_ := Aside0.mk (hb); clear HO_6 HO_9 HO_10 HO_417001 BK398 BK416 HO428 HB HO432; have HO_6 := n0_; have HO_9 := n1_; have HO_10 := n2_; have HO_417001 := n3_; have BK398 := n4_; have BK416 := n5_; have HO428 := n6_; have HB := n7_; clear n0_ n1_ n2_ n3_ n4_ n5_ n6_ n7_; (try clear hb); (try clear hkp); (try clear hy0)))
        (try simp only [Act.put, List.setIfInBounds_toArray, List.set_cons_zero, List.set_cons_succ])
        go_cut [82] (fun v82 wc => ∃ (kq : Nat) (x82_57 : Bool), v82 = .bool x82_57 ∧ Aside0 (laws_FnExactBillTerm.j1 kq l1 t408 t411 t420 x82_57 a0_0 l0_1 = some r) ∧ Aside0 (kq ≤ kj19) ∧ Aside0 (Kd.R k78 78 wc w.heap.size (fun k_ => some k_ ≠ (v421 : Value).ownBlock) v409 t408) ∧ Aside0 (Kd.R k78 78 wc w.heap.size (fun k_ => some k_ ≠ (v409 : Value).ownBlock) v421 t420) ∧ Aside0 (Kd.R (Kd.int .i64) 3 wc w.heap.size (fun _ => True) (.slice Ao36 t413.length co36) t435) ∧ Aside0 (wc.heap[gb398]? = some (.cells #[.int .i64 a0_0, (.slice A0_1 l0_1.length c0_1)] 44 (0, 0))) ∧ Aside0 (wc.heap[gb416]? = some (.cells #[.int .i64 t412, (.slice Ao36 t413.length co36)] 25 (0, 0))) ∧ Aside0 (Below w.heap.size w wc))
        case first =>
         have H := HC58.out
         clear HC58
         by_cases c70 : t436 < 0
         ·rw [if_pos c70] at H
          have c70b0 : decide (t436 < 0) = true := decide_eq_true c70
          clear c70
          (first | rw [c70b0] | (simp only [i64_w, i32_w]; rw [c70b0]) | skip)
          have H' := Aside0.mk H
          clear H
          go_wp2
          go_meet
          case rel => exact ⟨_, (true), (by first | rfl | (simp; done) | (simp [*]; done)), H', ⟨by have := HJ19.out; first | omega | exact Nat.le_refl _⟩, ⟨rz HO_6⟩, ⟨rz HO_10⟩, ⟨mR HO_417001⟩, ⟨bz BK398⟩, ⟨bz BK416⟩, ⟨by exact bh⟩⟩
         ·rw [if_neg c70] at H
          have c70b0 : decide (t436 < 0) = false := decide_eq_false c70
          clear c70
          (first | rw [c70b0] | (simp only [i64_w, i32_w]; rw [c70b0]) | skip)
          replace H := Option.bind_eq_some_iff.mp H
          obtain ⟨t438, A710, H⟩ := H
          replace H : (if t438 = true then (laws_FnExactBillTerm.j1 kj19 l1 t408 t411 t420 (t423 != t411) a0_0 l0_1) else (laws_FnExactBillTerm.j1 kj19 l1 t408 t411 t420 true a0_0 l0_1)) = some r := H
          have A71 := Aside0.mk A710
          clear A710
          by_cases c72 : t438 = true
          ·subst c72
           have H1 : (laws_FnExactBillTerm.j1 kj19 l1 t408 t411 t420 (t423 != t411) a0_0 l0_1) = some r := by rw [if_pos rfl] at H; exact H
           clear H
           have H := H1
           clear H1
           have H' := Aside0.mk H
           clear H
           obtain ⟨Ao73, co73, eo73⟩ := Kd.R_slice HO_10.out
           subst eo73
           obtain ⟨Ao74, co74, eo74⟩ := Kd.R_slice HO_6.out
           subst eo74
           go_wp2_with (first | (go_at_call 46; (with_reducible refine (laws_eqMarkS.calls kj19 _ _ t420 _ _ t408 true _ ?side1 ?side2 ?side3 ?side4 A71.out).mono ?_); (case side1 => repeat (first | exact (Kd.R_reads' HO_10.out).2.2 | (with_reducible refine Kd.C_alloc ?_ _) | (with_reducible refine Kd.C_drewN ?_ _) | (with_reducible refine Kd.C_drew ?_))); (case side2 => exact (Kd.R_reads' HO_10.out).2.1); (case side3 => repeat (first | exact (Kd.R_reads' HO_6.out).2.2 | (with_reducible refine Kd.C_alloc ?_ _) | (with_reducible refine Kd.C_drewN ?_ _) | (with_reducible refine Kd.C_drew ?_))); (case side4 => exact (Kd.R_reads' HO_6.out).2.1); rintro e w75 ⟨rfl, hb⟩; have n0_ := Aside0.mk (Kd.R_below (rz HO_6) hb); have n1_ := Aside0.mk (Kd.S_below (sz HO_9) hb); have n2_ := Aside0.mk (Kd.R_below (rz HO_10) hb); have n3_ := Aside0.mk (Kd.R_below (rz HO_417001) hb); have n4_ := Aside0.mk (Kd.R_below (rz HO428) hb); have n5_ := Aside0.mk (blk_below (bz BK398) hb); have n6_ := Aside0.mk (blk_below (bz BK416) hb); have n7_ := Aside0.mk (below_step bh hb); clear HO_6 HO_9 HO_10 HO_417001 HO428 BK398 BK416 HB; have HO_6 := n0_; have HO_9 := n1_; have HO_10 := n2_; have HO_417001 := n3_; have HO428 := n4_; have BK398 := n5_; have BK416 := n6_; have HB := n7_; clear n0_ n1_ n2_ n3_ n4_ n5_ n6_ n7_; (try clear hb); (try clear hb2); (try clear hk); (try clear hi)))
           go_meet
           case rel => exact ⟨_, ((t423 != t411)), (by first | rfl | (simp; done) | (simp [*]; done)), H', ⟨by have := HJ19.out; first | omega | exact Nat.le_refl _⟩, ⟨rz HO_6⟩, ⟨rz HO_10⟩, ⟨mR HO_417001⟩, ⟨bz BK398⟩, ⟨bz BK416⟩, ⟨by exact bh⟩⟩
          ·replace c72 := Bool.eq_false_iff.mpr c72
           subst c72
           have H1 : (laws_FnExactBillTerm.j1 kj19 l1 t408 t411 t420 true a0_0 l0_1) = some r := by rw [if_neg (show ¬ (false = true) by decide)] at H; exact H
           clear H
           have H := H1
           clear H1
           have H' := Aside0.mk H
           clear H
           obtain ⟨Ao76, co76, eo76⟩ := Kd.R_slice HO_10.out
           subst eo76
           obtain ⟨Ao77, co77, eo77⟩ := Kd.R_slice HO_6.out
           subst eo77
           go_wp2_with (first | (go_at_call 46; (with_reducible refine (laws_eqMarkS.calls kj19 _ _ t420 _ _ t408 false _ ?side1 ?side2 ?side3 ?side4 A71.out).mono ?_); (case side1 => repeat (first | exact (Kd.R_reads' HO_10.out).2.2 | (with_reducible refine Kd.C_alloc ?_ _) | (with_reducible refine Kd.C_drewN ?_ _) | (with_reducible refine Kd.C_drew ?_))); (case side2 => exact (Kd.R_reads' HO_10.out).2.1); (case side3 => repeat (first | exact (Kd.R_reads' HO_6.out).2.2 | (with_reducible refine Kd.C_alloc ?_ _) | (with_reducible refine Kd.C_drewN ?_ _) | (with_reducible refine Kd.C_drew ?_))); (case side4 => exact (Kd.R_reads' HO_6.out).2.1); rintro e w78 ⟨rfl, hb⟩; have n0_ := Aside0.mk (Kd.R_below (rz HO_6) hb); have n1_ := Aside0.mk (Kd.S_below (sz HO_9) hb); have n2_ := Aside0.mk (Kd.R_below (rz HO_10) hb); have n3_ := Aside0.mk (Kd.R_below (rz HO_417001) hb); have n4_ := Aside0.mk (Kd.R_below (rz HO428) hb); have n5_ := Aside0.mk (blk_below (bz BK398) hb); have n6_ := Aside0.mk (blk_below (bz BK416) hb); have n7_ := Aside0.mk (below_step bh hb); clear HO_6 HO_9 HO_10 HO_417001 HO428 BK398 BK416 HB; have HO_6 := n0_; have HO_9 := n1_; have HO_10 := n2_; have HO_417001 := n3_; have HO428 := n4_; have BK398 := n5_; have BK416 := n6_; have HB := n7_; clear n0_ n1_ n2_ n3_ n4_ n5_ n6_ n7_; (try clear hb); (try clear hb2); (try clear hk); (try clear hi)))
           go_meet
           case rel => exact ⟨_, (true), (by first | rfl | (simp; done) | (simp [*]; done)), H', ⟨by have := HJ19.out; first | omega | exact Nat.le_refl _⟩, ⟨rz HO_6⟩, ⟨rz HO_10⟩, ⟨mR HO_417001⟩, ⟨bz BK398⟩, ⟨bz BK416⟩, ⟨by exact bh⟩⟩
        case rest =>
         clear HC58
         try clear c1
         try clear c2
         try clear p2
         try clear c3
         try clear c4
         try clear c4b0
         try clear c5
         try clear c6
         try clear c7
         try clear c9
         try clear c9b0
         try clear c13
         try clear c26
         try clear c27
         try clear c28
         try clear c29
         try clear c30
         try clear c31
         try clear c34
         try clear c42
         try clear c43
         try clear c46
         try clear c47
         try clear c48
         try clear c49
         try clear c52
         try clear c55
         try clear c66
         try clear c70
         try clear c70b0
         try clear c72
         try clear hcz11_0
         try clear hcz11_1
         try clear hcz22_0
         try clear hcz22_1
         try clear hcz25_0
         try clear hcz25_1
         try clear hcz31_0
         try clear hcz31_1
         try clear hcz35_0
         try clear hcz35_1
         try clear hcz38_0
         try clear hcz38_1
         try clear hcz67_0
         try clear hcz67_1
         try clear hcz6_0
         try clear hcz6_1
         try clear hfz11_0
         try clear hfz11_1
         try clear hfz22_0
         try clear hfz22_1
         try clear hfz25_0
         try clear hfz25_1
         try clear hfz31_0
         try clear hfz31_1
         try clear hfz35_0
         try clear hfz35_1
         try clear hfz38_0
         try clear hfz38_1
         try clear hfz67_0
         try clear hfz67_1
         try clear hfz6_0
         try clear hfz6_1
         try clear p2
         obtain ⟨kq, x82_57, rfl, HA, HJ57, HO_6, HO_10, HO_417001, BK398, BK416, HB⟩ := hcut
         have hl417001_57 := (Kd.R_reads' HO_417001.out).1
         rw [hl417001_57] at HO_417001
         (try simp only [hl417001_57])
         (try simp only [hl417001_57] at BK398)
         (try simp only [hl417001_57] at BK416)
         (try simp only [hl417001_57] at HO_6)
         (try simp only [hl417001_57] at HO_10)
         cases kq with
         | zero => exact absurd HA.out (by simp [laws_FnExactBillTerm.j1])
         | succ kj57 =>
          have H := HA.out
          clear HA
          simp only [laws_FnExactBillTerm.j1] at H
          by_cases c79 : x82_57 = true
          ·subst c79
           have H1 : (none) = some r := by rw [if_pos rfl] at H; exact H
           clear H
           have H := H1
           clear H1
           exact absurd H (by simp)
          ·replace c79 := Bool.eq_false_iff.mpr c79
           subst c79
           have H1 : ((laws_markMarkS.f kj57 t420 1).bind fun bt439 => ((laws_heldMarkS.f kj57 bt439.2 1).bind fun t441 => (if t441 < 0 then (none) else (if t441 = bt439.1 then ((laws_toHouse.f kj57 a0_0 l0_1).bind fun bt442 => ((laws_toStepS.f kj57 l1).bind fun t446 => ((impl_BillTerm.f kj57 bt442.1 bt442.2 t446).bind fun bt449 => ((laws_eqMarkS.f kj57 bt449.1 t408).bind fun t453 => (if t453 = true then (laws_FnExactBillTerm.j2 kj57 bt439.2 bt439.1 (bt449.2 != t411)) else (laws_FnExactBillTerm.j2 kj57 bt439.2 bt439.1 true)))))) else (none))))) = some r := by rw [if_neg (show ¬ (false = true) by decide)] at H; exact H
           clear H
           have H := H1
           clear H1
           replace H := Option.bind_eq_some_iff.mp H
           obtain ⟨⟨t439, t440⟩, A800, H⟩ := H
           replace H : ((laws_heldMarkS.f kj57 t440 1).bind fun t441 => (if t441 < 0 then (none) else (if t441 = t439 then ((laws_toHouse.f kj57 a0_0 l0_1).bind fun bt442 => ((laws_toStepS.f kj57 l1).bind fun t446 => ((impl_BillTerm.f kj57 bt442.1 bt442.2 t446).bind fun bt449 => ((laws_eqMarkS.f kj57 bt449.1 t408).bind fun t453 => (if t453 = true then (laws_FnExactBillTerm.j2 kj57 t440 t439 (bt449.2 != t411)) else (laws_FnExactBillTerm.j2 kj57 t440 t439 true)))))) else (none)))) = some r := H
           have A80 := Aside0.mk A800
           clear A800
           replace H := Option.bind_eq_some_iff.mp H
           obtain ⟨t441, A810, H⟩ := H
           replace H : (if t441 < 0 then (none) else (if t441 = t439 then ((laws_toHouse.f kj57 a0_0 l0_1).bind fun bt442 => ((laws_toStepS.f kj57 l1).bind fun t446 => ((impl_BillTerm.f kj57 bt442.1 bt442.2 t446).bind fun bt449 => ((laws_eqMarkS.f kj57 bt449.1 t408).bind fun t453 => (if t453 = true then (laws_FnExactBillTerm.j2 kj57 t440 t439 (bt449.2 != t411)) else (laws_FnExactBillTerm.j2 kj57 t440 t439 true)))))) else (none))) = some r := H
           have A81 := Aside0.mk A810
           clear A810
           by_cases c82 : t441 < 0
           ·rw [if_pos c82] at H
            exact absurd H (by simp)
           ·rw [if_neg c82] at H
            have c82b0 : decide (t441 < 0) = false := decide_eq_false c82
            (try (have c82z0 := c82b0; simp only [hl417001_57] at c82z0))
            (try (have c82z1 := c82b1; simp only [hl417001_57] at c82z1))
            clear c82
            by_cases c83 : t441 = t439
            ·rw [if_pos c83] at H
             have c83b0 : (t441 == t439) = true := beq_iff_eq.mpr c83
             have c83b1 : (t441 != t439) = false := bne_eq_false_iff_eq.mpr c83
             (try (have c83z0 := c83b0; simp only [hl417001_57] at c83z0))
             (try (have c83z1 := c83b1; simp only [hl417001_57] at c83z1))
             clear c83
             replace H := Option.bind_eq_some_iff.mp H
             obtain ⟨⟨t442, t443⟩, A840, H⟩ := H
             replace H : ((laws_toStepS.f kj57 l1).bind fun t446 => ((impl_BillTerm.f kj57 t442 t443 t446).bind fun bt449 => ((laws_eqMarkS.f kj57 bt449.1 t408).bind fun t453 => (if t453 = true then (laws_FnExactBillTerm.j2 kj57 t440 t439 (bt449.2 != t411)) else (laws_FnExactBillTerm.j2 kj57 t440 t439 true))))) = some r := H
             have A84 := Aside0.mk A840
             clear A840
             replace H := Option.bind_eq_some_iff.mp H
             obtain ⟨t446, A850, H⟩ := H
             replace H : ((impl_BillTerm.f kj57 t442 t443 t446).bind fun bt449 => ((laws_eqMarkS.f kj57 bt449.1 t408).bind fun t453 => (if t453 = true then (laws_FnExactBillTerm.j2 kj57 t440 t439 (bt449.2 != t411)) else (laws_FnExactBillTerm.j2 kj57 t440 t439 true)))) = some r := H
             have A85 := Aside0.mk A850
             clear A850
             replace H := Option.bind_eq_some_iff.mp H
             obtain ⟨⟨t449, t452⟩, A860, H⟩ := H
             replace H : ((laws_eqMarkS.f kj57 t449 t408).bind fun t453 => (if t453 = true then (laws_FnExactBillTerm.j2 kj57 t440 t439 (t452 != t411)) else (laws_FnExactBillTerm.j2 kj57 t440 t439 true))) = some r := H
             have A86 := Aside0.mk A860
             clear A860
             have HC87 := Aside0.mk H
             clear H
             obtain ⟨Ao88, co88, eo88⟩ := Kd.R_slice HO_10.out
             subst eo88
             go_upto_region 32 with (first | ((with_reducible refine gate_callee (f := 49) rfl ?_); refine goesL_ (some 85) rfl rfl Try.func49 kr rfl #[.slice Ao88 t420.length co88, .int .i64 1] rfl lm ?_; (with_reducible refine (laws_markMarkS.calls kj57 (fun k_ => some k_ = (.slice Ao88 t420.length co88 : Value).ownBlock) (.slice Ao88 t420.length co88) t420 1 t439 t440 w _ ?side1 ?side2 A80.out).mono ?_); (case side1 => repeat (first | (with_reducible first | exact HB.out | apply below_alloc | apply pw_below_drewN | apply below_drew1 | refine below_set ?_ GE398.out | refine below_set ?_ GE416.out) | exact HB.out)); (case side2 => exact Kd.R_tight rfl HO_10.out); rintro e w89 ⟨rfl, hy0, hb, hkp⟩; refine ⟨_, rfl, ?_⟩; have n0_ := Aside0.mk (Kd.R_mono (ok' := fun k_ => some k_ ≠ (.slice Ao88 t420.length co88 : Value).ownBlock) (Kd.R_keptB (HO_6.out) hkp (fun k_ hk_ hs_ => (hk_) hs_)) (fun k_ hk_ => hk_.1)); have n1_ := Aside0.mk (Kd.R_reok rfl hy0 (fun k_ e_ => HO_10.out.1 k_ e_)); have n2_ := Aside0.mk (Kd.R_mono (ok' := fun k_ => True) (Kd.R_keptB ((Kd.R_apart' HO_417001.out (Kd.R_typed HO_10.out) (by decide))) hkp (fun k_ hk_ hs_ => (hk_.2) hs_)) (fun k_ hk_ => trivial)); have n3_ := Aside0.mk (blk_kept (bz BK398) hkp (fun hs_ => (fun e_ => (Kd.R_ne HO_10.out BK398.out (by decide)) e_) hs_)); have n4_ := Aside0.mk (blk_kept (bz BK416) hkp (fun hs_ => (fun e_ => (Kd.R_ne HO_10.out BK416.out (by decide)) e_) hs_)); have n5_ := Aside0.mk (hb); clear HO_6 HO_10 HO_417001 BK398 BK416 HB; have HO_6 := n0_; have HO_10 := n1_; have HO_417001 := n2_; have BK398 := n3_; have BK416 := n4_; have HB := n5_; clear n0_ n1_ n2_ n3_ n4_ n5_; (try clear hb); (try clear hkp); (try clear hy0)) | ((with_reducible refine gate_callee (f := 50) rfl ?_); refine goesL_ (some 88) rfl rfl Try.func50 kr rfl #[.slice Ao88 t440.length co88, .int .i64 1] rfl (by (try simp only [List.map_toArray, List.map_cons, List.map_nil]); first | done | (rw [show t440.length = t420.length from (Kd.R_reads' HO_10.out).1.symm] <;> rfl) | rfl | (simp only [List.length_drop, List.length_take]; rfl)) ?_; (with_reducible refine (laws_heldMarkS.calls kj57 _ _ t440 1 t441 _ ?side1 ?side2 A81.out).mono ?_); (case side1 => repeat (first | exact (Kd.R_reads' HO_10.out).2.2 | (with_reducible refine Kd.C_alloc ?_ _) | (with_reducible refine Kd.C_drewN ?_ _) | (with_reducible refine Kd.C_drew ?_))); (case side2 => rw [show t440.length = t420.length from (Kd.R_reads' HO_10.out).1.symm]; exact (Kd.R_reads' HO_10.out).2.1); rintro e w' ⟨rfl, ⟨nd, rfl⟩⟩; refine ⟨_, rfl, ?_⟩; have hnb90 := NB398_416.out; have hnc90 := NB416_398.out; have hcz91_0 := cz0 BK398; have hcz91_1 := cz1 BK398; have hfz91_0 := blk_frozen BK398.out 0; have hfz91_1 := blk_frozen BK398.out 1) | ((with_reducible refine gate_callee (f := 28) rfl ?_); refine goesL_ (some 96) rfl rfl Try.func28 kr rfl #[.agg #[.int .i64 a0_0, .slice A0_1 l0_1.length c0_1]] rfl lm ?_; (with_reducible refine (laws_toHouse.calls kj57 a0_0 _ _ l0_1 t442 t443 _ ?side1 ?side2 A84.out).mono ?_); (case side1 => repeat (first | exact (Kd.C_below HR0_1.out bh) | (with_reducible refine Kd.C_alloc ?_ _) | (with_reducible refine Kd.C_drewN ?_ _) | (with_reducible refine Kd.C_drew ?_))); (case side2 => exact HC0_1.out); rintro e w92 ⟨v444, rfl, ho0, hb⟩; refine ⟨_, rfl, ?_⟩; have n0_ := Aside0.mk (Kd.R_below (rz HO_6) hb); have n1_ := Aside0.mk (Kd.R_below (rz HO_10) hb); have n2_ := Aside0.mk (Kd.R_elder' (rz HO_417001) (Kd.R_base ho0) hb); have n3_ := Aside0.mk (Kd.R_lower (Kd.R_new' ho0 (Kd.R_lt (rz HO_417001))) (below_size bh)); have n4_ := Aside0.mk (blk_below (bz BK398) hb); have n5_ := Aside0.mk (blk_below (bz BK416) hb); have n6_ := Aside0.mk (below_step bh hb); clear HO_6 HO_10 HO_417001 BK398 BK416 HB; have HO_6 := n0_; have HO_10 := n1_; have HO_417001 := n2_; have HO445 := n3_; have BK398 := n4_; have BK416 := n5_; have HB := n6_; clear n0_ n1_ n2_ n3_ n4_ n5_ n6_; (try clear hb); (try clear hb2); (try clear hk); (try clear hi); (try clear ho0)) | ((with_reducible refine gate_callee (f := 29) rfl ?_); refine goesL_ (some 98) rfl rfl Try.func29 kr rfl #[.slice A1 l1.length c1] rfl lm ?_; (with_reducible refine (laws_toStepS.calls kj57 _ _ l1 t446 _ ?side1 ?side2 A85.out).mono ?_); (case side1 => repeat (first | exact (Kd.C_below HR1.out HB.out) | (with_reducible refine Kd.C_alloc ?_ _) | (with_reducible refine Kd.C_drewN ?_ _) | (with_reducible refine Kd.C_drew ?_))); (case side2 => exact HC1.out); rintro e w93 ⟨v447, rfl, ho0, hb⟩; refine ⟨_, rfl, ?_⟩; have n0_ := Aside0.mk (Kd.R_below (rz HO_6) hb); have n1_ := Aside0.mk (Kd.R_below (rz HO_10) hb); have n2_ := Aside0.mk (Kd.R_below (rz HO_417001) hb); have n3_ := Aside0.mk (Kd.R_below (rz HO445) hb); have n4_ := Aside0.mk (Kd.S_lower (Kd.S_new' (Kd.S_new' ho0 (Kd.R_lt (rz HO_6))) (Kd.R_lt (rz HO_10))) (below_size bh)); have n5_ := Aside0.mk (blk_below (bz BK398) hb); have n6_ := Aside0.mk (blk_below (bz BK416) hb); have n7_ := Aside0.mk (below_step bh hb); clear HO_6 HO_10 HO_417001 HO445 BK398 BK416 HB; have HO_6 := n0_; have HO_10 := n1_; have HO_417001 := n2_; have HO445 := n3_; have HO448 := n4_; have BK398 := n5_; have BK416 := n6_; have HB := n7_; clear n0_ n1_ n2_ n3_ n4_ n5_ n6_ n7_; (try clear hb); (try clear hb2); (try clear hk); (try clear hi); (try clear ho0); obtain ⟨Ao94, co94, eo94⟩ := Kd.R_slice HO445.out; subst eo94; obtain ⟨Ao95, co95, eo95⟩ := Kd.S_slice HO448.out; subst eo95) | ((with_reducible refine gate_callee (f := 42) rfl ?_); refine goesL_ (some 99) rfl rfl Try.func42 kr rfl #[.agg #[.int .i64 t442, .slice Ao94 t443.length co94], .slice Ao95 t446.length co95] rfl lm ?_; (with_reducible refine (impl_BillTerm.calls kj57 t442 _ _ t443 _ _ t446 t449 t452 _ ?side1 ?side2 ?side3 ?side4 A86.out).mono ?_); (case side1 => repeat (first | exact (Kd.R_reads' HO445.out).2.2 | (with_reducible refine Kd.C_alloc ?_ _) | (with_reducible refine Kd.C_drewN ?_ _) | (with_reducible refine Kd.C_drew ?_))); (case side2 => exact (Kd.R_reads' HO445.out).2.1); (case side3 => repeat (first | exact (Kd.S_reads' HO448.out).2.2 | (with_reducible refine Kd.C_alloc ?_ _) | (with_reducible refine Kd.C_drewN ?_ _) | (with_reducible refine Kd.C_drew ?_))); (case side4 => exact (Kd.S_reads' HO448.out).2.1); rintro e w96 ⟨v450, rfl, ho0, hb⟩; refine ⟨_, rfl, ?_⟩; have n0_ := Aside0.mk (Kd.R_elder' (rz HO_6) (Kd.R_base ho0) hb); have n1_ := Aside0.mk (Kd.R_elder' (rz HO_10) (Kd.R_base ho0) hb); have n2_ := Aside0.mk (Kd.R_below (rz HO_417001) hb); have n3_ := Aside0.mk (Kd.R_below (rz HO445) hb); have n4_ := Aside0.mk (Kd.S_elder' (sz HO448) (Kd.R_base ho0) hb); have n5_ := Aside0.mk (Kd.R_lower (Kd.R_new' (Kd.R_new' ho0 (Kd.R_lt (rz HO_6))) (Kd.R_lt (rz HO_10))) (below_size bh)); have n6_ := Aside0.mk (blk_below (bz BK398) hb); have n7_ := Aside0.mk (blk_below (bz BK416) hb); have n8_ := Aside0.mk (below_step bh hb); clear HO_6 HO_10 HO_417001 HO445 HO448 BK398 BK416 HB; have HO_6 := n0_; have HO_10 := n1_; have HO_417001 := n2_; have HO445 := n3_; have HO448 := n4_; have HO451 := n5_; have BK398 := n6_; have BK416 := n7_; have HB := n8_; clear n0_ n1_ n2_ n3_ n4_ n5_ n6_ n7_ n8_; (try clear hb); (try clear hb2); (try clear hk); (try clear hi); (try clear ho0)))
             (try simp only [Act.put, List.setIfInBounds_toArray, List.set_cons_zero, List.set_cons_succ])
             go_cut [110] (fun v110 wc => ∃ (kq : Nat) (x110_86 : Bool), v110 = .bool x110_86 ∧ Aside0 (laws_FnExactBillTerm.j2 kq t440 t439 x110_86 = some r) ∧ Aside0 (kq ≤ kj57) ∧ Aside0 (Kd.R k78 78 wc w.heap.size (fun _ => True) (.slice Ao88 t420.length co88) t440) ∧ Aside0 (Kd.R (Kd.int .i64) 3 wc w.heap.size (fun _ => True) (.slice Ao36 t435.length co36) t435) ∧ Aside0 (wc.heap[gb398]? = some (.cells #[.int .i64 a0_0, (.slice A0_1 l0_1.length c0_1)] 44 (0, 0))) ∧ Aside0 (wc.heap[gb416]? = some (.cells #[.int .i64 t412, (.slice Ao36 t435.length co36)] 25 (0, 0))) ∧ Aside0 (Below w.heap.size w wc))
             case first =>
              have H := HC87.out
              clear HC87
              replace H := Option.bind_eq_some_iff.mp H
              obtain ⟨t453, A970, H⟩ := H
              replace H : (if t453 = true then (laws_FnExactBillTerm.j2 kj57 t440 t439 (t452 != t411)) else (laws_FnExactBillTerm.j2 kj57 t440 t439 true)) = some r := H
              have A97 := Aside0.mk A970
              clear A970
              by_cases c98 : t453 = true
              ·subst c98
               have H1 : (laws_FnExactBillTerm.j2 kj57 t440 t439 (t452 != t411)) = some r := by rw [if_pos rfl] at H; exact H
               clear H
               have H := H1
               clear H1
               have H' := Aside0.mk H
               clear H
               obtain ⟨Ao99, co99, eo99⟩ := Kd.R_slice HO451.out
               subst eo99
               obtain ⟨Ao100, co100, eo100⟩ := Kd.R_slice HO_6.out
               subst eo100
               go_wp2_with (first | ((with_reducible refine gate_callee (f := 46) rfl ?_); refine goesL_ (some 104) rfl rfl Try.func46 kr rfl #[.slice Ao99 t449.length co99, .slice Ao100 t408.length co100] rfl lm ?_; (with_reducible refine (laws_eqMarkS.calls kj57 _ _ t449 _ _ t408 true _ ?side1 ?side2 ?side3 ?side4 A97.out).mono ?_); (case side1 => repeat (first | exact (Kd.R_reads' HO451.out).2.2 | (with_reducible refine Kd.C_alloc ?_ _) | (with_reducible refine Kd.C_drewN ?_ _) | (with_reducible refine Kd.C_drew ?_))); (case side2 => exact (Kd.R_reads' HO451.out).2.1); (case side3 => repeat (first | exact (Kd.R_reads' HO_6.out).2.2 | (with_reducible refine Kd.C_alloc ?_ _) | (with_reducible refine Kd.C_drewN ?_ _) | (with_reducible refine Kd.C_drew ?_))); (case side4 => exact (Kd.R_reads' HO_6.out).2.1); rintro e w101 ⟨rfl, hb⟩; refine ⟨_, rfl, ?_⟩; have n0_ := Aside0.mk (Kd.R_below (rz HO_6) hb); have n1_ := Aside0.mk (Kd.R_below (rz HO_10) hb); have n2_ := Aside0.mk (Kd.R_below (rz HO_417001) hb); have n3_ := Aside0.mk (Kd.R_below (rz HO445) hb); have n4_ := Aside0.mk (Kd.S_below (sz HO448) hb); have n5_ := Aside0.mk (Kd.R_below (rz HO451) hb); have n6_ := Aside0.mk (blk_below (bz BK398) hb); have n7_ := Aside0.mk (blk_below (bz BK416) hb); have n8_ := Aside0.mk (below_step bh hb); clear HO_6 HO_10 HO_417001 HO445 HO448 HO451 BK398 BK416 HB; have HO_6 := n0_; have HO_10 := n1_; have HO_417001 := n2_; have HO445 := n3_; have HO448 := n4_; have HO451 := n5_; have BK398 := n6_; have BK416 := n7_; have HB := n8_; clear n0_ n1_ n2_ n3_ n4_ n5_ n6_ n7_ n8_; (try clear hb); (try clear hb2); (try clear hk); (try clear hi)))
               go_meet
               case rel => exact ⟨_, ((t452 != t411)), (by first | rfl | (simp; done) | (simp [*]; done)), H', ⟨by have := HJ19.out; have := HJ57.out; first | omega | exact Nat.le_refl _⟩, ⟨by (try simp only [hl417001_57]); (with_reducible repeat (first | apply Kd.R_alloc | apply Kd.R_drewN | apply Kd.R_drew)); exact Kd.R_mono HO_10.out (fun _ hk => trivial)⟩, ⟨by (try simp only [hl417001_57]); (with_reducible repeat (first | apply Kd.R_alloc | apply Kd.R_drewN | apply Kd.R_drew)); exact Kd.R_mono HO_417001.out (fun _ hk => trivial)⟩, ⟨by (try simp only [hl417001_57]); (with_reducible repeat (first | refine blk_drewN ?_ _ | refine blk_drew ?_ | refine blk_alloc ?_ _)); exact BK398.out⟩, ⟨by (try simp only [hl417001_57]); (with_reducible repeat (first | refine blk_drewN ?_ _ | refine blk_drew ?_ | refine blk_alloc ?_ _)); exact BK416.out⟩, ⟨by exact bh⟩⟩
              ·replace c98 := Bool.eq_false_iff.mpr c98
               subst c98
               have H1 : (laws_FnExactBillTerm.j2 kj57 t440 t439 true) = some r := by rw [if_neg (show ¬ (false = true) by decide)] at H; exact H
               clear H
               have H := H1
               clear H1
               have H' := Aside0.mk H
               clear H
               obtain ⟨Ao102, co102, eo102⟩ := Kd.R_slice HO451.out
               subst eo102
               obtain ⟨Ao103, co103, eo103⟩ := Kd.R_slice HO_6.out
               subst eo103
               go_wp2_with (first | ((with_reducible refine gate_callee (f := 46) rfl ?_); refine goesL_ (some 104) rfl rfl Try.func46 kr rfl #[.slice Ao102 t449.length co102, .slice Ao103 t408.length co103] rfl lm ?_; (with_reducible refine (laws_eqMarkS.calls kj57 _ _ t449 _ _ t408 false _ ?side1 ?side2 ?side3 ?side4 A97.out).mono ?_); (case side1 => repeat (first | exact (Kd.R_reads' HO451.out).2.2 | (with_reducible refine Kd.C_alloc ?_ _) | (with_reducible refine Kd.C_drewN ?_ _) | (with_reducible refine Kd.C_drew ?_))); (case side2 => exact (Kd.R_reads' HO451.out).2.1); (case side3 => repeat (first | exact (Kd.R_reads' HO_6.out).2.2 | (with_reducible refine Kd.C_alloc ?_ _) | (with_reducible refine Kd.C_drewN ?_ _) | (with_reducible refine Kd.C_drew ?_))); (case side4 => exact (Kd.R_reads' HO_6.out).2.1); rintro e w104 ⟨rfl, hb⟩; refine ⟨_, rfl, ?_⟩; have n0_ := Aside0.mk (Kd.R_below (rz HO_6) hb); have n1_ := Aside0.mk (Kd.R_below (rz HO_10) hb); have n2_ := Aside0.mk (Kd.R_below (rz HO_417001) hb); have n3_ := Aside0.mk (Kd.R_below (rz HO445) hb); have n4_ := Aside0.mk (Kd.S_below (sz HO448) hb); have n5_ := Aside0.mk (Kd.R_below (rz HO451) hb); have n6_ := Aside0.mk (blk_below (bz BK398) hb); have n7_ := Aside0.mk (blk_below (bz BK416) hb); have n8_ := Aside0.mk (below_step bh hb); clear HO_6 HO_10 HO_417001 HO445 HO448 HO451 BK398 BK416 HB; have HO_6 := n0_; have HO_10 := n1_; have HO_417001 := n2_; have HO445 := n3_; have HO448 := n4_; have HO451 := n5_; have BK398 := n6_; have BK416 := n7_; have HB := n8_; clear n0_ n1_ n2_ n3_ n4_ n5_ n6_ n7_ n8_; (try clear hb); (try clear hb2); (try clear hk); (try clear hi)))
               go_meet
               case rel => exact ⟨_, (true), (by first | rfl | (simp; done) | (simp [*]; done)), H', ⟨by have := HJ19.out; have := HJ57.out; first | omega | exact Nat.le_refl _⟩, ⟨by (try simp only [hl417001_57]); (with_reducible repeat (first | apply Kd.R_alloc | apply Kd.R_drewN | apply Kd.R_drew)); exact Kd.R_mono HO_10.out (fun _ hk => trivial)⟩, ⟨by (try simp only [hl417001_57]); (with_reducible repeat (first | apply Kd.R_alloc | apply Kd.R_drewN | apply Kd.R_drew)); exact Kd.R_mono HO_417001.out (fun _ hk => trivial)⟩, ⟨by (try simp only [hl417001_57]); (with_reducible repeat (first | refine blk_drewN ?_ _ | refine blk_drew ?_ | refine blk_alloc ?_ _)); exact BK398.out⟩, ⟨by (try simp only [hl417001_57]); (with_reducible repeat (first | refine blk_drewN ?_ _ | refine blk_drew ?_ | refine blk_alloc ?_ _)); exact BK416.out⟩, ⟨by exact bh⟩⟩
             case rest =>
              clear HC87
              try clear c1
              try clear c2
              try clear p2
              try clear c3
              try clear c4
              try clear c4b0
              try clear c5
              try clear c6
              try clear c7
              try clear c8
              try clear c9
              try clear c9b0
              try clear c13
              try clear c26
              try clear c27
              try clear c28
              try clear c29
              try clear c30
              try clear c31
              try clear c34
              try clear c42
              try clear c43
              try clear c46
              try clear c47
              try clear c48
              try clear c49
              try clear c50
              try clear c52
              try clear c55
              try clear c66
              try clear c70
              try clear c70b0
              try clear c72
              try clear c79
              try clear c82
              try clear c82b0
              try clear c82b1
              try clear c83
              try clear c83b0
              try clear c83b1
              try clear c90
              try clear c98
              try clear hcz11_0
              try clear hcz11_1
              try clear hcz22_0
              try clear hcz22_1
              try clear hcz25_0
              try clear hcz25_1
              try clear hcz31_0
              try clear hcz31_1
              try clear hcz35_0
              try clear hcz35_1
              try clear hcz38_0
              try clear hcz38_1
              try clear hcz67_0
              try clear hcz67_1
              try clear hcz6_0
              try clear hcz6_1
              try clear hcz91_0
              try clear hcz91_1
              try clear hfz11_0
              try clear hfz11_1
              try clear hfz22_0
              try clear hfz22_1
              try clear hfz25_0
              try clear hfz25_1
              try clear hfz31_0
              try clear hfz31_1
              try clear hfz35_0
              try clear hfz35_1
              try clear hfz38_0
              try clear hfz38_1
              try clear hfz67_0
              try clear hfz67_1
              try clear hfz6_0
              try clear hfz6_1
              try clear hfz91_0
              try clear hfz91_1
              try clear p2
              obtain ⟨kq, x110_86, rfl, HA, HJ86, HO_10, HO_417001, BK398, BK416, HB⟩ := hcut
              have hl10_86 := (Kd.R_reads' HO_10.out).1
              rw [hl10_86] at HO_10
              (try simp only [hl10_86])
              (try simp only [hl10_86] at BK398)
              (try simp only [hl10_86] at BK416)
              (try simp only [hl10_86] at HO_417001)
              cases kq with
              | zero => exact absurd HA.out (by simp [laws_FnExactBillTerm.j2])
              | succ kj86 =>
               have H := HA.out
               clear HA
               simp only [laws_FnExactBillTerm.j2] at H
               by_cases c105 : x110_86 = true
               ·subst c105
                have H1 : (none) = some r := by rw [if_pos rfl] at H; exact H
                clear H
                have H := H1
                clear H1
                exact absurd H (by simp)
               ·replace c105 := Bool.eq_false_iff.mpr c105
                subst c105
                have H1 : ((laws_heldMarkS.f kj86 t440 1).bind fun t454 => (if t454 < 0 then (none) else (if t454 = t439 then (some true) else (none)))) = some r := by rw [if_neg (show ¬ (false = true) by decide)] at H; exact H
                clear H
                have H := H1
                clear H1
                replace H := Option.bind_eq_some_iff.mp H
                obtain ⟨t454, A1060, H⟩ := H
                replace H : (if t454 < 0 then (none) else (if t454 = t439 then (some true) else (none))) = some r := H
                have A106 := Aside0.mk A1060
                clear A1060
                by_cases c107 : t454 < 0
                ·rw [if_pos c107] at H
                 exact absurd H (by simp)
                ·rw [if_neg c107] at H
                 have c107b0 : decide (t454 < 0) = false := decide_eq_false c107
                 (try (have c107z0 := c107b0; simp only [hl417001_57] at c107z0))
                 (try (have c107z1 := c107b1; simp only [hl417001_57] at c107z1))
                 (try (have c107z0 := c107b0; simp only [hl10_86] at c107z0))
                 (try (have c107z1 := c107b1; simp only [hl10_86] at c107z1))
                 clear c107
                 by_cases c108 : t454 = t439
                 ·rw [if_pos c108] at H
                  have c108b0 : (t454 == t439) = true := beq_iff_eq.mpr c108
                  have c108b1 : (t454 != t439) = false := bne_eq_false_iff_eq.mpr c108
                  (try (have c108z0 := c108b0; simp only [hl417001_57] at c108z0))
                  (try (have c108z1 := c108b1; simp only [hl417001_57] at c108z1))
                  (try (have c108z0 := c108b0; simp only [hl10_86] at c108z0))
                  (try (have c108z1 := c108b1; simp only [hl10_86] at c108z1))
                  clear c108
                  obtain rfl := Option.some.inj H
                  go_wp2_with (first | ((with_reducible refine gate_callee (f := 50) rfl ?_); refine goesL_ (some 113) rfl rfl Try.func50 kr rfl #[.slice Ao88 t440.length co88, .int .i64 1] rfl lm ?_; (with_reducible refine (laws_heldMarkS.calls kj86 _ _ t440 1 t454 _ ?side1 ?side2 A106.out).mono ?_); (case side1 => repeat (first | exact (Kd.R_reads' HO_10.out).2.2 | (with_reducible refine Kd.C_alloc ?_ _) | (with_reducible refine Kd.C_drewN ?_ _) | (with_reducible refine Kd.C_drew ?_))); (case side2 => exact (Kd.R_reads' HO_10.out).2.1); rintro e w' ⟨rfl, ⟨nd, rfl⟩⟩; refine ⟨_, rfl, ?_⟩))
                  go_ret
                  exact ⟨by first | rfl | (simp [errW_none, errW_some] <;> rfl) | (simp [*, errW_none, errW_some] <;> rfl), by exact bh⟩
                 ·rw [if_neg c108] at H
                  exact absurd H (by simp)
            ·rw [if_neg c83] at H
             exact absurd H (by simp)
       ·replace c55 := Bool.eq_false_iff.mpr c55
        subst c55
        have H1 : (none) = some r := by rw [if_neg (show ¬ (false = true) by decide)] at H; exact H
        clear H
        have H := H1
        clear H1
        exact absurd H (by simp)
      ·replace c52 := Bool.eq_false_iff.mpr c52
       subst c52
       have H1 : (none) = some r := by rw [if_neg (show ¬ (false = true) by decide)] at H; exact H
       clear H
       have H := H1
       clear H1
       exact absurd H (by simp)

def laws_FnExactBillTerm.Pure : Prop := ∀ (a0_0 : Int) (l0_1 : List Int) (l1 : List (S85)), Opens.pInt .i64 a0_0 → Opens.pSlice (Opens.pInt .i64) l0_1 → Opens.pSlice (Opens.pIso (Opens.pPair (Opens.pSlice (Opens.pIso (Opens.pPair (Opens.pInt .i64) (Opens.pPair (Opens.pInt .i64) (Opens.pInt .i64))) (fun x : S104 => (x.f0, x.f1, x.f2)))) (Opens.pPair (Opens.pInt .i64) (Opens.pInt .i64))) (fun x : S85 => (x.f0, x.f1, x.f2))) l1 → ∃ k, laws_FnExactBillTerm.f k a0_0 l0_1 l1 = some true

end Go.Proofs.Ytnpjlpkbefdnlaa.QFnExactBillTerm
