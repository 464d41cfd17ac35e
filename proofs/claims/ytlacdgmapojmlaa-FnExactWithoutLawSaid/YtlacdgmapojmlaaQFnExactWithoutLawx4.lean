-- Printed for this claim by a turned copy of the print (wip/myprint). Lean checks it. Squeezed. Worded. Tightened.
import Derived.Test.YtlacdgmapojmlaaQFnExactWithoutLawx0
import Derived.Test.YtlacdgmapojmlaaQFnExactWithoutLawx1
import Derived.Test.YtlacdgmapojmlaaQFnExactWithoutLawx2
import Derived.Test.YtlacdgmapojmlaaQFnExactWithoutLawx3
namespace Go.Proofs.Ytlacdgmapojmlaa.QFnExactWithoutLaw
open Go.RowKit Go.Proofs.YtlacdgmapojmlaaW.PrintWords Go.Proofs.YtlacdgmapojmlaaW.PrintLast Go.Proofs.YtlacdgmapojmlaaW.PrintMore
attribute [local go_sem] max2_int min2_int max_two min_two max_three min_three max_four min_four Opens.cell_twice   -- for this text's walks alone
set_option linter.unusedVariables false
set_option linter.unusedSimpArgs false

/-! ### laws_FnExactWithoutLaw: function 8 -/
mutual
def laws_FnExactWithoutLaw.j0 : Nat → List (S23) → Int → List (S25) → Bool → List (S25) → List (S25) → Bool → Bool → Option (Bool)
 | 0, _, _, _, _, _, _, _, _ => none
 | k + 1, x0, x1, x6, x7, x8, x9, x10, x44 => if x44 = true then (none) else ((laws_toLawS.f k x0).bind fun t195 => ((laws_eqLawS.f k x8 t195).bind fun t198 => (if t198 = true then ((laws_markLawS.f k x8 1).bind fun bt199 => (if bt199.1 < 0 then (laws_FnExactWithoutLaw.j1 k x0 x1 x6 x7 x9 true) else ((laws_eqLawS.f k x9 x6).bind fun t201 => (if t201 = true then (laws_FnExactWithoutLaw.j1 k x0 x1 x6 x7 x9 (x10 != x7)) else (laws_FnExactWithoutLaw.j1 k x0 x1 x6 x7 x9 true))))) else (none))))
def laws_FnExactWithoutLaw.j1 : Nat → List (S23) → Int → List (S25) → Bool → List (S25) → Bool → Option (Bool)
 | 0, _, _, _, _, _, _ => none
 | k + 1, x0, x1, x6, x7, x9, x65 => if x65 = true then (none) else ((laws_markLawS.f k x9 1).bind fun bt202 => ((laws_heldLawS.f k bt202.2 1).bind fun t204 => (if t204 < 0 then (none) else (if t204 = bt202.1 then ((laws_toLawS.f k x0).bind fun t205 => ((impl_WithoutLaw.f k t205 x1).bind fun bt208 => ((laws_eqLawS.f k bt208.1 x6).bind fun t212 => (if t212 = true then (laws_FnExactWithoutLaw.j2 k bt202.2 bt202.1 (bt208.2 != x7)) else (laws_FnExactWithoutLaw.j2 k bt202.2 bt202.1 true))))) else (none)))))
def laws_FnExactWithoutLaw.j2 : Nat → List (S25) → Int → Bool → Option (Bool)
 | 0, _, _, _ => none
 | k + 1, x9, x12, x92 => if x92 = true then (none) else ((laws_heldLawS.f k x9 1).bind fun t213 => (if t213 < 0 then (none) else (if t213 = x12 then (some true) else (none))))
end
def laws_FnExactWithoutLaw.f (k : Nat) (l0 : List (S23)) (a1 : Int) : Option (Bool) := (laws_szLawS.f l0 1048576).bind fun t179 => (if t179 < 0 then (some true) else ((laws_toLawS.f k l0).bind fun t180 => ((spec_WithoutLaw.f k t180 a1).bind fun bt183 => ((laws_toLawS.f k l0).bind fun t187 => ((impl_WithoutLaw.f k t187 a1).bind fun bt190 => ((laws_eqLawS.f k bt190.1 bt183.1).bind fun t194 => (if t194 = true then (laws_FnExactWithoutLaw.j0 k l0 a1 bt183.1 bt183.2 t187 bt190.1 bt190.2 (bt190.2 != bt183.2)) else (laws_FnExactWithoutLaw.j0 k l0 a1 bt183.1 bt183.2 t187 bt190.1 bt190.2 true))))))))
theorem laws_FnExactWithoutLaw.mono_l : ∀ k, (∀ y0 y1 y2 y3 y4 y5 y6 y7, LeO (laws_FnExactWithoutLaw.j0 k y0 y1 y2 y3 y4 y5 y6 y7) (laws_FnExactWithoutLaw.j0 (k + 1) y0 y1 y2 y3 y4 y5 y6 y7)) ∧ (∀ y0 y1 y2 y3 y4 y5, LeO (laws_FnExactWithoutLaw.j1 k y0 y1 y2 y3 y4 y5) (laws_FnExactWithoutLaw.j1 (k + 1) y0 y1 y2 y3 y4 y5)) ∧ (∀ y0 y1 y2, LeO (laws_FnExactWithoutLaw.j2 k y0 y1 y2) (laws_FnExactWithoutLaw.j2 (k + 1) y0 y1 y2))
 | 0 => ⟨fun _ _ _ _ _ _ _ _ r h => by simp [laws_FnExactWithoutLaw.j0] at h, fun _ _ _ _ _ _ r h => by simp [laws_FnExactWithoutLaw.j1] at h, fun _ _ _ r h => by simp [laws_FnExactWithoutLaw.j2] at h⟩
 | k + 1 => by
  obtain ⟨ih0, ih1, ih2⟩ := laws_FnExactWithoutLaw.mono_l k
  refine ⟨?_, ?_, ?_⟩
  ·intro y0 y1 y2 y3 y4 y5 y6 y7
   unfold laws_FnExactWithoutLaw.j0
   repeat' first
   | (with_reducible exact ih0 _ _ _ _ _ _ _ _)
   | (with_reducible exact ih1 _ _ _ _ _ _)
   | (with_reducible exact ih2 _ _ _)
   | (with_reducible exact impl_WithoutLaw.mono _ _ _)
   | (with_reducible exact laws_eqLawS.mono _ _ _)
   | (with_reducible exact laws_heldLawS.mono _ _ _)
   | (with_reducible exact laws_markLawS.mono _ _ _)
   | (with_reducible exact laws_toLawS.mono _ _)
   | (with_reducible exact spec_WithoutLaw.mono _ _ _)
   | (with_reducible exact LeO.refl _)
   | (with_reducible exact LeO.none _)
   | (with_reducible refine LeO.ite ?_ ?_)
   | (with_reducible refine LeO.bind ?_ (fun _ => ?_))
   | exact ih0 _ _ _ _ _ _ _ _
   | exact ih1 _ _ _ _ _ _
   | exact ih2 _ _ _
   | exact impl_WithoutLaw.mono _ _ _
   | exact laws_eqLawS.mono _ _ _
   | exact laws_heldLawS.mono _ _ _
   | exact laws_markLawS.mono _ _ _
   | exact laws_toLawS.mono _ _
   | exact spec_WithoutLaw.mono _ _ _
   | exact LeO.none _
   | refine LeO.ite ?_ ?_
   | refine LeO.bind ?_ (fun _ => ?_)
  ·intro y0 y1 y2 y3 y4 y5
   unfold laws_FnExactWithoutLaw.j1
   repeat' first
   | (with_reducible exact ih0 _ _ _ _ _ _ _ _)
   | (with_reducible exact ih1 _ _ _ _ _ _)
   | (with_reducible exact ih2 _ _ _)
   | (with_reducible exact impl_WithoutLaw.mono _ _ _)
   | (with_reducible exact laws_eqLawS.mono _ _ _)
   | (with_reducible exact laws_heldLawS.mono _ _ _)
   | (with_reducible exact laws_markLawS.mono _ _ _)
   | (with_reducible exact laws_toLawS.mono _ _)
   | (with_reducible exact spec_WithoutLaw.mono _ _ _)
   | (with_reducible exact LeO.refl _)
   | (with_reducible exact LeO.none _)
   | (with_reducible refine LeO.ite ?_ ?_)
   | (with_reducible refine LeO.bind ?_ (fun _ => ?_))
   | exact ih0 _ _ _ _ _ _ _ _
   | exact ih1 _ _ _ _ _ _
   | exact ih2 _ _ _
   | exact impl_WithoutLaw.mono _ _ _
   | exact laws_eqLawS.mono _ _ _
   | exact laws_heldLawS.mono _ _ _
   | exact laws_markLawS.mono _ _ _
   | exact laws_toLawS.mono _ _
   | exact spec_WithoutLaw.mono _ _ _
   | exact LeO.none _
   | refine LeO.ite ?_ ?_
   | refine LeO.bind ?_ (fun _ => ?_)
  ·intro y0 y1 y2
   unfold laws_FnExactWithoutLaw.j2
   repeat' first
   | (with_reducible exact ih0 _ _ _ _ _ _ _ _)
   | (with_reducible exact ih1 _ _ _ _ _ _)
   | (with_reducible exact ih2 _ _ _)
   | (with_reducible exact impl_WithoutLaw.mono _ _ _)
   | (with_reducible exact laws_eqLawS.mono _ _ _)
   | (with_reducible exact laws_heldLawS.mono _ _ _)
   | (with_reducible exact laws_markLawS.mono _ _ _)
   | (with_reducible exact laws_toLawS.mono _ _)
   | (with_reducible exact spec_WithoutLaw.mono _ _ _)
   | (with_reducible exact LeO.refl _)
   | (with_reducible exact LeO.none _)
   | (with_reducible refine LeO.ite ?_ ?_)
   | (with_reducible refine LeO.bind ?_ (fun _ => ?_))
   | exact ih0 _ _ _ _ _ _ _ _
   | exact ih1 _ _ _ _ _ _
   | exact ih2 _ _ _
   | exact impl_WithoutLaw.mono _ _ _
   | exact laws_eqLawS.mono _ _ _
   | exact laws_heldLawS.mono _ _ _
   | exact laws_markLawS.mono _ _ _
   | exact laws_toLawS.mono _ _
   | exact spec_WithoutLaw.mono _ _ _
   | exact LeO.none _
   | refine LeO.ite ?_ ?_
   | refine LeO.bind ?_ (fun _ => ?_)
theorem laws_FnExactWithoutLaw.mono : ∀ a0 a1 k, LeO (laws_FnExactWithoutLaw.f k a0 a1) (laws_FnExactWithoutLaw.f (k + 1) a0 a1) := by
 intro a0 a1 k
 obtain ⟨ih0, ih1, ih2⟩ := laws_FnExactWithoutLaw.mono_l k
 unfold laws_FnExactWithoutLaw.f
 repeat' first
   | (with_reducible exact ih0 _ _ _ _ _ _ _ _)
   | (with_reducible exact ih1 _ _ _ _ _ _)
   | (with_reducible exact ih2 _ _ _)
   | (with_reducible exact impl_WithoutLaw.mono _ _ _)
   | (with_reducible exact laws_eqLawS.mono _ _ _)
   | (with_reducible exact laws_heldLawS.mono _ _ _)
   | (with_reducible exact laws_markLawS.mono _ _ _)
   | (with_reducible exact laws_toLawS.mono _ _)
   | (with_reducible exact spec_WithoutLaw.mono _ _ _)
   | (with_reducible exact LeO.refl _)
   | (with_reducible exact LeO.none _)
   | (with_reducible refine LeO.ite ?_ ?_)
   | (with_reducible refine LeO.bind ?_ (fun _ => ?_))
   | exact ih0 _ _ _ _ _ _ _ _
   | exact ih1 _ _ _ _ _ _
   | exact ih2 _ _ _
   | exact impl_WithoutLaw.mono _ _ _
   | exact laws_eqLawS.mono _ _ _
   | exact laws_heldLawS.mono _ _ _
   | exact laws_markLawS.mono _ _ _
   | exact laws_toLawS.mono _ _
   | exact spec_WithoutLaw.mono _ _ _
   | exact LeO.none _
   | refine LeO.ite ?_ ?_
   | refine LeO.bind ?_ (fun _ => ?_)
set_option maxHeartbeats 8000000 in
set_option maxRecDepth 100000 in
theorem laws_FnExactWithoutLaw.calls (k : Nat) (A0 : Option Addr) (c0 : Nat) (l0 : List (S23)) (a1 : Int) (r : Bool) (w : World) (hr0 : Kd.C k23 w A0 l0.length l0) (hc0 : l0.length ≤ c0) (h : laws_FnExactWithoutLaw.f k l0 a1 = some r) :
  Calls Try.prog 8 #[.slice A0 l0.length c0, .int .i64 a1] w fun e w' => e = .returned (.bool r) ∧ Below w.heap.size w w' := by
 have HR0 := Aside0.mk hr0
 have HC0 := Aside0.mk hc0
 clear hr0 hc0
 have HB := Aside0.mk (Below.refl w.heap.size w)
 have H : ((laws_szLawS.f l0 1048576).bind fun t179 => (if t179 < 0 then (some true) else ((laws_toLawS.f k l0).bind fun t180 => ((spec_WithoutLaw.f k t180 a1).bind fun bt183 => ((laws_toLawS.f k l0).bind fun t187 => ((impl_WithoutLaw.f k t187 a1).bind fun bt190 => ((laws_eqLawS.f k bt190.1 bt183.1).bind fun t194 => (if t194 = true then (laws_FnExactWithoutLaw.j0 k l0 a1 bt183.1 bt183.2 t187 bt190.1 bt190.2 (bt190.2 != bt183.2)) else (laws_FnExactWithoutLaw.j0 k l0 a1 bt183.1 bt183.2 t187 bt190.1 bt190.2 true))))))))) = some r := h
 clear h
 replace H := Option.bind_eq_some_iff.mp H
 obtain ⟨t179, A30, H⟩ := H
 replace H : (if t179 < 0 then (some true) else ((laws_toLawS.f k l0).bind fun t180 => ((spec_WithoutLaw.f k t180 a1).bind fun bt183 => ((laws_toLawS.f k l0).bind fun t187 => ((impl_WithoutLaw.f k t187 a1).bind fun bt190 => ((laws_eqLawS.f k bt190.1 bt183.1).bind fun t194 => (if t194 = true then (laws_FnExactWithoutLaw.j0 k l0 a1 bt183.1 bt183.2 t187 bt190.1 bt190.2 (bt190.2 != bt183.2)) else (laws_FnExactWithoutLaw.j0 k l0 a1 bt183.1 bt183.2 t187 bt190.1 bt190.2 true)))))))) = some r := H
 have A3 := Aside0.mk A30
 clear A30
 by_cases c4 : t179 < 0
 ·rw [if_pos c4] at H
  have c4b0 : decide (t179 < 0) = true := decide_eq_true c4
  clear c4
  obtain rfl := Option.some.inj H
  go_enter Try.func8, Try.ntmps8
  go_wp2_with (first | ((with_reducible refine gate_callee (f := 19) rfl ?_); refine goesL_ (some 18) rfl rfl Try.func19 kr rfl #[.slice A0 l0.length c0, .int .i64 1048576] rfl lm ?_; (with_reducible refine (laws_szLawS.calls _ _ l0 1048576 t179 _ ?side1 ?side2 A3.out).mono ?_); (case side1 => repeat (first | exact HR0.out | (with_reducible refine Kd.C_alloc ?_ _) | (with_reducible refine Kd.C_drewN ?_ _) | (with_reducible refine Kd.C_drew ?_))); (case side2 => exact HC0.out); rintro e w' ⟨rfl, ⟨nd, rfl⟩⟩; refine ⟨_, rfl, ?_⟩))
  go_ret
  exact ⟨by first | rfl | (simp [errW_none, errW_some] <;> rfl) | (simp [*, errW_none, errW_some] <;> rfl), by exact bh⟩
 ·rw [if_neg c4] at H
  have c4b0 : decide (t179 < 0) = false := decide_eq_false c4
  clear c4
  replace H := Option.bind_eq_some_iff.mp H
  obtain ⟨t180, A50, H⟩ := H
  replace H : ((spec_WithoutLaw.f k t180 a1).bind fun bt183 => ((laws_toLawS.f k l0).bind fun t187 => ((impl_WithoutLaw.f k t187 a1).bind fun bt190 => ((laws_eqLawS.f k bt190.1 bt183.1).bind fun t194 => (if t194 = true then (laws_FnExactWithoutLaw.j0 k l0 a1 bt183.1 bt183.2 t187 bt190.1 bt190.2 (bt190.2 != bt183.2)) else (laws_FnExactWithoutLaw.j0 k l0 a1 bt183.1 bt183.2 t187 bt190.1 bt190.2 true)))))) = some r := H
  have A5 := Aside0.mk A50
  clear A50
  replace H := Option.bind_eq_some_iff.mp H
  obtain ⟨⟨t183, t184⟩, A60, H⟩ := H
  replace H : ((laws_toLawS.f k l0).bind fun t187 => ((impl_WithoutLaw.f k t187 a1).bind fun bt190 => ((laws_eqLawS.f k bt190.1 t183).bind fun t194 => (if t194 = true then (laws_FnExactWithoutLaw.j0 k l0 a1 t183 t184 t187 bt190.1 bt190.2 (bt190.2 != t184)) else (laws_FnExactWithoutLaw.j0 k l0 a1 t183 t184 t187 bt190.1 bt190.2 true))))) = some r := H
  have A6 := Aside0.mk A60
  clear A60
  replace H := Option.bind_eq_some_iff.mp H
  obtain ⟨t187, A70, H⟩ := H
  replace H : ((impl_WithoutLaw.f k t187 a1).bind fun bt190 => ((laws_eqLawS.f k bt190.1 t183).bind fun t194 => (if t194 = true then (laws_FnExactWithoutLaw.j0 k l0 a1 t183 t184 t187 bt190.1 bt190.2 (bt190.2 != t184)) else (laws_FnExactWithoutLaw.j0 k l0 a1 t183 t184 t187 bt190.1 bt190.2 true)))) = some r := H
  have A7 := Aside0.mk A70
  clear A70
  replace H := Option.bind_eq_some_iff.mp H
  obtain ⟨⟨t190, t191⟩, A80, H⟩ := H
  replace H : ((laws_eqLawS.f k t190 t183).bind fun t194 => (if t194 = true then (laws_FnExactWithoutLaw.j0 k l0 a1 t183 t184 t187 t190 t191 (t191 != t184)) else (laws_FnExactWithoutLaw.j0 k l0 a1 t183 t184 t187 t190 t191 true))) = some r := H
  have A8 := Aside0.mk A80
  clear A80
  have HC9 := Aside0.mk H
  clear H
  go_enter Try.func8, Try.ntmps8
  go_upto_region 8 with (first | ((with_reducible refine gate_callee (f := 19) rfl ?_); refine goesL_ (some 18) rfl rfl Try.func19 kr rfl #[.slice A0 l0.length c0, .int .i64 1048576] rfl lm ?_; (with_reducible refine (laws_szLawS.calls _ _ l0 1048576 t179 _ ?side1 ?side2 A3.out).mono ?_); (case side1 => repeat (first | exact HR0.out | (with_reducible refine Kd.C_alloc ?_ _) | (with_reducible refine Kd.C_drewN ?_ _) | (with_reducible refine Kd.C_drew ?_))); (case side2 => exact HC0.out); rintro e w' ⟨rfl, ⟨nd, rfl⟩⟩; refine ⟨_, rfl, ?_⟩) | ((with_reducible refine gate_callee (f := 21) rfl ?_); refine goesL_ (some 23) rfl rfl Try.func21 kr rfl #[.slice A0 l0.length c0] rfl lm ?_; (with_reducible refine (laws_toLawS.calls k _ _ l0 t180 _ ?side1 ?side2 A5.out).mono ?_); (case side1 => repeat (first | exact HR0.out | (with_reducible refine Kd.C_alloc ?_ _) | (with_reducible refine Kd.C_drewN ?_ _) | (with_reducible refine Kd.C_drew ?_))); (case side2 => exact HC0.out); rintro e w10 ⟨v181, rfl, ho0, hb⟩; refine ⟨_, rfl, ?_⟩; have n0_ := Aside0.mk (Kd.R_lower ho0 (below_size bh)); have n1_ := Aside0.mk (below_step bh hb); clear HB; have HO182 := n0_; have HB := n1_; clear n0_ n1_; (try clear hb); (try clear hb2); (try clear hk); (try clear hi); (try clear ho0); obtain ⟨Ao11, co11, eo11⟩ := Kd.R_slice HO182.out; subst eo11) | ((with_reducible refine gate_callee (f := 28) rfl ?_); refine goesL_ (some 25) rfl rfl Try.func28 kr rfl #[.slice Ao11 t180.length co11, .int .i64 a1] rfl lm ?_; (with_reducible refine (spec_WithoutLaw.calls k _ _ t180 a1 t183 t184 _ ?side1 ?side2 A6.out).mono ?_); (case side1 => repeat (first | exact (Kd.R_reads' HO182.out).2.2 | (with_reducible refine Kd.C_alloc ?_ _) | (with_reducible refine Kd.C_drewN ?_ _) | (with_reducible refine Kd.C_drew ?_))); (case side2 => exact (Kd.R_reads' HO182.out).2.1); rintro e w12 ⟨v185, rfl, ho0, hb⟩; refine ⟨_, rfl, ?_⟩; have n0_ := Aside0.mk (Kd.R_elder' (rz HO182) (Kd.R_base ho0) hb); have n1_ := Aside0.mk (Kd.R_lower (Kd.R_new' ho0 (Kd.R_lt (rz HO182))) (below_size bh)); have n2_ := Aside0.mk (below_step bh hb); clear HO182 HB; have HO182 := n0_; have HO186 := n1_; have HB := n2_; clear n0_ n1_ n2_; (try clear hb); (try clear hb2); (try clear hk); (try clear hi); (try clear ho0)) | ((with_reducible refine gate_callee (f := 21) rfl ?_); refine goesL_ (some 29) rfl rfl Try.func21 kr rfl #[.slice A0 l0.length c0] rfl lm ?_; (with_reducible refine (laws_toLawS.calls k _ _ l0 t187 _ ?side1 ?side2 A7.out).mono ?_); (case side1 => repeat (first | exact (Kd.C_below HR0.out HB.out) | (with_reducible refine Kd.C_alloc ?_ _) | (with_reducible refine Kd.C_drewN ?_ _) | (with_reducible refine Kd.C_drew ?_))); (case side2 => exact HC0.out); rintro e w13 ⟨v188, rfl, ho0, hb⟩; refine ⟨_, rfl, ?_⟩; have n0_ := Aside0.mk (Kd.R_elder' (rz HO182) (Kd.R_base ho0) hb); have n1_ := Aside0.mk (Kd.R_elder' (rz HO186) (Kd.R_base ho0) hb); have n2_ := Aside0.mk (Kd.R_lower (Kd.R_new' (Kd.R_new' ho0 (Kd.R_lt (rz HO182))) (Kd.R_lt (rz HO186))) (below_size bh)); have n3_ := Aside0.mk (below_step bh hb); clear HO182 HO186 HB; have HO182 := n0_; have HO186 := n1_; have HO189 := n2_; have HB := n3_; clear n0_ n1_ n2_ n3_; (try clear hb); (try clear hb2); (try clear hk); (try clear hi); (try clear ho0); obtain ⟨Ao14, co14, eo14⟩ := Kd.R_slice HO189.out; subst eo14) | ((with_reducible refine gate_callee (f := 29) rfl ?_); refine goesL_ (some 33) rfl rfl Try.func29 kr rfl #[.slice Ao14 t187.length co14, .int .i64 a1] rfl lm ?_; (with_reducible refine (impl_WithoutLaw.calls k _ _ t187 a1 t190 t191 _ ?side1 ?side2 A8.out).mono ?_); (case side1 => repeat (first | exact (Kd.R_reads' HO189.out).2.2 | (with_reducible refine Kd.C_alloc ?_ _) | (with_reducible refine Kd.C_drewN ?_ _) | (with_reducible refine Kd.C_drew ?_))); (case side2 => exact (Kd.R_reads' HO189.out).2.1); rintro e w15 ⟨v192, rfl, ho0, hb⟩; refine ⟨_, rfl, ?_⟩; have n0_ := Aside0.mk (Kd.R_elder' (rz HO182) (Kd.R_base ho0) hb); have n1_ := Aside0.mk (Kd.R_elder' (rz HO186) (Kd.R_base ho0) hb); have n2_ := Aside0.mk (Kd.R_elder' (rz HO189) (Kd.R_base ho0) hb); have n3_ := Aside0.mk (Kd.R_lower (Kd.R_new' (Kd.R_new' (Kd.R_new' ho0 (Kd.R_lt (rz HO182))) (Kd.R_lt (rz HO186))) (Kd.R_lt (rz HO189))) (below_size bh)); have n4_ := Aside0.mk (below_step bh hb); clear HO182 HO186 HO189 HB; have HO182 := n0_; have HO186 := n1_; have HO189 := n2_; have HO193 := n3_; have HB := n4_; clear n0_ n1_ n2_ n3_ n4_; (try clear hb); (try clear hb2); (try clear hk); (try clear hi); (try clear ho0)))
  (try simp only [Act.put, List.setIfInBounds_toArray, List.set_cons_zero, List.set_cons_succ])
  go_cut [44] (fun v44 wc => ∃ (kq : Nat) (x44_8 : Bool), v44 = .bool x44_8 ∧ Aside0 (laws_FnExactWithoutLaw.j0 kq l0 a1 t183 t184 t187 t190 t191 x44_8 = some r) ∧ Aside0 (kq ≤ k) ∧ Aside0 (Kd.R k25 25 wc w.heap.size (fun k_ => some k_ ≠ ((.slice Ao14 t187.length co14) : Value).ownBlock ∧ some k_ ≠ (v192 : Value).ownBlock) v185 t183) ∧ Aside0 (Kd.R k25 25 wc w.heap.size (fun k_ => some k_ ≠ (v185 : Value).ownBlock ∧ some k_ ≠ (v192 : Value).ownBlock) (.slice Ao14 t187.length co14) t187) ∧ Aside0 (Kd.R k25 25 wc w.heap.size (fun k_ => some k_ ≠ (v185 : Value).ownBlock ∧ some k_ ≠ ((.slice Ao14 t187.length co14) : Value).ownBlock) v192 t190) ∧ Aside0 (Below w.heap.size w wc))
  case first =>
   have H := HC9.out
   clear HC9
   replace H := Option.bind_eq_some_iff.mp H
   obtain ⟨t194, A160, H⟩ := H
   replace H : (if t194 = true then (laws_FnExactWithoutLaw.j0 k l0 a1 t183 t184 t187 t190 t191 (t191 != t184)) else (laws_FnExactWithoutLaw.j0 k l0 a1 t183 t184 t187 t190 t191 true)) = some r := H
   have A16 := Aside0.mk A160
   clear A160
   by_cases c17 : t194 = true
   ·subst c17
    have H1 : (laws_FnExactWithoutLaw.j0 k l0 a1 t183 t184 t187 t190 t191 (t191 != t184)) = some r := by rw [if_pos rfl] at H; exact H
    clear H
    have H := H1
    clear H1
    have H' := Aside0.mk H
    clear H
    obtain ⟨Ao18, co18, eo18⟩ := Kd.R_slice HO193.out
    subst eo18
    obtain ⟨Ao19, co19, eo19⟩ := Kd.R_slice HO186.out
    subst eo19
    go_wp2_with (first | ((with_reducible refine gate_callee (f := 23) rfl ?_); refine goesL_ (some 38) rfl rfl Try.func23 kr rfl #[.slice Ao18 t190.length co18, .slice Ao19 t183.length co19] rfl lm ?_; (with_reducible refine (laws_eqLawS.calls k _ _ t190 _ _ t183 true _ ?side1 ?side2 ?side3 ?side4 A16.out).mono ?_); (case side1 => repeat (first | exact (Kd.R_reads' HO193.out).2.2 | (with_reducible refine Kd.C_alloc ?_ _) | (with_reducible refine Kd.C_drewN ?_ _) | (with_reducible refine Kd.C_drew ?_))); (case side2 => exact (Kd.R_reads' HO193.out).2.1); (case side3 => repeat (first | exact (Kd.R_reads' HO186.out).2.2 | (with_reducible refine Kd.C_alloc ?_ _) | (with_reducible refine Kd.C_drewN ?_ _) | (with_reducible refine Kd.C_drew ?_))); (case side4 => exact (Kd.R_reads' HO186.out).2.1); rintro e w20 ⟨rfl, hb⟩; refine ⟨_, rfl, ?_⟩; have n0_ := Aside0.mk (Kd.R_below (rz HO182) hb); have n1_ := Aside0.mk (Kd.R_below (rz HO186) hb); have n2_ := Aside0.mk (Kd.R_below (rz HO189) hb); have n3_ := Aside0.mk (Kd.R_below (rz HO193) hb); have n4_ := Aside0.mk (below_step bh hb); clear HO182 HO186 HO189 HO193 HB; have HO182 := n0_; have HO186 := n1_; have HO189 := n2_; have HO193 := n3_; have HB := n4_; clear n0_ n1_ n2_ n3_ n4_; (try clear hb); (try clear hb2); (try clear hk); (try clear hi)))
    go_meet
    case rel => exact ⟨_, ((t191 != t184)), (by first | rfl | (simp; done) | (simp [*]; done)), H', ⟨by first | omega | exact Nat.le_refl _⟩, ⟨mR HO186⟩, ⟨mR HO189⟩, ⟨mR HO193⟩, ⟨by exact bh⟩⟩
   ·replace c17 := Bool.eq_false_iff.mpr c17
    subst c17
    have H1 : (laws_FnExactWithoutLaw.j0 k l0 a1 t183 t184 t187 t190 t191 true) = some r := by rw [if_neg (show ¬ (false = true) by decide)] at H; exact H
    clear H
    have H := H1
    clear H1
    have H' := Aside0.mk H
    clear H
    obtain ⟨Ao21, co21, eo21⟩ := Kd.R_slice HO193.out
    subst eo21
    obtain ⟨Ao22, co22, eo22⟩ := Kd.R_slice HO186.out
    subst eo22
    go_wp2_with (first | ((with_reducible refine gate_callee (f := 23) rfl ?_); refine goesL_ (some 38) rfl rfl Try.func23 kr rfl #[.slice Ao21 t190.length co21, .slice Ao22 t183.length co22] rfl lm ?_; (with_reducible refine (laws_eqLawS.calls k _ _ t190 _ _ t183 false _ ?side1 ?side2 ?side3 ?side4 A16.out).mono ?_); (case side1 => repeat (first | exact (Kd.R_reads' HO193.out).2.2 | (with_reducible refine Kd.C_alloc ?_ _) | (with_reducible refine Kd.C_drewN ?_ _) | (with_reducible refine Kd.C_drew ?_))); (case side2 => exact (Kd.R_reads' HO193.out).2.1); (case side3 => repeat (first | exact (Kd.R_reads' HO186.out).2.2 | (with_reducible refine Kd.C_alloc ?_ _) | (with_reducible refine Kd.C_drewN ?_ _) | (with_reducible refine Kd.C_drew ?_))); (case side4 => exact (Kd.R_reads' HO186.out).2.1); rintro e w23 ⟨rfl, hb⟩; refine ⟨_, rfl, ?_⟩; have n0_ := Aside0.mk (Kd.R_below (rz HO182) hb); have n1_ := Aside0.mk (Kd.R_below (rz HO186) hb); have n2_ := Aside0.mk (Kd.R_below (rz HO189) hb); have n3_ := Aside0.mk (Kd.R_below (rz HO193) hb); have n4_ := Aside0.mk (below_step bh hb); clear HO182 HO186 HO189 HO193 HB; have HO182 := n0_; have HO186 := n1_; have HO189 := n2_; have HO193 := n3_; have HB := n4_; clear n0_ n1_ n2_ n3_ n4_; (try clear hb); (try clear hb2); (try clear hk); (try clear hi)))
    go_meet
    case rel => exact ⟨_, (true), (by first | rfl | (simp; done) | (simp [*]; done)), H', ⟨by first | omega | exact Nat.le_refl _⟩, ⟨mR HO186⟩, ⟨mR HO189⟩, ⟨mR HO193⟩, ⟨by exact bh⟩⟩
  case rest =>
   clear HC9
   try clear c1
   try clear c2
   try clear p2
   try clear c4
   try clear c4b0
   try clear c8
   try clear c17
   try clear c19
   try clear c21
   try clear c23
   obtain ⟨kq, x44_8, rfl, HA, HJ8, HO_6, HO_8, HO_9, HB⟩ := hcut
   cases kq with
   | zero => exact absurd HA.out (by simp [laws_FnExactWithoutLaw.j0])
   | succ kj8 =>
    have H := HA.out
    clear HA
    simp only [laws_FnExactWithoutLaw.j0] at H
    by_cases c24 : x44_8 = true
    ·subst c24
     have H1 : (none) = some r := by rw [if_pos rfl] at H; exact H
     clear H
     have H := H1
     clear H1
     exact absurd H (by simp)
    ·replace c24 := Bool.eq_false_iff.mpr c24
     subst c24
     have H1 : ((laws_toLawS.f kj8 l0).bind fun t195 => ((laws_eqLawS.f kj8 t187 t195).bind fun t198 => (if t198 = true then ((laws_markLawS.f kj8 t187 1).bind fun bt199 => (if bt199.1 < 0 then (laws_FnExactWithoutLaw.j1 kj8 l0 a1 t183 t184 t190 true) else ((laws_eqLawS.f kj8 t190 t183).bind fun t201 => (if t201 = true then (laws_FnExactWithoutLaw.j1 kj8 l0 a1 t183 t184 t190 (t191 != t184)) else (laws_FnExactWithoutLaw.j1 kj8 l0 a1 t183 t184 t190 true))))) else (none)))) = some r := by rw [if_neg (show ¬ (false = true) by decide)] at H; exact H
     clear H
     have H := H1
     clear H1
     replace H := Option.bind_eq_some_iff.mp H
     obtain ⟨t195, A250, H⟩ := H
     replace H : ((laws_eqLawS.f kj8 t187 t195).bind fun t198 => (if t198 = true then ((laws_markLawS.f kj8 t187 1).bind fun bt199 => (if bt199.1 < 0 then (laws_FnExactWithoutLaw.j1 kj8 l0 a1 t183 t184 t190 true) else ((laws_eqLawS.f kj8 t190 t183).bind fun t201 => (if t201 = true then (laws_FnExactWithoutLaw.j1 kj8 l0 a1 t183 t184 t190 (t191 != t184)) else (laws_FnExactWithoutLaw.j1 kj8 l0 a1 t183 t184 t190 true))))) else (none))) = some r := H
     have A25 := Aside0.mk A250
     clear A250
     replace H := Option.bind_eq_some_iff.mp H
     obtain ⟨t198, A260, H⟩ := H
     replace H : (if t198 = true then ((laws_markLawS.f kj8 t187 1).bind fun bt199 => (if bt199.1 < 0 then (laws_FnExactWithoutLaw.j1 kj8 l0 a1 t183 t184 t190 true) else ((laws_eqLawS.f kj8 t190 t183).bind fun t201 => (if t201 = true then (laws_FnExactWithoutLaw.j1 kj8 l0 a1 t183 t184 t190 (t191 != t184)) else (laws_FnExactWithoutLaw.j1 kj8 l0 a1 t183 t184 t190 true))))) else (none)) = some r := H
     have A26 := Aside0.mk A260
     clear A260
     by_cases c27 : t198 = true
     ·subst c27
      have H1 : ((laws_markLawS.f kj8 t187 1).bind fun bt199 => (if bt199.1 < 0 then (laws_FnExactWithoutLaw.j1 kj8 l0 a1 t183 t184 t190 true) else ((laws_eqLawS.f kj8 t190 t183).bind fun t201 => (if t201 = true then (laws_FnExactWithoutLaw.j1 kj8 l0 a1 t183 t184 t190 (t191 != t184)) else (laws_FnExactWithoutLaw.j1 kj8 l0 a1 t183 t184 t190 true))))) = some r := by rw [if_pos rfl] at H; exact H
      clear H
      have H := H1
      clear H1
      replace H := Option.bind_eq_some_iff.mp H
      obtain ⟨⟨t199, t200⟩, A280, H⟩ := H
      replace H : (if t199 < 0 then (laws_FnExactWithoutLaw.j1 kj8 l0 a1 t183 t184 t190 true) else ((laws_eqLawS.f kj8 t190 t183).bind fun t201 => (if t201 = true then (laws_FnExactWithoutLaw.j1 kj8 l0 a1 t183 t184 t190 (t191 != t184)) else (laws_FnExactWithoutLaw.j1 kj8 l0 a1 t183 t184 t190 true)))) = some r := H
      have A28 := Aside0.mk A280
      clear A280
      have HC29 := Aside0.mk H
      clear H
      go_upto_region 14 with (first | ((with_reducible refine gate_callee (f := 21) rfl ?_); refine goesL_ (some 47) rfl rfl Try.func21 kr rfl #[.slice A0 l0.length c0] rfl lm ?_; (with_reducible refine (laws_toLawS.calls kj8 _ _ l0 t195 _ ?side1 ?side2 A25.out).mono ?_); (case side1 => repeat (first | exact (Kd.C_below HR0.out HB.out) | (with_reducible refine Kd.C_alloc ?_ _) | (with_reducible refine Kd.C_drewN ?_ _) | (with_reducible refine Kd.C_drew ?_))); (case side2 => exact HC0.out); rintro e w30 ⟨v196, rfl, ho0, hb⟩; refine ⟨_, rfl, ?_⟩; have n0_ := Aside0.mk (Kd.R_elder' (rz HO_6) (Kd.R_base ho0) hb); have n1_ := Aside0.mk (Kd.R_elder' (rz HO_8) (Kd.R_base ho0) hb); have n2_ := Aside0.mk (Kd.R_elder' (rz HO_9) (Kd.R_base ho0) hb); have n3_ := Aside0.mk (Kd.R_lower (Kd.R_new' (Kd.R_new' (Kd.R_new' ho0 (Kd.R_lt (rz HO_6))) (Kd.R_lt (rz HO_8))) (Kd.R_lt (rz HO_9))) (below_size bh)); have n4_ := Aside0.mk (below_step bh hb); clear HO_6 HO_8 HO_9 HB; have HO_6 := n0_; have HO_8 := n1_; have HO_9 := n2_; have HO197 := n3_; have HB := n4_; clear n0_ n1_ n2_ n3_ n4_; (try clear hb); (try clear hb2); (try clear hk); (try clear hi); (try clear ho0); obtain ⟨Ao31, co31, eo31⟩ := Kd.R_slice HO197.out; subst eo31) | ((with_reducible refine gate_callee (f := 23) rfl ?_); refine goesL_ (some 48) rfl rfl Try.func23 kr rfl #[.slice Ao14 t187.length co14, .slice Ao31 t195.length co31] rfl lm ?_; (with_reducible refine (laws_eqLawS.calls kj8 _ _ t187 _ _ t195 true _ ?side1 ?side2 ?side3 ?side4 A26.out).mono ?_); (case side1 => repeat (first | exact (Kd.R_reads' HO_8.out).2.2 | (with_reducible refine Kd.C_alloc ?_ _) | (with_reducible refine Kd.C_drewN ?_ _) | (with_reducible refine Kd.C_drew ?_))); (case side2 => exact (Kd.R_reads' HO_8.out).2.1); (case side3 => repeat (first | exact (Kd.R_reads' HO197.out).2.2 | (with_reducible refine Kd.C_alloc ?_ _) | (with_reducible refine Kd.C_drewN ?_ _) | (with_reducible refine Kd.C_drew ?_))); (case side4 => exact (Kd.R_reads' HO197.out).2.1); rintro e w32 ⟨rfl, hb⟩; refine ⟨_, rfl, ?_⟩; have n0_ := Aside0.mk (Kd.R_below (rz HO_6) hb); have n1_ := Aside0.mk (Kd.R_below (rz HO_8) hb); have n2_ := Aside0.mk (Kd.R_below (rz HO_9) hb); have n3_ := Aside0.mk (Kd.R_below (rz HO197) hb); have n4_ := Aside0.mk (below_step bh hb); clear HO_6 HO_8 HO_9 HO197 HB; have HO_6 := n0_; have HO_8 := n1_; have HO_9 := n2_; have HO197 := n3_; have HB := n4_; clear n0_ n1_ n2_ n3_ n4_; (try clear hb); (try clear hb2); (try clear hk); (try clear hi)) | ((with_reducible refine gate_callee (f := 30) rfl ?_); refine goesL_ (some 52) rfl rfl Try.func30 kr rfl #[.slice Ao14 t187.length co14, .int .i64 1] rfl lm ?_; (with_reducible refine (laws_markLawS.calls kj8 (fun k_ => some k_ = (.slice Ao14 t187.length co14 : Value).ownBlock) (.slice Ao14 t187.length co14) t187 1 t199 t200 w _ ?side1 ?side2 A28.out).mono ?_); (case side1 => repeat (first | (with_reducible first | exact HB.out | apply below_alloc | apply pw_below_drewN | apply below_drew1) | exact HB.out)); (case side2 => exact Kd.R_tight rfl HO_8.out); rintro e w33 ⟨rfl, hy0, hb, hkp⟩; refine ⟨_, rfl, ?_⟩; have n0_ := Aside0.mk (Kd.R_mono (ok' := fun k_ => some k_ ≠ (.slice Ao14 t187.length co14 : Value).ownBlock ∧ some k_ ≠ (v192 : Value).ownBlock ∧ some k_ ≠ (.slice Ao31 t195.length co31 : Value).ownBlock) (Kd.R_keptB (HO_6.out) hkp (fun k_ hk_ hs_ => (hk_.1.1) hs_)) (fun k_ hk_ => ⟨hk_.1.1.1, hk_.1.1.2, hk_.1.2⟩)); have n1_ := Aside0.mk (Kd.R_reok rfl hy0 (fun k_ e_ => HO_8.out.1 k_ e_)); have n2_ := Aside0.mk (Kd.R_mono (ok' := fun k_ => some k_ ≠ (v185 : Value).ownBlock ∧ some k_ ≠ (.slice Ao14 t187.length co14 : Value).ownBlock ∧ some k_ ≠ (.slice Ao31 t195.length co31 : Value).ownBlock) (Kd.R_keptB (HO_9.out) hkp (fun k_ hk_ hs_ => (hk_.1.2) hs_)) (fun k_ hk_ => ⟨hk_.1.1.1, hk_.1.1.2, hk_.1.2⟩)); have n3_ := Aside0.mk (Kd.R_mono (ok' := fun k_ => some k_ ≠ (v185 : Value).ownBlock ∧ some k_ ≠ (.slice Ao14 t187.length co14 : Value).ownBlock ∧ some k_ ≠ (v192 : Value).ownBlock) (Kd.R_keptB (HO197.out) hkp (fun k_ hk_ hs_ => (hk_.1.2) hs_)) (fun k_ hk_ => ⟨hk_.1.1.1.2, hk_.1.1.2, hk_.1.2⟩)); have n4_ := Aside0.mk (hb); clear HO_6 HO_8 HO_9 HO197 HB; have HO_6 := n0_; have HO_8 := n1_; have HO_9 := n2_; have HO197 := n3_; have HB := n4_; clear n0_ n1_ n2_ n3_ n4_; (try clear hb); (try clear hkp); (try clear hy0)))
      (try simp only [Act.put, List.setIfInBounds_toArray, List.set_cons_zero, List.set_cons_succ])
      go_cut [65] (fun v65 wc => ∃ (kq : Nat) (x65_28 : Bool), v65 = .bool x65_28 ∧ Aside0 (laws_FnExactWithoutLaw.j1 kq l0 a1 t183 t184 t190 x65_28 = some r) ∧ Aside0 (kq ≤ kj8) ∧ Aside0 (Kd.R k25 25 wc w.heap.size (fun k_ => some k_ ≠ (v192 : Value).ownBlock) v185 t183) ∧ Aside0 (Kd.R k25 25 wc w.heap.size (fun k_ => some k_ ≠ (v185 : Value).ownBlock) v192 t190) ∧ Aside0 (Below w.heap.size w wc))
      case first =>
       have H := HC29.out
       clear HC29
       by_cases c34 : t199 < 0
       ·rw [if_pos c34] at H
        have c34b0 : decide (t199 < 0) = true := decide_eq_true c34
        clear c34
        (first | rw [c34b0] | (simp only [i64_w, i32_w]; rw [c34b0]) | skip)
        have H' := Aside0.mk H
        clear H
        go_wp2
        go_meet
        case rel => exact ⟨_, (true), (by first | rfl | (simp; done) | (simp [*]; done)), H', ⟨by have := HJ8.out; first | omega | exact Nat.le_refl _⟩, ⟨mR HO_6⟩, ⟨mR HO_9⟩, ⟨by exact bh⟩⟩
       ·rw [if_neg c34] at H
        have c34b0 : decide (t199 < 0) = false := decide_eq_false c34
        clear c34
        (first | rw [c34b0] | (simp only [i64_w, i32_w]; rw [c34b0]) | skip)
        replace H := Option.bind_eq_some_iff.mp H
        obtain ⟨t201, A350, H⟩ := H
        replace H : (if t201 = true then (laws_FnExactWithoutLaw.j1 kj8 l0 a1 t183 t184 t190 (t191 != t184)) else (laws_FnExactWithoutLaw.j1 kj8 l0 a1 t183 t184 t190 true)) = some r := H
        have A35 := Aside0.mk A350
        clear A350
        by_cases c36 : t201 = true
        ·subst c36
         have H1 : (laws_FnExactWithoutLaw.j1 kj8 l0 a1 t183 t184 t190 (t191 != t184)) = some r := by rw [if_pos rfl] at H; exact H
         clear H
         have H := H1
         clear H1
         have H' := Aside0.mk H
         clear H
         obtain ⟨Ao37, co37, eo37⟩ := Kd.R_slice HO_9.out
         subst eo37
         obtain ⟨Ao38, co38, eo38⟩ := Kd.R_slice HO_6.out
         subst eo38
         go_wp2_with (first | (go_at_call 23; (with_reducible refine (laws_eqLawS.calls kj8 _ _ t190 _ _ t183 true _ ?side1 ?side2 ?side3 ?side4 A35.out).mono ?_); (case side1 => repeat (first | exact (Kd.R_reads' HO_9.out).2.2 | (with_reducible refine Kd.C_alloc ?_ _) | (with_reducible refine Kd.C_drewN ?_ _) | (with_reducible refine Kd.C_drew ?_))); (case side2 => exact (Kd.R_reads' HO_9.out).2.1); (case side3 => repeat (first | exact (Kd.R_reads' HO_6.out).2.2 | (with_reducible refine Kd.C_alloc ?_ _) | (with_reducible refine Kd.C_drewN ?_ _) | (with_reducible refine Kd.C_drew ?_))); (case side4 => exact (Kd.R_reads' HO_6.out).2.1); rintro e w39 ⟨rfl, hb⟩; have n0_ := Aside0.mk (Kd.R_below (rz HO_6) hb); have n1_ := Aside0.mk (Kd.R_below (rz HO_8) hb); have n2_ := Aside0.mk (Kd.R_below (rz HO_9) hb); have n3_ := Aside0.mk (Kd.R_below (rz HO197) hb); have n4_ := Aside0.mk (below_step bh hb); clear HO_6 HO_8 HO_9 HO197 HB; have HO_6 := n0_; have HO_8 := n1_; have HO_9 := n2_; have HO197 := n3_; have HB := n4_; clear n0_ n1_ n2_ n3_ n4_; (try clear hb); (try clear hb2); (try clear hk); (try clear hi)))
         go_meet
         case rel => exact ⟨_, ((t191 != t184)), (by first | rfl | (simp; done) | (simp [*]; done)), H', ⟨by have := HJ8.out; first | omega | exact Nat.le_refl _⟩, ⟨mR HO_6⟩, ⟨mR HO_9⟩, ⟨by exact bh⟩⟩
        ·replace c36 := Bool.eq_false_iff.mpr c36
         subst c36
         have H1 : (laws_FnExactWithoutLaw.j1 kj8 l0 a1 t183 t184 t190 true) = some r := by rw [if_neg (show ¬ (false = true) by decide)] at H; exact H
         clear H
         have H := H1
         clear H1
         have H' := Aside0.mk H
         clear H
         obtain ⟨Ao40, co40, eo40⟩ := Kd.R_slice HO_9.out
         subst eo40
         obtain ⟨Ao41, co41, eo41⟩ := Kd.R_slice HO_6.out
         subst eo41
         go_wp2_with (first | (go_at_call 23; (with_reducible refine (laws_eqLawS.calls kj8 _ _ t190 _ _ t183 false _ ?side1 ?side2 ?side3 ?side4 A35.out).mono ?_); (case side1 => repeat (first | exact (Kd.R_reads' HO_9.out).2.2 | (with_reducible refine Kd.C_alloc ?_ _) | (with_reducible refine Kd.C_drewN ?_ _) | (with_reducible refine Kd.C_drew ?_))); (case side2 => exact (Kd.R_reads' HO_9.out).2.1); (case side3 => repeat (first | exact (Kd.R_reads' HO_6.out).2.2 | (with_reducible refine Kd.C_alloc ?_ _) | (with_reducible refine Kd.C_drewN ?_ _) | (with_reducible refine Kd.C_drew ?_))); (case side4 => exact (Kd.R_reads' HO_6.out).2.1); rintro e w42 ⟨rfl, hb⟩; have n0_ := Aside0.mk (Kd.R_below (rz HO_6) hb); have n1_ := Aside0.mk (Kd.R_below (rz HO_8) hb); have n2_ := Aside0.mk (Kd.R_below (rz HO_9) hb); have n3_ := Aside0.mk (Kd.R_below (rz HO197) hb); have n4_ := Aside0.mk (below_step bh hb); clear HO_6 HO_8 HO_9 HO197 HB; have HO_6 := n0_; have HO_8 := n1_; have HO_9 := n2_; have HO197 := n3_; have HB := n4_; clear n0_ n1_ n2_ n3_ n4_; (try clear hb); (try clear hb2); (try clear hk); (try clear hi)))
         go_meet
         case rel => exact ⟨_, (true), (by first | rfl | (simp; done) | (simp [*]; done)), H', ⟨by have := HJ8.out; first | omega | exact Nat.le_refl _⟩, ⟨mR HO_6⟩, ⟨mR HO_9⟩, ⟨by exact bh⟩⟩
      case rest =>
       clear HC29
       try clear c1
       try clear c2
       try clear p2
       try clear c3
       try clear c4
       try clear c4b0
       try clear c8
       try clear c17
       try clear c19
       try clear c21
       try clear c23
       try clear c24
       try clear c27
       try clear c28
       try clear c29
       try clear c30
       try clear c34
       try clear c34b0
       try clear c36
       try clear p2
       obtain ⟨kq, x65_28, rfl, HA, HJ28, HO_6, HO_9, HB⟩ := hcut
       cases kq with
       | zero => exact absurd HA.out (by simp [laws_FnExactWithoutLaw.j1])
       | succ kj28 =>
        have H := HA.out
        clear HA
        simp only [laws_FnExactWithoutLaw.j1] at H
        by_cases c43 : x65_28 = true
        ·subst c43
         have H1 : (none) = some r := by rw [if_pos rfl] at H; exact H
         clear H
         have H := H1
         clear H1
         exact absurd H (by simp)
        ·replace c43 := Bool.eq_false_iff.mpr c43
         subst c43
         have H1 : ((laws_markLawS.f kj28 t190 1).bind fun bt202 => ((laws_heldLawS.f kj28 bt202.2 1).bind fun t204 => (if t204 < 0 then (none) else (if t204 = bt202.1 then ((laws_toLawS.f kj28 l0).bind fun t205 => ((impl_WithoutLaw.f kj28 t205 a1).bind fun bt208 => ((laws_eqLawS.f kj28 bt208.1 t183).bind fun t212 => (if t212 = true then (laws_FnExactWithoutLaw.j2 kj28 bt202.2 bt202.1 (bt208.2 != t184)) else (laws_FnExactWithoutLaw.j2 kj28 bt202.2 bt202.1 true))))) else (none))))) = some r := by rw [if_neg (show ¬ (false = true) by decide)] at H; exact H
         clear H
         have H := H1
         clear H1
         replace H := Option.bind_eq_some_iff.mp H
         obtain ⟨⟨t202, t203⟩, A440, H⟩ := H
         replace H : ((laws_heldLawS.f kj28 t203 1).bind fun t204 => (if t204 < 0 then (none) else (if t204 = t202 then ((laws_toLawS.f kj28 l0).bind fun t205 => ((impl_WithoutLaw.f kj28 t205 a1).bind fun bt208 => ((laws_eqLawS.f kj28 bt208.1 t183).bind fun t212 => (if t212 = true then (laws_FnExactWithoutLaw.j2 kj28 t203 t202 (bt208.2 != t184)) else (laws_FnExactWithoutLaw.j2 kj28 t203 t202 true))))) else (none)))) = some r := H
         have A44 := Aside0.mk A440
         clear A440
         replace H := Option.bind_eq_some_iff.mp H
         obtain ⟨t204, A450, H⟩ := H
         replace H : (if t204 < 0 then (none) else (if t204 = t202 then ((laws_toLawS.f kj28 l0).bind fun t205 => ((impl_WithoutLaw.f kj28 t205 a1).bind fun bt208 => ((laws_eqLawS.f kj28 bt208.1 t183).bind fun t212 => (if t212 = true then (laws_FnExactWithoutLaw.j2 kj28 t203 t202 (bt208.2 != t184)) else (laws_FnExactWithoutLaw.j2 kj28 t203 t202 true))))) else (none))) = some r := H
         have A45 := Aside0.mk A450
         clear A450
         by_cases c46 : t204 < 0
         ·rw [if_pos c46] at H
          exact absurd H (by simp)
         ·rw [if_neg c46] at H
          have c46b0 : decide (t204 < 0) = false := decide_eq_false c46
          clear c46
          by_cases c47 : t204 = t202
          ·rw [if_pos c47] at H
           have c47b0 : (t204 == t202) = true := beq_iff_eq.mpr c47
           have c47b1 : (t204 != t202) = false := bne_eq_false_iff_eq.mpr c47
           clear c47
           replace H := Option.bind_eq_some_iff.mp H
           obtain ⟨t205, A480, H⟩ := H
           replace H : ((impl_WithoutLaw.f kj28 t205 a1).bind fun bt208 => ((laws_eqLawS.f kj28 bt208.1 t183).bind fun t212 => (if t212 = true then (laws_FnExactWithoutLaw.j2 kj28 t203 t202 (bt208.2 != t184)) else (laws_FnExactWithoutLaw.j2 kj28 t203 t202 true)))) = some r := H
           have A48 := Aside0.mk A480
           clear A480
           replace H := Option.bind_eq_some_iff.mp H
           obtain ⟨⟨t208, t209⟩, A490, H⟩ := H
           replace H : ((laws_eqLawS.f kj28 t208 t183).bind fun t212 => (if t212 = true then (laws_FnExactWithoutLaw.j2 kj28 t203 t202 (t209 != t184)) else (laws_FnExactWithoutLaw.j2 kj28 t203 t202 true))) = some r := H
           have A49 := Aside0.mk A490
           clear A490
           have HC50 := Aside0.mk H
           clear H
           obtain ⟨Ao51, co51, eo51⟩ := Kd.R_slice HO_9.out
           subst eo51
           go_upto_region 25 with (first | ((with_reducible refine gate_callee (f := 30) rfl ?_); refine goesL_ (some 68) rfl rfl Try.func30 kr rfl #[.slice Ao51 t190.length co51, .int .i64 1] rfl lm ?_; (with_reducible refine (laws_markLawS.calls kj28 (fun k_ => some k_ = (.slice Ao51 t190.length co51 : Value).ownBlock) (.slice Ao51 t190.length co51) t190 1 t202 t203 w _ ?side1 ?side2 A44.out).mono ?_); (case side1 => repeat (first | (with_reducible first | exact HB.out | apply below_alloc | apply pw_below_drewN | apply below_drew1) | exact HB.out)); (case side2 => exact Kd.R_tight rfl HO_9.out); rintro e w52 ⟨rfl, hy0, hb, hkp⟩; refine ⟨_, rfl, ?_⟩; have n0_ := Aside0.mk (Kd.R_mono (ok' := fun k_ => some k_ ≠ (.slice Ao51 t190.length co51 : Value).ownBlock) (Kd.R_keptB (HO_6.out) hkp (fun k_ hk_ hs_ => (hk_) hs_)) (fun k_ hk_ => hk_.1)); have n1_ := Aside0.mk (Kd.R_reok rfl hy0 (fun k_ e_ => HO_9.out.1 k_ e_)); have n2_ := Aside0.mk (hb); clear HO_6 HO_9 HB; have HO_6 := n0_; have HO_9 := n1_; have HB := n2_; clear n0_ n1_ n2_; (try clear hb); (try clear hkp); (try clear hy0)) | ((with_reducible refine gate_callee (f := 31) rfl ?_); refine goesL_ (some 71) rfl rfl Try.func31 kr rfl #[.slice Ao51 t203.length co51, .int .i64 1] rfl (by (try simp only [List.map_toArray, List.map_cons, List.map_nil]); first | done | (rw [show t203.length = t190.length from (Kd.R_reads' HO_9.out).1.symm] <;> rfl) | rfl | (simp only [List.length_drop, List.length_take]; rfl)) ?_; (with_reducible refine (laws_heldLawS.calls kj28 _ _ t203 1 t204 _ ?side1 ?side2 A45.out).mono ?_); (case side1 => repeat (first | exact (Kd.R_reads' HO_9.out).2.2 | (with_reducible refine Kd.C_alloc ?_ _) | (with_reducible refine Kd.C_drewN ?_ _) | (with_reducible refine Kd.C_drew ?_))); (case side2 => rw [show t203.length = t190.length from (Kd.R_reads' HO_9.out).1.symm]; exact (Kd.R_reads' HO_9.out).2.1); rintro e w' ⟨rfl, ⟨nd, rfl⟩⟩; refine ⟨_, rfl, ?_⟩) | ((with_reducible refine gate_callee (f := 21) rfl ?_); refine goesL_ (some 79) rfl rfl Try.func21 kr rfl #[.slice A0 l0.length c0] rfl lm ?_; (with_reducible refine (laws_toLawS.calls kj28 _ _ l0 t205 _ ?side1 ?side2 A48.out).mono ?_); (case side1 => repeat (first | exact (Kd.C_below HR0.out bh) | (with_reducible refine Kd.C_alloc ?_ _) | (with_reducible refine Kd.C_drewN ?_ _) | (with_reducible refine Kd.C_drew ?_))); (case side2 => exact HC0.out); rintro e w53 ⟨v206, rfl, ho0, hb⟩; refine ⟨_, rfl, ?_⟩; have n0_ := Aside0.mk (Kd.R_elder' (rz HO_6) (Kd.R_base ho0) hb); have n1_ := Aside0.mk (Kd.R_elder' (rz HO_9) (Kd.R_base ho0) hb); have n2_ := Aside0.mk (Kd.R_lower (Kd.R_new' (Kd.R_new' ho0 (Kd.R_lt (rz HO_6))) (Kd.R_lt (rz HO_9))) (below_size bh)); have n3_ := Aside0.mk (below_step bh hb); clear HO_6 HO_9 HB; have HO_6 := n0_; have HO_9 := n1_; have HO207 := n2_; have HB := n3_; clear n0_ n1_ n2_ n3_; (try clear hb); (try clear hb2); (try clear hk); (try clear hi); (try clear ho0); obtain ⟨Ao54, co54, eo54⟩ := Kd.R_slice HO207.out; subst eo54) | ((with_reducible refine gate_callee (f := 29) rfl ?_); refine goesL_ (some 81) rfl rfl Try.func29 kr rfl #[.slice Ao54 t205.length co54, .int .i64 a1] rfl lm ?_; (with_reducible refine (impl_WithoutLaw.calls kj28 _ _ t205 a1 t208 t209 _ ?side1 ?side2 A49.out).mono ?_); (case side1 => repeat (first | exact (Kd.R_reads' HO207.out).2.2 | (with_reducible refine Kd.C_alloc ?_ _) | (with_reducible refine Kd.C_drewN ?_ _) | (with_reducible refine Kd.C_drew ?_))); (case side2 => exact (Kd.R_reads' HO207.out).2.1); rintro e w55 ⟨v210, rfl, ho0, hb⟩; refine ⟨_, rfl, ?_⟩; have n0_ := Aside0.mk (Kd.R_elder' (rz HO_6) (Kd.R_base ho0) hb); have n1_ := Aside0.mk (Kd.R_elder' (rz HO_9) (Kd.R_base ho0) hb); have n2_ := Aside0.mk (Kd.R_elder' (rz HO207) (Kd.R_base ho0) hb); have n3_ := Aside0.mk (Kd.R_lower (Kd.R_new' (Kd.R_new' (Kd.R_new' ho0 (Kd.R_lt (rz HO_6))) (Kd.R_lt (rz HO_9))) (Kd.R_lt (rz HO207))) (below_size bh)); have n4_ := Aside0.mk (below_step bh hb); clear HO_6 HO_9 HO207 HB; have HO_6 := n0_; have HO_9 := n1_; have HO207 := n2_; have HO211 := n3_; have HB := n4_; clear n0_ n1_ n2_ n3_ n4_; (try clear hb); (try clear hb2); (try clear hk); (try clear hi); (try clear ho0)))
           (try simp only [Act.put, List.setIfInBounds_toArray, List.set_cons_zero, List.set_cons_succ])
           go_cut [92] (fun v92 wc => ∃ (kq : Nat) (x92_49 : Bool), v92 = .bool x92_49 ∧ Aside0 (laws_FnExactWithoutLaw.j2 kq t203 t202 x92_49 = some r) ∧ Aside0 (kq ≤ kj28) ∧ Aside0 (Kd.R k25 25 wc w.heap.size (fun _ => True) (.slice Ao51 t190.length co51) t203) ∧ Aside0 (Below w.heap.size w wc))
           case first =>
            have H := HC50.out
            clear HC50
            replace H := Option.bind_eq_some_iff.mp H
            obtain ⟨t212, A560, H⟩ := H
            replace H : (if t212 = true then (laws_FnExactWithoutLaw.j2 kj28 t203 t202 (t209 != t184)) else (laws_FnExactWithoutLaw.j2 kj28 t203 t202 true)) = some r := H
            have A56 := Aside0.mk A560
            clear A560
            by_cases c57 : t212 = true
            ·subst c57
             have H1 : (laws_FnExactWithoutLaw.j2 kj28 t203 t202 (t209 != t184)) = some r := by rw [if_pos rfl] at H; exact H
             clear H
             have H := H1
             clear H1
             have H' := Aside0.mk H
             clear H
             obtain ⟨Ao58, co58, eo58⟩ := Kd.R_slice HO211.out
             subst eo58
             obtain ⟨Ao59, co59, eo59⟩ := Kd.R_slice HO_6.out
             subst eo59
             go_wp2_with (first | ((with_reducible refine gate_callee (f := 23) rfl ?_); refine goesL_ (some 86) rfl rfl Try.func23 kr rfl #[.slice Ao58 t208.length co58, .slice Ao59 t183.length co59] rfl lm ?_; (with_reducible refine (laws_eqLawS.calls kj28 _ _ t208 _ _ t183 true _ ?side1 ?side2 ?side3 ?side4 A56.out).mono ?_); (case side1 => repeat (first | exact (Kd.R_reads' HO211.out).2.2 | (with_reducible refine Kd.C_alloc ?_ _) | (with_reducible refine Kd.C_drewN ?_ _) | (with_reducible refine Kd.C_drew ?_))); (case side2 => exact (Kd.R_reads' HO211.out).2.1); (case side3 => repeat (first | exact (Kd.R_reads' HO_6.out).2.2 | (with_reducible refine Kd.C_alloc ?_ _) | (with_reducible refine Kd.C_drewN ?_ _) | (with_reducible refine Kd.C_drew ?_))); (case side4 => exact (Kd.R_reads' HO_6.out).2.1); rintro e w60 ⟨rfl, hb⟩; refine ⟨_, rfl, ?_⟩; have n0_ := Aside0.mk (Kd.R_below (rz HO_6) hb); have n1_ := Aside0.mk (Kd.R_below (rz HO_9) hb); have n2_ := Aside0.mk (Kd.R_below (rz HO207) hb); have n3_ := Aside0.mk (Kd.R_below (rz HO211) hb); have n4_ := Aside0.mk (below_step bh hb); clear HO_6 HO_9 HO207 HO211 HB; have HO_6 := n0_; have HO_9 := n1_; have HO207 := n2_; have HO211 := n3_; have HB := n4_; clear n0_ n1_ n2_ n3_ n4_; (try clear hb); (try clear hb2); (try clear hk); (try clear hi)))
             go_meet
             case rel => exact ⟨_, ((t209 != t184)), (by first | rfl | (simp; done) | (simp [*]; done)), H', ⟨by have := HJ8.out; have := HJ28.out; first | omega | exact Nat.le_refl _⟩, ⟨mR HO_9⟩, ⟨by exact bh⟩⟩
            ·replace c57 := Bool.eq_false_iff.mpr c57
             subst c57
             have H1 : (laws_FnExactWithoutLaw.j2 kj28 t203 t202 true) = some r := by rw [if_neg (show ¬ (false = true) by decide)] at H; exact H
             clear H
             have H := H1
             clear H1
             have H' := Aside0.mk H
             clear H
             obtain ⟨Ao61, co61, eo61⟩ := Kd.R_slice HO211.out
             subst eo61
             obtain ⟨Ao62, co62, eo62⟩ := Kd.R_slice HO_6.out
             subst eo62
             go_wp2_with (first | ((with_reducible refine gate_callee (f := 23) rfl ?_); refine goesL_ (some 86) rfl rfl Try.func23 kr rfl #[.slice Ao61 t208.length co61, .slice Ao62 t183.length co62] rfl lm ?_; (with_reducible refine (laws_eqLawS.calls kj28 _ _ t208 _ _ t183 false _ ?side1 ?side2 ?side3 ?side4 A56.out).mono ?_); (case side1 => repeat (first | exact (Kd.R_reads' HO211.out).2.2 | (with_reducible refine Kd.C_alloc ?_ _) | (with_reducible refine Kd.C_drewN ?_ _) | (with_reducible refine Kd.C_drew ?_))); (case side2 => exact (Kd.R_reads' HO211.out).2.1); (case side3 => repeat (first | exact (Kd.R_reads' HO_6.out).2.2 | (with_reducible refine Kd.C_alloc ?_ _) | (with_reducible refine Kd.C_drewN ?_ _) | (with_reducible refine Kd.C_drew ?_))); (case side4 => exact (Kd.R_reads' HO_6.out).2.1); rintro e w63 ⟨rfl, hb⟩; refine ⟨_, rfl, ?_⟩; have n0_ := Aside0.mk (Kd.R_below (rz HO_6) hb); have n1_ := Aside0.mk (Kd.R_below (rz HO_9) hb); have n2_ := Aside0.mk (Kd.R_below (rz HO207) hb); have n3_ := Aside0.mk (Kd.R_below (rz HO211) hb); have n4_ := Aside0.mk (below_step bh hb); clear HO_6 HO_9 HO207 HO211 HB; have HO_6 := n0_; have HO_9 := n1_; have HO207 := n2_; have HO211 := n3_; have HB := n4_; clear n0_ n1_ n2_ n3_ n4_; (try clear hb); (try clear hb2); (try clear hk); (try clear hi)))
             go_meet
             case rel => exact ⟨_, (true), (by first | rfl | (simp; done) | (simp [*]; done)), H', ⟨by have := HJ8.out; have := HJ28.out; first | omega | exact Nat.le_refl _⟩, ⟨mR HO_9⟩, ⟨by exact bh⟩⟩
           case rest =>
            clear HC50
            try clear c1
            try clear c2
            try clear p2
            try clear c3
            try clear c4
            try clear c4b0
            try clear c5
            try clear c8
            try clear c17
            try clear c19
            try clear c21
            try clear c23
            try clear c24
            try clear c27
            try clear c28
            try clear c29
            try clear c30
            try clear c31
            try clear c34
            try clear c34b0
            try clear c36
            try clear c43
            try clear c46
            try clear c46b0
            try clear c47
            try clear c47b0
            try clear c47b1
            try clear c57
            try clear p2
            obtain ⟨kq, x92_49, rfl, HA, HJ49, HO_9, HB⟩ := hcut
            have hl9_49 := (Kd.R_reads' HO_9.out).1
            rw [hl9_49] at HO_9
            (try simp only [hl9_49])
            cases kq with
            | zero => exact absurd HA.out (by simp [laws_FnExactWithoutLaw.j2])
            | succ kj49 =>
             have H := HA.out
             clear HA
             simp only [laws_FnExactWithoutLaw.j2] at H
             by_cases c64 : x92_49 = true
             ·subst c64
              have H1 : (none) = some r := by rw [if_pos rfl] at H; exact H
              clear H
              have H := H1
              clear H1
              exact absurd H (by simp)
             ·replace c64 := Bool.eq_false_iff.mpr c64
              subst c64
              have H1 : ((laws_heldLawS.f kj49 t203 1).bind fun t213 => (if t213 < 0 then (none) else (if t213 = t202 then (some true) else (none)))) = some r := by rw [if_neg (show ¬ (false = true) by decide)] at H; exact H
              clear H
              have H := H1
              clear H1
              replace H := Option.bind_eq_some_iff.mp H
              obtain ⟨t213, A650, H⟩ := H
              replace H : (if t213 < 0 then (none) else (if t213 = t202 then (some true) else (none))) = some r := H
              have A65 := Aside0.mk A650
              clear A650
              by_cases c66 : t213 < 0
              ·rw [if_pos c66] at H
               exact absurd H (by simp)
              ·rw [if_neg c66] at H
               have c66b0 : decide (t213 < 0) = false := decide_eq_false c66
               (try (have c66z0 := c66b0; simp only [hl9_49] at c66z0))
               (try (have c66z1 := c66b1; simp only [hl9_49] at c66z1))
               clear c66
               by_cases c67 : t213 = t202
               ·rw [if_pos c67] at H
                have c67b0 : (t213 == t202) = true := beq_iff_eq.mpr c67
                have c67b1 : (t213 != t202) = false := bne_eq_false_iff_eq.mpr c67
                (try (have c67z0 := c67b0; simp only [hl9_49] at c67z0))
                (try (have c67z1 := c67b1; simp only [hl9_49] at c67z1))
                clear c67
                obtain rfl := Option.some.inj H
                go_wp2_with (first | ((with_reducible refine gate_callee (f := 31) rfl ?_); refine goesL_ (some 95) rfl rfl Try.func31 kr rfl #[.slice Ao51 t203.length co51, .int .i64 1] rfl lm ?_; (with_reducible refine (laws_heldLawS.calls kj49 _ _ t203 1 t213 _ ?side1 ?side2 A65.out).mono ?_); (case side1 => repeat (first | exact (Kd.R_reads' HO_9.out).2.2 | (with_reducible refine Kd.C_alloc ?_ _) | (with_reducible refine Kd.C_drewN ?_ _) | (with_reducible refine Kd.C_drew ?_))); (case side2 => exact (Kd.R_reads' HO_9.out).2.1); rintro e w' ⟨rfl, ⟨nd, rfl⟩⟩; refine ⟨_, rfl, ?_⟩))
                go_ret
                exact ⟨by first | rfl | (simp [errW_none, errW_some] <;> rfl) | (simp [*, errW_none, errW_some] <;> rfl), by exact bh⟩
               ·rw [if_neg c67] at H
                exact absurd H (by simp)
          ·rw [if_neg c47] at H
           exact absurd H (by simp)
     ·replace c27 := Bool.eq_false_iff.mpr c27
      subst c27
      have H1 : (none) = some r := by rw [if_neg (show ¬ (false = true) by decide)] at H; exact H
      clear H
      have H := H1
      clear H1
      exact absurd H (by simp)

def laws_FnExactWithoutLaw.Pure : Prop := ∀ (l0 : List (S23)) (a1 : Int), Opens.pSlice (Opens.pIso (Opens.pPair (Opens.pInt .i64) (Opens.pPair (Opens.pInt .i64) (Opens.pPair (Opens.pInt .i64) (Opens.pPair (Opens.pInt .i64) Opens.pBool)))) (fun x : S23 => (x.f0, x.f1, x.f2, x.f3, x.f4))) l0 → Opens.pInt .i64 a1 → ∃ k, laws_FnExactWithoutLaw.f k l0 a1 = some true

end Go.Proofs.Ytlacdgmapojmlaa.QFnExactWithoutLaw
