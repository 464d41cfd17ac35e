-- Printed for this claim by a turned copy of the print (wip/myprint). Lean checks it. Squeezed. Worded. Tightened.
import Derived.Test.YtnandbgcejkonaaQFnExactIdleLawsx0
import Derived.Test.YtnandbgcejkonaaQFnExactIdleLawsx2
import Derived.Test.YtnandbgcejkonaaQFnExactIdleLawsx5
import Derived.Test.YtnandbgcejkonaaQFnExactIdleLawsx9
import Derived.Test.YtnandbgcejkonaaQFnExactIdleLawsx10
namespace Go.Proofs.Ytnandbgcejkonaa.QFnExactIdleLaws
open Go.RowKit Go.Proofs.YtnandbgcejkonaaW.PrintWords Go.Proofs.YtnandbgcejkonaaW.PrintLast Go.Proofs.YtnandbgcejkonaaW.PrintMore
attribute [local go_sem] max2_int min2_int max_two min_two max_three min_three max_four min_four Opens.cell_twice   -- for this text's walks alone
set_option linter.unusedVariables false
set_option linter.unusedSimpArgs false

/-! ### laws_FnExactIdleLaws: function 4 -/
def laws_FnExactIdleLaws.j0 : Nat → List (S56) → List Int → List Int → Bool → Option (Bool)
 | 0, _, _, _, _ => none
 | k + 1, x0, x4, x6, x42 => if x42 = true then (none) else ((laws_markIntS.f k x6 1).bind fun bt303 => ((laws_heldIntS.f k bt303.2 1).bind fun t305 => (if t305 < 0 then (none) else (if t305 = bt303.1 then ((laws_toLawS.f k x0).bind fun t306 => ((impl_IdleLaws.f k t306).bind fun t309 => ((laws_eqIntS.f k t309 x4).bind fun t312 => (if t312 = true then ((laws_heldIntS.f k bt303.2 1).bind fun t313 => (if t313 < 0 then (none) else (if t313 = bt303.1 then (some true) else (none)))) else (none))))) else (none)))))
def laws_FnExactIdleLaws.f (k : Nat) (l0 : List (S56)) : Option (Bool) := (laws_szLawS.f l0 1048576).bind fun t282 => (if t282 < 0 then (some true) else ((laws_toLawS.f k l0).bind fun t283 => ((spec_IdleLaws.f k t283).bind fun t286 => ((laws_toLawS.f k l0).bind fun t289 => ((impl_IdleLaws.f k t289).bind fun t292 => ((laws_eqIntS.f k t292 t286).bind fun t295 => (if t295 = true then ((laws_toLawS.f k l0).bind fun t296 => ((laws_eqLawS.f k t289 t296).bind fun t299 => (if t299 = true then ((laws_markLawS.f k t289 1).bind fun bt300 => (if bt300.1 < 0 then (laws_FnExactIdleLaws.j0 k l0 t286 t292 true) else ((laws_eqIntS.f k t292 t286).bind fun t302 => (laws_FnExactIdleLaws.j0 k l0 t286 t292 (!t302))))) else (none)))) else (none))))))))
theorem laws_FnExactIdleLaws.mono_l : ∀ k, (∀ y0 y1 y2 y3, LeO (laws_FnExactIdleLaws.j0 k y0 y1 y2 y3) (laws_FnExactIdleLaws.j0 (k + 1) y0 y1 y2 y3))
 | 0 => fun _ _ _ _ r h => by simp [laws_FnExactIdleLaws.j0] at h
 | k + 1 => by
  have ih0 := laws_FnExactIdleLaws.mono_l k
  ·intro y0 y1 y2 y3
   unfold laws_FnExactIdleLaws.j0
   repeat' first
   | (with_reducible exact ih0 _ _ _ _)
   | (with_reducible exact impl_IdleLaws.mono _ _)
   | (with_reducible exact laws_eqIntS.mono _ _ _)
   | (with_reducible exact laws_eqLawS.mono _ _ _)
   | (with_reducible exact laws_heldIntS.mono _ _ _)
   | (with_reducible exact laws_markIntS.mono _ _ _)
   | (with_reducible exact laws_markLawS.mono _ _ _)
   | (with_reducible exact laws_toLawS.mono _ _)
   | (with_reducible exact spec_IdleLaws.mono _ _)
   | (with_reducible exact LeO.refl _)
   | (with_reducible exact LeO.none _)
   | (with_reducible refine LeO.ite ?_ ?_)
   | (with_reducible refine LeO.bind ?_ (fun _ => ?_))
   | exact ih0 _ _ _ _
   | exact impl_IdleLaws.mono _ _
   | exact laws_eqIntS.mono _ _ _
   | exact laws_eqLawS.mono _ _ _
   | exact laws_heldIntS.mono _ _ _
   | exact laws_markIntS.mono _ _ _
   | exact laws_markLawS.mono _ _ _
   | exact laws_toLawS.mono _ _
   | exact spec_IdleLaws.mono _ _
   | exact LeO.none _
   | refine LeO.ite ?_ ?_
   | refine LeO.bind ?_ (fun _ => ?_)
theorem laws_FnExactIdleLaws.mono : ∀ a0 k, LeO (laws_FnExactIdleLaws.f k a0) (laws_FnExactIdleLaws.f (k + 1) a0) := by
 intro a0 k
 have ih0 := laws_FnExactIdleLaws.mono_l k
 unfold laws_FnExactIdleLaws.f
 repeat' first
   | (with_reducible exact ih0 _ _ _ _)
   | (with_reducible exact impl_IdleLaws.mono _ _)
   | (with_reducible exact laws_eqIntS.mono _ _ _)
   | (with_reducible exact laws_eqLawS.mono _ _ _)
   | (with_reducible exact laws_heldIntS.mono _ _ _)
   | (with_reducible exact laws_markIntS.mono _ _ _)
   | (with_reducible exact laws_markLawS.mono _ _ _)
   | (with_reducible exact laws_toLawS.mono _ _)
   | (with_reducible exact spec_IdleLaws.mono _ _)
   | (with_reducible exact LeO.refl _)
   | (with_reducible exact LeO.none _)
   | (with_reducible refine LeO.ite ?_ ?_)
   | (with_reducible refine LeO.bind ?_ (fun _ => ?_))
   | exact ih0 _ _ _ _
   | exact impl_IdleLaws.mono _ _
   | exact laws_eqIntS.mono _ _ _
   | exact laws_eqLawS.mono _ _ _
   | exact laws_heldIntS.mono _ _ _
   | exact laws_markIntS.mono _ _ _
   | exact laws_markLawS.mono _ _ _
   | exact laws_toLawS.mono _ _
   | exact spec_IdleLaws.mono _ _
   | exact LeO.none _
   | refine LeO.ite ?_ ?_
   | refine LeO.bind ?_ (fun _ => ?_)
set_option maxHeartbeats 8000000 in
set_option maxRecDepth 100000 in
theorem laws_FnExactIdleLaws.calls (k : Nat) (A0 : Option Addr) (c0 : Nat) (l0 : List (S56)) (r : Bool) (w : World) (hr0 : Kd.C k56 w A0 l0.length l0) (hc0 : l0.length ≤ c0) (h : laws_FnExactIdleLaws.f k l0 = some r) :
  Calls Try.prog 4 #[.slice A0 l0.length c0] w fun e w' => e = .returned (.bool r) ∧ Below w.heap.size w w' := by
 have HR0 := Aside0.mk hr0
 have HC0 := Aside0.mk hc0
 clear hr0 hc0
 have HB := Aside0.mk (Below.refl w.heap.size w)
 have H : ((laws_szLawS.f l0 1048576).bind fun t282 => (if t282 < 0 then (some true) else ((laws_toLawS.f k l0).bind fun t283 => ((spec_IdleLaws.f k t283).bind fun t286 => ((laws_toLawS.f k l0).bind fun t289 => ((impl_IdleLaws.f k t289).bind fun t292 => ((laws_eqIntS.f k t292 t286).bind fun t295 => (if t295 = true then ((laws_toLawS.f k l0).bind fun t296 => ((laws_eqLawS.f k t289 t296).bind fun t299 => (if t299 = true then ((laws_markLawS.f k t289 1).bind fun bt300 => (if bt300.1 < 0 then (laws_FnExactIdleLaws.j0 k l0 t286 t292 true) else ((laws_eqIntS.f k t292 t286).bind fun t302 => (laws_FnExactIdleLaws.j0 k l0 t286 t292 (!t302))))) else (none)))) else (none))))))))) = some r := h
 clear h
 replace H := Option.bind_eq_some_iff.mp H
 obtain ⟨t282, A20, H⟩ := H
 replace H : (if t282 < 0 then (some true) else ((laws_toLawS.f k l0).bind fun t283 => ((spec_IdleLaws.f k t283).bind fun t286 => ((laws_toLawS.f k l0).bind fun t289 => ((impl_IdleLaws.f k t289).bind fun t292 => ((laws_eqIntS.f k t292 t286).bind fun t295 => (if t295 = true then ((laws_toLawS.f k l0).bind fun t296 => ((laws_eqLawS.f k t289 t296).bind fun t299 => (if t299 = true then ((laws_markLawS.f k t289 1).bind fun bt300 => (if bt300.1 < 0 then (laws_FnExactIdleLaws.j0 k l0 t286 t292 true) else ((laws_eqIntS.f k t292 t286).bind fun t302 => (laws_FnExactIdleLaws.j0 k l0 t286 t292 (!t302))))) else (none)))) else (none)))))))) = some r := H
 have A2 := Aside0.mk A20
 clear A20
 by_cases c3 : t282 < 0
 ·rw [if_pos c3] at H
  have c3b0 : decide (t282 < 0) = true := decide_eq_true c3
  clear c3
  obtain rfl := Option.some.inj H
  go_enter Try.func4, Try.ntmps4
  go_wp2_with (first | ((with_reducible refine gate_callee (f := 14) rfl ?_); refine goesL_ (some 13) rfl rfl Try.func14 kr rfl #[.slice A0 l0.length c0, .int .i64 1048576] rfl lm ?_; (with_reducible refine (laws_szLawS.calls _ _ l0 1048576 t282 _ ?side1 ?side2 A2.out).mono ?_); (case side1 => repeat (first | exact HR0.out | (with_reducible refine Kd.C_alloc ?_ _) | (with_reducible refine Kd.C_drewN ?_ _) | (with_reducible refine Kd.C_drew ?_))); (case side2 => exact HC0.out); rintro e w' ⟨rfl, ⟨nd, rfl⟩⟩; refine ⟨_, rfl, ?_⟩))
  go_ret
  exact ⟨by first | rfl | (simp [errW_none, errW_some] <;> rfl) | (simp [*, errW_none, errW_some] <;> rfl), by exact bh⟩
 ·rw [if_neg c3] at H
  have c3b0 : decide (t282 < 0) = false := decide_eq_false c3
  clear c3
  replace H := Option.bind_eq_some_iff.mp H
  obtain ⟨t283, A40, H⟩ := H
  replace H : ((spec_IdleLaws.f k t283).bind fun t286 => ((laws_toLawS.f k l0).bind fun t289 => ((impl_IdleLaws.f k t289).bind fun t292 => ((laws_eqIntS.f k t292 t286).bind fun t295 => (if t295 = true then ((laws_toLawS.f k l0).bind fun t296 => ((laws_eqLawS.f k t289 t296).bind fun t299 => (if t299 = true then ((laws_markLawS.f k t289 1).bind fun bt300 => (if bt300.1 < 0 then (laws_FnExactIdleLaws.j0 k l0 t286 t292 true) else ((laws_eqIntS.f k t292 t286).bind fun t302 => (laws_FnExactIdleLaws.j0 k l0 t286 t292 (!t302))))) else (none)))) else (none)))))) = some r := H
  have A4 := Aside0.mk A40
  clear A40
  replace H := Option.bind_eq_some_iff.mp H
  obtain ⟨t286, A50, H⟩ := H
  replace H : ((laws_toLawS.f k l0).bind fun t289 => ((impl_IdleLaws.f k t289).bind fun t292 => ((laws_eqIntS.f k t292 t286).bind fun t295 => (if t295 = true then ((laws_toLawS.f k l0).bind fun t296 => ((laws_eqLawS.f k t289 t296).bind fun t299 => (if t299 = true then ((laws_markLawS.f k t289 1).bind fun bt300 => (if bt300.1 < 0 then (laws_FnExactIdleLaws.j0 k l0 t286 t292 true) else ((laws_eqIntS.f k t292 t286).bind fun t302 => (laws_FnExactIdleLaws.j0 k l0 t286 t292 (!t302))))) else (none)))) else (none))))) = some r := H
  have A5 := Aside0.mk A50
  clear A50
  replace H := Option.bind_eq_some_iff.mp H
  obtain ⟨t289, A60, H⟩ := H
  replace H : ((impl_IdleLaws.f k t289).bind fun t292 => ((laws_eqIntS.f k t292 t286).bind fun t295 => (if t295 = true then ((laws_toLawS.f k l0).bind fun t296 => ((laws_eqLawS.f k t289 t296).bind fun t299 => (if t299 = true then ((laws_markLawS.f k t289 1).bind fun bt300 => (if bt300.1 < 0 then (laws_FnExactIdleLaws.j0 k l0 t286 t292 true) else ((laws_eqIntS.f k t292 t286).bind fun t302 => (laws_FnExactIdleLaws.j0 k l0 t286 t292 (!t302))))) else (none)))) else (none)))) = some r := H
  have A6 := Aside0.mk A60
  clear A60
  replace H := Option.bind_eq_some_iff.mp H
  obtain ⟨t292, A70, H⟩ := H
  replace H : ((laws_eqIntS.f k t292 t286).bind fun t295 => (if t295 = true then ((laws_toLawS.f k l0).bind fun t296 => ((laws_eqLawS.f k t289 t296).bind fun t299 => (if t299 = true then ((laws_markLawS.f k t289 1).bind fun bt300 => (if bt300.1 < 0 then (laws_FnExactIdleLaws.j0 k l0 t286 t292 true) else ((laws_eqIntS.f k t292 t286).bind fun t302 => (laws_FnExactIdleLaws.j0 k l0 t286 t292 (!t302))))) else (none)))) else (none))) = some r := H
  have A7 := Aside0.mk A70
  clear A70
  replace H := Option.bind_eq_some_iff.mp H
  obtain ⟨t295, A80, H⟩ := H
  replace H : (if t295 = true then ((laws_toLawS.f k l0).bind fun t296 => ((laws_eqLawS.f k t289 t296).bind fun t299 => (if t299 = true then ((laws_markLawS.f k t289 1).bind fun bt300 => (if bt300.1 < 0 then (laws_FnExactIdleLaws.j0 k l0 t286 t292 true) else ((laws_eqIntS.f k t292 t286).bind fun t302 => (laws_FnExactIdleLaws.j0 k l0 t286 t292 (!t302))))) else (none)))) else (none)) = some r := H
  have A8 := Aside0.mk A80
  clear A80
  by_cases c9 : t295 = true
  ·subst c9
   have H1 : ((laws_toLawS.f k l0).bind fun t296 => ((laws_eqLawS.f k t289 t296).bind fun t299 => (if t299 = true then ((laws_markLawS.f k t289 1).bind fun bt300 => (if bt300.1 < 0 then (laws_FnExactIdleLaws.j0 k l0 t286 t292 true) else ((laws_eqIntS.f k t292 t286).bind fun t302 => (laws_FnExactIdleLaws.j0 k l0 t286 t292 (!t302))))) else (none)))) = some r := by rw [if_pos rfl] at H; exact H
   clear H
   have H := H1
   clear H1
   replace H := Option.bind_eq_some_iff.mp H
   obtain ⟨t296, A100, H⟩ := H
   replace H : ((laws_eqLawS.f k t289 t296).bind fun t299 => (if t299 = true then ((laws_markLawS.f k t289 1).bind fun bt300 => (if bt300.1 < 0 then (laws_FnExactIdleLaws.j0 k l0 t286 t292 true) else ((laws_eqIntS.f k t292 t286).bind fun t302 => (laws_FnExactIdleLaws.j0 k l0 t286 t292 (!t302))))) else (none))) = some r := H
   have A10 := Aside0.mk A100
   clear A100
   replace H := Option.bind_eq_some_iff.mp H
   obtain ⟨t299, A110, H⟩ := H
   replace H : (if t299 = true then ((laws_markLawS.f k t289 1).bind fun bt300 => (if bt300.1 < 0 then (laws_FnExactIdleLaws.j0 k l0 t286 t292 true) else ((laws_eqIntS.f k t292 t286).bind fun t302 => (laws_FnExactIdleLaws.j0 k l0 t286 t292 (!t302))))) else (none)) = some r := H
   have A11 := Aside0.mk A110
   clear A110
   by_cases c12 : t299 = true
   ·subst c12
    have H1 : ((laws_markLawS.f k t289 1).bind fun bt300 => (if bt300.1 < 0 then (laws_FnExactIdleLaws.j0 k l0 t286 t292 true) else ((laws_eqIntS.f k t292 t286).bind fun t302 => (laws_FnExactIdleLaws.j0 k l0 t286 t292 (!t302))))) = some r := by rw [if_pos rfl] at H; exact H
    clear H
    have H := H1
    clear H1
    replace H := Option.bind_eq_some_iff.mp H
    obtain ⟨⟨t300, t301⟩, A130, H⟩ := H
    replace H : (if t300 < 0 then (laws_FnExactIdleLaws.j0 k l0 t286 t292 true) else ((laws_eqIntS.f k t292 t286).bind fun t302 => (laws_FnExactIdleLaws.j0 k l0 t286 t292 (!t302)))) = some r := H
    have A13 := Aside0.mk A130
    clear A130
    have HC14 := Aside0.mk H
    clear H
    go_enter Try.func4, Try.ntmps4
    go_upto_region 14 with (first | ((with_reducible refine gate_callee (f := 14) rfl ?_); refine goesL_ (some 13) rfl rfl Try.func14 kr rfl #[.slice A0 l0.length c0, .int .i64 1048576] rfl lm ?_; (with_reducible refine (laws_szLawS.calls _ _ l0 1048576 t282 _ ?side1 ?side2 A2.out).mono ?_); (case side1 => repeat (first | exact HR0.out | (with_reducible refine Kd.C_alloc ?_ _) | (with_reducible refine Kd.C_drewN ?_ _) | (with_reducible refine Kd.C_drew ?_))); (case side2 => exact HC0.out); rintro e w' ⟨rfl, ⟨nd, rfl⟩⟩; refine ⟨_, rfl, ?_⟩) | ((with_reducible refine gate_callee (f := 16) rfl ?_); refine goesL_ (some 17) rfl rfl Try.func16 kr rfl #[.slice A0 l0.length c0] rfl lm ?_; (with_reducible refine (laws_toLawS.calls k _ _ l0 t283 _ ?side1 ?side2 A4.out).mono ?_); (case side1 => repeat (first | exact HR0.out | (with_reducible refine Kd.C_alloc ?_ _) | (with_reducible refine Kd.C_drewN ?_ _) | (with_reducible refine Kd.C_drew ?_))); (case side2 => exact HC0.out); rintro e w15 ⟨v284, rfl, ho0, hb⟩; refine ⟨_, rfl, ?_⟩; have n0_ := Aside0.mk (Kd.R_lower ho0 (below_size bh)); have n1_ := Aside0.mk (below_step bh hb); clear HB; have HO285 := n0_; have HB := n1_; clear n0_ n1_; (try clear hb); (try clear hb2); (try clear hk); (try clear hi); (try clear ho0); obtain ⟨Ao16, co16, eo16⟩ := Kd.R_slice HO285.out; subst eo16) | ((with_reducible refine gate_callee (f := 15) rfl ?_); refine goesL_ (some 18) rfl rfl Try.func15 kr rfl #[.slice Ao16 t283.length co16] rfl lm ?_; (with_reducible refine (spec_IdleLaws.calls k _ _ t283 t286 _ ?side1 ?side2 A5.out).mono ?_); (case side1 => repeat (first | exact (Kd.R_reads' HO285.out).2.2 | (with_reducible refine Kd.C_alloc ?_ _) | (with_reducible refine Kd.C_drewN ?_ _) | (with_reducible refine Kd.C_drew ?_))); (case side2 => exact (Kd.R_reads' HO285.out).2.1); rintro e w17 ⟨v287, rfl, ho0, hb⟩; refine ⟨_, rfl, ?_⟩; have n0_ := Aside0.mk (Kd.R_below (rz HO285) hb); have n1_ := Aside0.mk (Kd.R_lower ho0 (below_size bh)); have n2_ := Aside0.mk (below_step bh hb); clear HO285 HB; have HO285 := n0_; have HO288 := n1_; have HB := n2_; clear n0_ n1_ n2_; (try clear hb); (try clear hb2); (try clear hk); (try clear hi); (try clear ho0)) | ((with_reducible refine gate_callee (f := 16) rfl ?_); refine goesL_ (some 20) rfl rfl Try.func16 kr rfl #[.slice A0 l0.length c0] rfl lm ?_; (with_reducible refine (laws_toLawS.calls k _ _ l0 t289 _ ?side1 ?side2 A6.out).mono ?_); (case side1 => repeat (first | exact (Kd.C_below HR0.out HB.out) | (with_reducible refine Kd.C_alloc ?_ _) | (with_reducible refine Kd.C_drewN ?_ _) | (with_reducible refine Kd.C_drew ?_))); (case side2 => exact HC0.out); rintro e w18 ⟨v290, rfl, ho0, hb⟩; refine ⟨_, rfl, ?_⟩; have n0_ := Aside0.mk (Kd.R_elder' (rz HO285) (Kd.R_base ho0) hb); have n1_ := Aside0.mk (Kd.R_below (rz HO288) hb); have n2_ := Aside0.mk (Kd.R_lower (Kd.R_new' ho0 (Kd.R_lt (rz HO285))) (below_size bh)); have n3_ := Aside0.mk (below_step bh hb); clear HO285 HO288 HB; have HO285 := n0_; have HO288 := n1_; have HO291 := n2_; have HB := n3_; clear n0_ n1_ n2_ n3_; (try clear hb); (try clear hb2); (try clear hk); (try clear hi); (try clear ho0); obtain ⟨Ao19, co19, eo19⟩ := Kd.R_slice HO291.out; subst eo19) | ((with_reducible refine gate_callee (f := 17) rfl ?_); refine goesL_ (some 22) rfl rfl Try.func17 kr rfl #[.slice Ao19 t289.length co19] rfl lm ?_; (with_reducible refine (impl_IdleLaws.calls k _ _ t289 t292 _ ?side1 ?side2 A7.out).mono ?_); (case side1 => repeat (first | exact (Kd.R_reads' HO291.out).2.2 | (with_reducible refine Kd.C_alloc ?_ _) | (with_reducible refine Kd.C_drewN ?_ _) | (with_reducible refine Kd.C_drew ?_))); (case side2 => exact (Kd.R_reads' HO291.out).2.1); rintro e w20 ⟨v293, rfl, ho0, hb⟩; refine ⟨_, rfl, ?_⟩; have n0_ := Aside0.mk (Kd.R_below (rz HO285) hb); have n1_ := Aside0.mk (Kd.R_elder' (rz HO288) (Kd.R_base ho0) hb); have n2_ := Aside0.mk (Kd.R_below (rz HO291) hb); have n3_ := Aside0.mk (Kd.R_lower (Kd.R_new' ho0 (Kd.R_lt (rz HO288))) (below_size bh)); have n4_ := Aside0.mk (below_step bh hb); clear HO285 HO288 HO291 HB; have HO285 := n0_; have HO288 := n1_; have HO291 := n2_; have HO294 := n3_; have HB := n4_; clear n0_ n1_ n2_ n3_ n4_; (try clear hb); (try clear hb2); (try clear hk); (try clear hi); (try clear ho0); obtain ⟨Ao21, co21, eo21⟩ := Kd.R_slice HO294.out; subst eo21; obtain ⟨Ao22, co22, eo22⟩ := Kd.R_slice HO288.out; subst eo22) | ((with_reducible refine gate_callee (f := 18) rfl ?_); refine goesL_ (some 25) rfl rfl Try.func18 kr rfl #[.slice Ao21 t292.length co21, .slice Ao22 t286.length co22] rfl lm ?_; (with_reducible refine (laws_eqIntS.calls k _ _ t292 _ _ t286 true _ ?side1 ?side2 ?side3 ?side4 A8.out).mono ?_); (case side1 => repeat (first | exact (Kd.R_reads' HO294.out).2.2 | (with_reducible refine Kd.C_alloc ?_ _) | (with_reducible refine Kd.C_drewN ?_ _) | (with_reducible refine Kd.C_drew ?_))); (case side2 => exact (Kd.R_reads' HO294.out).2.1); (case side3 => repeat (first | exact (Kd.R_reads' HO288.out).2.2 | (with_reducible refine Kd.C_alloc ?_ _) | (with_reducible refine Kd.C_drewN ?_ _) | (with_reducible refine Kd.C_drew ?_))); (case side4 => exact (Kd.R_reads' HO288.out).2.1); rintro e w' ⟨rfl, ⟨nd, rfl⟩⟩; refine ⟨_, rfl, ?_⟩) | ((with_reducible refine gate_callee (f := 16) rfl ?_); refine goesL_ (some 29) rfl rfl Try.func16 kr rfl #[.slice A0 l0.length c0] rfl lm ?_; (with_reducible refine (laws_toLawS.calls k _ _ l0 t296 _ ?side1 ?side2 A10.out).mono ?_); (case side1 => repeat (first | exact (Kd.C_below HR0.out bh) | (with_reducible refine Kd.C_alloc ?_ _) | (with_reducible refine Kd.C_drewN ?_ _) | (with_reducible refine Kd.C_drew ?_))); (case side2 => exact HC0.out); rintro e w23 ⟨v297, rfl, ho0, hb⟩; refine ⟨_, rfl, ?_⟩; have n0_ := Aside0.mk (Kd.R_elder' (rz HO285) (Kd.R_base ho0) hb); have n1_ := Aside0.mk (Kd.R_below (rz HO288) hb); have n2_ := Aside0.mk (Kd.R_elder' (rz HO291) (Kd.R_base ho0) hb); have n3_ := Aside0.mk (Kd.R_below (rz HO294) hb); have n4_ := Aside0.mk (Kd.R_lower (Kd.R_new' (Kd.R_new' ho0 (Kd.R_lt (rz HO285))) (Kd.R_lt (rz HO291))) (below_size bh)); have n5_ := Aside0.mk (below_step bh hb); clear HO285 HO288 HO291 HO294 HB; have HO285 := n0_; have HO288 := n1_; have HO291 := n2_; have HO294 := n3_; have HO298 := n4_; have HB := n5_; clear n0_ n1_ n2_ n3_ n4_ n5_; (try clear hb); (try clear hb2); (try clear hk); (try clear hi); (try clear ho0); obtain ⟨Ao24, co24, eo24⟩ := Kd.R_slice HO298.out; subst eo24) | ((with_reducible refine gate_callee (f := 19) rfl ?_); refine goesL_ (some 30) rfl rfl Try.func19 kr rfl #[.slice Ao19 t289.length co19, .slice Ao24 t296.length co24] rfl lm ?_; (with_reducible refine (laws_eqLawS.calls k _ _ t289 _ _ t296 true _ ?side1 ?side2 ?side3 ?side4 A11.out).mono ?_); (case side1 => repeat (first | exact (Kd.R_reads' HO291.out).2.2 | (with_reducible refine Kd.C_alloc ?_ _) | (with_reducible refine Kd.C_drewN ?_ _) | (with_reducible refine Kd.C_drew ?_))); (case side2 => exact (Kd.R_reads' HO291.out).2.1); (case side3 => repeat (first | exact (Kd.R_reads' HO298.out).2.2 | (with_reducible refine Kd.C_alloc ?_ _) | (with_reducible refine Kd.C_drewN ?_ _) | (with_reducible refine Kd.C_drew ?_))); (case side4 => exact (Kd.R_reads' HO298.out).2.1); rintro e w25 ⟨rfl, hb⟩; refine ⟨_, rfl, ?_⟩; have n0_ := Aside0.mk (Kd.R_below (rz HO285) hb); have n1_ := Aside0.mk (Kd.R_below (rz HO288) hb); have n2_ := Aside0.mk (Kd.R_below (rz HO291) hb); have n3_ := Aside0.mk (Kd.R_below (rz HO294) hb); have n4_ := Aside0.mk (Kd.R_below (rz HO298) hb); have n5_ := Aside0.mk (below_step bh hb); clear HO285 HO288 HO291 HO294 HO298 HB; have HO285 := n0_; have HO288 := n1_; have HO291 := n2_; have HO294 := n3_; have HO298 := n4_; have HB := n5_; clear n0_ n1_ n2_ n3_ n4_ n5_; (try clear hb); (try clear hb2); (try clear hk); (try clear hi)) | ((with_reducible refine gate_callee (f := 20) rfl ?_); refine goesL_ (some 34) rfl rfl Try.func20 kr rfl #[.slice Ao19 t289.length co19, .int .i64 1] rfl lm ?_; (with_reducible refine (laws_markLawS.calls k (fun k_ => some k_ = (.slice Ao19 t289.length co19 : Value).ownBlock) (.slice Ao19 t289.length co19) t289 1 t300 t301 w _ ?side1 ?side2 A13.out).mono ?_); (case side1 => repeat (first | (with_reducible first | exact HB.out | apply below_alloc | apply pw_below_drewN | apply below_drew1) | exact HB.out)); (case side2 => exact Kd.R_tight rfl HO291.out); rintro e w26 ⟨rfl, hy0, hb, hkp⟩; refine ⟨_, rfl, ?_⟩; have n0_ := Aside0.mk (Kd.R_mono (ok' := fun k_ => some k_ ≠ (.slice Ao19 t289.length co19 : Value).ownBlock ∧ some k_ ≠ (.slice Ao24 t296.length co24 : Value).ownBlock) (Kd.R_keptB (HO285.out) hkp (fun k_ hk_ hs_ => (hk_.1.2) hs_)) (fun k_ hk_ => ⟨hk_.1.1.2, hk_.1.2⟩)); have n1_ := Aside0.mk (Kd.R_mono (ok' := fun k_ => some k_ ≠ (.slice Ao21 t292.length co21 : Value).ownBlock) (Kd.R_keptB ((Kd.R_apart' HO288.out (Kd.R_typed HO291.out) (by decide))) hkp (fun k_ hk_ hs_ => (hk_.2) hs_)) (fun k_ hk_ => hk_.1.1.2)); have n2_ := Aside0.mk (Kd.R_reok rfl hy0 (fun k_ e_ => HO291.out.1 k_ e_)); have n3_ := Aside0.mk (Kd.R_mono (ok' := fun k_ => some k_ ≠ (.slice Ao22 t286.length co22 : Value).ownBlock) (Kd.R_keptB ((Kd.R_apart' HO294.out (Kd.R_typed HO291.out) (by decide))) hkp (fun k_ hk_ hs_ => (hk_.2) hs_)) (fun k_ hk_ => hk_.1.1.2)); have n4_ := Aside0.mk (Kd.R_mono (ok' := fun k_ => some k_ ≠ (.slice Ao16 t283.length co16 : Value).ownBlock ∧ some k_ ≠ (.slice Ao19 t289.length co19 : Value).ownBlock) (Kd.R_keptB (HO298.out) hkp (fun k_ hk_ hs_ => (hk_.2) hs_)) (fun k_ hk_ => ⟨hk_.1.1.2, hk_.1.2⟩)); have n5_ := Aside0.mk (hb); clear HO285 HO288 HO291 HO294 HO298 HB; have HO285 := n0_; have HO288 := n1_; have HO291 := n2_; have HO294 := n3_; have HO298 := n4_; have HB := n5_; clear n0_ n1_ n2_ n3_ n4_ n5_; (try clear hb); (try clear hkp); (try clear hy0)))
    (try simp only [Act.put, List.setIfInBounds_toArray, List.set_cons_zero, List.set_cons_succ])
    go_cut [42] (fun v42 wc => ∃ (kq : Nat) (x42_13 : Bool), v42 = .bool x42_13 ∧ Aside0 (laws_FnExactIdleLaws.j0 kq l0 t286 t292 x42_13 = some r) ∧ Aside0 (kq ≤ k) ∧ Aside0 (Kd.R (Kd.int .i64) 3 wc w.heap.size (fun k_ => some k_ ≠ ((.slice Ao21 t292.length co21) : Value).ownBlock) (.slice Ao22 t286.length co22) t286) ∧ Aside0 (Kd.R (Kd.int .i64) 3 wc w.heap.size (fun k_ => some k_ ≠ ((.slice Ao22 t286.length co22) : Value).ownBlock) (.slice Ao21 t292.length co21) t292) ∧ Aside0 (Below w.heap.size w wc))
    case first =>
     have H := HC14.out
     clear HC14
     by_cases c27 : t300 < 0
     ·rw [if_pos c27] at H
      have c27b0 : decide (t300 < 0) = true := decide_eq_true c27
      clear c27
      (first | rw [c27b0] | (simp only [i64_w, i32_w]; rw [c27b0]) | skip)
      have H' := Aside0.mk H
      clear H
      go_wp2
      go_meet
      case rel => exact ⟨_, (true), (by first | rfl | (simp; done) | (simp [*]; done)), H', ⟨by first | omega | exact Nat.le_refl _⟩, ⟨rz HO288⟩, ⟨rz HO294⟩, ⟨by exact bh⟩⟩
     ·rw [if_neg c27] at H
      have c27b0 : decide (t300 < 0) = false := decide_eq_false c27
      clear c27
      (first | rw [c27b0] | (simp only [i64_w, i32_w]; rw [c27b0]) | skip)
      replace H := Option.bind_eq_some_iff.mp H
      obtain ⟨t302, A280, H⟩ := H
      replace H : (laws_FnExactIdleLaws.j0 k l0 t286 t292 (!t302)) = some r := H
      have A28 := Aside0.mk A280
      clear A280
      have H' := Aside0.mk H
      clear H
      go_wp2_with (first | (go_at_call 18; (with_reducible refine (laws_eqIntS.calls k _ _ t292 _ _ t286 t302 _ ?side1 ?side2 ?side3 ?side4 A28.out).mono ?_); (case side1 => repeat (first | exact (Kd.R_reads' HO294.out).2.2 | (with_reducible refine Kd.C_alloc ?_ _) | (with_reducible refine Kd.C_drewN ?_ _) | (with_reducible refine Kd.C_drew ?_))); (case side2 => exact (Kd.R_reads' HO294.out).2.1); (case side3 => repeat (first | exact (Kd.R_reads' HO288.out).2.2 | (with_reducible refine Kd.C_alloc ?_ _) | (with_reducible refine Kd.C_drewN ?_ _) | (with_reducible refine Kd.C_drew ?_))); (case side4 => exact (Kd.R_reads' HO288.out).2.1); rintro e w' ⟨rfl, ⟨nd, rfl⟩⟩))
      go_meet
      case rel => exact ⟨_, (!t302), (by first | rfl | (simp; done) | (simp [*]; done)), H', ⟨by first | omega | exact Nat.le_refl _⟩, ⟨rz HO288⟩, ⟨rz HO294⟩, ⟨by exact bh⟩⟩
    case rest =>
     clear HC14
     try clear c1
     try clear c2
     try clear p2
     try clear c3
     try clear c3b0
     try clear c4
     try clear c9
     try clear c12
     try clear c14
     try clear c15
     try clear c16
     try clear c17
     try clear c18
     try clear c19
     try clear c20
     try clear c27
     try clear c27b0
     obtain ⟨kq, x42_13, rfl, HA, HJ13, HO_4, HO_6, HB⟩ := hcut
     cases kq with
     | zero => exact absurd HA.out (by simp [laws_FnExactIdleLaws.j0])
     | succ kj13 =>
      have H := HA.out
      clear HA
      simp only [laws_FnExactIdleLaws.j0] at H
      by_cases c29 : x42_13 = true
      ·subst c29
       have H1 : (none) = some r := by rw [if_pos rfl] at H; exact H
       clear H
       have H := H1
       clear H1
       exact absurd H (by simp)
      ·replace c29 := Bool.eq_false_iff.mpr c29
       subst c29
       have H1 : ((laws_markIntS.f kj13 t292 1).bind fun bt303 => ((laws_heldIntS.f kj13 bt303.2 1).bind fun t305 => (if t305 < 0 then (none) else (if t305 = bt303.1 then ((laws_toLawS.f kj13 l0).bind fun t306 => ((impl_IdleLaws.f kj13 t306).bind fun t309 => ((laws_eqIntS.f kj13 t309 t286).bind fun t312 => (if t312 = true then ((laws_heldIntS.f kj13 bt303.2 1).bind fun t313 => (if t313 < 0 then (none) else (if t313 = bt303.1 then (some true) else (none)))) else (none))))) else (none))))) = some r := by rw [if_neg (show ¬ (false = true) by decide)] at H; exact H
       clear H
       have H := H1
       clear H1
       replace H := Option.bind_eq_some_iff.mp H
       obtain ⟨⟨t303, t304⟩, A300, H⟩ := H
       replace H : ((laws_heldIntS.f kj13 t304 1).bind fun t305 => (if t305 < 0 then (none) else (if t305 = t303 then ((laws_toLawS.f kj13 l0).bind fun t306 => ((impl_IdleLaws.f kj13 t306).bind fun t309 => ((laws_eqIntS.f kj13 t309 t286).bind fun t312 => (if t312 = true then ((laws_heldIntS.f kj13 t304 1).bind fun t313 => (if t313 < 0 then (none) else (if t313 = t303 then (some true) else (none)))) else (none))))) else (none)))) = some r := H
       have A30 := Aside0.mk A300
       clear A300
       replace H := Option.bind_eq_some_iff.mp H
       obtain ⟨t305, A310, H⟩ := H
       replace H : (if t305 < 0 then (none) else (if t305 = t303 then ((laws_toLawS.f kj13 l0).bind fun t306 => ((impl_IdleLaws.f kj13 t306).bind fun t309 => ((laws_eqIntS.f kj13 t309 t286).bind fun t312 => (if t312 = true then ((laws_heldIntS.f kj13 t304 1).bind fun t313 => (if t313 < 0 then (none) else (if t313 = t303 then (some true) else (none)))) else (none))))) else (none))) = some r := H
       have A31 := Aside0.mk A310
       clear A310
       by_cases c32 : t305 < 0
       ·rw [if_pos c32] at H
        exact absurd H (by simp)
       ·rw [if_neg c32] at H
        have c32b0 : decide (t305 < 0) = false := decide_eq_false c32
        clear c32
        by_cases c33 : t305 = t303
        ·rw [if_pos c33] at H
         have c33b0 : (t305 == t303) = true := beq_iff_eq.mpr c33
         have c33b1 : (t305 != t303) = false := bne_eq_false_iff_eq.mpr c33
         clear c33
         replace H := Option.bind_eq_some_iff.mp H
         obtain ⟨t306, A340, H⟩ := H
         replace H : ((impl_IdleLaws.f kj13 t306).bind fun t309 => ((laws_eqIntS.f kj13 t309 t286).bind fun t312 => (if t312 = true then ((laws_heldIntS.f kj13 t304 1).bind fun t313 => (if t313 < 0 then (none) else (if t313 = t303 then (some true) else (none)))) else (none)))) = some r := H
         have A34 := Aside0.mk A340
         clear A340
         replace H := Option.bind_eq_some_iff.mp H
         obtain ⟨t309, A350, H⟩ := H
         replace H : ((laws_eqIntS.f kj13 t309 t286).bind fun t312 => (if t312 = true then ((laws_heldIntS.f kj13 t304 1).bind fun t313 => (if t313 < 0 then (none) else (if t313 = t303 then (some true) else (none)))) else (none))) = some r := H
         have A35 := Aside0.mk A350
         clear A350
         replace H := Option.bind_eq_some_iff.mp H
         obtain ⟨t312, A360, H⟩ := H
         replace H : (if t312 = true then ((laws_heldIntS.f kj13 t304 1).bind fun t313 => (if t313 < 0 then (none) else (if t313 = t303 then (some true) else (none)))) else (none)) = some r := H
         have A36 := Aside0.mk A360
         clear A360
         by_cases c37 : t312 = true
         ·subst c37
          have H1 : ((laws_heldIntS.f kj13 t304 1).bind fun t313 => (if t313 < 0 then (none) else (if t313 = t303 then (some true) else (none)))) = some r := by rw [if_pos rfl] at H; exact H
          clear H
          have H := H1
          clear H1
          replace H := Option.bind_eq_some_iff.mp H
          obtain ⟨t313, A380, H⟩ := H
          replace H : (if t313 < 0 then (none) else (if t313 = t303 then (some true) else (none))) = some r := H
          have A38 := Aside0.mk A380
          clear A380
          by_cases c39 : t313 < 0
          ·rw [if_pos c39] at H
           exact absurd H (by simp)
          ·rw [if_neg c39] at H
           have c39b0 : decide (t313 < 0) = false := decide_eq_false c39
           clear c39
           by_cases c40 : t313 = t303
           ·rw [if_pos c40] at H
            have c40b0 : (t313 == t303) = true := beq_iff_eq.mpr c40
            have c40b1 : (t313 != t303) = false := bne_eq_false_iff_eq.mpr c40
            clear c40
            obtain rfl := Option.some.inj H
            go_wp2_with (first | ((with_reducible refine gate_callee (f := 21) rfl ?_); refine goesL_ (some 45) rfl rfl Try.func21 kr rfl #[.slice Ao21 t292.length co21, .int .i64 1] rfl lm ?_; (with_reducible refine (laws_markIntS.calls kj13 (fun k_ => some k_ = (.slice Ao21 t292.length co21 : Value).ownBlock) (.slice Ao21 t292.length co21) t292 1 t303 t304 w _ ?side1 ?side2 A30.out).mono ?_); (case side1 => repeat (first | (with_reducible first | exact HB.out | apply below_alloc | apply pw_below_drewN | apply below_drew1) | exact HB.out)); (case side2 => exact Kd.R_tight rfl HO_6.out); rintro e w41 ⟨rfl, hy0, hb, hkp⟩; refine ⟨_, rfl, ?_⟩; have n0_ := Aside0.mk (Kd.R_mono (ok' := fun k_ => some k_ ≠ (.slice Ao21 t292.length co21 : Value).ownBlock) (Kd.R_keptB (HO_4.out) hkp (fun k_ hk_ hs_ => (hk_) hs_)) (fun k_ hk_ => hk_.1)); have n1_ := Aside0.mk (Kd.R_reok rfl hy0 (fun k_ e_ => HO_6.out.1 k_ e_)); have n2_ := Aside0.mk (hb); clear HO_4 HO_6 HB; have HO_4 := n0_; have HO_6 := n1_; have HB := n2_; clear n0_ n1_ n2_; (try clear hb); (try clear hkp); (try clear hy0)) | ((with_reducible refine gate_callee (f := 22) rfl ?_); refine goesL_ (some 48) rfl rfl Try.func22 kr rfl #[.slice Ao21 t304.length co21, .int .i64 1] rfl (by (try simp only [List.map_toArray, List.map_cons, List.map_nil]); first | done | (rw [show t304.length = t292.length from (Kd.R_reads' HO_6.out).1.symm] <;> rfl) | rfl | (simp only [List.length_drop, List.length_take]; rfl)) ?_; (with_reducible refine (laws_heldIntS.calls kj13 _ _ t304 1 t305 _ ?side1 ?side2 A31.out).mono ?_); (case side1 => repeat (first | exact (Kd.R_reads' HO_6.out).2.2 | (with_reducible refine Kd.C_alloc ?_ _) | (with_reducible refine Kd.C_drewN ?_ _) | (with_reducible refine Kd.C_drew ?_))); (case side2 => rw [show t304.length = t292.length from (Kd.R_reads' HO_6.out).1.symm]; exact (Kd.R_reads' HO_6.out).2.1); rintro e w' ⟨rfl, ⟨nd, rfl⟩⟩; refine ⟨_, rfl, ?_⟩) | ((with_reducible refine gate_callee (f := 16) rfl ?_); refine goesL_ (some 55) rfl rfl Try.func16 kr rfl #[.slice A0 l0.length c0] rfl lm ?_; (with_reducible refine (laws_toLawS.calls kj13 _ _ l0 t306 _ ?side1 ?side2 A34.out).mono ?_); (case side1 => repeat (first | exact (Kd.C_below HR0.out bh) | (with_reducible refine Kd.C_alloc ?_ _) | (with_reducible refine Kd.C_drewN ?_ _) | (with_reducible refine Kd.C_drew ?_))); (case side2 => exact HC0.out); rintro e w42 ⟨v307, rfl, ho0, hb⟩; refine ⟨_, rfl, ?_⟩; have n0_ := Aside0.mk (Kd.R_below (rz HO_4) hb); have n1_ := Aside0.mk (Kd.R_below (rz HO_6) hb); have n2_ := Aside0.mk (Kd.R_lower ho0 (below_size bh)); have n3_ := Aside0.mk (below_step bh hb); clear HO_4 HO_6 HB; have HO_4 := n0_; have HO_6 := n1_; have HO308 := n2_; have HB := n3_; clear n0_ n1_ n2_ n3_; (try clear hb); (try clear hb2); (try clear hk); (try clear hi); (try clear ho0); obtain ⟨Ao43, co43, eo43⟩ := Kd.R_slice HO308.out; subst eo43) | ((with_reducible refine gate_callee (f := 17) rfl ?_); refine goesL_ (some 56) rfl rfl Try.func17 kr rfl #[.slice Ao43 t306.length co43] rfl lm ?_; (with_reducible refine (impl_IdleLaws.calls kj13 _ _ t306 t309 _ ?side1 ?side2 A35.out).mono ?_); (case side1 => repeat (first | exact (Kd.R_reads' HO308.out).2.2 | (with_reducible refine Kd.C_alloc ?_ _) | (with_reducible refine Kd.C_drewN ?_ _) | (with_reducible refine Kd.C_drew ?_))); (case side2 => exact (Kd.R_reads' HO308.out).2.1); rintro e w44 ⟨v310, rfl, ho0, hb⟩; refine ⟨_, rfl, ?_⟩; have n0_ := Aside0.mk (Kd.R_elder' (rz HO_4) (Kd.R_base ho0) hb); have n1_ := Aside0.mk (Kd.R_elder' (rz HO_6) (Kd.R_base ho0) hb); have n2_ := Aside0.mk (Kd.R_below (rz HO308) hb); have n3_ := Aside0.mk (Kd.R_lower (Kd.R_new' (Kd.R_new' ho0 (Kd.R_lt (rz HO_4))) (Kd.R_lt (rz HO_6))) (below_size bh)); have n4_ := Aside0.mk (below_step bh hb); clear HO_4 HO_6 HO308 HB; have HO_4 := n0_; have HO_6 := n1_; have HO308 := n2_; have HO311 := n3_; have HB := n4_; clear n0_ n1_ n2_ n3_ n4_; (try clear hb); (try clear hb2); (try clear hk); (try clear hi); (try clear ho0); obtain ⟨Ao45, co45, eo45⟩ := Kd.R_slice HO311.out; subst eo45) | ((with_reducible refine gate_callee (f := 18) rfl ?_); refine goesL_ (some 59) rfl rfl Try.func18 kr rfl #[.slice Ao45 t309.length co45, .slice Ao22 t286.length co22] rfl lm ?_; (with_reducible refine (laws_eqIntS.calls kj13 _ _ t309 _ _ t286 true _ ?side1 ?side2 ?side3 ?side4 A36.out).mono ?_); (case side1 => repeat (first | exact (Kd.R_reads' HO311.out).2.2 | (with_reducible refine Kd.C_alloc ?_ _) | (with_reducible refine Kd.C_drewN ?_ _) | (with_reducible refine Kd.C_drew ?_))); (case side2 => exact (Kd.R_reads' HO311.out).2.1); (case side3 => repeat (first | exact (Kd.R_reads' HO_4.out).2.2 | (with_reducible refine Kd.C_alloc ?_ _) | (with_reducible refine Kd.C_drewN ?_ _) | (with_reducible refine Kd.C_drew ?_))); (case side4 => exact (Kd.R_reads' HO_4.out).2.1); rintro e w' ⟨rfl, ⟨nd, rfl⟩⟩; refine ⟨_, rfl, ?_⟩) | ((with_reducible refine gate_callee (f := 22) rfl ?_); refine goesL_ (some 63) rfl rfl Try.func22 kr rfl #[.slice Ao21 t304.length co21, .int .i64 1] rfl (by (try simp only [List.map_toArray, List.map_cons, List.map_nil]); first | done | (rw [show t304.length = t292.length from (Kd.R_reads' HO_6.out).1.symm] <;> rfl) | rfl | (simp only [List.length_drop, List.length_take]; rfl)) ?_; (with_reducible refine (laws_heldIntS.calls kj13 _ _ t304 1 t313 _ ?side1 ?side2 A38.out).mono ?_); (case side1 => repeat (first | exact (Kd.R_reads' HO_6.out).2.2 | (with_reducible refine Kd.C_alloc ?_ _) | (with_reducible refine Kd.C_drewN ?_ _) | (with_reducible refine Kd.C_drew ?_))); (case side2 => rw [show t304.length = t292.length from (Kd.R_reads' HO_6.out).1.symm]; exact (Kd.R_reads' HO_6.out).2.1); rintro e w' ⟨rfl, ⟨nd, rfl⟩⟩; refine ⟨_, rfl, ?_⟩))
            go_ret
            exact ⟨by first | rfl | (simp [errW_none, errW_some] <;> rfl) | (simp [*, errW_none, errW_some] <;> rfl), by exact bh⟩
           ·rw [if_neg c40] at H
            exact absurd H (by simp)
         ·replace c37 := Bool.eq_false_iff.mpr c37
          subst c37
          have H1 : (none) = some r := by rw [if_neg (show ¬ (false = true) by decide)] at H; exact H
          clear H
          have H := H1
          clear H1
          exact absurd H (by simp)
        ·rw [if_neg c33] at H
         exact absurd H (by simp)
   ·replace c12 := Bool.eq_false_iff.mpr c12
    subst c12
    have H1 : (none) = some r := by rw [if_neg (show ¬ (false = true) by decide)] at H; exact H
    clear H
    have H := H1
    clear H1
    exact absurd H (by simp)
  ·replace c9 := Bool.eq_false_iff.mpr c9
   subst c9
   have H1 : (none) = some r := by rw [if_neg (show ¬ (false = true) by decide)] at H; exact H
   clear H
   have H := H1
   clear H1
   exact absurd H (by simp)

def laws_FnExactIdleLaws.Pure : Prop := ∀ (l0 : List (S56)), Opens.pSlice (Opens.pIso (Opens.pPair (Opens.pInt .i64) (Opens.pPair (Opens.pInt .i64) (Opens.pPair (Opens.pInt .i64) (Opens.pPair (Opens.pInt .i64) Opens.pBool)))) (fun x : S56 => (x.f0, x.f1, x.f2, x.f3, x.f4))) l0 → ∃ k, laws_FnExactIdleLaws.f k l0 = some true

end Go.Proofs.Ytnandbgcejkonaa.QFnExactIdleLaws
