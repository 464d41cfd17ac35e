-- Printed for this claim by a turned copy of the print (wip/myprint). Lean checks it. Squeezed. Worded. Tightened.
import Derived.Test.YtnandbgcejkonaaQFnWithoutLawx0
import Derived.Test.YtnandbgcejkonaaQFnWithoutLawx3
import Derived.Test.YtnandbgcejkonaaQFnWithoutLawx4
import Derived.Test.YtnandbgcejkonaaQFnWithoutLawx6
import Derived.Test.YtnandbgcejkonaaQFnWithoutLawx7
namespace Go.Proofs.Ytnandbgcejkonaa.QFnWithoutLaw
open Go.RowKit Go.Proofs.YtnandbgcejkonaaW.PrintWords Go.Proofs.YtnandbgcejkonaaW.PrintLast Go.Proofs.YtnandbgcejkonaaW.PrintMore
attribute [local go_sem] max2_int min2_int max_two min_two max_three min_three max_four min_four Opens.cell_twice   -- for this text's walks alone
set_option linter.unusedVariables false
set_option linter.unusedSimpArgs false

/-! ### laws_FnWithoutLaw: function 3 -/
mutual
def laws_FnWithoutLaw.j0 : Nat → List (S46) → Int → List (S46) → Bool → Bool → Option (Bool)
 | 0, _, _, _, _, _ => none
 | k + 1, x3, x4, x5, x6, x40 => if x40 = true then (none) else (if x6 = true then (laws_FnWithoutLaw.l0 k x3 x4 x5 0) else (if (x5.length : Int) = 0 then ((laws_alive.f).bind fun t304 => (some t304)) else (none)))
def laws_FnWithoutLaw.l0 : Nat → List (S46) → Int → List (S46) → Int → Option (Bool)
 | 0, _, _, _, _ => none
 | k + 1, x3, x4, x5, x9 => if x9 < 3 then (laws_FnWithoutLaw.l1 k x3 x4 x5 x9 0) else (some ((x5.length : Int) == (wrap64 ((x3.length : Int) - 1))))
def laws_FnWithoutLaw.l1 : Nat → List (S46) → Int → List (S46) → Int → Int → Option (Bool)
 | 0, _, _, _, _, _ => none
 | k + 1, x3, x4, x5, x9, x10 => if x10 < 2 then ((impl_UnbeatenOf.f k x3 x9 (wrap64 (x10 * 7))).bind fun t305 => ((laws_hasInt.f k t305 x4).bind fun t308 => (if t308 = true then (laws_FnWithoutLaw.l1 k x3 x4 x5 x9 (wrap64 (x10 + 1))) else ((impl_SaysOf.f k x5 x9 (wrap64 (x10 * 7))).bind fun t309 => ((impl_SaysOf.f k x3 x9 (wrap64 (x10 * 7))).bind fun t310 => (if t309 = t310 then (laws_FnWithoutLaw.l1 k x3 x4 x5 x9 (wrap64 (x10 + 1))) else (none))))))) else (laws_FnWithoutLaw.l0 k x3 x4 x5 (wrap64 (x9 + 1)))
end
def laws_FnWithoutLaw.f (k : Nat) (l0 : List Int) : Option (Bool) := if (l0.length : Int) > 1048576 then (some true) else ((spec_DrawWithoutLaw.f k l0).bind fun bt291 => ((impl_WithoutLaw.f k bt291.1 bt291.2).bind fun bt295 => ((spec_WithoutLaw.f k bt291.1 bt291.2).bind fun bt299 => ((laws_sameBook.f k bt295.1 bt299.1).bind fun t303 => (if t303 = true then (laws_FnWithoutLaw.j0 k bt291.1 bt291.2 bt295.1 bt295.2 (bt295.2 != bt299.2)) else (laws_FnWithoutLaw.j0 k bt291.1 bt291.2 bt295.1 bt295.2 true))))))
theorem laws_FnWithoutLaw.mono_l : ∀ k, (∀ y0 y1 y2 y3 y4, LeO (laws_FnWithoutLaw.j0 k y0 y1 y2 y3 y4) (laws_FnWithoutLaw.j0 (k + 1) y0 y1 y2 y3 y4)) ∧ (∀ y0 y1 y2 y3, LeO (laws_FnWithoutLaw.l0 k y0 y1 y2 y3) (laws_FnWithoutLaw.l0 (k + 1) y0 y1 y2 y3)) ∧ (∀ y0 y1 y2 y3 y4, LeO (laws_FnWithoutLaw.l1 k y0 y1 y2 y3 y4) (laws_FnWithoutLaw.l1 (k + 1) y0 y1 y2 y3 y4))
 | 0 => ⟨fun _ _ _ _ _ r h => by simp [laws_FnWithoutLaw.j0] at h, fun _ _ _ _ r h => by simp [laws_FnWithoutLaw.l0] at h, fun _ _ _ _ _ r h => by simp [laws_FnWithoutLaw.l1] at h⟩
 | k + 1 => by
  obtain ⟨ih0, ih1, ih2⟩ := laws_FnWithoutLaw.mono_l k
  refine ⟨?_, ?_, ?_⟩
  ·intro y0 y1 y2 y3 y4
   unfold laws_FnWithoutLaw.j0
   repeat' first
   | (with_reducible exact ih0 _ _ _ _ _)
   | (with_reducible exact ih1 _ _ _ _)
   | (with_reducible exact ih2 _ _ _ _ _)
   | (with_reducible exact impl_SaysOf.mono _ _ _ _)
   | (with_reducible exact impl_UnbeatenOf.mono _ _ _ _)
   | (with_reducible exact impl_WithoutLaw.mono _ _ _)
   | (with_reducible exact laws_hasInt.mono _ _ _)
   | (with_reducible exact laws_sameBook.mono _ _ _)
   | (with_reducible exact spec_DrawWithoutLaw.mono _ _)
   | (with_reducible exact spec_WithoutLaw.mono _ _ _)
   | (with_reducible exact LeO.refl _)
   | (with_reducible exact LeO.none _)
   | (with_reducible refine LeO.ite ?_ ?_)
   | (with_reducible refine LeO.bind ?_ (fun _ => ?_))
   | exact ih0 _ _ _ _ _
   | exact ih1 _ _ _ _
   | exact ih2 _ _ _ _ _
   | exact impl_SaysOf.mono _ _ _ _
   | exact impl_UnbeatenOf.mono _ _ _ _
   | exact impl_WithoutLaw.mono _ _ _
   | exact laws_hasInt.mono _ _ _
   | exact laws_sameBook.mono _ _ _
   | exact spec_DrawWithoutLaw.mono _ _
   | exact spec_WithoutLaw.mono _ _ _
   | exact LeO.none _
   | refine LeO.ite ?_ ?_
   | refine LeO.bind ?_ (fun _ => ?_)
  ·intro y0 y1 y2 y3
   unfold laws_FnWithoutLaw.l0
   repeat' first
   | (with_reducible exact ih0 _ _ _ _ _)
   | (with_reducible exact ih1 _ _ _ _)
   | (with_reducible exact ih2 _ _ _ _ _)
   | (with_reducible exact impl_SaysOf.mono _ _ _ _)
   | (with_reducible exact impl_UnbeatenOf.mono _ _ _ _)
   | (with_reducible exact impl_WithoutLaw.mono _ _ _)
   | (with_reducible exact laws_hasInt.mono _ _ _)
   | (with_reducible exact laws_sameBook.mono _ _ _)
   | (with_reducible exact spec_DrawWithoutLaw.mono _ _)
   | (with_reducible exact spec_WithoutLaw.mono _ _ _)
   | (with_reducible exact LeO.refl _)
   | (with_reducible exact LeO.none _)
   | (with_reducible refine LeO.ite ?_ ?_)
   | (with_reducible refine LeO.bind ?_ (fun _ => ?_))
   | exact ih0 _ _ _ _ _
   | exact ih1 _ _ _ _
   | exact ih2 _ _ _ _ _
   | exact impl_SaysOf.mono _ _ _ _
   | exact impl_UnbeatenOf.mono _ _ _ _
   | exact impl_WithoutLaw.mono _ _ _
   | exact laws_hasInt.mono _ _ _
   | exact laws_sameBook.mono _ _ _
   | exact spec_DrawWithoutLaw.mono _ _
   | exact spec_WithoutLaw.mono _ _ _
   | exact LeO.none _
   | refine LeO.ite ?_ ?_
   | refine LeO.bind ?_ (fun _ => ?_)
  ·intro y0 y1 y2 y3 y4
   unfold laws_FnWithoutLaw.l1
   repeat' first
   | (with_reducible exact ih0 _ _ _ _ _)
   | (with_reducible exact ih1 _ _ _ _)
   | (with_reducible exact ih2 _ _ _ _ _)
   | (with_reducible exact impl_SaysOf.mono _ _ _ _)
   | (with_reducible exact impl_UnbeatenOf.mono _ _ _ _)
   | (with_reducible exact impl_WithoutLaw.mono _ _ _)
   | (with_reducible exact laws_hasInt.mono _ _ _)
   | (with_reducible exact laws_sameBook.mono _ _ _)
   | (with_reducible exact spec_DrawWithoutLaw.mono _ _)
   | (with_reducible exact spec_WithoutLaw.mono _ _ _)
   | (with_reducible exact LeO.refl _)
   | (with_reducible exact LeO.none _)
   | (with_reducible refine LeO.ite ?_ ?_)
   | (with_reducible refine LeO.bind ?_ (fun _ => ?_))
   | exact ih0 _ _ _ _ _
   | exact ih1 _ _ _ _
   | exact ih2 _ _ _ _ _
   | exact impl_SaysOf.mono _ _ _ _
   | exact impl_UnbeatenOf.mono _ _ _ _
   | exact impl_WithoutLaw.mono _ _ _
   | exact laws_hasInt.mono _ _ _
   | exact laws_sameBook.mono _ _ _
   | exact spec_DrawWithoutLaw.mono _ _
   | exact spec_WithoutLaw.mono _ _ _
   | exact LeO.none _
   | refine LeO.ite ?_ ?_
   | refine LeO.bind ?_ (fun _ => ?_)
theorem laws_FnWithoutLaw.mono : ∀ a0 k, LeO (laws_FnWithoutLaw.f k a0) (laws_FnWithoutLaw.f (k + 1) a0) := by
 intro a0 k
 obtain ⟨ih0, ih1, ih2⟩ := laws_FnWithoutLaw.mono_l k
 unfold laws_FnWithoutLaw.f
 repeat' first
   | (with_reducible exact ih0 _ _ _ _ _)
   | (with_reducible exact ih1 _ _ _ _)
   | (with_reducible exact ih2 _ _ _ _ _)
   | (with_reducible exact impl_SaysOf.mono _ _ _ _)
   | (with_reducible exact impl_UnbeatenOf.mono _ _ _ _)
   | (with_reducible exact impl_WithoutLaw.mono _ _ _)
   | (with_reducible exact laws_hasInt.mono _ _ _)
   | (with_reducible exact laws_sameBook.mono _ _ _)
   | (with_reducible exact spec_DrawWithoutLaw.mono _ _)
   | (with_reducible exact spec_WithoutLaw.mono _ _ _)
   | (with_reducible exact LeO.refl _)
   | (with_reducible exact LeO.none _)
   | (with_reducible refine LeO.ite ?_ ?_)
   | (with_reducible refine LeO.bind ?_ (fun _ => ?_))
   | exact ih0 _ _ _ _ _
   | exact ih1 _ _ _ _
   | exact ih2 _ _ _ _ _
   | exact impl_SaysOf.mono _ _ _ _
   | exact impl_UnbeatenOf.mono _ _ _ _
   | exact impl_WithoutLaw.mono _ _ _
   | exact laws_hasInt.mono _ _ _
   | exact laws_sameBook.mono _ _ _
   | exact spec_DrawWithoutLaw.mono _ _
   | exact spec_WithoutLaw.mono _ _ _
   | exact LeO.none _
   | refine LeO.ite ?_ ?_
   | refine LeO.bind ?_ (fun _ => ?_)
set_option maxHeartbeats 8000000 in
set_option maxRecDepth 100000 in
theorem laws_FnWithoutLaw.calls (k : Nat) (A0 : Option Addr) (c0 : Nat) (l0 : List Int) (r : Bool) (w : World) (hr0 : Kd.C (Kd.int .u8) w A0 l0.length l0) (hc0 : l0.length ≤ c0) (h : laws_FnWithoutLaw.f k l0 = some r) :
  Calls Try.prog 3 #[.slice A0 l0.length c0] w fun e w' => e = .returned (.bool r) ∧ Below w.heap.size w w' := by
 have HR0 := Aside0.mk hr0
 have HC0 := Aside0.mk hc0
 clear hr0 hc0
 have HB := Aside0.mk (Below.refl w.heap.size w)
 have H : (if (l0.length : Int) > 1048576 then (some true) else ((spec_DrawWithoutLaw.f k l0).bind fun bt291 => ((impl_WithoutLaw.f k bt291.1 bt291.2).bind fun bt295 => ((spec_WithoutLaw.f k bt291.1 bt291.2).bind fun bt299 => ((laws_sameBook.f k bt295.1 bt299.1).bind fun t303 => (if t303 = true then (laws_FnWithoutLaw.j0 k bt291.1 bt291.2 bt295.1 bt295.2 (bt295.2 != bt299.2)) else (laws_FnWithoutLaw.j0 k bt291.1 bt291.2 bt295.1 bt295.2 true))))))) = some r := h
 clear h
 by_cases c2 : (l0.length : Int) > 1048576
 ·rw [if_pos c2] at H
  have c2b0 : decide (1048576 < (l0.length : Int)) = true := decide_eq_true c2
  have c2b1 : decide (1048576 < l0.length) = true := decide_eq_true (by omega)
  clear c2
  obtain rfl := Option.some.inj H
  go_enter Try.func3, Try.ntmps3
  go_wp2
  go_ret
  exact ⟨by first | rfl | (simp [errW_none, errW_some] <;> rfl) | (simp [*, errW_none, errW_some] <;> rfl), by exact bh⟩
 ·rw [if_neg c2] at H
  have c2b0 : decide (1048576 < (l0.length : Int)) = false := decide_eq_false c2
  have c2b1 : decide (1048576 < l0.length) = false := decide_eq_false (by omega)
  clear c2
  replace H := Option.bind_eq_some_iff.mp H
  obtain ⟨⟨t291, t292⟩, A30, H⟩ := H
  replace H : ((impl_WithoutLaw.f k t291 t292).bind fun bt295 => ((spec_WithoutLaw.f k t291 t292).bind fun bt299 => ((laws_sameBook.f k bt295.1 bt299.1).bind fun t303 => (if t303 = true then (laws_FnWithoutLaw.j0 k t291 t292 bt295.1 bt295.2 (bt295.2 != bt299.2)) else (laws_FnWithoutLaw.j0 k t291 t292 bt295.1 bt295.2 true))))) = some r := H
  have A3 := Aside0.mk A30
  clear A30
  replace H := Option.bind_eq_some_iff.mp H
  obtain ⟨⟨t295, t296⟩, A40, H⟩ := H
  replace H : ((spec_WithoutLaw.f k t291 t292).bind fun bt299 => ((laws_sameBook.f k t295 bt299.1).bind fun t303 => (if t303 = true then (laws_FnWithoutLaw.j0 k t291 t292 t295 t296 (t296 != bt299.2)) else (laws_FnWithoutLaw.j0 k t291 t292 t295 t296 true)))) = some r := H
  have A4 := Aside0.mk A40
  clear A40
  replace H := Option.bind_eq_some_iff.mp H
  obtain ⟨⟨t299, t300⟩, A50, H⟩ := H
  replace H : ((laws_sameBook.f k t295 t299).bind fun t303 => (if t303 = true then (laws_FnWithoutLaw.j0 k t291 t292 t295 t296 (t296 != t300)) else (laws_FnWithoutLaw.j0 k t291 t292 t295 t296 true))) = some r := H
  have A5 := Aside0.mk A50
  clear A50
  have HC6 := Aside0.mk H
  clear H
  go_enter Try.func3, Try.ntmps3
  go_upto_region 6 with (first | ((with_reducible refine gate_callee (f := 6) rfl ?_); refine goesL_ (some 17) rfl rfl Try.func6 kr rfl #[.slice A0 l0.length c0] rfl lm ?_; (with_reducible refine (spec_DrawWithoutLaw.calls k _ _ l0 t291 t292 _ ?side1 ?side2 A3.out).mono ?_); (case side1 => repeat (first | exact HR0.out | (with_reducible refine Kd.C_alloc ?_ _) | (with_reducible refine Kd.C_drewN ?_ _) | (with_reducible refine Kd.C_drew ?_))); (case side2 => exact HC0.out); rintro e w7 ⟨v293, rfl, ho0, hb⟩; refine ⟨_, rfl, ?_⟩; have n0_ := Aside0.mk (Kd.R_lower ho0 (below_size bh)); have n1_ := Aside0.mk (below_step bh hb); clear HB; have HO294 := n0_; have HB := n1_; clear n0_ n1_; (try clear hb); (try clear hb2); (try clear hk); (try clear hi); (try clear ho0); obtain ⟨Ao8, co8, eo8⟩ := Kd.R_slice HO294.out; subst eo8) | ((with_reducible refine gate_callee (f := 7) rfl ?_); refine goesL_ (some 23) rfl rfl Try.func7 kr rfl #[.slice Ao8 t291.length co8, .int .i64 t292] rfl lm ?_; (with_reducible refine (impl_WithoutLaw.calls k _ _ t291 t292 t295 t296 _ ?side1 ?side2 A4.out).mono ?_); (case side1 => repeat (first | exact (Kd.R_reads' HO294.out).2.2 | (with_reducible refine Kd.C_alloc ?_ _) | (with_reducible refine Kd.C_drewN ?_ _) | (with_reducible refine Kd.C_drew ?_))); (case side2 => exact (Kd.R_reads' HO294.out).2.1); rintro e w9 ⟨v297, rfl, ho0, hb⟩; refine ⟨_, rfl, ?_⟩; have n0_ := Aside0.mk (Kd.R_elder' (rz HO294) (Kd.R_base ho0) hb); have n1_ := Aside0.mk (Kd.R_lower (Kd.R_new' ho0 (Kd.R_lt (rz HO294))) (below_size bh)); have n2_ := Aside0.mk (below_step bh hb); clear HO294 HB; have HO294 := n0_; have HO298 := n1_; have HB := n2_; clear n0_ n1_ n2_; (try clear hb); (try clear hb2); (try clear hk); (try clear hi); (try clear ho0)) | ((with_reducible refine gate_callee (f := 8) rfl ?_); refine goesL_ (some 29) rfl rfl Try.func8 kr rfl #[.slice Ao8 t291.length co8, .int .i64 t292] rfl lm ?_; (with_reducible refine (spec_WithoutLaw.calls k _ _ t291 t292 t299 t300 _ ?side1 ?side2 A5.out).mono ?_); (case side1 => repeat (first | exact (Kd.R_reads' HO294.out).2.2 | (with_reducible refine Kd.C_alloc ?_ _) | (with_reducible refine Kd.C_drewN ?_ _) | (with_reducible refine Kd.C_drew ?_))); (case side2 => exact (Kd.R_reads' HO294.out).2.1); rintro e w10 ⟨v301, rfl, ho0, hb⟩; refine ⟨_, rfl, ?_⟩; have n0_ := Aside0.mk (Kd.R_elder' (rz HO294) (Kd.R_base ho0) hb); have n1_ := Aside0.mk (Kd.R_elder' (rz HO298) (Kd.R_base ho0) hb); have n2_ := Aside0.mk (Kd.R_lower (Kd.R_new' (Kd.R_new' ho0 (Kd.R_lt (rz HO294))) (Kd.R_lt (rz HO298))) (below_size bh)); have n3_ := Aside0.mk (below_step bh hb); clear HO294 HO298 HB; have HO294 := n0_; have HO298 := n1_; have HO302 := n2_; have HB := n3_; clear n0_ n1_ n2_ n3_; (try clear hb); (try clear hb2); (try clear hk); (try clear hi); (try clear ho0)))
  (try simp only [Act.put, List.setIfInBounds_toArray, List.set_cons_zero, List.set_cons_succ])
  go_cut [40] (fun v40 wc => ∃ (kq : Nat) (x40_5 : Bool), v40 = .bool x40_5 ∧ Aside0 (laws_FnWithoutLaw.j0 kq t291 t292 t295 t296 x40_5 = some r) ∧ Aside0 (kq ≤ k) ∧ Aside0 (Kd.R k46 46 wc w.heap.size (fun k_ => some k_ ≠ (v297 : Value).ownBlock) (.slice Ao8 t291.length co8) t291) ∧ Aside0 (Kd.R k46 46 wc w.heap.size (fun k_ => some k_ ≠ ((.slice Ao8 t291.length co8) : Value).ownBlock) v297 t295) ∧ Aside0 (Below w.heap.size w wc))
  case first =>
   have H := HC6.out
   clear HC6
   replace H := Option.bind_eq_some_iff.mp H
   obtain ⟨t303, A110, H⟩ := H
   replace H : (if t303 = true then (laws_FnWithoutLaw.j0 k t291 t292 t295 t296 (t296 != t300)) else (laws_FnWithoutLaw.j0 k t291 t292 t295 t296 true)) = some r := H
   have A11 := Aside0.mk A110
   clear A110
   by_cases c12 : t303 = true
   ·subst c12
    have H1 : (laws_FnWithoutLaw.j0 k t291 t292 t295 t296 (t296 != t300)) = some r := by rw [if_pos rfl] at H; exact H
    clear H
    have H := H1
    clear H1
    have H' := Aside0.mk H
    clear H
    obtain ⟨Ao13, co13, eo13⟩ := Kd.R_slice HO298.out
    subst eo13
    obtain ⟨Ao14, co14, eo14⟩ := Kd.R_slice HO302.out
    subst eo14
    go_wp2_with (first | ((with_reducible refine gate_callee (f := 9) rfl ?_); refine goesL_ (some 34) rfl rfl Try.func9 kr rfl #[.slice Ao13 t295.length co13, .slice Ao14 t299.length co14] rfl lm ?_; (with_reducible refine (laws_sameBook.calls k _ _ t295 _ _ t299 true _ ?side1 ?side2 ?side3 ?side4 A11.out).mono ?_); (case side1 => repeat (first | exact (Kd.R_reads' HO298.out).2.2 | (with_reducible refine Kd.C_alloc ?_ _) | (with_reducible refine Kd.C_drewN ?_ _) | (with_reducible refine Kd.C_drew ?_))); (case side2 => exact (Kd.R_reads' HO298.out).2.1); (case side3 => repeat (first | exact (Kd.R_reads' HO302.out).2.2 | (with_reducible refine Kd.C_alloc ?_ _) | (with_reducible refine Kd.C_drewN ?_ _) | (with_reducible refine Kd.C_drew ?_))); (case side4 => exact (Kd.R_reads' HO302.out).2.1); rintro e w' ⟨rfl, ⟨nd, rfl⟩⟩; refine ⟨_, rfl, ?_⟩))
    go_meet
    case rel => exact ⟨_, ((t296 != t300)), (by first | rfl | (simp; done) | (simp [*]; done)), H', ⟨by first | omega | exact Nat.le_refl _⟩, ⟨mR HO294⟩, ⟨mR HO298⟩, ⟨by exact bh⟩⟩
   ·replace c12 := Bool.eq_false_iff.mpr c12
    subst c12
    have H1 : (laws_FnWithoutLaw.j0 k t291 t292 t295 t296 true) = some r := by rw [if_neg (show ¬ (false = true) by decide)] at H; exact H
    clear H
    have H := H1
    clear H1
    have H' := Aside0.mk H
    clear H
    obtain ⟨Ao15, co15, eo15⟩ := Kd.R_slice HO298.out
    subst eo15
    obtain ⟨Ao16, co16, eo16⟩ := Kd.R_slice HO302.out
    subst eo16
    go_wp2_with (first | ((with_reducible refine gate_callee (f := 9) rfl ?_); refine goesL_ (some 34) rfl rfl Try.func9 kr rfl #[.slice Ao15 t295.length co15, .slice Ao16 t299.length co16] rfl lm ?_; (with_reducible refine (laws_sameBook.calls k _ _ t295 _ _ t299 false _ ?side1 ?side2 ?side3 ?side4 A11.out).mono ?_); (case side1 => repeat (first | exact (Kd.R_reads' HO298.out).2.2 | (with_reducible refine Kd.C_alloc ?_ _) | (with_reducible refine Kd.C_drewN ?_ _) | (with_reducible refine Kd.C_drew ?_))); (case side2 => exact (Kd.R_reads' HO298.out).2.1); (case side3 => repeat (first | exact (Kd.R_reads' HO302.out).2.2 | (with_reducible refine Kd.C_alloc ?_ _) | (with_reducible refine Kd.C_drewN ?_ _) | (with_reducible refine Kd.C_drew ?_))); (case side4 => exact (Kd.R_reads' HO302.out).2.1); rintro e w' ⟨rfl, ⟨nd, rfl⟩⟩; refine ⟨_, rfl, ?_⟩))
    go_meet
    case rel => exact ⟨_, (true), (by first | rfl | (simp; done) | (simp [*]; done)), H', ⟨by first | omega | exact Nat.le_refl _⟩, ⟨mR HO294⟩, ⟨mR HO298⟩, ⟨by exact bh⟩⟩
  case rest =>
   clear HC6
   try clear c1
   try clear c2
   try clear c2b0
   try clear c2b1
   try clear p2
   try clear c3
   try clear c6
   try clear c7
   try clear c8
   try clear c9
   try clear c12
   obtain ⟨kq, x40_5, rfl, HA, HJ5, HO_3, HO_5, HB⟩ := hcut
   cases kq with
   | zero => exact absurd HA.out (by simp [laws_FnWithoutLaw.j0])
   | succ kj5 =>
    have H := HA.out
    clear HA
    simp only [laws_FnWithoutLaw.j0] at H
    by_cases c17 : x40_5 = true
    ·subst c17
     have H1 : (none) = some r := by rw [if_pos rfl] at H; exact H
     clear H
     have H := H1
     clear H1
     exact absurd H (by simp)
    ·replace c17 := Bool.eq_false_iff.mpr c17
     subst c17
     have H1 : (if t296 = true then (laws_FnWithoutLaw.l0 kj5 t291 t292 t295 0) else (if (t295.length : Int) = 0 then ((laws_alive.f).bind fun t304 => (some t304)) else (none))) = some r := by rw [if_neg (show ¬ (false = true) by decide)] at H; exact H
     clear H
     have H := H1
     clear H1
     by_cases c18 : t296 = true
     ·subst c18
      have H1 : (laws_FnWithoutLaw.l0 kj5 t291 t292 t295 0) = some r := by rw [if_pos rfl] at H; exact H
      clear H
      have H := H1
      clear H1
      have H' := Aside0.mk H
      clear H
      go_wp2
      go_loopg [9] kj5 (fun kq v9 w' => ∃ (x9_2 : Int), v9 = .int .i64 x9_2 ∧ Aside0 (laws_FnWithoutLaw.l0 kq t291 t292 t295 x9_2 = some r) ∧ Aside0 (kq ≤ kj5) ∧ Aside0 (Kd.R k46 46 w' w.heap.size (fun k_ => some k_ ≠ (v297 : Value).ownBlock) (.slice Ao8 t291.length co8) t291) ∧ Aside0 (Kd.R k46 46 w' w.heap.size (fun k_ => some k_ ≠ ((.slice Ao8 t291.length co8) : Value).ownBlock) v297 t295) ∧ Aside0 (Below w.heap.size w w'))
      case atStart => exact ⟨(0), (by first | rfl | (simp; done) | (simp [*]; done)), H', ⟨Nat.le_refl _⟩, ⟨rz HO_3⟩, ⟨rz HO_5⟩, ⟨by exact bh⟩⟩
      case round =>
       clear H'
       try clear c1
       try clear c2
       try clear c2b0
       try clear c2b1
       try clear p2
       try clear c3
       try clear c6
       try clear c7
       try clear c8
       try clear c9
       try clear c12
       try clear c17
       try clear c18
       try clear p2
       obtain ⟨x9_2, rfl, HA, HK2, HO_3, HO_5, HB⟩ := hrel
       cases gk with
       | zero => exact absurd HA.out (by simp [laws_FnWithoutLaw.l0])
       | succ k2 =>
        have H := HA.out
        clear HA
        simp only [laws_FnWithoutLaw.l0] at H
        by_cases c19 : x9_2 < 3
        ·rw [if_pos c19] at H
         have c19b0 : decide (x9_2 < 3) = true := decide_eq_true c19
         clear c19
         have H' := Aside0.mk H
         clear H
         go_wp2
         go_loopg [10] k2 (fun kq v10 w' => ∃ (x10_3 : Int), v10 = .int .i64 x10_3 ∧ Aside0 (laws_FnWithoutLaw.l1 kq t291 t292 t295 x9_2 x10_3 = some r) ∧ Aside0 (kq ≤ k2) ∧ Aside0 (Kd.R k46 46 w' w.heap.size (fun k_ => some k_ ≠ (v297 : Value).ownBlock) (.slice Ao8 t291.length co8) t291) ∧ Aside0 (Kd.R k46 46 w' w.heap.size (fun k_ => some k_ ≠ ((.slice Ao8 t291.length co8) : Value).ownBlock) v297 t295) ∧ Aside0 (Below w.heap.size w w'))
         case atStart => exact ⟨(0), (by first | rfl | (simp; done) | (simp [*]; done)), H', ⟨Nat.le_refl _⟩, ⟨rz HO_3⟩, ⟨rz HO_5⟩, ⟨by exact bh⟩⟩
         case round =>
          clear H'
          try clear c1
          try clear c2
          try clear c2b0
          try clear c2b1
          try clear p2
          try clear c3
          try clear c6
          try clear c7
          try clear c8
          try clear c9
          try clear c12
          try clear c17
          try clear c18
          try clear c19
          try clear c19b0
          try clear p2
          obtain ⟨x10_3, rfl, HA, HK3, HO_3, HO_5, HB⟩ := hrel
          cases gk with
          | zero => exact absurd HA.out (by simp [laws_FnWithoutLaw.l1])
          | succ k3 =>
           have H := HA.out
           clear HA
           simp only [laws_FnWithoutLaw.l1] at H
           by_cases c20 : x10_3 < 2
           ·rw [if_pos c20] at H
            have c20b0 : decide (x10_3 < 2) = true := decide_eq_true c20
            clear c20
            replace H := Option.bind_eq_some_iff.mp H
            obtain ⟨t305, A210, H⟩ := H
            replace H : ((laws_hasInt.f k3 t305 t292).bind fun t308 => (if t308 = true then (laws_FnWithoutLaw.l1 k3 t291 t292 t295 x9_2 (wrap64 (x10_3 + 1))) else ((impl_SaysOf.f k3 t295 x9_2 (wrap64 (x10_3 * 7))).bind fun t309 => ((impl_SaysOf.f k3 t291 x9_2 (wrap64 (x10_3 * 7))).bind fun t310 => (if t309 = t310 then (laws_FnWithoutLaw.l1 k3 t291 t292 t295 x9_2 (wrap64 (x10_3 + 1))) else (none)))))) = some r := H
            have A21 := Aside0.mk A210
            clear A210
            replace H := Option.bind_eq_some_iff.mp H
            obtain ⟨t308, A220, H⟩ := H
            replace H : (if t308 = true then (laws_FnWithoutLaw.l1 k3 t291 t292 t295 x9_2 (wrap64 (x10_3 + 1))) else ((impl_SaysOf.f k3 t295 x9_2 (wrap64 (x10_3 * 7))).bind fun t309 => ((impl_SaysOf.f k3 t291 x9_2 (wrap64 (x10_3 * 7))).bind fun t310 => (if t309 = t310 then (laws_FnWithoutLaw.l1 k3 t291 t292 t295 x9_2 (wrap64 (x10_3 + 1))) else (none))))) = some r := H
            have A22 := Aside0.mk A220
            clear A220
            by_cases c23 : t308 = true
            ·subst c23
             have H1 : (laws_FnWithoutLaw.l1 k3 t291 t292 t295 x9_2 (wrap64 (x10_3 + 1))) = some r := by rw [if_pos rfl] at H; exact H
             clear H
             have H := H1
             clear H1
             have H' := Aside0.mk H
             clear H
             go_wp2_with (first | ((with_reducible refine gate_callee (f := 12) rfl ?_); refine goesL_ (some 62) rfl rfl Try.func12 kr rfl #[.slice Ao8 t291.length co8, .int .i64 x9_2, .int .i64 (wrap64 (x10_3 * 7))] rfl lm ?_; (with_reducible refine (impl_UnbeatenOf.calls k3 _ _ t291 x9_2 (wrap64 (x10_3 * 7)) t305 _ ?side1 ?side2 A21.out).mono ?_); (case side1 => repeat (first | exact (Kd.R_reads' HO_3.out).2.2 | (with_reducible refine Kd.C_alloc ?_ _) | (with_reducible refine Kd.C_drewN ?_ _) | (with_reducible refine Kd.C_drew ?_))); (case side2 => exact (Kd.R_reads' HO_3.out).2.1); rintro e w24 ⟨v306, rfl, ho0, hb⟩; refine ⟨_, rfl, ?_⟩; have n0_ := Aside0.mk (Kd.R_below (rz HO_3) hb); have n1_ := Aside0.mk (Kd.R_below (rz HO_5) hb); have n2_ := Aside0.mk (Kd.R_lower ho0 (below_size bh)); have n3_ := Aside0.mk (below_step bh hb); clear HO_3 HO_5 HB; have HO_3 := n0_; have HO_5 := n1_; have HO307 := n2_; have HB := n3_; clear n0_ n1_ n2_ n3_; (try clear hb); (try clear hb2); (try clear hk); (try clear hi); (try clear ho0); obtain ⟨Ao25, co25, eo25⟩ := Kd.R_slice HO307.out; subst eo25) | ((with_reducible refine gate_callee (f := 11) rfl ?_); refine goesL_ (some 64) rfl rfl Try.func11 kr rfl #[.slice Ao25 t305.length co25, .int .i64 t292] rfl lm ?_; (with_reducible refine (laws_hasInt.calls k3 _ _ t305 t292 true _ ?side1 ?side2 A22.out).mono ?_); (case side1 => repeat (first | exact (Kd.R_reads' HO307.out).2.2 | (with_reducible refine Kd.C_alloc ?_ _) | (with_reducible refine Kd.C_drewN ?_ _) | (with_reducible refine Kd.C_drew ?_))); (case side2 => exact (Kd.R_reads' HO307.out).2.1); rintro e w' ⟨rfl, ⟨nd, rfl⟩⟩; refine ⟨_, rfl, ?_⟩))
             go_roundg k3
             case measure => have := HJ5.out; have := HK2.out; have := HK3.out; omega
             case rel => exact ⟨(wrap64 (x10_3 + 1)), (by first | rfl | (simp; done) | (simp [*]; done)), H', ⟨by have := HJ5.out; have := HK2.out; have := HK3.out; omega⟩, ⟨rz HO_3⟩, ⟨rz HO_5⟩, ⟨by exact bh⟩⟩
            ·replace c23 := Bool.eq_false_iff.mpr c23
             subst c23
             have H1 : ((impl_SaysOf.f k3 t295 x9_2 (wrap64 (x10_3 * 7))).bind fun t309 => ((impl_SaysOf.f k3 t291 x9_2 (wrap64 (x10_3 * 7))).bind fun t310 => (if t309 = t310 then (laws_FnWithoutLaw.l1 k3 t291 t292 t295 x9_2 (wrap64 (x10_3 + 1))) else (none)))) = some r := by rw [if_neg (show ¬ (false = true) by decide)] at H; exact H
             clear H
             have H := H1
             clear H1
             replace H := Option.bind_eq_some_iff.mp H
             obtain ⟨t309, A260, H⟩ := H
             replace H : ((impl_SaysOf.f k3 t291 x9_2 (wrap64 (x10_3 * 7))).bind fun t310 => (if t309 = t310 then (laws_FnWithoutLaw.l1 k3 t291 t292 t295 x9_2 (wrap64 (x10_3 + 1))) else (none))) = some r := H
             have A26 := Aside0.mk A260
             clear A260
             replace H := Option.bind_eq_some_iff.mp H
             obtain ⟨t310, A270, H⟩ := H
             replace H : (if t309 = t310 then (laws_FnWithoutLaw.l1 k3 t291 t292 t295 x9_2 (wrap64 (x10_3 + 1))) else (none)) = some r := H
             have A27 := Aside0.mk A270
             clear A270
             by_cases c28 : t309 = t310
             ·rw [if_pos c28] at H
              have c28b0 : (t309 == t310) = true := beq_iff_eq.mpr c28
              have c28b1 : (t309 != t310) = false := bne_eq_false_iff_eq.mpr c28
              clear c28
              have H' := Aside0.mk H
              clear H
              go_wp2_with (first | ((with_reducible refine gate_callee (f := 12) rfl ?_); refine goesL_ (some 62) rfl rfl Try.func12 kr rfl #[.slice Ao8 t291.length co8, .int .i64 x9_2, .int .i64 (wrap64 (x10_3 * 7))] rfl lm ?_; (with_reducible refine (impl_UnbeatenOf.calls k3 _ _ t291 x9_2 (wrap64 (x10_3 * 7)) t305 _ ?side1 ?side2 A21.out).mono ?_); (case side1 => repeat (first | exact (Kd.R_reads' HO_3.out).2.2 | (with_reducible refine Kd.C_alloc ?_ _) | (with_reducible refine Kd.C_drewN ?_ _) | (with_reducible refine Kd.C_drew ?_))); (case side2 => exact (Kd.R_reads' HO_3.out).2.1); rintro e w29 ⟨v306, rfl, ho0, hb⟩; refine ⟨_, rfl, ?_⟩; have n0_ := Aside0.mk (Kd.R_below (rz HO_3) hb); have n1_ := Aside0.mk (Kd.R_below (rz HO_5) hb); have n2_ := Aside0.mk (Kd.R_lower ho0 (below_size bh)); have n3_ := Aside0.mk (below_step bh hb); clear HO_3 HO_5 HB; have HO_3 := n0_; have HO_5 := n1_; have HO307 := n2_; have HB := n3_; clear n0_ n1_ n2_ n3_; (try clear hb); (try clear hb2); (try clear hk); (try clear hi); (try clear ho0); obtain ⟨Ao30, co30, eo30⟩ := Kd.R_slice HO307.out; subst eo30) | ((with_reducible refine gate_callee (f := 11) rfl ?_); refine goesL_ (some 64) rfl rfl Try.func11 kr rfl #[.slice Ao30 t305.length co30, .int .i64 t292] rfl lm ?_; (with_reducible refine (laws_hasInt.calls k3 _ _ t305 t292 false _ ?side1 ?side2 A22.out).mono ?_); (case side1 => repeat (first | exact (Kd.R_reads' HO307.out).2.2 | (with_reducible refine Kd.C_alloc ?_ _) | (with_reducible refine Kd.C_drewN ?_ _) | (with_reducible refine Kd.C_drew ?_))); (case side2 => exact (Kd.R_reads' HO307.out).2.1); rintro e w' ⟨rfl, ⟨nd, rfl⟩⟩; refine ⟨_, rfl, ?_⟩; obtain ⟨Ao31, co31, eo31⟩ := Kd.R_slice HO_5.out; subst eo31) | (go_at_call 13; (with_reducible refine (impl_SaysOf.calls k3 _ _ t295 x9_2 (wrap64 (x10_3 * 7)) t309 _ ?side1 ?side2 A26.out).mono ?_); (case side1 => repeat (first | exact (Kd.R_reads' HO_5.out).2.2 | (with_reducible refine Kd.C_alloc ?_ _) | (with_reducible refine Kd.C_drewN ?_ _) | (with_reducible refine Kd.C_drew ?_))); (case side2 => exact (Kd.R_reads' HO_5.out).2.1); rintro e w32 ⟨rfl, hb⟩; have n0_ := Aside0.mk (Kd.R_below (rz HO_3) hb); have n1_ := Aside0.mk (Kd.R_below (rz HO_5) hb); have n2_ := Aside0.mk (Kd.R_below (rz HO307) hb); have n3_ := Aside0.mk (below_step bh hb); clear HO_3 HO_5 HO307 HB; have HO_3 := n0_; have HO_5 := n1_; have HO307 := n2_; have HB := n3_; clear n0_ n1_ n2_ n3_; (try clear hb); (try clear hb2); (try clear hk); (try clear hi)) | (go_at_call 13; (with_reducible refine (impl_SaysOf.calls k3 _ _ t291 x9_2 (wrap64 (x10_3 * 7)) t310 _ ?side1 ?side2 A27.out).mono ?_); (case side1 => repeat (first | exact (Kd.R_reads' HO_3.out).2.2 | (with_reducible refine Kd.C_alloc ?_ _) | (with_reducible refine Kd.C_drewN ?_ _) | (with_reducible refine Kd.C_drew ?_))); (case side2 => exact (Kd.R_reads' HO_3.out).2.1); rintro e w33 ⟨rfl, hb⟩; have n0_ := Aside0.mk (Kd.R_below (rz HO_3) hb); have n1_ := Aside0.mk (Kd.R_below (rz HO_5) hb); have n2_ := Aside0.mk (Kd.R_below (rz HO307) hb); have n3_ := Aside0.mk (below_step bh hb); clear HO_3 HO_5 HO307 HB; have HO_3 := n0_; have HO_5 := n1_; have HO307 := n2_; have HB := n3_; clear n0_ n1_ n2_ n3_; (try clear hb); (try clear hb2); (try clear hk); (try clear hi)))
              go_roundg k3
              case measure => have := HJ5.out; have := HK2.out; have := HK3.out; omega
              case rel => exact ⟨(wrap64 (x10_3 + 1)), (by first | rfl | (simp; done) | (simp [*]; done)), H', ⟨by have := HJ5.out; have := HK2.out; have := HK3.out; omega⟩, ⟨rz HO_3⟩, ⟨rz HO_5⟩, ⟨by exact bh⟩⟩
             ·rw [if_neg c28] at H
              exact absurd H (by simp)
           ·rw [if_neg c20] at H
            have c20b0 : decide (x10_3 < 2) = false := decide_eq_false c20
            clear c20
            have H' := Aside0.mk H
            clear H
            go_wp2
            go_roundg k3
            case measure => have := HJ5.out; have := HK2.out; have := HK3.out; omega
            case rel => exact ⟨(wrap64 (x9_2 + 1)), (by first | rfl | (simp; done) | (simp [*]; done)), H', ⟨by have := HJ5.out; have := HK2.out; have := HK3.out; omega⟩, ⟨rz HO_3⟩, ⟨rz HO_5⟩, ⟨by exact bh⟩⟩
        ·rw [if_neg c19] at H
         have c19b0 : decide (x9_2 < 3) = false := decide_eq_false c19
         clear c19
         obtain rfl := Option.some.inj H
         obtain ⟨Ao34, co34, eo34⟩ := Kd.R_slice HO_5.out
         subst eo34
         go_wp2
         go_ret
         exact ⟨by first | rfl | (simp [errW_none, errW_some] <;> rfl) | (simp [*, errW_none, errW_some] <;> rfl), by exact bh⟩
     ·replace c18 := Bool.eq_false_iff.mpr c18
      subst c18
      have H1 : (if (t295.length : Int) = 0 then ((laws_alive.f).bind fun t304 => (some t304)) else (none)) = some r := by rw [if_neg (show ¬ (false = true) by decide)] at H; exact H
      clear H
      have H := H1
      clear H1
      by_cases c35 : (t295.length : Int) = 0
      ·rw [if_pos c35] at H
       have c35b0 : ((t295.length : Int) == 0) = true := beq_iff_eq.mpr c35
       have c35b1 : ((t295.length : Int) != 0) = false := bne_eq_false_iff_eq.mpr c35
       clear c35
       replace H := Option.bind_eq_some_iff.mp H
       obtain ⟨t304, A360, H⟩ := H
       replace H : (some t304) = some r := H
       have A36 := Aside0.mk A360
       clear A360
       obtain rfl := Option.some.inj H
       obtain ⟨Ao37, co37, eo37⟩ := Kd.R_slice HO_5.out
       subst eo37
       go_wp2_with (first | (go_at_call 10; (with_reducible refine (laws_alive.calls  t304 _ A36.out).mono ?_); rintro e w' ⟨rfl, ⟨nd, rfl⟩⟩))
       go_ret
       exact ⟨by first | rfl | (simp [errW_none, errW_some] <;> rfl) | (simp [*, errW_none, errW_some] <;> rfl), by exact bh⟩
      ·rw [if_neg c35] at H
       exact absurd H (by simp)

/-- THE ONE PURE STATEMENT of laws_FnWithoutLaw: yours. -/
def laws_FnWithoutLaw.Pure : Prop := ∀ (l0 : List Int), l0.length ≤ maxLen → l0.length * 1 ≤ 140737488351232 → (∀ x ∈ l0, (Lit.int .u8 x).wf = true) → ∃ k, laws_FnWithoutLaw.f k l0 = some true
theorem laws_FnWithoutLaw.walk (P : laws_FnWithoutLaw.Pure) (a0 : Option Addr) (len0 cap0 : Nat) (z0 : List Int) (w : World) (w0 : (a0 = none ∧ len0 = 0 ∧ cap0 = 0 ∧ z0 = []) ∨ ∃ x, a0 = some x ∧ len0 ≤ cap0 ∧ cap0 ≤ maxLen ∧ z0.length = cap0 ∧ (∀ i, i < z0.length → w.cell? (x.add i) = some (.int .u8 (z0.getD i 0))) ∧ ∀ n ∈ z0, (Lit.int .u8 n).wf = true) (y0 : len0 * 1 ≤ 140737488351232) :
  Calls Try.prog 3 #[.slice a0 len0 cap0] w fun e w' => e = .returned (.bool true) ∧ Below w.heap.size w w' := by
 obtain ⟨l0, rfl, hr0, hm0, hw0, hc0⟩ := ReadsInt.ofRowC w0
 obtain ⟨k, h⟩ := P l0 hm0 y0 hw0
 refine (laws_FnWithoutLaw.calls k _ _ l0 true w (Kd.C_of_reads (d := (0 : Int)) (h1 := fun _ => rfl) hr0) hc0 h).mono ?_
 rintro e w' ⟨rfl, hd⟩
 exact ⟨rfl, hd⟩

end Go.Proofs.Ytnandbgcejkonaa.QFnWithoutLaw
