-- Printed for this claim by a turned copy of the print (wip/myprint). Lean checks it. Squeezed. Worded. Tightened.
import Derived.Test.YtnandbgcejkonaaQFnIdleLawsx0
import Derived.Test.YtnandbgcejkonaaQFnIdleLawsx1
import Derived.Test.YtnandbgcejkonaaQFnIdleLawsx2
import Derived.Test.YtnandbgcejkonaaQFnIdleLawsx4
import Derived.Test.YtnandbgcejkonaaQFnIdleLawsx5
import Derived.Test.YtnandbgcejkonaaQFnIdleLawsx8
import Derived.Test.YtnandbgcejkonaaQFnIdleLawsx9
import Derived.Test.YtnandbgcejkonaaQFnIdleLawsx10
namespace Go.Proofs.Ytnandbgcejkonaa.QFnIdleLaws
open Go.RowKit Go.Proofs.YtnandbgcejkonaaW.PrintWords Go.Proofs.YtnandbgcejkonaaW.PrintLast Go.Proofs.YtnandbgcejkonaaW.PrintMore
attribute [local go_sem] max2_int min2_int max_two min_two max_three min_three max_four min_four Opens.cell_twice   -- for this text's walks alone
set_option linter.unusedVariables false
set_option linter.unusedSimpArgs false

attribute [local go_sem high] eqA46
/-! ### laws_FnIdleLaws: function 5 -/
mutual
def laws_FnIdleLaws.l0 : Nat → List (S46) → List Int → Int → Option (Bool)
 | 0, _, _, _ => none
 | k + 1, x3, x4, x5 => if x5 < (x3.length : Int) then (laws_FnIdleLaws.l1 k x3 x4 x5 true false 0) else (if (x4.length : Int) > 0 then (if 0 < (x4.length : Int) then ((impl_WithoutLaw.f k x3 (rd x4 0)).bind fun bt373 => (laws_FnIdleLaws.l4 k x3 x4 bt373.1 bt373.2 0)) else (none)) else ((laws_ascend.f k x4).bind fun t381 => (if t381 = true then ((laws_alive.f).bind fun t382 => (some t382)) else (none))))
def laws_FnIdleLaws.l1 : Nat → List (S46) → List Int → Int → Bool → Bool → Int → Option (Bool)
 | 0, _, _, _, _, _, _ => none
 | k + 1, x3, x4, x5, x6, x7, x8 => if x8 < (x3.length : Int) then (if x7 = true then (laws_FnIdleLaws.l1 k x3 x4 x5 x6 true (wrap64 (x8 + 1))) else (if x8 = x5 then (laws_FnIdleLaws.l1 k x3 x4 x5 x6 false (wrap64 (x8 + 1))) else (if 0 ≤ x8 then (if 0 ≤ x5 then (if x5 < (x3.length : Int) then (laws_FnIdleLaws.l1 k x3 x4 x5 x6 (((rd_T46 x3 x8).f0) == ((rd_T46 x3 x5).f0) && (((rd_T46 x3 x8).f1) == ((rd_T46 x3 x5).f1) && (((rd_T46 x3 x8).f2) == ((rd_T46 x3 x5).f2) && (((rd_T46 x3 x8).f3) == ((rd_T46 x3 x5).f3) && (((rd_T46 x3 x8).f4) == ((rd_T46 x3 x5).f4)))))) (wrap64 (x8 + 1))) else (none)) else (none)) else (none)))) else (laws_FnIdleLaws.l2 k x3 x4 x5 x6 x7 0)
def laws_FnIdleLaws.l2 : Nat → List (S46) → List Int → Int → Bool → Bool → Int → Option (Bool)
 | 0, _, _, _, _, _, _ => none
 | k + 1, x3, x4, x5, x6, x7, x9 => if x9 < 3 then (laws_FnIdleLaws.l3 k x3 x4 x5 x6 x7 x9 0) else (if x6 = true then ((laws_hasInt.f k x4 x5).bind fun t366 => (if t366 = true then (laws_FnIdleLaws.l0 k x3 x4 (wrap64 (x5 + 1))) else (none))) else (if x7 = true then ((laws_hasInt.f k x4 x5).bind fun t367 => (if t367 = true then (laws_FnIdleLaws.l0 k x3 x4 (wrap64 (x5 + 1))) else (none))) else (laws_FnIdleLaws.l0 k x3 x4 (wrap64 (x5 + 1)))))
def laws_FnIdleLaws.l3 : Nat → List (S46) → List Int → Int → Bool → Bool → Int → Int → Option (Bool)
 | 0, _, _, _, _, _, _, _ => none
 | k + 1, x3, x4, x5, x6, x7, x9, x10 => if x10 < 8 then (if x6 = true then ((impl_UnbeatenOf.f k x3 x9 x10).bind fun t368 => ((laws_hasInt.f k t368 x5).bind fun t371 => (laws_FnIdleLaws.l3 k x3 x4 x5 (!t371) x7 x9 (wrap64 (x10 + 1))))) else (laws_FnIdleLaws.l3 k x3 x4 x5 false x7 x9 (wrap64 (x10 + 1)))) else (laws_FnIdleLaws.l2 k x3 x4 x5 x6 x7 (wrap64 (x9 + 1)))
def laws_FnIdleLaws.l4 : Nat → List (S46) → List Int → List (S46) → Bool → Int → Option (Bool)
 | 0, _, _, _, _, _ => none
 | k + 1, x3, x4, x11, x12, x13 => if x13 < 3 then (laws_FnIdleLaws.l5 k x3 x4 x11 x12 x13 0) else ((laws_ascend.f k x4).bind fun t377 => (if t377 = true then ((laws_alive.f).bind fun t378 => (some t378)) else (none)))
def laws_FnIdleLaws.l5 : Nat → List (S46) → List Int → List (S46) → Bool → Int → Int → Option (Bool)
 | 0, _, _, _, _, _, _ => none
 | k + 1, x3, x4, x11, x12, x13, x14 => if x14 < 8 then (if x12 = true then ((impl_SaysOf.f k x11 x13 x14).bind fun t379 => ((impl_SaysOf.f k x3 x13 x14).bind fun t380 => (if t379 = t380 then (laws_FnIdleLaws.l5 k x3 x4 x11 x12 x13 (wrap64 (x14 + 1))) else (none)))) else (none)) else (laws_FnIdleLaws.l4 k x3 x4 x11 x12 (wrap64 (x13 + 1)))
end
def laws_FnIdleLaws.f (k : Nat) (l0 : List Int) : Option (Bool) := if (l0.length : Int) > 1048576 then (some true) else ((spec_DrawIdleLaws.f k l0).bind fun t352 => ((impl_IdleLaws.f k t352).bind fun t355 => ((spec_IdleLaws.f k t352).bind fun t358 => ((laws_sameInts.f k t355 t358).bind fun t361 => (if t361 = true then ((spec_BookOk.f k t352).bind fun t362 => (if t362 = true then (laws_FnIdleLaws.l0 k t352 t355 0) else (if (t355.length : Int) = 0 then ((laws_alive.f).bind fun t363 => (some t363)) else (none)))) else (none))))))
theorem laws_FnIdleLaws.mono_l : ∀ k, (∀ y0 y1 y2, LeO (laws_FnIdleLaws.l0 k y0 y1 y2) (laws_FnIdleLaws.l0 (k + 1) y0 y1 y2)) ∧ (∀ y0 y1 y2 y3 y4 y5, LeO (laws_FnIdleLaws.l1 k y0 y1 y2 y3 y4 y5) (laws_FnIdleLaws.l1 (k + 1) y0 y1 y2 y3 y4 y5)) ∧ (∀ y0 y1 y2 y3 y4 y5, LeO (laws_FnIdleLaws.l2 k y0 y1 y2 y3 y4 y5) (laws_FnIdleLaws.l2 (k + 1) y0 y1 y2 y3 y4 y5)) ∧ (∀ y0 y1 y2 y3 y4 y5 y6, LeO (laws_FnIdleLaws.l3 k y0 y1 y2 y3 y4 y5 y6) (laws_FnIdleLaws.l3 (k + 1) y0 y1 y2 y3 y4 y5 y6)) ∧ (∀ y0 y1 y2 y3 y4, LeO (laws_FnIdleLaws.l4 k y0 y1 y2 y3 y4) (laws_FnIdleLaws.l4 (k + 1) y0 y1 y2 y3 y4)) ∧ (∀ y0 y1 y2 y3 y4 y5, LeO (laws_FnIdleLaws.l5 k y0 y1 y2 y3 y4 y5) (laws_FnIdleLaws.l5 (k + 1) y0 y1 y2 y3 y4 y5))
 | 0 => ⟨fun _ _ _ r h => by simp [laws_FnIdleLaws.l0] at h, fun _ _ _ _ _ _ r h => by simp [laws_FnIdleLaws.l1] at h, fun _ _ _ _ _ _ r h => by simp [laws_FnIdleLaws.l2] at h, fun _ _ _ _ _ _ _ r h => by simp [laws_FnIdleLaws.l3] at h, fun _ _ _ _ _ r h => by simp [laws_FnIdleLaws.l4] at h, fun _ _ _ _ _ _ r h => by simp [laws_FnIdleLaws.l5] at h⟩
 | k + 1 => by
  obtain ⟨ih0, ih1, ih2, ih3, ih4, ih5⟩ := laws_FnIdleLaws.mono_l k
  refine ⟨?_, ?_, ?_, ?_, ?_, ?_⟩
  ·intro y0 y1 y2
   unfold laws_FnIdleLaws.l0
   repeat' first
   | (with_reducible exact ih0 _ _ _)
   | (with_reducible exact ih1 _ _ _ _ _ _)
   | (with_reducible exact ih2 _ _ _ _ _ _)
   | (with_reducible exact ih3 _ _ _ _ _ _ _)
   | (with_reducible exact ih4 _ _ _ _ _)
   | (with_reducible exact ih5 _ _ _ _ _ _)
   | (with_reducible exact impl_IdleLaws.mono _ _)
   | (with_reducible exact impl_SaysOf.mono _ _ _ _)
   | (with_reducible exact impl_UnbeatenOf.mono _ _ _ _)
   | (with_reducible exact impl_WithoutLaw.mono _ _ _)
   | (with_reducible exact laws_ascend.mono _ _)
   | (with_reducible exact laws_hasInt.mono _ _ _)
   | (with_reducible exact laws_sameInts.mono _ _ _)
   | (with_reducible exact spec_BookOk.mono _ _)
   | (with_reducible exact spec_DrawIdleLaws.mono _ _)
   | (with_reducible exact spec_IdleLaws.mono _ _)
   | (with_reducible exact LeO.refl _)
   | (with_reducible exact LeO.none _)
   | (with_reducible refine LeO.ite ?_ ?_)
   | (with_reducible refine LeO.bind ?_ (fun _ => ?_))
   | exact ih0 _ _ _
   | exact ih1 _ _ _ _ _ _
   | exact ih2 _ _ _ _ _ _
   | exact ih3 _ _ _ _ _ _ _
   | exact ih4 _ _ _ _ _
   | exact ih5 _ _ _ _ _ _
   | exact impl_IdleLaws.mono _ _
   | exact impl_SaysOf.mono _ _ _ _
   | exact impl_UnbeatenOf.mono _ _ _ _
   | exact impl_WithoutLaw.mono _ _ _
   | exact laws_ascend.mono _ _
   | exact laws_hasInt.mono _ _ _
   | exact laws_sameInts.mono _ _ _
   | exact spec_BookOk.mono _ _
   | exact spec_DrawIdleLaws.mono _ _
   | exact spec_IdleLaws.mono _ _
   | exact LeO.none _
   | refine LeO.ite ?_ ?_
   | refine LeO.bind ?_ (fun _ => ?_)
  ·intro y0 y1 y2 y3 y4 y5
   unfold laws_FnIdleLaws.l1
   repeat' first
   | (with_reducible exact ih0 _ _ _)
   | (with_reducible exact ih1 _ _ _ _ _ _)
   | (with_reducible exact ih2 _ _ _ _ _ _)
   | (with_reducible exact ih3 _ _ _ _ _ _ _)
   | (with_reducible exact ih4 _ _ _ _ _)
   | (with_reducible exact ih5 _ _ _ _ _ _)
   | (with_reducible exact impl_IdleLaws.mono _ _)
   | (with_reducible exact impl_SaysOf.mono _ _ _ _)
   | (with_reducible exact impl_UnbeatenOf.mono _ _ _ _)
   | (with_reducible exact impl_WithoutLaw.mono _ _ _)
   | (with_reducible exact laws_ascend.mono _ _)
   | (with_reducible exact laws_hasInt.mono _ _ _)
   | (with_reducible exact laws_sameInts.mono _ _ _)
   | (with_reducible exact spec_BookOk.mono _ _)
   | (with_reducible exact spec_DrawIdleLaws.mono _ _)
   | (with_reducible exact spec_IdleLaws.mono _ _)
   | (with_reducible exact LeO.refl _)
   | (with_reducible exact LeO.none _)
   | (with_reducible refine LeO.ite ?_ ?_)
   | (with_reducible refine LeO.bind ?_ (fun _ => ?_))
   | exact ih0 _ _ _
   | exact ih1 _ _ _ _ _ _
   | exact ih2 _ _ _ _ _ _
   | exact ih3 _ _ _ _ _ _ _
   | exact ih4 _ _ _ _ _
   | exact ih5 _ _ _ _ _ _
   | exact impl_IdleLaws.mono _ _
   | exact impl_SaysOf.mono _ _ _ _
   | exact impl_UnbeatenOf.mono _ _ _ _
   | exact impl_WithoutLaw.mono _ _ _
   | exact laws_ascend.mono _ _
   | exact laws_hasInt.mono _ _ _
   | exact laws_sameInts.mono _ _ _
   | exact spec_BookOk.mono _ _
   | exact spec_DrawIdleLaws.mono _ _
   | exact spec_IdleLaws.mono _ _
   | exact LeO.none _
   | refine LeO.ite ?_ ?_
   | refine LeO.bind ?_ (fun _ => ?_)
  ·intro y0 y1 y2 y3 y4 y5
   unfold laws_FnIdleLaws.l2
   repeat' first
   | (with_reducible exact ih0 _ _ _)
   | (with_reducible exact ih1 _ _ _ _ _ _)
   | (with_reducible exact ih2 _ _ _ _ _ _)
   | (with_reducible exact ih3 _ _ _ _ _ _ _)
   | (with_reducible exact ih4 _ _ _ _ _)
   | (with_reducible exact ih5 _ _ _ _ _ _)
   | (with_reducible exact impl_IdleLaws.mono _ _)
   | (with_reducible exact impl_SaysOf.mono _ _ _ _)
   | (with_reducible exact impl_UnbeatenOf.mono _ _ _ _)
   | (with_reducible exact impl_WithoutLaw.mono _ _ _)
   | (with_reducible exact laws_ascend.mono _ _)
   | (with_reducible exact laws_hasInt.mono _ _ _)
   | (with_reducible exact laws_sameInts.mono _ _ _)
   | (with_reducible exact spec_BookOk.mono _ _)
   | (with_reducible exact spec_DrawIdleLaws.mono _ _)
   | (with_reducible exact spec_IdleLaws.mono _ _)
   | (with_reducible exact LeO.refl _)
   | (with_reducible exact LeO.none _)
   | (with_reducible refine LeO.ite ?_ ?_)
   | (with_reducible refine LeO.bind ?_ (fun _ => ?_))
   | exact ih0 _ _ _
   | exact ih1 _ _ _ _ _ _
   | exact ih2 _ _ _ _ _ _
   | exact ih3 _ _ _ _ _ _ _
   | exact ih4 _ _ _ _ _
   | exact ih5 _ _ _ _ _ _
   | exact impl_IdleLaws.mono _ _
   | exact impl_SaysOf.mono _ _ _ _
   | exact impl_UnbeatenOf.mono _ _ _ _
   | exact impl_WithoutLaw.mono _ _ _
   | exact laws_ascend.mono _ _
   | exact laws_hasInt.mono _ _ _
   | exact laws_sameInts.mono _ _ _
   | exact spec_BookOk.mono _ _
   | exact spec_DrawIdleLaws.mono _ _
   | exact spec_IdleLaws.mono _ _
   | exact LeO.none _
   | refine LeO.ite ?_ ?_
   | refine LeO.bind ?_ (fun _ => ?_)
  ·intro y0 y1 y2 y3 y4 y5 y6
   unfold laws_FnIdleLaws.l3
   repeat' first
   | (with_reducible exact ih0 _ _ _)
   | (with_reducible exact ih1 _ _ _ _ _ _)
   | (with_reducible exact ih2 _ _ _ _ _ _)
   | (with_reducible exact ih3 _ _ _ _ _ _ _)
   | (with_reducible exact ih4 _ _ _ _ _)
   | (with_reducible exact ih5 _ _ _ _ _ _)
   | (with_reducible exact impl_IdleLaws.mono _ _)
   | (with_reducible exact impl_SaysOf.mono _ _ _ _)
   | (with_reducible exact impl_UnbeatenOf.mono _ _ _ _)
   | (with_reducible exact impl_WithoutLaw.mono _ _ _)
   | (with_reducible exact laws_ascend.mono _ _)
   | (with_reducible exact laws_hasInt.mono _ _ _)
   | (with_reducible exact laws_sameInts.mono _ _ _)
   | (with_reducible exact spec_BookOk.mono _ _)
   | (with_reducible exact spec_DrawIdleLaws.mono _ _)
   | (with_reducible exact spec_IdleLaws.mono _ _)
   | (with_reducible exact LeO.refl _)
   | (with_reducible exact LeO.none _)
   | (with_reducible refine LeO.ite ?_ ?_)
   | (with_reducible refine LeO.bind ?_ (fun _ => ?_))
   | exact ih0 _ _ _
   | exact ih1 _ _ _ _ _ _
   | exact ih2 _ _ _ _ _ _
   | exact ih3 _ _ _ _ _ _ _
   | exact ih4 _ _ _ _ _
   | exact ih5 _ _ _ _ _ _
   | exact impl_IdleLaws.mono _ _
   | exact impl_SaysOf.mono _ _ _ _
   | exact impl_UnbeatenOf.mono _ _ _ _
   | exact impl_WithoutLaw.mono _ _ _
   | exact laws_ascend.mono _ _
   | exact laws_hasInt.mono _ _ _
   | exact laws_sameInts.mono _ _ _
   | exact spec_BookOk.mono _ _
   | exact spec_DrawIdleLaws.mono _ _
   | exact spec_IdleLaws.mono _ _
   | exact LeO.none _
   | refine LeO.ite ?_ ?_
   | refine LeO.bind ?_ (fun _ => ?_)
  ·intro y0 y1 y2 y3 y4
   unfold laws_FnIdleLaws.l4
   repeat' first
   | (with_reducible exact ih0 _ _ _)
   | (with_reducible exact ih1 _ _ _ _ _ _)
   | (with_reducible exact ih2 _ _ _ _ _ _)
   | (with_reducible exact ih3 _ _ _ _ _ _ _)
   | (with_reducible exact ih4 _ _ _ _ _)
   | (with_reducible exact ih5 _ _ _ _ _ _)
   | (with_reducible exact impl_IdleLaws.mono _ _)
   | (with_reducible exact impl_SaysOf.mono _ _ _ _)
   | (with_reducible exact impl_UnbeatenOf.mono _ _ _ _)
   | (with_reducible exact impl_WithoutLaw.mono _ _ _)
   | (with_reducible exact laws_ascend.mono _ _)
   | (with_reducible exact laws_hasInt.mono _ _ _)
   | (with_reducible exact laws_sameInts.mono _ _ _)
   | (with_reducible exact spec_BookOk.mono _ _)
   | (with_reducible exact spec_DrawIdleLaws.mono _ _)
   | (with_reducible exact spec_IdleLaws.mono _ _)
   | (with_reducible exact LeO.refl _)
   | (with_reducible exact LeO.none _)
   | (with_reducible refine LeO.ite ?_ ?_)
   | (with_reducible refine LeO.bind ?_ (fun _ => ?_))
   | exact ih0 _ _ _
   | exact ih1 _ _ _ _ _ _
   | exact ih2 _ _ _ _ _ _
   | exact ih3 _ _ _ _ _ _ _
   | exact ih4 _ _ _ _ _
   | exact ih5 _ _ _ _ _ _
   | exact impl_IdleLaws.mono _ _
   | exact impl_SaysOf.mono _ _ _ _
   | exact impl_UnbeatenOf.mono _ _ _ _
   | exact impl_WithoutLaw.mono _ _ _
   | exact laws_ascend.mono _ _
   | exact laws_hasInt.mono _ _ _
   | exact laws_sameInts.mono _ _ _
   | exact spec_BookOk.mono _ _
   | exact spec_DrawIdleLaws.mono _ _
   | exact spec_IdleLaws.mono _ _
   | exact LeO.none _
   | refine LeO.ite ?_ ?_
   | refine LeO.bind ?_ (fun _ => ?_)
  ·intro y0 y1 y2 y3 y4 y5
   unfold laws_FnIdleLaws.l5
   repeat' first
   | (with_reducible exact ih0 _ _ _)
   | (with_reducible exact ih1 _ _ _ _ _ _)
   | (with_reducible exact ih2 _ _ _ _ _ _)
   | (with_reducible exact ih3 _ _ _ _ _ _ _)
   | (with_reducible exact ih4 _ _ _ _ _)
   | (with_reducible exact ih5 _ _ _ _ _ _)
   | (with_reducible exact impl_IdleLaws.mono _ _)
   | (with_reducible exact impl_SaysOf.mono _ _ _ _)
   | (with_reducible exact impl_UnbeatenOf.mono _ _ _ _)
   | (with_reducible exact impl_WithoutLaw.mono _ _ _)
   | (with_reducible exact laws_ascend.mono _ _)
   | (with_reducible exact laws_hasInt.mono _ _ _)
   | (with_reducible exact laws_sameInts.mono _ _ _)
   | (with_reducible exact spec_BookOk.mono _ _)
   | (with_reducible exact spec_DrawIdleLaws.mono _ _)
   | (with_reducible exact spec_IdleLaws.mono _ _)
   | (with_reducible exact LeO.refl _)
   | (with_reducible exact LeO.none _)
   | (with_reducible refine LeO.ite ?_ ?_)
   | (with_reducible refine LeO.bind ?_ (fun _ => ?_))
   | exact ih0 _ _ _
   | exact ih1 _ _ _ _ _ _
   | exact ih2 _ _ _ _ _ _
   | exact ih3 _ _ _ _ _ _ _
   | exact ih4 _ _ _ _ _
   | exact ih5 _ _ _ _ _ _
   | exact impl_IdleLaws.mono _ _
   | exact impl_SaysOf.mono _ _ _ _
   | exact impl_UnbeatenOf.mono _ _ _ _
   | exact impl_WithoutLaw.mono _ _ _
   | exact laws_ascend.mono _ _
   | exact laws_hasInt.mono _ _ _
   | exact laws_sameInts.mono _ _ _
   | exact spec_BookOk.mono _ _
   | exact spec_DrawIdleLaws.mono _ _
   | exact spec_IdleLaws.mono _ _
   | exact LeO.none _
   | refine LeO.ite ?_ ?_
   | refine LeO.bind ?_ (fun _ => ?_)
theorem laws_FnIdleLaws.mono : ∀ a0 k, LeO (laws_FnIdleLaws.f k a0) (laws_FnIdleLaws.f (k + 1) a0) := by
 intro a0 k
 obtain ⟨ih0, ih1, ih2, ih3, ih4, ih5⟩ := laws_FnIdleLaws.mono_l k
 unfold laws_FnIdleLaws.f
 repeat' first
   | (with_reducible exact ih0 _ _ _)
   | (with_reducible exact ih1 _ _ _ _ _ _)
   | (with_reducible exact ih2 _ _ _ _ _ _)
   | (with_reducible exact ih3 _ _ _ _ _ _ _)
   | (with_reducible exact ih4 _ _ _ _ _)
   | (with_reducible exact ih5 _ _ _ _ _ _)
   | (with_reducible exact impl_IdleLaws.mono _ _)
   | (with_reducible exact impl_SaysOf.mono _ _ _ _)
   | (with_reducible exact impl_UnbeatenOf.mono _ _ _ _)
   | (with_reducible exact impl_WithoutLaw.mono _ _ _)
   | (with_reducible exact laws_ascend.mono _ _)
   | (with_reducible exact laws_hasInt.mono _ _ _)
   | (with_reducible exact laws_sameInts.mono _ _ _)
   | (with_reducible exact spec_BookOk.mono _ _)
   | (with_reducible exact spec_DrawIdleLaws.mono _ _)
   | (with_reducible exact spec_IdleLaws.mono _ _)
   | (with_reducible exact LeO.refl _)
   | (with_reducible exact LeO.none _)
   | (with_reducible refine LeO.ite ?_ ?_)
   | (with_reducible refine LeO.bind ?_ (fun _ => ?_))
   | exact ih0 _ _ _
   | exact ih1 _ _ _ _ _ _
   | exact ih2 _ _ _ _ _ _
   | exact ih3 _ _ _ _ _ _ _
   | exact ih4 _ _ _ _ _
   | exact ih5 _ _ _ _ _ _
   | exact impl_IdleLaws.mono _ _
   | exact impl_SaysOf.mono _ _ _ _
   | exact impl_UnbeatenOf.mono _ _ _ _
   | exact impl_WithoutLaw.mono _ _ _
   | exact laws_ascend.mono _ _
   | exact laws_hasInt.mono _ _ _
   | exact laws_sameInts.mono _ _ _
   | exact spec_BookOk.mono _ _
   | exact spec_DrawIdleLaws.mono _ _
   | exact spec_IdleLaws.mono _ _
   | exact LeO.none _
   | refine LeO.ite ?_ ?_
   | refine LeO.bind ?_ (fun _ => ?_)
set_option maxHeartbeats 8000000 in
set_option maxRecDepth 100000 in
theorem laws_FnIdleLaws.calls (k : Nat) (A0 : Option Addr) (c0 : Nat) (l0 : List Int) (r : Bool) (w : World) (hr0 : Kd.C (Kd.int .u8) w A0 l0.length l0) (hc0 : l0.length ≤ c0) (h : laws_FnIdleLaws.f k l0 = some r) :
  Calls Try.prog 5 #[.slice A0 l0.length c0] w fun e w' => e = .returned (.bool r) ∧ Below w.heap.size w w' := by
 have hu46 := Try.underlying46
 have HR0 := Aside0.mk hr0
 have HC0 := Aside0.mk hc0
 clear hr0 hc0
 have HB := Aside0.mk (Below.refl w.heap.size w)
 have H : (if (l0.length : Int) > 1048576 then (some true) else ((spec_DrawIdleLaws.f k l0).bind fun t352 => ((impl_IdleLaws.f k t352).bind fun t355 => ((spec_IdleLaws.f k t352).bind fun t358 => ((laws_sameInts.f k t355 t358).bind fun t361 => (if t361 = true then ((spec_BookOk.f k t352).bind fun t362 => (if t362 = true then (laws_FnIdleLaws.l0 k t352 t355 0) else (if (t355.length : Int) = 0 then ((laws_alive.f).bind fun t363 => (some t363)) else (none)))) else (none))))))) = some r := h
 clear h
 by_cases c2 : (l0.length : Int) > 1048576
 ·rw [if_pos c2] at H
  have c2b0 : decide (1048576 < (l0.length : Int)) = true := decide_eq_true c2
  have c2b1 : decide (1048576 < l0.length) = true := decide_eq_true (by omega)
  clear c2
  obtain rfl := Option.some.inj H
  go_enter Try.func5, Try.ntmps5
  go_wp2
  repeat (go_quiet (fail); try go_wp2)
  go_ret
  exact ⟨by first | rfl | (simp [errW_none, errW_some] <;> rfl) | (simp [*, errW_none, errW_some] <;> rfl), by exact bh⟩
 ·rw [if_neg c2] at H
  have c2b0 : decide (1048576 < (l0.length : Int)) = false := decide_eq_false c2
  have c2b1 : decide (1048576 < l0.length) = false := decide_eq_false (by omega)
  clear c2
  replace H := Option.bind_eq_some_iff.mp H
  obtain ⟨t352, A30, H⟩ := H
  replace H : ((impl_IdleLaws.f k t352).bind fun t355 => ((spec_IdleLaws.f k t352).bind fun t358 => ((laws_sameInts.f k t355 t358).bind fun t361 => (if t361 = true then ((spec_BookOk.f k t352).bind fun t362 => (if t362 = true then (laws_FnIdleLaws.l0 k t352 t355 0) else (if (t355.length : Int) = 0 then ((laws_alive.f).bind fun t363 => (some t363)) else (none)))) else (none))))) = some r := H
  have A3 := Aside0.mk A30
  clear A30
  replace H := Option.bind_eq_some_iff.mp H
  obtain ⟨t355, A40, H⟩ := H
  replace H : ((spec_IdleLaws.f k t352).bind fun t358 => ((laws_sameInts.f k t355 t358).bind fun t361 => (if t361 = true then ((spec_BookOk.f k t352).bind fun t362 => (if t362 = true then (laws_FnIdleLaws.l0 k t352 t355 0) else (if (t355.length : Int) = 0 then ((laws_alive.f).bind fun t363 => (some t363)) else (none)))) else (none)))) = some r := H
  have A4 := Aside0.mk A40
  clear A40
  replace H := Option.bind_eq_some_iff.mp H
  obtain ⟨t358, A50, H⟩ := H
  replace H : ((laws_sameInts.f k t355 t358).bind fun t361 => (if t361 = true then ((spec_BookOk.f k t352).bind fun t362 => (if t362 = true then (laws_FnIdleLaws.l0 k t352 t355 0) else (if (t355.length : Int) = 0 then ((laws_alive.f).bind fun t363 => (some t363)) else (none)))) else (none))) = some r := H
  have A5 := Aside0.mk A50
  clear A50
  replace H := Option.bind_eq_some_iff.mp H
  obtain ⟨t361, A60, H⟩ := H
  replace H : (if t361 = true then ((spec_BookOk.f k t352).bind fun t362 => (if t362 = true then (laws_FnIdleLaws.l0 k t352 t355 0) else (if (t355.length : Int) = 0 then ((laws_alive.f).bind fun t363 => (some t363)) else (none)))) else (none)) = some r := H
  have A6 := Aside0.mk A60
  clear A60
  by_cases c7 : t361 = true
  ·subst c7
   have H1 : ((spec_BookOk.f k t352).bind fun t362 => (if t362 = true then (laws_FnIdleLaws.l0 k t352 t355 0) else (if (t355.length : Int) = 0 then ((laws_alive.f).bind fun t363 => (some t363)) else (none)))) = some r := by rw [if_pos rfl] at H; exact H
   clear H
   have H := H1
   clear H1
   replace H := Option.bind_eq_some_iff.mp H
   obtain ⟨t362, A80, H⟩ := H
   replace H : (if t362 = true then (laws_FnIdleLaws.l0 k t352 t355 0) else (if (t355.length : Int) = 0 then ((laws_alive.f).bind fun t363 => (some t363)) else (none))) = some r := H
   have A8 := Aside0.mk A80
   clear A80
   by_cases c9 : t362 = true
   ·subst c9
    have H1 : (laws_FnIdleLaws.l0 k t352 t355 0) = some r := by rw [if_pos rfl] at H; exact H
    clear H
    have H := H1
    clear H1
    have H' := Aside0.mk H
    clear H
    go_enter Try.func5, Try.ntmps5
    go_wp2_with (first | (go_at_call 23; (with_reducible refine (spec_DrawIdleLaws.calls k _ _ l0 t352 _ ?side1 ?side2 A3.out).mono ?_); (case side1 => repeat (first | exact HR0.out | (with_reducible refine Kd.C_alloc ?_ _) | (with_reducible refine Kd.C_drewN ?_ _) | (with_reducible refine Kd.C_drew ?_))); (case side2 => exact HC0.out); rintro e w10 ⟨v353, rfl, ho0, hb⟩; have n0_ := Aside0.mk (Kd.R_lower ho0 (below_size bh)); have n1_ := Aside0.mk (below_step bh hb); clear HB; have HO354 := n0_; have HB := n1_; clear n0_ n1_; (try clear hb); (try clear hb2); (try clear hk); (try clear hi); (try clear ho0); obtain ⟨Ao11, co11, eo11⟩ := Kd.R_slice HO354.out; subst eo11) | (go_at_call 17; (with_reducible refine (impl_IdleLaws.calls k _ _ t352 t355 _ ?side1 ?side2 A4.out).mono ?_); (case side1 => repeat (first | exact (Kd.R_reads' HO354.out).2.2 | (with_reducible refine Kd.C_alloc ?_ _) | (with_reducible refine Kd.C_drewN ?_ _) | (with_reducible refine Kd.C_drew ?_))); (case side2 => exact (Kd.R_reads' HO354.out).2.1); rintro e w12 ⟨v356, rfl, ho0, hb⟩; have n0_ := Aside0.mk (Kd.R_below (rz HO354) hb); have n1_ := Aside0.mk (Kd.R_lower ho0 (below_size bh)); have n2_ := Aside0.mk (below_step bh hb); clear HO354 HB; have HO354 := n0_; have HO357 := n1_; have HB := n2_; clear n0_ n1_ n2_; (try clear hb); (try clear hb2); (try clear hk); (try clear hi); (try clear ho0)) | (go_at_call 15; (with_reducible refine (spec_IdleLaws.calls k _ _ t352 t358 _ ?side1 ?side2 A5.out).mono ?_); (case side1 => repeat (first | exact (Kd.R_reads' HO354.out).2.2 | (with_reducible refine Kd.C_alloc ?_ _) | (with_reducible refine Kd.C_drewN ?_ _) | (with_reducible refine Kd.C_drew ?_))); (case side2 => exact (Kd.R_reads' HO354.out).2.1); rintro e w13 ⟨v359, rfl, ho0, hb⟩; have n0_ := Aside0.mk (Kd.R_below (rz HO354) hb); have n1_ := Aside0.mk (Kd.R_elder' (rz HO357) (Kd.R_base ho0) hb); have n2_ := Aside0.mk (Kd.R_lower (Kd.R_new' ho0 (Kd.R_lt (rz HO357))) (below_size bh)); have n3_ := Aside0.mk (below_step bh hb); clear HO354 HO357 HB; have HO354 := n0_; have HO357 := n1_; have HO360 := n2_; have HB := n3_; clear n0_ n1_ n2_ n3_; (try clear hb); (try clear hb2); (try clear hk); (try clear hi); (try clear ho0); obtain ⟨Ao14, co14, eo14⟩ := Kd.R_slice HO357.out; subst eo14; obtain ⟨Ao15, co15, eo15⟩ := Kd.R_slice HO360.out; subst eo15) | (go_at_call 24; (with_reducible refine (laws_sameInts.calls k _ _ t355 _ _ t358 true _ ?side1 ?side2 ?side3 ?side4 A6.out).mono ?_); (case side1 => repeat (first | exact (Kd.R_reads' HO357.out).2.2 | (with_reducible refine Kd.C_alloc ?_ _) | (with_reducible refine Kd.C_drewN ?_ _) | (with_reducible refine Kd.C_drew ?_))); (case side2 => exact (Kd.R_reads' HO357.out).2.1); (case side3 => repeat (first | exact (Kd.R_reads' HO360.out).2.2 | (with_reducible refine Kd.C_alloc ?_ _) | (with_reducible refine Kd.C_drewN ?_ _) | (with_reducible refine Kd.C_drew ?_))); (case side4 => exact (Kd.R_reads' HO360.out).2.1); rintro e w' ⟨rfl, ⟨nd, rfl⟩⟩; (try first | exact ⟨rfl, _, World.drewN_drewN _ _ _⟩ | exact ⟨rfl, _, Eq.trans (World.drewN_drewN _ _ _) (congrArg (World.drewN _) (Nat.add_assoc _ _ _))⟩)) | (go_at_call 25; (with_reducible refine (spec_BookOk.calls k _ _ t352 true _ ?side1 ?side2 A8.out).mono ?_); (case side1 => repeat (first | exact (Kd.R_reads' HO354.out).2.2 | (with_reducible refine Kd.C_alloc ?_ _) | (with_reducible refine Kd.C_drewN ?_ _) | (with_reducible refine Kd.C_drew ?_))); (case side2 => exact (Kd.R_reads' HO354.out).2.1); rintro e w16 ⟨rfl, hb⟩; have n0_ := Aside0.mk (Kd.R_below (rz HO354) hb); have n1_ := Aside0.mk (Kd.R_below (rz HO357) hb); have n2_ := Aside0.mk (Kd.R_below (rz HO360) hb); have n3_ := Aside0.mk (below_step bh hb); clear HO354 HO357 HO360 HB; have HO354 := n0_; have HO357 := n1_; have HO360 := n2_; have HB := n3_; clear n0_ n1_ n2_ n3_; (try clear hb); (try clear hb2); (try clear hk); (try clear hi)))
    repeat (go_quiet (first | (go_at_call 23; (with_reducible refine (spec_DrawIdleLaws.calls k _ _ l0 t352 _ ?side1 ?side2 A3.out).mono ?_); (case side1 => repeat (first | exact HR0.out | (with_reducible refine Kd.C_alloc ?_ _) | (with_reducible refine Kd.C_drewN ?_ _) | (with_reducible refine Kd.C_drew ?_))); (case side2 => exact HC0.out); rintro e w10 ⟨v353, rfl, ho0, hb⟩; have n0_ := Aside0.mk (Kd.R_lower ho0 (below_size bh)); have n1_ := Aside0.mk (below_step bh hb); clear HB; have HO354 := n0_; have HB := n1_; clear n0_ n1_; (try clear hb); (try clear hb2); (try clear hk); (try clear hi); (try clear ho0); obtain ⟨Ao11, co11, eo11⟩ := Kd.R_slice HO354.out; subst eo11) | (go_at_call 17; (with_reducible refine (impl_IdleLaws.calls k _ _ t352 t355 _ ?side1 ?side2 A4.out).mono ?_); (case side1 => repeat (first | exact (Kd.R_reads' HO354.out).2.2 | (with_reducible refine Kd.C_alloc ?_ _) | (with_reducible refine Kd.C_drewN ?_ _) | (with_reducible refine Kd.C_drew ?_))); (case side2 => exact (Kd.R_reads' HO354.out).2.1); rintro e w12 ⟨v356, rfl, ho0, hb⟩; have n0_ := Aside0.mk (Kd.R_below (rz HO354) hb); have n1_ := Aside0.mk (Kd.R_lower ho0 (below_size bh)); have n2_ := Aside0.mk (below_step bh hb); clear HO354 HB; have HO354 := n0_; have HO357 := n1_; have HB := n2_; clear n0_ n1_ n2_; (try clear hb); (try clear hb2); (try clear hk); (try clear hi); (try clear ho0)) | (go_at_call 15; (with_reducible refine (spec_IdleLaws.calls k _ _ t352 t358 _ ?side1 ?side2 A5.out).mono ?_); (case side1 => repeat (first | exact (Kd.R_reads' HO354.out).2.2 | (with_reducible refine Kd.C_alloc ?_ _) | (with_reducible refine Kd.C_drewN ?_ _) | (with_reducible refine Kd.C_drew ?_))); (case side2 => exact (Kd.R_reads' HO354.out).2.1); rintro e w13 ⟨v359, rfl, ho0, hb⟩; have n0_ := Aside0.mk (Kd.R_below (rz HO354) hb); have n1_ := Aside0.mk (Kd.R_elder' (rz HO357) (Kd.R_base ho0) hb); have n2_ := Aside0.mk (Kd.R_lower (Kd.R_new' ho0 (Kd.R_lt (rz HO357))) (below_size bh)); have n3_ := Aside0.mk (below_step bh hb); clear HO354 HO357 HB; have HO354 := n0_; have HO357 := n1_; have HO360 := n2_; have HB := n3_; clear n0_ n1_ n2_ n3_; (try clear hb); (try clear hb2); (try clear hk); (try clear hi); (try clear ho0); obtain ⟨Ao14, co14, eo14⟩ := Kd.R_slice HO357.out; subst eo14; obtain ⟨Ao15, co15, eo15⟩ := Kd.R_slice HO360.out; subst eo15) | (go_at_call 24; (with_reducible refine (laws_sameInts.calls k _ _ t355 _ _ t358 true _ ?side1 ?side2 ?side3 ?side4 A6.out).mono ?_); (case side1 => repeat (first | exact (Kd.R_reads' HO357.out).2.2 | (with_reducible refine Kd.C_alloc ?_ _) | (with_reducible refine Kd.C_drewN ?_ _) | (with_reducible refine Kd.C_drew ?_))); (case side2 => exact (Kd.R_reads' HO357.out).2.1); (case side3 => repeat (first | exact (Kd.R_reads' HO360.out).2.2 | (with_reducible refine Kd.C_alloc ?_ _) | (with_reducible refine Kd.C_drewN ?_ _) | (with_reducible refine Kd.C_drew ?_))); (case side4 => exact (Kd.R_reads' HO360.out).2.1); rintro e w' ⟨rfl, ⟨nd, rfl⟩⟩; (try first | exact ⟨rfl, _, World.drewN_drewN _ _ _⟩ | exact ⟨rfl, _, Eq.trans (World.drewN_drewN _ _ _) (congrArg (World.drewN _) (Nat.add_assoc _ _ _))⟩)) | (go_at_call 25; (with_reducible refine (spec_BookOk.calls k _ _ t352 true _ ?side1 ?side2 A8.out).mono ?_); (case side1 => repeat (first | exact (Kd.R_reads' HO354.out).2.2 | (with_reducible refine Kd.C_alloc ?_ _) | (with_reducible refine Kd.C_drewN ?_ _) | (with_reducible refine Kd.C_drew ?_))); (case side2 => exact (Kd.R_reads' HO354.out).2.1); rintro e w16 ⟨rfl, hb⟩; have n0_ := Aside0.mk (Kd.R_below (rz HO354) hb); have n1_ := Aside0.mk (Kd.R_below (rz HO357) hb); have n2_ := Aside0.mk (Kd.R_below (rz HO360) hb); have n3_ := Aside0.mk (below_step bh hb); clear HO354 HO357 HO360 HB; have HO354 := n0_; have HO357 := n1_; have HO360 := n2_; have HB := n3_; clear n0_ n1_ n2_ n3_; (try clear hb); (try clear hb2); (try clear hk); (try clear hi))); try go_wp2_with (first | (go_at_call 23; (with_reducible refine (spec_DrawIdleLaws.calls k _ _ l0 t352 _ ?side1 ?side2 A3.out).mono ?_); (case side1 => repeat (first | exact HR0.out | (with_reducible refine Kd.C_alloc ?_ _) | (with_reducible refine Kd.C_drewN ?_ _) | (with_reducible refine Kd.C_drew ?_))); (case side2 => exact HC0.out); rintro e w10 ⟨v353, rfl, ho0, hb⟩; have n0_ := Aside0.mk (Kd.R_lower ho0 (below_size bh)); have n1_ := Aside0.mk (below_step bh hb); clear HB; have HO354 := n0_; have HB := n1_; clear n0_ n1_; (try clear hb); (try clear hb2); (try clear hk); (try clear hi); (try clear ho0); obtain ⟨Ao11, co11, eo11⟩ := Kd.R_slice HO354.out; subst eo11) | (go_at_call 17; (with_reducible refine (impl_IdleLaws.calls k _ _ t352 t355 _ ?side1 ?side2 A4.out).mono ?_); (case side1 => repeat (first | exact (Kd.R_reads' HO354.out).2.2 | (with_reducible refine Kd.C_alloc ?_ _) | (with_reducible refine Kd.C_drewN ?_ _) | (with_reducible refine Kd.C_drew ?_))); (case side2 => exact (Kd.R_reads' HO354.out).2.1); rintro e w12 ⟨v356, rfl, ho0, hb⟩; have n0_ := Aside0.mk (Kd.R_below (rz HO354) hb); have n1_ := Aside0.mk (Kd.R_lower ho0 (below_size bh)); have n2_ := Aside0.mk (below_step bh hb); clear HO354 HB; have HO354 := n0_; have HO357 := n1_; have HB := n2_; clear n0_ n1_ n2_; (try clear hb); (try clear hb2); (try clear hk); (try clear hi); (try clear ho0)) | (go_at_call 15; (with_reducible refine (spec_IdleLaws.calls k _ _ t352 t358 _ ?side1 ?side2 A5.out).mono ?_); (case side1 => repeat (first | exact (Kd.R_reads' HO354.out).2.2 | (with_reducible refine Kd.C_alloc ?_ _) | (with_reducible refine Kd.C_drewN ?_ _) | (with_reducible refine Kd.C_drew ?_))); (case side2 => exact (Kd.R_reads' HO354.out).2.1); rintro e w13 ⟨v359, rfl, ho0, hb⟩; have n0_ := Aside0.mk (Kd.R_below (rz HO354) hb); have n1_ := Aside0.mk (Kd.R_elder' (rz HO357) (Kd.R_base ho0) hb); have n2_ := Aside0.mk (Kd.R_lower (Kd.R_new' ho0 (Kd.R_lt (rz HO357))) (below_size bh)); have n3_ := Aside0.mk (below_step bh hb); clear HO354 HO357 HB; have HO354 := n0_; have HO357 := n1_; have HO360 := n2_; have HB := n3_; clear n0_ n1_ n2_ n3_; (try clear hb); (try clear hb2); (try clear hk); (try clear hi); (try clear ho0); obtain ⟨Ao14, co14, eo14⟩ := Kd.R_slice HO357.out; subst eo14; obtain ⟨Ao15, co15, eo15⟩ := Kd.R_slice HO360.out; subst eo15) | (go_at_call 24; (with_reducible refine (laws_sameInts.calls k _ _ t355 _ _ t358 true _ ?side1 ?side2 ?side3 ?side4 A6.out).mono ?_); (case side1 => repeat (first | exact (Kd.R_reads' HO357.out).2.2 | (with_reducible refine Kd.C_alloc ?_ _) | (with_reducible refine Kd.C_drewN ?_ _) | (with_reducible refine Kd.C_drew ?_))); (case side2 => exact (Kd.R_reads' HO357.out).2.1); (case side3 => repeat (first | exact (Kd.R_reads' HO360.out).2.2 | (with_reducible refine Kd.C_alloc ?_ _) | (with_reducible refine Kd.C_drewN ?_ _) | (with_reducible refine Kd.C_drew ?_))); (case side4 => exact (Kd.R_reads' HO360.out).2.1); rintro e w' ⟨rfl, ⟨nd, rfl⟩⟩; (try first | exact ⟨rfl, _, World.drewN_drewN _ _ _⟩ | exact ⟨rfl, _, Eq.trans (World.drewN_drewN _ _ _) (congrArg (World.drewN _) (Nat.add_assoc _ _ _))⟩)) | (go_at_call 25; (with_reducible refine (spec_BookOk.calls k _ _ t352 true _ ?side1 ?side2 A8.out).mono ?_); (case side1 => repeat (first | exact (Kd.R_reads' HO354.out).2.2 | (with_reducible refine Kd.C_alloc ?_ _) | (with_reducible refine Kd.C_drewN ?_ _) | (with_reducible refine Kd.C_drew ?_))); (case side2 => exact (Kd.R_reads' HO354.out).2.1); rintro e w16 ⟨rfl, hb⟩; have n0_ := Aside0.mk (Kd.R_below (rz HO354) hb); have n1_ := Aside0.mk (Kd.R_below (rz HO357) hb); have n2_ := Aside0.mk (Kd.R_below (rz HO360) hb); have n3_ := Aside0.mk (below_step bh hb); clear HO354 HO357 HO360 HB; have HO354 := n0_; have HO357 := n1_; have HO360 := n2_; have HB := n3_; clear n0_ n1_ n2_ n3_; (try clear hb); (try clear hb2); (try clear hk); (try clear hi))))
    go_loopg [5] k (fun kq v5 w' => ∃ (x5_1 : Int), v5 = .int .i64 x5_1 ∧ Aside0 (laws_FnIdleLaws.l0 kq t352 t355 x5_1 = some r) ∧ Aside0 (kq ≤ k) ∧ Aside0 (Kd.R k46 46 w' w.heap.size (fun _ => True) (.slice Ao11 t352.length co11) t352) ∧ Aside0 (Kd.R (Kd.int .i64) 3 w' w.heap.size (fun _ => True) (.slice Ao14 t355.length co14) t355) ∧ Aside0 (Below w.heap.size w w'))
    case atStart => exact ⟨(0), (by first | rfl | (simp; done) | (simp [*]; done)), H', ⟨Nat.le_refl _⟩, ⟨rz HO354⟩, ⟨mR HO357⟩, ⟨by exact bh⟩⟩
    case round =>
     clear H'
     try clear c2
     try clear c2b0
     try clear c2b1
     try clear p2
     try clear c5
     try clear c7
     try clear c9
     obtain ⟨x5_1, rfl, HA, HK1, HO_3, HO_4, HB⟩ := hrel
     cases gk with
     | zero => exact absurd HA.out (by simp [laws_FnIdleLaws.l0])
     | succ k1 =>
      have H := HA.out
      clear HA
      simp only [laws_FnIdleLaws.l0] at H
      by_cases c17 : x5_1 < (t352.length : Int)
      ·rw [if_pos c17] at H
       have c17b0 : decide (x5_1 < (t352.length : Int)) = true := decide_eq_true c17
       clear c17
       have H' := Aside0.mk H
       clear H
       go_wp2
       repeat (go_quiet (fail); try go_wp2)
       go_loopg [7, 8] k1 (fun kq v7 v8 w' => ∃ (x7_2 : Bool) (x8_2 : Int), v7 = .bool x7_2 ∧ v8 = .int .i64 x8_2 ∧ Aside0 (laws_FnIdleLaws.l1 kq t352 t355 x5_1 true x7_2 x8_2 = some r) ∧ Aside0 (kq ≤ k1) ∧ Aside0 (Kd.R k46 46 w' w.heap.size (fun _ => True) (.slice Ao11 t352.length co11) t352) ∧ Aside0 (Kd.R (Kd.int .i64) 3 w' w.heap.size (fun _ => True) (.slice Ao14 t355.length co14) t355) ∧ Aside0 (Below w.heap.size w w'))
       case atStart => exact ⟨(false), (0), (by first | rfl | (simp; done) | (simp [*]; done)), (by first | rfl | (simp; done) | (simp [*]; done)), H', ⟨Nat.le_refl _⟩, ⟨rz HO_3⟩, ⟨rz HO_4⟩, ⟨by exact bh⟩⟩
       case round =>
        clear H'
        try clear c1
        try clear c2
        try clear c2b0
        try clear c2b1
        try clear p2
        try clear c5
        try clear c7
        try clear c9
        try clear c17
        try clear c17b0
        try clear p2
        obtain ⟨x7_2, x8_2, rfl, rfl, HA, HK2, HO_3, HO_4, HB⟩ := hrel
        cases gk with
        | zero => exact absurd HA.out (by simp [laws_FnIdleLaws.l1])
        | succ k2 =>
         have H := HA.out
         clear HA
         simp only [laws_FnIdleLaws.l1] at H
         by_cases c18 : x8_2 < (t352.length : Int)
         ·rw [if_pos c18] at H
          have c18b0 : decide (x8_2 < (t352.length : Int)) = true := decide_eq_true c18
          clear c18
          by_cases c19 : x7_2 = true
          ·subst c19
           have H1 : (laws_FnIdleLaws.l1 k2 t352 t355 x5_1 true true (wrap64 (x8_2 + 1))) = some r := by rw [if_pos rfl] at H; exact H
           clear H
           have H := H1
           clear H1
           have H' := Aside0.mk H
           clear H
           go_wp2
           repeat (go_quiet (fail); try go_wp2)
           go_roundg k2
           case measure => have := HK1.out; have := HK2.out; omega
           case rel => exact ⟨(true), (wrap64 (x8_2 + 1)), (by first | rfl | (simp; done) | (simp [*]; done)), (by first | rfl | (simp; done) | (simp [*]; done)), H', ⟨by have := HK1.out; have := HK2.out; omega⟩, ⟨rz HO_3⟩, ⟨rz HO_4⟩, ⟨by exact bh⟩⟩
          ·replace c19 := Bool.eq_false_iff.mpr c19
           subst c19
           have H1 : (if x8_2 = x5_1 then (laws_FnIdleLaws.l1 k2 t352 t355 x5_1 true false (wrap64 (x8_2 + 1))) else (if 0 ≤ x8_2 then (if 0 ≤ x5_1 then (if x5_1 < (t352.length : Int) then (laws_FnIdleLaws.l1 k2 t352 t355 x5_1 true (((rd_T46 t352 x8_2).f0) == ((rd_T46 t352 x5_1).f0) && (((rd_T46 t352 x8_2).f1) == ((rd_T46 t352 x5_1).f1) && (((rd_T46 t352 x8_2).f2) == ((rd_T46 t352 x5_1).f2) && (((rd_T46 t352 x8_2).f3) == ((rd_T46 t352 x5_1).f3) && (((rd_T46 t352 x8_2).f4) == ((rd_T46 t352 x5_1).f4)))))) (wrap64 (x8_2 + 1))) else (none)) else (none)) else (none))) = some r := by rw [if_neg (show ¬ (false = true) by decide)] at H; exact H
           clear H
           have H := H1
           clear H1
           by_cases c20 : x8_2 = x5_1
           ·rw [if_pos c20] at H
            have c20b0 : (x8_2 == x5_1) = true := beq_iff_eq.mpr c20
            have c20b1 : (x8_2 != x5_1) = false := bne_eq_false_iff_eq.mpr c20
            clear c20
            have H' := Aside0.mk H
            clear H
            go_wp2
            repeat (go_quiet (fail); try go_wp2)
            go_roundg k2
            case measure => have := HK1.out; have := HK2.out; omega
            case rel => exact ⟨(false), (wrap64 (x8_2 + 1)), (by first | rfl | (simp; done) | (simp [*]; done)), (by first | rfl | (simp; done) | (simp [*]; done)), H', ⟨by have := HK1.out; have := HK2.out; omega⟩, ⟨rz HO_3⟩, ⟨rz HO_4⟩, ⟨by exact bh⟩⟩
           ·rw [if_neg c20] at H
            have c20b0 : (x8_2 == x5_1) = false := beq_eq_false_iff_ne.mpr c20
            have c20b1 : (x8_2 != x5_1) = true := bne_iff_ne.mpr c20
            by_cases c21 : 0 ≤ x8_2
            ·rw [if_pos c21] at H
             have c21b0 : decide (0 ≤ x8_2) = true := decide_eq_true c21
             clear c21
             by_cases c22 : 0 ≤ x5_1
             ·rw [if_pos c22] at H
              have c22b0 : decide (0 ≤ x5_1) = true := decide_eq_true c22
              clear c22
              by_cases c23 : x5_1 < (t352.length : Int)
              ·rw [if_pos c23] at H
               have c23b0 : decide (x5_1 < (t352.length : Int)) = true := decide_eq_true c23
               clear c23
               have H' := Aside0.mk H
               clear H
               have p364 : 0 ≤ (x8_2 : Int) := oda
               have q364 : x8_2 < (t352.length : Int) := oda
               obtain ⟨ad364, e364, hx364_0, hx364_1, hx364_2, hx364_3, hx364_4⟩ := at_T46 (Kd.R_reads' HO_3.out).2.2 x8_2 p364 q364
               cases e364
               replace p364 := eq_true p364
               replace q364 := eq_true q364
               have p365 : 0 ≤ (x5_1 : Int) := oda
               have q365 : x5_1 < (t352.length : Int) := oda
               obtain ⟨ad365, e365, hx365_0, hx365_1, hx365_2, hx365_3, hx365_4⟩ := at_T46 (Kd.R_reads' HO_3.out).2.2 x5_1 p365 q365
               obtain rfl : ad364 = ad365 := (by injection e365)
               replace p365 := eq_true p365
               replace q365 := eq_true q365
               go_wp2
               repeat (go_quiet (fail); try go_wp2)
               go_roundg k2
               case measure => have := HK1.out; have := HK2.out; omega
               case rel => exact ⟨((((rd_T46 t352 x8_2).f0) == ((rd_T46 t352 x5_1).f0) && (((rd_T46 t352 x8_2).f1) == ((rd_T46 t352 x5_1).f1) && (((rd_T46 t352 x8_2).f2) == ((rd_T46 t352 x5_1).f2) && (((rd_T46 t352 x8_2).f3) == ((rd_T46 t352 x5_1).f3) && (((rd_T46 t352 x8_2).f4) == ((rd_T46 t352 x5_1).f4))))))), (wrap64 (x8_2 + 1)), (by first | rfl | (simp; done) | (simp [*]; done)), (by first | rfl | (simp; done) | (simp [*]; done)), H', ⟨by have := HK1.out; have := HK2.out; omega⟩, ⟨rz HO_3⟩, ⟨rz HO_4⟩, ⟨by exact bh⟩⟩
              ·rw [if_neg c23] at H
               exact absurd H (by simp)
             ·rw [if_neg c22] at H
              exact absurd H (by simp)
            ·rw [if_neg c21] at H
             exact absurd H (by simp)
         ·rw [if_neg c18] at H
          have c18b0 : decide (x8_2 < (t352.length : Int)) = false := decide_eq_false c18
          clear c18
          have H' := Aside0.mk H
          clear H
          go_wp2
          repeat (go_quiet (fail); try go_wp2)
          go_loopg [6, 9] k2 (fun kq v6 v9 w' => ∃ (x6_3 : Bool) (x9_3 : Int), v6 = .bool x6_3 ∧ v9 = .int .i64 x9_3 ∧ Aside0 (laws_FnIdleLaws.l2 kq t352 t355 x5_1 x6_3 x7_2 x9_3 = some r) ∧ Aside0 (kq ≤ k2) ∧ Aside0 (Kd.R k46 46 w' w.heap.size (fun _ => True) (.slice Ao11 t352.length co11) t352) ∧ Aside0 (Kd.R (Kd.int .i64) 3 w' w.heap.size (fun _ => True) (.slice Ao14 t355.length co14) t355) ∧ Aside0 (Below w.heap.size w w'))
          case atStart => exact ⟨(true), (0), (by first | rfl | (simp; done) | (simp [*]; done)), (by first | rfl | (simp; done) | (simp [*]; done)), H', ⟨Nat.le_refl _⟩, ⟨rz HO_3⟩, ⟨rz HO_4⟩, ⟨by exact bh⟩⟩
          case round =>
           clear H'
           try clear c1
           try clear c2
           try clear c2b0
           try clear c2b1
           try clear p2
           try clear p3
           try clear q3
           try clear hx3
           try clear c5
           try clear p6
           try clear c7
           try clear c9
           try clear c17
           try clear c17b0
           try clear c18
           try clear c18b0
           try clear c19
           try clear c20
           try clear c20b0
           try clear c20b1
           try clear c21
           try clear c21b0
           try clear c22
           try clear c22b0
           try clear c23
           try clear c23b0
           try clear hx364_0
           try clear hx364_1
           try clear hx364_2
           try clear hx364_3
           try clear hx364_4
           try clear hx365_0
           try clear hx365_1
           try clear hx365_2
           try clear hx365_3
           try clear hx365_4
           try clear p2
           try clear p364
           try clear p365
           try clear q364
           try clear q365
           obtain ⟨x6_3, x9_3, rfl, rfl, HA, HK3, HO_3, HO_4, HB⟩ := hrel
           cases gk with
           | zero => exact absurd HA.out (by simp [laws_FnIdleLaws.l2])
           | succ k3 =>
            have H := HA.out
            clear HA
            simp only [laws_FnIdleLaws.l2] at H
            by_cases c24 : x9_3 < 3
            ·rw [if_pos c24] at H
             have c24b0 : decide (x9_3 < 3) = true := decide_eq_true c24
             clear c24
             have H' := Aside0.mk H
             clear H
             go_wp2
             repeat (go_quiet (fail); try go_wp2)
             go_loopg [6, 10] k3 (fun kq v6 v10 w' => ∃ (x6_4 : Bool) (x10_4 : Int), v6 = .bool x6_4 ∧ v10 = .int .i64 x10_4 ∧ Aside0 (laws_FnIdleLaws.l3 kq t352 t355 x5_1 x6_4 x7_2 x9_3 x10_4 = some r) ∧ Aside0 (kq ≤ k3) ∧ Aside0 (Kd.R k46 46 w' w.heap.size (fun _ => True) (.slice Ao11 t352.length co11) t352) ∧ Aside0 (Kd.R (Kd.int .i64) 3 w' w.heap.size (fun _ => True) (.slice Ao14 t355.length co14) t355) ∧ Aside0 (Below w.heap.size w w'))
             case atStart => exact ⟨(x6_3), (0), (by first | rfl | (simp; done) | (simp [*]; done)), (by first | rfl | (simp; done) | (simp [*]; done)), H', ⟨Nat.le_refl _⟩, ⟨rz HO_3⟩, ⟨rz HO_4⟩, ⟨by exact bh⟩⟩
             case round =>
              clear H'
              try clear c1
              try clear c2
              try clear c2b0
              try clear c2b1
              try clear p2
              try clear p3
              try clear q3
              try clear hx3
              try clear c5
              try clear p6
              try clear c7
              try clear c9
              try clear c17
              try clear c17b0
              try clear c18
              try clear c18b0
              try clear c19
              try clear c20
              try clear c20b0
              try clear c20b1
              try clear c21
              try clear c21b0
              try clear c22
              try clear c22b0
              try clear c23
              try clear c23b0
              try clear c24
              try clear c24b0
              try clear hx364_0
              try clear hx364_1
              try clear hx364_2
              try clear hx364_3
              try clear hx364_4
              try clear hx365_0
              try clear hx365_1
              try clear hx365_2
              try clear hx365_3
              try clear hx365_4
              try clear p2
              try clear p3
              try clear p364
              try clear p365
              try clear p6
              try clear q3
              try clear q364
              try clear q365
              obtain ⟨x6_4, x10_4, rfl, rfl, HA, HK4, HO_3, HO_4, HB⟩ := hrel
              cases gk with
              | zero => exact absurd HA.out (by simp [laws_FnIdleLaws.l3])
              | succ k4 =>
               have H := HA.out
               clear HA
               simp only [laws_FnIdleLaws.l3] at H
               by_cases c25 : x10_4 < 8
               ·rw [if_pos c25] at H
                have c25b0 : decide (x10_4 < 8) = true := decide_eq_true c25
                clear c25
                by_cases c26 : x6_4 = true
                ·subst c26
                 have H1 : ((impl_UnbeatenOf.f k4 t352 x9_3 x10_4).bind fun t368 => ((laws_hasInt.f k4 t368 x5_1).bind fun t371 => (laws_FnIdleLaws.l3 k4 t352 t355 x5_1 (!t371) x7_2 x9_3 (wrap64 (x10_4 + 1))))) = some r := by rw [if_pos rfl] at H; exact H
                 clear H
                 have H := H1
                 clear H1
                 replace H := Option.bind_eq_some_iff.mp H
                 obtain ⟨t368, A270, H⟩ := H
                 replace H : ((laws_hasInt.f k4 t368 x5_1).bind fun t371 => (laws_FnIdleLaws.l3 k4 t352 t355 x5_1 (!t371) x7_2 x9_3 (wrap64 (x10_4 + 1)))) = some r := H
                 have A27 := Aside0.mk A270
                 clear A270
                 replace H := Option.bind_eq_some_iff.mp H
                 obtain ⟨t371, A280, H⟩ := H
                 replace H : (laws_FnIdleLaws.l3 k4 t352 t355 x5_1 (!t371) x7_2 x9_3 (wrap64 (x10_4 + 1))) = some r := H
                 have A28 := Aside0.mk A280
                 clear A280
                 have H' := Aside0.mk H
                 clear H
                 go_wp2_with (first | (go_at_call 12; (with_reducible refine (impl_UnbeatenOf.calls k4 _ _ t352 x9_3 x10_4 t368 _ ?side1 ?side2 A27.out).mono ?_); (case side1 => repeat (first | exact (Kd.R_reads' HO_3.out).2.2 | (with_reducible refine Kd.C_alloc ?_ _) | (with_reducible refine Kd.C_drewN ?_ _) | (with_reducible refine Kd.C_drew ?_))); (case side2 => exact (Kd.R_reads' HO_3.out).2.1); rintro e w29 ⟨v369, rfl, ho0, hb⟩; have n0_ := Aside0.mk (Kd.R_below (rz HO_3) hb); have n1_ := Aside0.mk (Kd.R_elder' (rz HO_4) (Kd.R_base ho0) hb); have n2_ := Aside0.mk (Kd.R_lower (Kd.R_new' ho0 (Kd.R_lt (rz HO_4))) (below_size bh)); have n3_ := Aside0.mk (below_step bh hb); clear HO_3 HO_4 HB; have HO_3 := n0_; have HO_4 := n1_; have HO370 := n2_; have HB := n3_; clear n0_ n1_ n2_ n3_; (try clear hb); (try clear hb2); (try clear hk); (try clear hi); (try clear ho0); obtain ⟨Ao30, co30, eo30⟩ := Kd.R_slice HO370.out; subst eo30) | (go_at_call 11; (with_reducible refine (laws_hasInt.calls k4 _ _ t368 x5_1 t371 _ ?side1 ?side2 A28.out).mono ?_); (case side1 => repeat (first | exact (Kd.R_reads' HO370.out).2.2 | (with_reducible refine Kd.C_alloc ?_ _) | (with_reducible refine Kd.C_drewN ?_ _) | (with_reducible refine Kd.C_drew ?_))); (case side2 => exact (Kd.R_reads' HO370.out).2.1); rintro e w' ⟨rfl, ⟨nd, rfl⟩⟩; (try first | exact ⟨rfl, _, World.drewN_drewN _ _ _⟩ | exact ⟨rfl, _, Eq.trans (World.drewN_drewN _ _ _) (congrArg (World.drewN _) (Nat.add_assoc _ _ _))⟩)))
                 repeat (go_quiet (first | (go_at_call 12; (with_reducible refine (impl_UnbeatenOf.calls k4 _ _ t352 x9_3 x10_4 t368 _ ?side1 ?side2 A27.out).mono ?_); (case side1 => repeat (first | exact (Kd.R_reads' HO_3.out).2.2 | (with_reducible refine Kd.C_alloc ?_ _) | (with_reducible refine Kd.C_drewN ?_ _) | (with_reducible refine Kd.C_drew ?_))); (case side2 => exact (Kd.R_reads' HO_3.out).2.1); rintro e w29 ⟨v369, rfl, ho0, hb⟩; have n0_ := Aside0.mk (Kd.R_below (rz HO_3) hb); have n1_ := Aside0.mk (Kd.R_elder' (rz HO_4) (Kd.R_base ho0) hb); have n2_ := Aside0.mk (Kd.R_lower (Kd.R_new' ho0 (Kd.R_lt (rz HO_4))) (below_size bh)); have n3_ := Aside0.mk (below_step bh hb); clear HO_3 HO_4 HB; have HO_3 := n0_; have HO_4 := n1_; have HO370 := n2_; have HB := n3_; clear n0_ n1_ n2_ n3_; (try clear hb); (try clear hb2); (try clear hk); (try clear hi); (try clear ho0); obtain ⟨Ao30, co30, eo30⟩ := Kd.R_slice HO370.out; subst eo30) | (go_at_call 11; (with_reducible refine (laws_hasInt.calls k4 _ _ t368 x5_1 t371 _ ?side1 ?side2 A28.out).mono ?_); (case side1 => repeat (first | exact (Kd.R_reads' HO370.out).2.2 | (with_reducible refine Kd.C_alloc ?_ _) | (with_reducible refine Kd.C_drewN ?_ _) | (with_reducible refine Kd.C_drew ?_))); (case side2 => exact (Kd.R_reads' HO370.out).2.1); rintro e w' ⟨rfl, ⟨nd, rfl⟩⟩; (try first | exact ⟨rfl, _, World.drewN_drewN _ _ _⟩ | exact ⟨rfl, _, Eq.trans (World.drewN_drewN _ _ _) (congrArg (World.drewN _) (Nat.add_assoc _ _ _))⟩))); try go_wp2_with (first | (go_at_call 12; (with_reducible refine (impl_UnbeatenOf.calls k4 _ _ t352 x9_3 x10_4 t368 _ ?side1 ?side2 A27.out).mono ?_); (case side1 => repeat (first | exact (Kd.R_reads' HO_3.out).2.2 | (with_reducible refine Kd.C_alloc ?_ _) | (with_reducible refine Kd.C_drewN ?_ _) | (with_reducible refine Kd.C_drew ?_))); (case side2 => exact (Kd.R_reads' HO_3.out).2.1); rintro e w29 ⟨v369, rfl, ho0, hb⟩; have n0_ := Aside0.mk (Kd.R_below (rz HO_3) hb); have n1_ := Aside0.mk (Kd.R_elder' (rz HO_4) (Kd.R_base ho0) hb); have n2_ := Aside0.mk (Kd.R_lower (Kd.R_new' ho0 (Kd.R_lt (rz HO_4))) (below_size bh)); have n3_ := Aside0.mk (below_step bh hb); clear HO_3 HO_4 HB; have HO_3 := n0_; have HO_4 := n1_; have HO370 := n2_; have HB := n3_; clear n0_ n1_ n2_ n3_; (try clear hb); (try clear hb2); (try clear hk); (try clear hi); (try clear ho0); obtain ⟨Ao30, co30, eo30⟩ := Kd.R_slice HO370.out; subst eo30) | (go_at_call 11; (with_reducible refine (laws_hasInt.calls k4 _ _ t368 x5_1 t371 _ ?side1 ?side2 A28.out).mono ?_); (case side1 => repeat (first | exact (Kd.R_reads' HO370.out).2.2 | (with_reducible refine Kd.C_alloc ?_ _) | (with_reducible refine Kd.C_drewN ?_ _) | (with_reducible refine Kd.C_drew ?_))); (case side2 => exact (Kd.R_reads' HO370.out).2.1); rintro e w' ⟨rfl, ⟨nd, rfl⟩⟩; (try first | exact ⟨rfl, _, World.drewN_drewN _ _ _⟩ | exact ⟨rfl, _, Eq.trans (World.drewN_drewN _ _ _) (congrArg (World.drewN _) (Nat.add_assoc _ _ _))⟩))))
                 go_roundg k4
                 case measure => have := HK1.out; have := HK2.out; have := HK3.out; have := HK4.out; omega
                 case rel => exact ⟨(!t371), (wrap64 (x10_4 + 1)), (by first | rfl | (simp; done) | (simp [*]; done)), (by first | rfl | (simp; done) | (simp [*]; done)), H', ⟨by have := HK1.out; have := HK2.out; have := HK3.out; have := HK4.out; omega⟩, ⟨rz HO_3⟩, ⟨mR HO_4⟩, ⟨by exact bh⟩⟩
                ·replace c26 := Bool.eq_false_iff.mpr c26
                 subst c26
                 have H1 : (laws_FnIdleLaws.l3 k4 t352 t355 x5_1 false x7_2 x9_3 (wrap64 (x10_4 + 1))) = some r := by rw [if_neg (show ¬ (false = true) by decide)] at H; exact H
                 clear H
                 have H := H1
                 clear H1
                 have H' := Aside0.mk H
                 clear H
                 go_wp2
                 repeat (go_quiet (fail); try go_wp2)
                 go_roundg k4
                 case measure => have := HK1.out; have := HK2.out; have := HK3.out; have := HK4.out; omega
                 case rel => exact ⟨(false), (wrap64 (x10_4 + 1)), (by first | rfl | (simp; done) | (simp [*]; done)), (by first | rfl | (simp; done) | (simp [*]; done)), H', ⟨by have := HK1.out; have := HK2.out; have := HK3.out; have := HK4.out; omega⟩, ⟨rz HO_3⟩, ⟨rz HO_4⟩, ⟨by exact bh⟩⟩
               ·rw [if_neg c25] at H
                have c25b0 : decide (x10_4 < 8) = false := decide_eq_false c25
                clear c25
                have H' := Aside0.mk H
                clear H
                go_wp2
                repeat (go_quiet (fail); try go_wp2)
                go_roundg k4
                case measure => have := HK1.out; have := HK2.out; have := HK3.out; have := HK4.out; omega
                case rel => exact ⟨(x6_4), (wrap64 (x9_3 + 1)), (by first | rfl | (simp; done) | (simp [*]; done)), (by first | rfl | (simp; done) | (simp [*]; done)), H', ⟨by have := HK1.out; have := HK2.out; have := HK3.out; have := HK4.out; omega⟩, ⟨rz HO_3⟩, ⟨rz HO_4⟩, ⟨by exact bh⟩⟩
            ·rw [if_neg c24] at H
             have c24b0 : decide (x9_3 < 3) = false := decide_eq_false c24
             clear c24
             by_cases c31 : x6_3 = true
             ·subst c31
              have H1 : ((laws_hasInt.f k3 t355 x5_1).bind fun t366 => (if t366 = true then (laws_FnIdleLaws.l0 k3 t352 t355 (wrap64 (x5_1 + 1))) else (none))) = some r := by rw [if_pos rfl] at H; exact H
              clear H
              have H := H1
              clear H1
              replace H := Option.bind_eq_some_iff.mp H
              obtain ⟨t366, A320, H⟩ := H
              replace H : (if t366 = true then (laws_FnIdleLaws.l0 k3 t352 t355 (wrap64 (x5_1 + 1))) else (none)) = some r := H
              have A32 := Aside0.mk A320
              clear A320
              by_cases c33 : t366 = true
              ·subst c33
               have H1 : (laws_FnIdleLaws.l0 k3 t352 t355 (wrap64 (x5_1 + 1))) = some r := by rw [if_pos rfl] at H; exact H
               clear H
               have H := H1
               clear H1
               have H' := Aside0.mk H
               clear H
               go_wp2_with (first | (go_at_call 11; (with_reducible refine (laws_hasInt.calls k3 _ _ t355 x5_1 true _ ?side1 ?side2 A32.out).mono ?_); (case side1 => repeat (first | exact (Kd.R_reads' HO_4.out).2.2 | (with_reducible refine Kd.C_alloc ?_ _) | (with_reducible refine Kd.C_drewN ?_ _) | (with_reducible refine Kd.C_drew ?_))); (case side2 => exact (Kd.R_reads' HO_4.out).2.1); rintro e w' ⟨rfl, ⟨nd, rfl⟩⟩; (try first | exact ⟨rfl, _, World.drewN_drewN _ _ _⟩ | exact ⟨rfl, _, Eq.trans (World.drewN_drewN _ _ _) (congrArg (World.drewN _) (Nat.add_assoc _ _ _))⟩)))
               repeat (go_quiet (first | (go_at_call 11; (with_reducible refine (laws_hasInt.calls k3 _ _ t355 x5_1 true _ ?side1 ?side2 A32.out).mono ?_); (case side1 => repeat (first | exact (Kd.R_reads' HO_4.out).2.2 | (with_reducible refine Kd.C_alloc ?_ _) | (with_reducible refine Kd.C_drewN ?_ _) | (with_reducible refine Kd.C_drew ?_))); (case side2 => exact (Kd.R_reads' HO_4.out).2.1); rintro e w' ⟨rfl, ⟨nd, rfl⟩⟩; (try first | exact ⟨rfl, _, World.drewN_drewN _ _ _⟩ | exact ⟨rfl, _, Eq.trans (World.drewN_drewN _ _ _) (congrArg (World.drewN _) (Nat.add_assoc _ _ _))⟩))); try go_wp2_with (first | (go_at_call 11; (with_reducible refine (laws_hasInt.calls k3 _ _ t355 x5_1 true _ ?side1 ?side2 A32.out).mono ?_); (case side1 => repeat (first | exact (Kd.R_reads' HO_4.out).2.2 | (with_reducible refine Kd.C_alloc ?_ _) | (with_reducible refine Kd.C_drewN ?_ _) | (with_reducible refine Kd.C_drew ?_))); (case side2 => exact (Kd.R_reads' HO_4.out).2.1); rintro e w' ⟨rfl, ⟨nd, rfl⟩⟩; (try first | exact ⟨rfl, _, World.drewN_drewN _ _ _⟩ | exact ⟨rfl, _, Eq.trans (World.drewN_drewN _ _ _) (congrArg (World.drewN _) (Nat.add_assoc _ _ _))⟩))))
               go_roundg k3
               case measure => have := HK1.out; have := HK2.out; have := HK3.out; omega
               case rel => exact ⟨(wrap64 (x5_1 + 1)), (by first | rfl | (simp; done) | (simp [*]; done)), H', ⟨by have := HK1.out; have := HK2.out; have := HK3.out; omega⟩, ⟨rz HO_3⟩, ⟨rz HO_4⟩, ⟨by exact bh⟩⟩
              ·replace c33 := Bool.eq_false_iff.mpr c33
               subst c33
               have H1 : (none) = some r := by rw [if_neg (show ¬ (false = true) by decide)] at H; exact H
               clear H
               have H := H1
               clear H1
               exact absurd H (by simp)
             ·replace c31 := Bool.eq_false_iff.mpr c31
              subst c31
              have H1 : (if x7_2 = true then ((laws_hasInt.f k3 t355 x5_1).bind fun t367 => (if t367 = true then (laws_FnIdleLaws.l0 k3 t352 t355 (wrap64 (x5_1 + 1))) else (none))) else (laws_FnIdleLaws.l0 k3 t352 t355 (wrap64 (x5_1 + 1)))) = some r := by rw [if_neg (show ¬ (false = true) by decide)] at H; exact H
              clear H
              have H := H1
              clear H1
              by_cases c34 : x7_2 = true
              ·subst c34
               have H1 : ((laws_hasInt.f k3 t355 x5_1).bind fun t367 => (if t367 = true then (laws_FnIdleLaws.l0 k3 t352 t355 (wrap64 (x5_1 + 1))) else (none))) = some r := by rw [if_pos rfl] at H; exact H
               clear H
               have H := H1
               clear H1
               replace H := Option.bind_eq_some_iff.mp H
               obtain ⟨t367, A350, H⟩ := H
               replace H : (if t367 = true then (laws_FnIdleLaws.l0 k3 t352 t355 (wrap64 (x5_1 + 1))) else (none)) = some r := H
               have A35 := Aside0.mk A350
               clear A350
               by_cases c36 : t367 = true
               ·subst c36
                have H1 : (laws_FnIdleLaws.l0 k3 t352 t355 (wrap64 (x5_1 + 1))) = some r := by rw [if_pos rfl] at H; exact H
                clear H
                have H := H1
                clear H1
                have H' := Aside0.mk H
                clear H
                go_wp2_with (first | (go_at_call 11; (with_reducible refine (laws_hasInt.calls k3 _ _ t355 x5_1 true _ ?side1 ?side2 A35.out).mono ?_); (case side1 => repeat (first | exact (Kd.R_reads' HO_4.out).2.2 | (with_reducible refine Kd.C_alloc ?_ _) | (with_reducible refine Kd.C_drewN ?_ _) | (with_reducible refine Kd.C_drew ?_))); (case side2 => exact (Kd.R_reads' HO_4.out).2.1); rintro e w' ⟨rfl, ⟨nd, rfl⟩⟩; (try first | exact ⟨rfl, _, World.drewN_drewN _ _ _⟩ | exact ⟨rfl, _, Eq.trans (World.drewN_drewN _ _ _) (congrArg (World.drewN _) (Nat.add_assoc _ _ _))⟩)))
                repeat (go_quiet (first | (go_at_call 11; (with_reducible refine (laws_hasInt.calls k3 _ _ t355 x5_1 true _ ?side1 ?side2 A35.out).mono ?_); (case side1 => repeat (first | exact (Kd.R_reads' HO_4.out).2.2 | (with_reducible refine Kd.C_alloc ?_ _) | (with_reducible refine Kd.C_drewN ?_ _) | (with_reducible refine Kd.C_drew ?_))); (case side2 => exact (Kd.R_reads' HO_4.out).2.1); rintro e w' ⟨rfl, ⟨nd, rfl⟩⟩; (try first | exact ⟨rfl, _, World.drewN_drewN _ _ _⟩ | exact ⟨rfl, _, Eq.trans (World.drewN_drewN _ _ _) (congrArg (World.drewN _) (Nat.add_assoc _ _ _))⟩))); try go_wp2_with (first | (go_at_call 11; (with_reducible refine (laws_hasInt.calls k3 _ _ t355 x5_1 true _ ?side1 ?side2 A35.out).mono ?_); (case side1 => repeat (first | exact (Kd.R_reads' HO_4.out).2.2 | (with_reducible refine Kd.C_alloc ?_ _) | (with_reducible refine Kd.C_drewN ?_ _) | (with_reducible refine Kd.C_drew ?_))); (case side2 => exact (Kd.R_reads' HO_4.out).2.1); rintro e w' ⟨rfl, ⟨nd, rfl⟩⟩; (try first | exact ⟨rfl, _, World.drewN_drewN _ _ _⟩ | exact ⟨rfl, _, Eq.trans (World.drewN_drewN _ _ _) (congrArg (World.drewN _) (Nat.add_assoc _ _ _))⟩))))
                go_roundg k3
                case measure => have := HK1.out; have := HK2.out; have := HK3.out; omega
                case rel => exact ⟨(wrap64 (x5_1 + 1)), (by first | rfl | (simp; done) | (simp [*]; done)), H', ⟨by have := HK1.out; have := HK2.out; have := HK3.out; omega⟩, ⟨rz HO_3⟩, ⟨rz HO_4⟩, ⟨by exact bh⟩⟩
               ·replace c36 := Bool.eq_false_iff.mpr c36
                subst c36
                have H1 : (none) = some r := by rw [if_neg (show ¬ (false = true) by decide)] at H; exact H
                clear H
                have H := H1
                clear H1
                exact absurd H (by simp)
              ·replace c34 := Bool.eq_false_iff.mpr c34
               subst c34
               have H1 : (laws_FnIdleLaws.l0 k3 t352 t355 (wrap64 (x5_1 + 1))) = some r := by rw [if_neg (show ¬ (false = true) by decide)] at H; exact H
               clear H
               have H := H1
               clear H1
               have H' := Aside0.mk H
               clear H
               go_wp2
               repeat (go_quiet (fail); try go_wp2)
               go_roundg k3
               case measure => have := HK1.out; have := HK2.out; have := HK3.out; omega
               case rel => exact ⟨(wrap64 (x5_1 + 1)), (by first | rfl | (simp; done) | (simp [*]; done)), H', ⟨by have := HK1.out; have := HK2.out; have := HK3.out; omega⟩, ⟨rz HO_3⟩, ⟨rz HO_4⟩, ⟨by exact bh⟩⟩
      ·rw [if_neg c17] at H
       have c17b0 : decide (x5_1 < (t352.length : Int)) = false := decide_eq_false c17
       clear c17
       by_cases c37 : (t355.length : Int) > 0
       ·rw [if_pos c37] at H
        have c37b0 : decide (0 < (t355.length : Int)) = true := decide_eq_true c37
        have c37b1 : decide (0 < t355.length) = true := decide_eq_true (by omega)
        clear c37
        by_cases c38 : 0 < (t355.length : Int)
        ·rw [if_pos c38] at H
         have c38b0 : decide (0 < (t355.length : Int)) = true := decide_eq_true c38
         have c38b1 : decide (0 < t355.length) = true := decide_eq_true (by omega)
         clear c38
         replace H := Option.bind_eq_some_iff.mp H
         obtain ⟨⟨t373, t374⟩, A390, H⟩ := H
         replace H : (laws_FnIdleLaws.l4 k1 t352 t355 t373 t374 0) = some r := H
         have A39 := Aside0.mk A390
         clear A390
         have H' := Aside0.mk H
         clear H
         have p372 : 0 ≤ (0 : Int) := (by omega)
         have q372 : 0 < (t355.length : Int) := oda
         obtain ⟨ad372, e372, hx372_0⟩ := Kd.at_int (Kd.R_reads' HO_4.out).2.2 0 p372 q372
         cases e372
         have qi372 : (0 < t355.length) = True := eq_true (by omega)
         (try rw [show ((0 : Int)).toNat = 0 from rfl] at hx372_0)
         (try rw [Addr.add_zero'] at hx372_0)
         replace p372 := eq_true p372
         replace q372 := eq_true q372
         go_wp2_with (first | (go_at_call 7; (with_reducible refine (impl_WithoutLaw.calls k1 _ _ t352 (rd t355 0) t373 t374 _ ?side1 ?side2 A39.out).mono ?_); (case side1 => repeat (first | exact (Kd.R_reads' HO_3.out).2.2 | (with_reducible refine Kd.C_alloc ?_ _) | (with_reducible refine Kd.C_drewN ?_ _) | (with_reducible refine Kd.C_drew ?_))); (case side2 => exact (Kd.R_reads' HO_3.out).2.1); rintro e w40 ⟨v375, rfl, ho0, hb⟩; have n0_ := Aside0.mk (Kd.R_elder' (rz HO_3) (Kd.R_base ho0) hb); have n1_ := Aside0.mk (Kd.R_below (rz HO_4) hb); have n2_ := Aside0.mk (Kd.R_lower (Kd.R_new' ho0 (Kd.R_lt (rz HO_3))) (below_size bh)); have n3_ := Aside0.mk (below_step bh hb); clear HO_3 HO_4 HB; have HO_3 := n0_; have HO_4 := n1_; have HO376 := n2_; have HB := n3_; clear n0_ n1_ n2_ n3_; (try clear hb); (try clear hb2); (try clear hk); (try clear hi); (try clear ho0)))
         repeat (go_quiet (first | (go_at_call 7; (with_reducible refine (impl_WithoutLaw.calls k1 _ _ t352 (rd t355 0) t373 t374 _ ?side1 ?side2 A39.out).mono ?_); (case side1 => repeat (first | exact (Kd.R_reads' HO_3.out).2.2 | (with_reducible refine Kd.C_alloc ?_ _) | (with_reducible refine Kd.C_drewN ?_ _) | (with_reducible refine Kd.C_drew ?_))); (case side2 => exact (Kd.R_reads' HO_3.out).2.1); rintro e w40 ⟨v375, rfl, ho0, hb⟩; have n0_ := Aside0.mk (Kd.R_elder' (rz HO_3) (Kd.R_base ho0) hb); have n1_ := Aside0.mk (Kd.R_below (rz HO_4) hb); have n2_ := Aside0.mk (Kd.R_lower (Kd.R_new' ho0 (Kd.R_lt (rz HO_3))) (below_size bh)); have n3_ := Aside0.mk (below_step bh hb); clear HO_3 HO_4 HB; have HO_3 := n0_; have HO_4 := n1_; have HO376 := n2_; have HB := n3_; clear n0_ n1_ n2_ n3_; (try clear hb); (try clear hb2); (try clear hk); (try clear hi); (try clear ho0))); try go_wp2_with (first | (go_at_call 7; (with_reducible refine (impl_WithoutLaw.calls k1 _ _ t352 (rd t355 0) t373 t374 _ ?side1 ?side2 A39.out).mono ?_); (case side1 => repeat (first | exact (Kd.R_reads' HO_3.out).2.2 | (with_reducible refine Kd.C_alloc ?_ _) | (with_reducible refine Kd.C_drewN ?_ _) | (with_reducible refine Kd.C_drew ?_))); (case side2 => exact (Kd.R_reads' HO_3.out).2.1); rintro e w40 ⟨v375, rfl, ho0, hb⟩; have n0_ := Aside0.mk (Kd.R_elder' (rz HO_3) (Kd.R_base ho0) hb); have n1_ := Aside0.mk (Kd.R_below (rz HO_4) hb); have n2_ := Aside0.mk (Kd.R_lower (Kd.R_new' ho0 (Kd.R_lt (rz HO_3))) (below_size bh)); have n3_ := Aside0.mk (below_step bh hb); clear HO_3 HO_4 HB; have HO_3 := n0_; have HO_4 := n1_; have HO376 := n2_; have HB := n3_; clear n0_ n1_ n2_ n3_; (try clear hb); (try clear hb2); (try clear hk); (try clear hi); (try clear ho0))))
         go_loopg [13] k1 (fun kq v13 w' => ∃ (x13_2 : Int), v13 = .int .i64 x13_2 ∧ Aside0 (laws_FnIdleLaws.l4 kq t352 t355 t373 t374 x13_2 = some r) ∧ Aside0 (kq ≤ k1) ∧ Aside0 (Kd.R k46 46 w' w.heap.size (fun k_ => some k_ ≠ (v375 : Value).ownBlock) (.slice Ao11 t352.length co11) t352) ∧ Aside0 (Kd.R (Kd.int .i64) 3 w' w.heap.size (fun _ => True) (.slice (some ad372) t355.length co14) t355) ∧ Aside0 (Kd.R k46 46 w' w.heap.size (fun k_ => some k_ ≠ ((.slice Ao11 t352.length co11) : Value).ownBlock) v375 t373) ∧ Aside0 (Below w.heap.size w w'))
         case atStart => exact ⟨(0), (by first | rfl | (simp; done) | (simp [*]; done)), H', ⟨Nat.le_refl _⟩, ⟨mR HO_3⟩, ⟨rz HO_4⟩, ⟨mR HO376⟩, ⟨by exact bh⟩⟩
         case round =>
          clear H'
          try clear c1
          try clear c2
          try clear c2b0
          try clear c2b1
          try clear p2
          try clear c3
          try clear p3
          try clear q3
          try clear hx3
          try clear qi3
          try clear c5
          try clear p6
          try clear c7
          try clear c9
          try clear c17
          try clear c17b0
          try clear c18
          try clear c18b0
          try clear c19
          try clear c20
          try clear c20b0
          try clear c20b1
          try clear c21
          try clear c21b0
          try clear c22
          try clear c22b0
          try clear c23
          try clear c23b0
          try clear c24
          try clear c24b0
          try clear c25
          try clear c25b0
          try clear c26
          try clear c31
          try clear c33
          try clear c34
          try clear c36
          try clear p36
          try clear q36
          try clear hx36
          try clear c37
          try clear c37b0
          try clear c37b1
          try clear p37
          try clear q37
          try clear hx37
          try clear qi37
          try clear c38
          try clear c38b0
          try clear c38b1
          try clear hx364_0
          try clear hx364_1
          try clear hx364_2
          try clear hx364_3
          try clear hx364_4
          try clear hx365_0
          try clear hx365_1
          try clear hx365_2
          try clear hx365_3
          try clear hx365_4
          try clear hx372_0
          try clear p2
          try clear p3
          try clear p364
          try clear p365
          try clear p372
          try clear p6
          try clear q3
          try clear q364
          try clear q365
          try clear q372
          obtain ⟨x13_2, rfl, HA, HK2, HO_3, HO_4, HO_11, HB⟩ := hrel
          cases gk with
          | zero => exact absurd HA.out (by simp [laws_FnIdleLaws.l4])
          | succ k2 =>
           have H := HA.out
           clear HA
           simp only [laws_FnIdleLaws.l4] at H
           by_cases c41 : x13_2 < 3
           ·rw [if_pos c41] at H
            have c41b0 : decide (x13_2 < 3) = true := decide_eq_true c41
            clear c41
            have H' := Aside0.mk H
            clear H
            go_wp2
            repeat (go_quiet (fail); try go_wp2)
            go_loopg [14] k2 (fun kq v14 w' => ∃ (x14_3 : Int), v14 = .int .i64 x14_3 ∧ Aside0 (laws_FnIdleLaws.l5 kq t352 t355 t373 t374 x13_2 x14_3 = some r) ∧ Aside0 (kq ≤ k2) ∧ Aside0 (Kd.R k46 46 w' w.heap.size (fun k_ => some k_ ≠ (v375 : Value).ownBlock) (.slice Ao11 t352.length co11) t352) ∧ Aside0 (Kd.R (Kd.int .i64) 3 w' w.heap.size (fun _ => True) (.slice (some ad372) t355.length co14) t355) ∧ Aside0 (Kd.R k46 46 w' w.heap.size (fun k_ => some k_ ≠ ((.slice Ao11 t352.length co11) : Value).ownBlock) v375 t373) ∧ Aside0 (Below w.heap.size w w'))
            case atStart => exact ⟨(0), (by first | rfl | (simp; done) | (simp [*]; done)), H', ⟨Nat.le_refl _⟩, ⟨rz HO_3⟩, ⟨rz HO_4⟩, ⟨rz HO_11⟩, ⟨by exact bh⟩⟩
            case round =>
             clear H'
             try clear c1
             try clear c2
             try clear c2b0
             try clear c2b1
             try clear p2
             try clear c3
             try clear p3
             try clear q3
             try clear hx3
             try clear qi3
             try clear c4
             try clear c5
             try clear p6
             try clear c7
             try clear c9
             try clear c17
             try clear c17b0
             try clear c18
             try clear c18b0
             try clear c19
             try clear c20
             try clear c20b0
             try clear c20b1
             try clear c21
             try clear c21b0
             try clear c22
             try clear c22b0
             try clear c23
             try clear c23b0
             try clear c24
             try clear c24b0
             try clear c25
             try clear c25b0
             try clear c26
             try clear c31
             try clear c33
             try clear c34
             try clear c36
             try clear p36
             try clear q36
             try clear hx36
             try clear c37
             try clear c37b0
             try clear c37b1
             try clear p37
             try clear q37
             try clear hx37
             try clear qi37
             try clear c38
             try clear c38b0
             try clear c38b1
             try clear c41
             try clear c41b0
             try clear hx364_0
             try clear hx364_1
             try clear hx364_2
             try clear hx364_3
             try clear hx364_4
             try clear hx365_0
             try clear hx365_1
             try clear hx365_2
             try clear hx365_3
             try clear hx365_4
             try clear hx372_0
             try clear p2
             try clear p3
             try clear p36
             try clear p364
             try clear p365
             try clear p37
             try clear p372
             try clear p6
             try clear q3
             try clear q36
             try clear q364
             try clear q365
             try clear q37
             try clear q372
             obtain ⟨x14_3, rfl, HA, HK3, HO_3, HO_4, HO_11, HB⟩ := hrel
             cases gk with
             | zero => exact absurd HA.out (by simp [laws_FnIdleLaws.l5])
             | succ k3 =>
              have H := HA.out
              clear HA
              simp only [laws_FnIdleLaws.l5] at H
              by_cases c42 : x14_3 < 8
              ·rw [if_pos c42] at H
               have c42b0 : decide (x14_3 < 8) = true := decide_eq_true c42
               clear c42
               by_cases c43 : t374 = true
               ·subst c43
                have H1 : ((impl_SaysOf.f k3 t373 x13_2 x14_3).bind fun t379 => ((impl_SaysOf.f k3 t352 x13_2 x14_3).bind fun t380 => (if t379 = t380 then (laws_FnIdleLaws.l5 k3 t352 t355 t373 true x13_2 (wrap64 (x14_3 + 1))) else (none)))) = some r := by rw [if_pos rfl] at H; exact H
                clear H
                have H := H1
                clear H1
                replace H := Option.bind_eq_some_iff.mp H
                obtain ⟨t379, A440, H⟩ := H
                replace H : ((impl_SaysOf.f k3 t352 x13_2 x14_3).bind fun t380 => (if t379 = t380 then (laws_FnIdleLaws.l5 k3 t352 t355 t373 true x13_2 (wrap64 (x14_3 + 1))) else (none))) = some r := H
                have A44 := Aside0.mk A440
                clear A440
                replace H := Option.bind_eq_some_iff.mp H
                obtain ⟨t380, A450, H⟩ := H
                replace H : (if t379 = t380 then (laws_FnIdleLaws.l5 k3 t352 t355 t373 true x13_2 (wrap64 (x14_3 + 1))) else (none)) = some r := H
                have A45 := Aside0.mk A450
                clear A450
                by_cases c46 : t379 = t380
                ·rw [if_pos c46] at H
                 have c46b0 : (t379 == t380) = true := beq_iff_eq.mpr c46
                 have c46b1 : (t379 != t380) = false := bne_eq_false_iff_eq.mpr c46
                 clear c46
                 have H' := Aside0.mk H
                 clear H
                 obtain ⟨Ao47, co47, eo47⟩ := Kd.R_slice HO_11.out
                 subst eo47
                 go_wp2_with (first | (go_at_call 13; (with_reducible refine (impl_SaysOf.calls k3 _ _ t373 x13_2 x14_3 t379 _ ?side1 ?side2 A44.out).mono ?_); (case side1 => repeat (first | exact (Kd.R_reads' HO_11.out).2.2 | (with_reducible refine Kd.C_alloc ?_ _) | (with_reducible refine Kd.C_drewN ?_ _) | (with_reducible refine Kd.C_drew ?_))); (case side2 => exact (Kd.R_reads' HO_11.out).2.1); rintro e w48 ⟨rfl, hb⟩; have n0_ := Aside0.mk (Kd.R_below (rz HO_3) hb); have n1_ := Aside0.mk (Kd.R_below (rz HO_4) hb); have n2_ := Aside0.mk (Kd.R_below (rz HO_11) hb); have n3_ := Aside0.mk (below_step bh hb); clear HO_3 HO_4 HO_11 HB; have HO_3 := n0_; have HO_4 := n1_; have HO_11 := n2_; have HB := n3_; clear n0_ n1_ n2_ n3_; (try clear hb); (try clear hb2); (try clear hk); (try clear hi)) | (go_at_call 13; (with_reducible refine (impl_SaysOf.calls k3 _ _ t352 x13_2 x14_3 t380 _ ?side1 ?side2 A45.out).mono ?_); (case side1 => repeat (first | exact (Kd.R_reads' HO_3.out).2.2 | (with_reducible refine Kd.C_alloc ?_ _) | (with_reducible refine Kd.C_drewN ?_ _) | (with_reducible refine Kd.C_drew ?_))); (case side2 => exact (Kd.R_reads' HO_3.out).2.1); rintro e w49 ⟨rfl, hb⟩; have n0_ := Aside0.mk (Kd.R_below (rz HO_3) hb); have n1_ := Aside0.mk (Kd.R_below (rz HO_4) hb); have n2_ := Aside0.mk (Kd.R_below (rz HO_11) hb); have n3_ := Aside0.mk (below_step bh hb); clear HO_3 HO_4 HO_11 HB; have HO_3 := n0_; have HO_4 := n1_; have HO_11 := n2_; have HB := n3_; clear n0_ n1_ n2_ n3_; (try clear hb); (try clear hb2); (try clear hk); (try clear hi)))
                 repeat (go_quiet (first | (go_at_call 13; (with_reducible refine (impl_SaysOf.calls k3 _ _ t373 x13_2 x14_3 t379 _ ?side1 ?side2 A44.out).mono ?_); (case side1 => repeat (first | exact (Kd.R_reads' HO_11.out).2.2 | (with_reducible refine Kd.C_alloc ?_ _) | (with_reducible refine Kd.C_drewN ?_ _) | (with_reducible refine Kd.C_drew ?_))); (case side2 => exact (Kd.R_reads' HO_11.out).2.1); rintro e w48 ⟨rfl, hb⟩; have n0_ := Aside0.mk (Kd.R_below (rz HO_3) hb); have n1_ := Aside0.mk (Kd.R_below (rz HO_4) hb); have n2_ := Aside0.mk (Kd.R_below (rz HO_11) hb); have n3_ := Aside0.mk (below_step bh hb); clear HO_3 HO_4 HO_11 HB; have HO_3 := n0_; have HO_4 := n1_; have HO_11 := n2_; have HB := n3_; clear n0_ n1_ n2_ n3_; (try clear hb); (try clear hb2); (try clear hk); (try clear hi)) | (go_at_call 13; (with_reducible refine (impl_SaysOf.calls k3 _ _ t352 x13_2 x14_3 t380 _ ?side1 ?side2 A45.out).mono ?_); (case side1 => repeat (first | exact (Kd.R_reads' HO_3.out).2.2 | (with_reducible refine Kd.C_alloc ?_ _) | (with_reducible refine Kd.C_drewN ?_ _) | (with_reducible refine Kd.C_drew ?_))); (case side2 => exact (Kd.R_reads' HO_3.out).2.1); rintro e w49 ⟨rfl, hb⟩; have n0_ := Aside0.mk (Kd.R_below (rz HO_3) hb); have n1_ := Aside0.mk (Kd.R_below (rz HO_4) hb); have n2_ := Aside0.mk (Kd.R_below (rz HO_11) hb); have n3_ := Aside0.mk (below_step bh hb); clear HO_3 HO_4 HO_11 HB; have HO_3 := n0_; have HO_4 := n1_; have HO_11 := n2_; have HB := n3_; clear n0_ n1_ n2_ n3_; (try clear hb); (try clear hb2); (try clear hk); (try clear hi))); try go_wp2_with (first | (go_at_call 13; (with_reducible refine (impl_SaysOf.calls k3 _ _ t373 x13_2 x14_3 t379 _ ?side1 ?side2 A44.out).mono ?_); (case side1 => repeat (first | exact (Kd.R_reads' HO_11.out).2.2 | (with_reducible refine Kd.C_alloc ?_ _) | (with_reducible refine Kd.C_drewN ?_ _) | (with_reducible refine Kd.C_drew ?_))); (case side2 => exact (Kd.R_reads' HO_11.out).2.1); rintro e w48 ⟨rfl, hb⟩; have n0_ := Aside0.mk (Kd.R_below (rz HO_3) hb); have n1_ := Aside0.mk (Kd.R_below (rz HO_4) hb); have n2_ := Aside0.mk (Kd.R_below (rz HO_11) hb); have n3_ := Aside0.mk (below_step bh hb); clear HO_3 HO_4 HO_11 HB; have HO_3 := n0_; have HO_4 := n1_; have HO_11 := n2_; have HB := n3_; clear n0_ n1_ n2_ n3_; (try clear hb); (try clear hb2); (try clear hk); (try clear hi)) | (go_at_call 13; (with_reducible refine (impl_SaysOf.calls k3 _ _ t352 x13_2 x14_3 t380 _ ?side1 ?side2 A45.out).mono ?_); (case side1 => repeat (first | exact (Kd.R_reads' HO_3.out).2.2 | (with_reducible refine Kd.C_alloc ?_ _) | (with_reducible refine Kd.C_drewN ?_ _) | (with_reducible refine Kd.C_drew ?_))); (case side2 => exact (Kd.R_reads' HO_3.out).2.1); rintro e w49 ⟨rfl, hb⟩; have n0_ := Aside0.mk (Kd.R_below (rz HO_3) hb); have n1_ := Aside0.mk (Kd.R_below (rz HO_4) hb); have n2_ := Aside0.mk (Kd.R_below (rz HO_11) hb); have n3_ := Aside0.mk (below_step bh hb); clear HO_3 HO_4 HO_11 HB; have HO_3 := n0_; have HO_4 := n1_; have HO_11 := n2_; have HB := n3_; clear n0_ n1_ n2_ n3_; (try clear hb); (try clear hb2); (try clear hk); (try clear hi))))
                 go_roundg k3
                 case measure => have := HK1.out; have := HK2.out; have := HK3.out; omega
                 case rel => exact ⟨(wrap64 (x14_3 + 1)), (by first | rfl | (simp; done) | (simp [*]; done)), H', ⟨by have := HK1.out; have := HK2.out; have := HK3.out; omega⟩, ⟨rz HO_3⟩, ⟨rz HO_4⟩, ⟨rz HO_11⟩, ⟨by exact bh⟩⟩
                ·rw [if_neg c46] at H
                 exact absurd H (by simp)
               ·replace c43 := Bool.eq_false_iff.mpr c43
                subst c43
                have H1 : (none) = some r := by rw [if_neg (show ¬ (false = true) by decide)] at H; exact H
                clear H
                have H := H1
                clear H1
                exact absurd H (by simp)
              ·rw [if_neg c42] at H
               have c42b0 : decide (x14_3 < 8) = false := decide_eq_false c42
               clear c42
               have H' := Aside0.mk H
               clear H
               go_wp2
               repeat (go_quiet (fail); try go_wp2)
               go_roundg k3
               case measure => have := HK1.out; have := HK2.out; have := HK3.out; omega
               case rel => exact ⟨(wrap64 (x13_2 + 1)), (by first | rfl | (simp; done) | (simp [*]; done)), H', ⟨by have := HK1.out; have := HK2.out; have := HK3.out; omega⟩, ⟨rz HO_3⟩, ⟨rz HO_4⟩, ⟨rz HO_11⟩, ⟨by exact bh⟩⟩
           ·rw [if_neg c41] at H
            have c41b0 : decide (x13_2 < 3) = false := decide_eq_false c41
            clear c41
            replace H := Option.bind_eq_some_iff.mp H
            obtain ⟨t377, A500, H⟩ := H
            replace H : (if t377 = true then ((laws_alive.f).bind fun t378 => (some t378)) else (none)) = some r := H
            have A50 := Aside0.mk A500
            clear A500
            by_cases c51 : t377 = true
            ·subst c51
             have H1 : ((laws_alive.f).bind fun t378 => (some t378)) = some r := by rw [if_pos rfl] at H; exact H
             clear H
             have H := H1
             clear H1
             replace H := Option.bind_eq_some_iff.mp H
             obtain ⟨t378, A520, H⟩ := H
             replace H : (some t378) = some r := H
             have A52 := Aside0.mk A520
             clear A520
             obtain rfl := Option.some.inj H
             go_wp2_with (first | (go_at_call 26; (with_reducible refine (laws_ascend.calls k2 _ _ t355 true _ ?side1 ?side2 A50.out).mono ?_); (case side1 => repeat (first | exact (Kd.R_reads' HO_4.out).2.2 | (with_reducible refine Kd.C_alloc ?_ _) | (with_reducible refine Kd.C_drewN ?_ _) | (with_reducible refine Kd.C_drew ?_))); (case side2 => exact (Kd.R_reads' HO_4.out).2.1); rintro e w' ⟨rfl, ⟨nd, rfl⟩⟩; (try first | exact ⟨rfl, _, World.drewN_drewN _ _ _⟩ | exact ⟨rfl, _, Eq.trans (World.drewN_drewN _ _ _) (congrArg (World.drewN _) (Nat.add_assoc _ _ _))⟩)) | (go_at_call 10; (with_reducible refine (laws_alive.calls  t378 _ A52.out).mono ?_); rintro e w' ⟨rfl, ⟨nd, rfl⟩⟩; (try first | exact ⟨rfl, _, World.drewN_drewN _ _ _⟩ | exact ⟨rfl, _, Eq.trans (World.drewN_drewN _ _ _) (congrArg (World.drewN _) (Nat.add_assoc _ _ _))⟩)))
             repeat (go_quiet (first | (go_at_call 26; (with_reducible refine (laws_ascend.calls k2 _ _ t355 true _ ?side1 ?side2 A50.out).mono ?_); (case side1 => repeat (first | exact (Kd.R_reads' HO_4.out).2.2 | (with_reducible refine Kd.C_alloc ?_ _) | (with_reducible refine Kd.C_drewN ?_ _) | (with_reducible refine Kd.C_drew ?_))); (case side2 => exact (Kd.R_reads' HO_4.out).2.1); rintro e w' ⟨rfl, ⟨nd, rfl⟩⟩; (try first | exact ⟨rfl, _, World.drewN_drewN _ _ _⟩ | exact ⟨rfl, _, Eq.trans (World.drewN_drewN _ _ _) (congrArg (World.drewN _) (Nat.add_assoc _ _ _))⟩)) | (go_at_call 10; (with_reducible refine (laws_alive.calls  t378 _ A52.out).mono ?_); rintro e w' ⟨rfl, ⟨nd, rfl⟩⟩; (try first | exact ⟨rfl, _, World.drewN_drewN _ _ _⟩ | exact ⟨rfl, _, Eq.trans (World.drewN_drewN _ _ _) (congrArg (World.drewN _) (Nat.add_assoc _ _ _))⟩))); try go_wp2_with (first | (go_at_call 26; (with_reducible refine (laws_ascend.calls k2 _ _ t355 true _ ?side1 ?side2 A50.out).mono ?_); (case side1 => repeat (first | exact (Kd.R_reads' HO_4.out).2.2 | (with_reducible refine Kd.C_alloc ?_ _) | (with_reducible refine Kd.C_drewN ?_ _) | (with_reducible refine Kd.C_drew ?_))); (case side2 => exact (Kd.R_reads' HO_4.out).2.1); rintro e w' ⟨rfl, ⟨nd, rfl⟩⟩; (try first | exact ⟨rfl, _, World.drewN_drewN _ _ _⟩ | exact ⟨rfl, _, Eq.trans (World.drewN_drewN _ _ _) (congrArg (World.drewN _) (Nat.add_assoc _ _ _))⟩)) | (go_at_call 10; (with_reducible refine (laws_alive.calls  t378 _ A52.out).mono ?_); rintro e w' ⟨rfl, ⟨nd, rfl⟩⟩; (try first | exact ⟨rfl, _, World.drewN_drewN _ _ _⟩ | exact ⟨rfl, _, Eq.trans (World.drewN_drewN _ _ _) (congrArg (World.drewN _) (Nat.add_assoc _ _ _))⟩))))
             go_ret
             exact ⟨by first | rfl | (simp [errW_none, errW_some] <;> rfl) | (simp [*, errW_none, errW_some] <;> rfl), by exact bh⟩
            ·replace c51 := Bool.eq_false_iff.mpr c51
             subst c51
             have H1 : (none) = some r := by rw [if_neg (show ¬ (false = true) by decide)] at H; exact H
             clear H
             have H := H1
             clear H1
             exact absurd H (by simp)
        ·rw [if_neg c38] at H
         exact absurd H (by simp)
       ·rw [if_neg c37] at H
        have c37b0 : decide (0 < (t355.length : Int)) = false := decide_eq_false c37
        have c37b1 : decide (0 < t355.length) = false := decide_eq_false (by omega)
        clear c37
        replace H := Option.bind_eq_some_iff.mp H
        obtain ⟨t381, A530, H⟩ := H
        replace H : (if t381 = true then ((laws_alive.f).bind fun t382 => (some t382)) else (none)) = some r := H
        have A53 := Aside0.mk A530
        clear A530
        by_cases c54 : t381 = true
        ·subst c54
         have H1 : ((laws_alive.f).bind fun t382 => (some t382)) = some r := by rw [if_pos rfl] at H; exact H
         clear H
         have H := H1
         clear H1
         replace H := Option.bind_eq_some_iff.mp H
         obtain ⟨t382, A550, H⟩ := H
         replace H : (some t382) = some r := H
         have A55 := Aside0.mk A550
         clear A550
         obtain rfl := Option.some.inj H
         go_wp2_with (first | (go_at_call 26; (with_reducible refine (laws_ascend.calls k1 _ _ t355 true _ ?side1 ?side2 A53.out).mono ?_); (case side1 => repeat (first | exact (Kd.R_reads' HO_4.out).2.2 | (with_reducible refine Kd.C_alloc ?_ _) | (with_reducible refine Kd.C_drewN ?_ _) | (with_reducible refine Kd.C_drew ?_))); (case side2 => exact (Kd.R_reads' HO_4.out).2.1); rintro e w' ⟨rfl, ⟨nd, rfl⟩⟩; (try first | exact ⟨rfl, _, World.drewN_drewN _ _ _⟩ | exact ⟨rfl, _, Eq.trans (World.drewN_drewN _ _ _) (congrArg (World.drewN _) (Nat.add_assoc _ _ _))⟩)) | (go_at_call 10; (with_reducible refine (laws_alive.calls  t382 _ A55.out).mono ?_); rintro e w' ⟨rfl, ⟨nd, rfl⟩⟩; (try first | exact ⟨rfl, _, World.drewN_drewN _ _ _⟩ | exact ⟨rfl, _, Eq.trans (World.drewN_drewN _ _ _) (congrArg (World.drewN _) (Nat.add_assoc _ _ _))⟩)))
         repeat (go_quiet (first | (go_at_call 26; (with_reducible refine (laws_ascend.calls k1 _ _ t355 true _ ?side1 ?side2 A53.out).mono ?_); (case side1 => repeat (first | exact (Kd.R_reads' HO_4.out).2.2 | (with_reducible refine Kd.C_alloc ?_ _) | (with_reducible refine Kd.C_drewN ?_ _) | (with_reducible refine Kd.C_drew ?_))); (case side2 => exact (Kd.R_reads' HO_4.out).2.1); rintro e w' ⟨rfl, ⟨nd, rfl⟩⟩; (try first | exact ⟨rfl, _, World.drewN_drewN _ _ _⟩ | exact ⟨rfl, _, Eq.trans (World.drewN_drewN _ _ _) (congrArg (World.drewN _) (Nat.add_assoc _ _ _))⟩)) | (go_at_call 10; (with_reducible refine (laws_alive.calls  t382 _ A55.out).mono ?_); rintro e w' ⟨rfl, ⟨nd, rfl⟩⟩; (try first | exact ⟨rfl, _, World.drewN_drewN _ _ _⟩ | exact ⟨rfl, _, Eq.trans (World.drewN_drewN _ _ _) (congrArg (World.drewN _) (Nat.add_assoc _ _ _))⟩))); try go_wp2_with (first | (go_at_call 26; (with_reducible refine (laws_ascend.calls k1 _ _ t355 true _ ?side1 ?side2 A53.out).mono ?_); (case side1 => repeat (first | exact (Kd.R_reads' HO_4.out).2.2 | (with_reducible refine Kd.C_alloc ?_ _) | (with_reducible refine Kd.C_drewN ?_ _) | (with_reducible refine Kd.C_drew ?_))); (case side2 => exact (Kd.R_reads' HO_4.out).2.1); rintro e w' ⟨rfl, ⟨nd, rfl⟩⟩; (try first | exact ⟨rfl, _, World.drewN_drewN _ _ _⟩ | exact ⟨rfl, _, Eq.trans (World.drewN_drewN _ _ _) (congrArg (World.drewN _) (Nat.add_assoc _ _ _))⟩)) | (go_at_call 10; (with_reducible refine (laws_alive.calls  t382 _ A55.out).mono ?_); rintro e w' ⟨rfl, ⟨nd, rfl⟩⟩; (try first | exact ⟨rfl, _, World.drewN_drewN _ _ _⟩ | exact ⟨rfl, _, Eq.trans (World.drewN_drewN _ _ _) (congrArg (World.drewN _) (Nat.add_assoc _ _ _))⟩))))
         go_ret
         exact ⟨by first | rfl | (simp [errW_none, errW_some] <;> rfl) | (simp [*, errW_none, errW_some] <;> rfl), by exact bh⟩
        ·replace c54 := Bool.eq_false_iff.mpr c54
         subst c54
         have H1 : (none) = some r := by rw [if_neg (show ¬ (false = true) by decide)] at H; exact H
         clear H
         have H := H1
         clear H1
         exact absurd H (by simp)
   ·replace c9 := Bool.eq_false_iff.mpr c9
    subst c9
    have H1 : (if (t355.length : Int) = 0 then ((laws_alive.f).bind fun t363 => (some t363)) else (none)) = some r := by rw [if_neg (show ¬ (false = true) by decide)] at H; exact H
    clear H
    have H := H1
    clear H1
    by_cases c56 : (t355.length : Int) = 0
    ·rw [if_pos c56] at H
     have c56b0 : ((t355.length : Int) == 0) = true := beq_iff_eq.mpr c56
     have c56b1 : ((t355.length : Int) != 0) = false := bne_eq_false_iff_eq.mpr c56
     clear c56
     replace H := Option.bind_eq_some_iff.mp H
     obtain ⟨t363, A570, H⟩ := H
     replace H : (some t363) = some r := H
     have A57 := Aside0.mk A570
     clear A570
     obtain rfl := Option.some.inj H
     go_enter Try.func5, Try.ntmps5
     go_wp2_with (first | (go_at_call 23; (with_reducible refine (spec_DrawIdleLaws.calls k _ _ l0 t352 _ ?side1 ?side2 A3.out).mono ?_); (case side1 => repeat (first | exact HR0.out | (with_reducible refine Kd.C_alloc ?_ _) | (with_reducible refine Kd.C_drewN ?_ _) | (with_reducible refine Kd.C_drew ?_))); (case side2 => exact HC0.out); rintro e w58 ⟨v353, rfl, ho0, hb⟩; have n0_ := Aside0.mk (Kd.R_lower ho0 (below_size bh)); have n1_ := Aside0.mk (below_step bh hb); clear HB; have HO354 := n0_; have HB := n1_; clear n0_ n1_; (try clear hb); (try clear hb2); (try clear hk); (try clear hi); (try clear ho0); obtain ⟨Ao59, co59, eo59⟩ := Kd.R_slice HO354.out; subst eo59) | (go_at_call 17; (with_reducible refine (impl_IdleLaws.calls k _ _ t352 t355 _ ?side1 ?side2 A4.out).mono ?_); (case side1 => repeat (first | exact (Kd.R_reads' HO354.out).2.2 | (with_reducible refine Kd.C_alloc ?_ _) | (with_reducible refine Kd.C_drewN ?_ _) | (with_reducible refine Kd.C_drew ?_))); (case side2 => exact (Kd.R_reads' HO354.out).2.1); rintro e w60 ⟨v356, rfl, ho0, hb⟩; have n0_ := Aside0.mk (Kd.R_below (rz HO354) hb); have n1_ := Aside0.mk (Kd.R_lower ho0 (below_size bh)); have n2_ := Aside0.mk (below_step bh hb); clear HO354 HB; have HO354 := n0_; have HO357 := n1_; have HB := n2_; clear n0_ n1_ n2_; (try clear hb); (try clear hb2); (try clear hk); (try clear hi); (try clear ho0)) | (go_at_call 15; (with_reducible refine (spec_IdleLaws.calls k _ _ t352 t358 _ ?side1 ?side2 A5.out).mono ?_); (case side1 => repeat (first | exact (Kd.R_reads' HO354.out).2.2 | (with_reducible refine Kd.C_alloc ?_ _) | (with_reducible refine Kd.C_drewN ?_ _) | (with_reducible refine Kd.C_drew ?_))); (case side2 => exact (Kd.R_reads' HO354.out).2.1); rintro e w61 ⟨v359, rfl, ho0, hb⟩; have n0_ := Aside0.mk (Kd.R_below (rz HO354) hb); have n1_ := Aside0.mk (Kd.R_elder' (rz HO357) (Kd.R_base ho0) hb); have n2_ := Aside0.mk (Kd.R_lower (Kd.R_new' ho0 (Kd.R_lt (rz HO357))) (below_size bh)); have n3_ := Aside0.mk (below_step bh hb); clear HO354 HO357 HB; have HO354 := n0_; have HO357 := n1_; have HO360 := n2_; have HB := n3_; clear n0_ n1_ n2_ n3_; (try clear hb); (try clear hb2); (try clear hk); (try clear hi); (try clear ho0); obtain ⟨Ao62, co62, eo62⟩ := Kd.R_slice HO357.out; subst eo62; obtain ⟨Ao63, co63, eo63⟩ := Kd.R_slice HO360.out; subst eo63) | (go_at_call 24; (with_reducible refine (laws_sameInts.calls k _ _ t355 _ _ t358 true _ ?side1 ?side2 ?side3 ?side4 A6.out).mono ?_); (case side1 => repeat (first | exact (Kd.R_reads' HO357.out).2.2 | (with_reducible refine Kd.C_alloc ?_ _) | (with_reducible refine Kd.C_drewN ?_ _) | (with_reducible refine Kd.C_drew ?_))); (case side2 => exact (Kd.R_reads' HO357.out).2.1); (case side3 => repeat (first | exact (Kd.R_reads' HO360.out).2.2 | (with_reducible refine Kd.C_alloc ?_ _) | (with_reducible refine Kd.C_drewN ?_ _) | (with_reducible refine Kd.C_drew ?_))); (case side4 => exact (Kd.R_reads' HO360.out).2.1); rintro e w' ⟨rfl, ⟨nd, rfl⟩⟩; (try first | exact ⟨rfl, _, World.drewN_drewN _ _ _⟩ | exact ⟨rfl, _, Eq.trans (World.drewN_drewN _ _ _) (congrArg (World.drewN _) (Nat.add_assoc _ _ _))⟩)) | (go_at_call 25; (with_reducible refine (spec_BookOk.calls k _ _ t352 false _ ?side1 ?side2 A8.out).mono ?_); (case side1 => repeat (first | exact (Kd.R_reads' HO354.out).2.2 | (with_reducible refine Kd.C_alloc ?_ _) | (with_reducible refine Kd.C_drewN ?_ _) | (with_reducible refine Kd.C_drew ?_))); (case side2 => exact (Kd.R_reads' HO354.out).2.1); rintro e w64 ⟨rfl, hb⟩; have n0_ := Aside0.mk (Kd.R_below (rz HO354) hb); have n1_ := Aside0.mk (Kd.R_below (rz HO357) hb); have n2_ := Aside0.mk (Kd.R_below (rz HO360) hb); have n3_ := Aside0.mk (below_step bh hb); clear HO354 HO357 HO360 HB; have HO354 := n0_; have HO357 := n1_; have HO360 := n2_; have HB := n3_; clear n0_ n1_ n2_ n3_; (try clear hb); (try clear hb2); (try clear hk); (try clear hi)) | (go_at_call 10; (with_reducible refine (laws_alive.calls  t363 _ A57.out).mono ?_); rintro e w' ⟨rfl, ⟨nd, rfl⟩⟩; (try first | exact ⟨rfl, _, World.drewN_drewN _ _ _⟩ | exact ⟨rfl, _, Eq.trans (World.drewN_drewN _ _ _) (congrArg (World.drewN _) (Nat.add_assoc _ _ _))⟩)))
     repeat (go_quiet (first | (go_at_call 23; (with_reducible refine (spec_DrawIdleLaws.calls k _ _ l0 t352 _ ?side1 ?side2 A3.out).mono ?_); (case side1 => repeat (first | exact HR0.out | (with_reducible refine Kd.C_alloc ?_ _) | (with_reducible refine Kd.C_drewN ?_ _) | (with_reducible refine Kd.C_drew ?_))); (case side2 => exact HC0.out); rintro e w58 ⟨v353, rfl, ho0, hb⟩; have n0_ := Aside0.mk (Kd.R_lower ho0 (below_size bh)); have n1_ := Aside0.mk (below_step bh hb); clear HB; have HO354 := n0_; have HB := n1_; clear n0_ n1_; (try clear hb); (try clear hb2); (try clear hk); (try clear hi); (try clear ho0); obtain ⟨Ao59, co59, eo59⟩ := Kd.R_slice HO354.out; subst eo59) | (go_at_call 17; (with_reducible refine (impl_IdleLaws.calls k _ _ t352 t355 _ ?side1 ?side2 A4.out).mono ?_); (case side1 => repeat (first | exact (Kd.R_reads' HO354.out).2.2 | (with_reducible refine Kd.C_alloc ?_ _) | (with_reducible refine Kd.C_drewN ?_ _) | (with_reducible refine Kd.C_drew ?_))); (case side2 => exact (Kd.R_reads' HO354.out).2.1); rintro e w60 ⟨v356, rfl, ho0, hb⟩; have n0_ := Aside0.mk (Kd.R_below (rz HO354) hb); have n1_ := Aside0.mk (Kd.R_lower ho0 (below_size bh)); have n2_ := Aside0.mk (below_step bh hb); clear HO354 HB; have HO354 := n0_; have HO357 := n1_; have HB := n2_; clear n0_ n1_ n2_; (try clear hb); (try clear hb2); (try clear hk); (try clear hi); (try clear ho0)) | (go_at_call 15; (with_reducible refine (spec_IdleLaws.calls k _ _ t352 t358 _ ?side1 ?side2 A5.out).mono ?_); (case side1 => repeat (first | exact (Kd.R_reads' HO354.out).2.2 | (with_reducible refine Kd.C_alloc ?_ _) | (with_reducible refine Kd.C_drewN ?_ _) | (with_reducible refine Kd.C_drew ?_))); (case side2 => exact (Kd.R_reads' HO354.out).2.1); rintro e w61 ⟨v359, rfl, ho0, hb⟩; have n0_ := Aside0.mk (Kd.R_below (rz HO354) hb); have n1_ := Aside0.mk (Kd.R_elder' (rz HO357) (Kd.R_base ho0) hb); have n2_ := Aside0.mk (Kd.R_lower (Kd.R_new' ho0 (Kd.R_lt (rz HO357))) (below_size bh)); have n3_ := Aside0.mk (below_step bh hb); clear HO354 HO357 HB; have HO354 := n0_; have HO357 := n1_; have HO360 := n2_; have HB := n3_; clear n0_ n1_ n2_ n3_; (try clear hb); (try clear hb2); (try clear hk); (try clear hi); (try clear ho0); obtain ⟨Ao62, co62, eo62⟩ := Kd.R_slice HO357.out; subst eo62; obtain ⟨Ao63, co63, eo63⟩ := Kd.R_slice HO360.out; subst eo63) | (go_at_call 24; (with_reducible refine (laws_sameInts.calls k _ _ t355 _ _ t358 true _ ?side1 ?side2 ?side3 ?side4 A6.out).mono ?_); (case side1 => repeat (first | exact (Kd.R_reads' HO357.out).2.2 | (with_reducible refine Kd.C_alloc ?_ _) | (with_reducible refine Kd.C_drewN ?_ _) | (with_reducible refine Kd.C_drew ?_))); (case side2 => exact (Kd.R_reads' HO357.out).2.1); (case side3 => repeat (first | exact (Kd.R_reads' HO360.out).2.2 | (with_reducible refine Kd.C_alloc ?_ _) | (with_reducible refine Kd.C_drewN ?_ _) | (with_reducible refine Kd.C_drew ?_))); (case side4 => exact (Kd.R_reads' HO360.out).2.1); rintro e w' ⟨rfl, ⟨nd, rfl⟩⟩; (try first | exact ⟨rfl, _, World.drewN_drewN _ _ _⟩ | exact ⟨rfl, _, Eq.trans (World.drewN_drewN _ _ _) (congrArg (World.drewN _) (Nat.add_assoc _ _ _))⟩)) | (go_at_call 25; (with_reducible refine (spec_BookOk.calls k _ _ t352 false _ ?side1 ?side2 A8.out).mono ?_); (case side1 => repeat (first | exact (Kd.R_reads' HO354.out).2.2 | (with_reducible refine Kd.C_alloc ?_ _) | (with_reducible refine Kd.C_drewN ?_ _) | (with_reducible refine Kd.C_drew ?_))); (case side2 => exact (Kd.R_reads' HO354.out).2.1); rintro e w64 ⟨rfl, hb⟩; have n0_ := Aside0.mk (Kd.R_below (rz HO354) hb); have n1_ := Aside0.mk (Kd.R_below (rz HO357) hb); have n2_ := Aside0.mk (Kd.R_below (rz HO360) hb); have n3_ := Aside0.mk (below_step bh hb); clear HO354 HO357 HO360 HB; have HO354 := n0_; have HO357 := n1_; have HO360 := n2_; have HB := n3_; clear n0_ n1_ n2_ n3_; (try clear hb); (try clear hb2); (try clear hk); (try clear hi)) | (go_at_call 10; (with_reducible refine (laws_alive.calls  t363 _ A57.out).mono ?_); rintro e w' ⟨rfl, ⟨nd, rfl⟩⟩; (try first | exact ⟨rfl, _, World.drewN_drewN _ _ _⟩ | exact ⟨rfl, _, Eq.trans (World.drewN_drewN _ _ _) (congrArg (World.drewN _) (Nat.add_assoc _ _ _))⟩))); try go_wp2_with (first | (go_at_call 23; (with_reducible refine (spec_DrawIdleLaws.calls k _ _ l0 t352 _ ?side1 ?side2 A3.out).mono ?_); (case side1 => repeat (first | exact HR0.out | (with_reducible refine Kd.C_alloc ?_ _) | (with_reducible refine Kd.C_drewN ?_ _) | (with_reducible refine Kd.C_drew ?_))); (case side2 => exact HC0.out); rintro e w58 ⟨v353, rfl, ho0, hb⟩; have n0_ := Aside0.mk (Kd.R_lower ho0 (below_size bh)); have n1_ := Aside0.mk (below_step bh hb); clear HB; have HO354 := n0_; have HB := n1_; clear n0_ n1_; (try clear hb); (try clear hb2); (try clear hk); (try clear hi); (try clear ho0); obtain ⟨Ao59, co59, eo59⟩ := Kd.R_slice HO354.out; subst eo59) | (go_at_call 17; (with_reducible refine (impl_IdleLaws.calls k _ _ t352 t355 _ ?side1 ?side2 A4.out).mono ?_); (case side1 => repeat (first | exact (Kd.R_reads' HO354.out).2.2 | (with_reducible refine Kd.C_alloc ?_ _) | (with_reducible refine Kd.C_drewN ?_ _) | (with_reducible refine Kd.C_drew ?_))); (case side2 => exact (Kd.R_reads' HO354.out).2.1); rintro e w60 ⟨v356, rfl, ho0, hb⟩; have n0_ := Aside0.mk (Kd.R_below (rz HO354) hb); have n1_ := Aside0.mk (Kd.R_lower ho0 (below_size bh)); have n2_ := Aside0.mk (below_step bh hb); clear HO354 HB; have HO354 := n0_; have HO357 := n1_; have HB := n2_; clear n0_ n1_ n2_; (try clear hb); (try clear hb2); (try clear hk); (try clear hi); (try clear ho0)) | (go_at_call 15; (with_reducible refine (spec_IdleLaws.calls k _ _ t352 t358 _ ?side1 ?side2 A5.out).mono ?_); (case side1 => repeat (first | exact (Kd.R_reads' HO354.out).2.2 | (with_reducible refine Kd.C_alloc ?_ _) | (with_reducible refine Kd.C_drewN ?_ _) | (with_reducible refine Kd.C_drew ?_))); (case side2 => exact (Kd.R_reads' HO354.out).2.1); rintro e w61 ⟨v359, rfl, ho0, hb⟩; have n0_ := Aside0.mk (Kd.R_below (rz HO354) hb); have n1_ := Aside0.mk (Kd.R_elder' (rz HO357) (Kd.R_base ho0) hb); have n2_ := Aside0.mk (Kd.R_lower (Kd.R_new' ho0 (Kd.R_lt (rz HO357))) (below_size bh)); have n3_ := Aside0.mk (below_step bh hb); clear HO354 HO357 HB; have HO354 := n0_; have HO357 := n1_; have HO360 := n2_; have HB := n3_; clear n0_ n1_ n2_ n3_; (try clear hb); (try clear hb2); (try clear hk); (try clear hi); (try clear ho0); obtain ⟨Ao62, co62, eo62⟩ := Kd.R_slice HO357.out; subst eo62; obtain ⟨Ao63, co63, eo63⟩ := Kd.R_slice HO360.out; subst eo63) | (go_at_call 24; (with_reducible refine (laws_sameInts.calls k _ _ t355 _ _ t358 true _ ?side1 ?side2 ?side3 ?side4 A6.out).mono ?_); (case side1 => repeat (first | exact (Kd.R_reads' HO357.out).2.2 | (with_reducible refine Kd.C_alloc ?_ _) | (with_reducible refine Kd.C_drewN ?_ _) | (with_reducible refine Kd.C_drew ?_))); (case side2 => exact (Kd.R_reads' HO357.out).2.1); (case side3 => repeat (first | exact (Kd.R_reads' HO360.out).2.2 | (with_reducible refine Kd.C_alloc ?_ _) | (with_reducible refine Kd.C_drewN ?_ _) | (with_reducible refine Kd.C_drew ?_))); (case side4 => exact (Kd.R_reads' HO360.out).2.1); rintro e w' ⟨rfl, ⟨nd, rfl⟩⟩; (try first | exact ⟨rfl, _, World.drewN_drewN _ _ _⟩ | exact ⟨rfl, _, Eq.trans (World.drewN_drewN _ _ _) (congrArg (World.drewN _) (Nat.add_assoc _ _ _))⟩)) | (go_at_call 25; (with_reducible refine (spec_BookOk.calls k _ _ t352 false _ ?side1 ?side2 A8.out).mono ?_); (case side1 => repeat (first | exact (Kd.R_reads' HO354.out).2.2 | (with_reducible refine Kd.C_alloc ?_ _) | (with_reducible refine Kd.C_drewN ?_ _) | (with_reducible refine Kd.C_drew ?_))); (case side2 => exact (Kd.R_reads' HO354.out).2.1); rintro e w64 ⟨rfl, hb⟩; have n0_ := Aside0.mk (Kd.R_below (rz HO354) hb); have n1_ := Aside0.mk (Kd.R_below (rz HO357) hb); have n2_ := Aside0.mk (Kd.R_below (rz HO360) hb); have n3_ := Aside0.mk (below_step bh hb); clear HO354 HO357 HO360 HB; have HO354 := n0_; have HO357 := n1_; have HO360 := n2_; have HB := n3_; clear n0_ n1_ n2_ n3_; (try clear hb); (try clear hb2); (try clear hk); (try clear hi)) | (go_at_call 10; (with_reducible refine (laws_alive.calls  t363 _ A57.out).mono ?_); rintro e w' ⟨rfl, ⟨nd, rfl⟩⟩; (try first | exact ⟨rfl, _, World.drewN_drewN _ _ _⟩ | exact ⟨rfl, _, Eq.trans (World.drewN_drewN _ _ _) (congrArg (World.drewN _) (Nat.add_assoc _ _ _))⟩))))
     go_ret
     exact ⟨by first | rfl | (simp [errW_none, errW_some] <;> rfl) | (simp [*, errW_none, errW_some] <;> rfl), by exact bh⟩
    ·rw [if_neg c56] at H
     exact absurd H (by simp)
  ·replace c7 := Bool.eq_false_iff.mpr c7
   subst c7
   have H1 : (none) = some r := by rw [if_neg (show ¬ (false = true) by decide)] at H; exact H
   clear H
   have H := H1
   clear H1
   exact absurd H (by simp)

/-- THE ONE PURE STATEMENT of laws_FnIdleLaws: yours. -/
def laws_FnIdleLaws.Pure : Prop := ∀ (l0 : List Int), l0.length ≤ maxLen → l0.length * 1 ≤ 140737488351232 → (∀ x ∈ l0, (Lit.int .u8 x).wf = true) → ∃ k, laws_FnIdleLaws.f k l0 = some true
theorem laws_FnIdleLaws.walk (P : laws_FnIdleLaws.Pure) (a0 : Option Addr) (len0 cap0 : Nat) (z0 : List Int) (w : World) (w0 : (a0 = none ∧ len0 = 0 ∧ cap0 = 0 ∧ z0 = []) ∨ ∃ x, a0 = some x ∧ len0 ≤ cap0 ∧ cap0 ≤ maxLen ∧ z0.length = cap0 ∧ (∀ i, i < z0.length → w.cell? (x.add i) = some (.int .u8 (z0.getD i 0))) ∧ ∀ n ∈ z0, (Lit.int .u8 n).wf = true) (y0 : len0 * 1 ≤ 140737488351232) :
  Calls Try.prog 5 #[.slice a0 len0 cap0] w fun e w' => e = .returned (.bool true) ∧ Below w.heap.size w w' := by
 obtain ⟨l0, rfl, hr0, hm0, hw0, hc0⟩ := ReadsInt.ofRowC w0
 obtain ⟨k, h⟩ := P l0 hm0 y0 hw0
 refine (laws_FnIdleLaws.calls k _ _ l0 true w (Kd.C_of_reads (d := (0 : Int)) (h1 := fun _ => rfl) hr0) hc0 h).mono ?_
 rintro e w' ⟨rfl, hd⟩
 exact ⟨rfl, hd⟩

end Go.Proofs.Ytnandbgcejkonaa.QFnIdleLaws
