-- Printed for this claim by a turned copy of the print (wip/myprint). Lean checks it. Squeezed. Worded. Tightened.
import Derived.Test.YtaddlahbahedeaaQFnLeastConsentsx0
import Derived.Test.YtaddlahbahedeaaQFnLeastConsentsx2
import Derived.Test.YtaddlahbahedeaaQFnLeastConsentsx9
import Derived.Test.YtaddlahbahedeaaQFnLeastConsentsx14
import Derived.Test.YtaddlahbahedeaaQFnLeastConsentsx16
import Derived.Test.YtaddlahbahedeaaQFnLeastConsentsx17
namespace Go.Proofs.Ytaddlahbahedeaa.QFnLeastConsents
open Go.RowKit Go.Proofs.YtaddlahbahedeaaW.PrintWords Go.Proofs.YtaddlahbahedeaaW.PrintLast Go.Proofs.YtaddlahbahedeaaW.PrintMore
attribute [local go_sem] max2_int min2_int max_two min_two max_three min_three max_four min_four Opens.cell_twice   -- for this text's walks alone
set_option linter.unusedVariables false
set_option linter.unusedSimpArgs false

/-! ### laws_FnLeastConsents: function 5 -/
mutual
def laws_FnLeastConsents.l0 : Nat → List (S61) → List Int → List Int → Int → Int → List Int → Option (Bool)
 | 0, _, _, _, _, _, _ => none
 | k + 1, x4, x5, x6, x7, x488000, x488001 => if x7 < (x6.length : Int) then (laws_FnLeastConsents.l1 k x4 x5 x6 x7 0 x488000 x488001) else ((laws_ascend.f k x5).bind fun t503 => (if t503 = true then (some (decide ((x6.length : Int) > 0))) else (none)))
def laws_FnLeastConsents.l1 : Nat → List (S61) → List Int → List Int → Int → Int → Int → List Int → Option (Bool)
 | 0, _, _, _, _, _, _, _ => none
 | k + 1, x4, x5, x6, x7, x8, x488000, x488001 => if x8 < (x5.length : Int) then (if 0 ≤ x7 then (if x7 < (x6.length : Int) then (if 0 ≤ x8 then (if (Go.bits .and .i64 (rd x6 x7) (rd x5 x8)) = 0 then (none) else (laws_FnLeastConsents.l1 k x4 x5 x6 x7 (wrap64 (x8 + 1)) x488000 x488001)) else (none)) else (none)) else (none)) else (laws_FnLeastConsents.l2 k x4 x5 x6 x7 0 x488000 x488001)
def laws_FnLeastConsents.l2 : Nat → List (S61) → List Int → List Int → Int → Int → Int → List Int → Option (Bool)
 | 0, _, _, _, _, _, _, _ => none
 | k + 1, x4, x5, x6, x7, x9, x488000, x488001 => if x9 < x488000 then (if 0 ≤ x7 then (if x7 < (x6.length : Int) then (if 0 ≤ x9 then (if (Int.tmod (shr .i64 (rd x6 x7) x9) 2) = 0 then (laws_FnLeastConsents.l2 k x4 x5 x6 x7 (wrap64 (x9 + 1)) x488000 x488001) else (laws_FnLeastConsents.l3 k x4 x5 x6 x7 x9 false 0 x488000 x488001)) else (none)) else (none)) else (none)) else (if 0 ≤ x7 then (if x7 < (x6.length : Int) then ((impl_LackOf.f x488000 (rd x6 x7)).bind fun t510 => ((impl_ConsentOk.f k x488000 x488001 x4 t510).bind fun t511 => (if t511 = true then (none) else (laws_FnLeastConsents.l0 k x4 x5 x6 (wrap64 (x7 + 1)) x488000 x488001)))) else (none)) else (none))
def laws_FnLeastConsents.l3 : Nat → List (S61) → List Int → List Int → Int → Int → Bool → Int → Int → List Int → Option (Bool)
 | 0, _, _, _, _, _, _, _, _, _ => none
 | k + 1, x4, x5, x6, x7, x9, x10, x11, x488000, x488001 => if x11 < (x5.length : Int) then (if x10 = true then (laws_FnLeastConsents.l3 k x4 x5 x6 x7 x9 true (wrap64 (x11 + 1)) x488000 x488001) else (if 0 ≤ x7 then (if x7 < (x6.length : Int) then (if 0 ≤ x9 then (if 0 ≤ x11 then (laws_FnLeastConsents.l3 k x4 x5 x6 x7 x9 ((Go.bits .and .i64 (wrap64 ((rd x6 x7) - (shl .i64 1 x9))) (rd x5 x11)) == 0) (wrap64 (x11 + 1)) x488000 x488001) else (none)) else (none)) else (none)) else (none))) else (if x10 = true then (laws_FnLeastConsents.l2 k x4 x5 x6 x7 (wrap64 (x9 + 1)) x488000 x488001) else (none))
end
def laws_FnLeastConsents.f (k : Nat) (l0 : List Int) : Option (Bool) := if (l0.length : Int) > 1048576 then (some true) else ((spec_DrawLeastConsents.f k l0).bind fun bt480 => ((impl_LeastConsents.f k bt480.1 bt480.2.1 bt480.2.2).bind fun t488 => ((spec_LeastConsents.f k bt480.1 bt480.2.1 bt480.2.2).bind fun t491 => ((laws_sameInts.f k t488 t491).bind fun t494 => (if t494 = true then (if (t488.length : Int) = 0 then ((impl_TermOk.f k bt480.1 bt480.2.1 bt480.2.2).bind fun t495 => (if t495 = true then (none) else ((laws_alive.f).bind fun t496 => (some t496)))) else ((impl_DualTerm.f k bt480.1 bt480.2.1 bt480.2.2).bind fun t497 => ((impl_LeastConsents.f k bt480.1 bt480.2.1 t497).bind fun t500 => (laws_FnLeastConsents.l0 k bt480.2.2 t488 t500 0 bt480.1 bt480.2.1)))) else (none))))))
theorem laws_FnLeastConsents.mono_l : ∀ k, (∀ y0 y1 y2 y3 y4 y5, LeO (laws_FnLeastConsents.l0 k y0 y1 y2 y3 y4 y5) (laws_FnLeastConsents.l0 (k + 1) y0 y1 y2 y3 y4 y5)) ∧ (∀ y0 y1 y2 y3 y4 y5 y6, LeO (laws_FnLeastConsents.l1 k y0 y1 y2 y3 y4 y5 y6) (laws_FnLeastConsents.l1 (k + 1) y0 y1 y2 y3 y4 y5 y6)) ∧ (∀ y0 y1 y2 y3 y4 y5 y6, LeO (laws_FnLeastConsents.l2 k y0 y1 y2 y3 y4 y5 y6) (laws_FnLeastConsents.l2 (k + 1) y0 y1 y2 y3 y4 y5 y6)) ∧ (∀ y0 y1 y2 y3 y4 y5 y6 y7 y8, LeO (laws_FnLeastConsents.l3 k y0 y1 y2 y3 y4 y5 y6 y7 y8) (laws_FnLeastConsents.l3 (k + 1) y0 y1 y2 y3 y4 y5 y6 y7 y8))
 | 0 => ⟨fun _ _ _ _ _ _ r h => by simp [laws_FnLeastConsents.l0] at h, fun _ _ _ _ _ _ _ r h => by simp [laws_FnLeastConsents.l1] at h, fun _ _ _ _ _ _ _ r h => by simp [laws_FnLeastConsents.l2] at h, fun _ _ _ _ _ _ _ _ _ r h => by simp [laws_FnLeastConsents.l3] at h⟩
 | k + 1 => by
  obtain ⟨ih0, ih1, ih2, ih3⟩ := laws_FnLeastConsents.mono_l k
  refine ⟨?_, ?_, ?_, ?_⟩
  ·intro y0 y1 y2 y3 y4 y5
   unfold laws_FnLeastConsents.l0
   repeat' first
   | (with_reducible exact ih0 _ _ _ _ _ _)
   | (with_reducible exact ih1 _ _ _ _ _ _ _)
   | (with_reducible exact ih2 _ _ _ _ _ _ _)
   | (with_reducible exact ih3 _ _ _ _ _ _ _ _ _)
   | (with_reducible exact impl_ConsentOk.mono _ _ _ _ _)
   | (with_reducible exact impl_DualTerm.mono _ _ _ _)
   | (with_reducible exact impl_LeastConsents.mono _ _ _ _)
   | (with_reducible exact impl_TermOk.mono _ _ _ _)
   | (with_reducible exact laws_ascend.mono _ _)
   | (with_reducible exact laws_sameInts.mono _ _ _)
   | (with_reducible exact spec_DrawLeastConsents.mono _ _)
   | (with_reducible exact spec_LeastConsents.mono _ _ _ _)
   | (with_reducible exact LeO.refl _)
   | (with_reducible exact LeO.none _)
   | (with_reducible refine LeO.ite ?_ ?_)
   | (with_reducible refine LeO.bind ?_ (fun _ => ?_))
   | exact ih0 _ _ _ _ _ _
   | exact ih1 _ _ _ _ _ _ _
   | exact ih2 _ _ _ _ _ _ _
   | exact ih3 _ _ _ _ _ _ _ _ _
   | exact impl_ConsentOk.mono _ _ _ _ _
   | exact impl_DualTerm.mono _ _ _ _
   | exact impl_LeastConsents.mono _ _ _ _
   | exact impl_TermOk.mono _ _ _ _
   | exact laws_ascend.mono _ _
   | exact laws_sameInts.mono _ _ _
   | exact spec_DrawLeastConsents.mono _ _
   | exact spec_LeastConsents.mono _ _ _ _
   | exact LeO.none _
   | refine LeO.ite ?_ ?_
   | refine LeO.bind ?_ (fun _ => ?_)
  ·intro y0 y1 y2 y3 y4 y5 y6
   unfold laws_FnLeastConsents.l1
   repeat' first
   | (with_reducible exact ih0 _ _ _ _ _ _)
   | (with_reducible exact ih1 _ _ _ _ _ _ _)
   | (with_reducible exact ih2 _ _ _ _ _ _ _)
   | (with_reducible exact ih3 _ _ _ _ _ _ _ _ _)
   | (with_reducible exact impl_ConsentOk.mono _ _ _ _ _)
   | (with_reducible exact impl_DualTerm.mono _ _ _ _)
   | (with_reducible exact impl_LeastConsents.mono _ _ _ _)
   | (with_reducible exact impl_TermOk.mono _ _ _ _)
   | (with_reducible exact laws_ascend.mono _ _)
   | (with_reducible exact laws_sameInts.mono _ _ _)
   | (with_reducible exact spec_DrawLeastConsents.mono _ _)
   | (with_reducible exact spec_LeastConsents.mono _ _ _ _)
   | (with_reducible exact LeO.refl _)
   | (with_reducible exact LeO.none _)
   | (with_reducible refine LeO.ite ?_ ?_)
   | (with_reducible refine LeO.bind ?_ (fun _ => ?_))
   | exact ih0 _ _ _ _ _ _
   | exact ih1 _ _ _ _ _ _ _
   | exact ih2 _ _ _ _ _ _ _
   | exact ih3 _ _ _ _ _ _ _ _ _
   | exact impl_ConsentOk.mono _ _ _ _ _
   | exact impl_DualTerm.mono _ _ _ _
   | exact impl_LeastConsents.mono _ _ _ _
   | exact impl_TermOk.mono _ _ _ _
   | exact laws_ascend.mono _ _
   | exact laws_sameInts.mono _ _ _
   | exact spec_DrawLeastConsents.mono _ _
   | exact spec_LeastConsents.mono _ _ _ _
   | exact LeO.none _
   | refine LeO.ite ?_ ?_
   | refine LeO.bind ?_ (fun _ => ?_)
  ·intro y0 y1 y2 y3 y4 y5 y6
   unfold laws_FnLeastConsents.l2
   repeat' first
   | (with_reducible exact ih0 _ _ _ _ _ _)
   | (with_reducible exact ih1 _ _ _ _ _ _ _)
   | (with_reducible exact ih2 _ _ _ _ _ _ _)
   | (with_reducible exact ih3 _ _ _ _ _ _ _ _ _)
   | (with_reducible exact impl_ConsentOk.mono _ _ _ _ _)
   | (with_reducible exact impl_DualTerm.mono _ _ _ _)
   | (with_reducible exact impl_LeastConsents.mono _ _ _ _)
   | (with_reducible exact impl_TermOk.mono _ _ _ _)
   | (with_reducible exact laws_ascend.mono _ _)
   | (with_reducible exact laws_sameInts.mono _ _ _)
   | (with_reducible exact spec_DrawLeastConsents.mono _ _)
   | (with_reducible exact spec_LeastConsents.mono _ _ _ _)
   | (with_reducible exact LeO.refl _)
   | (with_reducible exact LeO.none _)
   | (with_reducible refine LeO.ite ?_ ?_)
   | (with_reducible refine LeO.bind ?_ (fun _ => ?_))
   | exact ih0 _ _ _ _ _ _
   | exact ih1 _ _ _ _ _ _ _
   | exact ih2 _ _ _ _ _ _ _
   | exact ih3 _ _ _ _ _ _ _ _ _
   | exact impl_ConsentOk.mono _ _ _ _ _
   | exact impl_DualTerm.mono _ _ _ _
   | exact impl_LeastConsents.mono _ _ _ _
   | exact impl_TermOk.mono _ _ _ _
   | exact laws_ascend.mono _ _
   | exact laws_sameInts.mono _ _ _
   | exact spec_DrawLeastConsents.mono _ _
   | exact spec_LeastConsents.mono _ _ _ _
   | exact LeO.none _
   | refine LeO.ite ?_ ?_
   | refine LeO.bind ?_ (fun _ => ?_)
  ·intro y0 y1 y2 y3 y4 y5 y6 y7 y8
   unfold laws_FnLeastConsents.l3
   repeat' first
   | (with_reducible exact ih0 _ _ _ _ _ _)
   | (with_reducible exact ih1 _ _ _ _ _ _ _)
   | (with_reducible exact ih2 _ _ _ _ _ _ _)
   | (with_reducible exact ih3 _ _ _ _ _ _ _ _ _)
   | (with_reducible exact impl_ConsentOk.mono _ _ _ _ _)
   | (with_reducible exact impl_DualTerm.mono _ _ _ _)
   | (with_reducible exact impl_LeastConsents.mono _ _ _ _)
   | (with_reducible exact impl_TermOk.mono _ _ _ _)
   | (with_reducible exact laws_ascend.mono _ _)
   | (with_reducible exact laws_sameInts.mono _ _ _)
   | (with_reducible exact spec_DrawLeastConsents.mono _ _)
   | (with_reducible exact spec_LeastConsents.mono _ _ _ _)
   | (with_reducible exact LeO.refl _)
   | (with_reducible exact LeO.none _)
   | (with_reducible refine LeO.ite ?_ ?_)
   | (with_reducible refine LeO.bind ?_ (fun _ => ?_))
   | exact ih0 _ _ _ _ _ _
   | exact ih1 _ _ _ _ _ _ _
   | exact ih2 _ _ _ _ _ _ _
   | exact ih3 _ _ _ _ _ _ _ _ _
   | exact impl_ConsentOk.mono _ _ _ _ _
   | exact impl_DualTerm.mono _ _ _ _
   | exact impl_LeastConsents.mono _ _ _ _
   | exact impl_TermOk.mono _ _ _ _
   | exact laws_ascend.mono _ _
   | exact laws_sameInts.mono _ _ _
   | exact spec_DrawLeastConsents.mono _ _
   | exact spec_LeastConsents.mono _ _ _ _
   | exact LeO.none _
   | refine LeO.ite ?_ ?_
   | refine LeO.bind ?_ (fun _ => ?_)
theorem laws_FnLeastConsents.mono : ∀ a0 k, LeO (laws_FnLeastConsents.f k a0) (laws_FnLeastConsents.f (k + 1) a0) := by
 intro a0 k
 obtain ⟨ih0, ih1, ih2, ih3⟩ := laws_FnLeastConsents.mono_l k
 unfold laws_FnLeastConsents.f
 repeat' first
   | (with_reducible exact ih0 _ _ _ _ _ _)
   | (with_reducible exact ih1 _ _ _ _ _ _ _)
   | (with_reducible exact ih2 _ _ _ _ _ _ _)
   | (with_reducible exact ih3 _ _ _ _ _ _ _ _ _)
   | (with_reducible exact impl_ConsentOk.mono _ _ _ _ _)
   | (with_reducible exact impl_DualTerm.mono _ _ _ _)
   | (with_reducible exact impl_LeastConsents.mono _ _ _ _)
   | (with_reducible exact impl_TermOk.mono _ _ _ _)
   | (with_reducible exact laws_ascend.mono _ _)
   | (with_reducible exact laws_sameInts.mono _ _ _)
   | (with_reducible exact spec_DrawLeastConsents.mono _ _)
   | (with_reducible exact spec_LeastConsents.mono _ _ _ _)
   | (with_reducible exact LeO.refl _)
   | (with_reducible exact LeO.none _)
   | (with_reducible refine LeO.ite ?_ ?_)
   | (with_reducible refine LeO.bind ?_ (fun _ => ?_))
   | exact ih0 _ _ _ _ _ _
   | exact ih1 _ _ _ _ _ _ _
   | exact ih2 _ _ _ _ _ _ _
   | exact ih3 _ _ _ _ _ _ _ _ _
   | exact impl_ConsentOk.mono _ _ _ _ _
   | exact impl_DualTerm.mono _ _ _ _
   | exact impl_LeastConsents.mono _ _ _ _
   | exact impl_TermOk.mono _ _ _ _
   | exact laws_ascend.mono _ _
   | exact laws_sameInts.mono _ _ _
   | exact spec_DrawLeastConsents.mono _ _
   | exact spec_LeastConsents.mono _ _ _ _
   | exact LeO.none _
   | refine LeO.ite ?_ ?_
   | refine LeO.bind ?_ (fun _ => ?_)
def laws_FnLeastConsents.T16 : Bool × List (List Nat × List Nat) := (true, [([], []), ([], []), ([0, 1], [0, 1]), ([2], [2]), ([], []), ([], []), ([4, 5], [4, 5]), ([6], [6]), ([3, 7], [3, 7]), ([8], [8])])
def laws_FnLeastConsents.B16 : List Nat := [0, 0, 3, 7, 0, 0, 48, 112, 255, 511]
theorem laws_FnLeastConsents.tab16 : rtab .any (opsOf Try.f5 16) = laws_FnLeastConsents.T16 := by kernel_rfl
theorem laws_FnLeastConsents.bits16 : waitsOk laws_FnLeastConsents.T16.2 laws_FnLeastConsents.B16 = true := by kernel_rfl
def laws_FnLeastConsents.T26 : Bool × List (List Nat × List Nat) := (true, [([], []), ([0], [0]), ([1], [1]), ([1], [1]), ([2, 3, 1], [1, 2, 3]), ([4, 1], [1, 4]), ([1], [1]), ([6, 1], [1, 6]), ([5, 7, 1], [1, 5, 7]), ([1], [1]), ([1], [1]), ([9, 10, 1], [1, 9, 10]), ([11, 1], [1, 11]), ([8, 12, 1], [1, 8, 12]), ([13, 1], [1, 13]), ([1, 14], [1, 14]), ([15, 1, 0, 1, 2, 3, 4, 5, 6, 7, 8, 9, 10, 11, 12, 13, 14, 15], [0, 15])])
def laws_FnLeastConsents.B26 : List Nat := [0, 1, 3, 3, 15, 31, 3, 67, 255, 3, 3, 1539, 3587, 8191, 16383, 32767, 65535]
theorem laws_FnLeastConsents.tab26 : rtab .any (opsOf Try.f5 26) = laws_FnLeastConsents.T26 := by kernel_rfl
theorem laws_FnLeastConsents.bits26 : waitsOk laws_FnLeastConsents.T26.2 laws_FnLeastConsents.B26 = true := by kernel_rfl
def laws_FnLeastConsents.T29 : Bool × List (List Nat × List Nat) := (true, [([], []), ([], []), ([], []), ([2], [2]), ([], []), ([], []), ([4, 5], [4, 5]), ([6], [6]), ([3, 7], [3, 7]), ([0, 1, 8, 8], [0, 1, 8])])
def laws_FnLeastConsents.B29 : List Nat := [0, 0, 0, 4, 0, 0, 48, 112, 252, 511]
theorem laws_FnLeastConsents.tab29 : rtab .any (opsOf Try.f5 29) = laws_FnLeastConsents.T29 := by kernel_rfl
theorem laws_FnLeastConsents.bits29 : waitsOk laws_FnLeastConsents.T29.2 laws_FnLeastConsents.B29 = true := by kernel_rfl
set_option maxHeartbeats 8000000 in
set_option maxRecDepth 100000 in
theorem laws_FnLeastConsents.calls (k : Nat) (A0 : Option Addr) (c0 : Nat) (l0 : List Int) (r : Bool) (w : World) (hr0 : Kd.C (Kd.int .u8) w A0 l0.length l0) (hc0 : l0.length ≤ c0) (h : laws_FnLeastConsents.f k l0 = some r) :
  Calls Try.prog 5 #[.slice A0 l0.length c0] w fun e w' => e = .returned (.bool r) ∧ Below w.heap.size w w' := by
 have hu25 := Try.underlying25
 have HR0 := Aside0.mk hr0
 have HC0 := Aside0.mk hc0
 clear hr0 hc0
 have HB := Aside0.mk (Below.refl w.heap.size w)
 have H : (if (l0.length : Int) > 1048576 then (some true) else ((spec_DrawLeastConsents.f k l0).bind fun bt480 => ((impl_LeastConsents.f k bt480.1 bt480.2.1 bt480.2.2).bind fun t488 => ((spec_LeastConsents.f k bt480.1 bt480.2.1 bt480.2.2).bind fun t491 => ((laws_sameInts.f k t488 t491).bind fun t494 => (if t494 = true then (if (t488.length : Int) = 0 then ((impl_TermOk.f k bt480.1 bt480.2.1 bt480.2.2).bind fun t495 => (if t495 = true then (none) else ((laws_alive.f).bind fun t496 => (some t496)))) else ((impl_DualTerm.f k bt480.1 bt480.2.1 bt480.2.2).bind fun t497 => ((impl_LeastConsents.f k bt480.1 bt480.2.1 t497).bind fun t500 => (laws_FnLeastConsents.l0 k bt480.2.2 t488 t500 0 bt480.1 bt480.2.1)))) else (none))))))) = some r := h
 clear h
 by_cases c2 : (l0.length : Int) > 1048576
 ·rw [if_pos c2] at H
  have c2b0 : decide (1048576 < (l0.length : Int)) = true := decide_eq_true c2
  have c2b1 : decide (1048576 < l0.length) = true := decide_eq_true (by omega)
  clear c2
  obtain rfl := Option.some.inj H
  go_enter Try.func5, Try.ntmps5
  go_wp2
  go_ret
  exact ⟨by first | rfl | (simp [errW_none, errW_some] <;> rfl) | (simp [*, errW_none, errW_some] <;> rfl), by exact bh⟩
 ·rw [if_neg c2] at H
  have c2b0 : decide (1048576 < (l0.length : Int)) = false := decide_eq_false c2
  have c2b1 : decide (1048576 < l0.length) = false := decide_eq_false (by omega)
  clear c2
  replace H := Option.bind_eq_some_iff.mp H
  obtain ⟨⟨t480, t481, t484⟩, A30, H⟩ := H
  replace H : ((impl_LeastConsents.f k t480 t481 t484).bind fun t488 => ((spec_LeastConsents.f k t480 t481 t484).bind fun t491 => ((laws_sameInts.f k t488 t491).bind fun t494 => (if t494 = true then (if (t488.length : Int) = 0 then ((impl_TermOk.f k t480 t481 t484).bind fun t495 => (if t495 = true then (none) else ((laws_alive.f).bind fun t496 => (some t496)))) else ((impl_DualTerm.f k t480 t481 t484).bind fun t497 => ((impl_LeastConsents.f k t480 t481 t497).bind fun t500 => (laws_FnLeastConsents.l0 k t484 t488 t500 0 t480 t481)))) else (none))))) = some r := H
  have A3 := Aside0.mk A30
  clear A30
  replace H := Option.bind_eq_some_iff.mp H
  obtain ⟨t488, A40, H⟩ := H
  replace H : ((spec_LeastConsents.f k t480 t481 t484).bind fun t491 => ((laws_sameInts.f k t488 t491).bind fun t494 => (if t494 = true then (if (t488.length : Int) = 0 then ((impl_TermOk.f k t480 t481 t484).bind fun t495 => (if t495 = true then (none) else ((laws_alive.f).bind fun t496 => (some t496)))) else ((impl_DualTerm.f k t480 t481 t484).bind fun t497 => ((impl_LeastConsents.f k t480 t481 t497).bind fun t500 => (laws_FnLeastConsents.l0 k t484 t488 t500 0 t480 t481)))) else (none)))) = some r := H
  have A4 := Aside0.mk A40
  clear A40
  replace H := Option.bind_eq_some_iff.mp H
  obtain ⟨t491, A50, H⟩ := H
  replace H : ((laws_sameInts.f k t488 t491).bind fun t494 => (if t494 = true then (if (t488.length : Int) = 0 then ((impl_TermOk.f k t480 t481 t484).bind fun t495 => (if t495 = true then (none) else ((laws_alive.f).bind fun t496 => (some t496)))) else ((impl_DualTerm.f k t480 t481 t484).bind fun t497 => ((impl_LeastConsents.f k t480 t481 t497).bind fun t500 => (laws_FnLeastConsents.l0 k t484 t488 t500 0 t480 t481)))) else (none))) = some r := H
  have A5 := Aside0.mk A50
  clear A50
  replace H := Option.bind_eq_some_iff.mp H
  obtain ⟨t494, A60, H⟩ := H
  replace H : (if t494 = true then (if (t488.length : Int) = 0 then ((impl_TermOk.f k t480 t481 t484).bind fun t495 => (if t495 = true then (none) else ((laws_alive.f).bind fun t496 => (some t496)))) else ((impl_DualTerm.f k t480 t481 t484).bind fun t497 => ((impl_LeastConsents.f k t480 t481 t497).bind fun t500 => (laws_FnLeastConsents.l0 k t484 t488 t500 0 t480 t481)))) else (none)) = some r := H
  have A6 := Aside0.mk A60
  clear A60
  by_cases c7 : t494 = true
  ·subst c7
   have H1 : (if (t488.length : Int) = 0 then ((impl_TermOk.f k t480 t481 t484).bind fun t495 => (if t495 = true then (none) else ((laws_alive.f).bind fun t496 => (some t496)))) else ((impl_DualTerm.f k t480 t481 t484).bind fun t497 => ((impl_LeastConsents.f k t480 t481 t497).bind fun t500 => (laws_FnLeastConsents.l0 k t484 t488 t500 0 t480 t481)))) = some r := by rw [if_pos rfl] at H; exact H
   clear H
   have H := H1
   clear H1
   by_cases c8 : (t488.length : Int) = 0
   ·rw [if_pos c8] at H
    have c8b0 : ((t488.length : Int) == 0) = true := beq_iff_eq.mpr c8
    have c8b1 : ((t488.length : Int) != 0) = false := bne_eq_false_iff_eq.mpr c8
    clear c8
    replace H := Option.bind_eq_some_iff.mp H
    obtain ⟨t495, A90, H⟩ := H
    replace H : (if t495 = true then (none) else ((laws_alive.f).bind fun t496 => (some t496))) = some r := H
    have A9 := Aside0.mk A90
    clear A90
    by_cases c10 : t495 = true
    ·subst c10
     have H1 : (none) = some r := by rw [if_pos rfl] at H; exact H
     clear H
     have H := H1
     clear H1
     exact absurd H (by simp)
    ·replace c10 := Bool.eq_false_iff.mpr c10
     subst c10
     have H1 : ((laws_alive.f).bind fun t496 => (some t496)) = some r := by rw [if_neg (show ¬ (false = true) by decide)] at H; exact H
     clear H
     have H := H1
     clear H1
     replace H := Option.bind_eq_some_iff.mp H
     obtain ⟨t496, A110, H⟩ := H
     replace H : (some t496) = some r := H
     have A11 := Aside0.mk A110
     clear A110
     obtain rfl := Option.some.inj H
     go_enter Try.func5, Try.ntmps5
     go_wp2_with (first | ((with_reducible refine gate_callee (f := 29) rfl ?_); refine goesL_ (some 17) rfl rfl Try.func29 kr rfl #[.slice A0 l0.length c0] rfl lm ?_; (with_reducible refine (spec_DrawLeastConsents.calls k _ _ l0 t480 t481 t484 _ ?side1 ?side2 A3.out).mono ?_); (case side1 => repeat (first | exact HR0.out | (with_reducible refine Kd.C_alloc ?_ _) | (with_reducible refine Kd.C_drewN ?_ _) | (with_reducible refine Kd.C_drew ?_))); (case side2 => exact HC0.out); rintro e w12 ⟨v482, v485, rfl, ho0, ho1, hb⟩; refine ⟨_, rfl, ?_⟩; have n0_ := Aside0.mk (Kd.R_lower (Kd.R_mono (ok' := fun k_ => True) ho0 (fun _ hk_ => trivial)) (below_size bh)); have n1_ := Aside0.mk (Kd.V_lower (Kd.V_mono (ok' := fun k_ => some k_ ≠ (v482 : Value).ownBlock) ho1 (fun k_ hk_ => hk_.2)) (below_size bh)); have n2_ := Aside0.mk (below_step bh hb); clear HB; have HO483 := n0_; have HO486 := n1_; have HB := n2_; clear n0_ n1_ n2_; (try clear hb); (try clear hb2); (try clear hk); (try clear hi); (try clear ho0); (try clear ho1)) | ((with_reducible refine gate_dst (N := 3) rfl ?_); (try (refine gate_guard (by rfl) ?_; dsimp only)); refine box_event ?hg (N := 3) ?hd (cs := #[.int .i64 0, .slice none 0 0]) (t := 25) ?hr ?_; (case hd => rfl); (case hg => rfl); (case hr => first | (go_simp; done) | (go_simp; rfl)); intro gb487 hg w13 hbox hb; have n0_ := Aside0.mk (Kd.R_below (rz HO483) hb); have n1_ := Aside0.mk (Kd.V_below (Kd.V_elderB (vz HO486) gb487 (Nat.le_of_eq hg.symm)) hb); have n2_ := Aside0.mk (below_step bh hb); have n3_ := Aside0.mk (hbox); have n4_ := Aside0.mk ((gs (W0 := w) hg bh)); have n5_ := Aside0.mk ((gs (W0 := w) hg bh)); clear HO483 HO486 HB; have HO483 := n0_; have HO486 := n1_; have HB := n2_; have BK487 := n3_; have GW487 := n4_; have GE487 := n5_; clear n0_ n1_ n2_ n3_ n4_ n5_ hb hbox hg; have hcz14_0 := cz0 BK487; have hcz14_1 := cz1 BK487; have hfz14_0 := blk_frozen BK487.out 0; have hfz14_1 := blk_frozen BK487.out 1; obtain ⟨Ao15, co15, eo15⟩ := Kd.R_slice HO483.out; subst eo15; obtain ⟨Ao16, co16, eo16⟩ := Kd.V_slice HO486.out; subst eo16) | ((with_reducible refine gate_callee (f := 15) rfl ?_); refine goesL_ (some 22) rfl rfl Try.func15 kr rfl #[.agg #[.int .i64 t480, .slice Ao15 t481.length co15], .slice Ao16 t484.length co16] rfl lm ?_; (with_reducible refine (impl_LeastConsents.calls k t480 _ _ t481 _ _ t484 t488 _ ?side1 ?side2 ?side3 ?side4 A4.out).mono ?_); (case side1 => refine (Kd.R_reads' (e := 3) (base := w.heap.size) (ok := fun k_ => True) (n := t481.length) (c := co15) ?_).2.2; exact (fR HO483 BK487)); (case side2 => exact (Kd.R_reads' HO483.out).2.1); (case side3 => refine (Kd.V_reads' (e := 61) (base := w.heap.size) (ok := fun k_ => (some k_ ≠ (.slice Ao15 t481.length co15 : Value).ownBlock ∧ k_ ≠ gb487)) (n := t484.length) (c := co16) ?_).2.2; exact (uV HO486 (fun _ hk => hk.2))); (case side4 => exact (Kd.V_reads' HO486.out).2.1); rintro e w17 ⟨v489, rfl, ho0, hb⟩; refine ⟨_, rfl, ?_⟩; have n0_ := Aside0.mk (Kd.R_elder' (fR HO483 BK487) (Kd.R_base ho0) hb); have n1_ := Aside0.mk (Kd.V_elder' (uV HO486 (fun _ hk => hk.2)) (Kd.R_base ho0) hb); have n2_ := Aside0.mk (Kd.R_lower (Kd.R_new' ho0 (Kd.R_lt (fR HO483 BK487))) (below_size bh)); have n3_ := Aside0.mk (blk_below (g := gb487) (o := .cells #[.int .i64 t480, .slice Ao15 t481.length co15] 25 (0, 0)) (bp BK487) hb); have n4_ := Aside0.mk (below_step bh hb); clear HO483 HO486 BK487 HB; have HO483 := n0_; have HO486 := n1_; have HO490 := n2_; have BK487 := n3_; have HB := n4_; clear n0_ n1_ n2_ n3_ n4_; (try clear hb); (try clear hb2); (try clear hk); (try clear hi); (try clear ho0); have hcz18_0 := cz0 BK487; have hcz18_1 := cz1 BK487; have hfz18_0 := blk_frozen BK487.out 0; have hfz18_1 := blk_frozen BK487.out 1) | ((with_reducible refine gate_callee (f := 19) rfl ?_); refine goesL_ (some 26) rfl rfl Try.func19 kr rfl #[.agg #[.int .i64 t480, .slice Ao15 t481.length co15], .slice Ao16 t484.length co16] rfl lm ?_; (with_reducible refine (spec_LeastConsents.calls k t480 _ _ t481 _ _ t484 t491 _ ?side1 ?side2 ?side3 ?side4 A5.out).mono ?_); (case side1 => repeat (first | exact (Kd.R_reads' HO483.out).2.2 | (with_reducible refine Kd.C_alloc ?_ _) | (with_reducible refine Kd.C_drewN ?_ _) | (with_reducible refine Kd.C_drew ?_))); (case side2 => exact (Kd.R_reads' HO483.out).2.1); (case side3 => repeat (first | exact (Kd.V_reads' HO486.out).2.2 | (with_reducible refine Kd.C_alloc ?_ _) | (with_reducible refine Kd.C_drewN ?_ _) | (with_reducible refine Kd.C_drew ?_))); (case side4 => exact (Kd.V_reads' HO486.out).2.1); rintro e w19 ⟨v492, rfl, ho0, hb⟩; refine ⟨_, rfl, ?_⟩; have n0_ := Aside0.mk (Kd.R_elder' (rz HO483) (Kd.R_base ho0) hb); have n1_ := Aside0.mk (Kd.V_elder' (vz HO486) (Kd.R_base ho0) hb); have n2_ := Aside0.mk (Kd.R_elder' (rz HO490) (Kd.R_base ho0) hb); have n3_ := Aside0.mk (Kd.R_lower (Kd.R_new' (Kd.R_new' ho0 (Kd.R_lt (rz HO483))) (Kd.R_lt (rz HO490))) (below_size bh)); have n4_ := Aside0.mk (blk_below (bz BK487) hb); have n5_ := Aside0.mk (below_step bh hb); clear HO483 HO486 HO490 BK487 HB; have HO483 := n0_; have HO486 := n1_; have HO490 := n2_; have HO493 := n3_; have BK487 := n4_; have HB := n5_; clear n0_ n1_ n2_ n3_ n4_ n5_; (try clear hb); (try clear hb2); (try clear hk); (try clear hi); (try clear ho0); obtain ⟨Ao20, co20, eo20⟩ := Kd.R_slice HO490.out; subst eo20; obtain ⟨Ao21, co21, eo21⟩ := Kd.R_slice HO493.out; subst eo21) | ((with_reducible refine gate_callee (f := 14) rfl ?_); refine goesL_ (some 27) rfl rfl Try.func14 kr rfl #[.slice Ao20 t488.length co20, .slice Ao21 t491.length co21] rfl lm ?_; (with_reducible refine (laws_sameInts.calls k _ _ t488 _ _ t491 true _ ?side1 ?side2 ?side3 ?side4 A6.out).mono ?_); (case side1 => repeat (first | exact (Kd.R_reads' HO490.out).2.2 | (with_reducible refine Kd.C_alloc ?_ _) | (with_reducible refine Kd.C_drewN ?_ _) | (with_reducible refine Kd.C_drew ?_))); (case side2 => exact (Kd.R_reads' HO490.out).2.1); (case side3 => repeat (first | exact (Kd.R_reads' HO493.out).2.2 | (with_reducible refine Kd.C_alloc ?_ _) | (with_reducible refine Kd.C_drewN ?_ _) | (with_reducible refine Kd.C_drew ?_))); (case side4 => exact (Kd.R_reads' HO493.out).2.1); rintro e w' ⟨rfl, ⟨nd, rfl⟩⟩; refine ⟨_, rfl, ?_⟩; have hcz22_0 := cz0 BK487; have hcz22_1 := cz1 BK487; have hfz22_0 := blk_frozen BK487.out 0; have hfz22_1 := blk_frozen BK487.out 1) | ((with_reducible refine gate_callee (f := 30) rfl ?_); refine goesL_ (some 34) rfl rfl Try.func30 kr rfl #[.agg #[.int .i64 t480, .slice Ao15 t481.length co15], .slice Ao16 t484.length co16] rfl lm ?_; (with_reducible refine (impl_TermOk.calls k t480 _ _ t481 _ _ t484 false _ ?side1 ?side2 ?side3 ?side4 A9.out).mono ?_); (case side1 => repeat (first | exact (Kd.R_reads' HO483.out).2.2 | (with_reducible refine Kd.C_alloc ?_ _) | (with_reducible refine Kd.C_drewN ?_ _) | (with_reducible refine Kd.C_drew ?_))); (case side2 => exact (Kd.R_reads' HO483.out).2.1); (case side3 => repeat (first | exact (Kd.V_reads' HO486.out).2.2 | (with_reducible refine Kd.C_alloc ?_ _) | (with_reducible refine Kd.C_drewN ?_ _) | (with_reducible refine Kd.C_drew ?_))); (case side4 => exact (Kd.V_reads' HO486.out).2.1); rintro e w23 ⟨rfl, hb⟩; refine ⟨_, rfl, ?_⟩; have n0_ := Aside0.mk (Kd.R_below (rz HO483) hb); have n1_ := Aside0.mk (Kd.V_below (vz HO486) hb); have n2_ := Aside0.mk (Kd.R_below (rz HO490) hb); have n3_ := Aside0.mk (Kd.R_below (rz HO493) hb); have n4_ := Aside0.mk (blk_below (bz BK487) hb); have n5_ := Aside0.mk (below_step bh hb); clear HO483 HO486 HO490 HO493 BK487 HB; have HO483 := n0_; have HO486 := n1_; have HO490 := n2_; have HO493 := n3_; have BK487 := n4_; have HB := n5_; clear n0_ n1_ n2_ n3_ n4_ n5_; (try clear hb); (try clear hb2); (try clear hk); (try clear hi)) | (go_at_call 13; (with_reducible refine (laws_alive.calls  t496 _ A11.out).mono ?_); rintro e w' ⟨rfl, ⟨nd, rfl⟩⟩))
     go_ret
     exact ⟨by first | rfl | (simp [errW_none, errW_some] <;> rfl) | (simp [*, errW_none, errW_some] <;> rfl), by exact bh⟩
   ·rw [if_neg c8] at H
    have c8b0 : ((t488.length : Int) == 0) = false := beq_eq_false_iff_ne.mpr c8
    have c8b1 : ((t488.length : Int) != 0) = true := bne_iff_ne.mpr c8
    have c8b2 : ¬ (t488 = []) := fun h_ => c8 (by rw [h_]; rfl)
    replace H := Option.bind_eq_some_iff.mp H
    obtain ⟨t497, A240, H⟩ := H
    replace H : ((impl_LeastConsents.f k t480 t481 t497).bind fun t500 => (laws_FnLeastConsents.l0 k t484 t488 t500 0 t480 t481)) = some r := H
    have A24 := Aside0.mk A240
    clear A240
    replace H := Option.bind_eq_some_iff.mp H
    obtain ⟨t500, A250, H⟩ := H
    replace H : (laws_FnLeastConsents.l0 k t484 t488 t500 0 t480 t481) = some r := H
    have A25 := Aside0.mk A250
    clear A250
    have H' := Aside0.mk H
    clear H
    go_enter Try.func5, Try.ntmps5
    try go_wp2_with (first | ((with_reducible refine gate_callee (f := 29) rfl ?_); refine goesL_ (some 17) rfl rfl Try.func29 kr rfl #[.slice A0 l0.length c0] rfl lm ?_; (with_reducible refine (spec_DrawLeastConsents.calls k _ _ l0 t480 t481 t484 _ ?side1 ?side2 A3.out).mono ?_); (case side1 => repeat (first | exact HR0.out | (with_reducible refine Kd.C_alloc ?_ _) | (with_reducible refine Kd.C_drewN ?_ _) | (with_reducible refine Kd.C_drew ?_))); (case side2 => exact HC0.out); rintro e w26 ⟨v482, v485, rfl, ho0, ho1, hb⟩; refine ⟨_, rfl, ?_⟩; have n0_ := Aside0.mk (Kd.R_lower (Kd.R_mono (ok' := fun k_ => True) ho0 (fun _ hk_ => trivial)) (below_size bh)); have n1_ := Aside0.mk (Kd.V_lower (Kd.V_mono (ok' := fun k_ => some k_ ≠ (v482 : Value).ownBlock) ho1 (fun k_ hk_ => hk_.2)) (below_size bh)); have n2_ := Aside0.mk (below_step bh hb); clear HB; have HO483 := n0_; have HO486 := n1_; have HB := n2_; clear n0_ n1_ n2_; (try clear hb); (try clear hb2); (try clear hk); (try clear hi); (try clear ho0); (try clear ho1)) | ((with_reducible refine gate_dst (N := 3) rfl ?_); (try (refine gate_guard (by rfl) ?_; dsimp only)); refine box_event ?hg (N := 3) ?hd (cs := #[.int .i64 0, .slice none 0 0]) (t := 25) ?hr ?_; (case hd => rfl); (case hg => rfl); (case hr => first | (go_simp; done) | (go_simp; rfl)); intro gb487 hg w27 hbox hb; have n0_ := Aside0.mk (Kd.R_below (rz HO483) hb); have n1_ := Aside0.mk (Kd.V_below (Kd.V_elderB (vz HO486) gb487 (Nat.le_of_eq hg.symm)) hb); have n2_ := Aside0.mk (below_step bh hb); have n3_ := Aside0.mk (hbox); have n4_ := Aside0.mk ((gs (W0 := w) hg bh)); have n5_ := Aside0.mk ((gs (W0 := w) hg bh)); clear HO483 HO486 HB; have HO483 := n0_; have HO486 := n1_; have HB := n2_; have BK487 := n3_; have GW487 := n4_; have GE487 := n5_; clear n0_ n1_ n2_ n3_ n4_ n5_ hb hbox hg; have hcz28_0 := cz0 BK487; have hcz28_1 := cz1 BK487; have hfz28_0 := blk_frozen BK487.out 0; have hfz28_1 := blk_frozen BK487.out 1; obtain ⟨Ao29, co29, eo29⟩ := Kd.R_slice HO483.out; subst eo29; obtain ⟨Ao30, co30, eo30⟩ := Kd.V_slice HO486.out; subst eo30) | ((with_reducible refine gate_callee (f := 15) rfl ?_); refine goesL_ (some 22) rfl rfl Try.func15 kr rfl #[.agg #[.int .i64 t480, .slice Ao29 t481.length co29], .slice Ao30 t484.length co30] rfl lm ?_; (with_reducible refine (impl_LeastConsents.calls k t480 _ _ t481 _ _ t484 t488 _ ?side1 ?side2 ?side3 ?side4 A4.out).mono ?_); (case side1 => refine (Kd.R_reads' (e := 3) (base := w.heap.size) (ok := fun k_ => True) (n := t481.length) (c := co29) ?_).2.2; exact (fR HO483 BK487)); (case side2 => exact (Kd.R_reads' HO483.out).2.1); (case side3 => refine (Kd.V_reads' (e := 61) (base := w.heap.size) (ok := fun k_ => (some k_ ≠ (.slice Ao29 t481.length co29 : Value).ownBlock ∧ k_ ≠ gb487)) (n := t484.length) (c := co30) ?_).2.2; exact (uV HO486 (fun _ hk => hk.2))); (case side4 => exact (Kd.V_reads' HO486.out).2.1); rintro e w31 ⟨v489, rfl, ho0, hb⟩; refine ⟨_, rfl, ?_⟩; have n0_ := Aside0.mk (Kd.R_elder' (fR HO483 BK487) (Kd.R_base ho0) hb); have n1_ := Aside0.mk (Kd.V_elder' (uV HO486 (fun _ hk => hk.2)) (Kd.R_base ho0) hb); have n2_ := Aside0.mk (Kd.R_lower (Kd.R_new' ho0 (Kd.R_lt (fR HO483 BK487))) (below_size bh)); have n3_ := Aside0.mk (blk_below (g := gb487) (o := .cells #[.int .i64 t480, .slice Ao29 t481.length co29] 25 (0, 0)) (bp BK487) hb); have n4_ := Aside0.mk (below_step bh hb); clear HO483 HO486 BK487 HB; have HO483 := n0_; have HO486 := n1_; have HO490 := n2_; have BK487 := n3_; have HB := n4_; clear n0_ n1_ n2_ n3_ n4_; (try clear hb); (try clear hb2); (try clear hk); (try clear hi); (try clear ho0); have hcz32_0 := cz0 BK487; have hcz32_1 := cz1 BK487; have hfz32_0 := blk_frozen BK487.out 0; have hfz32_1 := blk_frozen BK487.out 1) | ((with_reducible refine gate_callee (f := 19) rfl ?_); refine goesL_ (some 26) rfl rfl Try.func19 kr rfl #[.agg #[.int .i64 t480, .slice Ao29 t481.length co29], .slice Ao30 t484.length co30] rfl lm ?_; (with_reducible refine (spec_LeastConsents.calls k t480 _ _ t481 _ _ t484 t491 _ ?side1 ?side2 ?side3 ?side4 A5.out).mono ?_); (case side1 => repeat (first | exact (Kd.R_reads' HO483.out).2.2 | (with_reducible refine Kd.C_alloc ?_ _) | (with_reducible refine Kd.C_drewN ?_ _) | (with_reducible refine Kd.C_drew ?_))); (case side2 => exact (Kd.R_reads' HO483.out).2.1); (case side3 => repeat (first | exact (Kd.V_reads' HO486.out).2.2 | (with_reducible refine Kd.C_alloc ?_ _) | (with_reducible refine Kd.C_drewN ?_ _) | (with_reducible refine Kd.C_drew ?_))); (case side4 => exact (Kd.V_reads' HO486.out).2.1); rintro e w33 ⟨v492, rfl, ho0, hb⟩; refine ⟨_, rfl, ?_⟩; have n0_ := Aside0.mk (Kd.R_elder' (rz HO483) (Kd.R_base ho0) hb); have n1_ := Aside0.mk (Kd.V_elder' (vz HO486) (Kd.R_base ho0) hb); have n2_ := Aside0.mk (Kd.R_elder' (rz HO490) (Kd.R_base ho0) hb); have n3_ := Aside0.mk (Kd.R_lower (Kd.R_new' (Kd.R_new' ho0 (Kd.R_lt (rz HO483))) (Kd.R_lt (rz HO490))) (below_size bh)); have n4_ := Aside0.mk (blk_below (bz BK487) hb); have n5_ := Aside0.mk (below_step bh hb); clear HO483 HO486 HO490 BK487 HB; have HO483 := n0_; have HO486 := n1_; have HO490 := n2_; have HO493 := n3_; have BK487 := n4_; have HB := n5_; clear n0_ n1_ n2_ n3_ n4_ n5_; (try clear hb); (try clear hb2); (try clear hk); (try clear hi); (try clear ho0); obtain ⟨Ao34, co34, eo34⟩ := Kd.R_slice HO490.out; subst eo34; obtain ⟨Ao35, co35, eo35⟩ := Kd.R_slice HO493.out; subst eo35) | ((with_reducible refine gate_callee (f := 14) rfl ?_); refine goesL_ (some 27) rfl rfl Try.func14 kr rfl #[.slice Ao34 t488.length co34, .slice Ao35 t491.length co35] rfl lm ?_; (with_reducible refine (laws_sameInts.calls k _ _ t488 _ _ t491 true _ ?side1 ?side2 ?side3 ?side4 A6.out).mono ?_); (case side1 => repeat (first | exact (Kd.R_reads' HO490.out).2.2 | (with_reducible refine Kd.C_alloc ?_ _) | (with_reducible refine Kd.C_drewN ?_ _) | (with_reducible refine Kd.C_drew ?_))); (case side2 => exact (Kd.R_reads' HO490.out).2.1); (case side3 => repeat (first | exact (Kd.R_reads' HO493.out).2.2 | (with_reducible refine Kd.C_alloc ?_ _) | (with_reducible refine Kd.C_drewN ?_ _) | (with_reducible refine Kd.C_drew ?_))); (case side4 => exact (Kd.R_reads' HO493.out).2.1); rintro e w' ⟨rfl, ⟨nd, rfl⟩⟩; refine ⟨_, rfl, ?_⟩))
    (try (rw [drewN_self w33]; generalize hq_ : World.drewN w33 _ = w33; have n0_ : Aside0 (Kd.R (Kd.int .i64) 3 w33 w.heap.size (fun k_ => ((True ∧ some k_ ≠ (.slice Ao34 t488.length co34 : Value).ownBlock) ∧ some k_ ≠ (.slice Ao35 t491.length co35 : Value).ownBlock)) (.slice Ao29 t481.length co29) t481) := ⟨by rw [← hq_]; exact (rz HO483)⟩; have n1_ : Aside0 (Kd.V k61 61 w33 w.heap.size (fun k_ => (((some k_ ≠ (.slice Ao29 t481.length co29 : Value).ownBlock ∧ k_ ≠ gb487) ∧ some k_ ≠ (.slice Ao34 t488.length co34 : Value).ownBlock) ∧ some k_ ≠ (.slice Ao35 t491.length co35 : Value).ownBlock)) (.slice Ao30 t484.length co30) t484) := ⟨by rw [← hq_]; exact (vz HO486)⟩; have n2_ : Aside0 (Kd.R (Kd.int .i64) 3 w33 w.heap.size (fun k_ => ((True ∧ some k_ ≠ (.slice Ao29 t481.length co29 : Value).ownBlock) ∧ some k_ ≠ (.slice Ao35 t491.length co35 : Value).ownBlock)) (.slice Ao34 t488.length co34) t488) := ⟨by rw [← hq_]; exact (rz HO490)⟩; have n3_ : Aside0 (Kd.R (Kd.int .i64) 3 w33 w.heap.size (fun k_ => ((True ∧ some k_ ≠ (.slice Ao29 t481.length co29 : Value).ownBlock) ∧ some k_ ≠ (.slice Ao34 t488.length co34 : Value).ownBlock)) (.slice Ao35 t491.length co35) t491) := ⟨by rw [← hq_]; exact (rz HO493)⟩; have n4_ : Aside0 (w33.heap[gb487]? = some (.cells #[.int .i64 t480, .slice Ao29 t481.length co29] 25 (0, 0))) := ⟨by rw [← hq_]; exact (bz BK487)⟩; have n5_ : Aside0 (Below w.heap.size w w33) := ⟨by rw [← hq_]; exact bh⟩; clear HO483 HO486 HO490 HO493 BK487 HB hq_; have HO483 := n0_; have HO486 := n1_; have HO490 := n2_; have HO493 := n3_; have BK487 := n4_; have HB := n5_; clear n0_ n1_ n2_ n3_ n4_ n5_))
    have n0_ := Aside0.mk (Kd.R_drew HO483.out)
    have n1_ := Aside0.mk (Kd.V_drew HO486.out)
    have n2_ := Aside0.mk (Kd.R_drew HO490.out)
    have n3_ := Aside0.mk (Kd.R_drew HO493.out)
    have n4_ := Aside0.mk (blk_drew BK487.out)
    have n5_ := Aside0.mk (below_drew1 HB.out)
    clear HO483 HO486 HO490 HO493 BK487 HB
    have HO483 := n0_
    have HO486 := n1_
    have HO490 := n2_
    have HO493 := n3_
    have BK487 := n4_
    have HB := n5_
    clear n0_ n1_ n2_ n3_ n4_ n5_
    refine start_ (n := 6) (S := fun w' => w'.cell? ⟨gb487, 0, none⟩ = some (.int .i64 t480) ∧ w'.cell? ⟨gb487, 1, none⟩ = some (.slice Ao29 t481.length co29)) (ds := []) #[F,F,F,F,F,F] kr rfl rfl ⟨cz0 BK487, cz1 BK487⟩ (fun hHeld => ?_)
    generalize w33.drew = w36 at HO483 HO486 HO490 HO493 BK487 HB hHeld ⊢
    refine pu 2 (some 41) #[F,F,T,F,F,F] kr ?_
    refine tk2 0 (some 39) #[T,F,T,F,F,F] kr ?_
    refine tk2 1 (some 40) #[T,T,T,F,F,F] kr ?_
    refine one_ (i := 3) (N := some 42) #[T,T,T,T,F,F] rfl rfl kr (by decide) (fun K hK => ?_)
    refine goes_ Try.func16 kr rfl #[.agg #[.int .i64 t480, .slice Ao29 t481.length co29], .slice Ao30 t484.length co30] (by rfl) rfl rfl lm ?_
    with_reducible refine (impl_DualTerm.calls k t480 _ _ t481 _ _ t484 t497 _ ?side1 ?side2 ?side3 ?side4 A24.out).mono ?_
    (case side1 => repeat (first | exact (Kd.R_reads' HO483.out).2.2 | (with_reducible refine Kd.C_alloc ?_ _) | (with_reducible refine Kd.C_drewN ?_ _) | (with_reducible refine Kd.C_drew ?_)))
    (case side2 => exact (Kd.R_reads' HO483.out).2.1)
    (case side3 => repeat (first | exact (Kd.V_reads' HO486.out).2.2 | (with_reducible refine Kd.C_alloc ?_ _) | (with_reducible refine Kd.C_drewN ?_ _) | (with_reducible refine Kd.C_drew ?_)))
    (case side4 => exact (Kd.V_reads' HO486.out).2.1)
    rintro e w37 ⟨v498, rfl, ho0, hb⟩
    refine ⟨_, rfl, ?_⟩
    have n0_ := Aside0.mk (Kd.R_below (rz HO483) hb)
    have n1_ := Aside0.mk (Kd.V_elder' (vz HO486) (Kd.R_base ho0) hb)
    have n2_ := Aside0.mk (Kd.R_below (rz HO490) hb)
    have n3_ := Aside0.mk (Kd.R_below (rz HO493) hb)
    have n4_ := Aside0.mk (Kd.R_lower ho0 (below_size bh))
    have n5_ := Aside0.mk (blk_below (bz BK487) hb)
    have n6_ := Aside0.mk (below_step bh hb)
    clear HO483 HO486 HO490 HO493 BK487 HB
    have HO483 := n0_
    have HO486 := n1_
    have HO490 := n2_
    have HO493 := n3_
    have HO499 := n4_
    have BK487 := n5_
    have HB := n6_
    clear n0_ n1_ n2_ n3_ n4_ n5_ n6_
    (try clear hb)
    (try clear hb2)
    (try clear hk)
    (try clear hi)
    (try clear ho0)
    obtain ⟨Ao38, co38, eo38⟩ := Kd.R_slice HO499.out
    (first | subst eo38 | (injection eo38 with f1_ f2_ f3_; have f4_ := f1_.symm; have f5_ := f3_.symm; clear f1_ f2_ f3_; subst f4_; subst f5_))
    refine hK.out _ _ ⟨cz0 BK487, cz1 BK487⟩ (fun hHeld => ?_)
    clear hK K
    refine norm_ (a' := ?_) ?_ ?_
    rotate_left
    ·show Act.put _ (some 42) _ = _
     simp only [Act.put, List.setIfInBounds_toArray, List.set_cons_zero, List.set_cons_succ, i64_w, i32_w]
     rfl
    refine one_ (i := 4) (N := some 43) #[T,T,T,T,T,F] rfl rfl kr (by decide) (fun K hK => ?_)
    refine goes_ Try.func15 kr rfl #[.agg #[.int .i64 t480, .slice Ao29 t481.length co29], .slice Ao38 t497.length co38] (by rfl) rfl rfl lm ?_
    with_reducible refine (impl_LeastConsents.calls k t480 _ _ t481 _ _ t497 t500 _ ?side1 ?side2 ?side3 ?side4 A25.out).mono ?_
    (case side1 => repeat (first | exact (Kd.R_reads' HO483.out).2.2 | (with_reducible refine Kd.C_alloc ?_ _) | (with_reducible refine Kd.C_drewN ?_ _) | (with_reducible refine Kd.C_drew ?_)))
    (case side2 => exact (Kd.R_reads' HO483.out).2.1)
    (case side3 => repeat (first | exact (Kd.R_reads' HO499.out).2.2 | (with_reducible refine Kd.C_alloc ?_ _) | (with_reducible refine Kd.C_drewN ?_ _) | (with_reducible refine Kd.C_drew ?_)))
    (case side4 => exact (Kd.R_reads' HO499.out).2.1)
    rintro e w39 ⟨v501, rfl, ho0, hb⟩
    refine ⟨_, rfl, ?_⟩
    have n0_ := Aside0.mk (Kd.R_elder' (rz HO483) (Kd.R_base ho0) hb)
    have n1_ := Aside0.mk (Kd.V_elder' (vz HO486) (Kd.R_base ho0) hb)
    have n2_ := Aside0.mk (Kd.R_elder' (rz HO490) (Kd.R_base ho0) hb)
    have n3_ := Aside0.mk (Kd.R_elder' (rz HO493) (Kd.R_base ho0) hb)
    have n4_ := Aside0.mk (Kd.R_below (rz HO499) hb)
    have n5_ := Aside0.mk (Kd.R_lower (Kd.R_new' (Kd.R_new' (Kd.R_new' ho0 (Kd.R_lt (rz HO483))) (Kd.R_lt (rz HO490))) (Kd.R_lt (rz HO493))) (below_size bh))
    have n6_ := Aside0.mk (blk_below (bz BK487) hb)
    have n7_ := Aside0.mk (below_step bh hb)
    clear HO483 HO486 HO490 HO493 HO499 BK487 HB
    have HO483 := n0_
    have HO486 := n1_
    have HO490 := n2_
    have HO493 := n3_
    have HO499 := n4_
    have HO502 := n5_
    have BK487 := n6_
    have HB := n7_
    clear n0_ n1_ n2_ n3_ n4_ n5_ n6_ n7_
    (try clear hb)
    (try clear hb2)
    (try clear hk)
    (try clear hi)
    (try clear ho0)
    refine hK.out _ _ ⟨cz0 BK487, cz1 BK487⟩ (fun hHeld => ?_)
    clear hK K
    refine norm_ (a' := ?_) ?_ ?_
    rotate_left
    ·show Act.put _ (some 43) _ = _
     simp only [Act.put, List.setIfInBounds_toArray, List.set_cons_zero, List.set_cons_succ, i64_w, i32_w]
     rfl
    refine pu 5 (some 6) #[T,T,T,T,T,T] kr ?_
    refine done_ kr ?_
    try go_wp2
    go_loopg [7] k (fun kq v7 w' => ∃ (x7_1 : Int), v7 = .int .i64 x7_1 ∧ Aside0 (laws_FnLeastConsents.l0 kq t484 t488 t500 x7_1 t480 t481 = some r) ∧ Aside0 (kq ≤ k) ∧ Aside0 (Kd.V k61 61 w' w.heap.size (fun k_ => some k_ ≠ ((.slice Ao34 t488.length co34) : Value).ownBlock ∧ some k_ ≠ (v501 : Value).ownBlock ∧ some k_ ≠ ((.slice Ao29 t481.length co29) : Value).ownBlock ∧ k_ ≠ gb487) (.slice Ao30 t484.length co30) t484) ∧ Aside0 (Kd.R (Kd.int .i64) 3 w' w.heap.size (fun k_ => some k_ ≠ (v501 : Value).ownBlock ∧ some k_ ≠ ((.slice Ao29 t481.length co29) : Value).ownBlock) (.slice Ao34 t488.length co34) t488) ∧ Aside0 (Kd.R (Kd.int .i64) 3 w' w.heap.size (fun k_ => some k_ ≠ ((.slice Ao34 t488.length co34) : Value).ownBlock ∧ some k_ ≠ ((.slice Ao29 t481.length co29) : Value).ownBlock) v501 t500) ∧ Aside0 (Kd.R (Kd.int .i64) 3 w' w.heap.size (fun k_ => some k_ ≠ ((.slice Ao34 t488.length co34) : Value).ownBlock ∧ some k_ ≠ (v501 : Value).ownBlock) (.slice Ao29 t481.length co29) t481) ∧ Aside0 (w'.heap[gb487]? = some (.cells #[.int .i64 t480, (.slice Ao29 t481.length co29)] 25 (0, 0))) ∧ Aside0 (Below w.heap.size w w'))
    case atStart => exact ⟨(0), (by first | rfl | (simp; done) | (simp [*]; done)), H', ⟨Nat.le_refl _⟩, ⟨mV HO486⟩, ⟨mR HO490⟩, ⟨mR HO502⟩, ⟨mR HO483⟩, ⟨bz BK487⟩, ⟨by exact bh⟩⟩
    case round =>
     clear H'
     try clear c1
     try clear c2
     try clear c2b0
     try clear c2b1
     try clear p2
     try clear c3
     try clear c5
     try clear c7
     try clear c8
     try clear c8b0
     try clear c8b1
     try clear c8b2
     try clear c10
     try clear c14
     try clear c15
     try clear c16
     try clear c19
     try clear c29
     try clear c30
     try clear hcz14_0
     try clear hcz14_1
     try clear hcz18_0
     try clear hcz18_1
     try clear hcz22_0
     try clear hcz22_1
     try clear hcz28_0
     try clear hcz28_1
     try clear hcz32_0
     try clear hcz32_1
     try clear hfz14_0
     try clear hfz14_1
     try clear hfz18_0
     try clear hfz18_1
     try clear hfz22_0
     try clear hfz22_1
     try clear hfz28_0
     try clear hfz28_1
     try clear hfz32_0
     try clear hfz32_1
     obtain ⟨x7_1, rfl, HA, HK1, HO_4, HO_5, HO_6, HO_488001, BK487, HB⟩ := hrel
     cases gk with
     | zero => exact absurd HA.out (by simp [laws_FnLeastConsents.l0])
     | succ k1 =>
      have H := HA.out
      clear HA
      simp only [laws_FnLeastConsents.l0] at H
      by_cases c40 : x7_1 < (t500.length : Int)
      ·rw [if_pos c40] at H
       have c40b0 : decide (x7_1 < (t500.length : Int)) = true := decide_eq_true c40
       clear c40
       have H' := Aside0.mk H
       clear H
       obtain ⟨Ao41, co41, eo41⟩ := Kd.R_slice HO_6.out
       subst eo41
       go_wp2
       go_loopg [8] k1 (fun kq v8 w' => ∃ (x8_2 : Int), v8 = .int .i64 x8_2 ∧ Aside0 (laws_FnLeastConsents.l1 kq t484 t488 t500 x7_1 x8_2 t480 t481 = some r) ∧ Aside0 (kq ≤ k1) ∧ Aside0 (Kd.V k61 61 w' w.heap.size (fun k_ => some k_ ≠ ((.slice Ao34 t488.length co34) : Value).ownBlock ∧ some k_ ≠ ((.slice Ao41 t500.length co41) : Value).ownBlock ∧ some k_ ≠ ((.slice Ao29 t481.length co29) : Value).ownBlock ∧ k_ ≠ gb487) (.slice Ao30 t484.length co30) t484) ∧ Aside0 (Kd.R (Kd.int .i64) 3 w' w.heap.size (fun k_ => some k_ ≠ ((.slice Ao41 t500.length co41) : Value).ownBlock ∧ some k_ ≠ ((.slice Ao29 t481.length co29) : Value).ownBlock) (.slice Ao34 t488.length co34) t488) ∧ Aside0 (Kd.R (Kd.int .i64) 3 w' w.heap.size (fun k_ => some k_ ≠ ((.slice Ao34 t488.length co34) : Value).ownBlock ∧ some k_ ≠ ((.slice Ao29 t481.length co29) : Value).ownBlock) (.slice Ao41 t500.length co41) t500) ∧ Aside0 (Kd.R (Kd.int .i64) 3 w' w.heap.size (fun k_ => some k_ ≠ ((.slice Ao34 t488.length co34) : Value).ownBlock ∧ some k_ ≠ ((.slice Ao41 t500.length co41) : Value).ownBlock) (.slice Ao29 t481.length co29) t481) ∧ Aside0 (w'.heap[gb487]? = some (.cells #[.int .i64 t480, (.slice Ao29 t481.length co29)] 25 (0, 0))) ∧ Aside0 (Below w.heap.size w w'))
       case atStart => exact ⟨(0), (by first | rfl | (simp; done) | (simp [*]; done)), H', ⟨Nat.le_refl _⟩, ⟨vz HO_4⟩, ⟨rz HO_5⟩, ⟨rz HO_6⟩, ⟨rz HO_488001⟩, ⟨bz BK487⟩, ⟨by exact bh⟩⟩
       case round =>
        clear H'
        try clear c1
        try clear c2
        try clear c2b0
        try clear c2b1
        try clear p2
        try clear c3
        try clear c4
        try clear c5
        try clear c7
        try clear c8
        try clear c8b0
        try clear c8b1
        try clear c8b2
        try clear c10
        try clear c14
        try clear c15
        try clear c16
        try clear c19
        try clear c29
        try clear c30
        try clear c40
        try clear c40b0
        try clear hcz14_0
        try clear hcz14_1
        try clear hcz18_0
        try clear hcz18_1
        try clear hcz22_0
        try clear hcz22_1
        try clear hcz28_0
        try clear hcz28_1
        try clear hcz32_0
        try clear hcz32_1
        try clear hfz14_0
        try clear hfz14_1
        try clear hfz18_0
        try clear hfz18_1
        try clear hfz22_0
        try clear hfz22_1
        try clear hfz28_0
        try clear hfz28_1
        try clear hfz32_0
        try clear hfz32_1
        try clear p2
        obtain ⟨x8_2, rfl, HA, HK2, HO_4, HO_5, HO_6, HO_488001, BK487, HB⟩ := hrel
        cases gk with
        | zero => exact absurd HA.out (by simp [laws_FnLeastConsents.l1])
        | succ k2 =>
         have H := HA.out
         clear HA
         simp only [laws_FnLeastConsents.l1] at H
         by_cases c42 : x8_2 < (t488.length : Int)
         ·rw [if_pos c42] at H
          have c42b0 : decide (x8_2 < (t488.length : Int)) = true := decide_eq_true c42
          clear c42
          by_cases c43 : 0 ≤ x7_1
          ·rw [if_pos c43] at H
           have c43b0 : decide (0 ≤ x7_1) = true := decide_eq_true c43
           clear c43
           by_cases c44 : x7_1 < (t500.length : Int)
           ·rw [if_pos c44] at H
            have c44b0 : decide (x7_1 < (t500.length : Int)) = true := decide_eq_true c44
            clear c44
            by_cases c45 : 0 ≤ x8_2
            ·rw [if_pos c45] at H
             have c45b0 : decide (0 ≤ x8_2) = true := decide_eq_true c45
             clear c45
             by_cases c46 : (Go.bits .and .i64 (rd t500 x7_1) (rd t488 x8_2)) = 0
             ·rw [if_pos c46] at H
              exact absurd H (by simp)
             ·rw [if_neg c46] at H
              have c46b0 : ((Go.bits .and .i64 (rd t500 x7_1) (rd t488 x8_2)) == 0) = false := beq_eq_false_iff_ne.mpr c46
              have c46b1 : ((Go.bits .and .i64 (rd t500 x7_1) (rd t488 x8_2)) != 0) = true := bne_iff_ne.mpr c46
              have H' := Aside0.mk H
              clear H
              try go_wp2
              have n0_ := Aside0.mk (Kd.V_drew HO_4.out)
              have n1_ := Aside0.mk (Kd.R_drew HO_5.out)
              have n2_ := Aside0.mk (Kd.R_drew HO_6.out)
              have n3_ := Aside0.mk (Kd.R_drew HO_488001.out)
              have n4_ := Aside0.mk (blk_drew BK487.out)
              have n5_ := Aside0.mk (below_drew1 HB.out)
              clear HO_4 HO_5 HO_6 HO_488001 BK487 HB
              have HO_4 := n0_
              have HO_5 := n1_
              have HO_6 := n2_
              have HO_488001 := n3_
              have BK487 := n4_
              have HB := n5_
              clear n0_ n1_ n2_ n3_ n4_ n5_
              have p504 : 0 ≤ (x7_1 : Int) := oda
              have q504 : x7_1 < (t500.length : Int) := oda
              obtain ⟨ad504, e504, hx504_0⟩ := Kd.at_int (Kd.R_reads' HO_6.out).2.2 x7_1 p504 q504
              cases e504
              replace p504 := eq_true p504
              replace q504 := eq_true q504
              have p505 : 0 ≤ (x8_2 : Int) := oda
              have q505 : x8_2 < (t488.length : Int) := oda
              obtain ⟨ad505, e505, hx505_0⟩ := Kd.at_int (Kd.R_reads' HO_5.out).2.2 x8_2 p505 q505
              cases e505
              replace p505 := eq_true p505
              replace q505 := eq_true q505
              refine start_ (n := 10) (S := fun w' => w'.cell? (ad504.add (x7_1).toNat) = some (.int .i64 (rd t500 x7_1)) ∧ w'.cell? (ad505.add (x8_2).toNat) = some (.int .i64 (rd t488 x8_2))) (ds := []) #[F,F,F,F,F,F,F,F,F,F] kr rfl rfl ⟨hx504_0, hx505_0⟩ (fun hHeld => ?_); refine with_tabW laws_FnLeastConsents.tab16 laws_FnLeastConsents.bits16 (fun HT_ HW_ => ?_)
              generalize wr.drew = w47 at HO_4 HO_5 HO_6 HO_488001 BK487 HB hx504_0 hx505_0 hHeld ⊢
              refine pu 0 (some 56) #[T,F,F,F,F,F,F,F,F,F] (any_of HT_.out kr) ?_
              refine pu 1 (some 57) #[T,T,F,F,F,F,F,F,F,F] (any_of HT_.out kr) ?_
              refine pu 2 (some 58) #[T,T,T,F,F,F,F,F,F,F] (any_of HT_.out kr) ?_
              refine pu 4 (some 60) #[T,T,T,F,T,F,F,F,F,F] (any_of HT_.out kr) ?_
              refine pu 5 (some 61) #[T,T,T,F,T,T,F,F,F,F] (any_of HT_.out kr) ?_
              refine pu 6 (some 62) #[T,T,T,F,T,T,T,F,F,F] (any_of HT_.out kr) ?_
              refine tk2 3 (some 59) #[T,T,T,T,T,T,T,F,F,F] (take_ofW HT_.out HW_.out kr) ?_
              refine tk2 7 (some 63) #[T,T,T,T,T,T,T,T,F,F] (take_ofW HT_.out HW_.out kr) ?_
              refine pu 8 (some 64) #[T,T,T,T,T,T,T,T,T,F] (any_of HT_.out kr) ?_
              refine pu 9 (some 65) #[T,T,T,T,T,T,T,T,T,T] (any_of HT_.out kr) ?_
              refine done_ (done_of HT_.out kr) ?_
              try go_wp2
              go_roundg k2
              case measure => have := HK1.out; have := HK2.out; omega
              case rel => exact ⟨(wrap64 (x8_2 + 1)), (by first | rfl | (simp; done) | (simp [*]; done)), H', ⟨by have := HK1.out; have := HK2.out; omega⟩, ⟨vz HO_4⟩, ⟨rz HO_5⟩, ⟨rz HO_6⟩, ⟨rz HO_488001⟩, ⟨bz BK487⟩, ⟨by exact bh⟩⟩
            ·rw [if_neg c45] at H
             exact absurd H (by simp)
           ·rw [if_neg c44] at H
            exact absurd H (by simp)
          ·rw [if_neg c43] at H
           exact absurd H (by simp)
         ·rw [if_neg c42] at H
          have c42b0 : decide (x8_2 < (t488.length : Int)) = false := decide_eq_false c42
          clear c42
          have H' := Aside0.mk H
          clear H
          go_wp2
          go_loopg [9] k2 (fun kq v9 w' => ∃ (x9_3 : Int), v9 = .int .i64 x9_3 ∧ Aside0 (laws_FnLeastConsents.l2 kq t484 t488 t500 x7_1 x9_3 t480 t481 = some r) ∧ Aside0 (kq ≤ k2) ∧ Aside0 (Kd.V k61 61 w' w.heap.size (fun k_ => some k_ ≠ ((.slice Ao34 t488.length co34) : Value).ownBlock ∧ some k_ ≠ ((.slice Ao41 t500.length co41) : Value).ownBlock ∧ some k_ ≠ ((.slice Ao29 t481.length co29) : Value).ownBlock ∧ k_ ≠ gb487) (.slice Ao30 t484.length co30) t484) ∧ Aside0 (Kd.R (Kd.int .i64) 3 w' w.heap.size (fun k_ => some k_ ≠ ((.slice Ao41 t500.length co41) : Value).ownBlock ∧ some k_ ≠ ((.slice Ao29 t481.length co29) : Value).ownBlock) (.slice Ao34 t488.length co34) t488) ∧ Aside0 (Kd.R (Kd.int .i64) 3 w' w.heap.size (fun k_ => some k_ ≠ ((.slice Ao34 t488.length co34) : Value).ownBlock ∧ some k_ ≠ ((.slice Ao29 t481.length co29) : Value).ownBlock) (.slice Ao41 t500.length co41) t500) ∧ Aside0 (Kd.R (Kd.int .i64) 3 w' w.heap.size (fun k_ => some k_ ≠ ((.slice Ao34 t488.length co34) : Value).ownBlock ∧ some k_ ≠ ((.slice Ao41 t500.length co41) : Value).ownBlock) (.slice Ao29 t481.length co29) t481) ∧ Aside0 (w'.heap[gb487]? = some (.cells #[.int .i64 t480, (.slice Ao29 t481.length co29)] 25 (0, 0))) ∧ Aside0 (Below w.heap.size w w'))
          case atStart => exact ⟨(0), (by first | rfl | (simp; done) | (simp [*]; done)), H', ⟨Nat.le_refl _⟩, ⟨vz HO_4⟩, ⟨rz HO_5⟩, ⟨rz HO_6⟩, ⟨rz HO_488001⟩, ⟨bz BK487⟩, ⟨by exact bh⟩⟩
          case round =>
           clear H'
           try clear c1
           try clear c2
           try clear c2b0
           try clear c2b1
           try clear p2
           try clear c3
           try clear c4
           try clear c5
           try clear p5
           try clear q5
           try clear hx5
           try clear p6
           try clear c7
           try clear c8
           try clear c8b0
           try clear c8b1
           try clear c8b2
           try clear c10
           try clear c14
           try clear c15
           try clear c16
           try clear c19
           try clear c29
           try clear c30
           try clear c40
           try clear c40b0
           try clear c42
           try clear c42b0
           try clear c43
           try clear c43b0
           try clear c44
           try clear c44b0
           try clear c45
           try clear c45b0
           try clear c46
           try clear c46b0
           try clear c46b1
           try clear hcz14_0
           try clear hcz14_1
           try clear hcz18_0
           try clear hcz18_1
           try clear hcz22_0
           try clear hcz22_1
           try clear hcz28_0
           try clear hcz28_1
           try clear hcz32_0
           try clear hcz32_1
           try clear hfz14_0
           try clear hfz14_1
           try clear hfz18_0
           try clear hfz18_1
           try clear hfz22_0
           try clear hfz22_1
           try clear hfz28_0
           try clear hfz28_1
           try clear hfz32_0
           try clear hfz32_1
           try clear hx504_0
           try clear hx505_0
           try clear p2
           try clear p504
           try clear p505
           try clear q504
           try clear q505
           obtain ⟨x9_3, rfl, HA, HK3, HO_4, HO_5, HO_6, HO_488001, BK487, HB⟩ := hrel
           cases gk with
           | zero => exact absurd HA.out (by simp [laws_FnLeastConsents.l2])
           | succ k3 =>
            have H := HA.out
            clear HA
            simp only [laws_FnLeastConsents.l2] at H
            by_cases c48 : x9_3 < t480
            ·rw [if_pos c48] at H
             have c48b0 : decide (x9_3 < t480) = true := decide_eq_true c48
             clear c48
             by_cases c49 : 0 ≤ x7_1
             ·rw [if_pos c49] at H
              have c49b0 : decide (0 ≤ x7_1) = true := decide_eq_true c49
              clear c49
              by_cases c50 : x7_1 < (t500.length : Int)
              ·rw [if_pos c50] at H
               have c50b0 : decide (x7_1 < (t500.length : Int)) = true := decide_eq_true c50
               clear c50
               by_cases c51 : 0 ≤ x9_3
               ·rw [if_pos c51] at H
                have c51b0 := eq_true c51
                have c51b1 : decide (0 ≤ x9_3) = true := decide_eq_true c51
                clear c51
                obtain ⟨ji52, hji52⟩ : ∃ j_ : Int, (shr .i64 (rd t500 x7_1) x9_3) = j_ := ⟨_, rfl⟩
                replace H : (if (Int.tmod (ji52) 2) = 0 then (laws_FnLeastConsents.l2 k3 t484 t488 t500 x7_1 (wrap64 (x9_3 + 1)) t480 t481) else (laws_FnLeastConsents.l3 k3 t484 t488 t500 x7_1 x9_3 false 0 t480 t481)) = some r := by first | (rw [hji52] at H; exact H) | (simp only [hji52] at H ⊢; exact H)
                have hji52_ : ((rd t500 x7_1) / 2 ^ min x9_3.toNat 64) = ji52 := hji52
                have hji52z : x9_3 ≤ 64 → ((rd t500 x7_1) / 2 ^ x9_3.toNat) = ji52 := shr_small hji52
                by_cases c53 : (Int.tmod (ji52) 2) = 0
                ·rw [if_pos c53] at H
                 have c53b0 : ((Int.tmod (ji52) 2) == 0) = true := beq_iff_eq.mpr c53
                 have c53b1 : ((Int.tmod (ji52) 2) != 0) = false := bne_eq_false_iff_eq.mpr c53
                 clear c53
                 have H' := Aside0.mk H
                 clear H
                 have hcz54_0 := cz0 BK487
                 have hcz54_1 := cz1 BK487
                 have hfz54_0 := blk_frozen BK487.out 0
                 have hfz54_1 := blk_frozen BK487.out 1
                 have p506 : 0 ≤ (x7_1 : Int) := oda
                 have q506 : x7_1 < (t500.length : Int) := oda
                 obtain ⟨ad506, e506, hx506_0⟩ := Kd.at_int (Kd.R_reads' HO_6.out).2.2 x7_1 p506 q506
                 cases e506
                 replace p506 := eq_true p506
                 replace q506 := eq_true q506
                 go_wp2
                 go_roundg k3
                 case measure => have := HK1.out; have := HK2.out; have := HK3.out; omega
                 case rel => exact ⟨(wrap64 (x9_3 + 1)), (by first | rfl | (simp; done) | (simp [*]; done)), H', ⟨by have := HK1.out; have := HK2.out; have := HK3.out; omega⟩, ⟨vz HO_4⟩, ⟨rz HO_5⟩, ⟨rz HO_6⟩, ⟨rz HO_488001⟩, ⟨bz BK487⟩, ⟨by exact bh⟩⟩
                ·rw [if_neg c53] at H
                 have c53b0 : ((Int.tmod (ji52) 2) == 0) = false := beq_eq_false_iff_ne.mpr c53
                 have c53b1 : ((Int.tmod (ji52) 2) != 0) = true := bne_iff_ne.mpr c53
                 have H' := Aside0.mk H
                 clear H
                 have hcz55_0 := cz0 BK487
                 have hcz55_1 := cz1 BK487
                 have hfz55_0 := blk_frozen BK487.out 0
                 have hfz55_1 := blk_frozen BK487.out 1
                 have p506 : 0 ≤ (x7_1 : Int) := oda
                 have q506 : x7_1 < (t500.length : Int) := oda
                 obtain ⟨ad506, e506, hx506_0⟩ := Kd.at_int (Kd.R_reads' HO_6.out).2.2 x7_1 p506 q506
                 cases e506
                 replace p506 := eq_true p506
                 replace q506 := eq_true q506
                 go_wp2
                 go_loopg [10, 11] k3 (fun kq v10 v11 w' => ∃ (x10_4 : Bool) (x11_4 : Int), v10 = .bool x10_4 ∧ v11 = .int .i64 x11_4 ∧ Aside0 (laws_FnLeastConsents.l3 kq t484 t488 t500 x7_1 x9_3 x10_4 x11_4 t480 t481 = some r) ∧ Aside0 (kq ≤ k3) ∧ Aside0 (Kd.V k61 61 w' w.heap.size (fun k_ => some k_ ≠ ((.slice Ao34 t488.length co34) : Value).ownBlock ∧ some k_ ≠ ((.slice (some ad506) t500.length co41) : Value).ownBlock ∧ some k_ ≠ ((.slice Ao29 t481.length co29) : Value).ownBlock ∧ k_ ≠ gb487) (.slice Ao30 t484.length co30) t484) ∧ Aside0 (Kd.R (Kd.int .i64) 3 w' w.heap.size (fun k_ => some k_ ≠ ((.slice (some ad506) t500.length co41) : Value).ownBlock ∧ some k_ ≠ ((.slice Ao29 t481.length co29) : Value).ownBlock) (.slice Ao34 t488.length co34) t488) ∧ Aside0 (Kd.R (Kd.int .i64) 3 w' w.heap.size (fun k_ => some k_ ≠ ((.slice Ao34 t488.length co34) : Value).ownBlock ∧ some k_ ≠ ((.slice Ao29 t481.length co29) : Value).ownBlock) (.slice (some ad506) t500.length co41) t500) ∧ Aside0 (Kd.R (Kd.int .i64) 3 w' w.heap.size (fun k_ => some k_ ≠ ((.slice Ao34 t488.length co34) : Value).ownBlock ∧ some k_ ≠ ((.slice (some ad506) t500.length co41) : Value).ownBlock) (.slice Ao29 t481.length co29) t481) ∧ Aside0 (w'.heap[gb487]? = some (.cells #[.int .i64 t480, (.slice Ao29 t481.length co29)] 25 (0, 0))) ∧ Aside0 (Below w.heap.size w w'))
                 case atStart => exact ⟨(false), (0), (by first | rfl | (simp; done) | (simp [*]; done)), (by first | rfl | (simp; done) | (simp [*]; done)), H', ⟨Nat.le_refl _⟩, ⟨vz HO_4⟩, ⟨rz HO_5⟩, ⟨rz HO_6⟩, ⟨rz HO_488001⟩, ⟨bz BK487⟩, ⟨by exact bh⟩⟩
                 case round =>
                  clear H'
                  try clear c1
                  try clear c2
                  try clear c2b0
                  try clear c2b1
                  try clear p2
                  try clear c3
                  try clear c4
                  try clear c5
                  try clear p5
                  try clear q5
                  try clear hx5
                  try clear p6
                  try clear c7
                  try clear c8
                  try clear c8b0
                  try clear c8b1
                  try clear c8b2
                  try clear c10
                  try clear c14
                  try clear c15
                  try clear c16
                  try clear c19
                  try clear c29
                  try clear c30
                  try clear c40
                  try clear c40b0
                  try clear c42
                  try clear c42b0
                  try clear c43
                  try clear c43b0
                  try clear c44
                  try clear c44b0
                  try clear c45
                  try clear c45b0
                  try clear c46
                  try clear c46b0
                  try clear c46b1
                  try clear c48
                  try clear c48b0
                  try clear c49
                  try clear c49b0
                  try clear c50
                  try clear c50b0
                  try clear p50
                  try clear q50
                  try clear hx50
                  try clear c51
                  try clear c51b0
                  try clear c51b1
                  try clear c53
                  try clear c53b0
                  try clear c53b1
                  try clear hcz14_0
                  try clear hcz14_1
                  try clear hcz18_0
                  try clear hcz18_1
                  try clear hcz22_0
                  try clear hcz22_1
                  try clear hcz28_0
                  try clear hcz28_1
                  try clear hcz32_0
                  try clear hcz32_1
                  try clear hcz54_0
                  try clear hcz54_1
                  try clear hcz55_0
                  try clear hcz55_1
                  try clear hfz14_0
                  try clear hfz14_1
                  try clear hfz18_0
                  try clear hfz18_1
                  try clear hfz22_0
                  try clear hfz22_1
                  try clear hfz28_0
                  try clear hfz28_1
                  try clear hfz32_0
                  try clear hfz32_1
                  try clear hfz54_0
                  try clear hfz54_1
                  try clear hfz55_0
                  try clear hfz55_1
                  try clear hx504_0
                  try clear hx505_0
                  try clear hx506_0
                  try clear p2
                  try clear p5
                  try clear p504
                  try clear p505
                  try clear p506
                  try clear p6
                  try clear q5
                  try clear q504
                  try clear q505
                  try clear q506
                  obtain ⟨x10_4, x11_4, rfl, rfl, HA, HK4, HO_4, HO_5, HO_6, HO_488001, BK487, HB⟩ := hrel
                  cases gk with
                  | zero => exact absurd HA.out (by simp [laws_FnLeastConsents.l3])
                  | succ k4 =>
                   have H := HA.out
                   clear HA
                   simp only [laws_FnLeastConsents.l3] at H
                   by_cases c56 : x11_4 < (t488.length : Int)
                   ·rw [if_pos c56] at H
                    have c56b0 : decide (x11_4 < (t488.length : Int)) = true := decide_eq_true c56
                    clear c56
                    by_cases c57 : x10_4 = true
                    ·subst c57
                     have H1 : (laws_FnLeastConsents.l3 k4 t484 t488 t500 x7_1 x9_3 true (wrap64 (x11_4 + 1)) t480 t481) = some r := by rw [if_pos rfl] at H; exact H
                     clear H
                     have H := H1
                     clear H1
                     have H' := Aside0.mk H
                     clear H
                     try go_wp2
                     have n0_ := Aside0.mk (Kd.V_drew HO_4.out)
                     have n1_ := Aside0.mk (Kd.R_drew HO_5.out)
                     have n2_ := Aside0.mk (Kd.R_drew HO_6.out)
                     have n3_ := Aside0.mk (Kd.R_drew HO_488001.out)
                     have n4_ := Aside0.mk (blk_drew BK487.out)
                     have n5_ := Aside0.mk (below_drew1 HB.out)
                     clear HO_4 HO_5 HO_6 HO_488001 BK487 HB
                     have HO_4 := n0_
                     have HO_5 := n1_
                     have HO_6 := n2_
                     have HO_488001 := n3_
                     have BK487 := n4_
                     have HB := n5_
                     clear n0_ n1_ n2_ n3_ n4_ n5_
                     refine start_ (n := 17) (S := fun w' => True) (ds := []) #[F,F,F,F,F,F,F,F,F,F,F,F,F,F,F,F,F] kr rfl rfl trivial (fun hHeld => ?_); refine with_tabW laws_FnLeastConsents.tab26 laws_FnLeastConsents.bits26 (fun HT_ HW_ => ?_)
                     generalize wr.drew = w58 at HO_4 HO_5 HO_6 HO_488001 BK487 HB hHeld ⊢
                     refine pu 0 (some 86) #[T,F,F,F,F,F,F,F,F,F,F,F,F,F,F,F,F] (any_of HT_.out kr) ?_
                     refine pu 1 (some 87) #[T,T,F,F,F,F,F,F,F,F,F,F,F,F,F,F,F] (any_of HT_.out kr) ?_
                     refine pure_ (i := 2) (N := some 88) (v := undef) (a' := ?_) #[T,T,T,F,F,F,F,F,F,F,F,F,F,F,F,F,F] rfl rfl (any_of HT_.out kr) (fun _ _ _ h => h) (Or.inr ⟨by rfl, rfl⟩) ?_ ?_
                     rotate_left
                     ·simp only [Act.put, List.setIfInBounds_toArray, List.set_cons_zero, List.set_cons_succ, i64_w, i32_w]
                      rfl
                     refine pure_ (i := 3) (N := some 89) (v := undef) (a' := ?_) #[T,T,T,T,F,F,F,F,F,F,F,F,F,F,F,F,F] rfl rfl (any_of HT_.out kr) (fun _ _ _ h => h) (Or.inr ⟨by rfl, rfl⟩) ?_ ?_
                     rotate_left
                     ·simp only [Act.put, List.setIfInBounds_toArray, List.set_cons_zero, List.set_cons_succ, i64_w, i32_w]
                      rfl
                     refine pure_ (i := 4) (N := some 90) (v := undef) (a' := ?_) #[T,T,T,T,T,F,F,F,F,F,F,F,F,F,F,F,F] rfl rfl (any_of HT_.out kr) (fun _ _ _ h => h) (Or.inr ⟨by rfl, rfl⟩) ?_ ?_
                     rotate_left
                     ·simp only [Act.put, List.setIfInBounds_toArray, List.set_cons_zero, List.set_cons_succ, i64_w, i32_w]
                      rfl
                     refine pure_ (i := 5) (N := some 91) (v := undef) (a' := ?_) #[T,T,T,T,T,T,F,F,F,F,F,F,F,F,F,F,F] rfl rfl (any_of HT_.out kr) (fun _ _ _ h => h) (Or.inr ⟨by rfl, rfl⟩) ?_ ?_
                     rotate_left
                     ·simp only [Act.put, List.setIfInBounds_toArray, List.set_cons_zero, List.set_cons_succ, i64_w, i32_w]
                      rfl
                     refine pure_ (i := 6) (N := some 92) (v := undef) (a' := ?_) #[T,T,T,T,T,T,T,F,F,F,F,F,F,F,F,F,F] rfl rfl (any_of HT_.out kr) (fun _ _ _ h => h) (Or.inr ⟨by rfl, rfl⟩) ?_ ?_
                     rotate_left
                     ·simp only [Act.put, List.setIfInBounds_toArray, List.set_cons_zero, List.set_cons_succ, i64_w, i32_w]
                      rfl
                     refine pure_ (i := 7) (N := some 93) (v := undef) (a' := ?_) #[T,T,T,T,T,T,T,T,F,F,F,F,F,F,F,F,F] rfl rfl (any_of HT_.out kr) (fun _ _ _ h => h) (Or.inr ⟨by rfl, rfl⟩) ?_ ?_
                     rotate_left
                     ·simp only [Act.put, List.setIfInBounds_toArray, List.set_cons_zero, List.set_cons_succ, i64_w, i32_w]
                      rfl
                     refine pure_ (i := 8) (N := some 94) (v := undef) (a' := ?_) #[T,T,T,T,T,T,T,T,T,F,F,F,F,F,F,F,F] rfl rfl (any_of HT_.out kr) (fun _ _ _ h => h) (Or.inr ⟨by rfl, rfl⟩) ?_ ?_
                     rotate_left
                     ·simp only [Act.put, List.setIfInBounds_toArray, List.set_cons_zero, List.set_cons_succ, i64_w, i32_w]
                      rfl
                     refine pure_ (i := 9) (N := some 95) (v := undef) (a' := ?_) #[T,T,T,T,T,T,T,T,T,T,F,F,F,F,F,F,F] rfl rfl (any_of HT_.out kr) (fun _ _ _ h => h) (Or.inr ⟨by rfl, rfl⟩) ?_ ?_
                     rotate_left
                     ·simp only [Act.put, List.setIfInBounds_toArray, List.set_cons_zero, List.set_cons_succ, i64_w, i32_w]
                      rfl
                     refine pure_ (i := 10) (N := some 96) (v := undef) (a' := ?_) #[T,T,T,T,T,T,T,T,T,T,T,F,F,F,F,F,F] rfl rfl (any_of HT_.out kr) (fun _ _ _ h => h) (Or.inr ⟨by rfl, rfl⟩) ?_ ?_
                     rotate_left
                     ·simp only [Act.put, List.setIfInBounds_toArray, List.set_cons_zero, List.set_cons_succ, i64_w, i32_w]
                      rfl
                     refine pure_ (i := 11) (N := some 97) (v := undef) (a' := ?_) #[T,T,T,T,T,T,T,T,T,T,T,T,F,F,F,F,F] rfl rfl (any_of HT_.out kr) (fun _ _ _ h => h) (Or.inr ⟨by rfl, rfl⟩) ?_ ?_
                     rotate_left
                     ·simp only [Act.put, List.setIfInBounds_toArray, List.set_cons_zero, List.set_cons_succ, i64_w, i32_w]
                      rfl
                     refine pure_ (i := 12) (N := some 98) (v := undef) (a' := ?_) #[T,T,T,T,T,T,T,T,T,T,T,T,T,F,F,F,F] rfl rfl (any_of HT_.out kr) (fun _ _ _ h => h) (Or.inr ⟨by rfl, rfl⟩) ?_ ?_
                     rotate_left
                     ·simp only [Act.put, List.setIfInBounds_toArray, List.set_cons_zero, List.set_cons_succ, i64_w, i32_w]
                      rfl
                     refine pure_ (i := 13) (N := some 99) (v := undef) (a' := ?_) #[T,T,T,T,T,T,T,T,T,T,T,T,T,T,F,F,F] rfl rfl (any_of HT_.out kr) (fun _ _ _ h => h) (Or.inr ⟨by rfl, rfl⟩) ?_ ?_
                     rotate_left
                     ·simp only [Act.put, List.setIfInBounds_toArray, List.set_cons_zero, List.set_cons_succ, i64_w, i32_w]
                      rfl
                     refine pure_ (i := 14) (N := some 100) (v := undef) (a' := ?_) #[T,T,T,T,T,T,T,T,T,T,T,T,T,T,T,F,F] rfl rfl (any_of HT_.out kr) (fun _ _ _ h => h) (Or.inr ⟨by rfl, rfl⟩) ?_ ?_
                     rotate_left
                     ·simp only [Act.put, List.setIfInBounds_toArray, List.set_cons_zero, List.set_cons_succ, i64_w, i32_w]
                      rfl
                     refine pu 15 (some 101) #[T,T,T,T,T,T,T,T,T,T,T,T,T,T,T,T,F] (any_of HT_.out kr) ?_
                     refine pu 16 (some 10) #[T,T,T,T,T,T,T,T,T,T,T,T,T,T,T,T,T] (any_of HT_.out kr) ?_
                     refine done_ (done_of HT_.out kr) ?_
                     try go_wp2
                     go_roundg k4
                     case measure => have := HK1.out; have := HK2.out; have := HK3.out; have := HK4.out; omega
                     case rel => exact ⟨(true), (wrap64 (x11_4 + 1)), (by first | rfl | (simp; done) | (simp [*]; done)), (by first | rfl | (simp; done) | (simp [*]; done)), H', ⟨by have := HK1.out; have := HK2.out; have := HK3.out; have := HK4.out; omega⟩, ⟨vz HO_4⟩, ⟨rz HO_5⟩, ⟨rz HO_6⟩, ⟨rz HO_488001⟩, ⟨bz BK487⟩, ⟨by exact bh⟩⟩
                    ·replace c57 := Bool.eq_false_iff.mpr c57
                     subst c57
                     have H1 : (if 0 ≤ x7_1 then (if x7_1 < (t500.length : Int) then (if 0 ≤ x9_3 then (if 0 ≤ x11_4 then (laws_FnLeastConsents.l3 k4 t484 t488 t500 x7_1 x9_3 ((Go.bits .and .i64 (wrap64 ((rd t500 x7_1) - (shl .i64 1 x9_3))) (rd t488 x11_4)) == 0) (wrap64 (x11_4 + 1)) t480 t481) else (none)) else (none)) else (none)) else (none)) = some r := by rw [if_neg (show ¬ (false = true) by decide)] at H; exact H
                     clear H
                     have H := H1
                     clear H1
                     by_cases c59 : 0 ≤ x7_1
                     ·rw [if_pos c59] at H
                      have c59b0 : decide (0 ≤ x7_1) = true := decide_eq_true c59
                      clear c59
                      by_cases c60 : x7_1 < (t500.length : Int)
                      ·rw [if_pos c60] at H
                       have c60b0 : decide (x7_1 < (t500.length : Int)) = true := decide_eq_true c60
                       clear c60
                       by_cases c61 : 0 ≤ x9_3
                       ·rw [if_pos c61] at H
                        have c61b0 := eq_true c61
                        have c61b1 : decide (0 ≤ x9_3) = true := decide_eq_true c61
                        clear c61
                        obtain ⟨ji62, hji62⟩ : ∃ j_ : Int, (shl .i64 1 x9_3) = j_ := ⟨_, rfl⟩
                        replace H : (if 0 ≤ x11_4 then (laws_FnLeastConsents.l3 k4 t484 t488 t500 x7_1 x9_3 ((Go.bits .and .i64 (wrap64 ((rd t500 x7_1) - (ji62))) (rd t488 x11_4)) == 0) (wrap64 (x11_4 + 1)) t480 t481) else (none)) = some r := by first | (rw [hji62] at H; exact H) | (simp only [hji62] at H ⊢; exact H)
                        have hji62_ : (IntKind.i64.wrap (1 * 2 ^ min x9_3.toNat 64)) = ji62 := hji62
                        have hji62z : x9_3 ≤ 64 → (IntKind.i64.wrap (1 * 2 ^ x9_3.toNat)) = ji62 := shl_small hji62
                        have hji62u : (IntKind.i64.wrap (2 ^ min x9_3.toNat 64)) = ji62 := by have h_ := hji62_; rw [Int.one_mul] at h_; exact h_
                        have hji62v : x9_3 ≤ 64 → (IntKind.i64.wrap (2 ^ x9_3.toNat)) = ji62 := fun hle_ => by have h_ := hji62z hle_; rw [Int.one_mul] at h_; exact h_
                        have hji62y : (wrap64 (1 * 2 ^ min x9_3.toNat 64)) = ji62 := (i64_w _).symm.trans hji62_
                        have hji62x : x9_3 ≤ 64 → (wrap64 (1 * 2 ^ x9_3.toNat)) = ji62 := fun h_ => (i64_w _).symm.trans (hji62z h_)
                        by_cases c63 : 0 ≤ x11_4
                        ·rw [if_pos c63] at H
                         have c63b0 : decide (0 ≤ x11_4) = true := decide_eq_true c63
                         clear c63
                         have H' := Aside0.mk H
                         clear H
                         try go_wp2
                         have n0_ := Aside0.mk (Kd.V_drew HO_4.out)
                         have n1_ := Aside0.mk (Kd.R_drew HO_5.out)
                         have n2_ := Aside0.mk (Kd.R_drew HO_6.out)
                         have n3_ := Aside0.mk (Kd.R_drew HO_488001.out)
                         have n4_ := Aside0.mk (blk_drew BK487.out)
                         have n5_ := Aside0.mk (below_drew1 HB.out)
                         clear HO_4 HO_5 HO_6 HO_488001 BK487 HB
                         have HO_4 := n0_
                         have HO_5 := n1_
                         have HO_6 := n2_
                         have HO_488001 := n3_
                         have BK487 := n4_
                         have HB := n5_
                         clear n0_ n1_ n2_ n3_ n4_ n5_
                         have p507 : 0 ≤ (x7_1 : Int) := oda
                         have q507 : x7_1 < (t500.length : Int) := oda
                         obtain ⟨ad507, e507, hx507_0⟩ := Kd.at_int (Kd.R_reads' HO_6.out).2.2 x7_1 p507 q507
                         obtain rfl : ad506 = ad507 := (by injection e507)
                         replace p507 := eq_true p507
                         replace q507 := eq_true q507
                         have p508 : 0 ≤ (x11_4 : Int) := oda
                         have q508 : x11_4 < (t488.length : Int) := oda
                         obtain ⟨ad508, e508, hx508_0⟩ := Kd.at_int (Kd.R_reads' HO_5.out).2.2 x11_4 p508 q508
                         cases e508
                         replace p508 := eq_true p508
                         replace q508 := eq_true q508
                         refine start_ (n := 17) (S := fun w' => w'.cell? (ad506.add (x7_1).toNat) = some (.int .i64 (rd t500 x7_1)) ∧ w'.cell? (ad508.add (x11_4).toNat) = some (.int .i64 (rd t488 x11_4))) (ds := []) #[F,F,F,F,F,F,F,F,F,F,F,F,F,F,F,F,F] kr rfl rfl ⟨hx507_0, hx508_0⟩ (fun hHeld => ?_); refine with_tabW laws_FnLeastConsents.tab26 laws_FnLeastConsents.bits26 (fun HT_ HW_ => ?_)
                         generalize wr.drew = w64 at HO_4 HO_5 HO_6 HO_488001 BK487 HB hx507_0 hx508_0 hHeld ⊢
                         refine pu 0 (some 86) #[T,F,F,F,F,F,F,F,F,F,F,F,F,F,F,F,F] (any_of HT_.out kr) ?_
                         refine pu 1 (some 87) #[T,T,F,F,F,F,F,F,F,F,F,F,F,F,F,F,F] (any_of HT_.out kr) ?_
                         refine pu 2 (some 88) #[T,T,T,F,F,F,F,F,F,F,F,F,F,F,F,F,F] (any_of HT_.out kr) ?_
                         refine pu 3 (some 89) #[T,T,T,T,F,F,F,F,F,F,F,F,F,F,F,F,F] (any_of HT_.out kr) ?_
                         refine pu 4 (some 90) #[T,T,T,T,T,F,F,F,F,F,F,F,F,F,F,F,F] (any_of HT_.out kr) ?_
                         refine pu 6 (some 92) #[T,T,T,T,T,F,T,F,F,F,F,F,F,F,F,F,F] (any_of HT_.out kr) ?_
                         refine pu 7 (some 93) #[T,T,T,T,T,F,T,T,F,F,F,F,F,F,F,F,F] (any_of HT_.out kr) ?_
                         refine pu 9 (some 95) #[T,T,T,T,T,F,T,T,F,T,F,F,F,F,F,F,F] (any_of HT_.out kr) ?_
                         refine pu 10 (some 96) #[T,T,T,T,T,F,T,T,F,T,T,F,F,F,F,F,F] (any_of HT_.out kr) ?_
                         refine pu 11 (some 97) #[T,T,T,T,T,F,T,T,F,T,T,T,F,F,F,F,F] (any_of HT_.out kr) ?_
                         refine tk2 5 (some 91) #[T,T,T,T,T,T,T,T,F,T,T,T,F,F,F,F,F] (take_ofW HT_.out HW_.out kr) ?_
                         refine pu 8 (some 94) #[T,T,T,T,T,T,T,T,T,T,T,T,F,F,F,F,F] (any_of HT_.out kr) ?_
                         refine tk2 12 (some 98) #[T,T,T,T,T,T,T,T,T,T,T,T,T,F,F,F,F] (take_ofW HT_.out HW_.out kr) ?_
                         refine pu 13 (some 99) #[T,T,T,T,T,T,T,T,T,T,T,T,T,T,F,F,F] (any_of HT_.out kr) ?_
                         refine pu 14 (some 100) #[T,T,T,T,T,T,T,T,T,T,T,T,T,T,T,F,F] (any_of HT_.out kr) ?_
                         refine pu 15 (some 101) #[T,T,T,T,T,T,T,T,T,T,T,T,T,T,T,T,F] (any_of HT_.out kr) ?_
                         refine pu 16 (some 10) #[T,T,T,T,T,T,T,T,T,T,T,T,T,T,T,T,T] (any_of HT_.out kr) ?_
                         refine done_ (done_of HT_.out kr) ?_
                         try go_wp2
                         go_roundg k4
                         case measure => have := HK1.out; have := HK2.out; have := HK3.out; have := HK4.out; omega
                         case rel => exact ⟨(((Go.bits .and .i64 (wrap64 ((rd t500 x7_1) - (ji62))) (rd t488 x11_4)) == 0)), (wrap64 (x11_4 + 1)), (by first | rfl | (simp; done) | (simp only [← hji62] <;> (first | rfl | simp)) | (simp [*]; done)), (by first | rfl | (simp; done) | (simp [*]; done)), H', ⟨by have := HK1.out; have := HK2.out; have := HK3.out; have := HK4.out; omega⟩, ⟨vz HO_4⟩, ⟨rz HO_5⟩, ⟨rz HO_6⟩, ⟨rz HO_488001⟩, ⟨bz BK487⟩, ⟨by exact bh⟩⟩
                        ·rw [if_neg c63] at H
                         exact absurd H (by simp)
                       ·rw [if_neg c61] at H
                        exact absurd H (by simp)
                      ·rw [if_neg c60] at H
                       exact absurd H (by simp)
                     ·rw [if_neg c59] at H
                      exact absurd H (by simp)
                   ·rw [if_neg c56] at H
                    have c56b0 : decide (x11_4 < (t488.length : Int)) = false := decide_eq_false c56
                    clear c56
                    by_cases c65 : x10_4 = true
                    ·subst c65
                     have H1 : (laws_FnLeastConsents.l2 k4 t484 t488 t500 x7_1 (wrap64 (x9_3 + 1)) t480 t481) = some r := by rw [if_pos rfl] at H; exact H
                     clear H
                     have H := H1
                     clear H1
                     have H' := Aside0.mk H
                     clear H
                     go_wp2
                     go_roundg k4
                     case measure => have := HK1.out; have := HK2.out; have := HK3.out; have := HK4.out; omega
                     case rel => exact ⟨(wrap64 (x9_3 + 1)), (by first | rfl | (simp; done) | (simp [*]; done)), H', ⟨by have := HK1.out; have := HK2.out; have := HK3.out; have := HK4.out; omega⟩, ⟨vz HO_4⟩, ⟨rz HO_5⟩, ⟨rz HO_6⟩, ⟨rz HO_488001⟩, ⟨bz BK487⟩, ⟨by exact bh⟩⟩
                    ·replace c65 := Bool.eq_false_iff.mpr c65
                     subst c65
                     have H1 : (none) = some r := by rw [if_neg (show ¬ (false = true) by decide)] at H; exact H
                     clear H
                     have H := H1
                     clear H1
                     exact absurd H (by simp)
               ·rw [if_neg c51] at H
                exact absurd H (by simp)
              ·rw [if_neg c50] at H
               exact absurd H (by simp)
             ·rw [if_neg c49] at H
              exact absurd H (by simp)
            ·rw [if_neg c48] at H
             have c48b0 : decide (x9_3 < t480) = false := decide_eq_false c48
             clear c48
             by_cases c66 : 0 ≤ x7_1
             ·rw [if_pos c66] at H
              have c66b0 : decide (0 ≤ x7_1) = true := decide_eq_true c66
              clear c66
              by_cases c67 : x7_1 < (t500.length : Int)
              ·rw [if_pos c67] at H
               have c67b0 : decide (x7_1 < (t500.length : Int)) = true := decide_eq_true c67
               clear c67
               replace H := Option.bind_eq_some_iff.mp H
               obtain ⟨t510, A680, H⟩ := H
               replace H : ((impl_ConsentOk.f k3 t480 t481 t484 t510).bind fun t511 => (if t511 = true then (none) else (laws_FnLeastConsents.l0 k3 t484 t488 t500 (wrap64 (x7_1 + 1)) t480 t481))) = some r := H
               have A68 := Aside0.mk A680
               clear A680
               replace H := Option.bind_eq_some_iff.mp H
               obtain ⟨t511, A690, H⟩ := H
               replace H : (if t511 = true then (none) else (laws_FnLeastConsents.l0 k3 t484 t488 t500 (wrap64 (x7_1 + 1)) t480 t481)) = some r := H
               have A69 := Aside0.mk A690
               clear A690
               by_cases c70 : t511 = true
               ·subst c70
                have H1 : (none) = some r := by rw [if_pos rfl] at H; exact H
                clear H
                have H := H1
                clear H1
                exact absurd H (by simp)
               ·replace c70 := Bool.eq_false_iff.mpr c70
                subst c70
                have H1 : (laws_FnLeastConsents.l0 k3 t484 t488 t500 (wrap64 (x7_1 + 1)) t480 t481) = some r := by rw [if_neg (show ¬ (false = true) by decide)] at H; exact H
                clear H
                have H := H1
                clear H1
                have H' := Aside0.mk H
                clear H
                have hcz71_0 := cz0 BK487
                have hcz71_1 := cz1 BK487
                have hfz71_0 := blk_frozen BK487.out 0
                have hfz71_1 := blk_frozen BK487.out 1
                try go_wp2
                have n0_ := Aside0.mk (Kd.V_drew HO_4.out)
                have n1_ := Aside0.mk (Kd.R_drew HO_5.out)
                have n2_ := Aside0.mk (Kd.R_drew HO_6.out)
                have n3_ := Aside0.mk (Kd.R_drew HO_488001.out)
                have n4_ := Aside0.mk (blk_drew BK487.out)
                have n5_ := Aside0.mk (below_drew1 HB.out)
                clear HO_4 HO_5 HO_6 HO_488001 BK487 HB
                have HO_4 := n0_
                have HO_5 := n1_
                have HO_6 := n2_
                have HO_488001 := n3_
                have BK487 := n4_
                have HB := n5_
                clear n0_ n1_ n2_ n3_ n4_ n5_
                have p509 : 0 ≤ (x7_1 : Int) := oda
                have q509 : x7_1 < (t500.length : Int) := oda
                obtain ⟨ad509, e509, hx509_0⟩ := Kd.at_int (Kd.R_reads' HO_6.out).2.2 x7_1 p509 q509
                cases e509
                replace p509 := eq_true p509
                replace q509 := eq_true q509
                refine start_ (n := 10) (S := fun w' => w'.cell? ⟨gb487, 0, none⟩ = some (.int .i64 t480) ∧ w'.cell? ⟨gb487, 1, none⟩ = some (.slice Ao29 t481.length co29) ∧ w'.cell? (ad509.add (x7_1).toNat) = some (.int .i64 (rd t500 x7_1))) (ds := []) #[F,F,F,F,F,F,F,F,F,F] kr rfl rfl ⟨cz0 BK487, cz1 BK487, hx509_0⟩ (fun hHeld => ?_); refine with_tabW laws_FnLeastConsents.tab29 laws_FnLeastConsents.bits29 (fun HT_ HW_ => ?_)
                generalize wr.drew = w72 at HO_4 HO_5 HO_6 HO_488001 BK487 HB hx509_0 hHeld ⊢
                refine pu 1 (some 105) #[F,T,F,F,F,F,F,F,F,F] (any_of HT_.out kr) ?_
                refine pu 2 (some 106) #[F,T,T,F,F,F,F,F,F,F] (any_of HT_.out kr) ?_
                refine pu 4 (some 108) #[F,T,T,F,T,F,F,F,F,F] (any_of HT_.out kr) ?_
                refine pu 5 (some 109) #[F,T,T,F,T,T,F,F,F,F] (any_of HT_.out kr) ?_
                refine pu 6 (some 110) #[F,T,T,F,T,T,T,F,F,F] (any_of HT_.out kr) ?_
                refine tk3 0 (some 104) #[T,T,T,F,T,T,T,F,F,F] (take_ofW HT_.out HW_.out kr) ?_
                refine tk3 3 (some 107) #[T,T,T,T,T,T,T,F,F,F] (take_ofW HT_.out HW_.out kr) ?_
                refine tk3 7 (some 111) #[T,T,T,T,T,T,T,T,F,F] (take_ofW HT_.out HW_.out kr) ?_
                refine one_ (i := 8) (N := some 112) #[T,T,T,T,T,T,T,T,T,F] rfl rfl (one_of HT_.out kr) (by decide) (fun K hK => ?_)
                refine goes_ Try.func32 kr rfl #[.int .i64 t480, .int .i64 (rd t500 x7_1)] (by rfl) rfl rfl lm ?_
                with_reducible refine (impl_LackOf.calls t480 (rd t500 x7_1) t510 _ A68.out).mono ?_
                rintro e w' ⟨rfl, ⟨nd, rfl⟩⟩
                refine ⟨_, rfl, ?_⟩
                refine hK.out _ _ ⟨cz0 BK487, cz1 BK487, hHeld.2.2⟩ (fun hHeld => ?_)
                clear hK K
                refine norm_ (a' := ?_) ?_ ?_
                rotate_left
                ·show Act.put _ (some 112) _ = _
                 simp only [Act.put, List.setIfInBounds_toArray, List.set_cons_zero, List.set_cons_succ, i64_w, i32_w]
                 rfl
                refine one_ (i := 9) (N := some 113) #[T,T,T,T,T,T,T,T,T,T] rfl rfl (one_of HT_.out kr) (by decide) (fun K hK => ?_)
                refine goes_ Try.func31 kr rfl #[.agg #[.int .i64 t480, .slice Ao29 t481.length co29], .slice Ao30 t484.length co30, .int .i64 t510] (by rfl) rfl rfl lm ?_
                with_reducible refine (impl_ConsentOk.calls k3 t480 _ _ t481 _ _ t484 t510 false _ ?side1 ?side2 ?side3 ?side4 A69.out).mono ?_
                (case side1 => repeat (first | exact (Kd.R_reads' HO_488001.out).2.2 | (with_reducible refine Kd.C_alloc ?_ _) | (with_reducible refine Kd.C_drewN ?_ _) | (with_reducible refine Kd.C_drew ?_)))
                (case side2 => exact (Kd.R_reads' HO_488001.out).2.1)
                (case side3 => repeat (first | exact (Kd.V_reads' HO_4.out).2.2 | (with_reducible refine Kd.C_alloc ?_ _) | (with_reducible refine Kd.C_drewN ?_ _) | (with_reducible refine Kd.C_drew ?_)))
                (case side4 => exact (Kd.V_reads' HO_4.out).2.1)
                rintro e w73 ⟨rfl, hb⟩
                have HS2_ := (hb.cell (World.block_lt_of_cell? _ _ (hHeld.2.2))).trans (hHeld.2.2)
                refine ⟨_, rfl, ?_⟩
                have n0_ := Aside0.mk (Kd.V_below (vz HO_4) hb)
                have n1_ := Aside0.mk (Kd.R_below (rz HO_5) hb)
                have n2_ := Aside0.mk (Kd.R_below (rz HO_6) hb)
                have n3_ := Aside0.mk (Kd.R_below (rz HO_488001) hb)
                have n4_ := Aside0.mk (blk_below (bz BK487) hb)
                have n5_ := Aside0.mk (below_step bh hb)
                clear HO_4 HO_5 HO_6 HO_488001 BK487 HB
                have HO_4 := n0_
                have HO_5 := n1_
                have HO_6 := n2_
                have HO_488001 := n3_
                have BK487 := n4_
                have HB := n5_
                clear n0_ n1_ n2_ n3_ n4_ n5_
                (try clear hb)
                (try clear hb2)
                (try clear hk)
                (try clear hi)
                refine hK.out _ _ ⟨cz0 BK487, cz1 BK487, HS2_⟩ (fun hHeld => ?_)
                clear hK K
                refine norm_ (a' := ?_) ?_ ?_
                rotate_left
                ·show Act.put _ (some 113) _ = _
                 simp only [Act.put, List.setIfInBounds_toArray, List.set_cons_zero, List.set_cons_succ, i64_w, i32_w]
                 rfl
                refine done_ (done_of HT_.out kr) ?_
                try go_wp2
                go_roundg k3
                case measure => have := HK1.out; have := HK2.out; have := HK3.out; omega
                case rel => exact ⟨(wrap64 (x7_1 + 1)), (by first | rfl | (simp; done) | (simp [*]; done)), H', ⟨by have := HK1.out; have := HK2.out; have := HK3.out; omega⟩, ⟨vz HO_4⟩, ⟨rz HO_5⟩, ⟨rz HO_6⟩, ⟨rz HO_488001⟩, ⟨bz BK487⟩, ⟨by exact bh⟩⟩
              ·rw [if_neg c67] at H
               exact absurd H (by simp)
             ·rw [if_neg c66] at H
              exact absurd H (by simp)
      ·rw [if_neg c40] at H
       have c40b0 : decide (x7_1 < (t500.length : Int)) = false := decide_eq_false c40
       clear c40
       replace H := Option.bind_eq_some_iff.mp H
       obtain ⟨t503, A740, H⟩ := H
       replace H : (if t503 = true then (some (decide ((t500.length : Int) > 0))) else (none)) = some r := H
       have A74 := Aside0.mk A740
       clear A740
       by_cases c75 : t503 = true
       ·subst c75
        have H1 : (some (decide ((t500.length : Int) > 0))) = some r := by rw [if_pos rfl] at H; exact H
        clear H
        have H := H1
        clear H1
        obtain rfl := Option.some.inj H
        obtain ⟨Ao76, co76, eo76⟩ := Kd.R_slice HO_6.out
        subst eo76
        go_wp2_with (first | ((with_reducible refine gate_callee (f := 33) rfl ?_); refine goesL_ (some 115) rfl rfl Try.func33 kr rfl #[.slice Ao34 t488.length co34] rfl lm ?_; (with_reducible refine (laws_ascend.calls k1 _ _ t488 true _ ?side1 ?side2 A74.out).mono ?_); (case side1 => repeat (first | exact (Kd.R_reads' HO_5.out).2.2 | (with_reducible refine Kd.C_alloc ?_ _) | (with_reducible refine Kd.C_drewN ?_ _) | (with_reducible refine Kd.C_drew ?_))); (case side2 => exact (Kd.R_reads' HO_5.out).2.1); rintro e w' ⟨rfl, ⟨nd, rfl⟩⟩; refine ⟨_, rfl, ?_⟩))
        go_ret
        exact ⟨by first | rfl | (simp [errW_none, errW_some] <;> rfl) | (simp [*, errW_none, errW_some] <;> rfl), by exact bh⟩
       ·replace c75 := Bool.eq_false_iff.mpr c75
        subst c75
        have H1 : (none) = some r := by rw [if_neg (show ¬ (false = true) by decide)] at H; exact H
        clear H
        have H := H1
        clear H1
        exact absurd H (by simp)
  ·replace c7 := Bool.eq_false_iff.mpr c7
   subst c7
   have H1 : (none) = some r := by rw [if_neg (show ¬ (false = true) by decide)] at H; exact H
   clear H
   have H := H1
   clear H1
   exact absurd H (by simp)

/-- THE ONE PURE STATEMENT of laws_FnLeastConsents: yours. -/
def laws_FnLeastConsents.Pure : Prop := ∀ (l0 : List Int), l0.length ≤ maxLen → l0.length * 1 ≤ 140737488351232 → (∀ x ∈ l0, (Lit.int .u8 x).wf = true) → ∃ k, laws_FnLeastConsents.f k l0 = some true
theorem laws_FnLeastConsents.walk (P : laws_FnLeastConsents.Pure) (a0 : Option Addr) (len0 cap0 : Nat) (z0 : List Int) (w : World) (w0 : (a0 = none ∧ len0 = 0 ∧ cap0 = 0 ∧ z0 = []) ∨ ∃ x, a0 = some x ∧ len0 ≤ cap0 ∧ cap0 ≤ maxLen ∧ z0.length = cap0 ∧ (∀ i, i < z0.length → w.cell? (x.add i) = some (.int .u8 (z0.getD i 0))) ∧ ∀ n ∈ z0, (Lit.int .u8 n).wf = true) (y0 : len0 * 1 ≤ 140737488351232) :
  Calls Try.prog 5 #[.slice a0 len0 cap0] w fun e w' => e = .returned (.bool true) ∧ Below w.heap.size w w' := by
 obtain ⟨l0, rfl, hr0, hm0, hw0, hc0⟩ := ReadsInt.ofRowC w0
 obtain ⟨k, h⟩ := P l0 hm0 y0 hw0
 refine (laws_FnLeastConsents.calls k _ _ l0 true w (Kd.C_of_reads (d := (0 : Int)) (h1 := fun _ => rfl) hr0) hc0 h).mono ?_
 rintro e w' ⟨rfl, hd⟩
 exact ⟨rfl, hd⟩

end Go.Proofs.Ytaddlahbahedeaa.QFnLeastConsents
