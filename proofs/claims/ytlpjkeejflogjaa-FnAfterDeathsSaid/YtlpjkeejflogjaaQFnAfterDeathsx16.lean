-- Printed for this claim by a turned copy of the print (wip/myprint). Lean checks it. Squeezed. Worded. Tightened.
import Derived.Test.YtlpjkeejflogjaaQFnAfterDeathsx0
import Derived.Test.YtlpjkeejflogjaaQFnAfterDeathsx2
import Derived.Test.YtlpjkeejflogjaaQFnAfterDeathsx3
import Derived.Test.YtlpjkeejflogjaaQFnAfterDeathsx9
import Derived.Test.YtlpjkeejflogjaaQFnAfterDeathsx12
import Derived.Test.YtlpjkeejflogjaaQFnAfterDeathsx13
import Derived.Test.YtlpjkeejflogjaaQFnAfterDeathsx15
namespace Go.Proofs.Ytlpjkeejflogjaa.QFnAfterDeaths
open Go.RowKit Go.Proofs.YtlpjkeejflogjaaW.PrintWords Go.Proofs.YtlpjkeejflogjaaW.PrintLast Go.Proofs.YtlpjkeejflogjaaW.PrintMore
attribute [local go_sem] max2_int min2_int max_two min_two max_three min_three max_four min_four Opens.cell_twice   -- for this text's walks alone
set_option linter.unusedVariables false
set_option linter.unusedSimpArgs false

/-! ### laws_FnAfterDeaths: function 15 -/
mutual
def laws_FnAfterDeaths.j0 : Nat → List Int → Int → Bool → Int → List (List Int) → List Int → Int → Int → List (List Int) → List Int → Int → Option (Bool)
 | 0, _, _, _, _, _, _, _, _, _, _, _ => none
 | k + 1, x4, x6, x46, x435000, x435001, x435002, x435003, x445000, x445001, x445002, x445003 => if x46 = true then (none) else (if x6 < 0 then (if x6 = (-1) then ((laws_sameCourt.f k x445000 x445001 x445002 x445003 0 ([] : List (List Int)) ([] : List Int) 0).bind fun t456 => (if t456 = true then ((laws_alive.f).bind fun t457 => (some t457)) else (none))) else (none)) else (if 0 ≤ (wrap64 ((x4.length : Int) / 2)) then (if (wrap64 ((x4.length : Int) / 2)) ≤ (x4.length : Int) then ((impl_AfterDeaths.f k x435000 x435001 x435002 x435003 (x4.take ((wrap64 ((x4.length : Int) / 2)) : Int).toNat)).bind fun bt462 => ((impl_AfterDeaths.f k bt462.1 bt462.2.1 bt462.2.2.1 bt462.2.2.2.1 (x4.drop ((wrap64 ((x4.length : Int) / 2)) : Int).toNat)).bind fun bt476 => (laws_FnAfterDeaths.l0 k x6 bt462.2.2.2.2 bt476.2.2.2.2 (([] : List Int)) 0 x435000 x435001 x435002 x435003 x445000 x445001 x445002 x445003 bt476.1 bt476.2.1 bt476.2.2.1 bt476.2.2.2.1))) else (none)) else (none)))
def laws_FnAfterDeaths.l0 : Nat → Int → Int → Int → List Int → Int → Int → List (List Int) → List Int → Int → Int → List (List Int) → List Int → Int → Int → List (List Int) → List Int → Int → Option (Bool)
 | 0, _, _, _, _, _, _, _, _, _, _, _, _, _, _, _, _, _ => none
 | k + 1, x6, x11, x13, x14, x15, x435000, x435001, x435002, x435003, x445000, x445001, x445002, x445003, x486000, x486001, x486002, x486003 => if x15 < x435000 then (if x14.length < 17592186044416 then (laws_FnAfterDeaths.l0 k x6 x11 x13 (x14 ++ [x15]) (wrap64 (x15 + 1)) x435000 x435001 x435002 x435003 x445000 x445001 x445002 x445003 x486000 x486001 x486002 x486003) else (none)) else ((impl_AfterDeaths.f k x435000 x435001 x435002 x435003 x14).bind fun bt492 => ((impl_CourtOk.f k x445000 x445001 x445002 x445003).bind fun t502 => (if t502 = true then ((laws_sameCourt.f k x486000 x486001 x486002 x486003 x445000 x445001 x445002 x445003).bind fun t503 => (if t503 = true then (if (wrap64 (x11 + x13)) = x6 then ((impl_HeadsOf.f x435000 x435003).bind fun t504 => (if bt492.2.2.2.2 = t504 then (if bt492.2.2.2.1 = 0 then ((impl_VacantOf.f k bt492.1 bt492.2.1 bt492.2.2.1 bt492.2.2.2.1).bind fun t505 => (some ((t505.length : Int) == (x435001.length : Int)))) else (none)) else (none))) else (none)) else (none))) else (none))))
end
def laws_FnAfterDeaths.f (k : Nat) (l0 : List Int) : Option (Bool) := if (l0.length : Int) > 1048576 then (some true) else ((spec_DrawAfterDeaths.f k l0).bind fun bt423 => ((impl_AfterDeaths.f k bt423.1 bt423.2.1 bt423.2.2.1 bt423.2.2.2.1 bt423.2.2.2.2).bind fun bt435 => ((spec_AfterDeaths.f k bt423.1 bt423.2.1 bt423.2.2.1 bt423.2.2.2.1 bt423.2.2.2.2).bind fun bt445 => ((laws_sameCourt.f k bt435.1 bt435.2.1 bt435.2.2.1 bt435.2.2.2.1 bt445.1 bt445.2.1 bt445.2.2.1 bt445.2.2.2.1).bind fun t455 => (if t455 = true then (laws_FnAfterDeaths.j0 k bt423.2.2.2.2 bt435.2.2.2.2 (bt435.2.2.2.2 != bt445.2.2.2.2) bt423.1 bt423.2.1 bt423.2.2.1 bt423.2.2.2.1 bt435.1 bt435.2.1 bt435.2.2.1 bt435.2.2.2.1) else (laws_FnAfterDeaths.j0 k bt423.2.2.2.2 bt435.2.2.2.2 true bt423.1 bt423.2.1 bt423.2.2.1 bt423.2.2.2.1 bt435.1 bt435.2.1 bt435.2.2.1 bt435.2.2.2.1))))))
theorem laws_FnAfterDeaths.mono_l : ∀ k, (∀ y0 y1 y2 y3 y4 y5 y6 y7 y8 y9 y10, LeO (laws_FnAfterDeaths.j0 k y0 y1 y2 y3 y4 y5 y6 y7 y8 y9 y10) (laws_FnAfterDeaths.j0 (k + 1) y0 y1 y2 y3 y4 y5 y6 y7 y8 y9 y10)) ∧ (∀ y0 y1 y2 y3 y4 y5 y6 y7 y8 y9 y10 y11 y12 y13 y14 y15 y16, LeO (laws_FnAfterDeaths.l0 k y0 y1 y2 y3 y4 y5 y6 y7 y8 y9 y10 y11 y12 y13 y14 y15 y16) (laws_FnAfterDeaths.l0 (k + 1) y0 y1 y2 y3 y4 y5 y6 y7 y8 y9 y10 y11 y12 y13 y14 y15 y16))
 | 0 => ⟨fun _ _ _ _ _ _ _ _ _ _ _ r h => by simp [laws_FnAfterDeaths.j0] at h, fun _ _ _ _ _ _ _ _ _ _ _ _ _ _ _ _ _ r h => by simp [laws_FnAfterDeaths.l0] at h⟩
 | k + 1 => by
  obtain ⟨ih0, ih1⟩ := laws_FnAfterDeaths.mono_l k
  refine ⟨?_, ?_⟩
  ·intro y0 y1 y2 y3 y4 y5 y6 y7 y8 y9 y10
   unfold laws_FnAfterDeaths.j0
   repeat' first
   | (with_reducible exact ih0 _ _ _ _ _ _ _ _ _ _ _)
   | (with_reducible exact ih1 _ _ _ _ _ _ _ _ _ _ _ _ _ _ _ _ _)
   | (with_reducible exact impl_AfterDeaths.mono _ _ _ _ _ _)
   | (with_reducible exact impl_CourtOk.mono _ _ _ _ _)
   | (with_reducible exact impl_VacantOf.mono _ _ _ _ _)
   | (with_reducible exact laws_sameCourt.mono _ _ _ _ _ _ _ _ _)
   | (with_reducible exact spec_AfterDeaths.mono _ _ _ _ _ _)
   | (with_reducible exact spec_DrawAfterDeaths.mono _ _)
   | (with_reducible exact LeO.refl _)
   | (with_reducible exact LeO.none _)
   | (with_reducible refine LeO.ite ?_ ?_)
   | (with_reducible refine LeO.bind ?_ (fun _ => ?_))
   | exact ih0 _ _ _ _ _ _ _ _ _ _ _
   | exact ih1 _ _ _ _ _ _ _ _ _ _ _ _ _ _ _ _ _
   | exact impl_AfterDeaths.mono _ _ _ _ _ _
   | exact impl_CourtOk.mono _ _ _ _ _
   | exact impl_VacantOf.mono _ _ _ _ _
   | exact laws_sameCourt.mono _ _ _ _ _ _ _ _ _
   | exact spec_AfterDeaths.mono _ _ _ _ _ _
   | exact spec_DrawAfterDeaths.mono _ _
   | exact LeO.none _
   | refine LeO.ite ?_ ?_
   | refine LeO.bind ?_ (fun _ => ?_)
  ·intro y0 y1 y2 y3 y4 y5 y6 y7 y8 y9 y10 y11 y12 y13 y14 y15 y16
   unfold laws_FnAfterDeaths.l0
   repeat' first
   | (with_reducible exact ih0 _ _ _ _ _ _ _ _ _ _ _)
   | (with_reducible exact ih1 _ _ _ _ _ _ _ _ _ _ _ _ _ _ _ _ _)
   | (with_reducible exact impl_AfterDeaths.mono _ _ _ _ _ _)
   | (with_reducible exact impl_CourtOk.mono _ _ _ _ _)
   | (with_reducible exact impl_VacantOf.mono _ _ _ _ _)
   | (with_reducible exact laws_sameCourt.mono _ _ _ _ _ _ _ _ _)
   | (with_reducible exact spec_AfterDeaths.mono _ _ _ _ _ _)
   | (with_reducible exact spec_DrawAfterDeaths.mono _ _)
   | (with_reducible exact LeO.refl _)
   | (with_reducible exact LeO.none _)
   | (with_reducible refine LeO.ite ?_ ?_)
   | (with_reducible refine LeO.bind ?_ (fun _ => ?_))
   | exact ih0 _ _ _ _ _ _ _ _ _ _ _
   | exact ih1 _ _ _ _ _ _ _ _ _ _ _ _ _ _ _ _ _
   | exact impl_AfterDeaths.mono _ _ _ _ _ _
   | exact impl_CourtOk.mono _ _ _ _ _
   | exact impl_VacantOf.mono _ _ _ _ _
   | exact laws_sameCourt.mono _ _ _ _ _ _ _ _ _
   | exact spec_AfterDeaths.mono _ _ _ _ _ _
   | exact spec_DrawAfterDeaths.mono _ _
   | exact LeO.none _
   | refine LeO.ite ?_ ?_
   | refine LeO.bind ?_ (fun _ => ?_)
theorem laws_FnAfterDeaths.mono : ∀ a0 k, LeO (laws_FnAfterDeaths.f k a0) (laws_FnAfterDeaths.f (k + 1) a0) := by
 intro a0 k
 obtain ⟨ih0, ih1⟩ := laws_FnAfterDeaths.mono_l k
 unfold laws_FnAfterDeaths.f
 repeat' first
   | (with_reducible exact ih0 _ _ _ _ _ _ _ _ _ _ _)
   | (with_reducible exact ih1 _ _ _ _ _ _ _ _ _ _ _ _ _ _ _ _ _)
   | (with_reducible exact impl_AfterDeaths.mono _ _ _ _ _ _)
   | (with_reducible exact impl_CourtOk.mono _ _ _ _ _)
   | (with_reducible exact impl_VacantOf.mono _ _ _ _ _)
   | (with_reducible exact laws_sameCourt.mono _ _ _ _ _ _ _ _ _)
   | (with_reducible exact spec_AfterDeaths.mono _ _ _ _ _ _)
   | (with_reducible exact spec_DrawAfterDeaths.mono _ _)
   | (with_reducible exact LeO.refl _)
   | (with_reducible exact LeO.none _)
   | (with_reducible refine LeO.ite ?_ ?_)
   | (with_reducible refine LeO.bind ?_ (fun _ => ?_))
   | exact ih0 _ _ _ _ _ _ _ _ _ _ _
   | exact ih1 _ _ _ _ _ _ _ _ _ _ _ _ _ _ _ _ _
   | exact impl_AfterDeaths.mono _ _ _ _ _ _
   | exact impl_CourtOk.mono _ _ _ _ _
   | exact impl_VacantOf.mono _ _ _ _ _
   | exact laws_sameCourt.mono _ _ _ _ _ _ _ _ _
   | exact spec_AfterDeaths.mono _ _ _ _ _ _
   | exact spec_DrawAfterDeaths.mono _ _
   | exact LeO.none _
   | refine LeO.ite ?_ ?_
   | refine LeO.bind ?_ (fun _ => ?_)
def laws_FnAfterDeaths.T11 : Bool × List (List Nat × List Nat) := (true, [([], []), ([], []), ([], []), ([1, 2], [1, 2]), ([0, 3], [0, 3]), ([4], [4]), ([5], [5]), ([5], [5]), ([], []), ([8, 6, 4, 0, 1, 2, 3, 4, 5, 6, 8], [6, 8]), ([7, 9, 0, 1, 2, 3, 4, 5, 6, 7, 8, 9], [7])])
def laws_FnAfterDeaths.B11 : List Nat := [0, 0, 0, 6, 15, 31, 63, 63, 0, 383, 1023]
theorem laws_FnAfterDeaths.tab11 : rtab .any (opsOf Try.f15 11) = laws_FnAfterDeaths.T11 := by kernel_rfl
theorem laws_FnAfterDeaths.bits11 : waitsOk laws_FnAfterDeaths.T11.2 laws_FnAfterDeaths.B11 = true := by kernel_rfl
def laws_FnAfterDeaths.T12 : Bool × List (List Nat × List Nat) := (true, [([], []), ([], []), ([], []), ([1, 2], [1, 2]), ([0, 3], [0, 3]), ([4], [4]), ([5], [5]), ([5], [5]), ([], []), ([8, 6, 4, 0, 1, 2, 3, 4, 5, 6, 8], [6, 8]), ([7, 9, 0, 1, 2, 3, 4, 5, 6, 7, 8, 9], [7])])
def laws_FnAfterDeaths.B12 : List Nat := [0, 0, 0, 6, 15, 31, 63, 63, 0, 383, 1023]
theorem laws_FnAfterDeaths.tab12 : rtab .any (opsOf Try.f15 12) = laws_FnAfterDeaths.T12 := by kernel_rfl
theorem laws_FnAfterDeaths.bits12 : waitsOk laws_FnAfterDeaths.T12.2 laws_FnAfterDeaths.B12 = true := by kernel_rfl
def laws_FnAfterDeaths.T19 : Bool × List (List Nat × List Nat) := (true, [([], []), ([0], [0]), ([1, 1], [1]), ([2], [2]), ([2], [2]), ([3, 4, 2, 2], [2, 3, 4]), ([2, 5], [2, 5]), ([6, 5], [6]), ([7], [7]), ([7], [7]), ([8, 9, 7], [7, 8, 9]), ([7], [7]), ([10, 11, 7], [7, 10, 11]), ([7, 12], [7, 12]), ([13, 7], [13]), ([14], [14]), ([14], [14]), ([16, 14], [14, 16]), ([14], [14]), ([18, 14], [14, 18]), ([17, 19, 14, 14], [14, 17, 19]), ([15, 20, 14], [14, 15, 20]), ([14, 21], [14, 21]), ([22, 20], [22]), ([23], [23]), ([24, 23], [23, 24]), ([25, 23], [23, 25]), ([23, 26], [23, 26]), ([27, 23], [27]), ([28], [28]), ([29, 28, 28], [28, 29]), ([30, 28], [28, 30]), ([28], [28]), ([32, 28], [28, 32]), ([33, 28], [28, 33]), ([31, 34, 28], [28, 31, 34]), ([28, 35], [28, 35]), ([36, 30, 0, 1, 2, 3, 4, 5, 6, 7, 8, 9, 10, 11, 12, 13, 14, 15, 16, 17, 18, 19, 20, 21, 22, 23, 24, 25, 26, 27, 28, 29, 30, 31, 32, 33, 34, 35, 36], [36])])
def laws_FnAfterDeaths.B19 : List Nat := [0, 1, 3, 7, 7, 31, 63, 127, 255, 255, 1023, 255, 4095, 8191, 16383, 32767, 32767, 98303, 32767, 294911, 1015807, 2097151, 4194303, 8388607, 16777215, 33554431, 67108863, 134217727, 268435455, 536870911, 1073741823, 2147483647, 536870911, 4831838207, 13421772799, 34359738367, 68719476735, 137438953471]
theorem laws_FnAfterDeaths.tab19 : rtab .any (opsOf Try.f15 19) = laws_FnAfterDeaths.T19 := by kernel_rfl
theorem laws_FnAfterDeaths.bits19 : waitsOk laws_FnAfterDeaths.T19.2 laws_FnAfterDeaths.B19 = true := by kernel_rfl
set_option maxHeartbeats 8000000 in
set_option maxRecDepth 100000 in
theorem laws_FnAfterDeaths.calls (k : Nat) (A0 : Option Addr) (c0 : Nat) (l0 : List Int) (r : Bool) (w : World) (hr0 : Kd.C (Kd.int .u8) w A0 l0.length l0) (hc0 : l0.length ≤ c0) (h : laws_FnAfterDeaths.f k l0 = some r) :
  Calls Try.prog 15 #[.slice A0 l0.length c0] w fun e w' => e = .returned (.bool r) ∧ Below w.heap.size w w' := by
 have hu28 := Try.underlying28
 have HR0 := Aside0.mk hr0
 have HC0 := Aside0.mk hc0
 clear hr0 hc0
 have HB := Aside0.mk (Below.refl w.heap.size w)
 have H : (if (l0.length : Int) > 1048576 then (some true) else ((spec_DrawAfterDeaths.f k l0).bind fun bt423 => ((impl_AfterDeaths.f k bt423.1 bt423.2.1 bt423.2.2.1 bt423.2.2.2.1 bt423.2.2.2.2).bind fun bt435 => ((spec_AfterDeaths.f k bt423.1 bt423.2.1 bt423.2.2.1 bt423.2.2.2.1 bt423.2.2.2.2).bind fun bt445 => ((laws_sameCourt.f k bt435.1 bt435.2.1 bt435.2.2.1 bt435.2.2.2.1 bt445.1 bt445.2.1 bt445.2.2.1 bt445.2.2.2.1).bind fun t455 => (if t455 = true then (laws_FnAfterDeaths.j0 k bt423.2.2.2.2 bt435.2.2.2.2 (bt435.2.2.2.2 != bt445.2.2.2.2) bt423.1 bt423.2.1 bt423.2.2.1 bt423.2.2.2.1 bt435.1 bt435.2.1 bt435.2.2.1 bt435.2.2.2.1) else (laws_FnAfterDeaths.j0 k bt423.2.2.2.2 bt435.2.2.2.2 true bt423.1 bt423.2.1 bt423.2.2.1 bt423.2.2.2.1 bt435.1 bt435.2.1 bt435.2.2.1 bt435.2.2.2.1))))))) = some r := h
 clear h
 by_cases c2 : (l0.length : Int) > 1048576
 ·rw [if_pos c2] at H
  have c2b0 : decide (1048576 < (l0.length : Int)) = true := decide_eq_true c2
  have c2b1 : decide (1048576 < l0.length) = true := decide_eq_true (by omega)
  clear c2
  obtain rfl := Option.some.inj H
  go_enter Try.func15, Try.ntmps15
  go_wp2
  go_ret
  exact ⟨by first | rfl | (simp [errW_none, errW_some] <;> rfl) | (simp [*, errW_none, errW_some] <;> rfl), by exact bh⟩
 ·rw [if_neg c2] at H
  have c2b0 : decide (1048576 < (l0.length : Int)) = false := decide_eq_false c2
  have c2b1 : decide (1048576 < l0.length) = false := decide_eq_false (by omega)
  clear c2
  replace H := Option.bind_eq_some_iff.mp H
  obtain ⟨⟨t423, t424, t427, t430, t431⟩, A30, H⟩ := H
  replace H : ((impl_AfterDeaths.f k t423 t424 t427 t430 t431).bind fun bt435 => ((spec_AfterDeaths.f k t423 t424 t427 t430 t431).bind fun bt445 => ((laws_sameCourt.f k bt435.1 bt435.2.1 bt435.2.2.1 bt435.2.2.2.1 bt445.1 bt445.2.1 bt445.2.2.1 bt445.2.2.2.1).bind fun t455 => (if t455 = true then (laws_FnAfterDeaths.j0 k t431 bt435.2.2.2.2 (bt435.2.2.2.2 != bt445.2.2.2.2) t423 t424 t427 t430 bt435.1 bt435.2.1 bt435.2.2.1 bt435.2.2.2.1) else (laws_FnAfterDeaths.j0 k t431 bt435.2.2.2.2 true t423 t424 t427 t430 bt435.1 bt435.2.1 bt435.2.2.1 bt435.2.2.2.1))))) = some r := H
  have A3 := Aside0.mk A30
  clear A30
  replace H := Option.bind_eq_some_iff.mp H
  obtain ⟨⟨t435, t436, t439, t442, t443⟩, A40, H⟩ := H
  replace H : ((spec_AfterDeaths.f k t423 t424 t427 t430 t431).bind fun bt445 => ((laws_sameCourt.f k t435 t436 t439 t442 bt445.1 bt445.2.1 bt445.2.2.1 bt445.2.2.2.1).bind fun t455 => (if t455 = true then (laws_FnAfterDeaths.j0 k t431 t443 (t443 != bt445.2.2.2.2) t423 t424 t427 t430 t435 t436 t439 t442) else (laws_FnAfterDeaths.j0 k t431 t443 true t423 t424 t427 t430 t435 t436 t439 t442)))) = some r := H
  have A4 := Aside0.mk A40
  clear A40
  replace H := Option.bind_eq_some_iff.mp H
  obtain ⟨⟨t445, t446, t449, t452, t453⟩, A50, H⟩ := H
  replace H : ((laws_sameCourt.f k t435 t436 t439 t442 t445 t446 t449 t452).bind fun t455 => (if t455 = true then (laws_FnAfterDeaths.j0 k t431 t443 (t443 != t453) t423 t424 t427 t430 t435 t436 t439 t442) else (laws_FnAfterDeaths.j0 k t431 t443 true t423 t424 t427 t430 t435 t436 t439 t442))) = some r := H
  have A5 := Aside0.mk A50
  clear A50
  have HC6 := Aside0.mk H
  clear H
  go_enter Try.func15, Try.ntmps15
  go_upto_region 6 with (first | ((with_reducible refine gate_callee (f := 31) rfl ?_); refine goesL_ (some 23) rfl rfl Try.func31 kr rfl #[.slice A0 l0.length c0] rfl lm ?_; (with_reducible refine (spec_DrawAfterDeaths.calls k _ _ l0 t423 t424 t427 t430 t431 _ ?side1 ?side2 A3.out).mono ?_); (case side1 => repeat (first | exact HR0.out | (with_reducible refine Kd.C_alloc ?_ _) | (with_reducible refine Kd.C_drewN ?_ _) | (with_reducible refine Kd.C_drew ?_))); (case side2 => exact HC0.out); rintro e w7 ⟨v425, v428, v432, rfl, ho0, ho1, ho2, hb⟩; refine ⟨_, rfl, ?_⟩; have n0_ := Aside0.mk (Kd.S_lower ho0 (below_size bh)); have n1_ := Aside0.mk (Kd.R_lower ho1 (below_size bh)); have n2_ := Aside0.mk (Kd.R_lower ho2 (below_size bh)); have n3_ := Aside0.mk (below_step bh hb); clear HB; have HO426 := n0_; have HO429 := n1_; have HO433 := n2_; have HB := n3_; clear n0_ n1_ n2_ n3_; (try clear hb); (try clear hb2); (try clear hk); (try clear hi); (try clear ho0); (try clear ho1); (try clear ho2)) | ((with_reducible refine gate_dst (N := 3) rfl ?_); (try (refine gate_guard (by rfl) ?_; dsimp only)); refine box_event ?hg (N := 3) ?hd (cs := #[.int .i64 0, .slice none 0 0, .slice none 0 0, .int .i64 0]) (t := 28) ?hr ?_; (case hd => rfl); (case hg => rfl); (case hr => first | (go_simp; done) | (go_simp; rfl)); intro gb434 hg w8 hbox hb; have n0_ := Aside0.mk (Kd.S_below (sz HO426) hb); have n1_ := Aside0.mk (Kd.R_below (rz HO429) hb); have n2_ := Aside0.mk (Kd.R_below (rz HO433) hb); have n3_ := Aside0.mk (below_step bh hb); have n4_ := Aside0.mk (hbox); have n5_ := Aside0.mk ((gs (W0 := w) hg bh)); have n6_ := Aside0.mk ((gs (W0 := w) hg bh)); clear HO426 HO429 HO433 HB; have HO426 := n0_; have HO429 := n1_; have HO433 := n2_; have HB := n3_; have BK434 := n4_; have GW434 := n5_; have GE434 := n6_; clear n0_ n1_ n2_ n3_ n4_ n5_ n6_ hb hbox hg; have hcz9_0 := cz0 BK434; have hcz9_1 := cz1 BK434; have hcz9_2 := cz2 BK434; have hcz9_3 := cz3 BK434; have hfz9_0 := blk_frozen BK434.out 0; have hfz9_1 := blk_frozen BK434.out 1; have hfz9_2 := blk_frozen BK434.out 2; have hfz9_3 := blk_frozen BK434.out 3; obtain ⟨Ao10, co10, eo10⟩ := Kd.S_slice HO426.out; subst eo10; obtain ⟨Ao11, co11, eo11⟩ := Kd.R_slice HO429.out; subst eo11; obtain ⟨Ao12, co12, eo12⟩ := Kd.R_slice HO433.out; subst eo12) | ((with_reducible refine gate_callee (f := 32) rfl ?_); refine goesL_ (some 29) rfl rfl Try.func32 kr rfl #[.agg #[.int .i64 t423, .slice Ao10 t424.length co10, .slice Ao11 t427.length co11, .int .i64 t430], .slice Ao12 t431.length co12] rfl lm ?_; (with_reducible refine (impl_AfterDeaths.calls k t423 _ _ t424 _ _ t427 t430 _ _ t431 t435 t436 t439 t442 t443 _ ?side1 ?side2 ?side3 ?side4 ?side5 ?side6 A4.out).mono ?_); (case side1 => refine (Kd.S_reads' (e := 23) (base := w.heap.size) (ok := fun k_ => (some k_ ≠ (.slice Ao11 t427.length co11 : Value).ownBlock ∧ some k_ ≠ (.slice Ao12 t431.length co12 : Value).ownBlock)) (n := t424.length) (c := co10) ?_).2.2; exact (fS HO426 BK434)); (case side2 => exact (Kd.S_reads' HO426.out).2.1); (case side3 => refine (Kd.R_reads' (e := 3) (base := w.heap.size) (ok := fun k_ => some k_ ≠ (.slice Ao12 t431.length co12 : Value).ownBlock) (n := t427.length) (c := co11) ?_).2.2; exact (fR HO429 BK434)); (case side4 => exact (Kd.R_reads' HO429.out).2.1); (case side5 => refine (Kd.R_reads' (e := 3) (base := w.heap.size) (ok := fun k_ => some k_ ≠ (.slice Ao11 t427.length co11 : Value).ownBlock) (n := t431.length) (c := co12) ?_).2.2; exact (fR HO433 BK434)); (case side6 => exact (Kd.R_reads' HO433.out).2.1); rintro e w13 ⟨v437, v440, rfl, ho0, ho1, hb⟩; refine ⟨_, rfl, ?_⟩; have n0_ := Aside0.mk (Kd.S_elder' (fS HO426 BK434) (Kd.R_base ho1) hb); have n1_ := Aside0.mk (Kd.R_elder' (fR HO429 BK434) (Kd.R_base ho1) hb); have n2_ := Aside0.mk (Kd.R_elder' (fR HO433 BK434) (Kd.R_base ho1) hb); have n3_ := Aside0.mk (Kd.V_lower (Kd.V_mono (ok' := fun k_ => some k_ ≠ (v440 : Value).ownBlock ∧ some k_ ≠ (.slice Ao10 t424.length co10 : Value).ownBlock ∧ some k_ ≠ (.slice Ao11 t427.length co11 : Value).ownBlock ∧ some k_ ≠ (.slice Ao12 t431.length co12 : Value).ownBlock ∧ k_ ≠ gb434) ho0 (fun k_ hk_ => ⟨hk_.2, (Kd.fresh' (Kd.S_lt (fS HO426 BK434)) k_ hk_.1), (Kd.fresh' (Kd.R_lt (fR HO429 BK434)) k_ hk_.1), (Kd.fresh' (Kd.R_lt (fR HO433 BK434)) k_ hk_.1), (Kd.freshB (g := gb434) (o := .cells #[.int .i64 t423, .slice Ao10 t424.length co10, .slice Ao11 t427.length co11, .int .i64 t430] 28 (0, 0)) (bp BK434) k_ hk_.1)⟩)) (below_size bh)); have n4_ := Aside0.mk (Kd.R_lower (Kd.R_new' (Kd.R_new' (Kd.R_mono (ok' := fun k_ => True) ho1 (fun _ hk_ => trivial)) (Kd.R_lt (fR HO429 BK434))) (Kd.R_lt (fR HO433 BK434))) (below_size bh)); have n5_ := Aside0.mk (blk_below (g := gb434) (o := .cells #[.int .i64 t423, .slice Ao10 t424.length co10, .slice Ao11 t427.length co11, .int .i64 t430] 28 (0, 0)) (bp BK434) hb); have n6_ := Aside0.mk (below_step bh hb); clear HO426 HO429 HO433 BK434 HB; have HO426 := n0_; have HO429 := n1_; have HO433 := n2_; have HO438 := n3_; have HO441 := n4_; have BK434 := n5_; have HB := n6_; clear n0_ n1_ n2_ n3_ n4_ n5_ n6_; (try clear hb); (try clear hb2); (try clear hk); (try clear hi); (try clear ho0); (try clear ho1)) | ((with_reducible refine gate_dst (N := 5) rfl ?_); (try (refine gate_guard (by rfl) ?_; dsimp only)); refine box_event ?hg (N := 5) ?hd (cs := #[.int .i64 0, .slice none 0 0, .slice none 0 0, .int .i64 0]) (t := 28) ?hr ?_; (case hd => rfl); (case hg => rfl); (case hr => first | (go_simp; done) | (go_simp; rfl)); intro gb444 hg w14 hbox hb; have n0_ := Aside0.mk (Kd.S_below (sz HO426) hb); have n1_ := Aside0.mk (Kd.R_below (rz HO429) hb); have n2_ := Aside0.mk (Kd.R_below (rz HO433) hb); have n3_ := Aside0.mk (Kd.V_below (Kd.V_elderB (vz HO438) gb444 (Nat.le_of_eq hg.symm)) hb); have n4_ := Aside0.mk (Kd.R_below (rz HO441) hb); have n5_ := Aside0.mk (blk_below (bz BK434) hb); have n6_ := Aside0.mk (below_step bh hb); have n7_ := Aside0.mk (hbox); have n8_ := Aside0.mk ((gs (W0 := w) hg bh)); have n9_ := Aside0.mk ((gs (W0 := w) hg bh)); have n10_ := Aside0.mk ((gn hg (bz BK434))); have n11_ := Aside0.mk ((gm hg (bz BK434))); clear HO426 HO429 HO433 HO438 HO441 BK434 HB; have HO426 := n0_; have HO429 := n1_; have HO433 := n2_; have HO438 := n3_; have HO441 := n4_; have BK434 := n5_; have HB := n6_; have BK444 := n7_; have GW444 := n8_; have GE444 := n9_; have NB434_444 := n10_; have NB444_434 := n11_; clear n0_ n1_ n2_ n3_ n4_ n5_ n6_ n7_ n8_ n9_ n10_ n11_ hb hbox hg; have hnb15 := NB444_434.out; have hnc15 := NB434_444.out; have hcz16_0 := cz0 BK444; have hcz16_1 := cz1 BK444; have hcz16_2 := cz2 BK444; have hcz16_3 := cz3 BK444; have hfz16_0 := blk_frozen BK444.out 0; have hfz16_1 := blk_frozen BK444.out 1; have hfz16_2 := blk_frozen BK444.out 2; have hfz16_3 := blk_frozen BK444.out 3; obtain ⟨Ao17, co17, eo17⟩ := Kd.V_slice HO438.out; subst eo17; obtain ⟨Ao18, co18, eo18⟩ := Kd.R_slice HO441.out; subst eo18; have hcz19_0 := cz0 BK434; have hcz19_1 := cz1 BK434; have hcz19_2 := cz2 BK434; have hcz19_3 := cz3 BK434; have hfz19_0 := blk_frozen BK434.out 0; have hfz19_1 := blk_frozen BK434.out 1; have hfz19_2 := blk_frozen BK434.out 2; have hfz19_3 := blk_frozen BK434.out 3) | ((with_reducible refine gate_callee (f := 47) rfl ?_); refine goesL_ (some 35) rfl rfl Try.func47 kr rfl #[.agg #[.int .i64 t423, .slice Ao10 t424.length co10, .slice Ao11 t427.length co11, .int .i64 t430], .slice Ao12 t431.length co12] rfl lm ?_; (with_reducible refine (spec_AfterDeaths.calls k t423 _ _ t424 _ _ t427 t430 _ _ t431 t445 t446 t449 t452 t453 _ ?side1 ?side2 ?side3 ?side4 ?side5 ?side6 A5.out).mono ?_); (case side1 => refine (Kd.S_reads' (e := 23) (base := w.heap.size) (ok := fun k_ => ((some k_ ≠ (.slice Ao11 t427.length co11 : Value).ownBlock ∧ some k_ ≠ (.slice Ao12 t431.length co12 : Value).ownBlock) ∧ some k_ ≠ (.slice Ao18 t439.length co18 : Value).ownBlock)) (n := t424.length) (c := co10) ?_).2.2; exact (fS HO426 BK444)); (case side2 => exact (Kd.S_reads' HO426.out).2.1); (case side3 => refine (Kd.R_reads' (e := 3) (base := w.heap.size) (ok := fun k_ => (some k_ ≠ (.slice Ao12 t431.length co12 : Value).ownBlock ∧ some k_ ≠ (.slice Ao18 t439.length co18 : Value).ownBlock)) (n := t427.length) (c := co11) ?_).2.2; exact (fR HO429 BK444)); (case side4 => exact (Kd.R_reads' HO429.out).2.1); (case side5 => refine (Kd.R_reads' (e := 3) (base := w.heap.size) (ok := fun k_ => (some k_ ≠ (.slice Ao11 t427.length co11 : Value).ownBlock ∧ some k_ ≠ (.slice Ao18 t439.length co18 : Value).ownBlock)) (n := t431.length) (c := co12) ?_).2.2; exact (fR HO433 BK444)); (case side6 => exact (Kd.R_reads' HO433.out).2.1); rintro e w20 ⟨v447, v450, rfl, ho0, ho1, hb⟩; refine ⟨_, rfl, ?_⟩; have n0_ := Aside0.mk (Kd.S_mono (Kd.S_told (Kd.S_told (Kd.S_old (fS HO426 BK444) hb) (Kd.S_base ho0)) (Kd.R_base ho1)) (fun _ h_ => h_.1)); have n1_ := Aside0.mk (Kd.R_elder' (fR HO429 BK444) (Kd.R_base ho1) hb); have n2_ := Aside0.mk (Kd.R_elder' (fR HO433 BK444) (Kd.R_base ho1) hb); have n3_ := Aside0.mk (Kd.V_mono (Kd.V_told (Kd.V_told (Kd.V_old (uV HO438 (fun _ hk => hk.2)) hb) (Kd.S_base ho0)) (Kd.R_base ho1)) (fun _ h_ => h_.1)); have n4_ := Aside0.mk (Kd.R_elder' (fR HO441 BK444) (Kd.R_base ho1) hb); have n5_ := Aside0.mk (Kd.S_lower (Kd.S_new' (Kd.S_new' (Kd.S_new' (Kd.S_new' ho0 (Kd.S_lt (fS HO426 BK444))) (Kd.R_lt (fR HO429 BK444))) (Kd.R_lt (fR HO433 BK444))) (Kd.R_lt (fR HO441 BK444))) (below_size bh)); have n6_ := Aside0.mk (Kd.R_lower (Kd.R_new' (Kd.R_new' (Kd.R_new' ho1 (Kd.R_lt (fR HO429 BK444))) (Kd.R_lt (fR HO433 BK444))) (Kd.R_lt (fR HO441 BK444))) (below_size bh)); have n7_ := Aside0.mk (blk_below (g := gb434) (o := .cells #[.int .i64 t423, .slice Ao10 t424.length co10, .slice Ao11 t427.length co11, .int .i64 t430] 28 (0, 0)) (bf NB434_444 BK434) hb); have n8_ := Aside0.mk (blk_below (g := gb444) (o := .cells #[.int .i64 t435, .slice Ao17 t436.length co17, .slice Ao18 t439.length co18, .int .i64 t442] 28 (0, 0)) (bp BK444) hb); have n9_ := Aside0.mk (below_step bh hb); clear HO426 HO429 HO433 HO438 HO441 BK434 BK444 HB; have HO426 := n0_; have HO429 := n1_; have HO433 := n2_; have HO438 := n3_; have HO441 := n4_; have HO448 := n5_; have HO451 := n6_; have BK434 := n7_; have BK444 := n8_; have HB := n9_; clear n0_ n1_ n2_ n3_ n4_ n5_ n6_ n7_ n8_ n9_; (try clear hb); (try clear hb2); (try clear hk); (try clear hi); (try clear ho0); (try clear ho1)) | ((with_reducible refine gate_dst (N := 7) rfl ?_); (try (refine gate_guard (by rfl) ?_; dsimp only)); refine box_event ?hg (N := 7) ?hd (cs := #[.int .i64 0, .slice none 0 0, .slice none 0 0, .int .i64 0]) (t := 28) ?hr ?_; (case hd => rfl); (case hg => rfl); (case hr => first | (go_simp; done) | (go_simp; rfl)); intro gb454 hg w21 hbox hb; have n0_ := Aside0.mk (Kd.S_below (sz HO426) hb); have n1_ := Aside0.mk (Kd.R_below (rz HO429) hb); have n2_ := Aside0.mk (Kd.R_below (rz HO433) hb); have n3_ := Aside0.mk (Kd.V_below (Kd.V_elderB (vz HO438) gb454 (Nat.le_of_eq hg.symm)) hb); have n4_ := Aside0.mk (Kd.R_below (rz HO441) hb); have n5_ := Aside0.mk (Kd.S_below (sz HO448) hb); have n6_ := Aside0.mk (Kd.R_below (rz HO451) hb); have n7_ := Aside0.mk (blk_below (bz BK434) hb); have n8_ := Aside0.mk (blk_below (bz BK444) hb); have n9_ := Aside0.mk (below_step bh hb); have n10_ := Aside0.mk (hbox); have n11_ := Aside0.mk ((gs (W0 := w) hg bh)); have n12_ := Aside0.mk ((gs (W0 := w) hg bh)); have n13_ := Aside0.mk ((gn hg (bz BK434))); have n14_ := Aside0.mk ((gm hg (bz BK434))); have n15_ := Aside0.mk ((gn hg (bz BK444))); have n16_ := Aside0.mk ((gm hg (bz BK444))); clear HO426 HO429 HO433 HO438 HO441 HO448 HO451 BK434 BK444 HB; have HO426 := n0_; have HO429 := n1_; have HO433 := n2_; have HO438 := n3_; have HO441 := n4_; have HO448 := n5_; have HO451 := n6_; have BK434 := n7_; have BK444 := n8_; have HB := n9_; have BK454 := n10_; have GW454 := n11_; have GE454 := n12_; have NB434_454 := n13_; have NB454_434 := n14_; have NB444_454 := n15_; have NB454_444 := n16_; clear n0_ n1_ n2_ n3_ n4_ n5_ n6_ n7_ n8_ n9_ n10_ n11_ n12_ n13_ n14_ n15_ n16_ hb hbox hg; have hnb22 := NB454_434.out; have hnc22 := NB434_454.out; have hnb23 := NB454_444.out; have hnc23 := NB444_454.out; have hcz24_0 := cz0 BK454; have hcz24_1 := cz1 BK454; have hcz24_2 := cz2 BK454; have hcz24_3 := cz3 BK454; have hfz24_0 := blk_frozen BK454.out 0; have hfz24_1 := blk_frozen BK454.out 1; have hfz24_2 := blk_frozen BK454.out 2; have hfz24_3 := blk_frozen BK454.out 3; obtain ⟨Ao25, co25, eo25⟩ := Kd.S_slice HO448.out; subst eo25; obtain ⟨Ao26, co26, eo26⟩ := Kd.R_slice HO451.out; subst eo26))
  (try simp only [Act.put, List.setIfInBounds_toArray, List.set_cons_zero, List.set_cons_succ])
  go_cut [46] (fun v46 wc => ∃ (kq : Nat) (x46_5 : Bool), v46 = .bool x46_5 ∧ Aside0 (laws_FnAfterDeaths.j0 kq t431 t443 x46_5 t423 t424 t427 t430 t435 t436 t439 t442 = some r) ∧ Aside0 (kq ≤ k) ∧ Aside0 (Kd.R (Kd.int .i64) 3 wc w.heap.size (fun k_ => some k_ ≠ ((.slice Ao11 t427.length co11) : Value).ownBlock ∧ some k_ ≠ ((.slice Ao18 t439.length co18) : Value).ownBlock ∧ some k_ ≠ ((.slice Ao26 t449.length co26) : Value).ownBlock) (.slice Ao12 t431.length co12) t431) ∧ Aside0 (Kd.S (Kd.slice 3 (Kd.int .i64)) 23 wc w.heap.size (fun k_ => some k_ ≠ ((.slice Ao12 t431.length co12) : Value).ownBlock ∧ some k_ ≠ ((.slice Ao11 t427.length co11) : Value).ownBlock ∧ some k_ ≠ ((.slice Ao18 t439.length co18) : Value).ownBlock ∧ some k_ ≠ ((.slice Ao25 t446.length co25) : Value).ownBlock ∧ some k_ ≠ ((.slice Ao26 t449.length co26) : Value).ownBlock) (.slice Ao10 t424.length co10) t424) ∧ Aside0 (Kd.R (Kd.int .i64) 3 wc w.heap.size (fun k_ => some k_ ≠ ((.slice Ao12 t431.length co12) : Value).ownBlock ∧ some k_ ≠ ((.slice Ao18 t439.length co18) : Value).ownBlock ∧ some k_ ≠ ((.slice Ao26 t449.length co26) : Value).ownBlock) (.slice Ao11 t427.length co11) t427) ∧ Aside0 (Kd.V (Kd.slice 3 (Kd.int .i64)) 23 wc w.heap.size (fun k_ => some k_ ≠ ((.slice Ao12 t431.length co12) : Value).ownBlock ∧ some k_ ≠ ((.slice Ao10 t424.length co10) : Value).ownBlock ∧ some k_ ≠ ((.slice Ao11 t427.length co11) : Value).ownBlock ∧ some k_ ≠ ((.slice Ao18 t439.length co18) : Value).ownBlock ∧ some k_ ≠ ((.slice Ao25 t446.length co25) : Value).ownBlock ∧ some k_ ≠ ((.slice Ao26 t449.length co26) : Value).ownBlock ∧ k_ ≠ gb434 ∧ k_ ≠ gb444 ∧ k_ ≠ gb454) (.slice Ao17 t436.length co17) t436) ∧ Aside0 (Kd.R (Kd.int .i64) 3 wc w.heap.size (fun k_ => some k_ ≠ ((.slice Ao12 t431.length co12) : Value).ownBlock ∧ some k_ ≠ ((.slice Ao11 t427.length co11) : Value).ownBlock ∧ some k_ ≠ ((.slice Ao26 t449.length co26) : Value).ownBlock) (.slice Ao18 t439.length co18) t439) ∧ Aside0 (Kd.S (Kd.slice 3 (Kd.int .i64)) 23 wc w.heap.size (fun k_ => some k_ ≠ ((.slice Ao12 t431.length co12) : Value).ownBlock ∧ some k_ ≠ ((.slice Ao10 t424.length co10) : Value).ownBlock ∧ some k_ ≠ ((.slice Ao11 t427.length co11) : Value).ownBlock ∧ some k_ ≠ ((.slice Ao18 t439.length co18) : Value).ownBlock ∧ some k_ ≠ ((.slice Ao26 t449.length co26) : Value).ownBlock) (.slice Ao25 t446.length co25) t446) ∧ Aside0 (Kd.R (Kd.int .i64) 3 wc w.heap.size (fun k_ => some k_ ≠ ((.slice Ao12 t431.length co12) : Value).ownBlock ∧ some k_ ≠ ((.slice Ao11 t427.length co11) : Value).ownBlock ∧ some k_ ≠ ((.slice Ao18 t439.length co18) : Value).ownBlock) (.slice Ao26 t449.length co26) t449) ∧ Aside0 (wc.heap[gb434]? = some (.cells #[.int .i64 t423, (.slice Ao10 t424.length co10), (.slice Ao11 t427.length co11), .int .i64 t430] 28 (0, 0))) ∧ Aside0 (wc.heap[gb444]? = some (.cells #[.int .i64 t435, (.slice Ao17 t436.length co17), (.slice Ao18 t439.length co18), .int .i64 t442] 28 (0, 0))) ∧ Aside0 (wc.heap[gb454]? = some (.cells #[.int .i64 t445, (.slice Ao25 t446.length co25), (.slice Ao26 t449.length co26), .int .i64 t452] 28 (0, 0))) ∧ Aside0 (Below w.heap.size w wc))
  case first =>
   have H := HC6.out
   clear HC6
   replace H := Option.bind_eq_some_iff.mp H
   obtain ⟨t455, A270, H⟩ := H
   replace H : (if t455 = true then (laws_FnAfterDeaths.j0 k t431 t443 (t443 != t453) t423 t424 t427 t430 t435 t436 t439 t442) else (laws_FnAfterDeaths.j0 k t431 t443 true t423 t424 t427 t430 t435 t436 t439 t442)) = some r := H
   have A27 := Aside0.mk A270
   clear A270
   by_cases c28 : t455 = true
   ·subst c28
    have H1 : (laws_FnAfterDeaths.j0 k t431 t443 (t443 != t453) t423 t424 t427 t430 t435 t436 t439 t442) = some r := by rw [if_pos rfl] at H; exact H
    clear H
    have H := H1
    clear H1
    have H' := Aside0.mk H
    clear H
    have hnb29 := NB444_434.out
    have hnc29 := NB434_444.out
    have hnb30 := NB444_454.out
    have hnc30 := NB454_444.out
    have hcz31_0 := cz0 BK444
    have hcz31_1 := cz1 BK444
    have hcz31_2 := cz2 BK444
    have hcz31_3 := cz3 BK444
    have hfz31_0 := blk_frozen BK444.out 0
    have hfz31_1 := blk_frozen BK444.out 1
    have hfz31_2 := blk_frozen BK444.out 2
    have hfz31_3 := blk_frozen BK444.out 3
    have hnb32 := NB454_434.out
    have hnc32 := NB434_454.out
    have hcz33_0 := cz0 BK454
    have hcz33_1 := cz1 BK454
    have hcz33_2 := cz2 BK454
    have hcz33_3 := cz3 BK454
    have hfz33_0 := blk_frozen BK454.out 0
    have hfz33_1 := blk_frozen BK454.out 1
    have hfz33_2 := blk_frozen BK454.out 2
    have hfz33_3 := blk_frozen BK454.out 3
    go_wp2_with (first | ((with_reducible refine gate_callee (f := 35) rfl ?_); refine goesL_ (some 40) rfl rfl Try.func35 kr rfl #[.agg #[.int .i64 t435, .slice Ao17 t436.length co17, .slice Ao18 t439.length co18, .int .i64 t442], .agg #[.int .i64 t445, .slice Ao25 t446.length co25, .slice Ao26 t449.length co26, .int .i64 t452]] rfl lm ?_; (with_reducible refine (laws_sameCourt.calls k t435 _ _ t436 _ _ t439 t442 t445 _ _ t446 _ _ t449 t452 true _ ?side1 ?side2 ?side3 ?side4 ?side5 ?side6 ?side7 ?side8 A27.out).mono ?_); (case side1 => refine (Kd.V_reads' (e := 23) (base := w.heap.size) (ok := fun k_ => (((((some k_ ≠ (.slice Ao18 t439.length co18 : Value).ownBlock ∧ (some k_ ≠ (.slice Ao10 t424.length co10 : Value).ownBlock ∧ (some k_ ≠ (.slice Ao11 t427.length co11 : Value).ownBlock ∧ (some k_ ≠ (.slice Ao12 t431.length co12 : Value).ownBlock ∧ k_ ≠ gb434)))) ∧ k_ ≠ gb444) ∧ some k_ ≠ (.slice Ao25 t446.length co25 : Value).ownBlock) ∧ some k_ ≠ (.slice Ao26 t449.length co26 : Value).ownBlock) ∧ k_ ≠ gb454)) (n := t436.length) (c := co17) ?_).2.2; exact (uV HO438 (fun _ hk => hk.2))); (case side2 => exact (Kd.V_reads' HO438.out).2.1); (case side3 => refine (Kd.R_reads' (e := 3) (base := w.heap.size) (ok := fun k_ => (((True ∧ some k_ ≠ (.slice Ao11 t427.length co11 : Value).ownBlock) ∧ some k_ ≠ (.slice Ao12 t431.length co12 : Value).ownBlock) ∧ some k_ ≠ (.slice Ao26 t449.length co26 : Value).ownBlock)) (n := t439.length) (c := co18) ?_).2.2; exact (fR HO441 BK454)); (case side4 => exact (Kd.R_reads' HO441.out).2.1); (case side5 => refine (Kd.S_reads' (e := 23) (base := w.heap.size) (ok := fun k_ => ((((some k_ ≠ (.slice Ao26 t449.length co26 : Value).ownBlock ∧ some k_ ≠ (.slice Ao10 t424.length co10 : Value).ownBlock) ∧ some k_ ≠ (.slice Ao11 t427.length co11 : Value).ownBlock) ∧ some k_ ≠ (.slice Ao12 t431.length co12 : Value).ownBlock) ∧ some k_ ≠ (.slice Ao18 t439.length co18 : Value).ownBlock)) (n := t446.length) (c := co25) ?_).2.2; exact (fS HO448 BK454)); (case side6 => exact (Kd.S_reads' HO448.out).2.1); (case side7 => refine (Kd.R_reads' (e := 3) (base := w.heap.size) (ok := fun k_ => (((True ∧ some k_ ≠ (.slice Ao11 t427.length co11 : Value).ownBlock) ∧ some k_ ≠ (.slice Ao12 t431.length co12 : Value).ownBlock) ∧ some k_ ≠ (.slice Ao18 t439.length co18 : Value).ownBlock)) (n := t449.length) (c := co26) ?_).2.2; exact (fR HO451 BK454)); (case side8 => exact (Kd.R_reads' HO451.out).2.1); rintro e w34 ⟨rfl, hb⟩; refine ⟨_, rfl, ?_⟩; have n0_ := Aside0.mk (Kd.S_below (fS HO426 BK454) hb); have n1_ := Aside0.mk (Kd.R_below (fR HO429 BK454) hb); have n2_ := Aside0.mk (Kd.R_below (fR HO433 BK454) hb); have n3_ := Aside0.mk (Kd.V_below (uV HO438 (fun _ hk => hk.2)) hb); have n4_ := Aside0.mk (Kd.R_below (fR HO441 BK454) hb); have n5_ := Aside0.mk (Kd.S_below (fS HO448 BK454) hb); have n6_ := Aside0.mk (Kd.R_below (fR HO451 BK454) hb); have n7_ := Aside0.mk (blk_below (g := gb434) (o := .cells #[.int .i64 t423, .slice Ao10 t424.length co10, .slice Ao11 t427.length co11, .int .i64 t430] 28 (0, 0)) (bf NB434_454 BK434) hb); have n8_ := Aside0.mk (blk_below (g := gb444) (o := .cells #[.int .i64 t435, .slice Ao17 t436.length co17, .slice Ao18 t439.length co18, .int .i64 t442] 28 (0, 0)) (bf NB444_454 BK444) hb); have n9_ := Aside0.mk (blk_below (g := gb454) (o := .cells #[.int .i64 t445, .slice Ao25 t446.length co25, .slice Ao26 t449.length co26, .int .i64 t452] 28 (0, 0)) (bp BK454) hb); have n10_ := Aside0.mk (below_step bh hb); clear HO426 HO429 HO433 HO438 HO441 HO448 HO451 BK434 BK444 BK454 HB; have HO426 := n0_; have HO429 := n1_; have HO433 := n2_; have HO438 := n3_; have HO441 := n4_; have HO448 := n5_; have HO451 := n6_; have BK434 := n7_; have BK444 := n8_; have BK454 := n9_; have HB := n10_; clear n0_ n1_ n2_ n3_ n4_ n5_ n6_ n7_ n8_ n9_ n10_; (try clear hb); (try clear hb2); (try clear hk); (try clear hi)))
    go_meet
    case rel => exact ⟨_, ((t443 != t453)), (by first | rfl | (simp; done) | (simp [*]; done)), H', ⟨by first | omega | exact Nat.le_refl _⟩, ⟨mR HO433⟩, ⟨mS HO426⟩, ⟨mR HO429⟩, ⟨mV HO438⟩, ⟨mR HO441⟩, ⟨mS HO448⟩, ⟨mR HO451⟩, ⟨bz BK434⟩, ⟨bz BK444⟩, ⟨bz BK454⟩, ⟨by exact bh⟩⟩
   ·replace c28 := Bool.eq_false_iff.mpr c28
    subst c28
    have H1 : (laws_FnAfterDeaths.j0 k t431 t443 true t423 t424 t427 t430 t435 t436 t439 t442) = some r := by rw [if_neg (show ¬ (false = true) by decide)] at H; exact H
    clear H
    have H := H1
    clear H1
    have H' := Aside0.mk H
    clear H
    have hnb35 := NB444_434.out
    have hnc35 := NB434_444.out
    have hnb36 := NB444_454.out
    have hnc36 := NB454_444.out
    have hcz37_0 := cz0 BK444
    have hcz37_1 := cz1 BK444
    have hcz37_2 := cz2 BK444
    have hcz37_3 := cz3 BK444
    have hfz37_0 := blk_frozen BK444.out 0
    have hfz37_1 := blk_frozen BK444.out 1
    have hfz37_2 := blk_frozen BK444.out 2
    have hfz37_3 := blk_frozen BK444.out 3
    have hnb38 := NB454_434.out
    have hnc38 := NB434_454.out
    have hcz39_0 := cz0 BK454
    have hcz39_1 := cz1 BK454
    have hcz39_2 := cz2 BK454
    have hcz39_3 := cz3 BK454
    have hfz39_0 := blk_frozen BK454.out 0
    have hfz39_1 := blk_frozen BK454.out 1
    have hfz39_2 := blk_frozen BK454.out 2
    have hfz39_3 := blk_frozen BK454.out 3
    go_wp2_with (first | ((with_reducible refine gate_callee (f := 35) rfl ?_); refine goesL_ (some 40) rfl rfl Try.func35 kr rfl #[.agg #[.int .i64 t435, .slice Ao17 t436.length co17, .slice Ao18 t439.length co18, .int .i64 t442], .agg #[.int .i64 t445, .slice Ao25 t446.length co25, .slice Ao26 t449.length co26, .int .i64 t452]] rfl lm ?_; (with_reducible refine (laws_sameCourt.calls k t435 _ _ t436 _ _ t439 t442 t445 _ _ t446 _ _ t449 t452 false _ ?side1 ?side2 ?side3 ?side4 ?side5 ?side6 ?side7 ?side8 A27.out).mono ?_); (case side1 => refine (Kd.V_reads' (e := 23) (base := w.heap.size) (ok := fun k_ => (((((some k_ ≠ (.slice Ao18 t439.length co18 : Value).ownBlock ∧ (some k_ ≠ (.slice Ao10 t424.length co10 : Value).ownBlock ∧ (some k_ ≠ (.slice Ao11 t427.length co11 : Value).ownBlock ∧ (some k_ ≠ (.slice Ao12 t431.length co12 : Value).ownBlock ∧ k_ ≠ gb434)))) ∧ k_ ≠ gb444) ∧ some k_ ≠ (.slice Ao25 t446.length co25 : Value).ownBlock) ∧ some k_ ≠ (.slice Ao26 t449.length co26 : Value).ownBlock) ∧ k_ ≠ gb454)) (n := t436.length) (c := co17) ?_).2.2; exact (uV HO438 (fun _ hk => hk.2))); (case side2 => exact (Kd.V_reads' HO438.out).2.1); (case side3 => refine (Kd.R_reads' (e := 3) (base := w.heap.size) (ok := fun k_ => (((True ∧ some k_ ≠ (.slice Ao11 t427.length co11 : Value).ownBlock) ∧ some k_ ≠ (.slice Ao12 t431.length co12 : Value).ownBlock) ∧ some k_ ≠ (.slice Ao26 t449.length co26 : Value).ownBlock)) (n := t439.length) (c := co18) ?_).2.2; exact (fR HO441 BK454)); (case side4 => exact (Kd.R_reads' HO441.out).2.1); (case side5 => refine (Kd.S_reads' (e := 23) (base := w.heap.size) (ok := fun k_ => ((((some k_ ≠ (.slice Ao26 t449.length co26 : Value).ownBlock ∧ some k_ ≠ (.slice Ao10 t424.length co10 : Value).ownBlock) ∧ some k_ ≠ (.slice Ao11 t427.length co11 : Value).ownBlock) ∧ some k_ ≠ (.slice Ao12 t431.length co12 : Value).ownBlock) ∧ some k_ ≠ (.slice Ao18 t439.length co18 : Value).ownBlock)) (n := t446.length) (c := co25) ?_).2.2; exact (fS HO448 BK454)); (case side6 => exact (Kd.S_reads' HO448.out).2.1); (case side7 => refine (Kd.R_reads' (e := 3) (base := w.heap.size) (ok := fun k_ => (((True ∧ some k_ ≠ (.slice Ao11 t427.length co11 : Value).ownBlock) ∧ some k_ ≠ (.slice Ao12 t431.length co12 : Value).ownBlock) ∧ some k_ ≠ (.slice Ao18 t439.length co18 : Value).ownBlock)) (n := t449.length) (c := co26) ?_).2.2; exact (fR HO451 BK454)); (case side8 => exact (Kd.R_reads' HO451.out).2.1); rintro e w40 ⟨rfl, hb⟩; refine ⟨_, rfl, ?_⟩; have n0_ := Aside0.mk (Kd.S_below (fS HO426 BK454) hb); have n1_ := Aside0.mk (Kd.R_below (fR HO429 BK454) hb); have n2_ := Aside0.mk (Kd.R_below (fR HO433 BK454) hb); have n3_ := Aside0.mk (Kd.V_below (uV HO438 (fun _ hk => hk.2)) hb); have n4_ := Aside0.mk (Kd.R_below (fR HO441 BK454) hb); have n5_ := Aside0.mk (Kd.S_below (fS HO448 BK454) hb); have n6_ := Aside0.mk (Kd.R_below (fR HO451 BK454) hb); have n7_ := Aside0.mk (blk_below (g := gb434) (o := .cells #[.int .i64 t423, .slice Ao10 t424.length co10, .slice Ao11 t427.length co11, .int .i64 t430] 28 (0, 0)) (bf NB434_454 BK434) hb); have n8_ := Aside0.mk (blk_below (g := gb444) (o := .cells #[.int .i64 t435, .slice Ao17 t436.length co17, .slice Ao18 t439.length co18, .int .i64 t442] 28 (0, 0)) (bf NB444_454 BK444) hb); have n9_ := Aside0.mk (blk_below (g := gb454) (o := .cells #[.int .i64 t445, .slice Ao25 t446.length co25, .slice Ao26 t449.length co26, .int .i64 t452] 28 (0, 0)) (bp BK454) hb); have n10_ := Aside0.mk (below_step bh hb); clear HO426 HO429 HO433 HO438 HO441 HO448 HO451 BK434 BK444 BK454 HB; have HO426 := n0_; have HO429 := n1_; have HO433 := n2_; have HO438 := n3_; have HO441 := n4_; have HO448 := n5_; have HO451 := n6_; have BK434 := n7_; have BK444 := n8_; have BK454 := n9_; have HB := n10_; clear n0_ n1_ n2_ n3_ n4_ n5_ n6_ n7_ n8_ n9_ n10_; (try clear hb); (try clear hb2); (try clear hk); (try clear hi)))
    go_meet
    case rel => exact ⟨_, (true), (by first | rfl | (simp; done) | (simp [*]; done)), H', ⟨by first | omega | exact Nat.le_refl _⟩, ⟨mR HO433⟩, ⟨mS HO426⟩, ⟨mR HO429⟩, ⟨mV HO438⟩, ⟨mR HO441⟩, ⟨mS HO448⟩, ⟨mR HO451⟩, ⟨bz BK434⟩, ⟨bz BK444⟩, ⟨bz BK454⟩, ⟨by exact bh⟩⟩
  case rest =>
   clear HC6
   try clear c1
   try clear c2
   try clear c2b0
   try clear c2b1
   try clear p2
   try clear c3
   try clear c4
   try clear c15
   try clear c22
   try clear c23
   try clear c28
   try clear c29
   try clear c30
   try clear c31
   try clear c32
   try clear c35
   try clear c36
   try clear c38
   try clear hcz16_0
   try clear hcz16_1
   try clear hcz16_2
   try clear hcz16_3
   try clear hcz19_0
   try clear hcz19_1
   try clear hcz19_2
   try clear hcz19_3
   try clear hcz24_0
   try clear hcz24_1
   try clear hcz24_2
   try clear hcz24_3
   try clear hcz31_0
   try clear hcz31_1
   try clear hcz31_2
   try clear hcz31_3
   try clear hcz33_0
   try clear hcz33_1
   try clear hcz33_2
   try clear hcz33_3
   try clear hcz37_0
   try clear hcz37_1
   try clear hcz37_2
   try clear hcz37_3
   try clear hcz39_0
   try clear hcz39_1
   try clear hcz39_2
   try clear hcz39_3
   try clear hcz9_0
   try clear hcz9_1
   try clear hcz9_2
   try clear hcz9_3
   try clear hfz16_0
   try clear hfz16_1
   try clear hfz16_2
   try clear hfz16_3
   try clear hfz19_0
   try clear hfz19_1
   try clear hfz19_2
   try clear hfz19_3
   try clear hfz24_0
   try clear hfz24_1
   try clear hfz24_2
   try clear hfz24_3
   try clear hfz31_0
   try clear hfz31_1
   try clear hfz31_2
   try clear hfz31_3
   try clear hfz33_0
   try clear hfz33_1
   try clear hfz33_2
   try clear hfz33_3
   try clear hfz37_0
   try clear hfz37_1
   try clear hfz37_2
   try clear hfz37_3
   try clear hfz39_0
   try clear hfz39_1
   try clear hfz39_2
   try clear hfz39_3
   try clear hfz9_0
   try clear hfz9_1
   try clear hfz9_2
   try clear hfz9_3
   obtain ⟨kq, x46_5, rfl, HA, HJ5, HO_4, HO_435001, HO_435002, HO_445001, HO_445002, HO_455001, HO_455002, BK434, BK444, BK454, HB⟩ := hcut
   cases kq with
   | zero => exact absurd HA.out (by simp [laws_FnAfterDeaths.j0])
   | succ kj5 =>
    have H := HA.out
    clear HA
    simp only [laws_FnAfterDeaths.j0] at H
    by_cases c41 : x46_5 = true
    ·subst c41
     have H1 : (none) = some r := by rw [if_pos rfl] at H; exact H
     clear H
     have H := H1
     clear H1
     exact absurd H (by simp)
    ·replace c41 := Bool.eq_false_iff.mpr c41
     subst c41
     have H1 : (if t443 < 0 then (if t443 = (-1) then ((laws_sameCourt.f kj5 t435 t436 t439 t442 0 ([] : List (List Int)) ([] : List Int) 0).bind fun t456 => (if t456 = true then ((laws_alive.f).bind fun t457 => (some t457)) else (none))) else (none)) else (if 0 ≤ (wrap64 ((t431.length : Int) / 2)) then (if (wrap64 ((t431.length : Int) / 2)) ≤ (t431.length : Int) then ((impl_AfterDeaths.f kj5 t423 t424 t427 t430 (t431.take ((wrap64 ((t431.length : Int) / 2)) : Int).toNat)).bind fun bt462 => ((impl_AfterDeaths.f kj5 bt462.1 bt462.2.1 bt462.2.2.1 bt462.2.2.2.1 (t431.drop ((wrap64 ((t431.length : Int) / 2)) : Int).toNat)).bind fun bt476 => (laws_FnAfterDeaths.l0 kj5 t443 bt462.2.2.2.2 bt476.2.2.2.2 (([] : List Int)) 0 t423 t424 t427 t430 t435 t436 t439 t442 bt476.1 bt476.2.1 bt476.2.2.1 bt476.2.2.2.1))) else (none)) else (none))) = some r := by rw [if_neg (show ¬ (false = true) by decide)] at H; exact H
     clear H
     have H := H1
     clear H1
     by_cases c42 : t443 < 0
     ·rw [if_pos c42] at H
      have c42b0 : decide (t443 < 0) = true := decide_eq_true c42
      clear c42
      by_cases c43 : t443 = (-1)
      ·rw [if_pos c43] at H
       have c43b0 : (t443 == (-1)) = true := beq_iff_eq.mpr c43
       have c43b1 : (t443 != (-1)) = false := bne_eq_false_iff_eq.mpr c43
       clear c43
       replace H := Option.bind_eq_some_iff.mp H
       obtain ⟨t456, A440, H⟩ := H
       replace H : (if t456 = true then ((laws_alive.f).bind fun t457 => (some t457)) else (none)) = some r := H
       have A44 := Aside0.mk A440
       clear A440
       by_cases c45 : t456 = true
       ·subst c45
        have H1 : ((laws_alive.f).bind fun t457 => (some t457)) = some r := by rw [if_pos rfl] at H; exact H
        clear H
        have H := H1
        clear H1
        replace H := Option.bind_eq_some_iff.mp H
        obtain ⟨t457, A460, H⟩ := H
        replace H : (some t457) = some r := H
        have A46 := Aside0.mk A460
        clear A460
        obtain rfl := Option.some.inj H
        have hnb47 := NB444_434.out
        have hnc47 := NB434_444.out
        have hnb48 := NB444_454.out
        have hnc48 := NB454_444.out
        have hcz49_0 := cz0 BK444
        have hcz49_1 := cz1 BK444
        have hcz49_2 := cz2 BK444
        have hcz49_3 := cz3 BK444
        have hfz49_0 := blk_frozen BK444.out 0
        have hfz49_1 := blk_frozen BK444.out 1
        have hfz49_2 := blk_frozen BK444.out 2
        have hfz49_3 := blk_frozen BK444.out 3
        go_wp2_with (first | (go_at_call 35; (refine (laws_sameCourt.calls kj5 t435 _ _ t436 _ _ t439 t442 0 _ _ ([] : List (List Int)) _ _ ([] : List Int) 0 true _ ?side1 ?side2 ?side3 ?side4 ?side5 ?side6 ?side7 ?side8 A44.out).mono ?_); (case side1 => repeat (first | exact (Kd.V_reads' HO_445001.out).2.2 | (with_reducible refine Kd.C_alloc ?_ _) | (with_reducible refine Kd.C_drewN ?_ _) | (with_reducible refine Kd.C_drew ?_))); (case side2 => exact (Kd.V_reads' HO_445001.out).2.1); (case side3 => repeat (first | exact (Kd.R_reads' HO_445002.out).2.2 | (with_reducible refine Kd.C_alloc ?_ _) | (with_reducible refine Kd.C_drewN ?_ _) | (with_reducible refine Kd.C_drew ?_))); (case side4 => exact (Kd.R_reads' HO_445002.out).2.1); (case side5 => exact Kd.C_nil _ _); (case side6 => exact Nat.le_refl _); (case side7 => exact Kd.C_nil _ _); (case side8 => exact Nat.le_refl _); rintro e w50 ⟨rfl, hb⟩; have n0_ := Aside0.mk (Kd.R_below (rz HO_4) hb); have n1_ := Aside0.mk (Kd.S_below (sz HO_435001) hb); have n2_ := Aside0.mk (Kd.R_below (rz HO_435002) hb); have n3_ := Aside0.mk (Kd.V_below (vz HO_445001) hb); have n4_ := Aside0.mk (Kd.R_below (rz HO_445002) hb); have n5_ := Aside0.mk (Kd.S_below (sz HO_455001) hb); have n6_ := Aside0.mk (Kd.R_below (rz HO_455002) hb); have n7_ := Aside0.mk (blk_below (bz BK434) hb); have n8_ := Aside0.mk (blk_below (bz BK444) hb); have n9_ := Aside0.mk (blk_below (bz BK454) hb); have n10_ := Aside0.mk (below_step bh hb); clear HO_4 HO_435001 HO_435002 HO_445001 HO_445002 HO_455001 HO_455002 BK434 BK444 BK454 HB; have HO_4 := n0_; have HO_435001 := n1_; have HO_435002 := n2_; have HO_445001 := n3_; have HO_445002 := n4_; have HO_455001 := n5_; have HO_455002 := n6_; have BK434 := n7_; have BK444 := n8_; have BK454 := n9_; have HB := n10_; clear n0_ n1_ n2_ n3_ n4_ n5_ n6_ n7_ n8_ n9_ n10_; (try clear hb); (try clear hb2); (try clear hk); (try clear hi)) | (go_at_call 22; (with_reducible refine (laws_alive.calls  t457 _ A46.out).mono ?_); rintro e w' ⟨rfl, ⟨nd, rfl⟩⟩))
        go_ret
        exact ⟨by first | rfl | (simp [errW_none, errW_some] <;> rfl) | (simp [*, errW_none, errW_some] <;> rfl), by exact bh⟩
       ·replace c45 := Bool.eq_false_iff.mpr c45
        subst c45
        have H1 : (none) = some r := by rw [if_neg (show ¬ (false = true) by decide)] at H; exact H
        clear H
        have H := H1
        clear H1
        exact absurd H (by simp)
      ·rw [if_neg c43] at H
       exact absurd H (by simp)
     ·rw [if_neg c42] at H
      have c42b0 : decide (t443 < 0) = false := decide_eq_false c42
      clear c42
      obtain ⟨ji51, hji51⟩ : ∃ j_ : Int, (wrap64 ((t431.length : Int) / 2)) = j_ := ⟨_, rfl⟩
      replace H : (if 0 ≤ (ji51) then (if (ji51) ≤ (t431.length : Int) then ((impl_AfterDeaths.f kj5 t423 t424 t427 t430 (t431.take ((ji51) : Int).toNat)).bind fun bt462 => ((impl_AfterDeaths.f kj5 bt462.1 bt462.2.1 bt462.2.2.1 bt462.2.2.2.1 (t431.drop ((ji51) : Int).toNat)).bind fun bt476 => (laws_FnAfterDeaths.l0 kj5 t443 bt462.2.2.2.2 bt476.2.2.2.2 (([] : List Int)) 0 t423 t424 t427 t430 t435 t436 t439 t442 bt476.1 bt476.2.1 bt476.2.2.1 bt476.2.2.2.1))) else (none)) else (none)) = some r := by first | (rw [hji51] at H; exact H) | (simp only [hji51] at H ⊢; exact H)
      have hji51w : (IntKind.i64.wrap ((t431.length : Int) / 2)) = ji51 := (i64_w _).trans hji51
      by_cases c52 : 0 ≤ (ji51)
      ·rw [if_pos c52] at H
       have c52b0 := eq_true c52
       have c52b1 : decide (0 ≤ (ji51)) = true := decide_eq_true c52
       clear c52
       by_cases c53 : (ji51) ≤ (t431.length : Int)
       ·rw [if_pos c53] at H
        have c53b0 := eq_true c53
        have c53b1 : decide ((ji51) ≤ (t431.length : Int)) = true := decide_eq_true c53
        clear c53
        obtain ⟨y458, hy458⟩ : ∃ y_ : List Int, y_ = (t431.take ((ji51) : Int).toNat) := ⟨_, rfl⟩
        replace H : ((impl_AfterDeaths.f kj5 t423 t424 t427 t430 y458).bind fun bt462 => ((impl_AfterDeaths.f kj5 bt462.1 bt462.2.1 bt462.2.2.1 bt462.2.2.2.1 (t431.drop ((ji51) : Int).toNat)).bind fun bt476 => (laws_FnAfterDeaths.l0 kj5 t443 bt462.2.2.2.2 bt476.2.2.2.2 (([] : List Int)) 0 t423 t424 t427 t430 t435 t436 t439 t442 bt476.1 bt476.2.1 bt476.2.2.1 bt476.2.2.2.1))) = some r := by first | (rw [hy458]; with_reducible exact H) | (have H2_ := (Option.bind_some _ _).symm.trans H; rw [hy458]; with_reducible exact H2_) | (have H2_ := (Option.bind_some _ _).symm.trans H; with_reducible exact H2_) | with_reducible exact H | (rw [hy458]; exact H) | exact H
        have Ny458 := Aside0.mk hy458
        clear hy458
        replace H := Option.bind_eq_some_iff.mp H
        obtain ⟨⟨t462, t463, t466, t469, t470⟩, A540, H⟩ := H
        replace H : ((impl_AfterDeaths.f kj5 t462 t463 t466 t469 (t431.drop ((ji51) : Int).toNat)).bind fun bt476 => (laws_FnAfterDeaths.l0 kj5 t443 t470 bt476.2.2.2.2 (([] : List Int)) 0 t423 t424 t427 t430 t435 t436 t439 t442 bt476.1 bt476.2.1 bt476.2.2.1 bt476.2.2.2.1)) = some r := H
        have A54 := Aside0.mk A540
        clear A540
        have c55b0 := eq_true (oda : 0 ≤ (ji51))
        have c56b0 := eq_true (oda : (ji51) ≤ (t431.length : Int))
        obtain ⟨y472, hy472⟩ : ∃ y_ : List Int, y_ = (t431.drop ((ji51) : Int).toNat) := ⟨_, rfl⟩
        replace H : ((impl_AfterDeaths.f kj5 t462 t463 t466 t469 y472).bind fun bt476 => (laws_FnAfterDeaths.l0 kj5 t443 t470 bt476.2.2.2.2 (([] : List Int)) 0 t423 t424 t427 t430 t435 t436 t439 t442 bt476.1 bt476.2.1 bt476.2.2.1 bt476.2.2.2.1)) = some r := by first | (rw [hy472]; with_reducible exact H) | (have H2_ := (Option.bind_some _ _).symm.trans H; rw [hy472]; with_reducible exact H2_) | (have H2_ := (Option.bind_some _ _).symm.trans H; with_reducible exact H2_) | with_reducible exact H | (rw [hy472]; exact H) | exact H
        have Ny472 := Aside0.mk hy472
        clear hy472
        replace H := Option.bind_eq_some_iff.mp H
        obtain ⟨⟨t476, t477, t480, t483, t484⟩, A570, H⟩ := H
        replace H : (laws_FnAfterDeaths.l0 kj5 t443 t470 t484 (([] : List Int)) 0 t423 t424 t427 t430 t435 t436 t439 t442 t476 t477 t480 t483) = some r := H
        have A57 := Aside0.mk A570
        clear A570
        obtain ⟨y486, hy486⟩ : ∃ y_ : List Int, y_ = (([] : List Int)) := ⟨_, rfl⟩
        replace H : (laws_FnAfterDeaths.l0 kj5 t443 t470 t484 y486 0 t423 t424 t427 t430 t435 t436 t439 t442 t476 t477 t480 t483) = some r := by first | (rw [hy486]; with_reducible exact H) | (have H2_ := (Option.bind_some _ _).symm.trans H; rw [hy486]; with_reducible exact H2_) | (have H2_ := (Option.bind_some _ _).symm.trans H; with_reducible exact H2_) | with_reducible exact H | (rw [hy486]; exact H) | exact H
        have Ny486 := Aside0.mk hy486
        clear hy486
        have H' := Aside0.mk H
        clear H
        try go_wp2
        have n0_ := Aside0.mk (Kd.R_drew HO_4.out)
        have n1_ := Aside0.mk (Kd.S_drew HO_435001.out)
        have n2_ := Aside0.mk (Kd.R_drew HO_435002.out)
        have n3_ := Aside0.mk (Kd.V_drew HO_445001.out)
        have n4_ := Aside0.mk (Kd.R_drew HO_445002.out)
        have n5_ := Aside0.mk (Kd.S_drew HO_455001.out)
        have n6_ := Aside0.mk (Kd.R_drew HO_455002.out)
        have n7_ := Aside0.mk (blk_drew BK434.out)
        have n8_ := Aside0.mk (blk_drew BK444.out)
        have n9_ := Aside0.mk (blk_drew BK454.out)
        have n10_ := Aside0.mk (below_drew1 HB.out)
        clear HO_4 HO_435001 HO_435002 HO_445001 HO_445002 HO_455001 HO_455002 BK434 BK444 BK454 HB
        have HO_4 := n0_
        have HO_435001 := n1_
        have HO_435002 := n2_
        have HO_445001 := n3_
        have HO_445002 := n4_
        have HO_455001 := n5_
        have HO_455002 := n6_
        have BK434 := n7_
        have BK444 := n8_
        have BK454 := n9_
        have HB := n10_
        clear n0_ n1_ n2_ n3_ n4_ n5_ n6_ n7_ n8_ n9_ n10_
        have q59 : ((ji51) : Int) ≤ ((t431.length : Int) : Int) := oda
        obtain ⟨i059, hi059, _, hsz59, _⟩ := info_parts info3
        have hroom59 : t431.length ≤ co12 := (Kd.R_reads' HO_4.out).2.1
        have hC59 : Kd.C (Kd.int .i64) _ Ao12 t431.length t431 := (Kd.R_reads' HO_4.out).2.2
        have hcut59 := cut_to (P := Try.prog) 23 3 .i64 Try.underlying23 hi059 Ao12 t431.length co12 (ji51) oda q59 hroom59
        have hr59 := Kd.C_take (m := ((ji51) : Int).toNat) hC59 (by omega)
        have hy59 : y458.length = ((ji51) : Int).toNat := (by rw [Ny458.out, List.length_take]; omega)
        rw [← Ny458.out] at hr59
        rw [← hy59] at hcut59
        have HR461 := Aside0.mk hr59
        have HC461 := Aside0.mk (show y458.length ≤ co12 from by omega)
        clear hr59 hC59 hroom59 hi059 hsz59
        have KY59 := Aside0.mk hy59
        clear hy59
        have KL59 := Aside0.mk (show ((ji51) : Int).toNat ≤ t431.length from by omega)
        replace q59 := eq_true q59
        refine start_ (n := 11) (S := fun w' => w'.cell? ⟨gb434, 0, none⟩ = some (.int .i64 t423) ∧ w'.cell? ⟨gb434, 1, none⟩ = some (.slice Ao10 t424.length co10) ∧ w'.cell? ⟨gb434, 2, none⟩ = some (.slice Ao11 t427.length co11) ∧ w'.cell? ⟨gb434, 3, none⟩ = some (.int .i64 t430)) (ds := []) #[F,F,F,F,F,F,F,F,F,F,F] kr rfl rfl ⟨cz0 BK434, cz1 BK434, cz2 BK434, cz3 BK434⟩ (fun hHeld => ?_); refine with_tabW laws_FnAfterDeaths.tab11 laws_FnAfterDeaths.bits11 (fun HT_ HW_ => ?_)
        generalize wc.drew = w58 at HO_4 HO_435001 HO_435002 HO_445001 HO_445002 HO_455001 HO_455002 BK434 BK444 BK454 HB HR461 hHeld ⊢
        refine pu 1 (some 64) #[F,T,F,F,F,F,F,F,F,F,F] (any_of HT_.out kr) ?_
        refine pu 2 (some 65) #[F,T,T,F,F,F,F,F,F,F,F] (any_of HT_.out kr) ?_
        refine pu 3 (some 66) #[F,T,T,T,F,F,F,F,F,F,F] (any_of HT_.out kr) ?_
        refine tk4 0 (some 63) #[T,T,T,T,F,F,F,F,F,F,F] (take_ofW HT_.out HW_.out kr) ?_
        refine join_ (σ := Value × Value × Nat) 2 #[T,T,T,T,T,T,T,T,T,F,F] (fun s_ => [(67, .tuple #[.agg #[.int .i64 t462, s_.1, s_.2.1, .int .i64 t469], .int .i64 t470]), (10, .pointer (some ⟨s_.2.2, 0, none⟩)), (62, .tuple #[.agg #[.int .i64 t462, s_.1, s_.2.1, .int .i64 t469], .int .i64 t470]), (68, .agg #[.int .i64 t462, s_.1, s_.2.1, .int .i64 t469]), (69, .int .i64 t470)]) (fun s_ w' => (w'.cell? ⟨gb434, 0, none⟩ = some (.int .i64 t423) ∧ w'.cell? ⟨gb434, 1, none⟩ = some (.slice Ao10 t424.length co10) ∧ w'.cell? ⟨gb434, 2, none⟩ = some (.slice Ao11 t427.length co11) ∧ w'.cell? ⟨gb434, 3, none⟩ = some (.int .i64 t430)) ∧ (Kd.V (Kd.slice 3 (Kd.int .i64)) 23 w' w.heap.size (fun k_ => some k_ ≠ (s_.2.1 : Value).ownBlock ∧ some k_ ≠ (.slice Ao12 t431.length co12 : Value).ownBlock ∧ some k_ ≠ (.slice Ao10 t424.length co10 : Value).ownBlock ∧ some k_ ≠ (.slice Ao11 t427.length co11 : Value).ownBlock ∧ some k_ ≠ (.slice Ao18 t439.length co18 : Value).ownBlock ∧ some k_ ≠ (.slice Ao25 t446.length co25 : Value).ownBlock ∧ some k_ ≠ (.slice Ao26 t449.length co26 : Value).ownBlock ∧ k_ ≠ gb434 ∧ k_ ≠ gb444 ∧ k_ ≠ gb454 ∧ k_ ≠ s_.2.2) s_.1 t463) ∧ (Kd.R (Kd.int .i64) 3 w' w.heap.size (fun k_ => some k_ ≠ (.slice Ao12 t431.length co12 : Value).ownBlock ∧ some k_ ≠ (.slice Ao11 t427.length co11 : Value).ownBlock ∧ some k_ ≠ (.slice Ao18 t439.length co18 : Value).ownBlock ∧ some k_ ≠ (.slice Ao26 t449.length co26 : Value).ownBlock) s_.2.1 t466) ∧ (Kd.R (Kd.int .i64) 3 w' w.heap.size (fun k_ => some k_ ≠ (s_.2.1 : Value).ownBlock ∧ some k_ ≠ (.slice Ao11 t427.length co11 : Value).ownBlock ∧ some k_ ≠ (.slice Ao18 t439.length co18 : Value).ownBlock ∧ some k_ ≠ (.slice Ao26 t449.length co26 : Value).ownBlock) (.slice Ao12 t431.length co12) t431) ∧ (Kd.S (Kd.slice 3 (Kd.int .i64)) 23 w' w.heap.size (fun k_ => some k_ ≠ (s_.2.1 : Value).ownBlock ∧ some k_ ≠ (.slice Ao12 t431.length co12 : Value).ownBlock ∧ some k_ ≠ (.slice Ao11 t427.length co11 : Value).ownBlock ∧ some k_ ≠ (.slice Ao18 t439.length co18 : Value).ownBlock ∧ some k_ ≠ (.slice Ao25 t446.length co25 : Value).ownBlock ∧ some k_ ≠ (.slice Ao26 t449.length co26 : Value).ownBlock) (.slice Ao10 t424.length co10) t424) ∧ (Kd.R (Kd.int .i64) 3 w' w.heap.size (fun k_ => some k_ ≠ (s_.2.1 : Value).ownBlock ∧ some k_ ≠ (.slice Ao12 t431.length co12 : Value).ownBlock ∧ some k_ ≠ (.slice Ao18 t439.length co18 : Value).ownBlock ∧ some k_ ≠ (.slice Ao26 t449.length co26 : Value).ownBlock) (.slice Ao11 t427.length co11) t427) ∧ (Kd.V (Kd.slice 3 (Kd.int .i64)) 23 w' w.heap.size (fun k_ => some k_ ≠ (s_.2.1 : Value).ownBlock ∧ some k_ ≠ (.slice Ao12 t431.length co12 : Value).ownBlock ∧ some k_ ≠ (.slice Ao10 t424.length co10 : Value).ownBlock ∧ some k_ ≠ (.slice Ao11 t427.length co11 : Value).ownBlock ∧ some k_ ≠ (.slice Ao18 t439.length co18 : Value).ownBlock ∧ some k_ ≠ (.slice Ao25 t446.length co25 : Value).ownBlock ∧ some k_ ≠ (.slice Ao26 t449.length co26 : Value).ownBlock ∧ k_ ≠ gb434 ∧ k_ ≠ gb444 ∧ k_ ≠ gb454 ∧ k_ ≠ s_.2.2) (.slice Ao17 t436.length co17) t436) ∧ (Kd.R (Kd.int .i64) 3 w' w.heap.size (fun k_ => some k_ ≠ (s_.2.1 : Value).ownBlock ∧ some k_ ≠ (.slice Ao12 t431.length co12 : Value).ownBlock ∧ some k_ ≠ (.slice Ao11 t427.length co11 : Value).ownBlock ∧ some k_ ≠ (.slice Ao26 t449.length co26 : Value).ownBlock) (.slice Ao18 t439.length co18) t439) ∧ (Kd.S (Kd.slice 3 (Kd.int .i64)) 23 w' w.heap.size (fun k_ => some k_ ≠ (s_.2.1 : Value).ownBlock ∧ some k_ ≠ (.slice Ao12 t431.length co12 : Value).ownBlock ∧ some k_ ≠ (.slice Ao10 t424.length co10 : Value).ownBlock ∧ some k_ ≠ (.slice Ao11 t427.length co11 : Value).ownBlock ∧ some k_ ≠ (.slice Ao18 t439.length co18 : Value).ownBlock ∧ some k_ ≠ (.slice Ao26 t449.length co26 : Value).ownBlock) (.slice Ao25 t446.length co25) t446) ∧ (Kd.R (Kd.int .i64) 3 w' w.heap.size (fun k_ => some k_ ≠ (s_.2.1 : Value).ownBlock ∧ some k_ ≠ (.slice Ao12 t431.length co12 : Value).ownBlock ∧ some k_ ≠ (.slice Ao11 t427.length co11 : Value).ownBlock ∧ some k_ ≠ (.slice Ao18 t439.length co18 : Value).ownBlock) (.slice Ao26 t449.length co26) t449) ∧ (w'.heap[gb434]? = some (.cells #[.int .i64 t423, .slice Ao10 t424.length co10, .slice Ao11 t427.length co11, .int .i64 t430] 28 (0, 0))) ∧ (w'.heap[gb444]? = some (.cells #[.int .i64 t435, .slice Ao17 t436.length co17, .slice Ao18 t439.length co18, .int .i64 t442] 28 (0, 0))) ∧ (w'.heap[gb454]? = some (.cells #[.int .i64 t445, .slice Ao25 t446.length co25, .slice Ao26 t449.length co26, .int .i64 t452] 28 (0, 0))) ∧ (w'.heap[s_.2.2]? = some (.cells #[.int .i64 0, .slice none 0 0, .slice none 0 0, .int .i64 0] 28 (0, 0))) ∧ (w.heap.size ≤ s_.2.2) ∧ (w.heap.size ≤ s_.2.2) ∧ (gb434 ≠ s_.2.2) ∧ (s_.2.2 ≠ gb434) ∧ (gb444 ≠ s_.2.2) ∧ (s_.2.2 ≠ gb444) ∧ (gb454 ≠ s_.2.2) ∧ (s_.2.2 ≠ gb454) ∧ (Below w.heap.size w w')) ?_ ?_
        rotate_left
        ·intro hCont
         refine two_ (i := 4) (j := 8) (Ni := some 67) (Nj := some 10) #[T,T,T,T,T,F,F,F,F,F,F] #[T,T,T,T,F,F,F,F,T,F,F] rfl rfl rfl rfl (two_of HT_.out kr) (by decide) (by decide) (fun K hK => ?_) (fun K hK => ?_)
         ·skip
          refine goes_ Try.func32 kr rfl #[.agg #[.int .i64 t423, .slice Ao10 t424.length co10, .slice Ao11 t427.length co11, .int .i64 t430], .slice Ao12 y458.length co12] (by rfl) rfl rfl lm ?_
          with_reducible refine (impl_AfterDeaths.calls kj5 t423 _ _ t424 _ _ t427 t430 _ _ y458 t462 t463 t466 t469 t470 _ ?side1 ?side2 ?side3 ?side4 ?side5 ?side6 A54.out).mono ?_
          (case side1 => repeat (first | exact (Kd.S_reads' HO_435001.out).2.2 | (with_reducible refine Kd.C_alloc ?_ _) | (with_reducible refine Kd.C_drewN ?_ _) | (with_reducible refine Kd.C_drew ?_)))
          (case side2 => exact (Kd.S_reads' HO_435001.out).2.1)
          (case side3 => repeat (first | exact (Kd.R_reads' HO_435002.out).2.2 | (with_reducible refine Kd.C_alloc ?_ _) | (with_reducible refine Kd.C_drewN ?_ _) | (with_reducible refine Kd.C_drew ?_)))
          (case side4 => exact (Kd.R_reads' HO_435002.out).2.1)
          (case side5 => repeat (first | exact (by repeat (first | (with_reducible exact HR461.out) | (with_reducible refine Kd.C_alloc ?_ _) | (with_reducible refine Kd.C_drewN ?_ _) | (with_reducible refine Kd.C_drew ?_) | exact HR461.out)) | (with_reducible refine Kd.C_alloc ?_ _) | (with_reducible refine Kd.C_drewN ?_ _) | (with_reducible refine Kd.C_drew ?_)))
          (case side6 => exact HC461.out)
          rintro e w60 ⟨v464, v467, rfl, ho0, ho1, hb⟩
          refine ⟨_, rfl, ?_⟩
          have n0_ := Aside0.mk (Kd.R_elder' (rz HO_4) (Kd.R_base ho1) hb)
          have n1_ := Aside0.mk (Kd.S_elder' (sz HO_435001) (Kd.R_base ho1) hb)
          have n2_ := Aside0.mk (Kd.R_elder' (rz HO_435002) (Kd.R_base ho1) hb)
          have n3_ := Aside0.mk (Kd.V_elder' (vz HO_445001) (Kd.R_base ho1) hb)
          have n4_ := Aside0.mk (Kd.R_elder' (rz HO_445002) (Kd.R_base ho1) hb)
          have n5_ := Aside0.mk (Kd.S_elder' (sz HO_455001) (Kd.R_base ho1) hb)
          have n6_ := Aside0.mk (Kd.R_elder' (rz HO_455002) (Kd.R_base ho1) hb)
          have n7_ := Aside0.mk (Kd.V_lower (Kd.V_mono (ok' := fun k_ => some k_ ≠ (v467 : Value).ownBlock ∧ some k_ ≠ (.slice Ao12 t431.length co12 : Value).ownBlock ∧ some k_ ≠ (.slice Ao10 t424.length co10 : Value).ownBlock ∧ some k_ ≠ (.slice Ao11 t427.length co11 : Value).ownBlock ∧ some k_ ≠ (.slice Ao18 t439.length co18 : Value).ownBlock ∧ some k_ ≠ (.slice Ao25 t446.length co25 : Value).ownBlock ∧ some k_ ≠ (.slice Ao26 t449.length co26 : Value).ownBlock ∧ k_ ≠ gb434 ∧ k_ ≠ gb444 ∧ k_ ≠ gb454) ho0 (fun k_ hk_ => ⟨hk_.2, (Kd.fresh' (Kd.R_lt (rz HO_4)) k_ hk_.1), (Kd.fresh' (Kd.S_lt (sz HO_435001)) k_ hk_.1), (Kd.fresh' (Kd.R_lt (rz HO_435002)) k_ hk_.1), (Kd.fresh' (Kd.R_lt (rz HO_445002)) k_ hk_.1), (Kd.fresh' (Kd.S_lt (sz HO_455001)) k_ hk_.1), (Kd.fresh' (Kd.R_lt (rz HO_455002)) k_ hk_.1), (Kd.freshB (bz BK434) k_ hk_.1), (Kd.freshB (bz BK444) k_ hk_.1), (Kd.freshB (bz BK454) k_ hk_.1)⟩)) (below_size bh))
          have n8_ := Aside0.mk (Kd.R_lower (Kd.R_new' (Kd.R_new' (Kd.R_new' (Kd.R_new' (Kd.R_mono (ok' := fun k_ => True) ho1 (fun _ hk_ => trivial)) (Kd.R_lt (rz HO_4))) (Kd.R_lt (rz HO_435002))) (Kd.R_lt (rz HO_445002))) (Kd.R_lt (rz HO_455002))) (below_size bh))
          have n9_ := Aside0.mk (blk_below (bz BK434) hb)
          have n10_ := Aside0.mk (blk_below (bz BK444) hb)
          have n11_ := Aside0.mk (blk_below (bz BK454) hb)
          have n12_ := Aside0.mk (Kd.C_below (by repeat (first | (with_reducible exact HR461.out) | (with_reducible refine Kd.C_alloc ?_ _) | (with_reducible refine Kd.C_drewN ?_ _) | (with_reducible refine Kd.C_drew ?_) | exact HR461.out)) hb)
          have n13_ := Aside0.mk (below_step bh hb)
          clear HO_4 HO_435001 HO_435002 HO_445001 HO_445002 HO_455001 HO_455002 BK434 BK444 BK454 HR461 HB
          have HO_4 := n0_
          have HO_435001 := n1_
          have HO_435002 := n2_
          have HO_445001 := n3_
          have HO_445002 := n4_
          have HO_455001 := n5_
          have HO_455002 := n6_
          have HO465 := n7_
          have HO468 := n8_
          have BK434 := n9_
          have BK444 := n10_
          have BK454 := n11_
          have HR461 := n12_
          have HB := n13_
          clear n0_ n1_ n2_ n3_ n4_ n5_ n6_ n7_ n8_ n9_ n10_ n11_ n12_ n13_
          (try clear hb)
          (try clear hb2)
          (try clear hk)
          (try clear hi)
          (try clear ho0)
          (try clear ho1)
          refine hK.out _ _ ⟨cz0 BK434, cz1 BK434, cz2 BK434, cz3 BK434⟩ (fun hHeld => ?_)
          clear hK K
          refine norm_ (a' := ?_) ?_ ?_
          rotate_left
          ·show Act.put _ (some 67) _ = _
           simp only [Act.put, List.setIfInBounds_toArray, List.set_cons_zero, List.set_cons_succ, i64_w, i32_w]
           rfl
          refine pu 5 (some 62) #[T,T,T,T,T,T,F,F,F,F,F] (any_of HT_.out kr) ?_
          refine pu 6 (some 68) #[T,T,T,T,T,T,T,F,F,F,F] (any_of HT_.out kr) ?_
          refine pu 7 (some 69) #[T,T,T,T,T,T,T,T,F,F,F] (any_of HT_.out kr) ?_
          refine one_ (i := 8) (N := some 10) #[T,T,T,T,T,T,T,T,T,F,F] rfl rfl (one_of HT_.out kr) (by decide) (fun K hK => ?_)
          refine box_step ?hg (N := 10) ?hd (cs := #[.int .i64 0, .slice none 0 0, .slice none 0 0, .int .i64 0]) (t := 28) ?hr ?_; (case hd => rfl); (case hg => rfl); (case hr => first | (go_simp; done) | (go_simp; rfl))
          intro gb471 hg w61 hbox hb
          have n0_ := Aside0.mk (Kd.R_below (rz HO_4) hb)
          have n1_ := Aside0.mk (Kd.S_below (sz HO_435001) hb)
          have n2_ := Aside0.mk (Kd.R_below (rz HO_435002) hb)
          have n3_ := Aside0.mk (Kd.V_below (Kd.V_elderB (vz HO_445001) gb471 (Nat.le_of_eq hg.symm)) hb)
          have n4_ := Aside0.mk (Kd.R_below (rz HO_445002) hb)
          have n5_ := Aside0.mk (Kd.S_below (sz HO_455001) hb)
          have n6_ := Aside0.mk (Kd.R_below (rz HO_455002) hb)
          have n7_ := Aside0.mk (Kd.V_below (Kd.V_elderB (vz HO465) gb471 (Nat.le_of_eq hg.symm)) hb)
          have n8_ := Aside0.mk (Kd.R_below (rz HO468) hb)
          have n9_ := Aside0.mk (blk_below (bz BK434) hb)
          have n10_ := Aside0.mk (blk_below (bz BK444) hb)
          have n11_ := Aside0.mk (blk_below (bz BK454) hb)
          have n12_ := Aside0.mk (Kd.C_below (by repeat (first | (with_reducible exact HR461.out) | (with_reducible refine Kd.C_alloc ?_ _) | (with_reducible refine Kd.C_drewN ?_ _) | (with_reducible refine Kd.C_drew ?_) | exact HR461.out)) hb)
          have n13_ := Aside0.mk (below_step bh hb)
          have n14_ := Aside0.mk (hbox)
          have n15_ := Aside0.mk ((gs (W0 := w) hg bh))
          have n16_ := Aside0.mk ((gs (W0 := w) hg bh))
          have n17_ := Aside0.mk ((gn hg (bz BK434)))
          have n18_ := Aside0.mk ((gm hg (bz BK434)))
          have n19_ := Aside0.mk ((gn hg (bz BK444)))
          have n20_ := Aside0.mk ((gm hg (bz BK444)))
          have n21_ := Aside0.mk ((gn hg (bz BK454)))
          have n22_ := Aside0.mk ((gm hg (bz BK454)))
          clear HO_4 HO_435001 HO_435002 HO_445001 HO_445002 HO_455001 HO_455002 HO465 HO468 BK434 BK444 BK454 HR461 HB
          have HO_4 := n0_
          have HO_435001 := n1_
          have HO_435002 := n2_
          have HO_445001 := n3_
          have HO_445002 := n4_
          have HO_455001 := n5_
          have HO_455002 := n6_
          have HO465 := n7_
          have HO468 := n8_
          have BK434 := n9_
          have BK444 := n10_
          have BK454 := n11_
          have HR461 := n12_
          have HB := n13_
          have BK471 := n14_
          have GW471 := n15_
          have GE471 := n16_
          have NB434_471 := n17_
          have NB471_434 := n18_
          have NB444_471 := n19_
          have NB471_444 := n20_
          have NB454_471 := n21_
          have NB471_454 := n22_
          clear n0_ n1_ n2_ n3_ n4_ n5_ n6_ n7_ n8_ n9_ n10_ n11_ n12_ n13_ n14_ n15_ n16_ n17_ n18_ n19_ n20_ n21_ n22_ hb hbox hg
          refine hK.out _ _ ⟨cz0 BK434, cz1 BK434, cz2 BK434, cz3 BK434⟩ (fun hHeld => ?_)
          clear hK K
          refine norm_ (a' := ?_) ?_ ?_
          rotate_left
          ·show Act.put _ (some 10) _ = _
           simp only [Act.put, List.setIfInBounds_toArray, List.set_cons_zero, List.set_cons_succ, i64_w, i32_w]
           rfl
          exact norm_ (by simp only [putAll, Act.put, List.setIfInBounds_toArray, List.set_cons_zero, List.set_cons_succ]) (hCont (v464, v467, gb471) _ ⟨hHeld, (mV HO465), (mR HO468), (mR HO_4), (mS HO_435001), (mR HO_435002), (mV HO_445001), (mR HO_445002), (mS HO_455001), (mR HO_455002), (bz BK434), (bz BK444), (bz BK454), (bz BK471), GW471.out, GE471.out, NB434_471.out, NB471_434.out, NB444_471.out, NB471_444.out, NB454_471.out, NB471_454.out, bh⟩)
         ·skip
          refine box_step ?hg (N := 10) ?hd (cs := #[.int .i64 0, .slice none 0 0, .slice none 0 0, .int .i64 0]) (t := 28) ?hr ?_; (case hd => rfl); (case hg => rfl); (case hr => first | (go_simp; done) | (go_simp; rfl))
          intro gb471 hg w60 hbox hb
          have n0_ := Aside0.mk (Kd.R_below (rz HO_4) hb)
          have n1_ := Aside0.mk (Kd.S_below (sz HO_435001) hb)
          have n2_ := Aside0.mk (Kd.R_below (rz HO_435002) hb)
          have n3_ := Aside0.mk (Kd.V_below (Kd.V_elderB (vz HO_445001) gb471 (Nat.le_of_eq hg.symm)) hb)
          have n4_ := Aside0.mk (Kd.R_below (rz HO_445002) hb)
          have n5_ := Aside0.mk (Kd.S_below (sz HO_455001) hb)
          have n6_ := Aside0.mk (Kd.R_below (rz HO_455002) hb)
          have n7_ := Aside0.mk (blk_below (bz BK434) hb)
          have n8_ := Aside0.mk (blk_below (bz BK444) hb)
          have n9_ := Aside0.mk (blk_below (bz BK454) hb)
          have n10_ := Aside0.mk (Kd.C_below (by repeat (first | (with_reducible exact HR461.out) | (with_reducible refine Kd.C_alloc ?_ _) | (with_reducible refine Kd.C_drewN ?_ _) | (with_reducible refine Kd.C_drew ?_) | exact HR461.out)) hb)
          have n11_ := Aside0.mk (below_step bh hb)
          have n12_ := Aside0.mk (hbox)
          have n13_ := Aside0.mk ((gs (W0 := w) hg bh))
          have n14_ := Aside0.mk ((gs (W0 := w) hg bh))
          have n15_ := Aside0.mk ((gn hg (bz BK434)))
          have n16_ := Aside0.mk ((gm hg (bz BK434)))
          have n17_ := Aside0.mk ((gn hg (bz BK444)))
          have n18_ := Aside0.mk ((gm hg (bz BK444)))
          have n19_ := Aside0.mk ((gn hg (bz BK454)))
          have n20_ := Aside0.mk ((gm hg (bz BK454)))
          clear HO_4 HO_435001 HO_435002 HO_445001 HO_445002 HO_455001 HO_455002 BK434 BK444 BK454 HR461 HB
          have HO_4 := n0_
          have HO_435001 := n1_
          have HO_435002 := n2_
          have HO_445001 := n3_
          have HO_445002 := n4_
          have HO_455001 := n5_
          have HO_455002 := n6_
          have BK434 := n7_
          have BK444 := n8_
          have BK454 := n9_
          have HR461 := n10_
          have HB := n11_
          have BK471 := n12_
          have GW471 := n13_
          have GE471 := n14_
          have NB434_471 := n15_
          have NB471_434 := n16_
          have NB444_471 := n17_
          have NB471_444 := n18_
          have NB454_471 := n19_
          have NB471_454 := n20_
          clear n0_ n1_ n2_ n3_ n4_ n5_ n6_ n7_ n8_ n9_ n10_ n11_ n12_ n13_ n14_ n15_ n16_ n17_ n18_ n19_ n20_ hb hbox hg
          refine hK.out _ _ ⟨cz0 BK434, cz1 BK434, cz2 BK434, cz3 BK434⟩ (fun hHeld => ?_)
          clear hK K
          refine norm_ (a' := ?_) ?_ ?_
          rotate_left
          ·show Act.put _ (some 10) _ = _
           simp only [Act.put, List.setIfInBounds_toArray, List.set_cons_zero, List.set_cons_succ, i64_w, i32_w]
           rfl
          refine one_ (i := 4) (N := some 67) #[T,T,T,T,T,F,F,F,T,F,F] rfl rfl (one_of HT_.out kr) (by decide) (fun K hK => ?_)
          refine goes_ Try.func32 kr rfl #[.agg #[.int .i64 t423, .slice Ao10 t424.length co10, .slice Ao11 t427.length co11, .int .i64 t430], .slice Ao12 y458.length co12] (by rfl) rfl rfl lm ?_
          with_reducible refine (impl_AfterDeaths.calls kj5 t423 _ _ t424 _ _ t427 t430 _ _ y458 t462 t463 t466 t469 t470 _ ?side1 ?side2 ?side3 ?side4 ?side5 ?side6 A54.out).mono ?_
          (case side1 => repeat (first | exact (Kd.S_reads' HO_435001.out).2.2 | (with_reducible refine Kd.C_alloc ?_ _) | (with_reducible refine Kd.C_drewN ?_ _) | (with_reducible refine Kd.C_drew ?_)))
          (case side2 => exact (Kd.S_reads' HO_435001.out).2.1)
          (case side3 => repeat (first | exact (Kd.R_reads' HO_435002.out).2.2 | (with_reducible refine Kd.C_alloc ?_ _) | (with_reducible refine Kd.C_drewN ?_ _) | (with_reducible refine Kd.C_drew ?_)))
          (case side4 => exact (Kd.R_reads' HO_435002.out).2.1)
          (case side5 => repeat (first | exact (by repeat (first | (with_reducible exact HR461.out) | (with_reducible refine Kd.C_alloc ?_ _) | (with_reducible refine Kd.C_drewN ?_ _) | (with_reducible refine Kd.C_drew ?_) | exact HR461.out)) | (with_reducible refine Kd.C_alloc ?_ _) | (with_reducible refine Kd.C_drewN ?_ _) | (with_reducible refine Kd.C_drew ?_)))
          (case side6 => exact HC461.out)
          rintro e w61 ⟨v464, v467, rfl, ho0, ho1, hb⟩
          refine ⟨_, rfl, ?_⟩
          have n0_ := Aside0.mk (Kd.R_elder' (rz HO_4) (Kd.R_base ho1) hb)
          have n1_ := Aside0.mk (Kd.S_elder' (sz HO_435001) (Kd.R_base ho1) hb)
          have n2_ := Aside0.mk (Kd.R_elder' (rz HO_435002) (Kd.R_base ho1) hb)
          have n3_ := Aside0.mk (Kd.V_elder' (vz HO_445001) (Kd.R_base ho1) hb)
          have n4_ := Aside0.mk (Kd.R_elder' (rz HO_445002) (Kd.R_base ho1) hb)
          have n5_ := Aside0.mk (Kd.S_elder' (sz HO_455001) (Kd.R_base ho1) hb)
          have n6_ := Aside0.mk (Kd.R_elder' (rz HO_455002) (Kd.R_base ho1) hb)
          have n7_ := Aside0.mk (Kd.V_lower (Kd.V_mono (ok' := fun k_ => some k_ ≠ (v467 : Value).ownBlock ∧ some k_ ≠ (.slice Ao12 t431.length co12 : Value).ownBlock ∧ some k_ ≠ (.slice Ao10 t424.length co10 : Value).ownBlock ∧ some k_ ≠ (.slice Ao11 t427.length co11 : Value).ownBlock ∧ some k_ ≠ (.slice Ao18 t439.length co18 : Value).ownBlock ∧ some k_ ≠ (.slice Ao25 t446.length co25 : Value).ownBlock ∧ some k_ ≠ (.slice Ao26 t449.length co26 : Value).ownBlock ∧ k_ ≠ gb434 ∧ k_ ≠ gb444 ∧ k_ ≠ gb454 ∧ k_ ≠ gb471) ho0 (fun k_ hk_ => ⟨hk_.2, (Kd.fresh' (Kd.R_lt (rz HO_4)) k_ hk_.1), (Kd.fresh' (Kd.S_lt (sz HO_435001)) k_ hk_.1), (Kd.fresh' (Kd.R_lt (rz HO_435002)) k_ hk_.1), (Kd.fresh' (Kd.R_lt (rz HO_445002)) k_ hk_.1), (Kd.fresh' (Kd.S_lt (sz HO_455001)) k_ hk_.1), (Kd.fresh' (Kd.R_lt (rz HO_455002)) k_ hk_.1), (Kd.freshB (bz BK434) k_ hk_.1), (Kd.freshB (bz BK444) k_ hk_.1), (Kd.freshB (bz BK454) k_ hk_.1), (Kd.freshB (bz BK471) k_ hk_.1)⟩)) (below_size bh))
          have n8_ := Aside0.mk (Kd.R_lower (Kd.R_new' (Kd.R_new' (Kd.R_new' (Kd.R_new' (Kd.R_mono (ok' := fun k_ => True) ho1 (fun _ hk_ => trivial)) (Kd.R_lt (rz HO_4))) (Kd.R_lt (rz HO_435002))) (Kd.R_lt (rz HO_445002))) (Kd.R_lt (rz HO_455002))) (below_size bh))
          have n9_ := Aside0.mk (blk_below (bz BK434) hb)
          have n10_ := Aside0.mk (blk_below (bz BK444) hb)
          have n11_ := Aside0.mk (blk_below (bz BK454) hb)
          have n12_ := Aside0.mk (Kd.C_below (by repeat (first | (with_reducible exact HR461.out) | (with_reducible refine Kd.C_alloc ?_ _) | (with_reducible refine Kd.C_drewN ?_ _) | (with_reducible refine Kd.C_drew ?_) | exact HR461.out)) hb)
          have n13_ := Aside0.mk (blk_below (bz BK471) hb)
          have n14_ := Aside0.mk (below_step bh hb)
          clear HO_4 HO_435001 HO_435002 HO_445001 HO_445002 HO_455001 HO_455002 BK434 BK444 BK454 HR461 BK471 HB
          have HO_4 := n0_
          have HO_435001 := n1_
          have HO_435002 := n2_
          have HO_445001 := n3_
          have HO_445002 := n4_
          have HO_455001 := n5_
          have HO_455002 := n6_
          have HO465 := n7_
          have HO468 := n8_
          have BK434 := n9_
          have BK444 := n10_
          have BK454 := n11_
          have HR461 := n12_
          have BK471 := n13_
          have HB := n14_
          clear n0_ n1_ n2_ n3_ n4_ n5_ n6_ n7_ n8_ n9_ n10_ n11_ n12_ n13_ n14_
          (try clear hb)
          (try clear hb2)
          (try clear hk)
          (try clear hi)
          (try clear ho0)
          (try clear ho1)
          refine hK.out _ _ ⟨cz0 BK434, cz1 BK434, cz2 BK434, cz3 BK434⟩ (fun hHeld => ?_)
          clear hK K
          refine norm_ (a' := ?_) ?_ ?_
          rotate_left
          ·show Act.put _ (some 67) _ = _
           simp only [Act.put, List.setIfInBounds_toArray, List.set_cons_zero, List.set_cons_succ, i64_w, i32_w]
           rfl
          refine pu 5 (some 62) #[T,T,T,T,T,T,F,F,T,F,F] (any_of HT_.out kr) ?_
          refine pu 6 (some 68) #[T,T,T,T,T,T,T,F,T,F,F] (any_of HT_.out kr) ?_
          refine pu 7 (some 69) #[T,T,T,T,T,T,T,T,T,F,F] (any_of HT_.out kr) ?_
          exact norm_ (by simp only [putAll, Act.put, List.setIfInBounds_toArray, List.set_cons_zero, List.set_cons_succ]) (hCont (v464, v467, gb471) _ ⟨hHeld, (vz HO465), (mR HO468), (mR HO_4), (mS HO_435001), (mR HO_435002), (mV HO_445001), (mR HO_445002), (mS HO_455001), (mR HO_455002), (bz BK434), (bz BK444), (bz BK454), (bz BK471), GW471.out, GE471.out, NB434_471.out, NB471_434.out, NB444_471.out, NB471_444.out, NB454_471.out, NB471_454.out, bh⟩)
        rintro ⟨v464, v467, gb471⟩ w62 ⟨hS_, h0_, h1_, h2_, h3_, h4_, h5_, h6_, h7_, h8_, h9_, h10_, h11_, h12_, h13_, h14_, h15_, h16_, h17_, h18_, h19_, h20_, h21_⟩
        clear HO_4 HO_435001 HO_435002 HO_445001 HO_445002 HO_455001 HO_455002 BK434 BK444 BK454 HB
        have HO465 := Aside0.mk h0_
        have HO468 := Aside0.mk h1_
        have HO_4 := Aside0.mk h2_
        have HO_435001 := Aside0.mk h3_
        have HO_435002 := Aside0.mk h4_
        have HO_445001 := Aside0.mk h5_
        have HO_445002 := Aside0.mk h6_
        have HO_455001 := Aside0.mk h7_
        have HO_455002 := Aside0.mk h8_
        have BK434 := Aside0.mk h9_
        have BK444 := Aside0.mk h10_
        have BK454 := Aside0.mk h11_
        have BK471 := Aside0.mk h12_
        have GW471 := Aside0.mk h13_
        have GE471 := Aside0.mk h14_
        have NB434_471 := Aside0.mk h15_
        have NB471_434 := Aside0.mk h16_
        have NB444_471 := Aside0.mk h17_
        have NB471_444 := Aside0.mk h18_
        have NB454_471 := Aside0.mk h19_
        have NB471_454 := Aside0.mk h20_
        have HB := Aside0.mk h21_
        clear h0_ h1_ h2_ h3_ h4_ h5_ h6_ h7_ h8_ h9_ h10_ h11_ h12_ h13_ h14_ h15_ h16_ h17_ h18_ h19_ h20_ h21_
        have hHeld : w62.cell? ⟨gb434, 0, none⟩ = some (.int .i64 t423) ∧ w62.cell? ⟨gb434, 1, none⟩ = some (.slice Ao10 t424.length co10) ∧ w62.cell? ⟨gb434, 2, none⟩ = some (.slice Ao11 t427.length co11) ∧ w62.cell? ⟨gb434, 3, none⟩ = some (.int .i64 t430) := hS_
        obtain ⟨Ao64, co64, eo64⟩ := Kd.V_slice HO465.out
        (first | subst eo64 | (injection eo64 with f1_ f2_ f3_; have f4_ := f1_.symm; have f5_ := f3_.symm; clear f1_ f2_ f3_; subst f4_; subst f5_))
        obtain ⟨Ao66, co66, eo66⟩ := Kd.R_slice HO468.out
        (first | subst eo66 | (injection eo66 with f1_ f2_ f3_; have f4_ := f1_.symm; have f5_ := f3_.symm; clear f1_ f2_ f3_; subst f4_; subst f5_))
        refine norm_ (a' := ?_) ?_ ?_
        rotate_left
        ·simp only [putAll, Act.put, List.setIfInBounds_toArray, List.set_cons_zero, List.set_cons_succ]
         rfl
        refine one_ (i := 9) (N := none) #[T,T,T,T,T,T,T,T,T,T,F] rfl rfl (one_of HT_.out kr) (by decide) (fun K hK => ?_)
        have hs63 := cz0 BK471
        have hfs63 := blk_frozen BK471.out 0
        have hns63_0 := NB434_471.out
        have hns63_1 := NB444_471.out
        have hns63_2 := NB454_471.out
        have hms63_0 := NB471_434.out
        have hms63_1 := NB471_444.out
        have hms63_2 := NB471_454.out
        have hs65 := cz1 BK471
        have hfs65 := blk_frozen BK471.out 1
        have hns65_0 := NB434_471.out
        have hns65_1 := NB444_471.out
        have hns65_2 := NB454_471.out
        have hms65_0 := NB471_434.out
        have hms65_1 := NB471_444.out
        have hms65_2 := NB471_454.out
        have hs67 := cz2 BK471
        have hfs67 := blk_frozen BK471.out 2
        have hns67_0 := NB434_471.out
        have hns67_1 := NB444_471.out
        have hns67_2 := NB454_471.out
        have hms67_0 := NB471_434.out
        have hms67_1 := NB471_444.out
        have hms67_2 := NB471_454.out
        have hs68 := cz3 BK471
        have hfs68 := blk_frozen BK471.out 3
        have hns68_0 := NB434_471.out
        have hns68_1 := NB444_471.out
        have hns68_2 := NB454_471.out
        have hms68_0 := NB471_434.out
        have hms68_1 := NB471_444.out
        have hms68_2 := NB471_454.out
        refine skip_ (w1 := ?_) (by rfl) rfl ?_ ?_
        rotate_left
        ·go_simp
         rfl
        refine hK.out _ _ ⟨((cell_far (p := ⟨gb471, _, none⟩) NB434_471.out _).trans (((cell_far (p := ⟨gb471, _, none⟩) NB434_471.out _).trans (((cell_far (p := ⟨gb471, _, none⟩) NB434_471.out _).trans (((cell_far (p := ⟨gb471, _, none⟩) NB434_471.out _).trans (hHeld.1)))))))), ((cell_far (p := ⟨gb471, _, none⟩) NB434_471.out _).trans (((cell_far (p := ⟨gb471, _, none⟩) NB434_471.out _).trans (((cell_far (p := ⟨gb471, _, none⟩) NB434_471.out _).trans (((cell_far (p := ⟨gb471, _, none⟩) NB434_471.out _).trans (hHeld.2.1)))))))), ((cell_far (p := ⟨gb471, _, none⟩) NB434_471.out _).trans (((cell_far (p := ⟨gb471, _, none⟩) NB434_471.out _).trans (((cell_far (p := ⟨gb471, _, none⟩) NB434_471.out _).trans (((cell_far (p := ⟨gb471, _, none⟩) NB434_471.out _).trans (hHeld.2.2.1)))))))), ((cell_far (p := ⟨gb471, _, none⟩) NB434_471.out _).trans (((cell_far (p := ⟨gb471, _, none⟩) NB434_471.out _).trans (((cell_far (p := ⟨gb471, _, none⟩) NB434_471.out _).trans (((cell_far (p := ⟨gb471, _, none⟩) NB434_471.out _).trans (hHeld.2.2.2))))))))⟩ (fun hHeld => ?_)
        clear hK K
        refine pu 10 (some 11) #[T,T,T,T,T,T,T,T,T,T,T] (any_of HT_.out kr) ?_
        refine done_ (done_of HT_.out kr) ?_
        try go_wp2
        generalize hW_ : ((((w62.setCell ⟨gb471, 0, none⟩ (.int .i64 t462)).setCell ⟨gb471, 1, none⟩ (.slice Ao64 t463.length co64)).setCell ⟨gb471, 2, none⟩ (.slice Ao66 t466.length co66)).setCell ⟨gb471, 3, none⟩ (.int .i64 t469)) = w69
        have n0_ : Aside0 (Kd.R (Kd.int .i64) 3 w69 w.heap.size (fun k_ => some k_ ≠ (.slice Ao11 t427.length co11 : Value).ownBlock ∧ some k_ ≠ (.slice Ao18 t439.length co18 : Value).ownBlock ∧ some k_ ≠ (.slice Ao26 t449.length co26 : Value).ownBlock ∧ some k_ ≠ (.slice Ao66 t466.length co66 : Value).ownBlock) (.slice Ao12 t431.length co12) t431) := ⟨by subst hW_; (with_reducible repeat (first | apply Kd.R_alloc | apply Kd.R_drewN | apply Kd.R_drew)); exact Kd.R_mono (Kd.R_far (p := ⟨gb471, 3, none⟩) (Kd.R_far (p := ⟨gb471, 2, none⟩) (Kd.R_far (p := ⟨gb471, 1, none⟩) (Kd.R_far (p := ⟨gb471, 0, none⟩) (Kd.R_types HO_4.out BK471.out (by decide)) (fun _ hk => hk.2) (.int .i64 t462)) (fun _ hk => hk.2) (.slice Ao64 t463.length co64)) (fun _ hk => hk.2) (.slice Ao66 t466.length co66)) (fun _ hk => hk.2) (.int .i64 t469)) (fun _ hk => ⟨hk.1.2.1, ⟨hk.1.2.2.1, ⟨hk.1.2.2.2, hk.1.1⟩⟩⟩)⟩
        have n1_ : Aside0 (Kd.S (Kd.slice 3 (Kd.int .i64)) 23 w69 w.heap.size (fun k_ => some k_ ≠ (.slice Ao12 t431.length co12 : Value).ownBlock ∧ some k_ ≠ (.slice Ao11 t427.length co11 : Value).ownBlock ∧ some k_ ≠ (.slice Ao18 t439.length co18 : Value).ownBlock ∧ some k_ ≠ (.slice Ao25 t446.length co25 : Value).ownBlock ∧ some k_ ≠ (.slice Ao26 t449.length co26 : Value).ownBlock ∧ some k_ ≠ (.slice Ao66 t466.length co66 : Value).ownBlock) (.slice Ao10 t424.length co10) t424) := ⟨by subst hW_; (with_reducible repeat (first | apply Kd.S_alloc | apply Kd.S_drewN | apply Kd.S_drew)); exact Kd.S_mono (Kd.S_far (p := ⟨gb471, 3, none⟩) (Kd.S_far (p := ⟨gb471, 2, none⟩) (Kd.S_far (p := ⟨gb471, 1, none⟩) (Kd.S_far (p := ⟨gb471, 0, none⟩) (Kd.S_types HO_435001.out BK471.out (by decide)) (fun _ hk => hk.2) (.int .i64 t462)) (fun _ hk => hk.2) (.slice Ao64 t463.length co64)) (fun _ hk => hk.2) (.slice Ao66 t466.length co66)) (fun _ hk => hk.2) (.int .i64 t469)) (fun _ hk => ⟨hk.1.2.1, ⟨hk.1.2.2.1, ⟨hk.1.2.2.2.1, ⟨hk.1.2.2.2.2.1, ⟨hk.1.2.2.2.2.2, hk.1.1⟩⟩⟩⟩⟩)⟩
        have n2_ : Aside0 (Kd.R (Kd.int .i64) 3 w69 w.heap.size (fun k_ => some k_ ≠ (.slice Ao12 t431.length co12 : Value).ownBlock ∧ some k_ ≠ (.slice Ao18 t439.length co18 : Value).ownBlock ∧ some k_ ≠ (.slice Ao26 t449.length co26 : Value).ownBlock ∧ some k_ ≠ (.slice Ao66 t466.length co66 : Value).ownBlock) (.slice Ao11 t427.length co11) t427) := ⟨by subst hW_; (with_reducible repeat (first | apply Kd.R_alloc | apply Kd.R_drewN | apply Kd.R_drew)); exact Kd.R_mono (Kd.R_far (p := ⟨gb471, 3, none⟩) (Kd.R_far (p := ⟨gb471, 2, none⟩) (Kd.R_far (p := ⟨gb471, 1, none⟩) (Kd.R_far (p := ⟨gb471, 0, none⟩) (Kd.R_types HO_435002.out BK471.out (by decide)) (fun _ hk => hk.2) (.int .i64 t462)) (fun _ hk => hk.2) (.slice Ao64 t463.length co64)) (fun _ hk => hk.2) (.slice Ao66 t466.length co66)) (fun _ hk => hk.2) (.int .i64 t469)) (fun _ hk => ⟨hk.1.2.1, ⟨hk.1.2.2.1, ⟨hk.1.2.2.2, hk.1.1⟩⟩⟩)⟩
        have n3_ : Aside0 (Kd.V (Kd.slice 3 (Kd.int .i64)) 23 w69 w.heap.size (fun k_ => some k_ ≠ (.slice Ao12 t431.length co12 : Value).ownBlock ∧ some k_ ≠ (.slice Ao10 t424.length co10 : Value).ownBlock ∧ some k_ ≠ (.slice Ao11 t427.length co11 : Value).ownBlock ∧ some k_ ≠ (.slice Ao18 t439.length co18 : Value).ownBlock ∧ some k_ ≠ (.slice Ao25 t446.length co25 : Value).ownBlock ∧ some k_ ≠ (.slice Ao26 t449.length co26 : Value).ownBlock ∧ some k_ ≠ (.slice Ao66 t466.length co66 : Value).ownBlock ∧ k_ ≠ gb434 ∧ k_ ≠ gb444 ∧ k_ ≠ gb454 ∧ k_ ≠ gb471) (.slice Ao17 t436.length co17) t436) := ⟨by subst hW_; (with_reducible repeat (first | apply Kd.V_alloc | apply Kd.V_drewN | apply Kd.V_drew)); exact Kd.V_mono (Kd.V_far (p := ⟨gb471, 3, none⟩) (Kd.V_far (p := ⟨gb471, 2, none⟩) (Kd.V_far (p := ⟨gb471, 1, none⟩) (Kd.V_far (p := ⟨gb471, 0, none⟩) (Kd.V_mono HO_445001.out (fun k_ hk => (⟨hk, hk.2.2.2.2.2.2.2.2.2.2⟩ : _ ∧ k_ ≠ gb471))) (fun _ hk => hk.2) (.int .i64 t462)) (fun _ hk => hk.2) (.slice Ao64 t463.length co64)) (fun _ hk => hk.2) (.slice Ao66 t466.length co66)) (fun _ hk => hk.2) (.int .i64 t469)) (fun _ hk => ⟨hk.1.2.1, ⟨hk.1.2.2.1, ⟨hk.1.2.2.2.1, ⟨hk.1.2.2.2.2.1, ⟨hk.1.2.2.2.2.2.1, ⟨hk.1.2.2.2.2.2.2.1, ⟨hk.1.1, ⟨hk.1.2.2.2.2.2.2.2.1, ⟨hk.1.2.2.2.2.2.2.2.2.1, ⟨hk.1.2.2.2.2.2.2.2.2.2.1, hk.1.2.2.2.2.2.2.2.2.2.2⟩⟩⟩⟩⟩⟩⟩⟩⟩⟩)⟩
        have n4_ : Aside0 (Kd.R (Kd.int .i64) 3 w69 w.heap.size (fun k_ => some k_ ≠ (.slice Ao12 t431.length co12 : Value).ownBlock ∧ some k_ ≠ (.slice Ao11 t427.length co11 : Value).ownBlock ∧ some k_ ≠ (.slice Ao26 t449.length co26 : Value).ownBlock ∧ some k_ ≠ (.slice Ao66 t466.length co66 : Value).ownBlock) (.slice Ao18 t439.length co18) t439) := ⟨by subst hW_; (with_reducible repeat (first | apply Kd.R_alloc | apply Kd.R_drewN | apply Kd.R_drew)); exact Kd.R_mono (Kd.R_far (p := ⟨gb471, 3, none⟩) (Kd.R_far (p := ⟨gb471, 2, none⟩) (Kd.R_far (p := ⟨gb471, 1, none⟩) (Kd.R_far (p := ⟨gb471, 0, none⟩) (Kd.R_types HO_445002.out BK471.out (by decide)) (fun _ hk => hk.2) (.int .i64 t462)) (fun _ hk => hk.2) (.slice Ao64 t463.length co64)) (fun _ hk => hk.2) (.slice Ao66 t466.length co66)) (fun _ hk => hk.2) (.int .i64 t469)) (fun _ hk => ⟨hk.1.2.1, ⟨hk.1.2.2.1, ⟨hk.1.2.2.2, hk.1.1⟩⟩⟩)⟩
        have n5_ : Aside0 (Kd.S (Kd.slice 3 (Kd.int .i64)) 23 w69 w.heap.size (fun k_ => some k_ ≠ (.slice Ao12 t431.length co12 : Value).ownBlock ∧ some k_ ≠ (.slice Ao10 t424.length co10 : Value).ownBlock ∧ some k_ ≠ (.slice Ao11 t427.length co11 : Value).ownBlock ∧ some k_ ≠ (.slice Ao18 t439.length co18 : Value).ownBlock ∧ some k_ ≠ (.slice Ao26 t449.length co26 : Value).ownBlock ∧ some k_ ≠ (.slice Ao66 t466.length co66 : Value).ownBlock) (.slice Ao25 t446.length co25) t446) := ⟨by subst hW_; (with_reducible repeat (first | apply Kd.S_alloc | apply Kd.S_drewN | apply Kd.S_drew)); exact Kd.S_mono (Kd.S_far (p := ⟨gb471, 3, none⟩) (Kd.S_far (p := ⟨gb471, 2, none⟩) (Kd.S_far (p := ⟨gb471, 1, none⟩) (Kd.S_far (p := ⟨gb471, 0, none⟩) (Kd.S_types HO_455001.out BK471.out (by decide)) (fun _ hk => hk.2) (.int .i64 t462)) (fun _ hk => hk.2) (.slice Ao64 t463.length co64)) (fun _ hk => hk.2) (.slice Ao66 t466.length co66)) (fun _ hk => hk.2) (.int .i64 t469)) (fun _ hk => ⟨hk.1.2.1, ⟨hk.1.2.2.1, ⟨hk.1.2.2.2.1, ⟨hk.1.2.2.2.2.1, ⟨hk.1.2.2.2.2.2, hk.1.1⟩⟩⟩⟩⟩)⟩
        have n6_ : Aside0 (Kd.R (Kd.int .i64) 3 w69 w.heap.size (fun k_ => some k_ ≠ (.slice Ao12 t431.length co12 : Value).ownBlock ∧ some k_ ≠ (.slice Ao11 t427.length co11 : Value).ownBlock ∧ some k_ ≠ (.slice Ao18 t439.length co18 : Value).ownBlock ∧ some k_ ≠ (.slice Ao66 t466.length co66 : Value).ownBlock) (.slice Ao26 t449.length co26) t449) := ⟨by subst hW_; (with_reducible repeat (first | apply Kd.R_alloc | apply Kd.R_drewN | apply Kd.R_drew)); exact Kd.R_mono (Kd.R_far (p := ⟨gb471, 3, none⟩) (Kd.R_far (p := ⟨gb471, 2, none⟩) (Kd.R_far (p := ⟨gb471, 1, none⟩) (Kd.R_far (p := ⟨gb471, 0, none⟩) (Kd.R_types HO_455002.out BK471.out (by decide)) (fun _ hk => hk.2) (.int .i64 t462)) (fun _ hk => hk.2) (.slice Ao64 t463.length co64)) (fun _ hk => hk.2) (.slice Ao66 t466.length co66)) (fun _ hk => hk.2) (.int .i64 t469)) (fun _ hk => ⟨hk.1.2.1, ⟨hk.1.2.2.1, ⟨hk.1.2.2.2, hk.1.1⟩⟩⟩)⟩
        have n7_ : Aside0 (Kd.V (Kd.slice 3 (Kd.int .i64)) 23 w69 w.heap.size (fun k_ => some k_ ≠ (.slice Ao12 t431.length co12 : Value).ownBlock ∧ some k_ ≠ (.slice Ao10 t424.length co10 : Value).ownBlock ∧ some k_ ≠ (.slice Ao11 t427.length co11 : Value).ownBlock ∧ some k_ ≠ (.slice Ao18 t439.length co18 : Value).ownBlock ∧ some k_ ≠ (.slice Ao25 t446.length co25 : Value).ownBlock ∧ some k_ ≠ (.slice Ao26 t449.length co26 : Value).ownBlock ∧ some k_ ≠ (.slice Ao66 t466.length co66 : Value).ownBlock ∧ k_ ≠ gb434 ∧ k_ ≠ gb444 ∧ k_ ≠ gb454 ∧ k_ ≠ gb471) (.slice Ao64 t463.length co64) t463) := ⟨by subst hW_; (with_reducible repeat (first | apply Kd.V_alloc | apply Kd.V_drewN | apply Kd.V_drew)); exact Kd.V_mono (Kd.V_far (p := ⟨gb471, 3, none⟩) (Kd.V_far (p := ⟨gb471, 2, none⟩) (Kd.V_far (p := ⟨gb471, 1, none⟩) (Kd.V_far (p := ⟨gb471, 0, none⟩) (Kd.V_mono HO465.out (fun k_ hk => (⟨hk, hk.2.2.2.2.2.2.2.2.2.2⟩ : _ ∧ k_ ≠ gb471))) (fun _ hk => hk.2) (.int .i64 t462)) (fun _ hk => hk.2) (.slice Ao64 t463.length co64)) (fun _ hk => hk.2) (.slice Ao66 t466.length co66)) (fun _ hk => hk.2) (.int .i64 t469)) (fun _ hk => ⟨hk.1.2.1, ⟨hk.1.2.2.1, ⟨hk.1.2.2.2.1, ⟨hk.1.2.2.2.2.1, ⟨hk.1.2.2.2.2.2.1, ⟨hk.1.2.2.2.2.2.2.1, ⟨hk.1.1, ⟨hk.1.2.2.2.2.2.2.2.1, ⟨hk.1.2.2.2.2.2.2.2.2.1, ⟨hk.1.2.2.2.2.2.2.2.2.2.1, hk.1.2.2.2.2.2.2.2.2.2.2⟩⟩⟩⟩⟩⟩⟩⟩⟩⟩)⟩
        have n8_ : Aside0 (Kd.R (Kd.int .i64) 3 w69 w.heap.size (fun k_ => some k_ ≠ (.slice Ao12 t431.length co12 : Value).ownBlock ∧ some k_ ≠ (.slice Ao11 t427.length co11 : Value).ownBlock ∧ some k_ ≠ (.slice Ao18 t439.length co18 : Value).ownBlock ∧ some k_ ≠ (.slice Ao26 t449.length co26 : Value).ownBlock) (.slice Ao66 t466.length co66) t466) := ⟨by subst hW_; (with_reducible repeat (first | apply Kd.R_alloc | apply Kd.R_drewN | apply Kd.R_drew)); exact Kd.R_mono (Kd.R_far (p := ⟨gb471, 3, none⟩) (Kd.R_far (p := ⟨gb471, 2, none⟩) (Kd.R_far (p := ⟨gb471, 1, none⟩) (Kd.R_far (p := ⟨gb471, 0, none⟩) (Kd.R_types HO468.out BK471.out (by decide)) (fun _ hk => hk.2) (.int .i64 t462)) (fun _ hk => hk.2) (.slice Ao64 t463.length co64)) (fun _ hk => hk.2) (.slice Ao66 t466.length co66)) (fun _ hk => hk.2) (.int .i64 t469)) (fun _ hk => ⟨hk.1.1, ⟨hk.1.2.1, ⟨hk.1.2.2.1, hk.1.2.2.2⟩⟩⟩)⟩
        have n9_ : Aside0 (w69.heap[gb434]? = some (.cells #[.int .i64 t423, .slice Ao10 t424.length co10, .slice Ao11 t427.length co11, .int .i64 t430] 28 (0, 0))) := ⟨by subst hW_; (with_reducible repeat (first | refine blk_drewN ?_ _ | refine blk_drew ?_ | refine blk_alloc ?_ _)); refine blk_far ?_ NB434_471.out _; (with_reducible repeat (first | refine blk_drewN ?_ _ | refine blk_drew ?_ | refine blk_alloc ?_ _)); refine blk_far ?_ NB434_471.out _; (with_reducible repeat (first | refine blk_drewN ?_ _ | refine blk_drew ?_ | refine blk_alloc ?_ _)); refine blk_far ?_ NB434_471.out _; (with_reducible repeat (first | refine blk_drewN ?_ _ | refine blk_drew ?_ | refine blk_alloc ?_ _)); refine blk_far ?_ NB434_471.out _; (with_reducible repeat (first | refine blk_drewN ?_ _ | refine blk_drew ?_ | refine blk_alloc ?_ _)); exact BK434.out⟩
        have n10_ : Aside0 (w69.heap[gb444]? = some (.cells #[.int .i64 t435, .slice Ao17 t436.length co17, .slice Ao18 t439.length co18, .int .i64 t442] 28 (0, 0))) := ⟨by subst hW_; (with_reducible repeat (first | refine blk_drewN ?_ _ | refine blk_drew ?_ | refine blk_alloc ?_ _)); refine blk_far ?_ NB444_471.out _; (with_reducible repeat (first | refine blk_drewN ?_ _ | refine blk_drew ?_ | refine blk_alloc ?_ _)); refine blk_far ?_ NB444_471.out _; (with_reducible repeat (first | refine blk_drewN ?_ _ | refine blk_drew ?_ | refine blk_alloc ?_ _)); refine blk_far ?_ NB444_471.out _; (with_reducible repeat (first | refine blk_drewN ?_ _ | refine blk_drew ?_ | refine blk_alloc ?_ _)); refine blk_far ?_ NB444_471.out _; (with_reducible repeat (first | refine blk_drewN ?_ _ | refine blk_drew ?_ | refine blk_alloc ?_ _)); exact BK444.out⟩
        have n11_ : Aside0 (w69.heap[gb454]? = some (.cells #[.int .i64 t445, .slice Ao25 t446.length co25, .slice Ao26 t449.length co26, .int .i64 t452] 28 (0, 0))) := ⟨by subst hW_; (with_reducible repeat (first | refine blk_drewN ?_ _ | refine blk_drew ?_ | refine blk_alloc ?_ _)); refine blk_far ?_ NB454_471.out _; (with_reducible repeat (first | refine blk_drewN ?_ _ | refine blk_drew ?_ | refine blk_alloc ?_ _)); refine blk_far ?_ NB454_471.out _; (with_reducible repeat (first | refine blk_drewN ?_ _ | refine blk_drew ?_ | refine blk_alloc ?_ _)); refine blk_far ?_ NB454_471.out _; (with_reducible repeat (first | refine blk_drewN ?_ _ | refine blk_drew ?_ | refine blk_alloc ?_ _)); refine blk_far ?_ NB454_471.out _; (with_reducible repeat (first | refine blk_drewN ?_ _ | refine blk_drew ?_ | refine blk_alloc ?_ _)); exact BK454.out⟩
        have n12_ : Aside0 (w69.heap[gb471]? = some (.cells #[.int .i64 t462, .slice Ao64 t463.length co64, .slice Ao66 t466.length co66, .int .i64 t469] 28 (0, 0))) := ⟨by subst hW_; (with_reducible repeat (first | refine blk_drewN ?_ _ | refine blk_drew ?_ | refine blk_alloc ?_ _)); refine blk_put (cs := #[.int .i64 t462, .slice Ao64 t463.length co64, .slice Ao66 t466.length co66, .int .i64 0]) ?_ 3 _ rfl; (with_reducible repeat (first | refine blk_drewN ?_ _ | refine blk_drew ?_ | refine blk_alloc ?_ _)); refine blk_put (cs := #[.int .i64 t462, .slice Ao64 t463.length co64, .slice none 0 0, .int .i64 0]) ?_ 2 _ rfl; (with_reducible repeat (first | refine blk_drewN ?_ _ | refine blk_drew ?_ | refine blk_alloc ?_ _)); refine blk_put (cs := #[.int .i64 t462, .slice none 0 0, .slice none 0 0, .int .i64 0]) ?_ 1 _ rfl; (with_reducible repeat (first | refine blk_drewN ?_ _ | refine blk_drew ?_ | refine blk_alloc ?_ _)); refine blk_put (cs := #[.int .i64 0, .slice none 0 0, .slice none 0 0, .int .i64 0]) ?_ 0 _ rfl; (with_reducible repeat (first | refine blk_drewN ?_ _ | refine blk_drew ?_ | refine blk_alloc ?_ _)); exact BK471.out⟩
        have n13_ : Aside0 (Below w.heap.size w w69) := ⟨by subst hW_; exact bh⟩
        clear hW_
        (try clear HO_4)
        (try clear HO_435001)
        (try clear HO_435002)
        (try clear HO_445001)
        (try clear HO_445002)
        (try clear HO_455001)
        (try clear HO_455002)
        (try clear HO465)
        (try clear HO468)
        (try clear BK434)
        (try clear BK444)
        (try clear BK454)
        (try clear BK471)
        (try clear HB)
        have HO_4 := n0_
        have HO_435001 := n1_
        have HO_435002 := n2_
        have HO_445001 := n3_
        have HO_445002 := n4_
        have HO_455001 := n5_
        have HO_455002 := n6_
        have HO465 := n7_
        have HO468 := n8_
        have BK434 := n9_
        have BK444 := n10_
        have BK454 := n11_
        have BK471 := n12_
        have HB := n13_
        clear n0_ n1_ n2_ n3_ n4_ n5_ n6_ n7_ n8_ n9_ n10_ n11_ n12_ n13_
        have n0_ := Aside0.mk (Kd.R_drew HO_4.out)
        have n1_ := Aside0.mk (Kd.S_drew HO_435001.out)
        have n2_ := Aside0.mk (Kd.R_drew HO_435002.out)
        have n3_ := Aside0.mk (Kd.V_drew HO_445001.out)
        have n4_ := Aside0.mk (Kd.R_drew HO_445002.out)
        have n5_ := Aside0.mk (Kd.S_drew HO_455001.out)
        have n6_ := Aside0.mk (Kd.R_drew HO_455002.out)
        have n7_ := Aside0.mk (Kd.V_drew HO465.out)
        have n8_ := Aside0.mk (Kd.R_drew HO468.out)
        have n9_ := Aside0.mk (blk_drew BK434.out)
        have n10_ := Aside0.mk (blk_drew BK444.out)
        have n11_ := Aside0.mk (blk_drew BK454.out)
        have n12_ := Aside0.mk (blk_drew BK471.out)
        have n13_ := Aside0.mk (below_drew1 HB.out)
        clear HO_4 HO_435001 HO_435002 HO_445001 HO_445002 HO_455001 HO_455002 HO465 HO468 BK434 BK444 BK454 BK471 HB
        have HO_4 := n0_
        have HO_435001 := n1_
        have HO_435002 := n2_
        have HO_445001 := n3_
        have HO_445002 := n4_
        have HO_455001 := n5_
        have HO_455002 := n6_
        have HO465 := n7_
        have HO468 := n8_
        have BK434 := n9_
        have BK444 := n10_
        have BK454 := n11_
        have BK471 := n12_
        have HB := n13_
        clear n0_ n1_ n2_ n3_ n4_ n5_ n6_ n7_ n8_ n9_ n10_ n11_ n12_ n13_
        have q71 : ((ji51) : Int) ≤ ((t431.length : Int) : Int) := oda
        obtain ⟨i071, hi071, _, hsz71, _⟩ := info_parts info3
        have hroom71 : t431.length ≤ co12 := (Kd.R_reads' HO_4.out).2.1
        have hC71 : Kd.C (Kd.int .i64) _ Ao12 t431.length t431 := (Kd.R_reads' HO_4.out).2.2
        have q071 : (0 : Int) ≤ ((ji51) : Int) := oda
        have hcut71 := cut_from (P := Try.prog) 23 3 .i64 Try.underlying23 hi071 1 hsz71 Ao12 t431.length co12 (ji51) q071 q71
        have hr71 := Kd.C_drop (m := ((ji51) : Int).toNat) (c := co12) hC71 (by omega) hroom71
        obtain ⟨A71, hA71⟩ : ∃ Az_, Az_ = (if co12 = ((ji51) : Int).toNat then Ao12 else (Ao12 : Option Addr).map (·.add (((ji51) : Int).toNat * 1))) := ⟨_, rfl⟩
        obtain ⟨c71, hc71⟩ : ∃ cz_, cz_ = co12 - ((ji51) : Int).toNat := ⟨_, rfl⟩
        have hy71 : y472.length = t431.length - ((ji51) : Int).toNat := (by rw [Ny472.out, List.length_drop] <;> omega)
        rw [show (t431).drop ((ji51) : Int).toNat = y472 from Ny472.out.symm] at hr71
        replace hr71 : Kd.C (Kd.int .i64) _ A71 y472.length y472 := (by rw [hA71]; exact hr71)
        rw [← hy71, ← hA71, ← hc71] at hcut71
        have HR475 := Aside0.mk hr71
        have HC475 := Aside0.mk (show y472.length ≤ c71 from by rw [hy71, hc71]; exact Nat.sub_le_sub_right hroom71 _)
        clear hr71 hC71 hroom71 hi071 hsz71 hc71
        have KY71 := Aside0.mk hy71
        have KA71 := Aside0.mk hA71
        clear hy71 hA71
        have KL71 := Aside0.mk (show ((ji51) : Int).toNat ≤ t431.length from by omega)
        replace q71 := eq_true q71
        refine start_ (n := 11) (S := fun w' => w'.cell? ⟨gb471, 0, none⟩ = some (.int .i64 t462) ∧ w'.cell? ⟨gb471, 1, none⟩ = some (.slice Ao64 t463.length co64) ∧ w'.cell? ⟨gb471, 2, none⟩ = some (.slice Ao66 t466.length co66) ∧ w'.cell? ⟨gb471, 3, none⟩ = some (.int .i64 t469)) (ds := []) #[F,F,F,F,F,F,F,F,F,F,F] kr rfl rfl ⟨cz0 BK471, cz1 BK471, cz2 BK471, cz3 BK471⟩ (fun hHeld => ?_); refine with_tabW laws_FnAfterDeaths.tab12 laws_FnAfterDeaths.bits12 (fun HT_ HW_ => ?_)
        generalize w69.drew = w70 at HO_4 HO_435001 HO_435002 HO_445001 HO_445002 HO_455001 HO_455002 HO465 HO468 BK434 BK444 BK454 BK471 HB HR475 hHeld ⊢
        refine pu 1 (some 72) #[F,T,F,F,F,F,F,F,F,F,F] (any_of HT_.out kr) ?_
        refine pu 2 (some 73) #[F,T,T,F,F,F,F,F,F,F,F] (any_of HT_.out kr) ?_
        refine pu 3 (some 74) #[F,T,T,T,F,F,F,F,F,F,F] (any_of HT_.out kr) ?_
        refine tk4 0 (some 71) #[T,T,T,T,F,F,F,F,F,F,F] (take_ofW HT_.out HW_.out kr) ?_
        refine join_ (σ := Value × Value × Nat) 2 #[T,T,T,T,T,T,T,T,T,F,F] (fun s_ => [(75, .tuple #[.agg #[.int .i64 t476, s_.1, s_.2.1, .int .i64 t483], .int .i64 t484]), (12, .pointer (some ⟨s_.2.2, 0, none⟩)), (70, .tuple #[.agg #[.int .i64 t476, s_.1, s_.2.1, .int .i64 t483], .int .i64 t484]), (76, .agg #[.int .i64 t476, s_.1, s_.2.1, .int .i64 t483]), (77, .int .i64 t484)]) (fun s_ w' => (w'.cell? ⟨gb471, 0, none⟩ = some (.int .i64 t462) ∧ w'.cell? ⟨gb471, 1, none⟩ = some (.slice Ao64 t463.length co64) ∧ w'.cell? ⟨gb471, 2, none⟩ = some (.slice Ao66 t466.length co66) ∧ w'.cell? ⟨gb471, 3, none⟩ = some (.int .i64 t469)) ∧ (Kd.V (Kd.slice 3 (Kd.int .i64)) 23 w' w.heap.size (fun k_ => some k_ ≠ (.slice Ao66 t466.length co66 : Value).ownBlock ∧ some k_ ≠ (s_.2.1 : Value).ownBlock ∧ some k_ ≠ (.slice Ao12 t431.length co12 : Value).ownBlock ∧ some k_ ≠ (.slice Ao10 t424.length co10 : Value).ownBlock ∧ some k_ ≠ (.slice Ao11 t427.length co11 : Value).ownBlock ∧ some k_ ≠ (.slice Ao18 t439.length co18 : Value).ownBlock ∧ some k_ ≠ (.slice Ao25 t446.length co25 : Value).ownBlock ∧ some k_ ≠ (.slice Ao26 t449.length co26 : Value).ownBlock ∧ k_ ≠ gb434 ∧ k_ ≠ gb444 ∧ k_ ≠ gb454 ∧ k_ ≠ gb471 ∧ k_ ≠ s_.2.2) (.slice Ao64 t463.length co64) t463) ∧ (Kd.R (Kd.int .i64) 3 w' w.heap.size (fun k_ => some k_ ≠ (s_.2.1 : Value).ownBlock ∧ some k_ ≠ (.slice Ao12 t431.length co12 : Value).ownBlock ∧ some k_ ≠ (.slice Ao11 t427.length co11 : Value).ownBlock ∧ some k_ ≠ (.slice Ao18 t439.length co18 : Value).ownBlock ∧ some k_ ≠ (.slice Ao26 t449.length co26 : Value).ownBlock) (.slice Ao66 t466.length co66) t466) ∧ (Kd.V (Kd.slice 3 (Kd.int .i64)) 23 w' w.heap.size (fun k_ => some k_ ≠ (.slice Ao66 t466.length co66 : Value).ownBlock ∧ some k_ ≠ (s_.2.1 : Value).ownBlock ∧ some k_ ≠ (.slice Ao12 t431.length co12 : Value).ownBlock ∧ some k_ ≠ (.slice Ao10 t424.length co10 : Value).ownBlock ∧ some k_ ≠ (.slice Ao11 t427.length co11 : Value).ownBlock ∧ some k_ ≠ (.slice Ao18 t439.length co18 : Value).ownBlock ∧ some k_ ≠ (.slice Ao25 t446.length co25 : Value).ownBlock ∧ some k_ ≠ (.slice Ao26 t449.length co26 : Value).ownBlock ∧ k_ ≠ gb434 ∧ k_ ≠ gb444 ∧ k_ ≠ gb454 ∧ k_ ≠ gb471 ∧ k_ ≠ s_.2.2) s_.1 t477) ∧ (Kd.R (Kd.int .i64) 3 w' w.heap.size (fun k_ => some k_ ≠ (.slice Ao66 t466.length co66 : Value).ownBlock ∧ some k_ ≠ (.slice Ao12 t431.length co12 : Value).ownBlock ∧ some k_ ≠ (.slice Ao11 t427.length co11 : Value).ownBlock ∧ some k_ ≠ (.slice Ao18 t439.length co18 : Value).ownBlock ∧ some k_ ≠ (.slice Ao26 t449.length co26 : Value).ownBlock) s_.2.1 t480) ∧ (Kd.R (Kd.int .i64) 3 w' w.heap.size (fun k_ => some k_ ≠ (.slice Ao66 t466.length co66 : Value).ownBlock ∧ some k_ ≠ (s_.2.1 : Value).ownBlock ∧ some k_ ≠ (.slice Ao11 t427.length co11 : Value).ownBlock ∧ some k_ ≠ (.slice Ao18 t439.length co18 : Value).ownBlock ∧ some k_ ≠ (.slice Ao26 t449.length co26 : Value).ownBlock) (.slice Ao12 t431.length co12) t431) ∧ (Kd.S (Kd.slice 3 (Kd.int .i64)) 23 w' w.heap.size (fun k_ => some k_ ≠ (.slice Ao66 t466.length co66 : Value).ownBlock ∧ some k_ ≠ (s_.2.1 : Value).ownBlock ∧ some k_ ≠ (.slice Ao12 t431.length co12 : Value).ownBlock ∧ some k_ ≠ (.slice Ao11 t427.length co11 : Value).ownBlock ∧ some k_ ≠ (.slice Ao18 t439.length co18 : Value).ownBlock ∧ some k_ ≠ (.slice Ao25 t446.length co25 : Value).ownBlock ∧ some k_ ≠ (.slice Ao26 t449.length co26 : Value).ownBlock) (.slice Ao10 t424.length co10) t424) ∧ (Kd.R (Kd.int .i64) 3 w' w.heap.size (fun k_ => some k_ ≠ (.slice Ao66 t466.length co66 : Value).ownBlock ∧ some k_ ≠ (s_.2.1 : Value).ownBlock ∧ some k_ ≠ (.slice Ao12 t431.length co12 : Value).ownBlock ∧ some k_ ≠ (.slice Ao18 t439.length co18 : Value).ownBlock ∧ some k_ ≠ (.slice Ao26 t449.length co26 : Value).ownBlock) (.slice Ao11 t427.length co11) t427) ∧ (Kd.V (Kd.slice 3 (Kd.int .i64)) 23 w' w.heap.size (fun k_ => some k_ ≠ (.slice Ao66 t466.length co66 : Value).ownBlock ∧ some k_ ≠ (s_.2.1 : Value).ownBlock ∧ some k_ ≠ (.slice Ao12 t431.length co12 : Value).ownBlock ∧ some k_ ≠ (.slice Ao10 t424.length co10 : Value).ownBlock ∧ some k_ ≠ (.slice Ao11 t427.length co11 : Value).ownBlock ∧ some k_ ≠ (.slice Ao18 t439.length co18 : Value).ownBlock ∧ some k_ ≠ (.slice Ao25 t446.length co25 : Value).ownBlock ∧ some k_ ≠ (.slice Ao26 t449.length co26 : Value).ownBlock ∧ k_ ≠ gb434 ∧ k_ ≠ gb444 ∧ k_ ≠ gb454 ∧ k_ ≠ gb471 ∧ k_ ≠ s_.2.2) (.slice Ao17 t436.length co17) t436) ∧ (Kd.R (Kd.int .i64) 3 w' w.heap.size (fun k_ => some k_ ≠ (.slice Ao66 t466.length co66 : Value).ownBlock ∧ some k_ ≠ (s_.2.1 : Value).ownBlock ∧ some k_ ≠ (.slice Ao12 t431.length co12 : Value).ownBlock ∧ some k_ ≠ (.slice Ao11 t427.length co11 : Value).ownBlock ∧ some k_ ≠ (.slice Ao26 t449.length co26 : Value).ownBlock) (.slice Ao18 t439.length co18) t439) ∧ (Kd.S (Kd.slice 3 (Kd.int .i64)) 23 w' w.heap.size (fun k_ => some k_ ≠ (.slice Ao66 t466.length co66 : Value).ownBlock ∧ some k_ ≠ (s_.2.1 : Value).ownBlock ∧ some k_ ≠ (.slice Ao12 t431.length co12 : Value).ownBlock ∧ some k_ ≠ (.slice Ao10 t424.length co10 : Value).ownBlock ∧ some k_ ≠ (.slice Ao11 t427.length co11 : Value).ownBlock ∧ some k_ ≠ (.slice Ao18 t439.length co18 : Value).ownBlock ∧ some k_ ≠ (.slice Ao26 t449.length co26 : Value).ownBlock) (.slice Ao25 t446.length co25) t446) ∧ (Kd.R (Kd.int .i64) 3 w' w.heap.size (fun k_ => some k_ ≠ (.slice Ao66 t466.length co66 : Value).ownBlock ∧ some k_ ≠ (s_.2.1 : Value).ownBlock ∧ some k_ ≠ (.slice Ao12 t431.length co12 : Value).ownBlock ∧ some k_ ≠ (.slice Ao11 t427.length co11 : Value).ownBlock ∧ some k_ ≠ (.slice Ao18 t439.length co18 : Value).ownBlock) (.slice Ao26 t449.length co26) t449) ∧ (w'.heap[gb434]? = some (.cells #[.int .i64 t423, .slice Ao10 t424.length co10, .slice Ao11 t427.length co11, .int .i64 t430] 28 (0, 0))) ∧ (w'.heap[gb444]? = some (.cells #[.int .i64 t435, .slice Ao17 t436.length co17, .slice Ao18 t439.length co18, .int .i64 t442] 28 (0, 0))) ∧ (w'.heap[gb454]? = some (.cells #[.int .i64 t445, .slice Ao25 t446.length co25, .slice Ao26 t449.length co26, .int .i64 t452] 28 (0, 0))) ∧ (w'.heap[gb471]? = some (.cells #[.int .i64 t462, .slice Ao64 t463.length co64, .slice Ao66 t466.length co66, .int .i64 t469] 28 (0, 0))) ∧ (w'.heap[s_.2.2]? = some (.cells #[.int .i64 0, .slice none 0 0, .slice none 0 0, .int .i64 0] 28 (0, 0))) ∧ (w.heap.size ≤ s_.2.2) ∧ (w.heap.size ≤ s_.2.2) ∧ (gb434 ≠ s_.2.2) ∧ (s_.2.2 ≠ gb434) ∧ (gb444 ≠ s_.2.2) ∧ (s_.2.2 ≠ gb444) ∧ (gb454 ≠ s_.2.2) ∧ (s_.2.2 ≠ gb454) ∧ (gb471 ≠ s_.2.2) ∧ (s_.2.2 ≠ gb471) ∧ (Below w.heap.size w w')) ?_ ?_
        rotate_left
        ·intro hCont
         refine two_ (i := 4) (j := 8) (Ni := some 75) (Nj := some 12) #[T,T,T,T,T,F,F,F,F,F,F] #[T,T,T,T,F,F,F,F,T,F,F] rfl rfl rfl rfl (two_of HT_.out kr) (by decide) (by decide) (fun K hK => ?_) (fun K hK => ?_)
         ·skip
          refine goes_ Try.func32 kr rfl #[.agg #[.int .i64 t462, .slice Ao64 t463.length co64, .slice Ao66 t466.length co66, .int .i64 t469], .slice A71 y472.length c71] (by rfl) rfl rfl lm ?_
          with_reducible refine (impl_AfterDeaths.calls kj5 t462 _ _ t463 _ _ t466 t469 _ _ y472 t476 t477 t480 t483 t484 _ ?side1 ?side2 ?side3 ?side4 ?side5 ?side6 A57.out).mono ?_
          (case side1 => repeat (first | exact (Kd.V_reads' HO465.out).2.2 | (with_reducible refine Kd.C_alloc ?_ _) | (with_reducible refine Kd.C_drewN ?_ _) | (with_reducible refine Kd.C_drew ?_)))
          (case side2 => exact (Kd.V_reads' HO465.out).2.1)
          (case side3 => repeat (first | exact (Kd.R_reads' HO468.out).2.2 | (with_reducible refine Kd.C_alloc ?_ _) | (with_reducible refine Kd.C_drewN ?_ _) | (with_reducible refine Kd.C_drew ?_)))
          (case side4 => exact (Kd.R_reads' HO468.out).2.1)
          (case side5 => repeat (first | exact (by repeat (first | (with_reducible exact HR475.out) | (with_reducible refine Kd.C_alloc ?_ _) | (with_reducible refine Kd.C_drewN ?_ _) | (with_reducible refine Kd.C_drew ?_) | exact HR475.out)) | (with_reducible refine Kd.C_alloc ?_ _) | (with_reducible refine Kd.C_drewN ?_ _) | (with_reducible refine Kd.C_drew ?_)))
          (case side6 => exact HC475.out)
          rintro e w72 ⟨v478, v481, rfl, ho0, ho1, hb⟩
          refine ⟨_, rfl, ?_⟩
          have n0_ := Aside0.mk (Kd.R_elder' (rz HO_4) (Kd.R_base ho1) hb)
          have n1_ := Aside0.mk (Kd.S_elder' (sz HO_435001) (Kd.R_base ho1) hb)
          have n2_ := Aside0.mk (Kd.R_elder' (rz HO_435002) (Kd.R_base ho1) hb)
          have n3_ := Aside0.mk (Kd.V_elder' (vz HO_445001) (Kd.R_base ho1) hb)
          have n4_ := Aside0.mk (Kd.R_elder' (rz HO_445002) (Kd.R_base ho1) hb)
          have n5_ := Aside0.mk (Kd.S_elder' (sz HO_455001) (Kd.R_base ho1) hb)
          have n6_ := Aside0.mk (Kd.R_elder' (rz HO_455002) (Kd.R_base ho1) hb)
          have n7_ := Aside0.mk (Kd.V_elder' (vz HO465) (Kd.R_base ho1) hb)
          have n8_ := Aside0.mk (Kd.R_elder' (rz HO468) (Kd.R_base ho1) hb)
          have n9_ := Aside0.mk (Kd.V_lower (Kd.V_mono (ok' := fun k_ => some k_ ≠ (v481 : Value).ownBlock ∧ some k_ ≠ (.slice Ao12 t431.length co12 : Value).ownBlock ∧ some k_ ≠ (.slice Ao10 t424.length co10 : Value).ownBlock ∧ some k_ ≠ (.slice Ao11 t427.length co11 : Value).ownBlock ∧ some k_ ≠ (.slice Ao18 t439.length co18 : Value).ownBlock ∧ some k_ ≠ (.slice Ao25 t446.length co25 : Value).ownBlock ∧ some k_ ≠ (.slice Ao26 t449.length co26 : Value).ownBlock ∧ some k_ ≠ (.slice Ao66 t466.length co66 : Value).ownBlock ∧ k_ ≠ gb434 ∧ k_ ≠ gb444 ∧ k_ ≠ gb454 ∧ k_ ≠ gb471) ho0 (fun k_ hk_ => ⟨hk_.2, (Kd.fresh' (Kd.R_lt (rz HO_4)) k_ hk_.1), (Kd.fresh' (Kd.S_lt (sz HO_435001)) k_ hk_.1), (Kd.fresh' (Kd.R_lt (rz HO_435002)) k_ hk_.1), (Kd.fresh' (Kd.R_lt (rz HO_445002)) k_ hk_.1), (Kd.fresh' (Kd.S_lt (sz HO_455001)) k_ hk_.1), (Kd.fresh' (Kd.R_lt (rz HO_455002)) k_ hk_.1), (Kd.fresh' (Kd.R_lt (rz HO468)) k_ hk_.1), (Kd.freshB (bz BK434) k_ hk_.1), (Kd.freshB (bz BK444) k_ hk_.1), (Kd.freshB (bz BK454) k_ hk_.1), (Kd.freshB (bz BK471) k_ hk_.1)⟩)) (below_size bh))
          have n10_ := Aside0.mk (Kd.R_lower (Kd.R_new' (Kd.R_new' (Kd.R_new' (Kd.R_new' (Kd.R_new' (Kd.R_mono (ok' := fun k_ => True) ho1 (fun _ hk_ => trivial)) (Kd.R_lt (rz HO_4))) (Kd.R_lt (rz HO_435002))) (Kd.R_lt (rz HO_445002))) (Kd.R_lt (rz HO_455002))) (Kd.R_lt (rz HO468))) (below_size bh))
          have n11_ := Aside0.mk (blk_below (bz BK434) hb)
          have n12_ := Aside0.mk (blk_below (bz BK444) hb)
          have n13_ := Aside0.mk (blk_below (bz BK454) hb)
          have n14_ := Aside0.mk (blk_below (bz BK471) hb)
          have n15_ := Aside0.mk (Kd.C_below (by repeat (first | (with_reducible exact HR475.out) | (with_reducible refine Kd.C_alloc ?_ _) | (with_reducible refine Kd.C_drewN ?_ _) | (with_reducible refine Kd.C_drew ?_) | exact HR475.out)) hb)
          have n16_ := Aside0.mk (below_step bh hb)
          clear HO_4 HO_435001 HO_435002 HO_445001 HO_445002 HO_455001 HO_455002 HO465 HO468 BK434 BK444 BK454 BK471 HR475 HB
          have HO_4 := n0_
          have HO_435001 := n1_
          have HO_435002 := n2_
          have HO_445001 := n3_
          have HO_445002 := n4_
          have HO_455001 := n5_
          have HO_455002 := n6_
          have HO465 := n7_
          have HO468 := n8_
          have HO479 := n9_
          have HO482 := n10_
          have BK434 := n11_
          have BK444 := n12_
          have BK454 := n13_
          have BK471 := n14_
          have HR475 := n15_
          have HB := n16_
          clear n0_ n1_ n2_ n3_ n4_ n5_ n6_ n7_ n8_ n9_ n10_ n11_ n12_ n13_ n14_ n15_ n16_
          (try clear hb)
          (try clear hb2)
          (try clear hk)
          (try clear hi)
          (try clear ho0)
          (try clear ho1)
          refine hK.out _ _ ⟨cz0 BK471, cz1 BK471, cz2 BK471, cz3 BK471⟩ (fun hHeld => ?_)
          clear hK K
          refine norm_ (a' := ?_) ?_ ?_
          rotate_left
          ·show Act.put _ (some 75) _ = _
           simp only [Act.put, List.setIfInBounds_toArray, List.set_cons_zero, List.set_cons_succ, i64_w, i32_w]
           rfl
          refine pu 5 (some 70) #[T,T,T,T,T,T,F,F,F,F,F] (any_of HT_.out kr) ?_
          refine pu 6 (some 76) #[T,T,T,T,T,T,T,F,F,F,F] (any_of HT_.out kr) ?_
          refine pu 7 (some 77) #[T,T,T,T,T,T,T,T,F,F,F] (any_of HT_.out kr) ?_
          refine one_ (i := 8) (N := some 12) #[T,T,T,T,T,T,T,T,T,F,F] rfl rfl (one_of HT_.out kr) (by decide) (fun K hK => ?_)
          refine box_step ?hg (N := 12) ?hd (cs := #[.int .i64 0, .slice none 0 0, .slice none 0 0, .int .i64 0]) (t := 28) ?hr ?_; (case hd => rfl); (case hg => rfl); (case hr => first | (go_simp; done) | (go_simp; rfl))
          intro gb485 hg w73 hbox hb
          have n0_ := Aside0.mk (Kd.R_below (rz HO_4) hb)
          have n1_ := Aside0.mk (Kd.S_below (sz HO_435001) hb)
          have n2_ := Aside0.mk (Kd.R_below (rz HO_435002) hb)
          have n3_ := Aside0.mk (Kd.V_below (Kd.V_elderB (vz HO_445001) gb485 (Nat.le_of_eq hg.symm)) hb)
          have n4_ := Aside0.mk (Kd.R_below (rz HO_445002) hb)
          have n5_ := Aside0.mk (Kd.S_below (sz HO_455001) hb)
          have n6_ := Aside0.mk (Kd.R_below (rz HO_455002) hb)
          have n7_ := Aside0.mk (Kd.V_below (Kd.V_elderB (vz HO465) gb485 (Nat.le_of_eq hg.symm)) hb)
          have n8_ := Aside0.mk (Kd.R_below (rz HO468) hb)
          have n9_ := Aside0.mk (Kd.V_below (Kd.V_elderB (vz HO479) gb485 (Nat.le_of_eq hg.symm)) hb)
          have n10_ := Aside0.mk (Kd.R_below (rz HO482) hb)
          have n11_ := Aside0.mk (blk_below (bz BK434) hb)
          have n12_ := Aside0.mk (blk_below (bz BK444) hb)
          have n13_ := Aside0.mk (blk_below (bz BK454) hb)
          have n14_ := Aside0.mk (blk_below (bz BK471) hb)
          have n15_ := Aside0.mk (Kd.C_below (by repeat (first | (with_reducible exact HR475.out) | (with_reducible refine Kd.C_alloc ?_ _) | (with_reducible refine Kd.C_drewN ?_ _) | (with_reducible refine Kd.C_drew ?_) | exact HR475.out)) hb)
          have n16_ := Aside0.mk (below_step bh hb)
          have n17_ := Aside0.mk (hbox)
          have n18_ := Aside0.mk ((gs (W0 := w) hg bh))
          have n19_ := Aside0.mk ((gs (W0 := w) hg bh))
          have n20_ := Aside0.mk ((gn hg (bz BK434)))
          have n21_ := Aside0.mk ((gm hg (bz BK434)))
          have n22_ := Aside0.mk ((gn hg (bz BK444)))
          have n23_ := Aside0.mk ((gm hg (bz BK444)))
          have n24_ := Aside0.mk ((gn hg (bz BK454)))
          have n25_ := Aside0.mk ((gm hg (bz BK454)))
          have n26_ := Aside0.mk ((gn hg (bz BK471)))
          have n27_ := Aside0.mk ((gm hg (bz BK471)))
          clear HO_4 HO_435001 HO_435002 HO_445001 HO_445002 HO_455001 HO_455002 HO465 HO468 HO479 HO482 BK434 BK444 BK454 BK471 HR475 HB
          have HO_4 := n0_
          have HO_435001 := n1_
          have HO_435002 := n2_
          have HO_445001 := n3_
          have HO_445002 := n4_
          have HO_455001 := n5_
          have HO_455002 := n6_
          have HO465 := n7_
          have HO468 := n8_
          have HO479 := n9_
          have HO482 := n10_
          have BK434 := n11_
          have BK444 := n12_
          have BK454 := n13_
          have BK471 := n14_
          have HR475 := n15_
          have HB := n16_
          have BK485 := n17_
          have GW485 := n18_
          have GE485 := n19_
          have NB434_485 := n20_
          have NB485_434 := n21_
          have NB444_485 := n22_
          have NB485_444 := n23_
          have NB454_485 := n24_
          have NB485_454 := n25_
          have NB471_485 := n26_
          have NB485_471 := n27_
          clear n0_ n1_ n2_ n3_ n4_ n5_ n6_ n7_ n8_ n9_ n10_ n11_ n12_ n13_ n14_ n15_ n16_ n17_ n18_ n19_ n20_ n21_ n22_ n23_ n24_ n25_ n26_ n27_ hb hbox hg
          refine hK.out _ _ ⟨cz0 BK471, cz1 BK471, cz2 BK471, cz3 BK471⟩ (fun hHeld => ?_)
          clear hK K
          refine norm_ (a' := ?_) ?_ ?_
          rotate_left
          ·show Act.put _ (some 12) _ = _
           simp only [Act.put, List.setIfInBounds_toArray, List.set_cons_zero, List.set_cons_succ, i64_w, i32_w]
           rfl
          exact norm_ (by simp only [putAll, Act.put, List.setIfInBounds_toArray, List.set_cons_zero, List.set_cons_succ]) (hCont (v478, v481, gb485) _ ⟨hHeld, (mV HO465), (mR HO468), (mV HO479), (mR HO482), (mR HO_4), (mS HO_435001), (mR HO_435002), (mV HO_445001), (mR HO_445002), (mS HO_455001), (mR HO_455002), (bz BK434), (bz BK444), (bz BK454), (bz BK471), (bz BK485), GW485.out, GE485.out, NB434_485.out, NB485_434.out, NB444_485.out, NB485_444.out, NB454_485.out, NB485_454.out, NB471_485.out, NB485_471.out, bh⟩)
         ·skip
          refine box_step ?hg (N := 12) ?hd (cs := #[.int .i64 0, .slice none 0 0, .slice none 0 0, .int .i64 0]) (t := 28) ?hr ?_; (case hd => rfl); (case hg => rfl); (case hr => first | (go_simp; done) | (go_simp; rfl))
          intro gb485 hg w72 hbox hb
          have n0_ := Aside0.mk (Kd.R_below (rz HO_4) hb)
          have n1_ := Aside0.mk (Kd.S_below (sz HO_435001) hb)
          have n2_ := Aside0.mk (Kd.R_below (rz HO_435002) hb)
          have n3_ := Aside0.mk (Kd.V_below (Kd.V_elderB (vz HO_445001) gb485 (Nat.le_of_eq hg.symm)) hb)
          have n4_ := Aside0.mk (Kd.R_below (rz HO_445002) hb)
          have n5_ := Aside0.mk (Kd.S_below (sz HO_455001) hb)
          have n6_ := Aside0.mk (Kd.R_below (rz HO_455002) hb)
          have n7_ := Aside0.mk (Kd.V_below (Kd.V_elderB (vz HO465) gb485 (Nat.le_of_eq hg.symm)) hb)
          have n8_ := Aside0.mk (Kd.R_below (rz HO468) hb)
          have n9_ := Aside0.mk (blk_below (bz BK434) hb)
          have n10_ := Aside0.mk (blk_below (bz BK444) hb)
          have n11_ := Aside0.mk (blk_below (bz BK454) hb)
          have n12_ := Aside0.mk (blk_below (bz BK471) hb)
          have n13_ := Aside0.mk (Kd.C_below (by repeat (first | (with_reducible exact HR475.out) | (with_reducible refine Kd.C_alloc ?_ _) | (with_reducible refine Kd.C_drewN ?_ _) | (with_reducible refine Kd.C_drew ?_) | exact HR475.out)) hb)
          have n14_ := Aside0.mk (below_step bh hb)
          have n15_ := Aside0.mk (hbox)
          have n16_ := Aside0.mk ((gs (W0 := w) hg bh))
          have n17_ := Aside0.mk ((gs (W0 := w) hg bh))
          have n18_ := Aside0.mk ((gn hg (bz BK434)))
          have n19_ := Aside0.mk ((gm hg (bz BK434)))
          have n20_ := Aside0.mk ((gn hg (bz BK444)))
          have n21_ := Aside0.mk ((gm hg (bz BK444)))
          have n22_ := Aside0.mk ((gn hg (bz BK454)))
          have n23_ := Aside0.mk ((gm hg (bz BK454)))
          have n24_ := Aside0.mk ((gn hg (bz BK471)))
          have n25_ := Aside0.mk ((gm hg (bz BK471)))
          clear HO_4 HO_435001 HO_435002 HO_445001 HO_445002 HO_455001 HO_455002 HO465 HO468 BK434 BK444 BK454 BK471 HR475 HB
          have HO_4 := n0_
          have HO_435001 := n1_
          have HO_435002 := n2_
          have HO_445001 := n3_
          have HO_445002 := n4_
          have HO_455001 := n5_
          have HO_455002 := n6_
          have HO465 := n7_
          have HO468 := n8_
          have BK434 := n9_
          have BK444 := n10_
          have BK454 := n11_
          have BK471 := n12_
          have HR475 := n13_
          have HB := n14_
          have BK485 := n15_
          have GW485 := n16_
          have GE485 := n17_
          have NB434_485 := n18_
          have NB485_434 := n19_
          have NB444_485 := n20_
          have NB485_444 := n21_
          have NB454_485 := n22_
          have NB485_454 := n23_
          have NB471_485 := n24_
          have NB485_471 := n25_
          clear n0_ n1_ n2_ n3_ n4_ n5_ n6_ n7_ n8_ n9_ n10_ n11_ n12_ n13_ n14_ n15_ n16_ n17_ n18_ n19_ n20_ n21_ n22_ n23_ n24_ n25_ hb hbox hg
          refine hK.out _ _ ⟨cz0 BK471, cz1 BK471, cz2 BK471, cz3 BK471⟩ (fun hHeld => ?_)
          clear hK K
          refine norm_ (a' := ?_) ?_ ?_
          rotate_left
          ·show Act.put _ (some 12) _ = _
           simp only [Act.put, List.setIfInBounds_toArray, List.set_cons_zero, List.set_cons_succ, i64_w, i32_w]
           rfl
          refine one_ (i := 4) (N := some 75) #[T,T,T,T,T,F,F,F,T,F,F] rfl rfl (one_of HT_.out kr) (by decide) (fun K hK => ?_)
          refine goes_ Try.func32 kr rfl #[.agg #[.int .i64 t462, .slice Ao64 t463.length co64, .slice Ao66 t466.length co66, .int .i64 t469], .slice A71 y472.length c71] (by rfl) rfl rfl lm ?_
          with_reducible refine (impl_AfterDeaths.calls kj5 t462 _ _ t463 _ _ t466 t469 _ _ y472 t476 t477 t480 t483 t484 _ ?side1 ?side2 ?side3 ?side4 ?side5 ?side6 A57.out).mono ?_
          (case side1 => repeat (first | exact (Kd.V_reads' HO465.out).2.2 | (with_reducible refine Kd.C_alloc ?_ _) | (with_reducible refine Kd.C_drewN ?_ _) | (with_reducible refine Kd.C_drew ?_)))
          (case side2 => exact (Kd.V_reads' HO465.out).2.1)
          (case side3 => repeat (first | exact (Kd.R_reads' HO468.out).2.2 | (with_reducible refine Kd.C_alloc ?_ _) | (with_reducible refine Kd.C_drewN ?_ _) | (with_reducible refine Kd.C_drew ?_)))
          (case side4 => exact (Kd.R_reads' HO468.out).2.1)
          (case side5 => repeat (first | exact (by repeat (first | (with_reducible exact HR475.out) | (with_reducible refine Kd.C_alloc ?_ _) | (with_reducible refine Kd.C_drewN ?_ _) | (with_reducible refine Kd.C_drew ?_) | exact HR475.out)) | (with_reducible refine Kd.C_alloc ?_ _) | (with_reducible refine Kd.C_drewN ?_ _) | (with_reducible refine Kd.C_drew ?_)))
          (case side6 => exact HC475.out)
          rintro e w73 ⟨v478, v481, rfl, ho0, ho1, hb⟩
          refine ⟨_, rfl, ?_⟩
          have n0_ := Aside0.mk (Kd.R_elder' (rz HO_4) (Kd.R_base ho1) hb)
          have n1_ := Aside0.mk (Kd.S_elder' (sz HO_435001) (Kd.R_base ho1) hb)
          have n2_ := Aside0.mk (Kd.R_elder' (rz HO_435002) (Kd.R_base ho1) hb)
          have n3_ := Aside0.mk (Kd.V_elder' (vz HO_445001) (Kd.R_base ho1) hb)
          have n4_ := Aside0.mk (Kd.R_elder' (rz HO_445002) (Kd.R_base ho1) hb)
          have n5_ := Aside0.mk (Kd.S_elder' (sz HO_455001) (Kd.R_base ho1) hb)
          have n6_ := Aside0.mk (Kd.R_elder' (rz HO_455002) (Kd.R_base ho1) hb)
          have n7_ := Aside0.mk (Kd.V_elder' (vz HO465) (Kd.R_base ho1) hb)
          have n8_ := Aside0.mk (Kd.R_elder' (rz HO468) (Kd.R_base ho1) hb)
          have n9_ := Aside0.mk (Kd.V_lower (Kd.V_mono (ok' := fun k_ => some k_ ≠ (v481 : Value).ownBlock ∧ some k_ ≠ (.slice Ao12 t431.length co12 : Value).ownBlock ∧ some k_ ≠ (.slice Ao10 t424.length co10 : Value).ownBlock ∧ some k_ ≠ (.slice Ao11 t427.length co11 : Value).ownBlock ∧ some k_ ≠ (.slice Ao18 t439.length co18 : Value).ownBlock ∧ some k_ ≠ (.slice Ao25 t446.length co25 : Value).ownBlock ∧ some k_ ≠ (.slice Ao26 t449.length co26 : Value).ownBlock ∧ some k_ ≠ (.slice Ao66 t466.length co66 : Value).ownBlock ∧ k_ ≠ gb434 ∧ k_ ≠ gb444 ∧ k_ ≠ gb454 ∧ k_ ≠ gb471 ∧ k_ ≠ gb485) ho0 (fun k_ hk_ => ⟨hk_.2, (Kd.fresh' (Kd.R_lt (rz HO_4)) k_ hk_.1), (Kd.fresh' (Kd.S_lt (sz HO_435001)) k_ hk_.1), (Kd.fresh' (Kd.R_lt (rz HO_435002)) k_ hk_.1), (Kd.fresh' (Kd.R_lt (rz HO_445002)) k_ hk_.1), (Kd.fresh' (Kd.S_lt (sz HO_455001)) k_ hk_.1), (Kd.fresh' (Kd.R_lt (rz HO_455002)) k_ hk_.1), (Kd.fresh' (Kd.R_lt (rz HO468)) k_ hk_.1), (Kd.freshB (bz BK434) k_ hk_.1), (Kd.freshB (bz BK444) k_ hk_.1), (Kd.freshB (bz BK454) k_ hk_.1), (Kd.freshB (bz BK471) k_ hk_.1), (Kd.freshB (bz BK485) k_ hk_.1)⟩)) (below_size bh))
          have n10_ := Aside0.mk (Kd.R_lower (Kd.R_new' (Kd.R_new' (Kd.R_new' (Kd.R_new' (Kd.R_new' (Kd.R_mono (ok' := fun k_ => True) ho1 (fun _ hk_ => trivial)) (Kd.R_lt (rz HO_4))) (Kd.R_lt (rz HO_435002))) (Kd.R_lt (rz HO_445002))) (Kd.R_lt (rz HO_455002))) (Kd.R_lt (rz HO468))) (below_size bh))
          have n11_ := Aside0.mk (blk_below (bz BK434) hb)
          have n12_ := Aside0.mk (blk_below (bz BK444) hb)
          have n13_ := Aside0.mk (blk_below (bz BK454) hb)
          have n14_ := Aside0.mk (blk_below (bz BK471) hb)
          have n15_ := Aside0.mk (Kd.C_below (by repeat (first | (with_reducible exact HR475.out) | (with_reducible refine Kd.C_alloc ?_ _) | (with_reducible refine Kd.C_drewN ?_ _) | (with_reducible refine Kd.C_drew ?_) | exact HR475.out)) hb)
          have n16_ := Aside0.mk (blk_below (bz BK485) hb)
          have n17_ := Aside0.mk (below_step bh hb)
          clear HO_4 HO_435001 HO_435002 HO_445001 HO_445002 HO_455001 HO_455002 HO465 HO468 BK434 BK444 BK454 BK471 HR475 BK485 HB
          have HO_4 := n0_
          have HO_435001 := n1_
          have HO_435002 := n2_
          have HO_445001 := n3_
          have HO_445002 := n4_
          have HO_455001 := n5_
          have HO_455002 := n6_
          have HO465 := n7_
          have HO468 := n8_
          have HO479 := n9_
          have HO482 := n10_
          have BK434 := n11_
          have BK444 := n12_
          have BK454 := n13_
          have BK471 := n14_
          have HR475 := n15_
          have BK485 := n16_
          have HB := n17_
          clear n0_ n1_ n2_ n3_ n4_ n5_ n6_ n7_ n8_ n9_ n10_ n11_ n12_ n13_ n14_ n15_ n16_ n17_
          (try clear hb)
          (try clear hb2)
          (try clear hk)
          (try clear hi)
          (try clear ho0)
          (try clear ho1)
          refine hK.out _ _ ⟨cz0 BK471, cz1 BK471, cz2 BK471, cz3 BK471⟩ (fun hHeld => ?_)
          clear hK K
          refine norm_ (a' := ?_) ?_ ?_
          rotate_left
          ·show Act.put _ (some 75) _ = _
           simp only [Act.put, List.setIfInBounds_toArray, List.set_cons_zero, List.set_cons_succ, i64_w, i32_w]
           rfl
          refine pu 5 (some 70) #[T,T,T,T,T,T,F,F,T,F,F] (any_of HT_.out kr) ?_
          refine pu 6 (some 76) #[T,T,T,T,T,T,T,F,T,F,F] (any_of HT_.out kr) ?_
          refine pu 7 (some 77) #[T,T,T,T,T,T,T,T,T,F,F] (any_of HT_.out kr) ?_
          exact norm_ (by simp only [putAll, Act.put, List.setIfInBounds_toArray, List.set_cons_zero, List.set_cons_succ]) (hCont (v478, v481, gb485) _ ⟨hHeld, (mV HO465), (mR HO468), (mV HO479), (mR HO482), (mR HO_4), (mS HO_435001), (mR HO_435002), (mV HO_445001), (mR HO_445002), (mS HO_455001), (mR HO_455002), (bz BK434), (bz BK444), (bz BK454), (bz BK471), (bz BK485), GW485.out, GE485.out, NB434_485.out, NB485_434.out, NB444_485.out, NB485_444.out, NB454_485.out, NB485_454.out, NB471_485.out, NB485_471.out, bh⟩)
        rintro ⟨v478, v481, gb485⟩ w74 ⟨hS_, h0_, h1_, h2_, h3_, h4_, h5_, h6_, h7_, h8_, h9_, h10_, h11_, h12_, h13_, h14_, h15_, h16_, h17_, h18_, h19_, h20_, h21_, h22_, h23_, h24_, h25_, h26_⟩
        clear HO_4 HO_435001 HO_435002 HO_445001 HO_445002 HO_455001 HO_455002 HO465 HO468 BK434 BK444 BK454 BK471 HB
        have HO465 := Aside0.mk h0_
        have HO468 := Aside0.mk h1_
        have HO479 := Aside0.mk h2_
        have HO482 := Aside0.mk h3_
        have HO_4 := Aside0.mk h4_
        have HO_435001 := Aside0.mk h5_
        have HO_435002 := Aside0.mk h6_
        have HO_445001 := Aside0.mk h7_
        have HO_445002 := Aside0.mk h8_
        have HO_455001 := Aside0.mk h9_
        have HO_455002 := Aside0.mk h10_
        have BK434 := Aside0.mk h11_
        have BK444 := Aside0.mk h12_
        have BK454 := Aside0.mk h13_
        have BK471 := Aside0.mk h14_
        have BK485 := Aside0.mk h15_
        have GW485 := Aside0.mk h16_
        have GE485 := Aside0.mk h17_
        have NB434_485 := Aside0.mk h18_
        have NB485_434 := Aside0.mk h19_
        have NB444_485 := Aside0.mk h20_
        have NB485_444 := Aside0.mk h21_
        have NB454_485 := Aside0.mk h22_
        have NB485_454 := Aside0.mk h23_
        have NB471_485 := Aside0.mk h24_
        have NB485_471 := Aside0.mk h25_
        have HB := Aside0.mk h26_
        clear h0_ h1_ h2_ h3_ h4_ h5_ h6_ h7_ h8_ h9_ h10_ h11_ h12_ h13_ h14_ h15_ h16_ h17_ h18_ h19_ h20_ h21_ h22_ h23_ h24_ h25_ h26_
        have hHeld : w74.cell? ⟨gb471, 0, none⟩ = some (.int .i64 t462) ∧ w74.cell? ⟨gb471, 1, none⟩ = some (.slice Ao64 t463.length co64) ∧ w74.cell? ⟨gb471, 2, none⟩ = some (.slice Ao66 t466.length co66) ∧ w74.cell? ⟨gb471, 3, none⟩ = some (.int .i64 t469) := hS_
        obtain ⟨Ao76, co76, eo76⟩ := Kd.V_slice HO479.out
        (first | subst eo76 | (injection eo76 with f1_ f2_ f3_; have f4_ := f1_.symm; have f5_ := f3_.symm; clear f1_ f2_ f3_; subst f4_; subst f5_))
        obtain ⟨Ao78, co78, eo78⟩ := Kd.R_slice HO482.out
        (first | subst eo78 | (injection eo78 with f1_ f2_ f3_; have f4_ := f1_.symm; have f5_ := f3_.symm; clear f1_ f2_ f3_; subst f4_; subst f5_))
        refine norm_ (a' := ?_) ?_ ?_
        rotate_left
        ·simp only [putAll, Act.put, List.setIfInBounds_toArray, List.set_cons_zero, List.set_cons_succ]
         rfl
        refine one_ (i := 9) (N := none) #[T,T,T,T,T,T,T,T,T,T,F] rfl rfl (one_of HT_.out kr) (by decide) (fun K hK => ?_)
        have hs75 := cz0 BK485
        have hfs75 := blk_frozen BK485.out 0
        have hns75_0 := NB434_485.out
        have hns75_1 := NB444_485.out
        have hns75_2 := NB454_485.out
        have hns75_3 := NB471_485.out
        have hms75_0 := NB485_434.out
        have hms75_1 := NB485_444.out
        have hms75_2 := NB485_454.out
        have hms75_3 := NB485_471.out
        have hs77 := cz1 BK485
        have hfs77 := blk_frozen BK485.out 1
        have hns77_0 := NB434_485.out
        have hns77_1 := NB444_485.out
        have hns77_2 := NB454_485.out
        have hns77_3 := NB471_485.out
        have hms77_0 := NB485_434.out
        have hms77_1 := NB485_444.out
        have hms77_2 := NB485_454.out
        have hms77_3 := NB485_471.out
        have hs79 := cz2 BK485
        have hfs79 := blk_frozen BK485.out 2
        have hns79_0 := NB434_485.out
        have hns79_1 := NB444_485.out
        have hns79_2 := NB454_485.out
        have hns79_3 := NB471_485.out
        have hms79_0 := NB485_434.out
        have hms79_1 := NB485_444.out
        have hms79_2 := NB485_454.out
        have hms79_3 := NB485_471.out
        have hs80 := cz3 BK485
        have hfs80 := blk_frozen BK485.out 3
        have hns80_0 := NB434_485.out
        have hns80_1 := NB444_485.out
        have hns80_2 := NB454_485.out
        have hns80_3 := NB471_485.out
        have hms80_0 := NB485_434.out
        have hms80_1 := NB485_444.out
        have hms80_2 := NB485_454.out
        have hms80_3 := NB485_471.out
        refine skip_ (w1 := ?_) (by rfl) rfl ?_ ?_
        rotate_left
        ·go_simp
         rfl
        refine hK.out _ _ ⟨((cell_far (p := ⟨gb485, _, none⟩) NB471_485.out _).trans (((cell_far (p := ⟨gb485, _, none⟩) NB471_485.out _).trans (((cell_far (p := ⟨gb485, _, none⟩) NB471_485.out _).trans (((cell_far (p := ⟨gb485, _, none⟩) NB471_485.out _).trans (hHeld.1)))))))), ((cell_far (p := ⟨gb485, _, none⟩) NB471_485.out _).trans (((cell_far (p := ⟨gb485, _, none⟩) NB471_485.out _).trans (((cell_far (p := ⟨gb485, _, none⟩) NB471_485.out _).trans (((cell_far (p := ⟨gb485, _, none⟩) NB471_485.out _).trans (hHeld.2.1)))))))), ((cell_far (p := ⟨gb485, _, none⟩) NB471_485.out _).trans (((cell_far (p := ⟨gb485, _, none⟩) NB471_485.out _).trans (((cell_far (p := ⟨gb485, _, none⟩) NB471_485.out _).trans (((cell_far (p := ⟨gb485, _, none⟩) NB471_485.out _).trans (hHeld.2.2.1)))))))), ((cell_far (p := ⟨gb485, _, none⟩) NB471_485.out _).trans (((cell_far (p := ⟨gb485, _, none⟩) NB471_485.out _).trans (((cell_far (p := ⟨gb485, _, none⟩) NB471_485.out _).trans (((cell_far (p := ⟨gb485, _, none⟩) NB471_485.out _).trans (hHeld.2.2.2))))))))⟩ (fun hHeld => ?_)
        clear hK K
        refine pu 10 (some 13) #[T,T,T,T,T,T,T,T,T,T,T] (any_of HT_.out kr) ?_
        refine done_ (done_of HT_.out kr) ?_
        try go_wp2_with (first | ((with_reducible refine gate_dst (N := 78) rfl ?_); (try (refine gate_guard (by rfl) ?_; dsimp only)); refine Kd.R_lit (Kd.int .i64) _ 3 ?hg (N := 78) ?hd (xs := ([] : List Int)) (inner := []) (ok := fun _ => True) (okp := fun _ => True) ?hr ?hp (fun _ hk => hk) trivial (Below.refl _ _) (Nat.le_refl _) (by simp) ?_; (case hd => rfl); (case hg => rfl); (case hr => first | (go_simp; done) | (go_simp; rfl)); (case hp => exact (Reps.none _ _)); intro v487 w81 ho82 hb hg_ hnew_; clear hg_ hnew_; (first | rw [← Ny486.out] at ho82 | (simp only [Int.reduceToNat] at ho82; rw [← Ny486.out] at ho82)); have n0_ := Aside0.mk (Kd.R_elder' (fR HO_4 BK485) (Kd.R_base ho82) hb); have n1_ := Aside0.mk (Kd.S_elder' (fS HO_435001 BK485) (Kd.R_base ho82) hb); have n2_ := Aside0.mk (Kd.R_elder' (fR HO_435002 BK485) (Kd.R_base ho82) hb); have n3_ := Aside0.mk (Kd.V_elder' (uV HO_445001 (fun _ hk => hk.2.2.2.2.2.2.2.2.2.2.2.2)) (Kd.R_base ho82) hb); have n4_ := Aside0.mk (Kd.R_elder' (fR HO_445002 BK485) (Kd.R_base ho82) hb); have n5_ := Aside0.mk (Kd.S_elder' (fS HO_455001 BK485) (Kd.R_base ho82) hb); have n6_ := Aside0.mk (Kd.R_elder' (fR HO_455002 BK485) (Kd.R_base ho82) hb); have n7_ := Aside0.mk (Kd.V_elder' (uV HO465 (fun _ hk => hk.2.2.2.2.2.2.2.2.2.2.2.2)) (Kd.R_base ho82) hb); have n8_ := Aside0.mk (Kd.R_elder' (fR HO468 BK485) (Kd.R_base ho82) hb); have n9_ := Aside0.mk (Kd.V_elder' (uV HO479 (fun _ hk => hk.2.2.2.2.2.2.2.2.2.2.2.2)) (Kd.R_base ho82) hb); have n10_ := Aside0.mk (Kd.R_elder' (fR HO482 BK485) (Kd.R_base ho82) hb); have n11_ := Aside0.mk (Kd.R_lower (Kd.R_new' (Kd.R_new' (Kd.R_new' (Kd.R_new' (Kd.R_new' (Kd.R_new' ho82 (Kd.R_lt (fR HO_4 BK485))) (Kd.R_lt (fR HO_435002 BK485))) (Kd.R_lt (fR HO_445002 BK485))) (Kd.R_lt (fR HO_455002 BK485))) (Kd.R_lt (fR HO468 BK485))) (Kd.R_lt (fR HO482 BK485))) (below_size bh)); have n12_ := Aside0.mk (blk_below (g := gb434) (o := .cells #[.int .i64 t423, .slice Ao10 t424.length co10, .slice Ao11 t427.length co11, .int .i64 t430] 28 (0, 0)) (bf NB434_485 BK434) hb); have n13_ := Aside0.mk (blk_below (g := gb444) (o := .cells #[.int .i64 t435, .slice Ao17 t436.length co17, .slice Ao18 t439.length co18, .int .i64 t442] 28 (0, 0)) (bf NB444_485 BK444) hb); have n14_ := Aside0.mk (blk_below (g := gb454) (o := .cells #[.int .i64 t445, .slice Ao25 t446.length co25, .slice Ao26 t449.length co26, .int .i64 t452] 28 (0, 0)) (bf NB454_485 BK454) hb); have n15_ := Aside0.mk (blk_below (g := gb471) (o := .cells #[.int .i64 t462, .slice Ao64 t463.length co64, .slice Ao66 t466.length co66, .int .i64 t469] 28 (0, 0)) (bf NB471_485 BK471) hb); have n16_ := Aside0.mk (blk_below (g := gb485) (o := .cells #[.int .i64 t476, .slice Ao76 t477.length co76, .slice Ao78 t480.length co78, .int .i64 t483] 28 (0, 0)) (bp BK485) hb); have n17_ := Aside0.mk (below_step bh hb); clear HO_4 HO_435001 HO_435002 HO_445001 HO_445002 HO_455001 HO_455002 HO465 HO468 HO479 HO482 BK434 BK444 BK454 BK471 BK485 HB; have HO_4 := n0_; have HO_435001 := n1_; have HO_435002 := n2_; have HO_445001 := n3_; have HO_445002 := n4_; have HO_455001 := n5_; have HO_455002 := n6_; have HO465 := n7_; have HO468 := n8_; have HO479 := n9_; have HO482 := n10_; have HO488 := n11_; have BK434 := n12_; have BK444 := n13_; have BK454 := n14_; have BK471 := n15_; have BK485 := n16_; have HB := n17_; clear n0_ n1_ n2_ n3_ n4_ n5_ n6_ n7_ n8_ n9_ n10_ n11_ n12_ n13_ n14_ n15_ n16_ n17_ hb ho82))
        go_loopg [14, 15] kj5 (fun kq v14 v15 w' => ∃ (x14_2 : List Int) (x15_2 : Int), v15 = .int .i64 x15_2 ∧ Aside0 (laws_FnAfterDeaths.l0 kq t443 t470 t484 x14_2 x15_2 t423 t424 t427 t430 t435 t436 t439 t442 t476 t477 t480 t483 = some r) ∧ Aside0 (kq ≤ kj5) ∧ Aside0 (Kd.R (Kd.int .i64) 3 w' w.heap.size (fun k_ => some k_ ≠ ((.slice Ao11 t427.length co11) : Value).ownBlock ∧ some k_ ≠ ((.slice Ao18 t439.length co18) : Value).ownBlock ∧ some k_ ≠ ((.slice Ao26 t449.length co26) : Value).ownBlock ∧ some k_ ≠ ((.slice Ao66 t466.length co66) : Value).ownBlock ∧ some k_ ≠ ((.slice Ao78 t480.length co78) : Value).ownBlock) v14 x14_2) ∧ Aside0 (Kd.S (Kd.slice 3 (Kd.int .i64)) 23 w' w.heap.size (fun k_ => some k_ ≠ (v14 : Value).ownBlock ∧ some k_ ≠ ((.slice Ao11 t427.length co11) : Value).ownBlock ∧ some k_ ≠ ((.slice Ao18 t439.length co18) : Value).ownBlock ∧ some k_ ≠ ((.slice Ao25 t446.length co25) : Value).ownBlock ∧ some k_ ≠ ((.slice Ao26 t449.length co26) : Value).ownBlock ∧ some k_ ≠ ((.slice Ao66 t466.length co66) : Value).ownBlock ∧ some k_ ≠ ((.slice Ao78 t480.length co78) : Value).ownBlock) (.slice Ao10 t424.length co10) t424) ∧ Aside0 (Kd.R (Kd.int .i64) 3 w' w.heap.size (fun k_ => some k_ ≠ (v14 : Value).ownBlock ∧ some k_ ≠ ((.slice Ao18 t439.length co18) : Value).ownBlock ∧ some k_ ≠ ((.slice Ao26 t449.length co26) : Value).ownBlock ∧ some k_ ≠ ((.slice Ao66 t466.length co66) : Value).ownBlock ∧ some k_ ≠ ((.slice Ao78 t480.length co78) : Value).ownBlock) (.slice Ao11 t427.length co11) t427) ∧ Aside0 (Kd.V (Kd.slice 3 (Kd.int .i64)) 23 w' w.heap.size (fun k_ => some k_ ≠ (v14 : Value).ownBlock ∧ some k_ ≠ ((.slice Ao10 t424.length co10) : Value).ownBlock ∧ some k_ ≠ ((.slice Ao11 t427.length co11) : Value).ownBlock ∧ some k_ ≠ ((.slice Ao18 t439.length co18) : Value).ownBlock ∧ some k_ ≠ ((.slice Ao25 t446.length co25) : Value).ownBlock ∧ some k_ ≠ ((.slice Ao26 t449.length co26) : Value).ownBlock ∧ some k_ ≠ ((.slice Ao66 t466.length co66) : Value).ownBlock ∧ some k_ ≠ ((.slice Ao78 t480.length co78) : Value).ownBlock ∧ k_ ≠ gb434 ∧ k_ ≠ gb444 ∧ k_ ≠ gb454 ∧ k_ ≠ gb471 ∧ k_ ≠ gb485) (.slice Ao17 t436.length co17) t436) ∧ Aside0 (Kd.R (Kd.int .i64) 3 w' w.heap.size (fun k_ => some k_ ≠ (v14 : Value).ownBlock ∧ some k_ ≠ ((.slice Ao11 t427.length co11) : Value).ownBlock ∧ some k_ ≠ ((.slice Ao26 t449.length co26) : Value).ownBlock ∧ some k_ ≠ ((.slice Ao66 t466.length co66) : Value).ownBlock ∧ some k_ ≠ ((.slice Ao78 t480.length co78) : Value).ownBlock) (.slice Ao18 t439.length co18) t439) ∧ Aside0 (Kd.S (Kd.slice 3 (Kd.int .i64)) 23 w' w.heap.size (fun k_ => some k_ ≠ (v14 : Value).ownBlock ∧ some k_ ≠ ((.slice Ao10 t424.length co10) : Value).ownBlock ∧ some k_ ≠ ((.slice Ao11 t427.length co11) : Value).ownBlock ∧ some k_ ≠ ((.slice Ao18 t439.length co18) : Value).ownBlock ∧ some k_ ≠ ((.slice Ao26 t449.length co26) : Value).ownBlock ∧ some k_ ≠ ((.slice Ao66 t466.length co66) : Value).ownBlock ∧ some k_ ≠ ((.slice Ao78 t480.length co78) : Value).ownBlock) (.slice Ao25 t446.length co25) t446) ∧ Aside0 (Kd.R (Kd.int .i64) 3 w' w.heap.size (fun k_ => some k_ ≠ (v14 : Value).ownBlock ∧ some k_ ≠ ((.slice Ao11 t427.length co11) : Value).ownBlock ∧ some k_ ≠ ((.slice Ao18 t439.length co18) : Value).ownBlock ∧ some k_ ≠ ((.slice Ao66 t466.length co66) : Value).ownBlock ∧ some k_ ≠ ((.slice Ao78 t480.length co78) : Value).ownBlock) (.slice Ao26 t449.length co26) t449) ∧ Aside0 (Kd.V (Kd.slice 3 (Kd.int .i64)) 23 w' w.heap.size (fun k_ => some k_ ≠ (v14 : Value).ownBlock ∧ some k_ ≠ ((.slice Ao10 t424.length co10) : Value).ownBlock ∧ some k_ ≠ ((.slice Ao11 t427.length co11) : Value).ownBlock ∧ some k_ ≠ ((.slice Ao18 t439.length co18) : Value).ownBlock ∧ some k_ ≠ ((.slice Ao25 t446.length co25) : Value).ownBlock ∧ some k_ ≠ ((.slice Ao26 t449.length co26) : Value).ownBlock ∧ some k_ ≠ ((.slice Ao66 t466.length co66) : Value).ownBlock ∧ some k_ ≠ ((.slice Ao78 t480.length co78) : Value).ownBlock ∧ k_ ≠ gb434 ∧ k_ ≠ gb444 ∧ k_ ≠ gb454 ∧ k_ ≠ gb471 ∧ k_ ≠ gb485) (.slice Ao64 t463.length co64) t463) ∧ Aside0 (Kd.R (Kd.int .i64) 3 w' w.heap.size (fun k_ => some k_ ≠ (v14 : Value).ownBlock ∧ some k_ ≠ ((.slice Ao11 t427.length co11) : Value).ownBlock ∧ some k_ ≠ ((.slice Ao18 t439.length co18) : Value).ownBlock ∧ some k_ ≠ ((.slice Ao26 t449.length co26) : Value).ownBlock ∧ some k_ ≠ ((.slice Ao78 t480.length co78) : Value).ownBlock) (.slice Ao66 t466.length co66) t466) ∧ Aside0 (Kd.V (Kd.slice 3 (Kd.int .i64)) 23 w' w.heap.size (fun k_ => some k_ ≠ (v14 : Value).ownBlock ∧ some k_ ≠ ((.slice Ao10 t424.length co10) : Value).ownBlock ∧ some k_ ≠ ((.slice Ao11 t427.length co11) : Value).ownBlock ∧ some k_ ≠ ((.slice Ao18 t439.length co18) : Value).ownBlock ∧ some k_ ≠ ((.slice Ao25 t446.length co25) : Value).ownBlock ∧ some k_ ≠ ((.slice Ao26 t449.length co26) : Value).ownBlock ∧ some k_ ≠ ((.slice Ao66 t466.length co66) : Value).ownBlock ∧ some k_ ≠ ((.slice Ao78 t480.length co78) : Value).ownBlock ∧ k_ ≠ gb434 ∧ k_ ≠ gb444 ∧ k_ ≠ gb454 ∧ k_ ≠ gb471 ∧ k_ ≠ gb485) (.slice Ao76 t477.length co76) t477) ∧ Aside0 (Kd.R (Kd.int .i64) 3 w' w.heap.size (fun k_ => some k_ ≠ (v14 : Value).ownBlock ∧ some k_ ≠ ((.slice Ao11 t427.length co11) : Value).ownBlock ∧ some k_ ≠ ((.slice Ao18 t439.length co18) : Value).ownBlock ∧ some k_ ≠ ((.slice Ao26 t449.length co26) : Value).ownBlock ∧ some k_ ≠ ((.slice Ao66 t466.length co66) : Value).ownBlock) (.slice Ao78 t480.length co78) t480) ∧ Aside0 (w'.heap[gb434]? = some (.cells #[.int .i64 t423, (.slice Ao10 t424.length co10), (.slice Ao11 t427.length co11), .int .i64 t430] 28 (0, 0))) ∧ Aside0 (w'.heap[gb444]? = some (.cells #[.int .i64 t435, (.slice Ao17 t436.length co17), (.slice Ao18 t439.length co18), .int .i64 t442] 28 (0, 0))) ∧ Aside0 (w'.heap[gb454]? = some (.cells #[.int .i64 t445, (.slice Ao25 t446.length co25), (.slice Ao26 t449.length co26), .int .i64 t452] 28 (0, 0))) ∧ Aside0 (w'.heap[gb471]? = some (.cells #[.int .i64 t462, (.slice Ao64 t463.length co64), (.slice Ao66 t466.length co66), .int .i64 t469] 28 (0, 0))) ∧ Aside0 (w'.heap[gb485]? = some (.cells #[.int .i64 t476, (.slice Ao76 t477.length co76), (.slice Ao78 t480.length co78), .int .i64 t483] 28 (0, 0))) ∧ Aside0 (Below w.heap.size w w'))
        case atStart => exact ⟨(y486), (0), (by first | rfl | (simp; done) | (simp [*]; done)), H', ⟨Nat.le_refl _⟩, ⟨mR HO488⟩, ⟨mS HO_435001⟩, ⟨mR HO_435002⟩, ⟨mV HO_445001⟩, ⟨mR HO_445002⟩, ⟨mS HO_455001⟩, ⟨mR HO_455002⟩, ⟨mV HO465⟩, ⟨mR HO468⟩, ⟨mV HO479⟩, ⟨mR HO482⟩, ⟨bz BK434⟩, ⟨bz BK444⟩, ⟨bz BK454⟩, ⟨bz BK471⟩, ⟨bz BK485⟩, ⟨by exact bh⟩⟩
        case round =>
         clear H'
         try clear c1
         try clear p2
         try clear c3
         try clear c7
         try clear q7
         try clear c32
         try clear c71
         try clear q71
         try clear q071
         try clear q71
         obtain ⟨x14_2, x15_2, rfl, HA, HK2, HO_14, HO_435001, HO_435002, HO_445001, HO_445002, HO_455001, HO_455002, HO_472001, HO_472002, HO_486001, HO_486002, BK434, BK444, BK454, BK471, BK485, HB⟩ := hrel
         cases gk with
         | zero => exact absurd HA.out (by simp [laws_FnAfterDeaths.l0])
         | succ k2 =>
          have H := HA.out
          clear HA
          simp only [laws_FnAfterDeaths.l0] at H
          by_cases c83 : x15_2 < t423
          ·rw [if_pos c83] at H
           have c83b0 : decide (x15_2 < t423) = true := decide_eq_true c83
           clear c83
           by_cases c84 : x14_2.length < 17592186044416
           ·rw [if_pos c84] at H
            have LMc84 := Aside0.mk c84
            clear c84
            obtain ⟨y489, hy489⟩ : ∃ y_ : List Int, y_ = (x14_2 ++ [x15_2]) := ⟨_, rfl⟩
            replace H : (laws_FnAfterDeaths.l0 k2 t443 t470 t484 y489 (wrap64 (x15_2 + 1)) t423 t424 t427 t430 t435 t436 t439 t442 t476 t477 t480 t483) = some r := by first | (rw [hy489]; with_reducible exact H) | (have H2_ := (Option.bind_some _ _).symm.trans H; rw [hy489]; with_reducible exact H2_) | (have H2_ := (Option.bind_some _ _).symm.trans H; with_reducible exact H2_) | with_reducible exact H | (rw [hy489]; exact H) | exact H
            have Ny489 := Aside0.mk hy489
            clear hy489
            have H' := Aside0.mk H
            clear H
            have hnb85 := NB434_444.out
            have hnc85 := NB444_434.out
            have hnb86 := NB434_454.out
            have hnc86 := NB454_434.out
            have hnb87 := NB434_471.out
            have hnc87 := NB471_434.out
            have hnb88 := NB434_485.out
            have hnc88 := NB485_434.out
            have hcz89_0 := cz0 BK434
            have hcz89_1 := cz1 BK434
            have hcz89_2 := cz2 BK434
            have hcz89_3 := cz3 BK434
            have hfz89_0 := blk_frozen BK434.out 0
            have hfz89_1 := blk_frozen BK434.out 1
            have hfz89_2 := blk_frozen BK434.out 2
            have hfz89_3 := blk_frozen BK434.out 3
            go_wp2_with (first | ((with_reducible refine gate_builtin (b := .append) (xs := #[.tmp 85, .tmp 87]) rfl ?_); (try (refine gate_guard (by rfl) ?_; dsimp only)); at_builtin; refine Kd.R_append (Kd.int .i64) (w0 := w) w.heap.size rfl (.tmp 85) (.tmp 87) 23 3 (.int .i64 0) 8 rfl Try.underlying23 info3 rfl (by decide) (by omega) u14 x14_2 x15_2 [.int .i64 x15_2] (fun k_ => some k_ ≠ (.slice Ao11 t427.length co11 : Value).ownBlock ∧ some k_ ≠ (.slice Ao18 t439.length co18 : Value).ownBlock ∧ some k_ ≠ (.slice Ao26 t449.length co26 : Value).ownBlock ∧ some k_ ≠ (.slice Ao66 t466.length co66 : Value).ownBlock ∧ some k_ ≠ (.slice Ao78 t480.length co78 : Value).ownBlock) (fun _ => False) rfl rfl ?aP (fun _ hk => hk.elim) ?aF ?aO ?aB ?aS ?aL ?_; (case aP => exact rfl); (case aB => exact bh); (case aF => exact (fun k_ hk => ⟨Kd.fresh' (Kd.R_lt (rz HO_435002)) k_ hk, Kd.fresh' (Kd.R_lt (rz HO_445002)) k_ hk, Kd.fresh' (Kd.R_lt (rz HO_455002)) k_ hk, Kd.fresh' (Kd.R_lt (rz HO_472002)) k_ hk, Kd.fresh' (Kd.R_lt (rz HO_486002)) k_ hk⟩)); (case aO => exact (rz HO_14)); (case aS => exact (below_size bh)); (case aL => have := LMc84.out; omega); intro v490 w90 ho hb hg hat; rw [← Ny489.out] at ho; have n0_ := Aside0.mk (Kd.S_after (ok := (fun k_ => some k_ ≠ (.slice Ao11 t427.length co11 : Value).ownBlock ∧ some k_ ≠ (.slice Ao18 t439.length co18 : Value).ownBlock ∧ some k_ ≠ (.slice Ao25 t446.length co25 : Value).ownBlock ∧ some k_ ≠ (.slice Ao26 t449.length co26 : Value).ownBlock ∧ some k_ ≠ (.slice Ao66 t466.length co66 : Value).ownBlock ∧ some k_ ≠ (.slice Ao78 t480.length co78 : Value).ownBlock)) (mS HO_435001) hg hat); have n1_ := Aside0.mk (Kd.R_after (ok := (fun k_ => some k_ ≠ (.slice Ao18 t439.length co18 : Value).ownBlock ∧ some k_ ≠ (.slice Ao26 t449.length co26 : Value).ownBlock ∧ some k_ ≠ (.slice Ao66 t466.length co66 : Value).ownBlock ∧ some k_ ≠ (.slice Ao78 t480.length co78 : Value).ownBlock)) (mR HO_435002) hg hat); have n2_ := Aside0.mk (Kd.V_afterv (ok := (fun k_ => some k_ ≠ (.slice Ao10 t424.length co10 : Value).ownBlock ∧ some k_ ≠ (.slice Ao11 t427.length co11 : Value).ownBlock ∧ some k_ ≠ (.slice Ao18 t439.length co18 : Value).ownBlock ∧ some k_ ≠ (.slice Ao25 t446.length co25 : Value).ownBlock ∧ some k_ ≠ (.slice Ao26 t449.length co26 : Value).ownBlock ∧ some k_ ≠ (.slice Ao66 t466.length co66 : Value).ownBlock ∧ some k_ ≠ (.slice Ao78 t480.length co78 : Value).ownBlock ∧ k_ ≠ gb434 ∧ k_ ≠ gb444 ∧ k_ ≠ gb454 ∧ k_ ≠ gb471 ∧ k_ ≠ gb485)) (mV HO_445001) hg hat); have n3_ := Aside0.mk (Kd.R_after (ok := (fun k_ => some k_ ≠ (.slice Ao11 t427.length co11 : Value).ownBlock ∧ some k_ ≠ (.slice Ao26 t449.length co26 : Value).ownBlock ∧ some k_ ≠ (.slice Ao66 t466.length co66 : Value).ownBlock ∧ some k_ ≠ (.slice Ao78 t480.length co78 : Value).ownBlock)) (mR HO_445002) hg hat); have n4_ := Aside0.mk (Kd.S_after (ok := (fun k_ => some k_ ≠ (.slice Ao10 t424.length co10 : Value).ownBlock ∧ some k_ ≠ (.slice Ao11 t427.length co11 : Value).ownBlock ∧ some k_ ≠ (.slice Ao18 t439.length co18 : Value).ownBlock ∧ some k_ ≠ (.slice Ao26 t449.length co26 : Value).ownBlock ∧ some k_ ≠ (.slice Ao66 t466.length co66 : Value).ownBlock ∧ some k_ ≠ (.slice Ao78 t480.length co78 : Value).ownBlock)) (mS HO_455001) hg hat); have n5_ := Aside0.mk (Kd.R_after (ok := (fun k_ => some k_ ≠ (.slice Ao11 t427.length co11 : Value).ownBlock ∧ some k_ ≠ (.slice Ao18 t439.length co18 : Value).ownBlock ∧ some k_ ≠ (.slice Ao66 t466.length co66 : Value).ownBlock ∧ some k_ ≠ (.slice Ao78 t480.length co78 : Value).ownBlock)) (mR HO_455002) hg hat); have n6_ := Aside0.mk (Kd.V_afterv (ok := (fun k_ => some k_ ≠ (.slice Ao10 t424.length co10 : Value).ownBlock ∧ some k_ ≠ (.slice Ao11 t427.length co11 : Value).ownBlock ∧ some k_ ≠ (.slice Ao18 t439.length co18 : Value).ownBlock ∧ some k_ ≠ (.slice Ao25 t446.length co25 : Value).ownBlock ∧ some k_ ≠ (.slice Ao26 t449.length co26 : Value).ownBlock ∧ some k_ ≠ (.slice Ao66 t466.length co66 : Value).ownBlock ∧ some k_ ≠ (.slice Ao78 t480.length co78 : Value).ownBlock ∧ k_ ≠ gb434 ∧ k_ ≠ gb444 ∧ k_ ≠ gb454 ∧ k_ ≠ gb471 ∧ k_ ≠ gb485)) (mV HO_472001) hg hat); have n7_ := Aside0.mk (Kd.R_after (ok := (fun k_ => some k_ ≠ (.slice Ao11 t427.length co11 : Value).ownBlock ∧ some k_ ≠ (.slice Ao18 t439.length co18 : Value).ownBlock ∧ some k_ ≠ (.slice Ao26 t449.length co26 : Value).ownBlock ∧ some k_ ≠ (.slice Ao78 t480.length co78 : Value).ownBlock)) (mR HO_472002) hg hat); have n8_ := Aside0.mk (Kd.V_afterv (ok := (fun k_ => some k_ ≠ (.slice Ao10 t424.length co10 : Value).ownBlock ∧ some k_ ≠ (.slice Ao11 t427.length co11 : Value).ownBlock ∧ some k_ ≠ (.slice Ao18 t439.length co18 : Value).ownBlock ∧ some k_ ≠ (.slice Ao25 t446.length co25 : Value).ownBlock ∧ some k_ ≠ (.slice Ao26 t449.length co26 : Value).ownBlock ∧ some k_ ≠ (.slice Ao66 t466.length co66 : Value).ownBlock ∧ some k_ ≠ (.slice Ao78 t480.length co78 : Value).ownBlock ∧ k_ ≠ gb434 ∧ k_ ≠ gb444 ∧ k_ ≠ gb454 ∧ k_ ≠ gb471 ∧ k_ ≠ gb485)) (mV HO_486001) hg hat); have n9_ := Aside0.mk (Kd.R_after (ok := (fun k_ => some k_ ≠ (.slice Ao11 t427.length co11 : Value).ownBlock ∧ some k_ ≠ (.slice Ao18 t439.length co18 : Value).ownBlock ∧ some k_ ≠ (.slice Ao26 t449.length co26 : Value).ownBlock ∧ some k_ ≠ (.slice Ao66 t466.length co66 : Value).ownBlock)) (mR HO_486002) hg hat); have n10_ := Aside0.mk (blk_grown (bz BK434) hg (Kd.R_ne HO_14.out BK434.out (by decide))); have n11_ := Aside0.mk (blk_grown (bz BK444) hg (Kd.R_ne HO_14.out BK444.out (by decide))); have n12_ := Aside0.mk (blk_grown (bz BK454) hg (Kd.R_ne HO_14.out BK454.out (by decide))); have n13_ := Aside0.mk (blk_grown (bz BK471) hg (Kd.R_ne HO_14.out BK471.out (by decide))); have n14_ := Aside0.mk (blk_grown (bz BK485) hg (Kd.R_ne HO_14.out BK485.out (by decide))); have n15_ := Aside0.mk (hb); have n16_ := Aside0.mk (ho); clear HO_435001 HO_435002 HO_445001 HO_445002 HO_455001 HO_455002 HO_472001 HO_472002 HO_486001 HO_486002 BK434 BK444 BK454 BK471 BK485 HB HO_14; have HO_435001 := n0_; have HO_435002 := n1_; have HO_445001 := n2_; have HO_445002 := n3_; have HO_455001 := n4_; have HO_455002 := n5_; have HO_472001 := n6_; have HO_472002 := n7_; have HO_486001 := n8_; have HO_486002 := n9_; have BK434 := n10_; have BK444 := n11_; have BK454 := n12_; have BK471 := n13_; have BK485 := n14_; have HB := n15_; have HO491 := n16_; clear n0_ n1_ n2_ n3_ n4_ n5_ n6_ n7_ n8_ n9_ n10_ n11_ n12_ n13_ n14_ n15_ n16_ ho hb hg hat))
            go_roundg k2
            case measure => have := HJ5.out; have := HK2.out; omega
            case rel => exact ⟨(y489), (wrap64 (x15_2 + 1)), (by first | rfl | (simp; done) | (simp [*]; done)), H', ⟨by have := HJ5.out; have := HK2.out; omega⟩, ⟨rz HO491⟩, ⟨mS HO_435001⟩, ⟨mR HO_435002⟩, ⟨mV HO_445001⟩, ⟨mR HO_445002⟩, ⟨mS HO_455001⟩, ⟨mR HO_455002⟩, ⟨mV HO_472001⟩, ⟨mR HO_472002⟩, ⟨mV HO_486001⟩, ⟨mR HO_486002⟩, ⟨bz BK434⟩, ⟨bz BK444⟩, ⟨bz BK454⟩, ⟨bz BK471⟩, ⟨bz BK485⟩, ⟨by exact bh⟩⟩
           ·rw [if_neg c84] at H
            exact absurd H (by simp)
          ·rw [if_neg c83] at H
           have c83b0 : decide (x15_2 < t423) = false := decide_eq_false c83
           clear c83
           replace H := Option.bind_eq_some_iff.mp H
           obtain ⟨⟨t492, t493, t496, t499, t500⟩, A910, H⟩ := H
           replace H : ((impl_CourtOk.f k2 t435 t436 t439 t442).bind fun t502 => (if t502 = true then ((laws_sameCourt.f k2 t476 t477 t480 t483 t435 t436 t439 t442).bind fun t503 => (if t503 = true then (if (wrap64 (t470 + t484)) = t443 then ((impl_HeadsOf.f t423 t430).bind fun t504 => (if t500 = t504 then (if t499 = 0 then ((impl_VacantOf.f k2 t492 t493 t496 t499).bind fun t505 => (some ((t505.length : Int) == (t424.length : Int)))) else (none)) else (none))) else (none)) else (none))) else (none))) = some r := H
           have A91 := Aside0.mk A910
           clear A910
           replace H := Option.bind_eq_some_iff.mp H
           obtain ⟨t502, A920, H⟩ := H
           replace H : (if t502 = true then ((laws_sameCourt.f k2 t476 t477 t480 t483 t435 t436 t439 t442).bind fun t503 => (if t503 = true then (if (wrap64 (t470 + t484)) = t443 then ((impl_HeadsOf.f t423 t430).bind fun t504 => (if t500 = t504 then (if t499 = 0 then ((impl_VacantOf.f k2 t492 t493 t496 t499).bind fun t505 => (some ((t505.length : Int) == (t424.length : Int)))) else (none)) else (none))) else (none)) else (none))) else (none)) = some r := H
           have A92 := Aside0.mk A920
           clear A920
           by_cases c93 : t502 = true
           ·subst c93
            have H1 : ((laws_sameCourt.f k2 t476 t477 t480 t483 t435 t436 t439 t442).bind fun t503 => (if t503 = true then (if (wrap64 (t470 + t484)) = t443 then ((impl_HeadsOf.f t423 t430).bind fun t504 => (if t500 = t504 then (if t499 = 0 then ((impl_VacantOf.f k2 t492 t493 t496 t499).bind fun t505 => (some ((t505.length : Int) == (t424.length : Int)))) else (none)) else (none))) else (none)) else (none))) = some r := by rw [if_pos rfl] at H; exact H
            clear H
            have H := H1
            clear H1
            replace H := Option.bind_eq_some_iff.mp H
            obtain ⟨t503, A940, H⟩ := H
            replace H : (if t503 = true then (if (wrap64 (t470 + t484)) = t443 then ((impl_HeadsOf.f t423 t430).bind fun t504 => (if t500 = t504 then (if t499 = 0 then ((impl_VacantOf.f k2 t492 t493 t496 t499).bind fun t505 => (some ((t505.length : Int) == (t424.length : Int)))) else (none)) else (none))) else (none)) else (none)) = some r := H
            have A94 := Aside0.mk A940
            clear A940
            by_cases c95 : t503 = true
            ·subst c95
             have H1 : (if (wrap64 (t470 + t484)) = t443 then ((impl_HeadsOf.f t423 t430).bind fun t504 => (if t500 = t504 then (if t499 = 0 then ((impl_VacantOf.f k2 t492 t493 t496 t499).bind fun t505 => (some ((t505.length : Int) == (t424.length : Int)))) else (none)) else (none))) else (none)) = some r := by rw [if_pos rfl] at H; exact H
             clear H
             have H := H1
             clear H1
             by_cases c96 : (wrap64 (t470 + t484)) = t443
             ·rw [if_pos c96] at H
              have c96b0 : ((wrap64 (t470 + t484)) == t443) = true := beq_iff_eq.mpr c96
              have c96b1 : ((wrap64 (t470 + t484)) != t443) = false := bne_eq_false_iff_eq.mpr c96
              clear c96
              replace H := Option.bind_eq_some_iff.mp H
              obtain ⟨t504, A970, H⟩ := H
              replace H : (if t500 = t504 then (if t499 = 0 then ((impl_VacantOf.f k2 t492 t493 t496 t499).bind fun t505 => (some ((t505.length : Int) == (t424.length : Int)))) else (none)) else (none)) = some r := H
              have A97 := Aside0.mk A970
              clear A970
              by_cases c98 : t500 = t504
              ·rw [if_pos c98] at H
               have c98b0 : (t500 == t504) = true := beq_iff_eq.mpr c98
               have c98b1 : (t500 != t504) = false := bne_eq_false_iff_eq.mpr c98
               clear c98
               by_cases c99 : t499 = 0
               ·rw [if_pos c99] at H
                have c99b0 : (t499 == 0) = true := beq_iff_eq.mpr c99
                have c99b1 : (t499 != 0) = false := bne_eq_false_iff_eq.mpr c99
                clear c99
                replace H := Option.bind_eq_some_iff.mp H
                obtain ⟨t505, A1000, H⟩ := H
                replace H : (some ((t505.length : Int) == (t424.length : Int))) = some r := H
                have A100 := Aside0.mk A1000
                clear A1000
                obtain rfl := Option.some.inj H
                have hnb101 := NB434_444.out
                have hnc101 := NB444_434.out
                have hnb102 := NB434_454.out
                have hnc102 := NB454_434.out
                have hnb103 := NB434_471.out
                have hnc103 := NB471_434.out
                have hnb104 := NB434_485.out
                have hnc104 := NB485_434.out
                have hcz105_0 := cz0 BK434
                have hcz105_1 := cz1 BK434
                have hcz105_2 := cz2 BK434
                have hcz105_3 := cz3 BK434
                have hfz105_0 := blk_frozen BK434.out 0
                have hfz105_1 := blk_frozen BK434.out 1
                have hfz105_2 := blk_frozen BK434.out 2
                have hfz105_3 := blk_frozen BK434.out 3
                obtain ⟨Ao106, co106, eo106⟩ := Kd.R_slice HO_14.out
                subst eo106
                try go_wp2_with (first | ((with_reducible refine gate_callee (f := 32) rfl ?_); refine goesL_ (some 92) rfl rfl Try.func32 kr rfl #[.agg #[.int .i64 t423, .slice Ao10 t424.length co10, .slice Ao11 t427.length co11, .int .i64 t430], .slice Ao106 x14_2.length co106] rfl lm ?_; (with_reducible refine (impl_AfterDeaths.calls k2 t423 _ _ t424 _ _ t427 t430 _ _ x14_2 t492 t493 t496 t499 t500 _ ?side1 ?side2 ?side3 ?side4 ?side5 ?side6 A91.out).mono ?_); (case side1 => repeat (first | exact (Kd.S_reads' HO_435001.out).2.2 | (with_reducible refine Kd.C_alloc ?_ _) | (with_reducible refine Kd.C_drewN ?_ _) | (with_reducible refine Kd.C_drew ?_))); (case side2 => exact (Kd.S_reads' HO_435001.out).2.1); (case side3 => repeat (first | exact (Kd.R_reads' HO_435002.out).2.2 | (with_reducible refine Kd.C_alloc ?_ _) | (with_reducible refine Kd.C_drewN ?_ _) | (with_reducible refine Kd.C_drew ?_))); (case side4 => exact (Kd.R_reads' HO_435002.out).2.1); (case side5 => repeat (first | exact (Kd.R_reads' HO_14.out).2.2 | (with_reducible refine Kd.C_alloc ?_ _) | (with_reducible refine Kd.C_drewN ?_ _) | (with_reducible refine Kd.C_drew ?_))); (case side6 => exact (Kd.R_reads' HO_14.out).2.1); rintro e w107 ⟨v494, v497, rfl, ho0, ho1, hb⟩; refine ⟨_, rfl, ?_⟩; have n0_ := Aside0.mk (Kd.R_elder' (rz HO_14) (Kd.R_base ho1) hb); have n1_ := Aside0.mk (Kd.S_elder' (sz HO_435001) (Kd.R_base ho1) hb); have n2_ := Aside0.mk (Kd.R_elder' (rz HO_435002) (Kd.R_base ho1) hb); have n3_ := Aside0.mk (Kd.V_elder' (vz HO_445001) (Kd.R_base ho1) hb); have n4_ := Aside0.mk (Kd.R_elder' (rz HO_445002) (Kd.R_base ho1) hb); have n5_ := Aside0.mk (Kd.S_elder' (sz HO_455001) (Kd.R_base ho1) hb); have n6_ := Aside0.mk (Kd.R_elder' (rz HO_455002) (Kd.R_base ho1) hb); have n7_ := Aside0.mk (Kd.V_elder' (vz HO_472001) (Kd.R_base ho1) hb); have n8_ := Aside0.mk (Kd.R_elder' (rz HO_472002) (Kd.R_base ho1) hb); have n9_ := Aside0.mk (Kd.V_elder' (vz HO_486001) (Kd.R_base ho1) hb); have n10_ := Aside0.mk (Kd.R_elder' (rz HO_486002) (Kd.R_base ho1) hb); have n11_ := Aside0.mk (Kd.V_lower (Kd.V_mono (ok' := fun k_ => some k_ ≠ (v497 : Value).ownBlock ∧ some k_ ≠ (.slice Ao106 x14_2.length co106 : Value).ownBlock ∧ some k_ ≠ (.slice Ao10 t424.length co10 : Value).ownBlock ∧ some k_ ≠ (.slice Ao11 t427.length co11 : Value).ownBlock ∧ some k_ ≠ (.slice Ao18 t439.length co18 : Value).ownBlock ∧ some k_ ≠ (.slice Ao25 t446.length co25 : Value).ownBlock ∧ some k_ ≠ (.slice Ao26 t449.length co26 : Value).ownBlock ∧ some k_ ≠ (.slice Ao66 t466.length co66 : Value).ownBlock ∧ some k_ ≠ (.slice Ao78 t480.length co78 : Value).ownBlock ∧ k_ ≠ gb434 ∧ k_ ≠ gb444 ∧ k_ ≠ gb454 ∧ k_ ≠ gb471 ∧ k_ ≠ gb485) ho0 (fun k_ hk_ => ⟨hk_.2, (Kd.fresh' (Kd.R_lt (rz HO_14)) k_ hk_.1), (Kd.fresh' (Kd.S_lt (sz HO_435001)) k_ hk_.1), (Kd.fresh' (Kd.R_lt (rz HO_435002)) k_ hk_.1), (Kd.fresh' (Kd.R_lt (rz HO_445002)) k_ hk_.1), (Kd.fresh' (Kd.S_lt (sz HO_455001)) k_ hk_.1), (Kd.fresh' (Kd.R_lt (rz HO_455002)) k_ hk_.1), (Kd.fresh' (Kd.R_lt (rz HO_472002)) k_ hk_.1), (Kd.fresh' (Kd.R_lt (rz HO_486002)) k_ hk_.1), (Kd.freshB (bz BK434) k_ hk_.1), (Kd.freshB (bz BK444) k_ hk_.1), (Kd.freshB (bz BK454) k_ hk_.1), (Kd.freshB (bz BK471) k_ hk_.1), (Kd.freshB (bz BK485) k_ hk_.1)⟩)) (below_size bh)); have n12_ := Aside0.mk (Kd.R_lower (Kd.R_new' (Kd.R_new' (Kd.R_new' (Kd.R_new' (Kd.R_new' (Kd.R_new' (Kd.R_mono (ok' := fun k_ => True) ho1 (fun _ hk_ => trivial)) (Kd.R_lt (rz HO_14))) (Kd.R_lt (rz HO_435002))) (Kd.R_lt (rz HO_445002))) (Kd.R_lt (rz HO_455002))) (Kd.R_lt (rz HO_472002))) (Kd.R_lt (rz HO_486002))) (below_size bh)); have n13_ := Aside0.mk (blk_below (bz BK434) hb); have n14_ := Aside0.mk (blk_below (bz BK444) hb); have n15_ := Aside0.mk (blk_below (bz BK454) hb); have n16_ := Aside0.mk (blk_below (bz BK471) hb); have n17_ := Aside0.mk (blk_below (bz BK485) hb); have n18_ := Aside0.mk (below_step bh hb); clear HO_14 HO_435001 HO_435002 HO_445001 HO_445002 HO_455001 HO_455002 HO_472001 HO_472002 HO_486001 HO_486002 BK434 BK444 BK454 BK471 BK485 HB; have HO_14 := n0_; have HO_435001 := n1_; have HO_435002 := n2_; have HO_445001 := n3_; have HO_445002 := n4_; have HO_455001 := n5_; have HO_455002 := n6_; have HO_472001 := n7_; have HO_472002 := n8_; have HO_486001 := n9_; have HO_486002 := n10_; have HO495 := n11_; have HO498 := n12_; have BK434 := n13_; have BK444 := n14_; have BK454 := n15_; have BK471 := n16_; have BK485 := n17_; have HB := n18_; clear n0_ n1_ n2_ n3_ n4_ n5_ n6_ n7_ n8_ n9_ n10_ n11_ n12_ n13_ n14_ n15_ n16_ n17_ n18_; (try clear hb); (try clear hb2); (try clear hk); (try clear hi); (try clear ho0); (try clear ho1)) | ((with_reducible refine gate_dst (N := 16) rfl ?_); (try (refine gate_guard (by rfl) ?_; dsimp only)); refine box_event ?hg (N := 16) ?hd (cs := #[.int .i64 0, .slice none 0 0, .slice none 0 0, .int .i64 0]) (t := 28) ?hr ?_; (case hd => rfl); (case hg => rfl); (case hr => first | (go_simp; done) | (go_simp; rfl)); intro gb501 hg w108 hbox hb; have n0_ := Aside0.mk (Kd.R_below (rz HO_14) hb); have n1_ := Aside0.mk (Kd.S_below (sz HO_435001) hb); have n2_ := Aside0.mk (Kd.R_below (rz HO_435002) hb); have n3_ := Aside0.mk (Kd.V_below (Kd.V_elderB (vz HO_445001) gb501 (Nat.le_of_eq hg.symm)) hb); have n4_ := Aside0.mk (Kd.R_below (rz HO_445002) hb); have n5_ := Aside0.mk (Kd.S_below (sz HO_455001) hb); have n6_ := Aside0.mk (Kd.R_below (rz HO_455002) hb); have n7_ := Aside0.mk (Kd.V_below (Kd.V_elderB (vz HO_472001) gb501 (Nat.le_of_eq hg.symm)) hb); have n8_ := Aside0.mk (Kd.R_below (rz HO_472002) hb); have n9_ := Aside0.mk (Kd.V_below (Kd.V_elderB (vz HO_486001) gb501 (Nat.le_of_eq hg.symm)) hb); have n10_ := Aside0.mk (Kd.R_below (rz HO_486002) hb); have n11_ := Aside0.mk (Kd.V_below (Kd.V_elderB (vz HO495) gb501 (Nat.le_of_eq hg.symm)) hb); have n12_ := Aside0.mk (Kd.R_below (rz HO498) hb); have n13_ := Aside0.mk (blk_below (bz BK434) hb); have n14_ := Aside0.mk (blk_below (bz BK444) hb); have n15_ := Aside0.mk (blk_below (bz BK454) hb); have n16_ := Aside0.mk (blk_below (bz BK471) hb); have n17_ := Aside0.mk (blk_below (bz BK485) hb); have n18_ := Aside0.mk (below_step bh hb); have n19_ := Aside0.mk (hbox); have n20_ := Aside0.mk ((gs (W0 := w) hg bh)); have n21_ := Aside0.mk ((gs (W0 := w) hg bh)); have n22_ := Aside0.mk ((gn hg (bz BK434))); have n23_ := Aside0.mk ((gm hg (bz BK434))); have n24_ := Aside0.mk ((gn hg (bz BK444))); have n25_ := Aside0.mk ((gm hg (bz BK444))); have n26_ := Aside0.mk ((gn hg (bz BK454))); have n27_ := Aside0.mk ((gm hg (bz BK454))); have n28_ := Aside0.mk ((gn hg (bz BK471))); have n29_ := Aside0.mk ((gm hg (bz BK471))); have n30_ := Aside0.mk ((gn hg (bz BK485))); have n31_ := Aside0.mk ((gm hg (bz BK485))); clear HO_14 HO_435001 HO_435002 HO_445001 HO_445002 HO_455001 HO_455002 HO_472001 HO_472002 HO_486001 HO_486002 HO495 HO498 BK434 BK444 BK454 BK471 BK485 HB; have HO_14 := n0_; have HO_435001 := n1_; have HO_435002 := n2_; have HO_445001 := n3_; have HO_445002 := n4_; have HO_455001 := n5_; have HO_455002 := n6_; have HO_472001 := n7_; have HO_472002 := n8_; have HO_486001 := n9_; have HO_486002 := n10_; have HO495 := n11_; have HO498 := n12_; have BK434 := n13_; have BK444 := n14_; have BK454 := n15_; have BK471 := n16_; have BK485 := n17_; have HB := n18_; have BK501 := n19_; have GW501 := n20_; have GE501 := n21_; have NB434_501 := n22_; have NB501_434 := n23_; have NB444_501 := n24_; have NB501_444 := n25_; have NB454_501 := n26_; have NB501_454 := n27_; have NB471_501 := n28_; have NB501_471 := n29_; have NB485_501 := n30_; have NB501_485 := n31_; clear n0_ n1_ n2_ n3_ n4_ n5_ n6_ n7_ n8_ n9_ n10_ n11_ n12_ n13_ n14_ n15_ n16_ n17_ n18_ n19_ n20_ n21_ n22_ n23_ n24_ n25_ n26_ n27_ n28_ n29_ n30_ n31_ hb hbox hg; have hnb109 := NB501_434.out; have hnc109 := NB434_501.out; have hnb110 := NB501_444.out; have hnc110 := NB444_501.out; have hnb111 := NB501_454.out; have hnc111 := NB454_501.out; have hnb112 := NB501_471.out; have hnc112 := NB471_501.out; have hnb113 := NB501_485.out; have hnc113 := NB485_501.out; have hcz114_0 := cz0 BK501; have hcz114_1 := cz1 BK501; have hcz114_2 := cz2 BK501; have hcz114_3 := cz3 BK501; have hfz114_0 := blk_frozen BK501.out 0; have hfz114_1 := blk_frozen BK501.out 1; have hfz114_2 := blk_frozen BK501.out 2; have hfz114_3 := blk_frozen BK501.out 3; obtain ⟨Ao115, co115, eo115⟩ := Kd.V_slice HO495.out; subst eo115; obtain ⟨Ao116, co116, eo116⟩ := Kd.R_slice HO498.out; subst eo116))
                generalize hW_ : ((((w108.setCell ⟨gb501, 0, none⟩ (.int .i64 t492)).setCell ⟨gb501, 1, none⟩ (.slice Ao115 t493.length co115)).setCell ⟨gb501, 2, none⟩ (.slice Ao116 t496.length co116)).setCell ⟨gb501, 3, none⟩ (.int .i64 t499)) = w117
                have n0_ : Aside0 (Kd.R (Kd.int .i64) 3 w117 w.heap.size (fun k_ => some k_ ≠ (.slice Ao11 t427.length co11 : Value).ownBlock ∧ some k_ ≠ (.slice Ao18 t439.length co18 : Value).ownBlock ∧ some k_ ≠ (.slice Ao26 t449.length co26 : Value).ownBlock ∧ some k_ ≠ (.slice Ao66 t466.length co66 : Value).ownBlock ∧ some k_ ≠ (.slice Ao78 t480.length co78 : Value).ownBlock ∧ some k_ ≠ (.slice Ao116 t496.length co116 : Value).ownBlock) (.slice Ao106 x14_2.length co106) x14_2) := ⟨by subst hW_; (with_reducible repeat (first | apply Kd.R_alloc | apply Kd.R_drewN | apply Kd.R_drew)); exact Kd.R_mono (Kd.R_far (p := ⟨gb501, 3, none⟩) (Kd.R_far (p := ⟨gb501, 2, none⟩) (Kd.R_far (p := ⟨gb501, 1, none⟩) (Kd.R_far (p := ⟨gb501, 0, none⟩) (Kd.R_types HO_14.out BK501.out (by decide)) (fun _ hk => hk.2) (.int .i64 t492)) (fun _ hk => hk.2) (.slice Ao115 t493.length co115)) (fun _ hk => hk.2) (.slice Ao116 t496.length co116)) (fun _ hk => hk.2) (.int .i64 t499)) (fun _ hk => ⟨hk.1.1.1, ⟨hk.1.1.2.1, ⟨hk.1.1.2.2.1, ⟨hk.1.1.2.2.2.1, ⟨hk.1.1.2.2.2.2, hk.1.2⟩⟩⟩⟩⟩)⟩
                have n1_ : Aside0 (Kd.S (Kd.slice 3 (Kd.int .i64)) 23 w117 w.heap.size (fun k_ => some k_ ≠ (.slice Ao106 x14_2.length co106 : Value).ownBlock ∧ some k_ ≠ (.slice Ao11 t427.length co11 : Value).ownBlock ∧ some k_ ≠ (.slice Ao18 t439.length co18 : Value).ownBlock ∧ some k_ ≠ (.slice Ao25 t446.length co25 : Value).ownBlock ∧ some k_ ≠ (.slice Ao26 t449.length co26 : Value).ownBlock ∧ some k_ ≠ (.slice Ao66 t466.length co66 : Value).ownBlock ∧ some k_ ≠ (.slice Ao78 t480.length co78 : Value).ownBlock ∧ some k_ ≠ (.slice Ao116 t496.length co116 : Value).ownBlock) (.slice Ao10 t424.length co10) t424) := ⟨by subst hW_; (with_reducible repeat (first | apply Kd.S_alloc | apply Kd.S_drewN | apply Kd.S_drew)); exact Kd.S_mono (Kd.S_far (p := ⟨gb501, 3, none⟩) (Kd.S_far (p := ⟨gb501, 2, none⟩) (Kd.S_far (p := ⟨gb501, 1, none⟩) (Kd.S_far (p := ⟨gb501, 0, none⟩) (Kd.S_types HO_435001.out BK501.out (by decide)) (fun _ hk => hk.2) (.int .i64 t492)) (fun _ hk => hk.2) (.slice Ao115 t493.length co115)) (fun _ hk => hk.2) (.slice Ao116 t496.length co116)) (fun _ hk => hk.2) (.int .i64 t499)) (fun _ hk => ⟨hk.1.1.1, ⟨hk.1.1.2.1, ⟨hk.1.1.2.2.1, ⟨hk.1.1.2.2.2.1, ⟨hk.1.1.2.2.2.2.1, ⟨hk.1.1.2.2.2.2.2.1, ⟨hk.1.1.2.2.2.2.2.2, hk.1.2⟩⟩⟩⟩⟩⟩⟩)⟩
                have n2_ : Aside0 (Kd.R (Kd.int .i64) 3 w117 w.heap.size (fun k_ => some k_ ≠ (.slice Ao106 x14_2.length co106 : Value).ownBlock ∧ some k_ ≠ (.slice Ao18 t439.length co18 : Value).ownBlock ∧ some k_ ≠ (.slice Ao26 t449.length co26 : Value).ownBlock ∧ some k_ ≠ (.slice Ao66 t466.length co66 : Value).ownBlock ∧ some k_ ≠ (.slice Ao78 t480.length co78 : Value).ownBlock ∧ some k_ ≠ (.slice Ao116 t496.length co116 : Value).ownBlock) (.slice Ao11 t427.length co11) t427) := ⟨by subst hW_; (with_reducible repeat (first | apply Kd.R_alloc | apply Kd.R_drewN | apply Kd.R_drew)); exact Kd.R_mono (Kd.R_far (p := ⟨gb501, 3, none⟩) (Kd.R_far (p := ⟨gb501, 2, none⟩) (Kd.R_far (p := ⟨gb501, 1, none⟩) (Kd.R_far (p := ⟨gb501, 0, none⟩) (Kd.R_types HO_435002.out BK501.out (by decide)) (fun _ hk => hk.2) (.int .i64 t492)) (fun _ hk => hk.2) (.slice Ao115 t493.length co115)) (fun _ hk => hk.2) (.slice Ao116 t496.length co116)) (fun _ hk => hk.2) (.int .i64 t499)) (fun _ hk => ⟨hk.1.1.1, ⟨hk.1.1.2.1, ⟨hk.1.1.2.2.1, ⟨hk.1.1.2.2.2.1, ⟨hk.1.1.2.2.2.2, hk.1.2⟩⟩⟩⟩⟩)⟩
                have n3_ : Aside0 (Kd.V (Kd.slice 3 (Kd.int .i64)) 23 w117 w.heap.size (fun k_ => some k_ ≠ (.slice Ao106 x14_2.length co106 : Value).ownBlock ∧ some k_ ≠ (.slice Ao10 t424.length co10 : Value).ownBlock ∧ some k_ ≠ (.slice Ao11 t427.length co11 : Value).ownBlock ∧ some k_ ≠ (.slice Ao18 t439.length co18 : Value).ownBlock ∧ some k_ ≠ (.slice Ao25 t446.length co25 : Value).ownBlock ∧ some k_ ≠ (.slice Ao26 t449.length co26 : Value).ownBlock ∧ some k_ ≠ (.slice Ao66 t466.length co66 : Value).ownBlock ∧ some k_ ≠ (.slice Ao78 t480.length co78 : Value).ownBlock ∧ some k_ ≠ (.slice Ao116 t496.length co116 : Value).ownBlock ∧ k_ ≠ gb434 ∧ k_ ≠ gb444 ∧ k_ ≠ gb454 ∧ k_ ≠ gb471 ∧ k_ ≠ gb485 ∧ k_ ≠ gb501) (.slice Ao17 t436.length co17) t436) := ⟨by subst hW_; (with_reducible repeat (first | apply Kd.V_alloc | apply Kd.V_drewN | apply Kd.V_drew)); exact Kd.V_mono (Kd.V_far (p := ⟨gb501, 3, none⟩) (Kd.V_far (p := ⟨gb501, 2, none⟩) (Kd.V_far (p := ⟨gb501, 1, none⟩) (Kd.V_far (p := ⟨gb501, 0, none⟩) (Kd.V_mono HO_445001.out (fun k_ hk => (⟨hk, hk.2⟩ : _ ∧ k_ ≠ gb501))) (fun _ hk => hk.2) (.int .i64 t492)) (fun _ hk => hk.2) (.slice Ao115 t493.length co115)) (fun _ hk => hk.2) (.slice Ao116 t496.length co116)) (fun _ hk => hk.2) (.int .i64 t499)) (fun _ hk => ⟨hk.1.1.1.1, ⟨hk.1.1.1.2.1, ⟨hk.1.1.1.2.2.1, ⟨hk.1.1.1.2.2.2.1, ⟨hk.1.1.1.2.2.2.2.1, ⟨hk.1.1.1.2.2.2.2.2.1, ⟨hk.1.1.1.2.2.2.2.2.2.1, ⟨hk.1.1.1.2.2.2.2.2.2.2.1, ⟨hk.1.1.2, ⟨hk.1.1.1.2.2.2.2.2.2.2.2.1, ⟨hk.1.1.1.2.2.2.2.2.2.2.2.2.1, ⟨hk.1.1.1.2.2.2.2.2.2.2.2.2.2.1, ⟨hk.1.1.1.2.2.2.2.2.2.2.2.2.2.2.1, ⟨hk.1.1.1.2.2.2.2.2.2.2.2.2.2.2.2, hk.1.2⟩⟩⟩⟩⟩⟩⟩⟩⟩⟩⟩⟩⟩⟩)⟩
                have n4_ : Aside0 (Kd.R (Kd.int .i64) 3 w117 w.heap.size (fun k_ => some k_ ≠ (.slice Ao106 x14_2.length co106 : Value).ownBlock ∧ some k_ ≠ (.slice Ao11 t427.length co11 : Value).ownBlock ∧ some k_ ≠ (.slice Ao26 t449.length co26 : Value).ownBlock ∧ some k_ ≠ (.slice Ao66 t466.length co66 : Value).ownBlock ∧ some k_ ≠ (.slice Ao78 t480.length co78 : Value).ownBlock ∧ some k_ ≠ (.slice Ao116 t496.length co116 : Value).ownBlock) (.slice Ao18 t439.length co18) t439) := ⟨by subst hW_; (with_reducible repeat (first | apply Kd.R_alloc | apply Kd.R_drewN | apply Kd.R_drew)); exact Kd.R_mono (Kd.R_far (p := ⟨gb501, 3, none⟩) (Kd.R_far (p := ⟨gb501, 2, none⟩) (Kd.R_far (p := ⟨gb501, 1, none⟩) (Kd.R_far (p := ⟨gb501, 0, none⟩) (Kd.R_types HO_445002.out BK501.out (by decide)) (fun _ hk => hk.2) (.int .i64 t492)) (fun _ hk => hk.2) (.slice Ao115 t493.length co115)) (fun _ hk => hk.2) (.slice Ao116 t496.length co116)) (fun _ hk => hk.2) (.int .i64 t499)) (fun _ hk => ⟨hk.1.1.1, ⟨hk.1.1.2.1, ⟨hk.1.1.2.2.1, ⟨hk.1.1.2.2.2.1, ⟨hk.1.1.2.2.2.2, hk.1.2⟩⟩⟩⟩⟩)⟩
                have n5_ : Aside0 (Kd.S (Kd.slice 3 (Kd.int .i64)) 23 w117 w.heap.size (fun k_ => some k_ ≠ (.slice Ao106 x14_2.length co106 : Value).ownBlock ∧ some k_ ≠ (.slice Ao10 t424.length co10 : Value).ownBlock ∧ some k_ ≠ (.slice Ao11 t427.length co11 : Value).ownBlock ∧ some k_ ≠ (.slice Ao18 t439.length co18 : Value).ownBlock ∧ some k_ ≠ (.slice Ao26 t449.length co26 : Value).ownBlock ∧ some k_ ≠ (.slice Ao66 t466.length co66 : Value).ownBlock ∧ some k_ ≠ (.slice Ao78 t480.length co78 : Value).ownBlock ∧ some k_ ≠ (.slice Ao116 t496.length co116 : Value).ownBlock) (.slice Ao25 t446.length co25) t446) := ⟨by subst hW_; (with_reducible repeat (first | apply Kd.S_alloc | apply Kd.S_drewN | apply Kd.S_drew)); exact Kd.S_mono (Kd.S_far (p := ⟨gb501, 3, none⟩) (Kd.S_far (p := ⟨gb501, 2, none⟩) (Kd.S_far (p := ⟨gb501, 1, none⟩) (Kd.S_far (p := ⟨gb501, 0, none⟩) (Kd.S_types HO_455001.out BK501.out (by decide)) (fun _ hk => hk.2) (.int .i64 t492)) (fun _ hk => hk.2) (.slice Ao115 t493.length co115)) (fun _ hk => hk.2) (.slice Ao116 t496.length co116)) (fun _ hk => hk.2) (.int .i64 t499)) (fun _ hk => ⟨hk.1.1.1, ⟨hk.1.1.2.1, ⟨hk.1.1.2.2.1, ⟨hk.1.1.2.2.2.1, ⟨hk.1.1.2.2.2.2.1, ⟨hk.1.1.2.2.2.2.2.1, ⟨hk.1.1.2.2.2.2.2.2, hk.1.2⟩⟩⟩⟩⟩⟩⟩)⟩
                have n6_ : Aside0 (Kd.R (Kd.int .i64) 3 w117 w.heap.size (fun k_ => some k_ ≠ (.slice Ao106 x14_2.length co106 : Value).ownBlock ∧ some k_ ≠ (.slice Ao11 t427.length co11 : Value).ownBlock ∧ some k_ ≠ (.slice Ao18 t439.length co18 : Value).ownBlock ∧ some k_ ≠ (.slice Ao66 t466.length co66 : Value).ownBlock ∧ some k_ ≠ (.slice Ao78 t480.length co78 : Value).ownBlock ∧ some k_ ≠ (.slice Ao116 t496.length co116 : Value).ownBlock) (.slice Ao26 t449.length co26) t449) := ⟨by subst hW_; (with_reducible repeat (first | apply Kd.R_alloc | apply Kd.R_drewN | apply Kd.R_drew)); exact Kd.R_mono (Kd.R_far (p := ⟨gb501, 3, none⟩) (Kd.R_far (p := ⟨gb501, 2, none⟩) (Kd.R_far (p := ⟨gb501, 1, none⟩) (Kd.R_far (p := ⟨gb501, 0, none⟩) (Kd.R_types HO_455002.out BK501.out (by decide)) (fun _ hk => hk.2) (.int .i64 t492)) (fun _ hk => hk.2) (.slice Ao115 t493.length co115)) (fun _ hk => hk.2) (.slice Ao116 t496.length co116)) (fun _ hk => hk.2) (.int .i64 t499)) (fun _ hk => ⟨hk.1.1.1, ⟨hk.1.1.2.1, ⟨hk.1.1.2.2.1, ⟨hk.1.1.2.2.2.1, ⟨hk.1.1.2.2.2.2, hk.1.2⟩⟩⟩⟩⟩)⟩
                have n7_ : Aside0 (Kd.V (Kd.slice 3 (Kd.int .i64)) 23 w117 w.heap.size (fun k_ => some k_ ≠ (.slice Ao106 x14_2.length co106 : Value).ownBlock ∧ some k_ ≠ (.slice Ao10 t424.length co10 : Value).ownBlock ∧ some k_ ≠ (.slice Ao11 t427.length co11 : Value).ownBlock ∧ some k_ ≠ (.slice Ao18 t439.length co18 : Value).ownBlock ∧ some k_ ≠ (.slice Ao25 t446.length co25 : Value).ownBlock ∧ some k_ ≠ (.slice Ao26 t449.length co26 : Value).ownBlock ∧ some k_ ≠ (.slice Ao66 t466.length co66 : Value).ownBlock ∧ some k_ ≠ (.slice Ao78 t480.length co78 : Value).ownBlock ∧ some k_ ≠ (.slice Ao116 t496.length co116 : Value).ownBlock ∧ k_ ≠ gb434 ∧ k_ ≠ gb444 ∧ k_ ≠ gb454 ∧ k_ ≠ gb471 ∧ k_ ≠ gb485 ∧ k_ ≠ gb501) (.slice Ao64 t463.length co64) t463) := ⟨by subst hW_; (with_reducible repeat (first | apply Kd.V_alloc | apply Kd.V_drewN | apply Kd.V_drew)); exact Kd.V_mono (Kd.V_far (p := ⟨gb501, 3, none⟩) (Kd.V_far (p := ⟨gb501, 2, none⟩) (Kd.V_far (p := ⟨gb501, 1, none⟩) (Kd.V_far (p := ⟨gb501, 0, none⟩) (Kd.V_mono HO_472001.out (fun k_ hk => (⟨hk, hk.2⟩ : _ ∧ k_ ≠ gb501))) (fun _ hk => hk.2) (.int .i64 t492)) (fun _ hk => hk.2) (.slice Ao115 t493.length co115)) (fun _ hk => hk.2) (.slice Ao116 t496.length co116)) (fun _ hk => hk.2) (.int .i64 t499)) (fun _ hk => ⟨hk.1.1.1.1, ⟨hk.1.1.1.2.1, ⟨hk.1.1.1.2.2.1, ⟨hk.1.1.1.2.2.2.1, ⟨hk.1.1.1.2.2.2.2.1, ⟨hk.1.1.1.2.2.2.2.2.1, ⟨hk.1.1.1.2.2.2.2.2.2.1, ⟨hk.1.1.1.2.2.2.2.2.2.2.1, ⟨hk.1.1.2, ⟨hk.1.1.1.2.2.2.2.2.2.2.2.1, ⟨hk.1.1.1.2.2.2.2.2.2.2.2.2.1, ⟨hk.1.1.1.2.2.2.2.2.2.2.2.2.2.1, ⟨hk.1.1.1.2.2.2.2.2.2.2.2.2.2.2.1, ⟨hk.1.1.1.2.2.2.2.2.2.2.2.2.2.2.2, hk.1.2⟩⟩⟩⟩⟩⟩⟩⟩⟩⟩⟩⟩⟩⟩)⟩
                have n8_ : Aside0 (Kd.R (Kd.int .i64) 3 w117 w.heap.size (fun k_ => some k_ ≠ (.slice Ao106 x14_2.length co106 : Value).ownBlock ∧ some k_ ≠ (.slice Ao11 t427.length co11 : Value).ownBlock ∧ some k_ ≠ (.slice Ao18 t439.length co18 : Value).ownBlock ∧ some k_ ≠ (.slice Ao26 t449.length co26 : Value).ownBlock ∧ some k_ ≠ (.slice Ao78 t480.length co78 : Value).ownBlock ∧ some k_ ≠ (.slice Ao116 t496.length co116 : Value).ownBlock) (.slice Ao66 t466.length co66) t466) := ⟨by subst hW_; (with_reducible repeat (first | apply Kd.R_alloc | apply Kd.R_drewN | apply Kd.R_drew)); exact Kd.R_mono (Kd.R_far (p := ⟨gb501, 3, none⟩) (Kd.R_far (p := ⟨gb501, 2, none⟩) (Kd.R_far (p := ⟨gb501, 1, none⟩) (Kd.R_far (p := ⟨gb501, 0, none⟩) (Kd.R_types HO_472002.out BK501.out (by decide)) (fun _ hk => hk.2) (.int .i64 t492)) (fun _ hk => hk.2) (.slice Ao115 t493.length co115)) (fun _ hk => hk.2) (.slice Ao116 t496.length co116)) (fun _ hk => hk.2) (.int .i64 t499)) (fun _ hk => ⟨hk.1.1.1, ⟨hk.1.1.2.1, ⟨hk.1.1.2.2.1, ⟨hk.1.1.2.2.2.1, ⟨hk.1.1.2.2.2.2, hk.1.2⟩⟩⟩⟩⟩)⟩
                have n9_ : Aside0 (Kd.V (Kd.slice 3 (Kd.int .i64)) 23 w117 w.heap.size (fun k_ => some k_ ≠ (.slice Ao106 x14_2.length co106 : Value).ownBlock ∧ some k_ ≠ (.slice Ao10 t424.length co10 : Value).ownBlock ∧ some k_ ≠ (.slice Ao11 t427.length co11 : Value).ownBlock ∧ some k_ ≠ (.slice Ao18 t439.length co18 : Value).ownBlock ∧ some k_ ≠ (.slice Ao25 t446.length co25 : Value).ownBlock ∧ some k_ ≠ (.slice Ao26 t449.length co26 : Value).ownBlock ∧ some k_ ≠ (.slice Ao66 t466.length co66 : Value).ownBlock ∧ some k_ ≠ (.slice Ao78 t480.length co78 : Value).ownBlock ∧ some k_ ≠ (.slice Ao116 t496.length co116 : Value).ownBlock ∧ k_ ≠ gb434 ∧ k_ ≠ gb444 ∧ k_ ≠ gb454 ∧ k_ ≠ gb471 ∧ k_ ≠ gb485 ∧ k_ ≠ gb501) (.slice Ao76 t477.length co76) t477) := ⟨by subst hW_; (with_reducible repeat (first | apply Kd.V_alloc | apply Kd.V_drewN | apply Kd.V_drew)); exact Kd.V_mono (Kd.V_far (p := ⟨gb501, 3, none⟩) (Kd.V_far (p := ⟨gb501, 2, none⟩) (Kd.V_far (p := ⟨gb501, 1, none⟩) (Kd.V_far (p := ⟨gb501, 0, none⟩) (Kd.V_mono HO_486001.out (fun k_ hk => (⟨hk, hk.2⟩ : _ ∧ k_ ≠ gb501))) (fun _ hk => hk.2) (.int .i64 t492)) (fun _ hk => hk.2) (.slice Ao115 t493.length co115)) (fun _ hk => hk.2) (.slice Ao116 t496.length co116)) (fun _ hk => hk.2) (.int .i64 t499)) (fun _ hk => ⟨hk.1.1.1.1, ⟨hk.1.1.1.2.1, ⟨hk.1.1.1.2.2.1, ⟨hk.1.1.1.2.2.2.1, ⟨hk.1.1.1.2.2.2.2.1, ⟨hk.1.1.1.2.2.2.2.2.1, ⟨hk.1.1.1.2.2.2.2.2.2.1, ⟨hk.1.1.1.2.2.2.2.2.2.2.1, ⟨hk.1.1.2, ⟨hk.1.1.1.2.2.2.2.2.2.2.2.1, ⟨hk.1.1.1.2.2.2.2.2.2.2.2.2.1, ⟨hk.1.1.1.2.2.2.2.2.2.2.2.2.2.1, ⟨hk.1.1.1.2.2.2.2.2.2.2.2.2.2.2.1, ⟨hk.1.1.1.2.2.2.2.2.2.2.2.2.2.2.2, hk.1.2⟩⟩⟩⟩⟩⟩⟩⟩⟩⟩⟩⟩⟩⟩)⟩
                have n10_ : Aside0 (Kd.R (Kd.int .i64) 3 w117 w.heap.size (fun k_ => some k_ ≠ (.slice Ao106 x14_2.length co106 : Value).ownBlock ∧ some k_ ≠ (.slice Ao11 t427.length co11 : Value).ownBlock ∧ some k_ ≠ (.slice Ao18 t439.length co18 : Value).ownBlock ∧ some k_ ≠ (.slice Ao26 t449.length co26 : Value).ownBlock ∧ some k_ ≠ (.slice Ao66 t466.length co66 : Value).ownBlock ∧ some k_ ≠ (.slice Ao116 t496.length co116 : Value).ownBlock) (.slice Ao78 t480.length co78) t480) := ⟨by subst hW_; (with_reducible repeat (first | apply Kd.R_alloc | apply Kd.R_drewN | apply Kd.R_drew)); exact Kd.R_mono (Kd.R_far (p := ⟨gb501, 3, none⟩) (Kd.R_far (p := ⟨gb501, 2, none⟩) (Kd.R_far (p := ⟨gb501, 1, none⟩) (Kd.R_far (p := ⟨gb501, 0, none⟩) (Kd.R_types HO_486002.out BK501.out (by decide)) (fun _ hk => hk.2) (.int .i64 t492)) (fun _ hk => hk.2) (.slice Ao115 t493.length co115)) (fun _ hk => hk.2) (.slice Ao116 t496.length co116)) (fun _ hk => hk.2) (.int .i64 t499)) (fun _ hk => ⟨hk.1.1.1, ⟨hk.1.1.2.1, ⟨hk.1.1.2.2.1, ⟨hk.1.1.2.2.2.1, ⟨hk.1.1.2.2.2.2, hk.1.2⟩⟩⟩⟩⟩)⟩
                have n11_ : Aside0 (Kd.V (Kd.slice 3 (Kd.int .i64)) 23 w117 w.heap.size (fun k_ => some k_ ≠ (.slice Ao106 x14_2.length co106 : Value).ownBlock ∧ some k_ ≠ (.slice Ao10 t424.length co10 : Value).ownBlock ∧ some k_ ≠ (.slice Ao11 t427.length co11 : Value).ownBlock ∧ some k_ ≠ (.slice Ao18 t439.length co18 : Value).ownBlock ∧ some k_ ≠ (.slice Ao25 t446.length co25 : Value).ownBlock ∧ some k_ ≠ (.slice Ao26 t449.length co26 : Value).ownBlock ∧ some k_ ≠ (.slice Ao66 t466.length co66 : Value).ownBlock ∧ some k_ ≠ (.slice Ao78 t480.length co78 : Value).ownBlock ∧ some k_ ≠ (.slice Ao116 t496.length co116 : Value).ownBlock ∧ k_ ≠ gb434 ∧ k_ ≠ gb444 ∧ k_ ≠ gb454 ∧ k_ ≠ gb471 ∧ k_ ≠ gb485 ∧ k_ ≠ gb501) (.slice Ao115 t493.length co115) t493) := ⟨by subst hW_; (with_reducible repeat (first | apply Kd.V_alloc | apply Kd.V_drewN | apply Kd.V_drew)); exact Kd.V_mono (Kd.V_far (p := ⟨gb501, 3, none⟩) (Kd.V_far (p := ⟨gb501, 2, none⟩) (Kd.V_far (p := ⟨gb501, 1, none⟩) (Kd.V_far (p := ⟨gb501, 0, none⟩) (Kd.V_mono HO495.out (fun k_ hk => (⟨hk, hk.2⟩ : _ ∧ k_ ≠ gb501))) (fun _ hk => hk.2) (.int .i64 t492)) (fun _ hk => hk.2) (.slice Ao115 t493.length co115)) (fun _ hk => hk.2) (.slice Ao116 t496.length co116)) (fun _ hk => hk.2) (.int .i64 t499)) (fun _ hk => ⟨hk.1.1.2.1, ⟨hk.1.1.2.2.1, ⟨hk.1.1.2.2.2.1, ⟨hk.1.1.2.2.2.2.1, ⟨hk.1.1.2.2.2.2.2.1, ⟨hk.1.1.2.2.2.2.2.2.1, ⟨hk.1.1.2.2.2.2.2.2.2.1, ⟨hk.1.1.2.2.2.2.2.2.2.2.1, ⟨hk.1.1.1, ⟨hk.1.1.2.2.2.2.2.2.2.2.2.1, ⟨hk.1.1.2.2.2.2.2.2.2.2.2.2.1, ⟨hk.1.1.2.2.2.2.2.2.2.2.2.2.2.1, ⟨hk.1.1.2.2.2.2.2.2.2.2.2.2.2.2.1, ⟨hk.1.1.2.2.2.2.2.2.2.2.2.2.2.2.2, hk.1.2⟩⟩⟩⟩⟩⟩⟩⟩⟩⟩⟩⟩⟩⟩)⟩
                have n12_ : Aside0 (Kd.R (Kd.int .i64) 3 w117 w.heap.size (fun k_ => some k_ ≠ (.slice Ao106 x14_2.length co106 : Value).ownBlock ∧ some k_ ≠ (.slice Ao11 t427.length co11 : Value).ownBlock ∧ some k_ ≠ (.slice Ao18 t439.length co18 : Value).ownBlock ∧ some k_ ≠ (.slice Ao26 t449.length co26 : Value).ownBlock ∧ some k_ ≠ (.slice Ao66 t466.length co66 : Value).ownBlock ∧ some k_ ≠ (.slice Ao78 t480.length co78 : Value).ownBlock) (.slice Ao116 t496.length co116) t496) := ⟨by subst hW_; (with_reducible repeat (first | apply Kd.R_alloc | apply Kd.R_drewN | apply Kd.R_drew)); exact Kd.R_mono (Kd.R_far (p := ⟨gb501, 3, none⟩) (Kd.R_far (p := ⟨gb501, 2, none⟩) (Kd.R_far (p := ⟨gb501, 1, none⟩) (Kd.R_far (p := ⟨gb501, 0, none⟩) (Kd.R_types HO498.out BK501.out (by decide)) (fun _ hk => hk.2) (.int .i64 t492)) (fun _ hk => hk.2) (.slice Ao115 t493.length co115)) (fun _ hk => hk.2) (.slice Ao116 t496.length co116)) (fun _ hk => hk.2) (.int .i64 t499)) (fun _ hk => ⟨hk.1.1.1.1.1.1.2, ⟨hk.1.1.1.1.1.2, ⟨hk.1.1.1.1.2, ⟨hk.1.1.1.2, ⟨hk.1.1.2, hk.1.2⟩⟩⟩⟩⟩)⟩
                have n13_ : Aside0 (w117.heap[gb434]? = some (.cells #[.int .i64 t423, .slice Ao10 t424.length co10, .slice Ao11 t427.length co11, .int .i64 t430] 28 (0, 0))) := ⟨by subst hW_; (with_reducible repeat (first | refine blk_drewN ?_ _ | refine blk_drew ?_ | refine blk_alloc ?_ _)); refine blk_far ?_ NB434_501.out _; (with_reducible repeat (first | refine blk_drewN ?_ _ | refine blk_drew ?_ | refine blk_alloc ?_ _)); refine blk_far ?_ NB434_501.out _; (with_reducible repeat (first | refine blk_drewN ?_ _ | refine blk_drew ?_ | refine blk_alloc ?_ _)); refine blk_far ?_ NB434_501.out _; (with_reducible repeat (first | refine blk_drewN ?_ _ | refine blk_drew ?_ | refine blk_alloc ?_ _)); refine blk_far ?_ NB434_501.out _; (with_reducible repeat (first | refine blk_drewN ?_ _ | refine blk_drew ?_ | refine blk_alloc ?_ _)); exact BK434.out⟩
                have n14_ : Aside0 (w117.heap[gb444]? = some (.cells #[.int .i64 t435, .slice Ao17 t436.length co17, .slice Ao18 t439.length co18, .int .i64 t442] 28 (0, 0))) := ⟨by subst hW_; (with_reducible repeat (first | refine blk_drewN ?_ _ | refine blk_drew ?_ | refine blk_alloc ?_ _)); refine blk_far ?_ NB444_501.out _; (with_reducible repeat (first | refine blk_drewN ?_ _ | refine blk_drew ?_ | refine blk_alloc ?_ _)); refine blk_far ?_ NB444_501.out _; (with_reducible repeat (first | refine blk_drewN ?_ _ | refine blk_drew ?_ | refine blk_alloc ?_ _)); refine blk_far ?_ NB444_501.out _; (with_reducible repeat (first | refine blk_drewN ?_ _ | refine blk_drew ?_ | refine blk_alloc ?_ _)); refine blk_far ?_ NB444_501.out _; (with_reducible repeat (first | refine blk_drewN ?_ _ | refine blk_drew ?_ | refine blk_alloc ?_ _)); exact BK444.out⟩
                have n15_ : Aside0 (w117.heap[gb454]? = some (.cells #[.int .i64 t445, .slice Ao25 t446.length co25, .slice Ao26 t449.length co26, .int .i64 t452] 28 (0, 0))) := ⟨by subst hW_; (with_reducible repeat (first | refine blk_drewN ?_ _ | refine blk_drew ?_ | refine blk_alloc ?_ _)); refine blk_far ?_ NB454_501.out _; (with_reducible repeat (first | refine blk_drewN ?_ _ | refine blk_drew ?_ | refine blk_alloc ?_ _)); refine blk_far ?_ NB454_501.out _; (with_reducible repeat (first | refine blk_drewN ?_ _ | refine blk_drew ?_ | refine blk_alloc ?_ _)); refine blk_far ?_ NB454_501.out _; (with_reducible repeat (first | refine blk_drewN ?_ _ | refine blk_drew ?_ | refine blk_alloc ?_ _)); refine blk_far ?_ NB454_501.out _; (with_reducible repeat (first | refine blk_drewN ?_ _ | refine blk_drew ?_ | refine blk_alloc ?_ _)); exact BK454.out⟩
                have n16_ : Aside0 (w117.heap[gb471]? = some (.cells #[.int .i64 t462, .slice Ao64 t463.length co64, .slice Ao66 t466.length co66, .int .i64 t469] 28 (0, 0))) := ⟨by subst hW_; (with_reducible repeat (first | refine blk_drewN ?_ _ | refine blk_drew ?_ | refine blk_alloc ?_ _)); refine blk_far ?_ NB471_501.out _; (with_reducible repeat (first | refine blk_drewN ?_ _ | refine blk_drew ?_ | refine blk_alloc ?_ _)); refine blk_far ?_ NB471_501.out _; (with_reducible repeat (first | refine blk_drewN ?_ _ | refine blk_drew ?_ | refine blk_alloc ?_ _)); refine blk_far ?_ NB471_501.out _; (with_reducible repeat (first | refine blk_drewN ?_ _ | refine blk_drew ?_ | refine blk_alloc ?_ _)); refine blk_far ?_ NB471_501.out _; (with_reducible repeat (first | refine blk_drewN ?_ _ | refine blk_drew ?_ | refine blk_alloc ?_ _)); exact BK471.out⟩
                have n17_ : Aside0 (w117.heap[gb485]? = some (.cells #[.int .i64 t476, .slice Ao76 t477.length co76, .slice Ao78 t480.length co78, .int .i64 t483] 28 (0, 0))) := ⟨by subst hW_; (with_reducible repeat (first | refine blk_drewN ?_ _ | refine blk_drew ?_ | refine blk_alloc ?_ _)); refine blk_far ?_ NB485_501.out _; (with_reducible repeat (first | refine blk_drewN ?_ _ | refine blk_drew ?_ | refine blk_alloc ?_ _)); refine blk_far ?_ NB485_501.out _; (with_reducible repeat (first | refine blk_drewN ?_ _ | refine blk_drew ?_ | refine blk_alloc ?_ _)); refine blk_far ?_ NB485_501.out _; (with_reducible repeat (first | refine blk_drewN ?_ _ | refine blk_drew ?_ | refine blk_alloc ?_ _)); refine blk_far ?_ NB485_501.out _; (with_reducible repeat (first | refine blk_drewN ?_ _ | refine blk_drew ?_ | refine blk_alloc ?_ _)); exact BK485.out⟩
                have n18_ : Aside0 (w117.heap[gb501]? = some (.cells #[.int .i64 t492, .slice Ao115 t493.length co115, .slice Ao116 t496.length co116, .int .i64 t499] 28 (0, 0))) := ⟨by subst hW_; (with_reducible repeat (first | refine blk_drewN ?_ _ | refine blk_drew ?_ | refine blk_alloc ?_ _)); refine blk_put (cs := #[.int .i64 t492, .slice Ao115 t493.length co115, .slice Ao116 t496.length co116, .int .i64 0]) ?_ 3 _ rfl; (with_reducible repeat (first | refine blk_drewN ?_ _ | refine blk_drew ?_ | refine blk_alloc ?_ _)); refine blk_put (cs := #[.int .i64 t492, .slice Ao115 t493.length co115, .slice none 0 0, .int .i64 0]) ?_ 2 _ rfl; (with_reducible repeat (first | refine blk_drewN ?_ _ | refine blk_drew ?_ | refine blk_alloc ?_ _)); refine blk_put (cs := #[.int .i64 t492, .slice none 0 0, .slice none 0 0, .int .i64 0]) ?_ 1 _ rfl; (with_reducible repeat (first | refine blk_drewN ?_ _ | refine blk_drew ?_ | refine blk_alloc ?_ _)); refine blk_put (cs := #[.int .i64 0, .slice none 0 0, .slice none 0 0, .int .i64 0]) ?_ 0 _ rfl; (with_reducible repeat (first | refine blk_drewN ?_ _ | refine blk_drew ?_ | refine blk_alloc ?_ _)); exact BK501.out⟩
                have n19_ : Aside0 (Below w.heap.size w w117) := ⟨by subst hW_; exact bh⟩
                clear hW_
                (try clear HO_14)
                (try clear HO_435001)
                (try clear HO_435002)
                (try clear HO_445001)
                (try clear HO_445002)
                (try clear HO_455001)
                (try clear HO_455002)
                (try clear HO_472001)
                (try clear HO_472002)
                (try clear HO_486001)
                (try clear HO_486002)
                (try clear HO495)
                (try clear HO498)
                (try clear BK434)
                (try clear BK444)
                (try clear BK454)
                (try clear BK471)
                (try clear BK485)
                (try clear BK501)
                (try clear HB)
                have HO_14 := n0_
                have HO_435001 := n1_
                have HO_435002 := n2_
                have HO_445001 := n3_
                have HO_445002 := n4_
                have HO_455001 := n5_
                have HO_455002 := n6_
                have HO_472001 := n7_
                have HO_472002 := n8_
                have HO_486001 := n9_
                have HO_486002 := n10_
                have HO495 := n11_
                have HO498 := n12_
                have BK434 := n13_
                have BK444 := n14_
                have BK454 := n15_
                have BK471 := n16_
                have BK485 := n17_
                have BK501 := n18_
                have HB := n19_
                clear n0_ n1_ n2_ n3_ n4_ n5_ n6_ n7_ n8_ n9_ n10_ n11_ n12_ n13_ n14_ n15_ n16_ n17_ n18_ n19_
                have n0_ := Aside0.mk (Kd.R_drew HO_14.out)
                have n1_ := Aside0.mk (Kd.S_drew HO_435001.out)
                have n2_ := Aside0.mk (Kd.R_drew HO_435002.out)
                have n3_ := Aside0.mk (Kd.V_drew HO_445001.out)
                have n4_ := Aside0.mk (Kd.R_drew HO_445002.out)
                have n5_ := Aside0.mk (Kd.S_drew HO_455001.out)
                have n6_ := Aside0.mk (Kd.R_drew HO_455002.out)
                have n7_ := Aside0.mk (Kd.V_drew HO_472001.out)
                have n8_ := Aside0.mk (Kd.R_drew HO_472002.out)
                have n9_ := Aside0.mk (Kd.V_drew HO_486001.out)
                have n10_ := Aside0.mk (Kd.R_drew HO_486002.out)
                have n11_ := Aside0.mk (Kd.V_drew HO495.out)
                have n12_ := Aside0.mk (Kd.R_drew HO498.out)
                have n13_ := Aside0.mk (blk_drew BK434.out)
                have n14_ := Aside0.mk (blk_drew BK444.out)
                have n15_ := Aside0.mk (blk_drew BK454.out)
                have n16_ := Aside0.mk (blk_drew BK471.out)
                have n17_ := Aside0.mk (blk_drew BK485.out)
                have n18_ := Aside0.mk (blk_drew BK501.out)
                have n19_ := Aside0.mk (below_drew1 HB.out)
                clear HO_14 HO_435001 HO_435002 HO_445001 HO_445002 HO_455001 HO_455002 HO_472001 HO_472002 HO_486001 HO_486002 HO495 HO498 BK434 BK444 BK454 BK471 BK485 BK501 HB
                have HO_14 := n0_
                have HO_435001 := n1_
                have HO_435002 := n2_
                have HO_445001 := n3_
                have HO_445002 := n4_
                have HO_455001 := n5_
                have HO_455002 := n6_
                have HO_472001 := n7_
                have HO_472002 := n8_
                have HO_486001 := n9_
                have HO_486002 := n10_
                have HO495 := n11_
                have HO498 := n12_
                have BK434 := n13_
                have BK444 := n14_
                have BK454 := n15_
                have BK471 := n16_
                have BK485 := n17_
                have BK501 := n18_
                have HB := n19_
                clear n0_ n1_ n2_ n3_ n4_ n5_ n6_ n7_ n8_ n9_ n10_ n11_ n12_ n13_ n14_ n15_ n16_ n17_ n18_ n19_
                refine start_ (n := 38) (S := fun w' => w'.cell? ⟨gb444, 0, none⟩ = some (.int .i64 t435) ∧ w'.cell? ⟨gb444, 1, none⟩ = some (.slice Ao17 t436.length co17) ∧ w'.cell? ⟨gb444, 2, none⟩ = some (.slice Ao18 t439.length co18) ∧ w'.cell? ⟨gb444, 3, none⟩ = some (.int .i64 t442) ∧ w'.cell? ⟨gb485, 0, none⟩ = some (.int .i64 t476) ∧ w'.cell? ⟨gb485, 1, none⟩ = some (.slice Ao76 t477.length co76) ∧ w'.cell? ⟨gb485, 2, none⟩ = some (.slice Ao78 t480.length co78) ∧ w'.cell? ⟨gb485, 3, none⟩ = some (.int .i64 t483) ∧ w'.cell? ⟨gb434, 0, none⟩ = some (.int .i64 t423) ∧ w'.cell? ⟨gb434, 1, none⟩ = some (.slice Ao10 t424.length co10) ∧ w'.cell? ⟨gb434, 2, none⟩ = some (.slice Ao11 t427.length co11) ∧ w'.cell? ⟨gb434, 3, none⟩ = some (.int .i64 t430) ∧ w'.cell? ⟨gb501, 0, none⟩ = some (.int .i64 t492) ∧ w'.cell? ⟨gb501, 1, none⟩ = some (.slice Ao115 t493.length co115) ∧ w'.cell? ⟨gb501, 2, none⟩ = some (.slice Ao116 t496.length co116) ∧ w'.cell? ⟨gb501, 3, none⟩ = some (.int .i64 t499)) (ds := []) #[F,F,F,F,F,F,F,F,F,F,F,F,F,F,F,F,F,F,F,F,F,F,F,F,F,F,F,F,F,F,F,F,F,F,F,F,F,F] kr rfl rfl ⟨cz0 BK444, cz1 BK444, cz2 BK444, cz3 BK444, cz0 BK485, cz1 BK485, cz2 BK485, cz3 BK485, cz0 BK434, cz1 BK434, cz2 BK434, cz3 BK434, cz0 BK501, cz1 BK501, cz2 BK501, cz3 BK501⟩ (fun hHeld => ?_); refine with_tabW laws_FnAfterDeaths.tab19 laws_FnAfterDeaths.bits19 (fun HT_ HW_ => ?_)
                generalize w117.drew = w118 at HO_14 HO_435001 HO_435002 HO_445001 HO_445002 HO_455001 HO_455002 HO_472001 HO_472002 HO_486001 HO_486002 HO495 HO498 BK434 BK444 BK454 BK471 BK485 BK501 HB hHeld ⊢
                refine tk16 0 (some 95) #[T,F,F,F,F,F,F,F,F,F,F,F,F,F,F,F,F,F,F,F,F,F,F,F,F,F,F,F,F,F,F,F,F,F,F,F,F,F] (take_ofW HT_.out HW_.out kr) ?_
                refine one_ (i := 1) (N := some 96) #[T,T,F,F,F,F,F,F,F,F,F,F,F,F,F,F,F,F,F,F,F,F,F,F,F,F,F,F,F,F,F,F,F,F,F,F,F,F] rfl rfl (one_of HT_.out kr) (by decide) (fun K hK => ?_)
                refine goes_ Try.func19 kr rfl #[.agg #[.int .i64 t435, .slice Ao17 t436.length co17, .slice Ao18 t439.length co18, .int .i64 t442]] (by rfl) rfl rfl lm ?_
                with_reducible refine (impl_CourtOk.calls k2 t435 _ _ t436 _ _ t439 t442 true _ ?side1 ?side2 ?side3 ?side4 A92.out).mono ?_
                (case side1 => repeat (first | exact (Kd.V_reads' HO_445001.out).2.2 | (with_reducible refine Kd.C_alloc ?_ _) | (with_reducible refine Kd.C_drewN ?_ _) | (with_reducible refine Kd.C_drew ?_)))
                (case side2 => exact (Kd.V_reads' HO_445001.out).2.1)
                (case side3 => repeat (first | exact (Kd.R_reads' HO_445002.out).2.2 | (with_reducible refine Kd.C_alloc ?_ _) | (with_reducible refine Kd.C_drewN ?_ _) | (with_reducible refine Kd.C_drew ?_)))
                (case side4 => exact (Kd.R_reads' HO_445002.out).2.1)
                rintro e w119 ⟨rfl, hb⟩
                refine ⟨_, rfl, ?_⟩
                have n0_ := Aside0.mk (Kd.R_below (rz HO_14) hb)
                have n1_ := Aside0.mk (Kd.S_below (sz HO_435001) hb)
                have n2_ := Aside0.mk (Kd.R_below (rz HO_435002) hb)
                have n3_ := Aside0.mk (Kd.V_below (vz HO_445001) hb)
                have n4_ := Aside0.mk (Kd.R_below (rz HO_445002) hb)
                have n5_ := Aside0.mk (Kd.S_below (sz HO_455001) hb)
                have n6_ := Aside0.mk (Kd.R_below (rz HO_455002) hb)
                have n7_ := Aside0.mk (Kd.V_below (vz HO_472001) hb)
                have n8_ := Aside0.mk (Kd.R_below (rz HO_472002) hb)
                have n9_ := Aside0.mk (Kd.V_below (vz HO_486001) hb)
                have n10_ := Aside0.mk (Kd.R_below (rz HO_486002) hb)
                have n11_ := Aside0.mk (Kd.V_below (vz HO495) hb)
                have n12_ := Aside0.mk (Kd.R_below (rz HO498) hb)
                have n13_ := Aside0.mk (blk_below (bz BK434) hb)
                have n14_ := Aside0.mk (blk_below (bz BK444) hb)
                have n15_ := Aside0.mk (blk_below (bz BK454) hb)
                have n16_ := Aside0.mk (blk_below (bz BK471) hb)
                have n17_ := Aside0.mk (blk_below (bz BK485) hb)
                have n18_ := Aside0.mk (blk_below (bz BK501) hb)
                have n19_ := Aside0.mk (below_step bh hb)
                clear HO_14 HO_435001 HO_435002 HO_445001 HO_445002 HO_455001 HO_455002 HO_472001 HO_472002 HO_486001 HO_486002 HO495 HO498 BK434 BK444 BK454 BK471 BK485 BK501 HB
                have HO_14 := n0_
                have HO_435001 := n1_
                have HO_435002 := n2_
                have HO_445001 := n3_
                have HO_445002 := n4_
                have HO_455001 := n5_
                have HO_455002 := n6_
                have HO_472001 := n7_
                have HO_472002 := n8_
                have HO_486001 := n9_
                have HO_486002 := n10_
                have HO495 := n11_
                have HO498 := n12_
                have BK434 := n13_
                have BK444 := n14_
                have BK454 := n15_
                have BK471 := n16_
                have BK485 := n17_
                have BK501 := n18_
                have HB := n19_
                clear n0_ n1_ n2_ n3_ n4_ n5_ n6_ n7_ n8_ n9_ n10_ n11_ n12_ n13_ n14_ n15_ n16_ n17_ n18_ n19_
                (try clear hb)
                (try clear hb2)
                (try clear hk)
                (try clear hi)
                refine hK.out _ _ ⟨cz0 BK444, cz1 BK444, cz2 BK444, cz3 BK444, cz0 BK485, cz1 BK485, cz2 BK485, cz3 BK485, cz0 BK434, cz1 BK434, cz2 BK434, cz3 BK434, cz0 BK501, cz1 BK501, cz2 BK501, cz3 BK501⟩ (fun hHeld => ?_)
                clear hK K
                refine norm_ (a' := ?_) ?_ ?_
                rotate_left
                ·show Act.put _ (some 96) _ = _
                 simp only [Act.put, List.setIfInBounds_toArray, List.set_cons_zero, List.set_cons_succ, i64_w, i32_w]
                 rfl
                refine pu 2 (some 97) #[T,T,T,F,F,F,F,F,F,F,F,F,F,F,F,F,F,F,F,F,F,F,F,F,F,F,F,F,F,F,F,F,F,F,F,F,F,F] (any_of HT_.out kr) ?_
                refine tk16 3 (some 98) #[T,T,T,T,F,F,F,F,F,F,F,F,F,F,F,F,F,F,F,F,F,F,F,F,F,F,F,F,F,F,F,F,F,F,F,F,F,F] (take_ofW HT_.out HW_.out kr) ?_
                refine tk16 4 (some 99) #[T,T,T,T,T,F,F,F,F,F,F,F,F,F,F,F,F,F,F,F,F,F,F,F,F,F,F,F,F,F,F,F,F,F,F,F,F,F] (take_ofW HT_.out HW_.out kr) ?_
                refine one_ (i := 5) (N := some 100) #[T,T,T,T,T,T,F,F,F,F,F,F,F,F,F,F,F,F,F,F,F,F,F,F,F,F,F,F,F,F,F,F,F,F,F,F,F,F] rfl rfl (one_of HT_.out kr) (by decide) (fun K hK => ?_)
                refine goes_ Try.func35 kr rfl #[.agg #[.int .i64 t476, .slice Ao76 t477.length co76, .slice Ao78 t480.length co78, .int .i64 t483], .agg #[.int .i64 t435, .slice Ao17 t436.length co17, .slice Ao18 t439.length co18, .int .i64 t442]] (by rfl) rfl rfl lm ?_
                with_reducible refine (laws_sameCourt.calls k2 t476 _ _ t477 _ _ t480 t483 t435 _ _ t436 _ _ t439 t442 true _ ?side1 ?side2 ?side3 ?side4 ?side5 ?side6 ?side7 ?side8 A94.out).mono ?_
                (case side1 => repeat (first | exact (Kd.V_reads' HO_486001.out).2.2 | (with_reducible refine Kd.C_alloc ?_ _) | (with_reducible refine Kd.C_drewN ?_ _) | (with_reducible refine Kd.C_drew ?_)))
                (case side2 => exact (Kd.V_reads' HO_486001.out).2.1)
                (case side3 => repeat (first | exact (Kd.R_reads' HO_486002.out).2.2 | (with_reducible refine Kd.C_alloc ?_ _) | (with_reducible refine Kd.C_drewN ?_ _) | (with_reducible refine Kd.C_drew ?_)))
                (case side4 => exact (Kd.R_reads' HO_486002.out).2.1)
                (case side5 => repeat (first | exact (Kd.V_reads' HO_445001.out).2.2 | (with_reducible refine Kd.C_alloc ?_ _) | (with_reducible refine Kd.C_drewN ?_ _) | (with_reducible refine Kd.C_drew ?_)))
                (case side6 => exact (Kd.V_reads' HO_445001.out).2.1)
                (case side7 => repeat (first | exact (Kd.R_reads' HO_445002.out).2.2 | (with_reducible refine Kd.C_alloc ?_ _) | (with_reducible refine Kd.C_drewN ?_ _) | (with_reducible refine Kd.C_drew ?_)))
                (case side8 => exact (Kd.R_reads' HO_445002.out).2.1)
                rintro e w120 ⟨rfl, hb⟩
                refine ⟨_, rfl, ?_⟩
                have n0_ := Aside0.mk (Kd.R_below (rz HO_14) hb)
                have n1_ := Aside0.mk (Kd.S_below (sz HO_435001) hb)
                have n2_ := Aside0.mk (Kd.R_below (rz HO_435002) hb)
                have n3_ := Aside0.mk (Kd.V_below (vz HO_445001) hb)
                have n4_ := Aside0.mk (Kd.R_below (rz HO_445002) hb)
                have n5_ := Aside0.mk (Kd.S_below (sz HO_455001) hb)
                have n6_ := Aside0.mk (Kd.R_below (rz HO_455002) hb)
                have n7_ := Aside0.mk (Kd.V_below (vz HO_472001) hb)
                have n8_ := Aside0.mk (Kd.R_below (rz HO_472002) hb)
                have n9_ := Aside0.mk (Kd.V_below (vz HO_486001) hb)
                have n10_ := Aside0.mk (Kd.R_below (rz HO_486002) hb)
                have n11_ := Aside0.mk (Kd.V_below (vz HO495) hb)
                have n12_ := Aside0.mk (Kd.R_below (rz HO498) hb)
                have n13_ := Aside0.mk (blk_below (bz BK434) hb)
                have n14_ := Aside0.mk (blk_below (bz BK444) hb)
                have n15_ := Aside0.mk (blk_below (bz BK454) hb)
                have n16_ := Aside0.mk (blk_below (bz BK471) hb)
                have n17_ := Aside0.mk (blk_below (bz BK485) hb)
                have n18_ := Aside0.mk (blk_below (bz BK501) hb)
                have n19_ := Aside0.mk (below_step bh hb)
                clear HO_14 HO_435001 HO_435002 HO_445001 HO_445002 HO_455001 HO_455002 HO_472001 HO_472002 HO_486001 HO_486002 HO495 HO498 BK434 BK444 BK454 BK471 BK485 BK501 HB
                have HO_14 := n0_
                have HO_435001 := n1_
                have HO_435002 := n2_
                have HO_445001 := n3_
                have HO_445002 := n4_
                have HO_455001 := n5_
                have HO_455002 := n6_
                have HO_472001 := n7_
                have HO_472002 := n8_
                have HO_486001 := n9_
                have HO_486002 := n10_
                have HO495 := n11_
                have HO498 := n12_
                have BK434 := n13_
                have BK444 := n14_
                have BK454 := n15_
                have BK471 := n16_
                have BK485 := n17_
                have BK501 := n18_
                have HB := n19_
                clear n0_ n1_ n2_ n3_ n4_ n5_ n6_ n7_ n8_ n9_ n10_ n11_ n12_ n13_ n14_ n15_ n16_ n17_ n18_ n19_
                (try clear hb)
                (try clear hb2)
                (try clear hk)
                (try clear hi)
                refine hK.out _ _ ⟨cz0 BK444, cz1 BK444, cz2 BK444, cz3 BK444, cz0 BK485, cz1 BK485, cz2 BK485, cz3 BK485, cz0 BK434, cz1 BK434, cz2 BK434, cz3 BK434, cz0 BK501, cz1 BK501, cz2 BK501, cz3 BK501⟩ (fun hHeld => ?_)
                clear hK K
                refine norm_ (a' := ?_) ?_ ?_
                rotate_left
                ·show Act.put _ (some 100) _ = _
                 simp only [Act.put, List.setIfInBounds_toArray, List.set_cons_zero, List.set_cons_succ, i64_w, i32_w]
                 rfl
                refine pu 6 (some 101) #[T,T,T,T,T,T,T,F,F,F,F,F,F,F,F,F,F,F,F,F,F,F,F,F,F,F,F,F,F,F,F,F,F,F,F,F,F,F] (any_of HT_.out kr) ?_
                refine pu 7 (some 102) #[T,T,T,T,T,T,T,T,F,F,F,F,F,F,F,F,F,F,F,F,F,F,F,F,F,F,F,F,F,F,F,F,F,F,F,F,F,F] (any_of HT_.out kr) ?_
                refine pu 8 (some 103) #[T,T,T,T,T,T,T,T,T,F,F,F,F,F,F,F,F,F,F,F,F,F,F,F,F,F,F,F,F,F,F,F,F,F,F,F,F,F] (any_of HT_.out kr) ?_
                refine pu 9 (some 104) #[T,T,T,T,T,T,T,T,T,T,F,F,F,F,F,F,F,F,F,F,F,F,F,F,F,F,F,F,F,F,F,F,F,F,F,F,F,F] (any_of HT_.out kr) ?_
                refine pu 10 (some 105) #[T,T,T,T,T,T,T,T,T,T,T,F,F,F,F,F,F,F,F,F,F,F,F,F,F,F,F,F,F,F,F,F,F,F,F,F,F,F] (any_of HT_.out kr) ?_
                refine pu 11 (some 106) #[T,T,T,T,T,T,T,T,T,T,T,T,F,F,F,F,F,F,F,F,F,F,F,F,F,F,F,F,F,F,F,F,F,F,F,F,F,F] (any_of HT_.out kr) ?_
                refine pu 12 (some 107) #[T,T,T,T,T,T,T,T,T,T,T,T,T,F,F,F,F,F,F,F,F,F,F,F,F,F,F,F,F,F,F,F,F,F,F,F,F,F] (any_of HT_.out kr) ?_
                refine pu 13 (some 108) #[T,T,T,T,T,T,T,T,T,T,T,T,T,T,F,F,F,F,F,F,F,F,F,F,F,F,F,F,F,F,F,F,F,F,F,F,F,F] (any_of HT_.out kr) ?_
                refine pu 14 (some 109) #[T,T,T,T,T,T,T,T,T,T,T,T,T,T,T,F,F,F,F,F,F,F,F,F,F,F,F,F,F,F,F,F,F,F,F,F,F,F] (any_of HT_.out kr) ?_
                refine pu 15 (some 110) #[T,T,T,T,T,T,T,T,T,T,T,T,T,T,T,T,F,F,F,F,F,F,F,F,F,F,F,F,F,F,F,F,F,F,F,F,F,F] (any_of HT_.out kr) ?_
                refine pu 16 (some 111) #[T,T,T,T,T,T,T,T,T,T,T,T,T,T,T,T,T,F,F,F,F,F,F,F,F,F,F,F,F,F,F,F,F,F,F,F,F,F] (any_of HT_.out kr) ?_
                refine pu 18 (some 113) #[T,T,T,T,T,T,T,T,T,T,T,T,T,T,T,T,T,F,T,F,F,F,F,F,F,F,F,F,F,F,F,F,F,F,F,F,F,F] (any_of HT_.out kr) ?_
                refine tk16 17 (some 112) #[T,T,T,T,T,T,T,T,T,T,T,T,T,T,T,T,T,T,T,F,F,F,F,F,F,F,F,F,F,F,F,F,F,F,F,F,F,F] (take_ofW HT_.out HW_.out kr) ?_
                refine tk16 19 (some 114) #[T,T,T,T,T,T,T,T,T,T,T,T,T,T,T,T,T,T,T,T,F,F,F,F,F,F,F,F,F,F,F,F,F,F,F,F,F,F] (take_ofW HT_.out HW_.out kr) ?_
                refine one_ (i := 20) (N := some 115) #[T,T,T,T,T,T,T,T,T,T,T,T,T,T,T,T,T,T,T,T,T,F,F,F,F,F,F,F,F,F,F,F,F,F,F,F,F,F] rfl rfl (one_of HT_.out kr) (by decide) (fun K hK => ?_)
                refine goes_ Try.func40 kr rfl #[.int .i64 t423, .int .i64 t430] (by rfl) rfl rfl lm ?_
                with_reducible refine (impl_HeadsOf.calls t423 t430 t504 _ A97.out).mono ?_
                rintro e w' ⟨rfl, ⟨nd, rfl⟩⟩
                refine ⟨_, rfl, ?_⟩
                refine hK.out _ _ ⟨cz0 BK444, cz1 BK444, cz2 BK444, cz3 BK444, cz0 BK485, cz1 BK485, cz2 BK485, cz3 BK485, cz0 BK434, cz1 BK434, cz2 BK434, cz3 BK434, cz0 BK501, cz1 BK501, cz2 BK501, cz3 BK501⟩ (fun hHeld => ?_)
                clear hK K
                refine norm_ (a' := ?_) ?_ ?_
                rotate_left
                ·show Act.put _ (some 115) _ = _
                 simp only [Act.put, List.setIfInBounds_toArray, List.set_cons_zero, List.set_cons_succ, i64_w, i32_w]
                 rfl
                refine pu 21 (some 116) #[T,T,T,T,T,T,T,T,T,T,T,T,T,T,T,T,T,T,T,T,T,T,F,F,F,F,F,F,F,F,F,F,F,F,F,F,F,F] (any_of HT_.out kr) ?_
                refine pu 22 (some 117) #[T,T,T,T,T,T,T,T,T,T,T,T,T,T,T,T,T,T,T,T,T,T,T,F,F,F,F,F,F,F,F,F,F,F,F,F,F,F] (any_of HT_.out kr) ?_
                refine pu 23 (some 118) #[T,T,T,T,T,T,T,T,T,T,T,T,T,T,T,T,T,T,T,T,T,T,T,T,F,F,F,F,F,F,F,F,F,F,F,F,F,F] (any_of HT_.out kr) ?_
                refine pu 24 (some 119) #[T,T,T,T,T,T,T,T,T,T,T,T,T,T,T,T,T,T,T,T,T,T,T,T,T,F,F,F,F,F,F,F,F,F,F,F,F,F] (any_of HT_.out kr) ?_
                refine tk16 25 (some 120) #[T,T,T,T,T,T,T,T,T,T,T,T,T,T,T,T,T,T,T,T,T,T,T,T,T,T,F,F,F,F,F,F,F,F,F,F,F,F] (take_ofW HT_.out HW_.out kr) ?_
                refine pu 26 (some 121) #[T,T,T,T,T,T,T,T,T,T,T,T,T,T,T,T,T,T,T,T,T,T,T,T,T,T,T,F,F,F,F,F,F,F,F,F,F,F] (any_of HT_.out kr) ?_
                refine pu 27 (some 122) #[T,T,T,T,T,T,T,T,T,T,T,T,T,T,T,T,T,T,T,T,T,T,T,T,T,T,T,T,F,F,F,F,F,F,F,F,F,F] (any_of HT_.out kr) ?_
                refine pu 28 (some 123) #[T,T,T,T,T,T,T,T,T,T,T,T,T,T,T,T,T,T,T,T,T,T,T,T,T,T,T,T,T,F,F,F,F,F,F,F,F,F] (any_of HT_.out kr) ?_
                refine pu 32 (some 127) #[T,T,T,T,T,T,T,T,T,T,T,T,T,T,T,T,T,T,T,T,T,T,T,T,T,T,T,T,T,F,F,F,T,F,F,F,F,F] (any_of HT_.out kr) ?_
                refine tk16 29 (some 124) #[T,T,T,T,T,T,T,T,T,T,T,T,T,T,T,T,T,T,T,T,T,T,T,T,T,T,T,T,T,T,F,F,T,F,F,F,F,F] (take_ofW HT_.out HW_.out kr) ?_
                refine tk16 33 (some 128) #[T,T,T,T,T,T,T,T,T,T,T,T,T,T,T,T,T,T,T,T,T,T,T,T,T,T,T,T,T,T,F,F,T,T,F,F,F,F] (take_ofW HT_.out HW_.out kr) ?_
                refine pu 34 (some 129) #[T,T,T,T,T,T,T,T,T,T,T,T,T,T,T,T,T,T,T,T,T,T,T,T,T,T,T,T,T,T,F,F,T,T,T,F,F,F] (any_of HT_.out kr) ?_
                refine one_ (i := 30) (N := some 125) #[T,T,T,T,T,T,T,T,T,T,T,T,T,T,T,T,T,T,T,T,T,T,T,T,T,T,T,T,T,T,T,F,T,T,T,F,F,F] rfl rfl (one_of HT_.out kr) (by decide) (fun K hK => ?_)
                refine goes_ Try.func26 kr rfl #[.agg #[.int .i64 t492, .slice Ao115 t493.length co115, .slice Ao116 t496.length co116, .int .i64 t499]] (by rfl) rfl rfl lm ?_
                with_reducible refine (impl_VacantOf.calls k2 t492 _ _ t493 _ _ t496 t499 t505 _ ?side1 ?side2 ?side3 ?side4 A100.out).mono ?_
                (case side1 => repeat (first | exact (Kd.V_reads' HO495.out).2.2 | (with_reducible refine Kd.C_alloc ?_ _) | (with_reducible refine Kd.C_drewN ?_ _) | (with_reducible refine Kd.C_drew ?_)))
                (case side2 => exact (Kd.V_reads' HO495.out).2.1)
                (case side3 => repeat (first | exact (Kd.R_reads' HO498.out).2.2 | (with_reducible refine Kd.C_alloc ?_ _) | (with_reducible refine Kd.C_drewN ?_ _) | (with_reducible refine Kd.C_drew ?_)))
                (case side4 => exact (Kd.R_reads' HO498.out).2.1)
                rintro e w121 ⟨v506, rfl, ho0, hb⟩
                refine ⟨_, rfl, ?_⟩
                have n0_ := Aside0.mk (Kd.R_elder' (rz HO_14) (Kd.R_base ho0) hb)
                have n1_ := Aside0.mk (Kd.S_elder' (sz HO_435001) (Kd.R_base ho0) hb)
                have n2_ := Aside0.mk (Kd.R_elder' (rz HO_435002) (Kd.R_base ho0) hb)
                have n3_ := Aside0.mk (Kd.V_elder' (vz HO_445001) (Kd.R_base ho0) hb)
                have n4_ := Aside0.mk (Kd.R_elder' (rz HO_445002) (Kd.R_base ho0) hb)
                have n5_ := Aside0.mk (Kd.S_elder' (sz HO_455001) (Kd.R_base ho0) hb)
                have n6_ := Aside0.mk (Kd.R_elder' (rz HO_455002) (Kd.R_base ho0) hb)
                have n7_ := Aside0.mk (Kd.V_elder' (vz HO_472001) (Kd.R_base ho0) hb)
                have n8_ := Aside0.mk (Kd.R_elder' (rz HO_472002) (Kd.R_base ho0) hb)
                have n9_ := Aside0.mk (Kd.V_elder' (vz HO_486001) (Kd.R_base ho0) hb)
                have n10_ := Aside0.mk (Kd.R_elder' (rz HO_486002) (Kd.R_base ho0) hb)
                have n11_ := Aside0.mk (Kd.V_elder' (vz HO495) (Kd.R_base ho0) hb)
                have n12_ := Aside0.mk (Kd.R_elder' (rz HO498) (Kd.R_base ho0) hb)
                have n13_ := Aside0.mk (Kd.R_lower (Kd.R_new' (Kd.R_new' (Kd.R_new' (Kd.R_new' (Kd.R_new' (Kd.R_new' (Kd.R_new' ho0 (Kd.R_lt (rz HO_14))) (Kd.R_lt (rz HO_435002))) (Kd.R_lt (rz HO_445002))) (Kd.R_lt (rz HO_455002))) (Kd.R_lt (rz HO_472002))) (Kd.R_lt (rz HO_486002))) (Kd.R_lt (rz HO498))) (below_size bh))
                have n14_ := Aside0.mk (blk_below (bz BK434) hb)
                have n15_ := Aside0.mk (blk_below (bz BK444) hb)
                have n16_ := Aside0.mk (blk_below (bz BK454) hb)
                have n17_ := Aside0.mk (blk_below (bz BK471) hb)
                have n18_ := Aside0.mk (blk_below (bz BK485) hb)
                have n19_ := Aside0.mk (blk_below (bz BK501) hb)
                have n20_ := Aside0.mk (below_step bh hb)
                clear HO_14 HO_435001 HO_435002 HO_445001 HO_445002 HO_455001 HO_455002 HO_472001 HO_472002 HO_486001 HO_486002 HO495 HO498 BK434 BK444 BK454 BK471 BK485 BK501 HB
                have HO_14 := n0_
                have HO_435001 := n1_
                have HO_435002 := n2_
                have HO_445001 := n3_
                have HO_445002 := n4_
                have HO_455001 := n5_
                have HO_455002 := n6_
                have HO_472001 := n7_
                have HO_472002 := n8_
                have HO_486001 := n9_
                have HO_486002 := n10_
                have HO495 := n11_
                have HO498 := n12_
                have HO507 := n13_
                have BK434 := n14_
                have BK444 := n15_
                have BK454 := n16_
                have BK471 := n17_
                have BK485 := n18_
                have BK501 := n19_
                have HB := n20_
                clear n0_ n1_ n2_ n3_ n4_ n5_ n6_ n7_ n8_ n9_ n10_ n11_ n12_ n13_ n14_ n15_ n16_ n17_ n18_ n19_ n20_
                (try clear hb)
                (try clear hb2)
                (try clear hk)
                (try clear hi)
                (try clear ho0)
                obtain ⟨Ao122, co122, eo122⟩ := Kd.R_slice HO507.out
                (first | subst eo122 | (injection eo122 with f1_ f2_ f3_; have f4_ := f1_.symm; have f5_ := f3_.symm; clear f1_ f2_ f3_; subst f4_; subst f5_))
                refine hK.out _ _ ⟨cz0 BK444, cz1 BK444, cz2 BK444, cz3 BK444, cz0 BK485, cz1 BK485, cz2 BK485, cz3 BK485, cz0 BK434, cz1 BK434, cz2 BK434, cz3 BK434, cz0 BK501, cz1 BK501, cz2 BK501, cz3 BK501⟩ (fun hHeld => ?_)
                clear hK K
                refine norm_ (a' := ?_) ?_ ?_
                rotate_left
                ·show Act.put _ (some 125) _ = _
                 simp only [Act.put, List.setIfInBounds_toArray, List.set_cons_zero, List.set_cons_succ, i64_w, i32_w]
                 rfl
                refine pu 31 (some 126) #[T,T,T,T,T,T,T,T,T,T,T,T,T,T,T,T,T,T,T,T,T,T,T,T,T,T,T,T,T,T,T,T,T,T,T,F,F,F] (any_of HT_.out kr) ?_
                refine pu 35 (some 130) #[T,T,T,T,T,T,T,T,T,T,T,T,T,T,T,T,T,T,T,T,T,T,T,T,T,T,T,T,T,T,T,T,T,T,T,T,F,F] (any_of HT_.out kr) ?_
                refine pu 36 (some 131) #[T,T,T,T,T,T,T,T,T,T,T,T,T,T,T,T,T,T,T,T,T,T,T,T,T,T,T,T,T,T,T,T,T,T,T,T,T,F] (any_of HT_.out kr) ?_
                refine pu 37 (some 2) #[T,T,T,T,T,T,T,T,T,T,T,T,T,T,T,T,T,T,T,T,T,T,T,T,T,T,T,T,T,T,T,T,T,T,T,T,T,T] (any_of HT_.out kr) ?_
                refine done_ (done_of HT_.out kr) ?_
                try go_wp2
                go_ret
                exact ⟨by first | rfl | (simp [errW_none, errW_some] <;> rfl) | (simp only [← hji51]; first | rfl | (simp [errW_none, errW_some] <;> rfl)) | (simp [*, errW_none, errW_some] <;> rfl), by exact bh⟩
               ·rw [if_neg c99] at H
                exact absurd H (by simp)
              ·rw [if_neg c98] at H
               exact absurd H (by simp)
             ·rw [if_neg c96] at H
              exact absurd H (by simp)
            ·replace c95 := Bool.eq_false_iff.mpr c95
             subst c95
             have H1 : (none) = some r := by rw [if_neg (show ¬ (false = true) by decide)] at H; exact H
             clear H
             have H := H1
             clear H1
             exact absurd H (by simp)
           ·replace c93 := Bool.eq_false_iff.mpr c93
            subst c93
            have H1 : (none) = some r := by rw [if_neg (show ¬ (false = true) by decide)] at H; exact H
            clear H
            have H := H1
            clear H1
            exact absurd H (by simp)
       ·rw [if_neg c53] at H
        exact absurd H (by simp)
      ·rw [if_neg c52] at H
       exact absurd H (by simp)

/-- THE ONE PURE STATEMENT of laws_FnAfterDeaths: yours. -/
def laws_FnAfterDeaths.Pure : Prop := ∀ (l0 : List Int), l0.length ≤ maxLen → l0.length * 1 ≤ 140737488351232 → (∀ x ∈ l0, (Lit.int .u8 x).wf = true) → ∃ k, laws_FnAfterDeaths.f k l0 = some true
theorem laws_FnAfterDeaths.walk (P : laws_FnAfterDeaths.Pure) (a0 : Option Addr) (len0 cap0 : Nat) (z0 : List Int) (w : World) (w0 : (a0 = none ∧ len0 = 0 ∧ cap0 = 0 ∧ z0 = []) ∨ ∃ x, a0 = some x ∧ len0 ≤ cap0 ∧ cap0 ≤ maxLen ∧ z0.length = cap0 ∧ (∀ i, i < z0.length → w.cell? (x.add i) = some (.int .u8 (z0.getD i 0))) ∧ ∀ n ∈ z0, (Lit.int .u8 n).wf = true) (y0 : len0 * 1 ≤ 140737488351232) :
  Calls Try.prog 15 #[.slice a0 len0 cap0] w fun e w' => e = .returned (.bool true) ∧ Below w.heap.size w w' := by
 obtain ⟨l0, rfl, hr0, hm0, hw0, hc0⟩ := ReadsInt.ofRowC w0
 obtain ⟨k, h⟩ := P l0 hm0 y0 hw0
 refine (laws_FnAfterDeaths.calls k _ _ l0 true w (Kd.C_of_reads (d := (0 : Int)) (h1 := fun _ => rfl) hr0) hc0 h).mono ?_
 rintro e w' ⟨rfl, hd⟩
 exact ⟨rfl, hd⟩

end Go.Proofs.Ytlpjkeejflogjaa.QFnAfterDeaths
