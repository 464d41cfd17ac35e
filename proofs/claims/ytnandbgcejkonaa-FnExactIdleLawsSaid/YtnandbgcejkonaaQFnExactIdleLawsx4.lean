-- Printed for this claim by a turned copy of the print (wip/myprint). Lean checks it. Squeezed. Worded. Tightened.
import Derived.Test.YtnandbgcejkonaaQFnExactIdleLawsx0
import Derived.Test.YtnandbgcejkonaaQFnExactIdleLawsx2
import Derived.Test.YtnandbgcejkonaaQFnExactIdleLawsx3
namespace Go.Proofs.Ytnandbgcejkonaa.QFnExactIdleLaws
open Go.RowKit Go.Proofs.YtnandbgcejkonaaW.PrintWords Go.Proofs.YtnandbgcejkonaaW.PrintLast Go.Proofs.YtnandbgcejkonaaW.PrintMore
attribute [local go_sem] max2_int min2_int max_two min_two max_three min_three max_four min_four Opens.cell_twice   -- for this text's walks alone
set_option linter.unusedVariables false
set_option linter.unusedSimpArgs false

/-! ### spec_UnbeatenOf: function 51 -/
mutual
def spec_UnbeatenOf.j0 : Nat → List (S46) → Int → Int → List Int → Bool → Option (List Int)
 | 0, _, _, _, _, _ => none
 | k + 1, x0, x1, x2, x7, x24 => if x24 = true then (some x7) else (spec_UnbeatenOf.l0 k x0 x1 x2 x7 0)
def spec_UnbeatenOf.l0 : Nat → List (S46) → Int → Int → List Int → Int → Option (List Int)
 | 0, _, _, _, _, _ => none
 | k + 1, x0, x1, x2, x7, x8 => if x8 < (x0.length : Int) then (if 0 ≤ x8 then ((spec_l6Applies.f ((rd_T46 x0 x8).f0) ((rd_T46 x0 x8).f1) ((rd_T46 x0 x8).f2) ((rd_T46 x0 x8).f3) ((rd_T46 x0 x8).f4) x1 x2).bind fun t147 => (spec_UnbeatenOf.l1 k x0 x1 x2 x7 x8 t147 0)) else (none)) else (some x7)
def spec_UnbeatenOf.l1 : Nat → List (S46) → Int → Int → List Int → Int → Bool → Int → Option (List Int)
 | 0, _, _, _, _, _, _, _ => none
 | k + 1, x0, x1, x2, x7, x8, x9, x10 => if x10 < (x0.length : Int) then (spec_UnbeatenOf.j3 k x0 x1 x2 x7 x8 x9 x10 x9) else (spec_UnbeatenOf.j3 k x0 x1 x2 x7 x8 x9 x10 false)
def spec_UnbeatenOf.j3 : Nat → List (S46) → Int → Int → List Int → Int → Bool → Int → Bool → Option (List Int)
 | 0, _, _, _, _, _, _, _, _ => none
 | k + 1, x0, x1, x2, x7, x8, x9, x10, x45 => if x45 = true then (if 0 ≤ x10 then (if x10 < (x0.length : Int) then ((spec_l6Applies.f ((rd_T46 x0 x10).f0) ((rd_T46 x0 x10).f1) ((rd_T46 x0 x10).f2) ((rd_T46 x0 x10).f3) ((rd_T46 x0 x10).f4) x1 x2).bind fun t149 => (if t149 = true then (if 0 ≤ x8 then (if x8 < (x0.length : Int) then ((spec_BeatsOk.f k ((rd_T46 x0 x10).f0) ((rd_T46 x0 x10).f1) ((rd_T46 x0 x10).f2) ((rd_T46 x0 x10).f3) ((rd_T46 x0 x10).f4) ((rd_T46 x0 x8).f0) ((rd_T46 x0 x8).f1) ((rd_T46 x0 x8).f2) ((rd_T46 x0 x8).f3) ((rd_T46 x0 x8).f4)).bind fun t152 => (spec_UnbeatenOf.l1 k x0 x1 x2 x7 x8 (!t152) (wrap64 (x10 + 1)))) else (none)) else (none)) else (spec_UnbeatenOf.l1 k x0 x1 x2 x7 x8 true (wrap64 (x10 + 1))))) else (none)) else (none)) else (if x9 = true then (if x7.length < 17592186044416 then (spec_UnbeatenOf.l0 k x0 x1 x2 (x7 ++ [x8]) (wrap64 (x8 + 1))) else (none)) else (spec_UnbeatenOf.l0 k x0 x1 x2 x7 (wrap64 (x8 + 1))))
end
def spec_UnbeatenOf.f (k : Nat) (l0 : List (S46)) (a1 : Int) (a2 : Int) : Option (List Int) := (some (([] : List Int) : List Int)).bind fun y140 => ((spec_BookOk.f k l0).bind fun t143 => (if t143 = true then ((spec_l1In.f a1 0 2).bind fun t144 => (if t144 = true then ((spec_l1In.f a2 0 7).bind fun t145 => (spec_UnbeatenOf.j0 k l0 a1 a2 y140 (!t145))) else (spec_UnbeatenOf.j0 k l0 a1 a2 y140 true))) else (spec_UnbeatenOf.j0 k l0 a1 a2 y140 true)))
theorem spec_UnbeatenOf.mono_l : ∀ k, (∀ y0 y1 y2 y3 y4, LeO (spec_UnbeatenOf.j0 k y0 y1 y2 y3 y4) (spec_UnbeatenOf.j0 (k + 1) y0 y1 y2 y3 y4)) ∧ (∀ y0 y1 y2 y3 y4, LeO (spec_UnbeatenOf.l0 k y0 y1 y2 y3 y4) (spec_UnbeatenOf.l0 (k + 1) y0 y1 y2 y3 y4)) ∧ (∀ y0 y1 y2 y3 y4 y5 y6, LeO (spec_UnbeatenOf.l1 k y0 y1 y2 y3 y4 y5 y6) (spec_UnbeatenOf.l1 (k + 1) y0 y1 y2 y3 y4 y5 y6)) ∧ (∀ y0 y1 y2 y3 y4 y5 y6 y7, LeO (spec_UnbeatenOf.j3 k y0 y1 y2 y3 y4 y5 y6 y7) (spec_UnbeatenOf.j3 (k + 1) y0 y1 y2 y3 y4 y5 y6 y7))
 | 0 => ⟨fun _ _ _ _ _ r h => by simp [spec_UnbeatenOf.j0] at h, fun _ _ _ _ _ r h => by simp [spec_UnbeatenOf.l0] at h, fun _ _ _ _ _ _ _ r h => by simp [spec_UnbeatenOf.l1] at h, fun _ _ _ _ _ _ _ _ r h => by simp [spec_UnbeatenOf.j3] at h⟩
 | k + 1 => by
  obtain ⟨ih0, ih1, ih2, ih3⟩ := spec_UnbeatenOf.mono_l k
  refine ⟨?_, ?_, ?_, ?_⟩
  ·intro y0 y1 y2 y3 y4
   unfold spec_UnbeatenOf.j0
   repeat' first
   | (with_reducible exact ih0 _ _ _ _ _)
   | (with_reducible exact ih1 _ _ _ _ _)
   | (with_reducible exact ih2 _ _ _ _ _ _ _)
   | (with_reducible exact ih3 _ _ _ _ _ _ _ _)
   | (with_reducible exact spec_BeatsOk.mono _ _ _ _ _ _ _ _ _ _ _)
   | (with_reducible exact spec_BookOk.mono _ _)
   | (with_reducible exact LeO.refl _)
   | (with_reducible exact LeO.none _)
   | (with_reducible refine LeO.ite ?_ ?_)
   | (with_reducible refine LeO.bind ?_ (fun _ => ?_))
   | exact ih0 _ _ _ _ _
   | exact ih1 _ _ _ _ _
   | exact ih2 _ _ _ _ _ _ _
   | exact ih3 _ _ _ _ _ _ _ _
   | exact spec_BeatsOk.mono _ _ _ _ _ _ _ _ _ _ _
   | exact spec_BookOk.mono _ _
   | exact LeO.none _
   | refine LeO.ite ?_ ?_
   | refine LeO.bind ?_ (fun _ => ?_)
  ·intro y0 y1 y2 y3 y4
   unfold spec_UnbeatenOf.l0
   repeat' first
   | (with_reducible exact ih0 _ _ _ _ _)
   | (with_reducible exact ih1 _ _ _ _ _)
   | (with_reducible exact ih2 _ _ _ _ _ _ _)
   | (with_reducible exact ih3 _ _ _ _ _ _ _ _)
   | (with_reducible exact spec_BeatsOk.mono _ _ _ _ _ _ _ _ _ _ _)
   | (with_reducible exact spec_BookOk.mono _ _)
   | (with_reducible exact LeO.refl _)
   | (with_reducible exact LeO.none _)
   | (with_reducible refine LeO.ite ?_ ?_)
   | (with_reducible refine LeO.bind ?_ (fun _ => ?_))
   | exact ih0 _ _ _ _ _
   | exact ih1 _ _ _ _ _
   | exact ih2 _ _ _ _ _ _ _
   | exact ih3 _ _ _ _ _ _ _ _
   | exact spec_BeatsOk.mono _ _ _ _ _ _ _ _ _ _ _
   | exact spec_BookOk.mono _ _
   | exact LeO.none _
   | refine LeO.ite ?_ ?_
   | refine LeO.bind ?_ (fun _ => ?_)
  ·intro y0 y1 y2 y3 y4 y5 y6
   unfold spec_UnbeatenOf.l1
   repeat' first
   | (with_reducible exact ih0 _ _ _ _ _)
   | (with_reducible exact ih1 _ _ _ _ _)
   | (with_reducible exact ih2 _ _ _ _ _ _ _)
   | (with_reducible exact ih3 _ _ _ _ _ _ _ _)
   | (with_reducible exact spec_BeatsOk.mono _ _ _ _ _ _ _ _ _ _ _)
   | (with_reducible exact spec_BookOk.mono _ _)
   | (with_reducible exact LeO.refl _)
   | (with_reducible exact LeO.none _)
   | (with_reducible refine LeO.ite ?_ ?_)
   | (with_reducible refine LeO.bind ?_ (fun _ => ?_))
   | exact ih0 _ _ _ _ _
   | exact ih1 _ _ _ _ _
   | exact ih2 _ _ _ _ _ _ _
   | exact ih3 _ _ _ _ _ _ _ _
   | exact spec_BeatsOk.mono _ _ _ _ _ _ _ _ _ _ _
   | exact spec_BookOk.mono _ _
   | exact LeO.none _
   | refine LeO.ite ?_ ?_
   | refine LeO.bind ?_ (fun _ => ?_)
  ·intro y0 y1 y2 y3 y4 y5 y6 y7
   unfold spec_UnbeatenOf.j3
   repeat' first
   | (with_reducible exact ih0 _ _ _ _ _)
   | (with_reducible exact ih1 _ _ _ _ _)
   | (with_reducible exact ih2 _ _ _ _ _ _ _)
   | (with_reducible exact ih3 _ _ _ _ _ _ _ _)
   | (with_reducible exact spec_BeatsOk.mono _ _ _ _ _ _ _ _ _ _ _)
   | (with_reducible exact spec_BookOk.mono _ _)
   | (with_reducible exact LeO.refl _)
   | (with_reducible exact LeO.none _)
   | (with_reducible refine LeO.ite ?_ ?_)
   | (with_reducible refine LeO.bind ?_ (fun _ => ?_))
   | exact ih0 _ _ _ _ _
   | exact ih1 _ _ _ _ _
   | exact ih2 _ _ _ _ _ _ _
   | exact ih3 _ _ _ _ _ _ _ _
   | exact spec_BeatsOk.mono _ _ _ _ _ _ _ _ _ _ _
   | exact spec_BookOk.mono _ _
   | exact LeO.none _
   | refine LeO.ite ?_ ?_
   | refine LeO.bind ?_ (fun _ => ?_)
theorem spec_UnbeatenOf.mono : ∀ a0 a1 a2 k, LeO (spec_UnbeatenOf.f k a0 a1 a2) (spec_UnbeatenOf.f (k + 1) a0 a1 a2) := by
 intro a0 a1 a2 k
 obtain ⟨ih0, ih1, ih2, ih3⟩ := spec_UnbeatenOf.mono_l k
 unfold spec_UnbeatenOf.f
 repeat' first
   | (with_reducible exact ih0 _ _ _ _ _)
   | (with_reducible exact ih1 _ _ _ _ _)
   | (with_reducible exact ih2 _ _ _ _ _ _ _)
   | (with_reducible exact ih3 _ _ _ _ _ _ _ _)
   | (with_reducible exact spec_BeatsOk.mono _ _ _ _ _ _ _ _ _ _ _)
   | (with_reducible exact spec_BookOk.mono _ _)
   | (with_reducible exact LeO.refl _)
   | (with_reducible exact LeO.none _)
   | (with_reducible refine LeO.ite ?_ ?_)
   | (with_reducible refine LeO.bind ?_ (fun _ => ?_))
   | exact ih0 _ _ _ _ _
   | exact ih1 _ _ _ _ _
   | exact ih2 _ _ _ _ _ _ _
   | exact ih3 _ _ _ _ _ _ _ _
   | exact spec_BeatsOk.mono _ _ _ _ _ _ _ _ _ _ _
   | exact spec_BookOk.mono _ _
   | exact LeO.none _
   | refine LeO.ite ?_ ?_
   | refine LeO.bind ?_ (fun _ => ?_)
def spec_UnbeatenOf.T11 : Bool × List (List Nat × List Nat) := (true, [([], []), ([], []), ([0, 1], [0, 1]), ([2], [2]), ([], []), ([], []), ([3, 4, 5], [3, 4, 5]), ([6], [6]), ([7, 6], [7]), ([8], [8]), ([8], [8]), ([9, 10, 8], [8, 9, 10]), ([11, 8], [8, 11]), ([8], [8]), ([8], [8]), ([13, 14, 8], [8, 13, 14]), ([15, 8], [8, 15]), ([12, 16, 8, 8], [8, 12, 16]), ([17, 8], [8, 17]), ([8, 18], [8, 18]), ([19, 17, 0, 1, 2, 3, 4, 5, 6, 7, 8, 9, 10, 11, 12, 13, 14, 15, 16, 17, 18, 19], [19])])
def spec_UnbeatenOf.B11 : List Nat := [0, 0, 3, 7, 0, 0, 63, 127, 255, 511, 511, 2047, 4095, 511, 511, 25087, 57855, 131071, 262143, 524287, 1048575]
theorem spec_UnbeatenOf.tab11 : rtab .any (opsOf Try.f51 11) = spec_UnbeatenOf.T11 := by kernel_rfl
theorem spec_UnbeatenOf.bits11 : waitsOk spec_UnbeatenOf.T11.2 spec_UnbeatenOf.B11 = true := by kernel_rfl
set_option maxHeartbeats 8000000 in
set_option maxRecDepth 100000 in
theorem spec_UnbeatenOf.calls (k : Nat) (A0 : Option Addr) (c0 : Nat) (l0 : List (S46)) (a1 : Int) (a2 : Int) (r : List Int) (w : World) (hr0 : Kd.C k46 w A0 l0.length l0) (hc0 : l0.length ≤ c0) (h : spec_UnbeatenOf.f k l0 a1 a2 = some r) :
  Calls Try.prog 51 #[.slice A0 l0.length c0, .int .i64 a1, .int .i64 a2] w fun e w' => ∃ v0_ : Value, e = .returned (v0_) ∧ Kd.R (Kd.int .i64) 3 w' w.heap.size (fun _ => True) v0_ r ∧ Below w.heap.size w w' := by
 have hu46 := Try.underlying46
 have HR0 := Aside0.mk hr0
 have HC0 := Aside0.mk hc0
 clear hr0 hc0
 have HB := Aside0.mk (Below.refl w.heap.size w)
 have H : ((some (([] : List Int) : List Int)).bind fun y140 => ((spec_BookOk.f k l0).bind fun t143 => (if t143 = true then ((spec_l1In.f a1 0 2).bind fun t144 => (if t144 = true then ((spec_l1In.f a2 0 7).bind fun t145 => (spec_UnbeatenOf.j0 k l0 a1 a2 y140 (!t145))) else (spec_UnbeatenOf.j0 k l0 a1 a2 y140 true))) else (spec_UnbeatenOf.j0 k l0 a1 a2 y140 true)))) = some r := h
 clear h
 obtain ⟨y140, hy140⟩ : ∃ y_ : List Int, y_ = (([] : List Int)) := ⟨_, rfl⟩
 replace H : ((spec_BookOk.f k l0).bind fun t143 => (if t143 = true then ((spec_l1In.f a1 0 2).bind fun t144 => (if t144 = true then ((spec_l1In.f a2 0 7).bind fun t145 => (spec_UnbeatenOf.j0 k l0 a1 a2 y140 (!t145))) else (spec_UnbeatenOf.j0 k l0 a1 a2 y140 true))) else (spec_UnbeatenOf.j0 k l0 a1 a2 y140 true))) = some r := by first | (rw [hy140]; with_reducible exact H) | (have H2_ := (Option.bind_some _ _).symm.trans H; rw [hy140]; with_reducible exact H2_) | (have H2_ := (Option.bind_some _ _).symm.trans H; with_reducible exact H2_) | with_reducible exact H | (rw [hy140]; exact H) | exact H
 have Ny140 := Aside0.mk hy140
 clear hy140
 have HC4 := Aside0.mk H
 clear H
 go_enter Try.func51, Try.ntmps51
 go_upto_region 2 with (first | ((with_reducible refine gate_dst (N := 11) rfl ?_); refine Kd.R_lit (Kd.int .i64) _ 3 ?hg (N := 11) ?hd (xs := ([] : List Int)) (inner := []) (ok := fun _ => True) (okp := fun _ => True) ?hr ?hp (fun _ hk => hk) trivial (Below.refl _ _) (Nat.le_refl _) (by simp) ?_; (case hd => rfl); (case hg => rfl); (case hr => first | (go_simp; done) | (go_simp; rfl)); (case hp => exact (Reps.none _ _)); intro v141 w5 ho6 hb hg_ hnew_; clear hg_ hnew_; (first | rw [← Ny140.out] at ho6 | (simp only [Int.reduceToNat] at ho6; rw [← Ny140.out] at ho6)); have n0_ := Aside0.mk (Kd.R_lower ho6 (below_size bh)); have n1_ := Aside0.mk (below_step bh hb); clear HB; have HO142 := n0_; have HB := n1_; clear n0_ n1_ hb ho6))
 (try simp only [Act.put, List.setIfInBounds_toArray, List.set_cons_zero, List.set_cons_succ])
 go_cut [24] (fun v24 wc => ∃ (kq : Nat) (x24_3 : Bool), v24 = .bool x24_3 ∧ Aside0 (spec_UnbeatenOf.j0 kq l0 a1 a2 y140 x24_3 = some r) ∧ Aside0 (kq ≤ k) ∧ Aside0 (Kd.R (Kd.int .i64) 3 wc w.heap.size (fun _ => True) v141 y140) ∧ Aside0 (Below w.heap.size w wc))
 case first =>
  have H := HC4.out
  clear HC4
  replace H := Option.bind_eq_some_iff.mp H
  obtain ⟨t143, A70, H⟩ := H
  replace H : (if t143 = true then ((spec_l1In.f a1 0 2).bind fun t144 => (if t144 = true then ((spec_l1In.f a2 0 7).bind fun t145 => (spec_UnbeatenOf.j0 k l0 a1 a2 y140 (!t145))) else (spec_UnbeatenOf.j0 k l0 a1 a2 y140 true))) else (spec_UnbeatenOf.j0 k l0 a1 a2 y140 true)) = some r := H
  have A7 := Aside0.mk A70
  clear A70
  by_cases c8 : t143 = true
  ·subst c8
   have H1 : ((spec_l1In.f a1 0 2).bind fun t144 => (if t144 = true then ((spec_l1In.f a2 0 7).bind fun t145 => (spec_UnbeatenOf.j0 k l0 a1 a2 y140 (!t145))) else (spec_UnbeatenOf.j0 k l0 a1 a2 y140 true))) = some r := by rw [if_pos rfl] at H; exact H
   clear H
   have H := H1
   clear H1
   replace H := Option.bind_eq_some_iff.mp H
   obtain ⟨t144, A90, H⟩ := H
   replace H : (if t144 = true then ((spec_l1In.f a2 0 7).bind fun t145 => (spec_UnbeatenOf.j0 k l0 a1 a2 y140 (!t145))) else (spec_UnbeatenOf.j0 k l0 a1 a2 y140 true)) = some r := H
   have A9 := Aside0.mk A90
   clear A90
   by_cases c10 : t144 = true
   ·subst c10
    have H1 : ((spec_l1In.f a2 0 7).bind fun t145 => (spec_UnbeatenOf.j0 k l0 a1 a2 y140 (!t145))) = some r := by rw [if_pos rfl] at H; exact H
    clear H
    have H := H1
    clear H1
    replace H := Option.bind_eq_some_iff.mp H
    obtain ⟨t145, A110, H⟩ := H
    replace H : (spec_UnbeatenOf.j0 k l0 a1 a2 y140 (!t145)) = some r := H
    have A11 := Aside0.mk A110
    clear A110
    have H' := Aside0.mk H
    clear H
    go_wp2_with (first | ((with_reducible refine gate_callee (f := 25) rfl ?_); refine goesL_ (some 13) rfl rfl Try.func25 kr rfl #[.slice A0 l0.length c0] rfl lm ?_; (with_reducible refine (spec_BookOk.calls k _ _ l0 true _ ?side1 ?side2 A7.out).mono ?_); (case side1 => repeat (first | exact (Kd.C_below HR0.out HB.out) | (with_reducible refine Kd.C_alloc ?_ _) | (with_reducible refine Kd.C_drewN ?_ _) | (with_reducible refine Kd.C_drew ?_))); (case side2 => exact HC0.out); rintro e w12 ⟨rfl, hb⟩; refine ⟨_, rfl, ?_⟩; have n0_ := Aside0.mk (Kd.R_below (rz HO142) hb); have n1_ := Aside0.mk (below_step bh hb); clear HO142 HB; have HO142 := n0_; have HB := n1_; clear n0_ n1_; (try clear hb); (try clear hb2); (try clear hk); (try clear hi)) | (go_at_call 32; (with_reducible refine (spec_l1In.calls a1 0 2 true _ A9.out).mono ?_); rintro e w' ⟨rfl, ⟨nd, rfl⟩⟩) | (go_at_call 32; (with_reducible refine (spec_l1In.calls a2 0 7 t145 _ A11.out).mono ?_); rintro e w' ⟨rfl, ⟨nd, rfl⟩⟩))
    go_meet
    case rel => exact ⟨_, (!t145), (by first | rfl | (simp; done) | (simp [*]; done)), H', ⟨by first | omega | exact Nat.le_refl _⟩, ⟨rz HO142⟩, ⟨by exact bh⟩⟩
   ·replace c10 := Bool.eq_false_iff.mpr c10
    subst c10
    have H1 : (spec_UnbeatenOf.j0 k l0 a1 a2 y140 true) = some r := by rw [if_neg (show ¬ (false = true) by decide)] at H; exact H
    clear H
    have H := H1
    clear H1
    have H' := Aside0.mk H
    clear H
    go_wp2_with (first | ((with_reducible refine gate_callee (f := 25) rfl ?_); refine goesL_ (some 13) rfl rfl Try.func25 kr rfl #[.slice A0 l0.length c0] rfl lm ?_; (with_reducible refine (spec_BookOk.calls k _ _ l0 true _ ?side1 ?side2 A7.out).mono ?_); (case side1 => repeat (first | exact (Kd.C_below HR0.out HB.out) | (with_reducible refine Kd.C_alloc ?_ _) | (with_reducible refine Kd.C_drewN ?_ _) | (with_reducible refine Kd.C_drew ?_))); (case side2 => exact HC0.out); rintro e w13 ⟨rfl, hb⟩; refine ⟨_, rfl, ?_⟩; have n0_ := Aside0.mk (Kd.R_below (rz HO142) hb); have n1_ := Aside0.mk (below_step bh hb); clear HO142 HB; have HO142 := n0_; have HB := n1_; clear n0_ n1_; (try clear hb); (try clear hb2); (try clear hk); (try clear hi)) | (go_at_call 32; (with_reducible refine (spec_l1In.calls a1 0 2 false _ A9.out).mono ?_); rintro e w' ⟨rfl, ⟨nd, rfl⟩⟩))
    go_meet
    case rel => exact ⟨_, (true), (by first | rfl | (simp; done) | (simp [*]; done)), H', ⟨by first | omega | exact Nat.le_refl _⟩, ⟨rz HO142⟩, ⟨by exact bh⟩⟩
  ·replace c8 := Bool.eq_false_iff.mpr c8
   subst c8
   have H1 : (spec_UnbeatenOf.j0 k l0 a1 a2 y140 true) = some r := by rw [if_neg (show ¬ (false = true) by decide)] at H; exact H
   clear H
   have H := H1
   clear H1
   have H' := Aside0.mk H
   clear H
   go_wp2_with (first | ((with_reducible refine gate_callee (f := 25) rfl ?_); refine goesL_ (some 13) rfl rfl Try.func25 kr rfl #[.slice A0 l0.length c0] rfl lm ?_; (with_reducible refine (spec_BookOk.calls k _ _ l0 false _ ?side1 ?side2 A7.out).mono ?_); (case side1 => repeat (first | exact (Kd.C_below HR0.out HB.out) | (with_reducible refine Kd.C_alloc ?_ _) | (with_reducible refine Kd.C_drewN ?_ _) | (with_reducible refine Kd.C_drew ?_))); (case side2 => exact HC0.out); rintro e w14 ⟨rfl, hb⟩; refine ⟨_, rfl, ?_⟩; have n0_ := Aside0.mk (Kd.R_below (rz HO142) hb); have n1_ := Aside0.mk (below_step bh hb); clear HO142 HB; have HO142 := n0_; have HB := n1_; clear n0_ n1_; (try clear hb); (try clear hb2); (try clear hk); (try clear hi)))
   go_meet
   case rel => exact ⟨_, (true), (by first | rfl | (simp; done) | (simp [*]; done)), H', ⟨by first | omega | exact Nat.le_refl _⟩, ⟨rz HO142⟩, ⟨by exact bh⟩⟩
 case rest =>
  clear HC4
  try clear c1
  try clear c2
  try clear p2
  try clear c5
  try clear c8
  try clear c10
  obtain ⟨kq, x24_3, rfl, HA, HJ3, HO_7, HB⟩ := hcut
  cases kq with
  | zero => exact absurd HA.out (by simp [spec_UnbeatenOf.j0])
  | succ kj3 =>
   have H := HA.out
   clear HA
   simp only [spec_UnbeatenOf.j0] at H
   by_cases c15 : x24_3 = true
   ·subst c15
    have H1 : (some y140) = some r := by rw [if_pos rfl] at H; exact H
    clear H
    have H := H1
    clear H1
    obtain rfl := Option.some.inj H
    go_wp2
    go_ret
    exact ⟨_, by first | rfl | (simp [errW_none, errW_some] <;> rfl) | (simp [*, errW_none, errW_some] <;> rfl), by (with_reducible repeat (first | apply Kd.R_alloc | apply Kd.R_drewN | apply Kd.R_drew)); exact HO_7.out, by exact bh⟩
   ·replace c15 := Bool.eq_false_iff.mpr c15
    subst c15
    have H1 : (spec_UnbeatenOf.l0 kj3 l0 a1 a2 y140 0) = some r := by rw [if_neg (show ¬ (false = true) by decide)] at H; exact H
    clear H
    have H := H1
    clear H1
    have H' := Aside0.mk H
    clear H
    go_wp2
    go_loopg [7, 8] kj3 (fun kq v7 v8 w' => ∃ (x7_2 : List Int) (x8_2 : Int), v8 = .int .i64 x8_2 ∧ Aside0 (spec_UnbeatenOf.l0 kq l0 a1 a2 x7_2 x8_2 = some r) ∧ Aside0 (kq ≤ kj3) ∧ Aside0 (Kd.R (Kd.int .i64) 3 w' w.heap.size (fun _ => True) v7 x7_2) ∧ Aside0 (Below w.heap.size w w'))
    case atStart => exact ⟨(y140), (0), (by first | rfl | (simp; done) | (simp [*]; done)), H', ⟨Nat.le_refl _⟩, ⟨rz HO_7⟩, ⟨by exact bh⟩⟩
    case round =>
     clear H'
     try clear c1
     try clear c2
     try clear p2
     try clear c5
     try clear c8
     try clear c10
     try clear c15
     try clear p2
     obtain ⟨x7_2, x8_2, rfl, HA, HK2, HO_7, HB⟩ := hrel
     cases gk with
     | zero => exact absurd HA.out (by simp [spec_UnbeatenOf.l0])
     | succ k2 =>
      have H := HA.out
      clear HA
      simp only [spec_UnbeatenOf.l0] at H
      by_cases c16 : x8_2 < (l0.length : Int)
      ·rw [if_pos c16] at H
       have c16b0 : decide (x8_2 < (l0.length : Int)) = true := decide_eq_true c16
       clear c16
       by_cases c17 : 0 ≤ x8_2
       ·rw [if_pos c17] at H
        have c17b0 : decide (0 ≤ x8_2) = true := decide_eq_true c17
        clear c17
        replace H := Option.bind_eq_some_iff.mp H
        obtain ⟨t147, A180, H⟩ := H
        replace H : (spec_UnbeatenOf.l1 k2 l0 a1 a2 x7_2 x8_2 t147 0) = some r := H
        have A18 := Aside0.mk A180
        clear A180
        have H' := Aside0.mk H
        clear H
        have p146 : 0 ≤ (x8_2 : Int) := oda
        have q146 : x8_2 < (l0.length : Int) := oda
        obtain ⟨ad146, e146, hx146_0, hx146_1, hx146_2, hx146_3, hx146_4⟩ := at_T46 HR0.out x8_2 p146 q146
        cases e146
        replace hx146_0 := (HB.out.cell (World.block_lt_of_cell? w _ hx146_0)).trans hx146_0
        replace hx146_1 := (HB.out.cell (World.block_lt_of_cell? w _ hx146_1)).trans hx146_1
        replace hx146_2 := (HB.out.cell (World.block_lt_of_cell? w _ hx146_2)).trans hx146_2
        replace hx146_3 := (HB.out.cell (World.block_lt_of_cell? w _ hx146_3)).trans hx146_3
        replace hx146_4 := (HB.out.cell (World.block_lt_of_cell? w _ hx146_4)).trans hx146_4
        replace p146 := eq_true p146
        replace q146 := eq_true q146
        go_wp2_with (first | ((with_reducible refine gate_callee (f := 58) rfl ?_); refine goesL_ (some 38) rfl rfl Try.func58 kr rfl #[.agg #[.int .i64 ((rd_T46 l0 x8_2).f0), .int .i64 ((rd_T46 l0 x8_2).f1), .int .i64 ((rd_T46 l0 x8_2).f2), .int .i64 ((rd_T46 l0 x8_2).f3), .bool ((rd_T46 l0 x8_2).f4)], .int .i64 a1, .int .i64 a2] rfl lm ?_; (with_reducible refine (spec_l6Applies.calls ((rd_T46 l0 x8_2).f0) ((rd_T46 l0 x8_2).f1) ((rd_T46 l0 x8_2).f2) ((rd_T46 l0 x8_2).f3) ((rd_T46 l0 x8_2).f4) a1 a2 t147 _ A18.out).mono ?_); rintro e w19 ⟨rfl, hb⟩; refine ⟨_, rfl, ?_⟩; have n0_ := Aside0.mk (Kd.R_below (rz HO_7) hb); have n1_ := Aside0.mk (below_step bh hb); clear HO_7 HB; have HO_7 := n0_; have HB := n1_; clear n0_ n1_; (try clear hb); (try clear hb2); (try clear hk); (try clear hi)))
        go_loopg [9, 10] k2 (fun kq v9 v10 w' => ∃ (x9_3 : Bool) (x10_3 : Int), v9 = .bool x9_3 ∧ v10 = .int .i64 x10_3 ∧ Aside0 (spec_UnbeatenOf.l1 kq l0 a1 a2 x7_2 x8_2 x9_3 x10_3 = some r) ∧ Aside0 (kq ≤ k2) ∧ Aside0 (Kd.R (Kd.int .i64) 3 w' w.heap.size (fun _ => True) u7 x7_2) ∧ Aside0 (Below w.heap.size w w'))
        case atStart => exact ⟨(t147), (0), (by first | rfl | (simp; done) | (simp [*]; done)), (by first | rfl | (simp; done) | (simp [*]; done)), H', ⟨Nat.le_refl _⟩, ⟨rz HO_7⟩, ⟨by exact bh⟩⟩
        case round =>
         clear H'
         try clear c1
         try clear p1
         try clear q1
         try clear hx1
         try clear c2
         try clear p2
         try clear c5
         try clear c8
         try clear c10
         try clear p14
         try clear q14
         try clear hx14
         try clear c15
         try clear c16
         try clear c16b0
         try clear c17
         try clear c17b0
         try clear hx146_0
         try clear hx146_1
         try clear hx146_2
         try clear hx146_3
         try clear hx146_4
         try clear p146
         try clear p2
         try clear q146
         obtain ⟨x9_3, x10_3, rfl, rfl, HA, HK3, HO_7, HB⟩ := hrel
         cases gk with
         | zero => exact absurd HA.out (by simp [spec_UnbeatenOf.l1])
         | succ k3 =>
          have H := HA.out
          clear HA
          simp only [spec_UnbeatenOf.l1] at H
          have HC20 := Aside0.mk H
          clear H
          go_upto_region 9 with (fail)
          go_cut [45] (fun v45 wc => ∃ (kq : Nat) (x45_19 : Bool), v45 = .bool x45_19 ∧ Aside0 (spec_UnbeatenOf.j3 kq l0 a1 a2 x7_2 x8_2 x9_3 x10_3 x45_19 = some r) ∧ Aside0 (kq ≤ k3) ∧ Aside0 (Kd.R (Kd.int .i64) 3 wc w.heap.size (fun _ => True) u7 x7_2) ∧ Aside0 (Below w.heap.size w wc))
          case first =>
           have H := HC20.out
           clear HC20
           by_cases c21 : x10_3 < (l0.length : Int)
           ·rw [if_pos c21] at H
            have c21b0 : decide (x10_3 < (l0.length : Int)) = true := decide_eq_true c21
            clear c21
            (first | rw [c21b0] | (simp only [i64_w, i32_w]; rw [c21b0]) | skip)
            have H' := Aside0.mk H
            clear H
            go_wp2
            go_meet
            case rel => exact ⟨_, (x9_3), (by first | rfl | (simp; done) | (simp [*]; done)), H', ⟨by have := HJ3.out; have := HK2.out; have := HK3.out; first | omega | exact Nat.le_refl _⟩, ⟨rz HO_7⟩, ⟨by exact bh⟩⟩
           ·rw [if_neg c21] at H
            have c21b0 : decide (x10_3 < (l0.length : Int)) = false := decide_eq_false c21
            clear c21
            (first | rw [c21b0] | (simp only [i64_w, i32_w]; rw [c21b0]) | skip)
            have H' := Aside0.mk H
            clear H
            go_wp2
            go_meet
            case rel => exact ⟨_, (false), (by first | rfl | (simp; done) | (simp [*]; done)), H', ⟨by have := HJ3.out; have := HK2.out; have := HK3.out; first | omega | exact Nat.le_refl _⟩, ⟨rz HO_7⟩, ⟨by exact bh⟩⟩
          case rest =>
           clear HC20
           try clear c1
           try clear p1
           try clear q1
           try clear hx1
           try clear c2
           try clear p2
           try clear c5
           try clear c8
           try clear c10
           try clear p14
           try clear q14
           try clear hx14
           try clear c15
           try clear c16
           try clear c16b0
           try clear c17
           try clear c17b0
           try clear c21
           try clear c21b0
           try clear hx146_0
           try clear hx146_1
           try clear hx146_2
           try clear hx146_3
           try clear hx146_4
           try clear p1
           try clear p14
           try clear p146
           try clear p2
           try clear q1
           try clear q14
           try clear q146
           obtain ⟨kq, x45_19, rfl, HA, HJ19, HO_7, HB⟩ := hcut
           cases kq with
           | zero => exact absurd HA.out (by simp [spec_UnbeatenOf.j3])
           | succ kj19 =>
            have H := HA.out
            clear HA
            simp only [spec_UnbeatenOf.j3] at H
            by_cases c22 : x45_19 = true
            ·subst c22
             have H1 : (if 0 ≤ x10_3 then (if x10_3 < (l0.length : Int) then ((spec_l6Applies.f ((rd_T46 l0 x10_3).f0) ((rd_T46 l0 x10_3).f1) ((rd_T46 l0 x10_3).f2) ((rd_T46 l0 x10_3).f3) ((rd_T46 l0 x10_3).f4) a1 a2).bind fun t149 => (if t149 = true then (if 0 ≤ x8_2 then (if x8_2 < (l0.length : Int) then ((spec_BeatsOk.f kj19 ((rd_T46 l0 x10_3).f0) ((rd_T46 l0 x10_3).f1) ((rd_T46 l0 x10_3).f2) ((rd_T46 l0 x10_3).f3) ((rd_T46 l0 x10_3).f4) ((rd_T46 l0 x8_2).f0) ((rd_T46 l0 x8_2).f1) ((rd_T46 l0 x8_2).f2) ((rd_T46 l0 x8_2).f3) ((rd_T46 l0 x8_2).f4)).bind fun t152 => (spec_UnbeatenOf.l1 kj19 l0 a1 a2 x7_2 x8_2 (!t152) (wrap64 (x10_3 + 1)))) else (none)) else (none)) else (spec_UnbeatenOf.l1 kj19 l0 a1 a2 x7_2 x8_2 true (wrap64 (x10_3 + 1))))) else (none)) else (none)) = some r := by rw [if_pos rfl] at H; exact H
             clear H
             have H := H1
             clear H1
             by_cases c23 : 0 ≤ x10_3
             ·rw [if_pos c23] at H
              have c23b0 : decide (0 ≤ x10_3) = true := decide_eq_true c23
              clear c23
              by_cases c24 : x10_3 < (l0.length : Int)
              ·rw [if_pos c24] at H
               have c24b0 : decide (x10_3 < (l0.length : Int)) = true := decide_eq_true c24
               clear c24
               replace H := Option.bind_eq_some_iff.mp H
               obtain ⟨t149, A250, H⟩ := H
               replace H : (if t149 = true then (if 0 ≤ x8_2 then (if x8_2 < (l0.length : Int) then ((spec_BeatsOk.f kj19 ((rd_T46 l0 x10_3).f0) ((rd_T46 l0 x10_3).f1) ((rd_T46 l0 x10_3).f2) ((rd_T46 l0 x10_3).f3) ((rd_T46 l0 x10_3).f4) ((rd_T46 l0 x8_2).f0) ((rd_T46 l0 x8_2).f1) ((rd_T46 l0 x8_2).f2) ((rd_T46 l0 x8_2).f3) ((rd_T46 l0 x8_2).f4)).bind fun t152 => (spec_UnbeatenOf.l1 kj19 l0 a1 a2 x7_2 x8_2 (!t152) (wrap64 (x10_3 + 1)))) else (none)) else (none)) else (spec_UnbeatenOf.l1 kj19 l0 a1 a2 x7_2 x8_2 true (wrap64 (x10_3 + 1)))) = some r := H
               have A25 := Aside0.mk A250
               clear A250
               by_cases c26 : t149 = true
               ·subst c26
                have H1 : (if 0 ≤ x8_2 then (if x8_2 < (l0.length : Int) then ((spec_BeatsOk.f kj19 ((rd_T46 l0 x10_3).f0) ((rd_T46 l0 x10_3).f1) ((rd_T46 l0 x10_3).f2) ((rd_T46 l0 x10_3).f3) ((rd_T46 l0 x10_3).f4) ((rd_T46 l0 x8_2).f0) ((rd_T46 l0 x8_2).f1) ((rd_T46 l0 x8_2).f2) ((rd_T46 l0 x8_2).f3) ((rd_T46 l0 x8_2).f4)).bind fun t152 => (spec_UnbeatenOf.l1 kj19 l0 a1 a2 x7_2 x8_2 (!t152) (wrap64 (x10_3 + 1)))) else (none)) else (none)) = some r := by rw [if_pos rfl] at H; exact H
                clear H
                have H := H1
                clear H1
                by_cases c27 : 0 ≤ x8_2
                ·rw [if_pos c27] at H
                 have c27b0 : decide (0 ≤ x8_2) = true := decide_eq_true c27
                 clear c27
                 by_cases c28 : x8_2 < (l0.length : Int)
                 ·rw [if_pos c28] at H
                  have c28b0 : decide (x8_2 < (l0.length : Int)) = true := decide_eq_true c28
                  clear c28
                  replace H := Option.bind_eq_some_iff.mp H
                  obtain ⟨t152, A290, H⟩ := H
                  replace H : (spec_UnbeatenOf.l1 kj19 l0 a1 a2 x7_2 x8_2 (!t152) (wrap64 (x10_3 + 1))) = some r := H
                  have A29 := Aside0.mk A290
                  clear A290
                  have H' := Aside0.mk H
                  clear H
                  try go_wp2
                  have n0_ := Aside0.mk (Kd.R_drew HO_7.out)
                  have n1_ := Aside0.mk (below_drew1 HB.out)
                  clear HO_7 HB
                  have HO_7 := n0_
                  have HB := n1_
                  clear n0_ n1_
                  have p148 : 0 ≤ (x10_3 : Int) := oda
                  have q148 : x10_3 < (l0.length : Int) := oda
                  obtain ⟨ad148, e148, hx148_0, hx148_1, hx148_2, hx148_3, hx148_4⟩ := at_T46 HR0.out x10_3 p148 q148
                  have hw148_4 := hx148_4
                  have hw148_3 := hx148_3
                  have hw148_2 := hx148_2
                  have hw148_1 := hx148_1
                  have hw148_0 := hx148_0
                  obtain rfl : ad146 = ad148 := (by injection e148)
                  replace hx148_0 := (HB.out.cell (World.block_lt_of_cell? w _ hx148_0)).trans hx148_0
                  replace hx148_1 := (HB.out.cell (World.block_lt_of_cell? w _ hx148_1)).trans hx148_1
                  replace hx148_2 := (HB.out.cell (World.block_lt_of_cell? w _ hx148_2)).trans hx148_2
                  replace hx148_3 := (HB.out.cell (World.block_lt_of_cell? w _ hx148_3)).trans hx148_3
                  replace hx148_4 := (HB.out.cell (World.block_lt_of_cell? w _ hx148_4)).trans hx148_4
                  replace p148 := eq_true p148
                  replace q148 := eq_true q148
                  have p150 : 0 ≤ (x10_3 : Int) := oda
                  have q150 : x10_3 < (l0.length : Int) := oda
                  obtain ⟨ad150, e150, hx150_0, hx150_1, hx150_2, hx150_3, hx150_4⟩ := at_T46 HR0.out x10_3 p150 q150
                  have hw150_4 := hx150_4
                  have hw150_3 := hx150_3
                  have hw150_2 := hx150_2
                  have hw150_1 := hx150_1
                  have hw150_0 := hx150_0
                  obtain rfl : ad146 = ad150 := (by injection e150)
                  replace hx150_0 := (HB.out.cell (World.block_lt_of_cell? w _ hx150_0)).trans hx150_0
                  replace hx150_1 := (HB.out.cell (World.block_lt_of_cell? w _ hx150_1)).trans hx150_1
                  replace hx150_2 := (HB.out.cell (World.block_lt_of_cell? w _ hx150_2)).trans hx150_2
                  replace hx150_3 := (HB.out.cell (World.block_lt_of_cell? w _ hx150_3)).trans hx150_3
                  replace hx150_4 := (HB.out.cell (World.block_lt_of_cell? w _ hx150_4)).trans hx150_4
                  replace p150 := eq_true p150
                  replace q150 := eq_true q150
                  have p151 : 0 ≤ (x8_2 : Int) := oda
                  have q151 : x8_2 < (l0.length : Int) := oda
                  obtain ⟨ad151, e151, hx151_0, hx151_1, hx151_2, hx151_3, hx151_4⟩ := at_T46 HR0.out x8_2 p151 q151
                  have hw151_4 := hx151_4
                  have hw151_3 := hx151_3
                  have hw151_2 := hx151_2
                  have hw151_1 := hx151_1
                  have hw151_0 := hx151_0
                  obtain rfl : ad146 = ad151 := (by injection e151)
                  replace hx151_0 := (HB.out.cell (World.block_lt_of_cell? w _ hx151_0)).trans hx151_0
                  replace hx151_1 := (HB.out.cell (World.block_lt_of_cell? w _ hx151_1)).trans hx151_1
                  replace hx151_2 := (HB.out.cell (World.block_lt_of_cell? w _ hx151_2)).trans hx151_2
                  replace hx151_3 := (HB.out.cell (World.block_lt_of_cell? w _ hx151_3)).trans hx151_3
                  replace hx151_4 := (HB.out.cell (World.block_lt_of_cell? w _ hx151_4)).trans hx151_4
                  replace p151 := eq_true p151
                  replace q151 := eq_true q151
                  refine start_ (n := 21) (S := fun w' => w'.cell? (ad146.add ((x10_3).toNat * 5)) = some (.int .i64 ((rd_T46 l0 x10_3).f0)) ∧ w'.cell? ⟨(ad146.add ((x10_3).toNat * 5)).block, (ad146.add ((x10_3).toNat * 5)).off + 1, none⟩ = some (.int .i64 ((rd_T46 l0 x10_3).f1)) ∧ w'.cell? ⟨(ad146.add ((x10_3).toNat * 5)).block, (ad146.add ((x10_3).toNat * 5)).off + 2, none⟩ = some (.int .i64 ((rd_T46 l0 x10_3).f2)) ∧ w'.cell? ⟨(ad146.add ((x10_3).toNat * 5)).block, (ad146.add ((x10_3).toNat * 5)).off + 3, none⟩ = some (.int .i64 ((rd_T46 l0 x10_3).f3)) ∧ w'.cell? ⟨(ad146.add ((x10_3).toNat * 5)).block, (ad146.add ((x10_3).toNat * 5)).off + 4, none⟩ = some (.bool ((rd_T46 l0 x10_3).f4)) ∧ w'.cell? (ad146.add ((x10_3).toNat * 5)) = some (.int .i64 ((rd_T46 l0 x10_3).f0)) ∧ w'.cell? ⟨(ad146.add ((x10_3).toNat * 5)).block, (ad146.add ((x10_3).toNat * 5)).off + 1, none⟩ = some (.int .i64 ((rd_T46 l0 x10_3).f1)) ∧ w'.cell? ⟨(ad146.add ((x10_3).toNat * 5)).block, (ad146.add ((x10_3).toNat * 5)).off + 2, none⟩ = some (.int .i64 ((rd_T46 l0 x10_3).f2)) ∧ w'.cell? ⟨(ad146.add ((x10_3).toNat * 5)).block, (ad146.add ((x10_3).toNat * 5)).off + 3, none⟩ = some (.int .i64 ((rd_T46 l0 x10_3).f3)) ∧ w'.cell? ⟨(ad146.add ((x10_3).toNat * 5)).block, (ad146.add ((x10_3).toNat * 5)).off + 4, none⟩ = some (.bool ((rd_T46 l0 x10_3).f4)) ∧ w'.cell? (ad146.add ((x8_2).toNat * 5)) = some (.int .i64 ((rd_T46 l0 x8_2).f0)) ∧ w'.cell? ⟨(ad146.add ((x8_2).toNat * 5)).block, (ad146.add ((x8_2).toNat * 5)).off + 1, none⟩ = some (.int .i64 ((rd_T46 l0 x8_2).f1)) ∧ w'.cell? ⟨(ad146.add ((x8_2).toNat * 5)).block, (ad146.add ((x8_2).toNat * 5)).off + 2, none⟩ = some (.int .i64 ((rd_T46 l0 x8_2).f2)) ∧ w'.cell? ⟨(ad146.add ((x8_2).toNat * 5)).block, (ad146.add ((x8_2).toNat * 5)).off + 3, none⟩ = some (.int .i64 ((rd_T46 l0 x8_2).f3)) ∧ w'.cell? ⟨(ad146.add ((x8_2).toNat * 5)).block, (ad146.add ((x8_2).toNat * 5)).off + 4, none⟩ = some (.bool ((rd_T46 l0 x8_2).f4))) (ds := []) #[F,F,F,F,F,F,F,F,F,F,F,F,F,F,F,F,F,F,F,F,F] kr rfl rfl ⟨((HB.out.cell (World.block_lt_of_cell? w _ hw148_0)).trans hw148_0), ((HB.out.cell (World.block_lt_of_cell? w _ hw148_1)).trans hw148_1), ((HB.out.cell (World.block_lt_of_cell? w _ hw148_2)).trans hw148_2), ((HB.out.cell (World.block_lt_of_cell? w _ hw148_3)).trans hw148_3), ((HB.out.cell (World.block_lt_of_cell? w _ hw148_4)).trans hw148_4), ((HB.out.cell (World.block_lt_of_cell? w _ hw150_0)).trans hw150_0), ((HB.out.cell (World.block_lt_of_cell? w _ hw150_1)).trans hw150_1), ((HB.out.cell (World.block_lt_of_cell? w _ hw150_2)).trans hw150_2), ((HB.out.cell (World.block_lt_of_cell? w _ hw150_3)).trans hw150_3), ((HB.out.cell (World.block_lt_of_cell? w _ hw150_4)).trans hw150_4), ((HB.out.cell (World.block_lt_of_cell? w _ hw151_0)).trans hw151_0), ((HB.out.cell (World.block_lt_of_cell? w _ hw151_1)).trans hw151_1), ((HB.out.cell (World.block_lt_of_cell? w _ hw151_2)).trans hw151_2), ((HB.out.cell (World.block_lt_of_cell? w _ hw151_3)).trans hw151_3), ((HB.out.cell (World.block_lt_of_cell? w _ hw151_4)).trans hw151_4)⟩ (fun hHeld => ?_); refine with_tabW spec_UnbeatenOf.tab11 spec_UnbeatenOf.bits11 (fun HT_ HW_ => ?_)
                  generalize wc.drew = w30 at HO_7 HB hx148_0 hx148_1 hx148_2 hx148_3 hx148_4 hx150_0 hx150_1 hx150_2 hx150_3 hx150_4 hx151_0 hx151_1 hx151_2 hx151_3 hx151_4 hHeld ⊢
                  refine pu 0 (some 48) #[T,F,F,F,F,F,F,F,F,F,F,F,F,F,F,F,F,F,F,F,F] (any_of HT_.out kr) ?_
                  refine pu 1 (some 49) #[T,T,F,F,F,F,F,F,F,F,F,F,F,F,F,F,F,F,F,F,F] (any_of HT_.out kr) ?_
                  refine pu 2 (some 50) #[T,T,T,F,F,F,F,F,F,F,F,F,F,F,F,F,F,F,F,F,F] (any_of HT_.out kr) ?_
                  refine pu 4 (some 52) #[T,T,T,F,T,F,F,F,F,F,F,F,F,F,F,F,F,F,F,F,F] (any_of HT_.out kr) ?_
                  refine pu 5 (some 53) #[T,T,T,F,T,T,F,F,F,F,F,F,F,F,F,F,F,F,F,F,F] (any_of HT_.out kr) ?_
                  refine tk15 3 (some 51) #[T,T,T,T,T,T,F,F,F,F,F,F,F,F,F,F,F,F,F,F,F] (take_ofW HT_.out HW_.out kr) ?_
                  refine one_ (i := 6) (N := some 54) #[T,T,T,T,T,T,T,F,F,F,F,F,F,F,F,F,F,F,F,F,F] rfl rfl (one_of HT_.out kr) (by decide) (fun K hK => ?_)
                  refine goes_ Try.func58 kr rfl #[.agg #[.int .i64 ((rd_T46 l0 x10_3).f0), .int .i64 ((rd_T46 l0 x10_3).f1), .int .i64 ((rd_T46 l0 x10_3).f2), .int .i64 ((rd_T46 l0 x10_3).f3), .bool ((rd_T46 l0 x10_3).f4)], .int .i64 a1, .int .i64 a2] (by rfl) rfl rfl lm ?_
                  with_reducible refine (spec_l6Applies.calls ((rd_T46 l0 x10_3).f0) ((rd_T46 l0 x10_3).f1) ((rd_T46 l0 x10_3).f2) ((rd_T46 l0 x10_3).f3) ((rd_T46 l0 x10_3).f4) a1 a2 true _ A25.out).mono ?_
                  rintro e w31 ⟨rfl, hb⟩
                  refine ⟨_, rfl, ?_⟩
                  have n0_ := Aside0.mk (Kd.R_below (rz HO_7) hb)
                  have n1_ := Aside0.mk (below_step bh hb)
                  clear HO_7 HB
                  have HO_7 := n0_
                  have HB := n1_
                  clear n0_ n1_
                  (try clear hb)
                  (try clear hb2)
                  (try clear hk)
                  (try clear hi)
                  refine hK.out _ _ ⟨((HB.out.cell (World.block_lt_of_cell? w _ hw148_0)).trans hw148_0), ((HB.out.cell (World.block_lt_of_cell? w _ hw148_1)).trans hw148_1), ((HB.out.cell (World.block_lt_of_cell? w _ hw148_2)).trans hw148_2), ((HB.out.cell (World.block_lt_of_cell? w _ hw148_3)).trans hw148_3), ((HB.out.cell (World.block_lt_of_cell? w _ hw148_4)).trans hw148_4), ((HB.out.cell (World.block_lt_of_cell? w _ hw150_0)).trans hw150_0), ((HB.out.cell (World.block_lt_of_cell? w _ hw150_1)).trans hw150_1), ((HB.out.cell (World.block_lt_of_cell? w _ hw150_2)).trans hw150_2), ((HB.out.cell (World.block_lt_of_cell? w _ hw150_3)).trans hw150_3), ((HB.out.cell (World.block_lt_of_cell? w _ hw150_4)).trans hw150_4), ((HB.out.cell (World.block_lt_of_cell? w _ hw151_0)).trans hw151_0), ((HB.out.cell (World.block_lt_of_cell? w _ hw151_1)).trans hw151_1), ((HB.out.cell (World.block_lt_of_cell? w _ hw151_2)).trans hw151_2), ((HB.out.cell (World.block_lt_of_cell? w _ hw151_3)).trans hw151_3), ((HB.out.cell (World.block_lt_of_cell? w _ hw151_4)).trans hw151_4)⟩ (fun hHeld => ?_)
                  clear hK K
                  refine norm_ (a' := ?_) ?_ ?_
                  rotate_left
                  ·show Act.put _ (some 54) _ = _
                   simp only [Act.put, List.setIfInBounds_toArray, List.set_cons_zero, List.set_cons_succ, i64_w, i32_w]
                   rfl
                  refine pu 7 (some 55) #[T,T,T,T,T,T,T,T,F,F,F,F,F,F,F,F,F,F,F,F,F] (any_of HT_.out kr) ?_
                  refine pu 8 (some 56) #[T,T,T,T,T,T,T,T,T,F,F,F,F,F,F,F,F,F,F,F,F] (any_of HT_.out kr) ?_
                  refine pu 9 (some 57) #[T,T,T,T,T,T,T,T,T,T,F,F,F,F,F,F,F,F,F,F,F] (any_of HT_.out kr) ?_
                  refine pu 10 (some 58) #[T,T,T,T,T,T,T,T,T,T,T,F,F,F,F,F,F,F,F,F,F] (any_of HT_.out kr) ?_
                  refine pu 11 (some 59) #[T,T,T,T,T,T,T,T,T,T,T,T,F,F,F,F,F,F,F,F,F] (any_of HT_.out kr) ?_
                  refine pu 13 (some 61) #[T,T,T,T,T,T,T,T,T,T,T,T,F,T,F,F,F,F,F,F,F] (any_of HT_.out kr) ?_
                  refine pu 14 (some 62) #[T,T,T,T,T,T,T,T,T,T,T,T,F,T,T,F,F,F,F,F,F] (any_of HT_.out kr) ?_
                  refine pu 15 (some 63) #[T,T,T,T,T,T,T,T,T,T,T,T,F,T,T,T,F,F,F,F,F] (any_of HT_.out kr) ?_
                  refine tk15 12 (some 60) #[T,T,T,T,T,T,T,T,T,T,T,T,T,T,T,T,F,F,F,F,F] (take_ofW HT_.out HW_.out kr) ?_
                  refine tk15 16 (some 64) #[T,T,T,T,T,T,T,T,T,T,T,T,T,T,T,T,T,F,F,F,F] (take_ofW HT_.out HW_.out kr) ?_
                  refine one_ (i := 17) (N := some 65) #[T,T,T,T,T,T,T,T,T,T,T,T,T,T,T,T,T,T,F,F,F] rfl rfl (one_of HT_.out kr) (by decide) (fun K hK => ?_)
                  refine goes_ Try.func59 kr rfl #[.agg #[.int .i64 ((rd_T46 l0 x10_3).f0), .int .i64 ((rd_T46 l0 x10_3).f1), .int .i64 ((rd_T46 l0 x10_3).f2), .int .i64 ((rd_T46 l0 x10_3).f3), .bool ((rd_T46 l0 x10_3).f4)], .agg #[.int .i64 ((rd_T46 l0 x8_2).f0), .int .i64 ((rd_T46 l0 x8_2).f1), .int .i64 ((rd_T46 l0 x8_2).f2), .int .i64 ((rd_T46 l0 x8_2).f3), .bool ((rd_T46 l0 x8_2).f4)]] (by rfl) rfl rfl lm ?_
                  with_reducible refine (spec_BeatsOk.calls kj19 ((rd_T46 l0 x10_3).f0) ((rd_T46 l0 x10_3).f1) ((rd_T46 l0 x10_3).f2) ((rd_T46 l0 x10_3).f3) ((rd_T46 l0 x10_3).f4) ((rd_T46 l0 x8_2).f0) ((rd_T46 l0 x8_2).f1) ((rd_T46 l0 x8_2).f2) ((rd_T46 l0 x8_2).f3) ((rd_T46 l0 x8_2).f4) t152 _ A29.out).mono ?_
                  rintro e w32 ⟨rfl, hb⟩
                  refine ⟨_, rfl, ?_⟩
                  have n0_ := Aside0.mk (Kd.R_below (rz HO_7) hb)
                  have n1_ := Aside0.mk (below_step bh hb)
                  clear HO_7 HB
                  have HO_7 := n0_
                  have HB := n1_
                  clear n0_ n1_
                  (try clear hb)
                  (try clear hb2)
                  (try clear hk)
                  (try clear hi)
                  refine hK.out _ _ ⟨((HB.out.cell (World.block_lt_of_cell? w _ hw148_0)).trans hw148_0), ((HB.out.cell (World.block_lt_of_cell? w _ hw148_1)).trans hw148_1), ((HB.out.cell (World.block_lt_of_cell? w _ hw148_2)).trans hw148_2), ((HB.out.cell (World.block_lt_of_cell? w _ hw148_3)).trans hw148_3), ((HB.out.cell (World.block_lt_of_cell? w _ hw148_4)).trans hw148_4), ((HB.out.cell (World.block_lt_of_cell? w _ hw150_0)).trans hw150_0), ((HB.out.cell (World.block_lt_of_cell? w _ hw150_1)).trans hw150_1), ((HB.out.cell (World.block_lt_of_cell? w _ hw150_2)).trans hw150_2), ((HB.out.cell (World.block_lt_of_cell? w _ hw150_3)).trans hw150_3), ((HB.out.cell (World.block_lt_of_cell? w _ hw150_4)).trans hw150_4), ((HB.out.cell (World.block_lt_of_cell? w _ hw151_0)).trans hw151_0), ((HB.out.cell (World.block_lt_of_cell? w _ hw151_1)).trans hw151_1), ((HB.out.cell (World.block_lt_of_cell? w _ hw151_2)).trans hw151_2), ((HB.out.cell (World.block_lt_of_cell? w _ hw151_3)).trans hw151_3), ((HB.out.cell (World.block_lt_of_cell? w _ hw151_4)).trans hw151_4)⟩ (fun hHeld => ?_)
                  clear hK K
                  refine norm_ (a' := ?_) ?_ ?_
                  rotate_left
                  ·show Act.put _ (some 65) _ = _
                   simp only [Act.put, List.setIfInBounds_toArray, List.set_cons_zero, List.set_cons_succ, i64_w, i32_w]
                   rfl
                  refine pu 18 (some 66) #[T,T,T,T,T,T,T,T,T,T,T,T,T,T,T,T,T,T,T,F,F] (any_of HT_.out kr) ?_
                  refine pu 19 (some 67) #[T,T,T,T,T,T,T,T,T,T,T,T,T,T,T,T,T,T,T,T,F] (any_of HT_.out kr) ?_
                  refine pu 20 (some 9) #[T,T,T,T,T,T,T,T,T,T,T,T,T,T,T,T,T,T,T,T,T] (any_of HT_.out kr) ?_
                  refine done_ (done_of HT_.out kr) ?_
                  try go_wp2
                  go_roundg kj19
                  case measure => have := HJ3.out; have := HK2.out; have := HK3.out; have := HJ19.out; omega
                  case rel => exact ⟨(!t152), (wrap64 (x10_3 + 1)), (by first | rfl | (simp; done) | (simp [*]; done)), (by first | rfl | (simp; done) | (simp [*]; done)), H', ⟨by have := HJ3.out; have := HK2.out; have := HK3.out; have := HJ19.out; omega⟩, ⟨rz HO_7⟩, ⟨by exact bh⟩⟩
                 ·rw [if_neg c28] at H
                  exact absurd H (by simp)
                ·rw [if_neg c27] at H
                 exact absurd H (by simp)
               ·replace c26 := Bool.eq_false_iff.mpr c26
                subst c26
                have H1 : (spec_UnbeatenOf.l1 kj19 l0 a1 a2 x7_2 x8_2 true (wrap64 (x10_3 + 1))) = some r := by rw [if_neg (show ¬ (false = true) by decide)] at H; exact H
                clear H
                have H := H1
                clear H1
                have H' := Aside0.mk H
                clear H
                try go_wp2
                have n0_ := Aside0.mk (Kd.R_drew HO_7.out)
                have n1_ := Aside0.mk (below_drew1 HB.out)
                clear HO_7 HB
                have HO_7 := n0_
                have HB := n1_
                clear n0_ n1_
                have p148 : 0 ≤ (x10_3 : Int) := oda
                have q148 : x10_3 < (l0.length : Int) := oda
                obtain ⟨ad148, e148, hx148_0, hx148_1, hx148_2, hx148_3, hx148_4⟩ := at_T46 HR0.out x10_3 p148 q148
                have hw148_4 := hx148_4
                have hw148_3 := hx148_3
                have hw148_2 := hx148_2
                have hw148_1 := hx148_1
                have hw148_0 := hx148_0
                obtain rfl : ad146 = ad148 := (by injection e148)
                replace hx148_0 := (HB.out.cell (World.block_lt_of_cell? w _ hx148_0)).trans hx148_0
                replace hx148_1 := (HB.out.cell (World.block_lt_of_cell? w _ hx148_1)).trans hx148_1
                replace hx148_2 := (HB.out.cell (World.block_lt_of_cell? w _ hx148_2)).trans hx148_2
                replace hx148_3 := (HB.out.cell (World.block_lt_of_cell? w _ hx148_3)).trans hx148_3
                replace hx148_4 := (HB.out.cell (World.block_lt_of_cell? w _ hx148_4)).trans hx148_4
                replace p148 := eq_true p148
                replace q148 := eq_true q148
                refine start_ (n := 21) (S := fun w' => w'.cell? (ad146.add ((x10_3).toNat * 5)) = some (.int .i64 ((rd_T46 l0 x10_3).f0)) ∧ w'.cell? ⟨(ad146.add ((x10_3).toNat * 5)).block, (ad146.add ((x10_3).toNat * 5)).off + 1, none⟩ = some (.int .i64 ((rd_T46 l0 x10_3).f1)) ∧ w'.cell? ⟨(ad146.add ((x10_3).toNat * 5)).block, (ad146.add ((x10_3).toNat * 5)).off + 2, none⟩ = some (.int .i64 ((rd_T46 l0 x10_3).f2)) ∧ w'.cell? ⟨(ad146.add ((x10_3).toNat * 5)).block, (ad146.add ((x10_3).toNat * 5)).off + 3, none⟩ = some (.int .i64 ((rd_T46 l0 x10_3).f3)) ∧ w'.cell? ⟨(ad146.add ((x10_3).toNat * 5)).block, (ad146.add ((x10_3).toNat * 5)).off + 4, none⟩ = some (.bool ((rd_T46 l0 x10_3).f4))) (ds := []) #[F,F,F,F,F,F,F,F,F,F,F,F,F,F,F,F,F,F,F,F,F] kr rfl rfl ⟨((HB.out.cell (World.block_lt_of_cell? w _ hw148_0)).trans hw148_0), ((HB.out.cell (World.block_lt_of_cell? w _ hw148_1)).trans hw148_1), ((HB.out.cell (World.block_lt_of_cell? w _ hw148_2)).trans hw148_2), ((HB.out.cell (World.block_lt_of_cell? w _ hw148_3)).trans hw148_3), ((HB.out.cell (World.block_lt_of_cell? w _ hw148_4)).trans hw148_4)⟩ (fun hHeld => ?_); refine with_tabW spec_UnbeatenOf.tab11 spec_UnbeatenOf.bits11 (fun HT_ HW_ => ?_)
                generalize wc.drew = w33 at HO_7 HB hx148_0 hx148_1 hx148_2 hx148_3 hx148_4 hHeld ⊢
                refine pu 0 (some 48) #[T,F,F,F,F,F,F,F,F,F,F,F,F,F,F,F,F,F,F,F,F] (any_of HT_.out kr) ?_
                refine pu 1 (some 49) #[T,T,F,F,F,F,F,F,F,F,F,F,F,F,F,F,F,F,F,F,F] (any_of HT_.out kr) ?_
                refine pu 2 (some 50) #[T,T,T,F,F,F,F,F,F,F,F,F,F,F,F,F,F,F,F,F,F] (any_of HT_.out kr) ?_
                refine pu 4 (some 52) #[T,T,T,F,T,F,F,F,F,F,F,F,F,F,F,F,F,F,F,F,F] (any_of HT_.out kr) ?_
                refine pu 5 (some 53) #[T,T,T,F,T,T,F,F,F,F,F,F,F,F,F,F,F,F,F,F,F] (any_of HT_.out kr) ?_
                refine tk5 3 (some 51) #[T,T,T,T,T,T,F,F,F,F,F,F,F,F,F,F,F,F,F,F,F] (take_ofW HT_.out HW_.out kr) ?_
                refine one_ (i := 6) (N := some 54) #[T,T,T,T,T,T,T,F,F,F,F,F,F,F,F,F,F,F,F,F,F] rfl rfl (one_of HT_.out kr) (by decide) (fun K hK => ?_)
                refine goes_ Try.func58 kr rfl #[.agg #[.int .i64 ((rd_T46 l0 x10_3).f0), .int .i64 ((rd_T46 l0 x10_3).f1), .int .i64 ((rd_T46 l0 x10_3).f2), .int .i64 ((rd_T46 l0 x10_3).f3), .bool ((rd_T46 l0 x10_3).f4)], .int .i64 a1, .int .i64 a2] (by rfl) rfl rfl lm ?_
                with_reducible refine (spec_l6Applies.calls ((rd_T46 l0 x10_3).f0) ((rd_T46 l0 x10_3).f1) ((rd_T46 l0 x10_3).f2) ((rd_T46 l0 x10_3).f3) ((rd_T46 l0 x10_3).f4) a1 a2 false _ A25.out).mono ?_
                rintro e w34 ⟨rfl, hb⟩
                refine ⟨_, rfl, ?_⟩
                have n0_ := Aside0.mk (Kd.R_below (rz HO_7) hb)
                have n1_ := Aside0.mk (below_step bh hb)
                clear HO_7 HB
                have HO_7 := n0_
                have HB := n1_
                clear n0_ n1_
                (try clear hb)
                (try clear hb2)
                (try clear hk)
                (try clear hi)
                refine hK.out _ _ ⟨((HB.out.cell (World.block_lt_of_cell? w _ hw148_0)).trans hw148_0), ((HB.out.cell (World.block_lt_of_cell? w _ hw148_1)).trans hw148_1), ((HB.out.cell (World.block_lt_of_cell? w _ hw148_2)).trans hw148_2), ((HB.out.cell (World.block_lt_of_cell? w _ hw148_3)).trans hw148_3), ((HB.out.cell (World.block_lt_of_cell? w _ hw148_4)).trans hw148_4)⟩ (fun hHeld => ?_)
                clear hK K
                refine norm_ (a' := ?_) ?_ ?_
                rotate_left
                ·show Act.put _ (some 54) _ = _
                 simp only [Act.put, List.setIfInBounds_toArray, List.set_cons_zero, List.set_cons_succ, i64_w, i32_w]
                 rfl
                refine pu 7 (some 55) #[T,T,T,T,T,T,T,T,F,F,F,F,F,F,F,F,F,F,F,F,F] (any_of HT_.out kr) ?_
                refine pu 8 (some 56) #[T,T,T,T,T,T,T,T,T,F,F,F,F,F,F,F,F,F,F,F,F] (any_of HT_.out kr) ?_
                refine pure_ (i := 9) (N := some 57) (v := undef) (a' := ?_) #[T,T,T,T,T,T,T,T,T,T,F,F,F,F,F,F,F,F,F,F,F] rfl rfl (any_of HT_.out kr) (fun _ _ _ h => h) (Or.inr ⟨by rfl, rfl⟩) ?_ ?_
                rotate_left
                ·simp only [Act.put, List.setIfInBounds_toArray, List.set_cons_zero, List.set_cons_succ, i64_w, i32_w]
                 rfl
                refine pure_ (i := 10) (N := some 58) (v := undef) (a' := ?_) #[T,T,T,T,T,T,T,T,T,T,T,F,F,F,F,F,F,F,F,F,F] rfl rfl (any_of HT_.out kr) (fun _ _ _ h => h) (Or.inr ⟨by rfl, rfl⟩) ?_ ?_
                rotate_left
                ·simp only [Act.put, List.setIfInBounds_toArray, List.set_cons_zero, List.set_cons_succ, i64_w, i32_w]
                 rfl
                refine pure_ (i := 11) (N := some 59) (v := undef) (a' := ?_) #[T,T,T,T,T,T,T,T,T,T,T,T,F,F,F,F,F,F,F,F,F] rfl rfl (any_of HT_.out kr) (fun _ _ _ h => h) (Or.inr ⟨by rfl, rfl⟩) ?_ ?_
                rotate_left
                ·simp only [Act.put, List.setIfInBounds_toArray, List.set_cons_zero, List.set_cons_succ, i64_w, i32_w]
                 rfl
                refine pure_ (i := 12) (N := some 60) (v := undef) (a' := ?_) #[T,T,T,T,T,T,T,T,T,T,T,T,T,F,F,F,F,F,F,F,F] rfl rfl (any_of HT_.out kr) (fun _ _ _ h => h) (Or.inr ⟨by rfl, rfl⟩) ?_ ?_
                rotate_left
                ·simp only [Act.put, List.setIfInBounds_toArray, List.set_cons_zero, List.set_cons_succ, i64_w, i32_w]
                 rfl
                refine pure_ (i := 13) (N := some 61) (v := undef) (a' := ?_) #[T,T,T,T,T,T,T,T,T,T,T,T,T,T,F,F,F,F,F,F,F] rfl rfl (any_of HT_.out kr) (fun _ _ _ h => h) (Or.inr ⟨by rfl, rfl⟩) ?_ ?_
                rotate_left
                ·simp only [Act.put, List.setIfInBounds_toArray, List.set_cons_zero, List.set_cons_succ, i64_w, i32_w]
                 rfl
                refine pure_ (i := 14) (N := some 62) (v := undef) (a' := ?_) #[T,T,T,T,T,T,T,T,T,T,T,T,T,T,T,F,F,F,F,F,F] rfl rfl (any_of HT_.out kr) (fun _ _ _ h => h) (Or.inr ⟨by rfl, rfl⟩) ?_ ?_
                rotate_left
                ·simp only [Act.put, List.setIfInBounds_toArray, List.set_cons_zero, List.set_cons_succ, i64_w, i32_w]
                 rfl
                refine pure_ (i := 15) (N := some 63) (v := undef) (a' := ?_) #[T,T,T,T,T,T,T,T,T,T,T,T,T,T,T,T,F,F,F,F,F] rfl rfl (any_of HT_.out kr) (fun _ _ _ h => h) (Or.inr ⟨by rfl, rfl⟩) ?_ ?_
                rotate_left
                ·simp only [Act.put, List.setIfInBounds_toArray, List.set_cons_zero, List.set_cons_succ, i64_w, i32_w]
                 rfl
                refine pure_ (i := 16) (N := some 64) (v := undef) (a' := ?_) #[T,T,T,T,T,T,T,T,T,T,T,T,T,T,T,T,T,F,F,F,F] rfl rfl (any_of HT_.out kr) (fun _ _ _ h => h) (Or.inr ⟨by rfl, rfl⟩) ?_ ?_
                rotate_left
                ·simp only [Act.put, List.setIfInBounds_toArray, List.set_cons_zero, List.set_cons_succ, i64_w, i32_w]
                 rfl
                refine pure_ (i := 17) (N := some 65) (v := undef) (a' := ?_) #[T,T,T,T,T,T,T,T,T,T,T,T,T,T,T,T,T,T,F,F,F] rfl rfl (any_of HT_.out kr) (fun _ _ _ h => h) (Or.inr ⟨by rfl, rfl⟩) ?_ ?_
                rotate_left
                ·simp only [Act.put, List.setIfInBounds_toArray, List.set_cons_zero, List.set_cons_succ, i64_w, i32_w]
                 rfl
                refine pure_ (i := 18) (N := some 66) (v := undef) (a' := ?_) #[T,T,T,T,T,T,T,T,T,T,T,T,T,T,T,T,T,T,T,F,F] rfl rfl (any_of HT_.out kr) (fun _ _ _ h => h) (Or.inr ⟨by rfl, rfl⟩) ?_ ?_
                rotate_left
                ·simp only [Act.put, List.setIfInBounds_toArray, List.set_cons_zero, List.set_cons_succ, i64_w, i32_w]
                 rfl
                refine pu 19 (some 67) #[T,T,T,T,T,T,T,T,T,T,T,T,T,T,T,T,T,T,T,T,F] (any_of HT_.out kr) ?_
                refine pu 20 (some 9) #[T,T,T,T,T,T,T,T,T,T,T,T,T,T,T,T,T,T,T,T,T] (any_of HT_.out kr) ?_
                refine done_ (done_of HT_.out kr) ?_
                try go_wp2
                go_roundg kj19
                case measure => have := HJ3.out; have := HK2.out; have := HK3.out; have := HJ19.out; omega
                case rel => exact ⟨(true), (wrap64 (x10_3 + 1)), (by first | rfl | (simp; done) | (simp [*]; done)), (by first | rfl | (simp; done) | (simp [*]; done)), H', ⟨by have := HJ3.out; have := HK2.out; have := HK3.out; have := HJ19.out; omega⟩, ⟨rz HO_7⟩, ⟨by exact bh⟩⟩
              ·rw [if_neg c24] at H
               exact absurd H (by simp)
             ·rw [if_neg c23] at H
              exact absurd H (by simp)
            ·replace c22 := Bool.eq_false_iff.mpr c22
             subst c22
             have H1 : (if x9_3 = true then (if x7_2.length < 17592186044416 then (spec_UnbeatenOf.l0 kj19 l0 a1 a2 (x7_2 ++ [x8_2]) (wrap64 (x8_2 + 1))) else (none)) else (spec_UnbeatenOf.l0 kj19 l0 a1 a2 x7_2 (wrap64 (x8_2 + 1)))) = some r := by rw [if_neg (show ¬ (false = true) by decide)] at H; exact H
             clear H
             have H := H1
             clear H1
             by_cases c35 : x9_3 = true
             ·subst c35
              have H1 : (if x7_2.length < 17592186044416 then (spec_UnbeatenOf.l0 kj19 l0 a1 a2 (x7_2 ++ [x8_2]) (wrap64 (x8_2 + 1))) else (none)) = some r := by rw [if_pos rfl] at H; exact H
              clear H
              have H := H1
              clear H1
              by_cases c36 : x7_2.length < 17592186044416
              ·rw [if_pos c36] at H
               have LMc36 := Aside0.mk c36
               clear c36
               obtain ⟨y153, hy153⟩ : ∃ y_ : List Int, y_ = (x7_2 ++ [x8_2]) := ⟨_, rfl⟩
               replace H : (spec_UnbeatenOf.l0 kj19 l0 a1 a2 y153 (wrap64 (x8_2 + 1))) = some r := by first | (rw [hy153]; with_reducible exact H) | (have H2_ := (Option.bind_some _ _).symm.trans H; rw [hy153]; with_reducible exact H2_) | (have H2_ := (Option.bind_some _ _).symm.trans H; with_reducible exact H2_) | with_reducible exact H | (rw [hy153]; exact H) | exact H
               have Ny153 := Aside0.mk hy153
               clear hy153
               have H' := Aside0.mk H
               clear H
               go_wp2_with (first | ((with_reducible refine gate_builtin (b := .append) (xs := #[.tmp 69, .tmp 71]) rfl ?_); at_builtin; refine Kd.R_append (Kd.int .i64) (w0 := w) w.heap.size rfl (.tmp 69) (.tmp 71) 31 3 (.int .i64 0) 8 rfl Try.underlying31 info3 rfl (by decide) (by omega) u7 x7_2 x8_2 [.int .i64 x8_2] (fun _ => True) (fun _ => False) rfl rfl ?aP (fun _ hk => hk.elim) ?aF ?aO ?aB ?aS ?aL ?_; (case aP => exact rfl); (case aB => exact bh); (case aF => exact (fun _ _ => trivial)); (case aO => exact (rz HO_7)); (case aS => exact (below_size bh)); (case aL => have := LMc36.out; omega); intro v154 w37 ho hb hg hat; rw [← Ny153.out] at ho; have n0_ := Aside0.mk (hb); have n1_ := Aside0.mk (ho); clear HB HO_7; have HB := n0_; have HO155 := n1_; clear n0_ n1_ ho hb hg hat))
               go_roundg kj19
               case measure => have := HJ3.out; have := HK2.out; have := HK3.out; have := HJ19.out; omega
               case rel => exact ⟨(y153), (wrap64 (x8_2 + 1)), (by first | rfl | (simp; done) | (simp [*]; done)), H', ⟨by have := HJ3.out; have := HK2.out; have := HK3.out; have := HJ19.out; omega⟩, ⟨rz HO155⟩, ⟨by exact bh⟩⟩
              ·rw [if_neg c36] at H
               exact absurd H (by simp)
             ·replace c35 := Bool.eq_false_iff.mpr c35
              subst c35
              have H1 : (spec_UnbeatenOf.l0 kj19 l0 a1 a2 x7_2 (wrap64 (x8_2 + 1))) = some r := by rw [if_neg (show ¬ (false = true) by decide)] at H; exact H
              clear H
              have H := H1
              clear H1
              have H' := Aside0.mk H
              clear H
              go_wp2
              go_roundg kj19
              case measure => have := HJ3.out; have := HK2.out; have := HK3.out; have := HJ19.out; omega
              case rel => exact ⟨(x7_2), (wrap64 (x8_2 + 1)), (by first | rfl | (simp; done) | (simp [*]; done)), H', ⟨by have := HJ3.out; have := HK2.out; have := HK3.out; have := HJ19.out; omega⟩, ⟨rz HO_7⟩, ⟨by exact bh⟩⟩
       ·rw [if_neg c17] at H
        exact absurd H (by simp)
      ·rw [if_neg c16] at H
       have c16b0 : decide (x8_2 < (l0.length : Int)) = false := decide_eq_false c16
       clear c16
       obtain rfl := Option.some.inj H
       go_wp2
       go_ret
       exact ⟨_, by first | rfl | (simp [errW_none, errW_some] <;> rfl) | (simp [*, errW_none, errW_some] <;> rfl), by (with_reducible repeat (first | apply Kd.R_alloc | apply Kd.R_drewN | apply Kd.R_drew)); exact HO_7.out, by exact bh⟩

end Go.Proofs.Ytnandbgcejkonaa.QFnExactIdleLaws
