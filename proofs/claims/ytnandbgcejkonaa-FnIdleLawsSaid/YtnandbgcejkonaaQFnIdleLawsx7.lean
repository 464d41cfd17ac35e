-- Printed for this claim by a turned copy of the print (wip/myprint). Lean checks it. Squeezed. Worded. Tightened.
import Derived.Test.YtnandbgcejkonaaQFnIdleLawsx0
import Derived.Test.YtnandbgcejkonaaQFnIdleLawsx5
import Derived.Test.YtnandbgcejkonaaQFnIdleLawsx6
namespace Go.Proofs.Ytnandbgcejkonaa.QFnIdleLaws
open Go.RowKit Go.Proofs.YtnandbgcejkonaaW.PrintWords Go.Proofs.YtnandbgcejkonaaW.PrintLast Go.Proofs.YtnandbgcejkonaaW.PrintMore
attribute [local go_sem] max2_int min2_int max_two min_two max_three min_three max_four min_four Opens.cell_twice   -- for this text's walks alone
set_option linter.unusedVariables false
set_option linter.unusedSimpArgs false

/-! ### spec_UnbeatenOf: function 51 -/
mutual
def spec_UnbeatenOf.j0 : Nat → List (S46) → Int → Int → List Int → Bool → Option (List Int)
 | 0, _, _, _, _, _ => none
 | k + 1, x0, x1, x2, x7, x24 => if x24 = true then (some x7) else (spec_UnbeatenOf.l0 k x0 x1 x2 x7 0)
def spec_UnbeatenOf.l0 : Nat → List (S46) → Int → Int → List Int → Int → Option (List Int)
 | 0, _, _, _, _, _ => none
 | k + 1, x0, x1, x2, x7, x8 => if x8 < (x0.length : Int) then (if 0 ≤ x8 then ((spec_l6Applies.f ((rd_T46 x0 x8).f0) ((rd_T46 x0 x8).f1) ((rd_T46 x0 x8).f2) ((rd_T46 x0 x8).f3) ((rd_T46 x0 x8).f4) x1 x2).bind fun t229 => (spec_UnbeatenOf.l1 k x0 x1 x2 x7 x8 t229 0)) else (none)) else (some x7)
def spec_UnbeatenOf.l1 : Nat → List (S46) → Int → Int → List Int → Int → Bool → Int → Option (List Int)
 | 0, _, _, _, _, _, _, _ => none
 | k + 1, x0, x1, x2, x7, x8, x9, x10 => if x10 < (x0.length : Int) then (spec_UnbeatenOf.j3 k x0 x1 x2 x7 x8 x9 x10 x9) else (spec_UnbeatenOf.j3 k x0 x1 x2 x7 x8 x9 x10 false)
def spec_UnbeatenOf.j3 : Nat → List (S46) → Int → Int → List Int → Int → Bool → Int → Bool → Option (List Int)
 | 0, _, _, _, _, _, _, _, _ => none
 | k + 1, x0, x1, x2, x7, x8, x9, x10, x45 => if x45 = true then (if 0 ≤ x10 then (if x10 < (x0.length : Int) then ((spec_l6Applies.f ((rd_T46 x0 x10).f0) ((rd_T46 x0 x10).f1) ((rd_T46 x0 x10).f2) ((rd_T46 x0 x10).f3) ((rd_T46 x0 x10).f4) x1 x2).bind fun t231 => (if t231 = true then (if 0 ≤ x8 then (if x8 < (x0.length : Int) then ((spec_BeatsOk.f k ((rd_T46 x0 x10).f0) ((rd_T46 x0 x10).f1) ((rd_T46 x0 x10).f2) ((rd_T46 x0 x10).f3) ((rd_T46 x0 x10).f4) ((rd_T46 x0 x8).f0) ((rd_T46 x0 x8).f1) ((rd_T46 x0 x8).f2) ((rd_T46 x0 x8).f3) ((rd_T46 x0 x8).f4)).bind fun t234 => (spec_UnbeatenOf.l1 k x0 x1 x2 x7 x8 (!t234) (wrap64 (x10 + 1)))) else (none)) else (none)) else (spec_UnbeatenOf.l1 k x0 x1 x2 x7 x8 true (wrap64 (x10 + 1))))) else (none)) else (none)) else (if x9 = true then (if x7.length < 17592186044416 then (spec_UnbeatenOf.l0 k x0 x1 x2 (x7 ++ [x8]) (wrap64 (x8 + 1))) else (none)) else (spec_UnbeatenOf.l0 k x0 x1 x2 x7 (wrap64 (x8 + 1))))
end
def spec_UnbeatenOf.f (k : Nat) (l0 : List (S46)) (a1 : Int) (a2 : Int) : Option (List Int) := (some (([] : List Int) : List Int)).bind fun y222 => ((spec_BookOk.f k l0).bind fun t225 => (if t225 = true then ((spec_l1In.f a1 0 2).bind fun t226 => (if t226 = true then ((spec_l1In.f a2 0 7).bind fun t227 => (spec_UnbeatenOf.j0 k l0 a1 a2 y222 (!t227))) else (spec_UnbeatenOf.j0 k l0 a1 a2 y222 true))) else (spec_UnbeatenOf.j0 k l0 a1 a2 y222 true)))
theorem spec_UnbeatenOf.mono_l : ∀ k, (∀ y0 y1 y2 y3 y4, LeO (spec_UnbeatenOf.j0 k y0 y1 y2 y3 y4) (spec_UnbeatenOf.j0 (k + 1) y0 y1 y2 y3 y4)) ∧ (∀ y0 y1 y2 y3 y4, LeO (spec_UnbeatenOf.l0 k y0 y1 y2 y3 y4) (spec_UnbeatenOf.l0 (k + 1) y0 y1 y2 y3 y4)) ∧ (∀ y0 y1 y2 y3 y4 y5 y6, LeO (spec_UnbeatenOf.l1 k y0 y1 y2 y3 y4 y5 y6) (spec_UnbeatenOf.l1 (k + 1) y0 y1 y2 y3 y4 y5 y6)) ∧ (∀ y0 y1 y2 y3 y4 y5 y6 y7, LeO (spec_UnbeatenOf.j3 k y0 y1 y2 y3 y4 y5 y6 y7) (spec_UnbeatenOf.j3 (k + 1) y0 y1 y2 y3 y4 y5 y6 y7))
 | 0 => ⟨fun _ _ _ _ _ r h => by simp [spec_UnbeatenOf.j0] at h, fun _ _ _ _ _ r h => by simp [spec_UnbeatenOf.l0] at h, fun _ _ _ _ _ _ _ r h => by simp [spec_UnbeatenOf.l1] at h, fun _ _ _ _ _ _ _ _ r h => by simp [spec_UnbeatenOf.j3] at h⟩
 | k + 1 => by
  obtain ⟨ih0, ih1, ih2, ih3⟩ := spec_UnbeatenOf.mono_l k
  refine ⟨?_, ?_, ?_, ?_⟩
  ·intro y0 y1 y2 y3 y4
   unfold spec_UnbeatenOf.j0
   repeat' first
   | (with_reducible exact ih0 _ _ _ _ _)
   | (with_reducible exact ih1 _ _ _ _ _)
   | (with_reducible exact ih2 _ _ _ _ _ _ _)
   | (with_reducible exact ih3 _ _ _ _ _ _ _ _)
   | (with_reducible exact spec_BeatsOk.mono _ _ _ _ _ _ _ _ _ _ _)
   | (with_reducible exact spec_BookOk.mono _ _)
   | (with_reducible exact LeO.refl _)
   | (with_reducible exact LeO.none _)
   | (with_reducible refine LeO.ite ?_ ?_)
   | (with_reducible refine LeO.bind ?_ (fun _ => ?_))
   | exact ih0 _ _ _ _ _
   | exact ih1 _ _ _ _ _
   | exact ih2 _ _ _ _ _ _ _
   | exact ih3 _ _ _ _ _ _ _ _
   | exact spec_BeatsOk.mono _ _ _ _ _ _ _ _ _ _ _
   | exact spec_BookOk.mono _ _
   | exact LeO.none _
   | refine LeO.ite ?_ ?_
   | refine LeO.bind ?_ (fun _ => ?_)
  ·intro y0 y1 y2 y3 y4
   unfold spec_UnbeatenOf.l0
   repeat' first
   | (with_reducible exact ih0 _ _ _ _ _)
   | (with_reducible exact ih1 _ _ _ _ _)
   | (with_reducible exact ih2 _ _ _ _ _ _ _)
   | (with_reducible exact ih3 _ _ _ _ _ _ _ _)
   | (with_reducible exact spec_BeatsOk.mono _ _ _ _ _ _ _ _ _ _ _)
   | (with_reducible exact spec_BookOk.mono _ _)
   | (with_reducible exact LeO.refl _)
   | (with_reducible exact LeO.none _)
   | (with_reducible refine LeO.ite ?_ ?_)
   | (with_reducible refine LeO.bind ?_ (fun _ => ?_))
   | exact ih0 _ _ _ _ _
   | exact ih1 _ _ _ _ _
   | exact ih2 _ _ _ _ _ _ _
   | exact ih3 _ _ _ _ _ _ _ _
   | exact spec_BeatsOk.mono _ _ _ _ _ _ _ _ _ _ _
   | exact spec_BookOk.mono _ _
   | exact LeO.none _
   | refine LeO.ite ?_ ?_
   | refine LeO.bind ?_ (fun _ => ?_)
  ·intro y0 y1 y2 y3 y4 y5 y6
   unfold spec_UnbeatenOf.l1
   repeat' first
   | (with_reducible exact ih0 _ _ _ _ _)
   | (with_reducible exact ih1 _ _ _ _ _)
   | (with_reducible exact ih2 _ _ _ _ _ _ _)
   | (with_reducible exact ih3 _ _ _ _ _ _ _ _)
   | (with_reducible exact spec_BeatsOk.mono _ _ _ _ _ _ _ _ _ _ _)
   | (with_reducible exact spec_BookOk.mono _ _)
   | (with_reducible exact LeO.refl _)
   | (with_reducible exact LeO.none _)
   | (with_reducible refine LeO.ite ?_ ?_)
   | (with_reducible refine LeO.bind ?_ (fun _ => ?_))
   | exact ih0 _ _ _ _ _
   | exact ih1 _ _ _ _ _
   | exact ih2 _ _ _ _ _ _ _
   | exact ih3 _ _ _ _ _ _ _ _
   | exact spec_BeatsOk.mono _ _ _ _ _ _ _ _ _ _ _
   | exact spec_BookOk.mono _ _
   | exact LeO.none _
   | refine LeO.ite ?_ ?_
   | refine LeO.bind ?_ (fun _ => ?_)
  ·intro y0 y1 y2 y3 y4 y5 y6 y7
   unfold spec_UnbeatenOf.j3
   repeat' first
   | (with_reducible exact ih0 _ _ _ _ _)
   | (with_reducible exact ih1 _ _ _ _ _)
   | (with_reducible exact ih2 _ _ _ _ _ _ _)
   | (with_reducible exact ih3 _ _ _ _ _ _ _ _)
   | (with_reducible exact spec_BeatsOk.mono _ _ _ _ _ _ _ _ _ _ _)
   | (with_reducible exact spec_BookOk.mono _ _)
   | (with_reducible exact LeO.refl _)
   | (with_reducible exact LeO.none _)
   | (with_reducible refine LeO.ite ?_ ?_)
   | (with_reducible refine LeO.bind ?_ (fun _ => ?_))
   | exact ih0 _ _ _ _ _
   | exact ih1 _ _ _ _ _
   | exact ih2 _ _ _ _ _ _ _
   | exact ih3 _ _ _ _ _ _ _ _
   | exact spec_BeatsOk.mono _ _ _ _ _ _ _ _ _ _ _
   | exact spec_BookOk.mono _ _
   | exact LeO.none _
   | refine LeO.ite ?_ ?_
   | refine LeO.bind ?_ (fun _ => ?_)
theorem spec_UnbeatenOf.mono : ∀ a0 a1 a2 k, LeO (spec_UnbeatenOf.f k a0 a1 a2) (spec_UnbeatenOf.f (k + 1) a0 a1 a2) := by
 intro a0 a1 a2 k
 obtain ⟨ih0, ih1, ih2, ih3⟩ := spec_UnbeatenOf.mono_l k
 unfold spec_UnbeatenOf.f
 repeat' first
   | (with_reducible exact ih0 _ _ _ _ _)
   | (with_reducible exact ih1 _ _ _ _ _)
   | (with_reducible exact ih2 _ _ _ _ _ _ _)
   | (with_reducible exact ih3 _ _ _ _ _ _ _ _)
   | (with_reducible exact spec_BeatsOk.mono _ _ _ _ _ _ _ _ _ _ _)
   | (with_reducible exact spec_BookOk.mono _ _)
   | (with_reducible exact LeO.refl _)
   | (with_reducible exact LeO.none _)
   | (with_reducible refine LeO.ite ?_ ?_)
   | (with_reducible refine LeO.bind ?_ (fun _ => ?_))
   | exact ih0 _ _ _ _ _
   | exact ih1 _ _ _ _ _
   | exact ih2 _ _ _ _ _ _ _
   | exact ih3 _ _ _ _ _ _ _ _
   | exact spec_BeatsOk.mono _ _ _ _ _ _ _ _ _ _ _
   | exact spec_BookOk.mono _ _
   | exact LeO.none _
   | refine LeO.ite ?_ ?_
   | refine LeO.bind ?_ (fun _ => ?_)
def spec_UnbeatenOf.T11 : Bool × List (List Nat × List Nat) := (true, [([], []), ([], []), ([0, 1], [0, 1]), ([2], [2]), ([], []), ([], []), ([3, 4, 5], [3, 4, 5]), ([6], [6]), ([7, 6], [7]), ([8], [8]), ([8], [8]), ([9, 10, 8], [8, 9, 10]), ([11, 8], [8, 11]), ([8], [8]), ([8], [8]), ([13, 14, 8], [8, 13, 14]), ([15, 8], [8, 15]), ([12, 16, 8, 8], [8, 12, 16]), ([17, 8], [8, 17]), ([8, 18], [8, 18]), ([19, 17, 0, 1, 2, 3, 4, 5, 6, 7, 8, 9, 10, 11, 12, 13, 14, 15, 16, 17, 18, 19], [19])])
def spec_UnbeatenOf.B11 : List Nat := [0, 0, 3, 7, 0, 0, 63, 127, 255, 511, 511, 2047, 4095, 511, 511, 25087, 57855, 131071, 262143, 524287, 1048575]
theorem spec_UnbeatenOf.tab11 : rtab .any (opsOf Try.f51 11) = spec_UnbeatenOf.T11 := by kernel_rfl
theorem spec_UnbeatenOf.bits11 : waitsOk spec_UnbeatenOf.T11.2 spec_UnbeatenOf.B11 = true := by kernel_rfl
set_option maxHeartbeats 8000000 in
set_option maxRecDepth 100000 in
theorem spec_UnbeatenOf.calls (k : Nat) (A0 : Option Addr) (c0 : Nat) (l0 : List (S46)) (a1 : Int) (a2 : Int) (r : List Int) (w : World) (hr0 : Kd.C k46 w A0 l0.length l0) (hc0 : l0.length ≤ c0) (h : spec_UnbeatenOf.f k l0 a1 a2 = some r) :
  Calls Try.prog 51 #[.slice A0 l0.length c0, .int .i64 a1, .int .i64 a2] w fun e w' => ∃ v0_ : Value, e = .returned (v0_) ∧ Kd.R (Kd.int .i64) 3 w' w.heap.size (fun _ => True) v0_ r ∧ Below w.heap.size w w' := by
 have hu46 := Try.underlying46
 have HR0 := Aside0.mk hr0
 have HC0 := Aside0.mk hc0
 clear hr0 hc0
 have HB := Aside0.mk (Below.refl w.heap.size w)
 have H : ((some (([] : List Int) : List Int)).bind fun y222 => ((spec_BookOk.f k l0).bind fun t225 => (if t225 = true then ((spec_l1In.f a1 0 2).bind fun t226 => (if t226 = true then ((spec_l1In.f a2 0 7).bind fun t227 => (spec_UnbeatenOf.j0 k l0 a1 a2 y222 (!t227))) else (spec_UnbeatenOf.j0 k l0 a1 a2 y222 true))) else (spec_UnbeatenOf.j0 k l0 a1 a2 y222 true)))) = some r := h
 clear h
 obtain ⟨y222, hy222⟩ : ∃ y_ : List Int, y_ = (([] : List Int)) := ⟨_, rfl⟩
 replace H : ((spec_BookOk.f k l0).bind fun t225 => (if t225 = true then ((spec_l1In.f a1 0 2).bind fun t226 => (if t226 = true then ((spec_l1In.f a2 0 7).bind fun t227 => (spec_UnbeatenOf.j0 k l0 a1 a2 y222 (!t227))) else (spec_UnbeatenOf.j0 k l0 a1 a2 y222 true))) else (spec_UnbeatenOf.j0 k l0 a1 a2 y222 true))) = some r := by first | (rw [hy222]; with_reducible exact H) | (have H2_ := (Option.bind_some _ _).symm.trans H; rw [hy222]; with_reducible exact H2_) | (have H2_ := (Option.bind_some _ _).symm.trans H; with_reducible exact H2_) | with_reducible exact H | (rw [hy222]; exact H) | exact H
 have Ny222 := Aside0.mk hy222
 clear hy222
 have HC4 := Aside0.mk H
 clear H
 go_enter Try.func51, Try.ntmps51
 go_upto_region 2 with (first | ((with_reducible refine gate_dst (N := 11) rfl ?_); refine Kd.R_lit (Kd.int .i64) _ 3 ?hg (N := 11) ?hd (xs := ([] : List Int)) (inner := []) (ok := fun _ => True) (okp := fun _ => True) ?hr ?hp (fun _ hk => hk) trivial (Below.refl _ _) (Nat.le_refl _) (by simp) ?_; (case hd => rfl); (case hg => rfl); (case hr => first | (go_simp; done) | (go_simp; rfl)); (case hp => exact (Reps.none _ _)); intro v223 w5 ho6 hb hg_ hnew_; clear hg_ hnew_; (first | rw [← Ny222.out] at ho6 | (simp only [Int.reduceToNat] at ho6; rw [← Ny222.out] at ho6)); have n0_ := Aside0.mk (Kd.R_lower ho6 (below_size bh)); have n1_ := Aside0.mk (below_step bh hb); clear HB; have HO224 := n0_; have HB := n1_; clear n0_ n1_ hb ho6))
 (try simp only [Act.put, List.setIfInBounds_toArray, List.set_cons_zero, List.set_cons_succ])
 go_cut [24] (fun v24 wc => ∃ (kq : Nat) (x24_3 : Bool), v24 = .bool x24_3 ∧ Aside0 (spec_UnbeatenOf.j0 kq l0 a1 a2 y222 x24_3 = some r) ∧ Aside0 (kq ≤ k) ∧ Aside0 (Kd.R (Kd.int .i64) 3 wc w.heap.size (fun _ => True) v223 y222) ∧ Aside0 (Below w.heap.size w wc))
 case first =>
  have H := HC4.out
  clear HC4
  replace H := Option.bind_eq_some_iff.mp H
  obtain ⟨t225, A70, H⟩ := H
  replace H : (if t225 = true then ((spec_l1In.f a1 0 2).bind fun t226 => (if t226 = true then ((spec_l1In.f a2 0 7).bind fun t227 => (spec_UnbeatenOf.j0 k l0 a1 a2 y222 (!t227))) else (spec_UnbeatenOf.j0 k l0 a1 a2 y222 true))) else (spec_UnbeatenOf.j0 k l0 a1 a2 y222 true)) = some r := H
  have A7 := Aside0.mk A70
  clear A70
  by_cases c8 : t225 = true
  ·subst c8
   have H1 : ((spec_l1In.f a1 0 2).bind fun t226 => (if t226 = true then ((spec_l1In.f a2 0 7).bind fun t227 => (spec_UnbeatenOf.j0 k l0 a1 a2 y222 (!t227))) else (spec_UnbeatenOf.j0 k l0 a1 a2 y222 true))) = some r := by rw [if_pos rfl] at H; exact H
   clear H
   have H := H1
   clear H1
   replace H := Option.bind_eq_some_iff.mp H
   obtain ⟨t226, A90, H⟩ := H
   replace H : (if t226 = true then ((spec_l1In.f a2 0 7).bind fun t227 => (spec_UnbeatenOf.j0 k l0 a1 a2 y222 (!t227))) else (spec_UnbeatenOf.j0 k l0 a1 a2 y222 true)) = some r := H
   have A9 := Aside0.mk A90
   clear A90
   by_cases c10 : t226 = true
   ·subst c10
    have H1 : ((spec_l1In.f a2 0 7).bind fun t227 => (spec_UnbeatenOf.j0 k l0 a1 a2 y222 (!t227))) = some r := by rw [if_pos rfl] at H; exact H
    clear H
    have H := H1
    clear H1
    replace H := Option.bind_eq_some_iff.mp H
    obtain ⟨t227, A110, H⟩ := H
    replace H : (spec_UnbeatenOf.j0 k l0 a1 a2 y222 (!t227)) = some r := H
    have A11 := Aside0.mk A110
    clear A110
    have H' := Aside0.mk H
    clear H
    go_wp2_with (first | ((with_reducible refine gate_callee (f := 25) rfl ?_); refine goesL_ (some 13) rfl rfl Try.func25 kr rfl #[.slice A0 l0.length c0] rfl lm ?_; (with_reducible refine (spec_BookOk.calls k _ _ l0 true _ ?side1 ?side2 A7.out).mono ?_); (case side1 => repeat (first | exact (Kd.C_below HR0.out HB.out) | (with_reducible refine Kd.C_alloc ?_ _) | (with_reducible refine Kd.C_drewN ?_ _) | (with_reducible refine Kd.C_drew ?_))); (case side2 => exact HC0.out); rintro e w12 ⟨rfl, hb⟩; refine ⟨_, rfl, ?_⟩; have n0_ := Aside0.mk (Kd.R_below (rz HO224) hb); have n1_ := Aside0.mk (below_step bh hb); clear HO224 HB; have HO224 := n0_; have HB := n1_; clear n0_ n1_; (try clear hb); (try clear hb2); (try clear hk); (try clear hi)) | (go_at_call 32; (with_reducible refine (spec_l1In.calls a1 0 2 true _ A9.out).mono ?_); rintro e w' ⟨rfl, ⟨nd, rfl⟩⟩) | (go_at_call 32; (with_reducible refine (spec_l1In.calls a2 0 7 t227 _ A11.out).mono ?_); rintro e w' ⟨rfl, ⟨nd, rfl⟩⟩))
    go_meet
    case rel => exact ⟨_, (!t227), (by first | rfl | (simp; done) | (simp [*]; done)), H', ⟨by first | omega | exact Nat.le_refl _⟩, ⟨rz HO224⟩, ⟨by exact bh⟩⟩
   ·replace c10 := Bool.eq_false_iff.mpr c10
    subst c10
    have H1 : (spec_UnbeatenOf.j0 k l0 a1 a2 y222 true) = some r := by rw [if_neg (show ¬ (false = true) by decide)] at H; exact H
    clear H
    have H := H1
    clear H1
    have H' := Aside0.mk H
    clear H
    go_wp2_with (first | ((with_reducible refine gate_callee (f := 25) rfl ?_); refine goesL_ (some 13) rfl rfl Try.func25 kr rfl #[.slice A0 l0.length c0] rfl lm ?_; (with_reducible refine (spec_BookOk.calls k _ _ l0 true _ ?side1 ?side2 A7.out).mono ?_); (case side1 => repeat (first | exact (Kd.C_below HR0.out HB.out) | (with_reducible refine Kd.C_alloc ?_ _) | (with_reducible refine Kd.C_drewN ?_ _) | (with_reducible refine Kd.C_drew ?_))); (case side2 => exact HC0.out); rintro e w13 ⟨rfl, hb⟩; refine ⟨_, rfl, ?_⟩; have n0_ := Aside0.mk (Kd.R_below (rz HO224) hb); have n1_ := Aside0.mk (below_step bh hb); clear HO224 HB; have HO224 := n0_; have HB := n1_; clear n0_ n1_; (try clear hb); (try clear hb2); (try clear hk); (try clear hi)) | (go_at_call 32; (with_reducible refine (spec_l1In.calls a1 0 2 false _ A9.out).mono ?_); rintro e w' ⟨rfl, ⟨nd, rfl⟩⟩))
    go_meet
    case rel => exact ⟨_, (true), (by first | rfl | (simp; done) | (simp [*]; done)), H', ⟨by first | omega | exact Nat.le_refl _⟩, ⟨rz HO224⟩, ⟨by exact bh⟩⟩
  ·replace c8 := Bool.eq_false_iff.mpr c8
   subst c8
   have H1 : (spec_UnbeatenOf.j0 k l0 a1 a2 y222 true) = some r := by rw [if_neg (show ¬ (false = true) by decide)] at H; exact H
   clear H
   have H := H1
   clear H1
   have H' := Aside0.mk H
   clear H
   go_wp2_with (first | ((with_reducible refine gate_callee (f := 25) rfl ?_); refine goesL_ (some 13) rfl rfl Try.func25 kr rfl #[.slice A0 l0.length c0] rfl lm ?_; (with_reducible refine (spec_BookOk.calls k _ _ l0 false _ ?side1 ?side2 A7.out).mono ?_); (case side1 => repeat (first | exact (Kd.C_below HR0.out HB.out) | (with_reducible refine Kd.C_alloc ?_ _) | (with_reducible refine Kd.C_drewN ?_ _) | (with_reducible refine Kd.C_drew ?_))); (case side2 => exact HC0.out); rintro e w14 ⟨rfl, hb⟩; refine ⟨_, rfl, ?_⟩; have n0_ := Aside0.mk (Kd.R_below (rz HO224) hb); have n1_ := Aside0.mk (below_step bh hb); clear HO224 HB; have HO224 := n0_; have HB := n1_; clear n0_ n1_; (try clear hb); (try clear hb2); (try clear hk); (try clear hi)))
   go_meet
   case rel => exact ⟨_, (true), (by first | rfl | (simp; done) | (simp [*]; done)), H', ⟨by first | omega | exact Nat.le_refl _⟩, ⟨rz HO224⟩, ⟨by exact bh⟩⟩
 case rest =>
  clear HC4
  try clear c1
  try clear c2
  try clear p2
  try clear c5
  try clear c8
  try clear c10
  obtain ⟨kq, x24_3, rfl, HA, HJ3, HO_7, HB⟩ := hcut
  cases kq with
  | zero => exact absurd HA.out (by simp [spec_UnbeatenOf.j0])
  | succ kj3 =>
   have H := HA.out
   clear HA
   simp only [spec_UnbeatenOf.j0] at H
   by_cases c15 : x24_3 = true
   ·subst c15
    have H1 : (some y222) = some r := by rw [if_pos rfl] at H; exact H
    clear H
    have H := H1
    clear H1
    obtain rfl := Option.some.inj H
    go_wp2
    go_ret
    exact ⟨_, by first | rfl | (simp [errW_none, errW_some] <;> rfl) | (simp [*, errW_none, errW_some] <;> rfl), by (with_reducible repeat (first | apply Kd.R_alloc | apply Kd.R_drewN | apply Kd.R_drew)); exact HO_7.out, by exact bh⟩
   ·replace c15 := Bool.eq_false_iff.mpr c15
    subst c15
    have H1 : (spec_UnbeatenOf.l0 kj3 l0 a1 a2 y222 0) = some r := by rw [if_neg (show ¬ (false = true) by decide)] at H; exact H
    clear H
    have H := H1
    clear H1
    have H' := Aside0.mk H
    clear H
    go_wp2
    go_loopg [7, 8] kj3 (fun kq v7 v8 w' => ∃ (x7_2 : List Int) (x8_2 : Int), v8 = .int .i64 x8_2 ∧ Aside0 (spec_UnbeatenOf.l0 kq l0 a1 a2 x7_2 x8_2 = some r) ∧ Aside0 (kq ≤ kj3) ∧ Aside0 (Kd.R (Kd.int .i64) 3 w' w.heap.size (fun _ => True) v7 x7_2) ∧ Aside0 (Below w.heap.size w w'))
    case atStart => exact ⟨(y222), (0), (by first | rfl | (simp; done) | (simp [*]; done)), H', ⟨Nat.le_refl _⟩, ⟨rz HO_7⟩, ⟨by exact bh⟩⟩
    case round =>
     clear H'
     try clear c1
     try clear c2
     try clear p2
     try clear c5
     try clear c8
     try clear c10
     try clear c15
     try clear p2
     obtain ⟨x7_2, x8_2, rfl, HA, HK2, HO_7, HB⟩ := hrel
     cases gk with
     | zero => exact absurd HA.out (by simp [spec_UnbeatenOf.l0])
     | succ k2 =>
      have H := HA.out
      clear HA
      simp only [spec_UnbeatenOf.l0] at H
      by_cases c16 : x8_2 < (l0.length : Int)
      ·rw [if_pos c16] at H
       have c16b0 : decide (x8_2 < (l0.length : Int)) = true := decide_eq_true c16
       clear c16
       by_cases c17 : 0 ≤ x8_2
       ·rw [if_pos c17] at H
        have c17b0 : decide (0 ≤ x8_2) = true := decide_eq_true c17
        clear c17
        replace H := Option.bind_eq_some_iff.mp H
        obtain ⟨t229, A180, H⟩ := H
        replace H : (spec_UnbeatenOf.l1 k2 l0 a1 a2 x7_2 x8_2 t229 0) = some r := H
        have A18 := Aside0.mk A180
        clear A180
        have H' := Aside0.mk H
        clear H
        have p228 : 0 ≤ (x8_2 : Int) := oda
        have q228 : x8_2 < (l0.length : Int) := oda
        obtain ⟨ad228, e228, hx228_0, hx228_1, hx228_2, hx228_3, hx228_4⟩ := at_T46 HR0.out x8_2 p228 q228
        cases e228
        replace hx228_0 := (HB.out.cell (World.block_lt_of_cell? w _ hx228_0)).trans hx228_0
        replace hx228_1 := (HB.out.cell (World.block_lt_of_cell? w _ hx228_1)).trans hx228_1
        replace hx228_2 := (HB.out.cell (World.block_lt_of_cell? w _ hx228_2)).trans hx228_2
        replace hx228_3 := (HB.out.cell (World.block_lt_of_cell? w _ hx228_3)).trans hx228_3
        replace hx228_4 := (HB.out.cell (World.block_lt_of_cell? w _ hx228_4)).trans hx228_4
        replace p228 := eq_true p228
        replace q228 := eq_true q228
        go_wp2_with (first | ((with_reducible refine gate_callee (f := 58) rfl ?_); refine goesL_ (some 38) rfl rfl Try.func58 kr rfl #[.agg #[.int .i64 ((rd_T46 l0 x8_2).f0), .int .i64 ((rd_T46 l0 x8_2).f1), .int .i64 ((rd_T46 l0 x8_2).f2), .int .i64 ((rd_T46 l0 x8_2).f3), .bool ((rd_T46 l0 x8_2).f4)], .int .i64 a1, .int .i64 a2] rfl lm ?_; (with_reducible refine (spec_l6Applies.calls ((rd_T46 l0 x8_2).f0) ((rd_T46 l0 x8_2).f1) ((rd_T46 l0 x8_2).f2) ((rd_T46 l0 x8_2).f3) ((rd_T46 l0 x8_2).f4) a1 a2 t229 _ A18.out).mono ?_); rintro e w19 ⟨rfl, hb⟩; refine ⟨_, rfl, ?_⟩; have n0_ := Aside0.mk (Kd.R_below (rz HO_7) hb); have n1_ := Aside0.mk (below_step bh hb); clear HO_7 HB; have HO_7 := n0_; have HB := n1_; clear n0_ n1_; (try clear hb); (try clear hb2); (try clear hk); (try clear hi)))
        go_loopg [9, 10] k2 (fun kq v9 v10 w' => ∃ (x9_3 : Bool) (x10_3 : Int), v9 = .bool x9_3 ∧ v10 = .int .i64 x10_3 ∧ Aside0 (spec_UnbeatenOf.l1 kq l0 a1 a2 x7_2 x8_2 x9_3 x10_3 = some r) ∧ Aside0 (kq ≤ k2) ∧ Aside0 (Kd.R (Kd.int .i64) 3 w' w.heap.size (fun _ => True) u7 x7_2) ∧ Aside0 (Below w.heap.size w w'))
        case atStart => exact ⟨(t229), (0), (by first | rfl | (simp; done) | (simp [*]; done)), (by first | rfl | (simp; done) | (simp [*]; done)), H', ⟨Nat.le_refl _⟩, ⟨rz HO_7⟩, ⟨by exact bh⟩⟩
        case round =>
         clear H'
         try clear c1
         try clear c2
         try clear p2
         try clear q2
         try clear hx2
         try clear c5
         try clear c8
         try clear c10
         try clear c15
         try clear c16
         try clear c16b0
         try clear c17
         try clear c17b0
         try clear hx228_0
         try clear hx228_1
         try clear hx228_2
         try clear hx228_3
         try clear hx228_4
         try clear p2
         try clear p228
         try clear q228
         obtain ⟨x9_3, x10_3, rfl, rfl, HA, HK3, HO_7, HB⟩ := hrel
         cases gk with
         | zero => exact absurd HA.out (by simp [spec_UnbeatenOf.l1])
         | succ k3 =>
          have H := HA.out
          clear HA
          simp only [spec_UnbeatenOf.l1] at H
          have HC20 := Aside0.mk H
          clear H
          go_upto_region 9 with (fail)
          go_cut [45] (fun v45 wc => ∃ (kq : Nat) (x45_19 : Bool), v45 = .bool x45_19 ∧ Aside0 (spec_UnbeatenOf.j3 kq l0 a1 a2 x7_2 x8_2 x9_3 x10_3 x45_19 = some r) ∧ Aside0 (kq ≤ k3) ∧ Aside0 (Kd.R (Kd.int .i64) 3 wc w.heap.size (fun _ => True) u7 x7_2) ∧ Aside0 (Below w.heap.size w wc))
          case first =>
           have H := HC20.out
           clear HC20
           by_cases c21 : x10_3 < (l0.length : Int)
           ·rw [if_pos c21] at H
            have c21b0 : decide (x10_3 < (l0.length : Int)) = true := decide_eq_true c21
            clear c21
            (first | rw [c21b0] | (simp only [i64_w, i32_w]; rw [c21b0]) | skip)
            have H' := Aside0.mk H
            clear H
            go_wp2
            go_meet
            case rel => exact ⟨_, (x9_3), (by first | rfl | (simp; done) | (simp [*]; done)), H', ⟨by have := HJ3.out; have := HK2.out; have := HK3.out; first | omega | exact Nat.le_refl _⟩, ⟨rz HO_7⟩, ⟨by exact bh⟩⟩
           ·rw [if_neg c21] at H
            have c21b0 : decide (x10_3 < (l0.length : Int)) = false := decide_eq_false c21
            clear c21
            (first | rw [c21b0] | (simp only [i64_w, i32_w]; rw [c21b0]) | skip)
            have H' := Aside0.mk H
            clear H
            go_wp2
            go_meet
            case rel => exact ⟨_, (false), (by first | rfl | (simp; done) | (simp [*]; done)), H', ⟨by have := HJ3.out; have := HK2.out; have := HK3.out; first | omega | exact Nat.le_refl _⟩, ⟨rz HO_7⟩, ⟨by exact bh⟩⟩
          case rest =>
           clear HC20
           try clear c1
           try clear c2
           try clear p2
           try clear q2
           try clear hx2
           try clear c5
           try clear c8
           try clear c10
           try clear c15
           try clear c16
           try clear c16b0
           try clear c17
           try clear c17b0
           try clear c21
           try clear c21b0
           try clear hx228_0
           try clear hx228_1
           try clear hx228_2
           try clear hx228_3
           try clear hx228_4
           try clear p2
           try clear p228
           try clear q2
           try clear q228
           obtain ⟨kq, x45_19, rfl, HA, HJ19, HO_7, HB⟩ := hcut
           cases kq with
           | zero => exact absurd HA.out (by simp [spec_UnbeatenOf.j3])
           | succ kj19 =>
            have H := HA.out
            clear HA
            simp only [spec_UnbeatenOf.j3] at H
            by_cases c22 : x45_19 = true
            ·subst c22
             have H1 : (if 0 ≤ x10_3 then (if x10_3 < (l0.length : Int) then ((spec_l6Applies.f ((rd_T46 l0 x10_3).f0) ((rd_T46 l0 x10_3).f1) ((rd_T46 l0 x10_3).f2) ((rd_T46 l0 x10_3).f3) ((rd_T46 l0 x10_3).f4) a1 a2).bind fun t231 => (if t231 = true then (if 0 ≤ x8_2 then (if x8_2 < (l0.length : Int) then ((spec_BeatsOk.f kj19 ((rd_T46 l0 x10_3).f0) ((rd_T46 l0 x10_3).f1) ((rd_T46 l0 x10_3).f2) ((rd_T46 l0 x10_3).f3) ((rd_T46 l0 x10_3).f4) ((rd_T46 l0 x8_2).f0) ((rd_T46 l0 x8_2).f1) ((rd_T46 l0 x8_2).f2) ((rd_T46 l0 x8_2).f3) ((rd_T46 l0 x8_2).f4)).bind fun t234 => (spec_UnbeatenOf.l1 kj19 l0 a1 a2 x7_2 x8_2 (!t234) (wrap64 (x10_3 + 1)))) else (none)) else (none)) else (spec_UnbeatenOf.l1 kj19 l0 a1 a2 x7_2 x8_2 true (wrap64 (x10_3 + 1))))) else (none)) else (none)) = some r := by rw [if_pos rfl] at H; exact H
             clear H
             have H := H1
             clear H1
             by_cases c23 : 0 ≤ x10_3
             ·rw [if_pos c23] at H
              have c23b0 : decide (0 ≤ x10_3) = true := decide_eq_true c23
              clear c23
              by_cases c24 : x10_3 < (l0.length : Int)
              ·rw [if_pos c24] at H
               have c24b0 : decide (x10_3 < (l0.length : Int)) = true := decide_eq_true c24
               clear c24
               replace H := Option.bind_eq_some_iff.mp H
               obtain ⟨t231, A250, H⟩ := H
               replace H : (if t231 = true then (if 0 ≤ x8_2 then (if x8_2 < (l0.length : Int) then ((spec_BeatsOk.f kj19 ((rd_T46 l0 x10_3).f0) ((rd_T46 l0 x10_3).f1) ((rd_T46 l0 x10_3).f2) ((rd_T46 l0 x10_3).f3) ((rd_T46 l0 x10_3).f4) ((rd_T46 l0 x8_2).f0) ((rd_T46 l0 x8_2).f1) ((rd_T46 l0 x8_2).f2) ((rd_T46 l0 x8_2).f3) ((rd_T46 l0 x8_2).f4)).bind fun t234 => (spec_UnbeatenOf.l1 kj19 l0 a1 a2 x7_2 x8_2 (!t234) (wrap64 (x10_3 + 1)))) else (none)) else (none)) else (spec_UnbeatenOf.l1 kj19 l0 a1 a2 x7_2 x8_2 true (wrap64 (x10_3 + 1)))) = some r := H
               have A25 := Aside0.mk A250
               clear A250
               by_cases c26 : t231 = true
               ·subst c26
                have H1 : (if 0 ≤ x8_2 then (if x8_2 < (l0.length : Int) then ((spec_BeatsOk.f kj19 ((rd_T46 l0 x10_3).f0) ((rd_T46 l0 x10_3).f1) ((rd_T46 l0 x10_3).f2) ((rd_T46 l0 x10_3).f3) ((rd_T46 l0 x10_3).f4) ((rd_T46 l0 x8_2).f0) ((rd_T46 l0 x8_2).f1) ((rd_T46 l0 x8_2).f2) ((rd_T46 l0 x8_2).f3) ((rd_T46 l0 x8_2).f4)).bind fun t234 => (spec_UnbeatenOf.l1 kj19 l0 a1 a2 x7_2 x8_2 (!t234) (wrap64 (x10_3 + 1)))) else (none)) else (none)) = some r := by rw [if_pos rfl] at H; exact H
                clear H
                have H := H1
                clear H1
                by_cases c27 : 0 ≤ x8_2
                ·rw [if_pos c27] at H
                 have c27b0 : decide (0 ≤ x8_2) = true := decide_eq_true c27
                 clear c27
                 by_cases c28 : x8_2 < (l0.length : Int)
                 ·rw [if_pos c28] at H
                  have c28b0 : decide (x8_2 < (l0.length : Int)) = true := decide_eq_true c28
                  clear c28
                  replace H := Option.bind_eq_some_iff.mp H
                  obtain ⟨t234, A290, H⟩ := H
                  replace H : (spec_UnbeatenOf.l1 kj19 l0 a1 a2 x7_2 x8_2 (!t234) (wrap64 (x10_3 + 1))) = some r := H
                  have A29 := Aside0.mk A290
                  clear A290
                  have H' := Aside0.mk H
                  clear H
                  try go_wp2
                  have n0_ := Aside0.mk (Kd.R_drew HO_7.out)
                  have n1_ := Aside0.mk (below_drew1 HB.out)
                  clear HO_7 HB
                  have HO_7 := n0_
                  have HB := n1_
                  clear n0_ n1_
                  have p230 : 0 ≤ (x10_3 : Int) := oda
                  have q230 : x10_3 < (l0.length : Int) := oda
                  obtain ⟨ad230, e230, hx230_0, hx230_1, hx230_2, hx230_3, hx230_4⟩ := at_T46 HR0.out x10_3 p230 q230
                  have hw230_4 := hx230_4
                  have hw230_3 := hx230_3
                  have hw230_2 := hx230_2
                  have hw230_1 := hx230_1
                  have hw230_0 := hx230_0
                  obtain rfl : ad228 = ad230 := (by injection e230)
                  replace hx230_0 := (HB.out.cell (World.block_lt_of_cell? w _ hx230_0)).trans hx230_0
                  replace hx230_1 := (HB.out.cell (World.block_lt_of_cell? w _ hx230_1)).trans hx230_1
                  replace hx230_2 := (HB.out.cell (World.block_lt_of_cell? w _ hx230_2)).trans hx230_2
                  replace hx230_3 := (HB.out.cell (World.block_lt_of_cell? w _ hx230_3)).trans hx230_3
                  replace hx230_4 := (HB.out.cell (World.block_lt_of_cell? w _ hx230_4)).trans hx230_4
                  replace p230 := eq_true p230
                  replace q230 := eq_true q230
                  have p232 : 0 ≤ (x10_3 : Int) := oda
                  have q232 : x10_3 < (l0.length : Int) := oda
                  obtain ⟨ad232, e232, hx232_0, hx232_1, hx232_2, hx232_3, hx232_4⟩ := at_T46 HR0.out x10_3 p232 q232
                  have hw232_4 := hx232_4
                  have hw232_3 := hx232_3
                  have hw232_2 := hx232_2
                  have hw232_1 := hx232_1
                  have hw232_0 := hx232_0
                  obtain rfl : ad228 = ad232 := (by injection e232)
                  replace hx232_0 := (HB.out.cell (World.block_lt_of_cell? w _ hx232_0)).trans hx232_0
                  replace hx232_1 := (HB.out.cell (World.block_lt_of_cell? w _ hx232_1)).trans hx232_1
                  replace hx232_2 := (HB.out.cell (World.block_lt_of_cell? w _ hx232_2)).trans hx232_2
                  replace hx232_3 := (HB.out.cell (World.block_lt_of_cell? w _ hx232_3)).trans hx232_3
                  replace hx232_4 := (HB.out.cell (World.block_lt_of_cell? w _ hx232_4)).trans hx232_4
                  replace p232 := eq_true p232
                  replace q232 := eq_true q232
                  have p233 : 0 ≤ (x8_2 : Int) := oda
                  have q233 : x8_2 < (l0.length : Int) := oda
                  obtain ⟨ad233, e233, hx233_0, hx233_1, hx233_2, hx233_3, hx233_4⟩ := at_T46 HR0.out x8_2 p233 q233
                  have hw233_4 := hx233_4
                  have hw233_3 := hx233_3
                  have hw233_2 := hx233_2
                  have hw233_1 := hx233_1
                  have hw233_0 := hx233_0
                  obtain rfl : ad228 = ad233 := (by injection e233)
                  replace hx233_0 := (HB.out.cell (World.block_lt_of_cell? w _ hx233_0)).trans hx233_0
                  replace hx233_1 := (HB.out.cell (World.block_lt_of_cell? w _ hx233_1)).trans hx233_1
                  replace hx233_2 := (HB.out.cell (World.block_lt_of_cell? w _ hx233_2)).trans hx233_2
                  replace hx233_3 := (HB.out.cell (World.block_lt_of_cell? w _ hx233_3)).trans hx233_3
                  replace hx233_4 := (HB.out.cell (World.block_lt_of_cell? w _ hx233_4)).trans hx233_4
                  replace p233 := eq_true p233
                  replace q233 := eq_true q233
                  refine start_ (n := 21) (S := fun w' => w'.cell? (ad228.add ((x10_3).toNat * 5)) = some (.int .i64 ((rd_T46 l0 x10_3).f0)) ∧ w'.cell? ⟨(ad228.add ((x10_3).toNat * 5)).block, (ad228.add ((x10_3).toNat * 5)).off + 1, none⟩ = some (.int .i64 ((rd_T46 l0 x10_3).f1)) ∧ w'.cell? ⟨(ad228.add ((x10_3).toNat * 5)).block, (ad228.add ((x10_3).toNat * 5)).off + 2, none⟩ = some (.int .i64 ((rd_T46 l0 x10_3).f2)) ∧ w'.cell? ⟨(ad228.add ((x10_3).toNat * 5)).block, (ad228.add ((x10_3).toNat * 5)).off + 3, none⟩ = some (.int .i64 ((rd_T46 l0 x10_3).f3)) ∧ w'.cell? ⟨(ad228.add ((x10_3).toNat * 5)).block, (ad228.add ((x10_3).toNat * 5)).off + 4, none⟩ = some (.bool ((rd_T46 l0 x10_3).f4)) ∧ w'.cell? (ad228.add ((x10_3).toNat * 5)) = some (.int .i64 ((rd_T46 l0 x10_3).f0)) ∧ w'.cell? ⟨(ad228.add ((x10_3).toNat * 5)).block, (ad228.add ((x10_3).toNat * 5)).off + 1, none⟩ = some (.int .i64 ((rd_T46 l0 x10_3).f1)) ∧ w'.cell? ⟨(ad228.add ((x10_3).toNat * 5)).block, (ad228.add ((x10_3).toNat * 5)).off + 2, none⟩ = some (.int .i64 ((rd_T46 l0 x10_3).f2)) ∧ w'.cell? ⟨(ad228.add ((x10_3).toNat * 5)).block, (ad228.add ((x10_3).toNat * 5)).off + 3, none⟩ = some (.int .i64 ((rd_T46 l0 x10_3).f3)) ∧ w'.cell? ⟨(ad228.add ((x10_3).toNat * 5)).block, (ad228.add ((x10_3).toNat * 5)).off + 4, none⟩ = some (.bool ((rd_T46 l0 x10_3).f4)) ∧ w'.cell? (ad228.add ((x8_2).toNat * 5)) = some (.int .i64 ((rd_T46 l0 x8_2).f0)) ∧ w'.cell? ⟨(ad228.add ((x8_2).toNat * 5)).block, (ad228.add ((x8_2).toNat * 5)).off + 1, none⟩ = some (.int .i64 ((rd_T46 l0 x8_2).f1)) ∧ w'.cell? ⟨(ad228.add ((x8_2).toNat * 5)).block, (ad228.add ((x8_2).toNat * 5)).off + 2, none⟩ = some (.int .i64 ((rd_T46 l0 x8_2).f2)) ∧ w'.cell? ⟨(ad228.add ((x8_2).toNat * 5)).block, (ad228.add ((x8_2).toNat * 5)).off + 3, none⟩ = some (.int .i64 ((rd_T46 l0 x8_2).f3)) ∧ w'.cell? ⟨(ad228.add ((x8_2).toNat * 5)).block, (ad228.add ((x8_2).toNat * 5)).off + 4, none⟩ = some (.bool ((rd_T46 l0 x8_2).f4))) (ds := []) #[F,F,F,F,F,F,F,F,F,F,F,F,F,F,F,F,F,F,F,F,F] kr rfl rfl ⟨((HB.out.cell (World.block_lt_of_cell? w _ hw230_0)).trans hw230_0), ((HB.out.cell (World.block_lt_of_cell? w _ hw230_1)).trans hw230_1), ((HB.out.cell (World.block_lt_of_cell? w _ hw230_2)).trans hw230_2), ((HB.out.cell (World.block_lt_of_cell? w _ hw230_3)).trans hw230_3), ((HB.out.cell (World.block_lt_of_cell? w _ hw230_4)).trans hw230_4), ((HB.out.cell (World.block_lt_of_cell? w _ hw232_0)).trans hw232_0), ((HB.out.cell (World.block_lt_of_cell? w _ hw232_1)).trans hw232_1), ((HB.out.cell (World.block_lt_of_cell? w _ hw232_2)).trans hw232_2), ((HB.out.cell (World.block_lt_of_cell? w _ hw232_3)).trans hw232_3), ((HB.out.cell (World.block_lt_of_cell? w _ hw232_4)).trans hw232_4), ((HB.out.cell (World.block_lt_of_cell? w _ hw233_0)).trans hw233_0), ((HB.out.cell (World.block_lt_of_cell? w _ hw233_1)).trans hw233_1), ((HB.out.cell (World.block_lt_of_cell? w _ hw233_2)).trans hw233_2), ((HB.out.cell (World.block_lt_of_cell? w _ hw233_3)).trans hw233_3), ((HB.out.cell (World.block_lt_of_cell? w _ hw233_4)).trans hw233_4)⟩ (fun hHeld => ?_); refine with_tabW spec_UnbeatenOf.tab11 spec_UnbeatenOf.bits11 (fun HT_ HW_ => ?_)
                  generalize wc.drew = w30 at HO_7 HB hx230_0 hx230_1 hx230_2 hx230_3 hx230_4 hx232_0 hx232_1 hx232_2 hx232_3 hx232_4 hx233_0 hx233_1 hx233_2 hx233_3 hx233_4 hHeld ⊢
                  refine pu 0 (some 48) #[T,F,F,F,F,F,F,F,F,F,F,F,F,F,F,F,F,F,F,F,F] (any_of HT_.out kr) ?_
                  refine pu 1 (some 49) #[T,T,F,F,F,F,F,F,F,F,F,F,F,F,F,F,F,F,F,F,F] (any_of HT_.out kr) ?_
                  refine pu 2 (some 50) #[T,T,T,F,F,F,F,F,F,F,F,F,F,F,F,F,F,F,F,F,F] (any_of HT_.out kr) ?_
                  refine pu 4 (some 52) #[T,T,T,F,T,F,F,F,F,F,F,F,F,F,F,F,F,F,F,F,F] (any_of HT_.out kr) ?_
                  refine pu 5 (some 53) #[T,T,T,F,T,T,F,F,F,F,F,F,F,F,F,F,F,F,F,F,F] (any_of HT_.out kr) ?_
                  refine tk15 3 (some 51) #[T,T,T,T,T,T,F,F,F,F,F,F,F,F,F,F,F,F,F,F,F] (take_ofW HT_.out HW_.out kr) ?_
                  refine one_ (i := 6) (N := some 54) #[T,T,T,T,T,T,T,F,F,F,F,F,F,F,F,F,F,F,F,F,F] rfl rfl (one_of HT_.out kr) (by decide) (fun K hK => ?_)
                  refine goes_ Try.func58 kr rfl #[.agg #[.int .i64 ((rd_T46 l0 x10_3).f0), .int .i64 ((rd_T46 l0 x10_3).f1), .int .i64 ((rd_T46 l0 x10_3).f2), .int .i64 ((rd_T46 l0 x10_3).f3), .bool ((rd_T46 l0 x10_3).f4)], .int .i64 a1, .int .i64 a2] (by rfl) rfl rfl lm ?_
                  with_reducible refine (spec_l6Applies.calls ((rd_T46 l0 x10_3).f0) ((rd_T46 l0 x10_3).f1) ((rd_T46 l0 x10_3).f2) ((rd_T46 l0 x10_3).f3) ((rd_T46 l0 x10_3).f4) a1 a2 true _ A25.out).mono ?_
                  rintro e w31 ⟨rfl, hb⟩
                  refine ⟨_, rfl, ?_⟩
                  have n0_ := Aside0.mk (Kd.R_below (rz HO_7) hb)
                  have n1_ := Aside0.mk (below_step bh hb)
                  clear HO_7 HB
                  have HO_7 := n0_
                  have HB := n1_
                  clear n0_ n1_
                  (try clear hb)
                  (try clear hb2)
                  (try clear hk)
                  (try clear hi)
                  refine hK.out _ _ ⟨((HB.out.cell (World.block_lt_of_cell? w _ hw230_0)).trans hw230_0), ((HB.out.cell (World.block_lt_of_cell? w _ hw230_1)).trans hw230_1), ((HB.out.cell (World.block_lt_of_cell? w _ hw230_2)).trans hw230_2), ((HB.out.cell (World.block_lt_of_cell? w _ hw230_3)).trans hw230_3), ((HB.out.cell (World.block_lt_of_cell? w _ hw230_4)).trans hw230_4), ((HB.out.cell (World.block_lt_of_cell? w _ hw232_0)).trans hw232_0), ((HB.out.cell (World.block_lt_of_cell? w _ hw232_1)).trans hw232_1), ((HB.out.cell (World.block_lt_of_cell? w _ hw232_2)).trans hw232_2), ((HB.out.cell (World.block_lt_of_cell? w _ hw232_3)).trans hw232_3), ((HB.out.cell (World.block_lt_of_cell? w _ hw232_4)).trans hw232_4), ((HB.out.cell (World.block_lt_of_cell? w _ hw233_0)).trans hw233_0), ((HB.out.cell (World.block_lt_of_cell? w _ hw233_1)).trans hw233_1), ((HB.out.cell (World.block_lt_of_cell? w _ hw233_2)).trans hw233_2), ((HB.out.cell (World.block_lt_of_cell? w _ hw233_3)).trans hw233_3), ((HB.out.cell (World.block_lt_of_cell? w _ hw233_4)).trans hw233_4)⟩ (fun hHeld => ?_)
                  clear hK K
                  refine norm_ (a' := ?_) ?_ ?_
                  rotate_left
                  ·show Act.put _ (some 54) _ = _
                   simp only [Act.put, List.setIfInBounds_toArray, List.set_cons_zero, List.set_cons_succ, i64_w, i32_w]
                   rfl
                  refine pu 7 (some 55) #[T,T,T,T,T,T,T,T,F,F,F,F,F,F,F,F,F,F,F,F,F] (any_of HT_.out kr) ?_
                  refine pu 8 (some 56) #[T,T,T,T,T,T,T,T,T,F,F,F,F,F,F,F,F,F,F,F,F] (any_of HT_.out kr) ?_
                  refine pu 9 (some 57) #[T,T,T,T,T,T,T,T,T,T,F,F,F,F,F,F,F,F,F,F,F] (any_of HT_.out kr) ?_
                  refine pu 10 (some 58) #[T,T,T,T,T,T,T,T,T,T,T,F,F,F,F,F,F,F,F,F,F] (any_of HT_.out kr) ?_
                  refine pu 11 (some 59) #[T,T,T,T,T,T,T,T,T,T,T,T,F,F,F,F,F,F,F,F,F] (any_of HT_.out kr) ?_
                  refine pu 13 (some 61) #[T,T,T,T,T,T,T,T,T,T,T,T,F,T,F,F,F,F,F,F,F] (any_of HT_.out kr) ?_
                  refine pu 14 (some 62) #[T,T,T,T,T,T,T,T,T,T,T,T,F,T,T,F,F,F,F,F,F] (any_of HT_.out kr) ?_
                  refine pu 15 (some 63) #[T,T,T,T,T,T,T,T,T,T,T,T,F,T,T,T,F,F,F,F,F] (any_of HT_.out kr) ?_
                  refine tk15 12 (some 60) #[T,T,T,T,T,T,T,T,T,T,T,T,T,T,T,T,F,F,F,F,F] (take_ofW HT_.out HW_.out kr) ?_
                  refine tk15 16 (some 64) #[T,T,T,T,T,T,T,T,T,T,T,T,T,T,T,T,T,F,F,F,F] (take_ofW HT_.out HW_.out kr) ?_
                  refine one_ (i := 17) (N := some 65) #[T,T,T,T,T,T,T,T,T,T,T,T,T,T,T,T,T,T,F,F,F] rfl rfl (one_of HT_.out kr) (by decide) (fun K hK => ?_)
                  refine goes_ Try.func59 kr rfl #[.agg #[.int .i64 ((rd_T46 l0 x10_3).f0), .int .i64 ((rd_T46 l0 x10_3).f1), .int .i64 ((rd_T46 l0 x10_3).f2), .int .i64 ((rd_T46 l0 x10_3).f3), .bool ((rd_T46 l0 x10_3).f4)], .agg #[.int .i64 ((rd_T46 l0 x8_2).f0), .int .i64 ((rd_T46 l0 x8_2).f1), .int .i64 ((rd_T46 l0 x8_2).f2), .int .i64 ((rd_T46 l0 x8_2).f3), .bool ((rd_T46 l0 x8_2).f4)]] (by rfl) rfl rfl lm ?_
                  with_reducible refine (spec_BeatsOk.calls kj19 ((rd_T46 l0 x10_3).f0) ((rd_T46 l0 x10_3).f1) ((rd_T46 l0 x10_3).f2) ((rd_T46 l0 x10_3).f3) ((rd_T46 l0 x10_3).f4) ((rd_T46 l0 x8_2).f0) ((rd_T46 l0 x8_2).f1) ((rd_T46 l0 x8_2).f2) ((rd_T46 l0 x8_2).f3) ((rd_T46 l0 x8_2).f4) t234 _ A29.out).mono ?_
                  rintro e w32 ⟨rfl, hb⟩
                  refine ⟨_, rfl, ?_⟩
                  have n0_ := Aside0.mk (Kd.R_below (rz HO_7) hb)
                  have n1_ := Aside0.mk (below_step bh hb)
                  clear HO_7 HB
                  have HO_7 := n0_
                  have HB := n1_
                  clear n0_ n1_
                  (try clear hb)
                  (try clear hb2)
                  (try clear hk)
                  (try clear hi)
                  refine hK.out _ _ ⟨((HB.out.cell (World.block_lt_of_cell? w _ hw230_0)).trans hw230_0), ((HB.out.cell (World.block_lt_of_cell? w _ hw230_1)).trans hw230_1), ((HB.out.cell (World.block_lt_of_cell? w _ hw230_2)).trans hw230_2), ((HB.out.cell (World.block_lt_of_cell? w _ hw230_3)).trans hw230_3), ((HB.out.cell (World.block_lt_of_cell? w _ hw230_4)).trans hw230_4), ((HB.out.cell (World.block_lt_of_cell? w _ hw232_0)).trans hw232_0), ((HB.out.cell (World.block_lt_of_cell? w _ hw232_1)).trans hw232_1), ((HB.out.cell (World.block_lt_of_cell? w _ hw232_2)).trans hw232_2), ((HB.out.cell (World.block_lt_of_cell? w _ hw232_3)).trans hw232_3), ((HB.out.cell (World.block_lt_of_cell? w _ hw232_4)).trans hw232_4), ((HB.out.cell (World.block_lt_of_cell? w _ hw233_0)).trans hw233_0), ((HB.out.cell (World.block_lt_of_cell? w _ hw233_1)).trans hw233_1), ((HB.out.cell (World.block_lt_of_cell? w _ hw233_2)).trans hw233_2), ((HB.out.cell (World.block_lt_of_cell? w _ hw233_3)).trans hw233_3), ((HB.out.cell (World.block_lt_of_cell? w _ hw233_4)).trans hw233_4)⟩ (fun hHeld => ?_)
                  clear hK K
                  refine norm_ (a' := ?_) ?_ ?_
                  rotate_left
                  ·show Act.put _ (some 65) _ = _
                   simp only [Act.put, List.setIfInBounds_toArray, List.set_cons_zero, List.set_cons_succ, i64_w, i32_w]
                   rfl
                  refine pu 18 (some 66) #[T,T,T,T,T,T,T,T,T,T,T,T,T,T,T,T,T,T,T,F,F] (any_of HT_.out kr) ?_
                  refine pu 19 (some 67) #[T,T,T,T,T,T,T,T,T,T,T,T,T,T,T,T,T,T,T,T,F] (any_of HT_.out kr) ?_
                  refine pu 20 (some 9) #[T,T,T,T,T,T,T,T,T,T,T,T,T,T,T,T,T,T,T,T,T] (any_of HT_.out kr) ?_
                  refine done_ (done_of HT_.out kr) ?_
                  try go_wp2
                  go_roundg kj19
                  case measure => have := HJ3.out; have := HK2.out; have := HK3.out; have := HJ19.out; omega
                  case rel => exact ⟨(!t234), (wrap64 (x10_3 + 1)), (by first | rfl | (simp; done) | (simp [*]; done)), (by first | rfl | (simp; done) | (simp [*]; done)), H', ⟨by have := HJ3.out; have := HK2.out; have := HK3.out; have := HJ19.out; omega⟩, ⟨rz HO_7⟩, ⟨by exact bh⟩⟩
                 ·rw [if_neg c28] at H
                  exact absurd H (by simp)
                ·rw [if_neg c27] at H
                 exact absurd H (by simp)
               ·replace c26 := Bool.eq_false_iff.mpr c26
                subst c26
                have H1 : (spec_UnbeatenOf.l1 kj19 l0 a1 a2 x7_2 x8_2 true (wrap64 (x10_3 + 1))) = some r := by rw [if_neg (show ¬ (false = true) by decide)] at H; exact H
                clear H
                have H := H1
                clear H1
                have H' := Aside0.mk H
                clear H
                try go_wp2
                have n0_ := Aside0.mk (Kd.R_drew HO_7.out)
                have n1_ := Aside0.mk (below_drew1 HB.out)
                clear HO_7 HB
                have HO_7 := n0_
                have HB := n1_
                clear n0_ n1_
                have p230 : 0 ≤ (x10_3 : Int) := oda
                have q230 : x10_3 < (l0.length : Int) := oda
                obtain ⟨ad230, e230, hx230_0, hx230_1, hx230_2, hx230_3, hx230_4⟩ := at_T46 HR0.out x10_3 p230 q230
                have hw230_4 := hx230_4
                have hw230_3 := hx230_3
                have hw230_2 := hx230_2
                have hw230_1 := hx230_1
                have hw230_0 := hx230_0
                obtain rfl : ad228 = ad230 := (by injection e230)
                replace hx230_0 := (HB.out.cell (World.block_lt_of_cell? w _ hx230_0)).trans hx230_0
                replace hx230_1 := (HB.out.cell (World.block_lt_of_cell? w _ hx230_1)).trans hx230_1
                replace hx230_2 := (HB.out.cell (World.block_lt_of_cell? w _ hx230_2)).trans hx230_2
                replace hx230_3 := (HB.out.cell (World.block_lt_of_cell? w _ hx230_3)).trans hx230_3
                replace hx230_4 := (HB.out.cell (World.block_lt_of_cell? w _ hx230_4)).trans hx230_4
                replace p230 := eq_true p230
                replace q230 := eq_true q230
                refine start_ (n := 21) (S := fun w' => w'.cell? (ad228.add ((x10_3).toNat * 5)) = some (.int .i64 ((rd_T46 l0 x10_3).f0)) ∧ w'.cell? ⟨(ad228.add ((x10_3).toNat * 5)).block, (ad228.add ((x10_3).toNat * 5)).off + 1, none⟩ = some (.int .i64 ((rd_T46 l0 x10_3).f1)) ∧ w'.cell? ⟨(ad228.add ((x10_3).toNat * 5)).block, (ad228.add ((x10_3).toNat * 5)).off + 2, none⟩ = some (.int .i64 ((rd_T46 l0 x10_3).f2)) ∧ w'.cell? ⟨(ad228.add ((x10_3).toNat * 5)).block, (ad228.add ((x10_3).toNat * 5)).off + 3, none⟩ = some (.int .i64 ((rd_T46 l0 x10_3).f3)) ∧ w'.cell? ⟨(ad228.add ((x10_3).toNat * 5)).block, (ad228.add ((x10_3).toNat * 5)).off + 4, none⟩ = some (.bool ((rd_T46 l0 x10_3).f4))) (ds := []) #[F,F,F,F,F,F,F,F,F,F,F,F,F,F,F,F,F,F,F,F,F] kr rfl rfl ⟨((HB.out.cell (World.block_lt_of_cell? w _ hw230_0)).trans hw230_0), ((HB.out.cell (World.block_lt_of_cell? w _ hw230_1)).trans hw230_1), ((HB.out.cell (World.block_lt_of_cell? w _ hw230_2)).trans hw230_2), ((HB.out.cell (World.block_lt_of_cell? w _ hw230_3)).trans hw230_3), ((HB.out.cell (World.block_lt_of_cell? w _ hw230_4)).trans hw230_4)⟩ (fun hHeld => ?_); refine with_tabW spec_UnbeatenOf.tab11 spec_UnbeatenOf.bits11 (fun HT_ HW_ => ?_)
                generalize wc.drew = w33 at HO_7 HB hx230_0 hx230_1 hx230_2 hx230_3 hx230_4 hHeld ⊢
                refine pu 0 (some 48) #[T,F,F,F,F,F,F,F,F,F,F,F,F,F,F,F,F,F,F,F,F] (any_of HT_.out kr) ?_
                refine pu 1 (some 49) #[T,T,F,F,F,F,F,F,F,F,F,F,F,F,F,F,F,F,F,F,F] (any_of HT_.out kr) ?_
                refine pu 2 (some 50) #[T,T,T,F,F,F,F,F,F,F,F,F,F,F,F,F,F,F,F,F,F] (any_of HT_.out kr) ?_
                refine pu 4 (some 52) #[T,T,T,F,T,F,F,F,F,F,F,F,F,F,F,F,F,F,F,F,F] (any_of HT_.out kr) ?_
                refine pu 5 (some 53) #[T,T,T,F,T,T,F,F,F,F,F,F,F,F,F,F,F,F,F,F,F] (any_of HT_.out kr) ?_
                refine tk5 3 (some 51) #[T,T,T,T,T,T,F,F,F,F,F,F,F,F,F,F,F,F,F,F,F] (take_ofW HT_.out HW_.out kr) ?_
                refine one_ (i := 6) (N := some 54) #[T,T,T,T,T,T,T,F,F,F,F,F,F,F,F,F,F,F,F,F,F] rfl rfl (one_of HT_.out kr) (by decide) (fun K hK => ?_)
                refine goes_ Try.func58 kr rfl #[.agg #[.int .i64 ((rd_T46 l0 x10_3).f0), .int .i64 ((rd_T46 l0 x10_3).f1), .int .i64 ((rd_T46 l0 x10_3).f2), .int .i64 ((rd_T46 l0 x10_3).f3), .bool ((rd_T46 l0 x10_3).f4)], .int .i64 a1, .int .i64 a2] (by rfl) rfl rfl lm ?_
                with_reducible refine (spec_l6Applies.calls ((rd_T46 l0 x10_3).f0) ((rd_T46 l0 x10_3).f1) ((rd_T46 l0 x10_3).f2) ((rd_T46 l0 x10_3).f3) ((rd_T46 l0 x10_3).f4) a1 a2 false _ A25.out).mono ?_
                rintro e w34 ⟨rfl, hb⟩
                refine ⟨_, rfl, ?_⟩
                have n0_ := Aside0.mk (Kd.R_below (rz HO_7) hb)
                have n1_ := Aside0.mk (below_step bh hb)
                clear HO_7 HB
                have HO_7 := n0_
                have HB := n1_
                clear n0_ n1_
                (try clear hb)
                (try clear hb2)
                (try clear hk)
                (try clear hi)
                refine hK.out _ _ ⟨((HB.out.cell (World.block_lt_of_cell? w _ hw230_0)).trans hw230_0), ((HB.out.cell (World.block_lt_of_cell? w _ hw230_1)).trans hw230_1), ((HB.out.cell (World.block_lt_of_cell? w _ hw230_2)).trans hw230_2), ((HB.out.cell (World.block_lt_of_cell? w _ hw230_3)).trans hw230_3), ((HB.out.cell (World.block_lt_of_cell? w _ hw230_4)).trans hw230_4)⟩ (fun hHeld => ?_)
                clear hK K
                refine norm_ (a' := ?_) ?_ ?_
                rotate_left
                ·show Act.put _ (some 54) _ = _
                 simp only [Act.put, List.setIfInBounds_toArray, List.set_cons_zero, List.set_cons_succ, i64_w, i32_w]
                 rfl
                refine pu 7 (some 55) #[T,T,T,T,T,T,T,T,F,F,F,F,F,F,F,F,F,F,F,F,F] (any_of HT_.out kr) ?_
                refine pu 8 (some 56) #[T,T,T,T,T,T,T,T,T,F,F,F,F,F,F,F,F,F,F,F,F] (any_of HT_.out kr) ?_
                refine pure_ (i := 9) (N := some 57) (v := undef) (a' := ?_) #[T,T,T,T,T,T,T,T,T,T,F,F,F,F,F,F,F,F,F,F,F] rfl rfl (any_of HT_.out kr) (fun _ _ _ h => h) (Or.inr ⟨by rfl, rfl⟩) ?_ ?_
                rotate_left
                ·simp only [Act.put, List.setIfInBounds_toArray, List.set_cons_zero, List.set_cons_succ, i64_w, i32_w]
                 rfl
                refine pure_ (i := 10) (N := some 58) (v := undef) (a' := ?_) #[T,T,T,T,T,T,T,T,T,T,T,F,F,F,F,F,F,F,F,F,F] rfl rfl (any_of HT_.out kr) (fun _ _ _ h => h) (Or.inr ⟨by rfl, rfl⟩) ?_ ?_
                rotate_left
                ·simp only [Act.put, List.setIfInBounds_toArray, List.set_cons_zero, List.set_cons_succ, i64_w, i32_w]
                 rfl
                refine pure_ (i := 11) (N := some 59) (v := undef) (a' := ?_) #[T,T,T,T,T,T,T,T,T,T,T,T,F,F,F,F,F,F,F,F,F] rfl rfl (any_of HT_.out kr) (fun _ _ _ h => h) (Or.inr ⟨by rfl, rfl⟩) ?_ ?_
                rotate_left
                ·simp only [Act.put, List.setIfInBounds_toArray, List.set_cons_zero, List.set_cons_succ, i64_w, i32_w]
                 rfl
                refine pure_ (i := 12) (N := some 60) (v := undef) (a' := ?_) #[T,T,T,T,T,T,T,T,T,T,T,T,T,F,F,F,F,F,F,F,F] rfl rfl (any_of HT_.out kr) (fun _ _ _ h => h) (Or.inr ⟨by rfl, rfl⟩) ?_ ?_
                rotate_left
                ·simp only [Act.put, List.setIfInBounds_toArray, List.set_cons_zero, List.set_cons_succ, i64_w, i32_w]
                 rfl
                refine pure_ (i := 13) (N := some 61) (v := undef) (a' := ?_) #[T,T,T,T,T,T,T,T,T,T,T,T,T,T,F,F,F,F,F,F,F] rfl rfl (any_of HT_.out kr) (fun _ _ _ h => h) (Or.inr ⟨by rfl, rfl⟩) ?_ ?_
                rotate_left
                ·simp only [Act.put, List.setIfInBounds_toArray, List.set_cons_zero, List.set_cons_succ, i64_w, i32_w]
                 rfl
                refine pure_ (i := 14) (N := some 62) (v := undef) (a' := ?_) #[T,T,T,T,T,T,T,T,T,T,T,T,T,T,T,F,F,F,F,F,F] rfl rfl (any_of HT_.out kr) (fun _ _ _ h => h) (Or.inr ⟨by rfl, rfl⟩) ?_ ?_
                rotate_left
                ·simp only [Act.put, List.setIfInBounds_toArray, List.set_cons_zero, List.set_cons_succ, i64_w, i32_w]
                 rfl
                refine pure_ (i := 15) (N := some 63) (v := undef) (a' := ?_) #[T,T,T,T,T,T,T,T,T,T,T,T,T,T,T,T,F,F,F,F,F] rfl rfl (any_of HT_.out kr) (fun _ _ _ h => h) (Or.inr ⟨by rfl, rfl⟩) ?_ ?_
                rotate_left
                ·simp only [Act.put, List.setIfInBounds_toArray, List.set_cons_zero, List.set_cons_succ, i64_w, i32_w]
                 rfl
                refine pure_ (i := 16) (N := some 64) (v := undef) (a' := ?_) #[T,T,T,T,T,T,T,T,T,T,T,T,T,T,T,T,T,F,F,F,F] rfl rfl (any_of HT_.out kr) (fun _ _ _ h => h) (Or.inr ⟨by rfl, rfl⟩) ?_ ?_
                rotate_left
                ·simp only [Act.put, List.setIfInBounds_toArray, List.set_cons_zero, List.set_cons_succ, i64_w, i32_w]
                 rfl
                refine pure_ (i := 17) (N := some 65) (v := undef) (a' := ?_) #[T,T,T,T,T,T,T,T,T,T,T,T,T,T,T,T,T,T,F,F,F] rfl rfl (any_of HT_.out kr) (fun _ _ _ h => h) (Or.inr ⟨by rfl, rfl⟩) ?_ ?_
                rotate_left
                ·simp only [Act.put, List.setIfInBounds_toArray, List.set_cons_zero, List.set_cons_succ, i64_w, i32_w]
                 rfl
                refine pure_ (i := 18) (N := some 66) (v := undef) (a' := ?_) #[T,T,T,T,T,T,T,T,T,T,T,T,T,T,T,T,T,T,T,F,F] rfl rfl (any_of HT_.out kr) (fun _ _ _ h => h) (Or.inr ⟨by rfl, rfl⟩) ?_ ?_
                rotate_left
                ·simp only [Act.put, List.setIfInBounds_toArray, List.set_cons_zero, List.set_cons_succ, i64_w, i32_w]
                 rfl
                refine pu 19 (some 67) #[T,T,T,T,T,T,T,T,T,T,T,T,T,T,T,T,T,T,T,T,F] (any_of HT_.out kr) ?_
                refine pu 20 (some 9) #[T,T,T,T,T,T,T,T,T,T,T,T,T,T,T,T,T,T,T,T,T] (any_of HT_.out kr) ?_
                refine done_ (done_of HT_.out kr) ?_
                try go_wp2
                go_roundg kj19
                case measure => have := HJ3.out; have := HK2.out; have := HK3.out; have := HJ19.out; omega
                case rel => exact ⟨(true), (wrap64 (x10_3 + 1)), (by first | rfl | (simp; done) | (simp [*]; done)), (by first | rfl | (simp; done) | (simp [*]; done)), H', ⟨by have := HJ3.out; have := HK2.out; have := HK3.out; have := HJ19.out; omega⟩, ⟨rz HO_7⟩, ⟨by exact bh⟩⟩
              ·rw [if_neg c24] at H
               exact absurd H (by simp)
             ·rw [if_neg c23] at H
              exact absurd H (by simp)
            ·replace c22 := Bool.eq_false_iff.mpr c22
             subst c22
             have H1 : (if x9_3 = true then (if x7_2.length < 17592186044416 then (spec_UnbeatenOf.l0 kj19 l0 a1 a2 (x7_2 ++ [x8_2]) (wrap64 (x8_2 + 1))) else (none)) else (spec_UnbeatenOf.l0 kj19 l0 a1 a2 x7_2 (wrap64 (x8_2 + 1)))) = some r := by rw [if_neg (show ¬ (false = true) by decide)] at H; exact H
             clear H
             have H := H1
             clear H1
             by_cases c35 : x9_3 = true
             ·subst c35
              have H1 : (if x7_2.length < 17592186044416 then (spec_UnbeatenOf.l0 kj19 l0 a1 a2 (x7_2 ++ [x8_2]) (wrap64 (x8_2 + 1))) else (none)) = some r := by rw [if_pos rfl] at H; exact H
              clear H
              have H := H1
              clear H1
              by_cases c36 : x7_2.length < 17592186044416
              ·rw [if_pos c36] at H
               have LMc36 := Aside0.mk c36
               clear c36
               obtain ⟨y235, hy235⟩ : ∃ y_ : List Int, y_ = (x7_2 ++ [x8_2]) := ⟨_, rfl⟩
               replace H : (spec_UnbeatenOf.l0 kj19 l0 a1 a2 y235 (wrap64 (x8_2 + 1))) = some r := by first | (rw [hy235]; with_reducible exact H) | (have H2_ := (Option.bind_some _ _).symm.trans H; rw [hy235]; with_reducible exact H2_) | (have H2_ := (Option.bind_some _ _).symm.trans H; with_reducible exact H2_) | with_reducible exact H | (rw [hy235]; exact H) | exact H
               have Ny235 := Aside0.mk hy235
               clear hy235
               have H' := Aside0.mk H
               clear H
               go_wp2_with (first | ((with_reducible refine gate_builtin (b := .append) (xs := #[.tmp 69, .tmp 71]) rfl ?_); at_builtin; refine Kd.R_append (Kd.int .i64) (w0 := w) w.heap.size rfl (.tmp 69) (.tmp 71) 31 3 (.int .i64 0) 8 rfl Try.underlying31 info3 rfl (by decide) (by omega) u7 x7_2 x8_2 [.int .i64 x8_2] (fun _ => True) (fun _ => False) rfl rfl ?aP (fun _ hk => hk.elim) ?aF ?aO ?aB ?aS ?aL ?_; (case aP => exact rfl); (case aB => exact bh); (case aF => exact (fun _ _ => trivial)); (case aO => exact (rz HO_7)); (case aS => exact (below_size bh)); (case aL => have := LMc36.out; omega); intro v236 w37 ho hb hg hat; rw [← Ny235.out] at ho; have n0_ := Aside0.mk (hb); have n1_ := Aside0.mk (ho); clear HB HO_7; have HB := n0_; have HO237 := n1_; clear n0_ n1_ ho hb hg hat))
               go_roundg kj19
               case measure => have := HJ3.out; have := HK2.out; have := HK3.out; have := HJ19.out; omega
               case rel => exact ⟨(y235), (wrap64 (x8_2 + 1)), (by first | rfl | (simp; done) | (simp [*]; done)), H', ⟨by have := HJ3.out; have := HK2.out; have := HK3.out; have := HJ19.out; omega⟩, ⟨rz HO237⟩, ⟨by exact bh⟩⟩
              ·rw [if_neg c36] at H
               exact absurd H (by simp)
             ·replace c35 := Bool.eq_false_iff.mpr c35
              subst c35
              have H1 : (spec_UnbeatenOf.l0 kj19 l0 a1 a2 x7_2 (wrap64 (x8_2 + 1))) = some r := by rw [if_neg (show ¬ (false = true) by decide)] at H; exact H
              clear H
              have H := H1
              clear H1
              have H' := Aside0.mk H
              clear H
              go_wp2
              go_roundg kj19
              case measure => have := HJ3.out; have := HK2.out; have := HK3.out; have := HJ19.out; omega
              case rel => exact ⟨(x7_2), (wrap64 (x8_2 + 1)), (by first | rfl | (simp; done) | (simp [*]; done)), H', ⟨by have := HJ3.out; have := HK2.out; have := HK3.out; have := HJ19.out; omega⟩, ⟨rz HO_7⟩, ⟨by exact bh⟩⟩
       ·rw [if_neg c17] at H
        exact absurd H (by simp)
      ·rw [if_neg c16] at H
       have c16b0 : decide (x8_2 < (l0.length : Int)) = false := decide_eq_false c16
       clear c16
       obtain rfl := Option.some.inj H
       go_wp2
       go_ret
       exact ⟨_, by first | rfl | (simp [errW_none, errW_some] <;> rfl) | (simp [*, errW_none, errW_some] <;> rfl), by (with_reducible repeat (first | apply Kd.R_alloc | apply Kd.R_drewN | apply Kd.R_drew)); exact HO_7.out, by exact bh⟩

end Go.Proofs.Ytnandbgcejkonaa.QFnIdleLaws
