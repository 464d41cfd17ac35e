-- Printed for this claim by a turned copy of the print (wip/myprint). Lean checks it. Squeezed. Worded. Tightened.
import Derived.Test.YtnpjlpkbefdnlaaQFnExactBillTermx0
import Derived.Test.YtnpjlpkbefdnlaaQFnExactBillTermx14
namespace Go.Proofs.Ytnpjlpkbefdnlaa.QFnExactBillTerm
open Go.RowKit Go.Proofs.YtnpjlpkbefdnlaaW.PrintWords Go.Proofs.YtnpjlpkbefdnlaaW.PrintLast Go.Proofs.YtnpjlpkbefdnlaaW.PrintMore
attribute [local go_sem] max2_int min2_int max_two min_two max_three min_three max_four min_four Opens.cell_twice   -- for this text's walks alone
set_option linter.unusedVariables false
set_option linter.unusedSimpArgs false

/-! ### spec_l5Term: function 77 -/
mutual
def spec_l5Term.j0 : Nat → List (S78) → Int → List (S78) → Int → Option ((List (S78)) × Int)
 | 0, _, _, _, _ => none
 | k + 1, x8, x9, x10, x11 => if x9 = 1 then (some ((([] : List (S78))), 1)) else (if x9 = 2 then (some (x10, x11)) else (if x11 = 2 then (some (x8, 0)) else (if x10.length + x8.length < 5864062014805 then ((some (x10 ++ x8 : List (S78))).bind fun y370 => (if y370.length < 5864062014805 then (some ((y370 ++ [(⟨2, 0, 0⟩ : S78)]), 0)) else (none))) else (none))))
def spec_l5Term.f : Nat → List (S41) → Int → Option ((List (S78)) × Int)
 | 0, _, _ => none
 | k + 1, l0, a1 => if a1 = 10 then (some ((([] : List (S78))), 1)) else (if a1 = 11 then (some ((([] : List (S78))), 2)) else (if 0 ≤ a1 then (if a1 < (l0.length : Int) then ((spec_l5Term.f k l0 ((rd_T41 l0 a1).f1)).bind fun bt342 => ((spec_l5Term.f k l0 ((rd_T41 l0 a1).f2)).bind fun bt347 => ((some (([] : List (S78)) : List (S78))).bind fun y351 => (if y351.length + ((rd_T41 l0 a1).f0).length < 5864062014805 then ((some (y351 ++ ((rd_T41 l0 a1).f0) : List (S78))).bind fun y355 => (if bt342.2 = 0 then (if y355.length + bt342.1.length < 5864062014805 then ((some (y355 ++ bt342.1 : List (S78))).bind fun y358 => (if y358.length < 5864062014805 then (spec_l5Term.j0 k bt347.1 bt347.2 (y358 ++ [(⟨1, 0, 0⟩ : S78)]) 0) else (none))) else (none)) else (if bt342.2 = 2 then (spec_l5Term.j0 k bt347.1 bt347.2 (([] : List (S78))) 2) else (spec_l5Term.j0 k bt347.1 bt347.2 y355 0)))) else (none))))) else (none)) else (none)))
end
theorem spec_l5Term.mono_l : ∀ k, (∀ y0 y1, LeO (spec_l5Term.f k y0 y1) (spec_l5Term.f (k + 1) y0 y1)) ∧ (∀ y0 y1 y2 y3, LeO (spec_l5Term.j0 k y0 y1 y2 y3) (spec_l5Term.j0 (k + 1) y0 y1 y2 y3))
 | 0 => ⟨fun _ _ r h => by simp [spec_l5Term.f] at h, fun _ _ _ _ r h => by simp [spec_l5Term.j0] at h⟩
 | k + 1 => by
  obtain ⟨ih0, ih1⟩ := spec_l5Term.mono_l k
  refine ⟨?_, ?_⟩
  ·intro y0 y1
   unfold spec_l5Term.f
   repeat' first
   | (with_reducible exact ih0 _ _)
   | (with_reducible exact ih1 _ _ _ _)
   | (with_reducible exact LeO.refl _)
   | (with_reducible exact LeO.none _)
   | (with_reducible refine LeO.ite ?_ ?_)
   | (with_reducible refine LeO.bind ?_ (fun _ => ?_))
   | exact ih0 _ _
   | exact ih1 _ _ _ _
   | exact LeO.none _
   | refine LeO.ite ?_ ?_
   | refine LeO.bind ?_ (fun _ => ?_)
  ·intro y0 y1 y2 y3
   unfold spec_l5Term.j0
   repeat' first
   | (with_reducible exact ih0 _ _)
   | (with_reducible exact ih1 _ _ _ _)
   | (with_reducible exact LeO.refl _)
   | (with_reducible exact LeO.none _)
   | (with_reducible refine LeO.ite ?_ ?_)
   | (with_reducible refine LeO.bind ?_ (fun _ => ?_))
   | exact ih0 _ _
   | exact ih1 _ _ _ _
   | exact LeO.none _
   | refine LeO.ite ?_ ?_
   | refine LeO.bind ?_ (fun _ => ?_)
theorem spec_l5Term.mono : ∀ a0 a1 k, LeO (spec_l5Term.f k a0 a1) (spec_l5Term.f (k + 1) a0 a1) := by
 intro a0 a1 k
 obtain ⟨ih0, ih1⟩ := spec_l5Term.mono_l k
 exact ih0 a0 a1
set_option maxHeartbeats 8000000 in
set_option maxRecDepth 100000 in
theorem spec_l5Term.calls (k : Nat) : ∀ (A0 : Option Addr) (c0 : Nat) (l0 : List (S41)) (a1 : Int) (r1 : List (S78)) (r2 : Int) (w : World) (hr0 : Kd.C k41 w A0 l0.length l0) (hc0 : l0.length ≤ c0) (h : spec_l5Term.f k l0 a1 = some (r1, r2)),
  Calls Try.prog 77 #[.slice A0 l0.length c0, .int .i64 a1] w fun e w' => ∃ v0_ : Value, e = .returned (.tuple #[v0_, .int .i64 r2]) ∧ Kd.R k78 78 w' w.heap.size (fun _ => True) v0_ r1 ∧ Below w.heap.size w w' := by
 induction k using Nat.strongRecOn with
 | _ k ih =>
 intro A0 c0 l0 a1 r1 r2 w hr0 hc0 h
 cases k with
 | zero => exact absurd h (by simp [spec_l5Term.f])
 | succ k =>
 simp only [spec_l5Term.f] at h
 have hu78 := Try.underlying78
 have HR0 := Aside0.mk hr0
 have HC0 := Aside0.mk hc0
 clear hr0 hc0
 have HB := Aside0.mk (Below.refl w.heap.size w)
 have H : (if a1 = 10 then (some ((([] : List (S78))), 1)) else (if a1 = 11 then (some ((([] : List (S78))), 2)) else (if 0 ≤ a1 then (if a1 < (l0.length : Int) then ((spec_l5Term.f k l0 ((rd_T41 l0 a1).f1)).bind fun bt342 => ((spec_l5Term.f k l0 ((rd_T41 l0 a1).f2)).bind fun bt347 => ((some (([] : List (S78)) : List (S78))).bind fun y351 => (if y351.length + ((rd_T41 l0 a1).f0).length < 5864062014805 then ((some (y351 ++ ((rd_T41 l0 a1).f0) : List (S78))).bind fun y355 => (if bt342.2 = 0 then (if y355.length + bt342.1.length < 5864062014805 then ((some (y355 ++ bt342.1 : List (S78))).bind fun y358 => (if y358.length < 5864062014805 then (spec_l5Term.j0 k bt347.1 bt347.2 (y358 ++ [(⟨1, 0, 0⟩ : S78)]) 0) else (none))) else (none)) else (if bt342.2 = 2 then (spec_l5Term.j0 k bt347.1 bt347.2 (([] : List (S78))) 2) else (spec_l5Term.j0 k bt347.1 bt347.2 y355 0)))) else (none))))) else (none)) else (none)))) = some (r1, r2) := h
 clear h
 by_cases c3 : a1 = 10
 ·rw [if_pos c3] at H
  have c3b0 : (a1 == 10) = true := beq_iff_eq.mpr c3
  have c3b1 : (a1 != 10) = false := bne_eq_false_iff_eq.mpr c3
  clear c3
  obtain ⟨y335, hy335⟩ : ∃ y_ : List (S78), y_ = (([] : List (S78))) := ⟨_, rfl⟩
  replace H : (some (y335, 1)) = some (r1, r2) := by first | (rw [hy335]; with_reducible exact H) | (have H2_ := (Option.bind_some _ _).symm.trans H; rw [hy335]; with_reducible exact H2_) | (have H2_ := (Option.bind_some _ _).symm.trans H; with_reducible exact H2_) | with_reducible exact H | (rw [hy335]; exact H) | exact H
  have Ny335 := Aside0.mk hy335
  clear hy335
  simp only [Option.some.injEq, Prod.mk.injEq] at H
  obtain ⟨rfl, rfl⟩ := H
  go_enter Try.func77, Try.ntmps77
  go_wp2_with (first | ((with_reducible refine gate_dst (N := 15) rfl ?_); refine Kd.R_lit k78 _ 78 ?hg (N := 15) ?hd (xs := ([] : List (S78))) (inner := []) (ok := fun _ => True) (okp := fun _ => True) ?hr ?hp (fun _ hk => hk) trivial (Below.refl _ _) (Nat.le_refl _) (by simp) ?_; (case hd => rfl); (case hg => rfl); (case hr => first | (go_simp; done) | (go_simp; rfl)); (case hp => exact (Reps.none _ _)); intro v336 w4 ho5 hb hg_ hnew_; clear hg_ hnew_; (first | rw [← Ny335.out] at ho5 | (simp only [Int.reduceToNat] at ho5; rw [← Ny335.out] at ho5)); have n0_ := Aside0.mk (Kd.R_lower ho5 (below_size bh)); have n1_ := Aside0.mk (below_step bh hb); clear HB; have HO337 := n0_; have HB := n1_; clear n0_ n1_ hb ho5))
  go_ret2
  exact ⟨_, by first | rfl | (simp [errW_none, errW_some] <;> rfl) | (simp [*, errW_none, errW_some] <;> rfl), by (with_reducible repeat (first | apply Kd.R_alloc | apply Kd.R_drewN | apply Kd.R_drew)); exact HO337.out, by exact bh⟩
 ·rw [if_neg c3] at H
  have c3b0 : (a1 == 10) = false := beq_eq_false_iff_ne.mpr c3
  have c3b1 : (a1 != 10) = true := bne_iff_ne.mpr c3
  by_cases c6 : a1 = 11
  ·rw [if_pos c6] at H
   have c6b0 : (a1 == 11) = true := beq_iff_eq.mpr c6
   have c6b1 : (a1 != 11) = false := bne_eq_false_iff_eq.mpr c6
   clear c6
   obtain ⟨y338, hy338⟩ : ∃ y_ : List (S78), y_ = (([] : List (S78))) := ⟨_, rfl⟩
   replace H : (some (y338, 2)) = some (r1, r2) := by first | (rw [hy338]; with_reducible exact H) | (have H2_ := (Option.bind_some _ _).symm.trans H; rw [hy338]; with_reducible exact H2_) | (have H2_ := (Option.bind_some _ _).symm.trans H; with_reducible exact H2_) | with_reducible exact H | (rw [hy338]; exact H) | exact H
   have Ny338 := Aside0.mk hy338
   clear hy338
   simp only [Option.some.injEq, Prod.mk.injEq] at H
   obtain ⟨rfl, rfl⟩ := H
   go_enter Try.func77, Try.ntmps77
   go_wp2_with (first | ((with_reducible refine gate_dst (N := 18) rfl ?_); refine Kd.R_lit k78 _ 78 ?hg (N := 18) ?hd (xs := ([] : List (S78))) (inner := []) (ok := fun _ => True) (okp := fun _ => True) ?hr ?hp (fun _ hk => hk) trivial (Below.refl _ _) (Nat.le_refl _) (by simp) ?_; (case hd => rfl); (case hg => rfl); (case hr => first | (go_simp; done) | (go_simp; rfl)); (case hp => exact (Reps.none _ _)); intro v339 w7 ho8 hb hg_ hnew_; clear hg_ hnew_; (first | rw [← Ny338.out] at ho8 | (simp only [Int.reduceToNat] at ho8; rw [← Ny338.out] at ho8)); have n0_ := Aside0.mk (Kd.R_lower ho8 (below_size bh)); have n1_ := Aside0.mk (below_step bh hb); clear HB; have HO340 := n0_; have HB := n1_; clear n0_ n1_ hb ho8))
   go_ret2
   exact ⟨_, by first | rfl | (simp [errW_none, errW_some] <;> rfl) | (simp [*, errW_none, errW_some] <;> rfl), by (with_reducible repeat (first | apply Kd.R_alloc | apply Kd.R_drewN | apply Kd.R_drew)); exact HO340.out, by exact bh⟩
  ·rw [if_neg c6] at H
   have c6b0 : (a1 == 11) = false := beq_eq_false_iff_ne.mpr c6
   have c6b1 : (a1 != 11) = true := bne_iff_ne.mpr c6
   by_cases c9 : 0 ≤ a1
   ·rw [if_pos c9] at H
    have c9b0 : decide (0 ≤ a1) = true := decide_eq_true c9
    clear c9
    by_cases c10 : a1 < (l0.length : Int)
    ·rw [if_pos c10] at H
     have c10b0 : decide (a1 < (l0.length : Int)) = true := decide_eq_true c10
     clear c10
     replace H := Option.bind_eq_some_iff.mp H
     obtain ⟨⟨t342, t343⟩, A110, H⟩ := H
     replace H : ((spec_l5Term.f k l0 ((rd_T41 l0 a1).f2)).bind fun bt347 => ((some (([] : List (S78)) : List (S78))).bind fun y351 => (if y351.length + ((rd_T41 l0 a1).f0).length < 5864062014805 then ((some (y351 ++ ((rd_T41 l0 a1).f0) : List (S78))).bind fun y355 => (if t343 = 0 then (if y355.length + t342.length < 5864062014805 then ((some (y355 ++ t342 : List (S78))).bind fun y358 => (if y358.length < 5864062014805 then (spec_l5Term.j0 k bt347.1 bt347.2 (y358 ++ [(⟨1, 0, 0⟩ : S78)]) 0) else (none))) else (none)) else (if t343 = 2 then (spec_l5Term.j0 k bt347.1 bt347.2 (([] : List (S78))) 2) else (spec_l5Term.j0 k bt347.1 bt347.2 y355 0)))) else (none)))) = some (r1, r2) := H
     have A11 := Aside0.mk A110
     clear A110
     replace H := Option.bind_eq_some_iff.mp H
     obtain ⟨⟨t347, t348⟩, A120, H⟩ := H
     replace H : ((some (([] : List (S78)) : List (S78))).bind fun y351 => (if y351.length + ((rd_T41 l0 a1).f0).length < 5864062014805 then ((some (y351 ++ ((rd_T41 l0 a1).f0) : List (S78))).bind fun y355 => (if t343 = 0 then (if y355.length + t342.length < 5864062014805 then ((some (y355 ++ t342 : List (S78))).bind fun y358 => (if y358.length < 5864062014805 then (spec_l5Term.j0 k t347 t348 (y358 ++ [(⟨1, 0, 0⟩ : S78)]) 0) else (none))) else (none)) else (if t343 = 2 then (spec_l5Term.j0 k t347 t348 (([] : List (S78))) 2) else (spec_l5Term.j0 k t347 t348 y355 0)))) else (none))) = some (r1, r2) := H
     have A12 := Aside0.mk A120
     clear A120
     obtain ⟨y351, hy351⟩ : ∃ y_ : List (S78), y_ = (([] : List (S78))) := ⟨_, rfl⟩
     replace H : (if y351.length + ((rd_T41 l0 a1).f0).length < 5864062014805 then ((some (y351 ++ ((rd_T41 l0 a1).f0) : List (S78))).bind fun y355 => (if t343 = 0 then (if y355.length + t342.length < 5864062014805 then ((some (y355 ++ t342 : List (S78))).bind fun y358 => (if y358.length < 5864062014805 then (spec_l5Term.j0 k t347 t348 (y358 ++ [(⟨1, 0, 0⟩ : S78)]) 0) else (none))) else (none)) else (if t343 = 2 then (spec_l5Term.j0 k t347 t348 (([] : List (S78))) 2) else (spec_l5Term.j0 k t347 t348 y355 0)))) else (none)) = some (r1, r2) := by first | (rw [hy351]; with_reducible exact H) | (have H2_ := (Option.bind_some _ _).symm.trans H; rw [hy351]; with_reducible exact H2_) | (have H2_ := (Option.bind_some _ _).symm.trans H; with_reducible exact H2_) | with_reducible exact H | (rw [hy351]; exact H) | exact H
     have Ny351 := Aside0.mk hy351
     clear hy351
     by_cases c13 : y351.length + ((rd_T41 l0 a1).f0).length < 5864062014805
     ·rw [if_pos c13] at H
      have LMc13 := Aside0.mk c13
      clear c13
      obtain ⟨y355, hy355⟩ : ∃ y_ : List (S78), y_ = (y351 ++ ((rd_T41 l0 a1).f0)) := ⟨_, rfl⟩
      replace H : (if t343 = 0 then (if y355.length + t342.length < 5864062014805 then ((some (y355 ++ t342 : List (S78))).bind fun y358 => (if y358.length < 5864062014805 then (spec_l5Term.j0 k t347 t348 (y358 ++ [(⟨1, 0, 0⟩ : S78)]) 0) else (none))) else (none)) else (if t343 = 2 then (spec_l5Term.j0 k t347 t348 (([] : List (S78))) 2) else (spec_l5Term.j0 k t347 t348 y355 0))) = some (r1, r2) := by first | (rw [hy355]; with_reducible exact H) | (have H2_ := (Option.bind_some _ _).symm.trans H; rw [hy355]; with_reducible exact H2_) | (have H2_ := (Option.bind_some _ _).symm.trans H; with_reducible exact H2_) | with_reducible exact H | (rw [hy355]; exact H) | exact H
      have Ny355 := Aside0.mk hy355
      clear hy355
      have HC14 := Aside0.mk H
      clear H
      have p341 : 0 ≤ (a1 : Int) := oda
      have q341 : a1 < (l0.length : Int) := oda
      obtain ⟨ad341, A341_0, c341_0, e341, hx341_0, hx341_1, hx341_2, hl341_0, hi341_0⟩ := at_T41 HR0.out a1 p341 q341
      cases e341
      have HR341_0 := Aside0.mk hi341_0
      have HC341_0 := Aside0.mk hl341_0
      clear hi341_0 hl341_0
      replace p341 := eq_true p341
      replace q341 := eq_true q341
      go_enter Try.func77, Try.ntmps77
      go_upto_block 1 with (first | ((with_reducible refine gate_callee (f := 77) rfl ?_); refine goesL_ (some 26) rfl rfl Try.func77 kr rfl #[.slice (some ad341) l0.length c0, .int .i64 ((rd_T41 l0 a1).f1)] rfl lm ?_; (with_reducible refine (ih k (by omega) _ _ l0 ((rd_T41 l0 a1).f1) t342 t343 _ ?side1 ?side2 A11.out).mono ?_); (case side1 => repeat (first | exact HR0.out | (with_reducible refine Kd.C_alloc ?_ _) | (with_reducible refine Kd.C_drewN ?_ _) | (with_reducible refine Kd.C_drew ?_))); (case side2 => exact HC0.out); rintro e w15 ⟨v344, rfl, ho0, hb⟩; refine ⟨_, rfl, ?_⟩; have n0_ := Aside0.mk (Kd.R_lower ho0 (below_size bh)); have n1_ := Aside0.mk (below_step bh hb); clear HB; have HO345 := n0_; have HB := n1_; clear n0_ n1_; (try clear hb); (try clear hb2); (try clear hk); (try clear hi); (try clear ho0); have p346 : 0 ≤ (a1 : Int) := oda; have q346 : a1 < (l0.length : Int) := oda; obtain ⟨ad346, A346_0, c346_0, e346, hx346_0, hx346_1, hx346_2, hl346_0, hi346_0⟩ := at_T41 HR0.out a1 p346 q346; obtain rfl : ad341 = ad346 := (by injection e346); replace hx346_0 := (HB.out.cell (World.block_lt_of_cell? w _ hx346_0)).trans hx346_0; replace hx346_1 := (HB.out.cell (World.block_lt_of_cell? w _ hx346_1)).trans hx346_1; replace hx346_2 := (HB.out.cell (World.block_lt_of_cell? w _ hx346_2)).trans hx346_2; have HR346_0 := Aside0.mk hi346_0; have HC346_0 := Aside0.mk hl346_0; clear hi346_0 hl346_0; replace p346 := eq_true p346; replace q346 := eq_true q346) | ((with_reducible refine gate_callee (f := 77) rfl ?_); refine goesL_ (some 36) rfl rfl Try.func77 kr rfl #[.slice (some ad341) l0.length c0, .int .i64 ((rd_T41 l0 a1).f2)] rfl lm ?_; (with_reducible refine (ih k (by omega) _ _ l0 ((rd_T41 l0 a1).f2) t347 t348 _ ?side1 ?side2 A12.out).mono ?_); (case side1 => repeat (first | exact (Kd.C_below HR0.out HB.out) | (with_reducible refine Kd.C_alloc ?_ _) | (with_reducible refine Kd.C_drewN ?_ _) | (with_reducible refine Kd.C_drew ?_))); (case side2 => exact HC0.out); rintro e w16 ⟨v349, rfl, ho0, hb⟩; refine ⟨_, rfl, ?_⟩; have n0_ := Aside0.mk (Kd.R_elder' (rz HO345) (Kd.R_base ho0) hb); have n1_ := Aside0.mk (Kd.R_lower (Kd.R_new' ho0 (Kd.R_lt (rz HO345))) (below_size bh)); have n2_ := Aside0.mk (below_step bh hb); clear HO345 HB; have HO345 := n0_; have HO350 := n1_; have HB := n2_; clear n0_ n1_ n2_; (try clear hb); (try clear hb2); (try clear hk); (try clear hi); (try clear ho0)) | ((with_reducible refine gate_dst (N := 39) rfl ?_); refine Kd.R_lit k78 _ 78 ?hg (N := 39) ?hd (xs := ([] : List (S78))) (inner := []) (ok := fun _ => True) (okp := fun _ => True) ?hr ?hp (fun _ hk => hk) trivial (Below.refl _ _) (Nat.le_refl _) (by simp) ?_; (case hd => rfl); (case hg => rfl); (case hr => first | (go_simp; done) | (go_simp; rfl)); (case hp => exact (Reps.none _ _)); intro v352 w17 ho18 hb hg_ hnew_; clear hg_ hnew_; (first | rw [← Ny351.out] at ho18 | (simp only [Int.reduceToNat] at ho18; rw [← Ny351.out] at ho18)); have n0_ := Aside0.mk (Kd.R_elder' (rz HO345) (Kd.R_base ho18) hb); have n1_ := Aside0.mk (Kd.R_elder' (rz HO350) (Kd.R_base ho18) hb); have n2_ := Aside0.mk (Kd.R_lower (Kd.R_new' (Kd.R_new' ho18 (Kd.R_lt (rz HO345))) (Kd.R_lt (rz HO350))) (below_size bh)); have n3_ := Aside0.mk (below_step bh hb); clear HO345 HO350 HB; have HO345 := n0_; have HO350 := n1_; have HO353 := n2_; have HB := n3_; clear n0_ n1_ n2_ n3_ hb ho18; have p354 : 0 ≤ (a1 : Int) := oda; have q354 : a1 < (l0.length : Int) := oda; obtain ⟨ad354, A354_0, c354_0, e354, hx354_0, hx354_1, hx354_2, hl354_0, hi354_0⟩ := at_T41 HR0.out a1 p354 q354; obtain rfl : ad341 = ad354 := (by injection e354); replace hx354_0 := (HB.out.cell (World.block_lt_of_cell? w _ hx354_0)).trans hx354_0; replace hx354_1 := (HB.out.cell (World.block_lt_of_cell? w _ hx354_1)).trans hx354_1; replace hx354_2 := (HB.out.cell (World.block_lt_of_cell? w _ hx354_2)).trans hx354_2; have HR354_0 := Aside0.mk hi354_0; have HC354_0 := Aside0.mk hl354_0; clear hi354_0 hl354_0; replace p354 := eq_true p354; replace q354 := eq_true q354) | ((with_reducible refine gate_builtin (b := .append) (xs := #[.tmp 39, .tmp 44]) rfl ?_); at_builtin; refine Kd.R_append_rows k78 (w0 := w) w.heap.size rfl (.tmp 39) (.tmp 44) 33 78 (.agg #[(.int .i64 0), (.int .i64 0), (.int .i64 0)]) 24 rfl Try.underlying33 info78 rfl (by decide) (by omega) v352 y351 ((rd_T41 l0 a1).f0) _ _ _ (fun k_ => some k_ ≠ (v344 : Value).ownBlock ∧ some k_ ≠ (v349 : Value).ownBlock) (fun _ => False) rfl rfl ?aO ?aR (fun _ _ h => h) (fun _ h => h.elim) ?aF ?aB ?aS ?aL ?_; (case aR => repeat (first | exact (Kd.C_below HR354_0.out HB.out) | (with_reducible refine Kd.C_alloc ?_ _) | (with_reducible refine Kd.C_drewN ?_ _) | (with_reducible refine Kd.C_drew ?_))); (case aB => exact bh); (case aF => exact (fun k_ hk => ⟨Kd.fresh' (Kd.R_lt (rz HO345)) k_ hk, Kd.fresh' (Kd.R_lt (rz HO350)) k_ hk⟩)); (case aO => exact (mR HO353)); (case aS => exact (below_size bh)); (case aL => have := LMc13.out; omega); intro v356 w19 ho hb hg hat; rw [← Ny355.out] at ho; have n0_ := Aside0.mk (Kd.R_after (ok := (fun k_ => some k_ ≠ (v349 : Value).ownBlock)) (mR HO345) hg hat); have n1_ := Aside0.mk (Kd.R_after (ok := (fun k_ => some k_ ≠ (v344 : Value).ownBlock)) (mR HO350) hg hat); have n2_ := Aside0.mk (hb); have n3_ := Aside0.mk (ho); clear HO345 HO350 HB HO353; have HO345 := n0_; have HO350 := n1_; have HB := n2_; have HO357 := n3_; clear n0_ n1_ n2_ n3_ ho hb hg hat))
      (try simp only [Act.put, List.setIfInBounds_toArray, List.set_cons_zero, List.set_cons_succ])
      go_cut [10, 11] (fun v10 v11 wc => ∃ (kq : Nat) (x10_13 : List (S78)) (x11_13 : Int), v11 = .int .i64 x11_13 ∧ Aside0 (spec_l5Term.j0 kq t347 t348 x10_13 x11_13 = some (r1, r2)) ∧ Aside0 (kq ≤ k) ∧ Aside0 (Kd.R k78 78 wc w.heap.size (fun k_ => some k_ ≠ (v10 : Value).ownBlock) v349 t347) ∧ Aside0 (Kd.R k78 78 wc w.heap.size (fun k_ => some k_ ≠ (v349 : Value).ownBlock) v10 x10_13) ∧ Aside0 (Below w.heap.size w wc))
      case first =>
       have H := HC14.out
       clear HC14
       by_cases c20 : t343 = 0
       ·rw [if_pos c20] at H
        have c20b0 : (t343 == 0) = true := beq_iff_eq.mpr c20
        have c20b1 : (t343 != 0) = false := bne_eq_false_iff_eq.mpr c20
        clear c20
        (first | rw [c20b0] | (simp only [i64_w, i32_w]; rw [c20b0]) | skip)
        by_cases c21 : y355.length + t342.length < 5864062014805
        ·rw [if_pos c21] at H
         have LMc21 := Aside0.mk c21
         clear c21
         obtain ⟨y358, hy358⟩ : ∃ y_ : List (S78), y_ = (y355 ++ t342) := ⟨_, rfl⟩
         replace H : (if y358.length < 5864062014805 then (spec_l5Term.j0 k t347 t348 (y358 ++ [(⟨1, 0, 0⟩ : S78)]) 0) else (none)) = some (r1, r2) := by first | (rw [hy358]; with_reducible exact H) | (have H2_ := (Option.bind_some _ _).symm.trans H; rw [hy358]; with_reducible exact H2_) | (have H2_ := (Option.bind_some _ _).symm.trans H; with_reducible exact H2_) | with_reducible exact H | (rw [hy358]; exact H) | exact H
         have Ny358 := Aside0.mk hy358
         clear hy358
         by_cases c22 : y358.length < 5864062014805
         ·rw [if_pos c22] at H
          have LMc22 := Aside0.mk c22
          clear c22
          obtain ⟨y361, hy361⟩ : ∃ y_ : List (S78), y_ = (y358 ++ [(⟨1, 0, 0⟩ : S78)]) := ⟨_, rfl⟩
          replace H : (spec_l5Term.j0 k t347 t348 y361 0) = some (r1, r2) := by first | (rw [hy361]; with_reducible exact H) | (have H2_ := (Option.bind_some _ _).symm.trans H; rw [hy361]; with_reducible exact H2_) | (have H2_ := (Option.bind_some _ _).symm.trans H; with_reducible exact H2_) | with_reducible exact H | (rw [hy361]; exact H) | exact H
          have Ny361 := Aside0.mk hy361
          clear hy361
          have H' := Aside0.mk H
          clear H
          obtain ⟨Ao24, co24, eo24⟩ := Kd.R_slice HO345.out
          subst eo24
          go_wp2_with (first | ((with_reducible refine gate_builtin (b := .append) (xs := #[.tmp 49, .tmp 50]) rfl ?_); at_builtin; refine Kd.R_append_rows k78 (w0 := w) w.heap.size rfl (.tmp 49) (.tmp 50) 33 78 (.agg #[(.int .i64 0), (.int .i64 0), (.int .i64 0)]) 24 rfl Try.underlying33 info78 rfl (by decide) (by omega) v356 y355 t342 _ _ _ (fun k_ => some k_ ≠ (.slice Ao24 t342.length co24 : Value).ownBlock ∧ some k_ ≠ (v349 : Value).ownBlock) (fun _ => False) rfl rfl ?aO ?aR (fun _ _ h => h) (fun _ h => h.elim) ?aF ?aB ?aS ?aL ?_; (case aR => repeat (first | exact (Kd.R_reads' HO345.out).2.2 | (with_reducible refine Kd.C_alloc ?_ _) | (with_reducible refine Kd.C_drewN ?_ _) | (with_reducible refine Kd.C_drew ?_))); (case aB => exact bh); (case aF => exact (fun k_ hk => ⟨Kd.fresh' (Kd.R_lt (rz HO345)) k_ hk, Kd.fresh' (Kd.R_lt (rz HO350)) k_ hk⟩)); (case aO => exact (rz HO357)); (case aS => exact (below_size bh)); (case aL => have := LMc21.out; omega); intro v359 w23 ho hb hg hat; rw [← Ny358.out] at ho; have n0_ := Aside0.mk (Kd.R_after (ok := (fun k_ => some k_ ≠ (v349 : Value).ownBlock)) (rz HO345) hg hat); have n1_ := Aside0.mk (Kd.R_after (ok := (fun k_ => some k_ ≠ (.slice Ao24 t342.length co24 : Value).ownBlock)) (rz HO350) hg hat); have n2_ := Aside0.mk (hb); have n3_ := Aside0.mk (ho); clear HO345 HO350 HB HO357; have HO345 := n0_; have HO350 := n1_; have HB := n2_; have HO360 := n3_; clear n0_ n1_ n2_ n3_ ho hb hg hat) | ((with_reducible refine gate_builtin (b := .append) (xs := #[.tmp 51, .tmp 53]) rfl ?_); at_builtin; refine Kd.R_append k78 (w0 := w) w.heap.size rfl (.tmp 51) (.tmp 53) 33 78 (.agg #[(.int .i64 0), (.int .i64 0), (.int .i64 0)]) 24 rfl Try.underlying33 info78 rfl (by decide) (by omega) v359 y358 (⟨1, 0, 0⟩ : S78) [.int .i64 1, .int .i64 0, .int .i64 0] (fun k_ => some k_ ≠ (.slice Ao24 t342.length co24 : Value).ownBlock ∧ some k_ ≠ (v349 : Value).ownBlock) (fun _ => False) rfl rfl ?aP (fun _ hk => hk.elim) ?aF ?aO ?aB ?aS ?aL ?_; (case aP => exact k78_mkM _ _ _ (⟨1, 0, 0⟩ : S78)); (case aB => exact bh); (case aF => exact (fun k_ hk => ⟨Kd.fresh' (Kd.R_lt (rz HO345)) k_ hk, Kd.fresh' (Kd.R_lt (rz HO350)) k_ hk⟩)); (case aO => exact (rz HO360)); (case aS => exact (below_size bh)); (case aL => have := LMc22.out; omega); intro v362 w25 ho hb hg hat; rw [← Ny361.out] at ho; have n0_ := Aside0.mk (Kd.R_after (ok := (fun k_ => some k_ ≠ (v349 : Value).ownBlock)) (rz HO345) hg hat); have n1_ := Aside0.mk (Kd.R_after (ok := (fun k_ => some k_ ≠ (.slice Ao24 t342.length co24 : Value).ownBlock)) (rz HO350) hg hat); have n2_ := Aside0.mk (hb); have n3_ := Aside0.mk (ho); clear HO345 HO350 HB HO360; have HO345 := n0_; have HO350 := n1_; have HB := n2_; have HO363 := n3_; clear n0_ n1_ n2_ n3_ ho hb hg hat))
          go_meet
          case rel => exact ⟨_, (y361), (0), (by first | rfl | (simp; done) | (simp [*]; done)), H', ⟨by first | omega | exact Nat.le_refl _⟩, ⟨mR HO350⟩, ⟨mR HO363⟩, ⟨by exact bh⟩⟩
         ·rw [if_neg c22] at H
          exact absurd H (by simp)
        ·rw [if_neg c21] at H
         exact absurd H (by simp)
       ·rw [if_neg c20] at H
        have c20b0 : (t343 == 0) = false := beq_eq_false_iff_ne.mpr c20
        have c20b1 : (t343 != 0) = true := bne_iff_ne.mpr c20
        (first | rw [c20b0] | (simp only [i64_w, i32_w]; rw [c20b0]) | skip)
        by_cases c26 : t343 = 2
        ·rw [if_pos c26] at H
         have c26b0 : (t343 == 2) = true := beq_iff_eq.mpr c26
         have c26b1 : (t343 != 2) = false := bne_eq_false_iff_eq.mpr c26
         clear c26
         obtain ⟨y364, hy364⟩ : ∃ y_ : List (S78), y_ = (([] : List (S78))) := ⟨_, rfl⟩
         replace H : (spec_l5Term.j0 k t347 t348 y364 2) = some (r1, r2) := by first | (rw [hy364]; with_reducible exact H) | (have H2_ := (Option.bind_some _ _).symm.trans H; rw [hy364]; with_reducible exact H2_) | (have H2_ := (Option.bind_some _ _).symm.trans H; with_reducible exact H2_) | with_reducible exact H | (rw [hy364]; exact H) | exact H
         have Ny364 := Aside0.mk hy364
         clear hy364
         have H' := Aside0.mk H
         clear H
         go_wp2_with (first | ((with_reducible refine gate_dst (N := 57) rfl ?_); refine Kd.R_lit k78 _ 78 ?hg (N := 57) ?hd (xs := ([] : List (S78))) (inner := []) (ok := fun _ => True) (okp := fun _ => True) ?hr ?hp (fun _ hk => hk) trivial (Below.refl _ _) (Nat.le_refl _) (by simp) ?_; (case hd => rfl); (case hg => rfl); (case hr => first | (go_simp; done) | (go_simp; rfl)); (case hp => exact (Reps.none _ _)); intro v365 w27 ho28 hb hg_ hnew_; clear hg_ hnew_; (first | rw [← Ny364.out] at ho28 | (simp only [Int.reduceToNat] at ho28; rw [← Ny364.out] at ho28)); have n0_ := Aside0.mk (Kd.R_elder' (rz HO345) (Kd.R_base ho28) hb); have n1_ := Aside0.mk (Kd.R_elder' (rz HO350) (Kd.R_base ho28) hb); have n2_ := Aside0.mk (Kd.R_elder' (rz HO357) (Kd.R_base ho28) hb); have n3_ := Aside0.mk (Kd.R_lower (Kd.R_new' (Kd.R_new' (Kd.R_new' ho28 (Kd.R_lt (rz HO345))) (Kd.R_lt (rz HO350))) (Kd.R_lt (rz HO357))) (below_size bh)); have n4_ := Aside0.mk (below_step bh hb); clear HO345 HO350 HO357 HB; have HO345 := n0_; have HO350 := n1_; have HO357 := n2_; have HO366 := n3_; have HB := n4_; clear n0_ n1_ n2_ n3_ n4_ hb ho28))
         go_meet
         case rel => exact ⟨_, (y364), (2), (by first | rfl | (simp; done) | (simp [*]; done)), H', ⟨by first | omega | exact Nat.le_refl _⟩, ⟨mR HO350⟩, ⟨mR HO366⟩, ⟨by exact bh⟩⟩
        ·rw [if_neg c26] at H
         have c26b0 : (t343 == 2) = false := beq_eq_false_iff_ne.mpr c26
         have c26b1 : (t343 != 2) = true := bne_iff_ne.mpr c26
         have H' := Aside0.mk H
         clear H
         go_wp2
         go_meet
         case rel => exact ⟨_, (y355), (0), (by first | rfl | (simp; done) | (simp [*]; done)), H', ⟨by first | omega | exact Nat.le_refl _⟩, ⟨mR HO350⟩, ⟨mR HO357⟩, ⟨by exact bh⟩⟩
      case rest =>
       clear HC14
       try clear c1
       try clear c2
       try clear p2
       try clear c3
       try clear c3b0
       try clear c3b1
       try clear p3
       try clear q3
       try clear hx3
       try clear c6
       try clear c6b0
       try clear c6b1
       try clear c7
       try clear c9
       try clear c9b0
       try clear c10
       try clear c10b0
       try clear c13
       try clear c20
       try clear c20b0
       try clear c20b1
       try clear c21
       try clear c22
       try clear c26
       try clear c26b0
       try clear c26b1
       try clear hx341_0
       try clear hx341_1
       try clear hx341_2
       try clear hx346_0
       try clear hx346_1
       try clear hx346_2
       try clear hx354_0
       try clear hx354_1
       try clear hx354_2
       try clear p341
       try clear p346
       try clear p354
       try clear q341
       try clear q346
       try clear q354
       obtain ⟨kq, x10_13, x11_13, rfl, HA, HJ13, HO_8, HO_10, HB⟩ := hcut
       cases kq with
       | zero => exact absurd HA.out (by simp [spec_l5Term.j0])
       | succ kj13 =>
        have H := HA.out
        clear HA
        simp only [spec_l5Term.j0] at H
        by_cases c29 : t348 = 1
        ·rw [if_pos c29] at H
         have c29b0 : (t348 == 1) = true := beq_iff_eq.mpr c29
         have c29b1 : (t348 != 1) = false := bne_eq_false_iff_eq.mpr c29
         clear c29
         obtain ⟨y367, hy367⟩ : ∃ y_ : List (S78), y_ = (([] : List (S78))) := ⟨_, rfl⟩
         replace H : (some (y367, 1)) = some (r1, r2) := by first | (rw [hy367]; with_reducible exact H) | (have H2_ := (Option.bind_some _ _).symm.trans H; rw [hy367]; with_reducible exact H2_) | (have H2_ := (Option.bind_some _ _).symm.trans H; with_reducible exact H2_) | with_reducible exact H | (rw [hy367]; exact H) | exact H
         have Ny367 := Aside0.mk hy367
         clear hy367
         simp only [Option.some.injEq, Prod.mk.injEq] at H
         obtain ⟨rfl, rfl⟩ := H
         go_wp2_with (first | ((with_reducible refine gate_dst (N := 61) rfl ?_); refine Kd.R_lit k78 _ 78 ?hg (N := 61) ?hd (xs := ([] : List (S78))) (inner := []) (ok := fun _ => True) (okp := fun _ => True) ?hr ?hp (fun _ hk => hk) trivial (Below.refl _ _) (Nat.le_refl _) (by simp) ?_; (case hd => rfl); (case hg => rfl); (case hr => first | (go_simp; done) | (go_simp; rfl)); (case hp => exact (Reps.none _ _)); intro v368 w30 ho31 hb hg_ hnew_; clear hg_ hnew_; (first | rw [← Ny367.out] at ho31 | (simp only [Int.reduceToNat] at ho31; rw [← Ny367.out] at ho31)); have n0_ := Aside0.mk (Kd.R_elder' (rz HO_8) (Kd.R_base ho31) hb); have n1_ := Aside0.mk (Kd.R_elder' (rz HO_10) (Kd.R_base ho31) hb); have n2_ := Aside0.mk (Kd.R_lower (Kd.R_new' (Kd.R_new' ho31 (Kd.R_lt (rz HO_8))) (Kd.R_lt (rz HO_10))) (below_size bh)); have n3_ := Aside0.mk (below_step bh hb); clear HO_8 HO_10 HB; have HO_8 := n0_; have HO_10 := n1_; have HO369 := n2_; have HB := n3_; clear n0_ n1_ n2_ n3_ hb ho31))
         go_ret2
         exact ⟨_, by first | rfl | (simp [errW_none, errW_some] <;> rfl) | (simp [*, errW_none, errW_some] <;> rfl), by (with_reducible repeat (first | apply Kd.R_alloc | apply Kd.R_drewN | apply Kd.R_drew)); exact Kd.R_mono HO369.out (fun _ hk => trivial), by exact bh⟩
        ·rw [if_neg c29] at H
         have c29b0 : (t348 == 1) = false := beq_eq_false_iff_ne.mpr c29
         have c29b1 : (t348 != 1) = true := bne_iff_ne.mpr c29
         by_cases c32 : t348 = 2
         ·rw [if_pos c32] at H
          have c32b0 : (t348 == 2) = true := beq_iff_eq.mpr c32
          have c32b1 : (t348 != 2) = false := bne_eq_false_iff_eq.mpr c32
          clear c32
          simp only [Option.some.injEq, Prod.mk.injEq] at H
          obtain ⟨rfl, rfl⟩ := H
          go_wp2
          go_ret2
          exact ⟨_, by first | rfl | (simp [errW_none, errW_some] <;> rfl) | (simp [*, errW_none, errW_some] <;> rfl), by (with_reducible repeat (first | apply Kd.R_alloc | apply Kd.R_drewN | apply Kd.R_drew)); exact Kd.R_mono HO_10.out (fun _ hk => trivial), by exact bh⟩
         ·rw [if_neg c32] at H
          have c32b0 : (t348 == 2) = false := beq_eq_false_iff_ne.mpr c32
          have c32b1 : (t348 != 2) = true := bne_iff_ne.mpr c32
          by_cases c33 : x11_13 = 2
          ·rw [if_pos c33] at H
           have c33b0 : (x11_13 == 2) = true := beq_iff_eq.mpr c33
           have c33b1 : (x11_13 != 2) = false := bne_eq_false_iff_eq.mpr c33
           clear c33
           simp only [Option.some.injEq, Prod.mk.injEq] at H
           obtain ⟨rfl, rfl⟩ := H
           go_wp2
           go_ret2
           exact ⟨_, by first | rfl | (simp [errW_none, errW_some] <;> rfl) | (simp [*, errW_none, errW_some] <;> rfl), by (with_reducible repeat (first | apply Kd.R_alloc | apply Kd.R_drewN | apply Kd.R_drew)); exact Kd.R_mono HO_8.out (fun _ hk => trivial), by exact bh⟩
          ·rw [if_neg c33] at H
           have c33b0 : (x11_13 == 2) = false := beq_eq_false_iff_ne.mpr c33
           have c33b1 : (x11_13 != 2) = true := bne_iff_ne.mpr c33
           by_cases c34 : x10_13.length + t347.length < 5864062014805
           ·rw [if_pos c34] at H
            have LMc34 := Aside0.mk c34
            clear c34
            obtain ⟨y370, hy370⟩ : ∃ y_ : List (S78), y_ = (x10_13 ++ t347) := ⟨_, rfl⟩
            replace H : (if y370.length < 5864062014805 then (some ((y370 ++ [(⟨2, 0, 0⟩ : S78)]), 0)) else (none)) = some (r1, r2) := by first | (rw [hy370]; with_reducible exact H) | (have H2_ := (Option.bind_some _ _).symm.trans H; rw [hy370]; with_reducible exact H2_) | (have H2_ := (Option.bind_some _ _).symm.trans H; with_reducible exact H2_) | with_reducible exact H | (rw [hy370]; exact H) | exact H
            have Ny370 := Aside0.mk hy370
            clear hy370
            by_cases c35 : y370.length < 5864062014805
            ·rw [if_pos c35] at H
             have LMc35 := Aside0.mk c35
             clear c35
             obtain ⟨y373, hy373⟩ : ∃ y_ : List (S78), y_ = (y370 ++ [(⟨2, 0, 0⟩ : S78)]) := ⟨_, rfl⟩
             replace H : (some (y373, 0)) = some (r1, r2) := by first | (rw [hy373]; with_reducible exact H) | (have H2_ := (Option.bind_some _ _).symm.trans H; rw [hy373]; with_reducible exact H2_) | (have H2_ := (Option.bind_some _ _).symm.trans H; with_reducible exact H2_) | with_reducible exact H | (rw [hy373]; exact H) | exact H
             have Ny373 := Aside0.mk hy373
             clear hy373
             simp only [Option.some.injEq, Prod.mk.injEq] at H
             obtain ⟨rfl, rfl⟩ := H
             obtain ⟨Ao37, co37, eo37⟩ := Kd.R_slice HO_8.out
             subst eo37
             go_wp2_with (first | ((with_reducible refine gate_builtin (b := .append) (xs := #[.tmp 71, .tmp 72]) rfl ?_); at_builtin; refine Kd.R_append_rows k78 (w0 := w) w.heap.size rfl (.tmp 71) (.tmp 72) 33 78 (.agg #[(.int .i64 0), (.int .i64 0), (.int .i64 0)]) 24 rfl Try.underlying33 info78 rfl (by decide) (by omega) u10 x10_13 t347 _ _ _ (fun k_ => some k_ ≠ (.slice Ao37 t347.length co37 : Value).ownBlock) (fun _ => False) rfl rfl ?aO ?aR (fun _ _ h => h) (fun _ h => h.elim) ?aF ?aB ?aS ?aL ?_; (case aR => repeat (first | exact (Kd.R_reads' HO_8.out).2.2 | (with_reducible refine Kd.C_alloc ?_ _) | (with_reducible refine Kd.C_drewN ?_ _) | (with_reducible refine Kd.C_drew ?_))); (case aB => exact bh); (case aF => exact (fun k_ hk => Kd.fresh' (Kd.R_lt (rz HO_8)) k_ hk)); (case aO => exact (rz HO_10)); (case aS => exact (below_size bh)); (case aL => have := LMc34.out; omega); intro v371 w36 ho hb hg hat; rw [← Ny370.out] at ho; have n0_ := Aside0.mk (Kd.R_after (ok := (fun _ => True)) (mR HO_8) hg hat); have n1_ := Aside0.mk (hb); have n2_ := Aside0.mk (ho); clear HO_8 HB HO_10; have HO_8 := n0_; have HB := n1_; have HO372 := n2_; clear n0_ n1_ n2_ ho hb hg hat) | ((with_reducible refine gate_builtin (b := .append) (xs := #[.tmp 73, .tmp 75]) rfl ?_); at_builtin; refine Kd.R_append k78 (w0 := w) w.heap.size rfl (.tmp 73) (.tmp 75) 33 78 (.agg #[(.int .i64 0), (.int .i64 0), (.int .i64 0)]) 24 rfl Try.underlying33 info78 rfl (by decide) (by omega) v371 y370 (⟨2, 0, 0⟩ : S78) [.int .i64 2, .int .i64 0, .int .i64 0] (fun k_ => some k_ ≠ (.slice Ao37 t347.length co37 : Value).ownBlock) (fun _ => False) rfl rfl ?aP (fun _ hk => hk.elim) ?aF ?aO ?aB ?aS ?aL ?_; (case aP => exact k78_mkM _ _ _ (⟨2, 0, 0⟩ : S78)); (case aB => exact bh); (case aF => exact (fun k_ hk => Kd.fresh' (Kd.R_lt (rz HO_8)) k_ hk)); (case aO => exact (rz HO372)); (case aS => exact (below_size bh)); (case aL => have := LMc35.out; omega); intro v374 w38 ho hb hg hat; rw [← Ny373.out] at ho; have n0_ := Aside0.mk (Kd.R_after (ok := (fun _ => True)) (rz HO_8) hg hat); have n1_ := Aside0.mk (hb); have n2_ := Aside0.mk (ho); clear HO_8 HB HO372; have HO_8 := n0_; have HB := n1_; have HO375 := n2_; clear n0_ n1_ n2_ ho hb hg hat))
             go_ret2
             exact ⟨_, by first | rfl | (simp [errW_none, errW_some] <;> rfl) | (simp [*, errW_none, errW_some] <;> rfl), by (with_reducible repeat (first | apply Kd.R_alloc | apply Kd.R_drewN | apply Kd.R_drew)); exact Kd.R_mono HO375.out (fun _ hk => trivial), by exact bh⟩
            ·rw [if_neg c35] at H
             exact absurd H (by simp)
           ·rw [if_neg c34] at H
            exact absurd H (by simp)
     ·rw [if_neg c13] at H
      exact absurd H (by simp)
    ·rw [if_neg c10] at H
     exact absurd H (by simp)
   ·rw [if_neg c9] at H
    exact absurd H (by simp)

/-! ### spec_BillTerm: function 43 -/
def spec_BillTerm.f (k : Nat) (a0_0 : Int) (l0_1 : List Int) (l1 : List (S41)) : Option ((List (S78)) × Int) := (spec_SoundOk.f k a0_0 l0_1 l1).bind fun t377 => (if t377 = true then ((spec_l5Term.f k l1 0).bind fun bt378 => (if (bt378.1.length : Int) > 9 then (some ((([] : List (S78))), (-1))) else (some (bt378.1, bt378.2)))) else (some ((([] : List (S78))), (-1))))
theorem spec_BillTerm.mono : ∀ a0 a1 a2 k, LeO (spec_BillTerm.f k a0 a1 a2) (spec_BillTerm.f (k + 1) a0 a1 a2) := by
 intro a0 a1 a2 k
 unfold spec_BillTerm.f
 repeat' first
   | (with_reducible exact spec_SoundOk.mono _ _ _ _)
   | (with_reducible exact spec_l5Term.mono _ _ _)
   | (with_reducible exact LeO.refl _)
   | (with_reducible exact LeO.none _)
   | (with_reducible refine LeO.ite ?_ ?_)
   | (with_reducible refine LeO.bind ?_ (fun _ => ?_))
   | exact spec_SoundOk.mono _ _ _ _
   | exact spec_l5Term.mono _ _ _
   | exact LeO.none _
   | refine LeO.ite ?_ ?_
   | refine LeO.bind ?_ (fun _ => ?_)
set_option maxHeartbeats 8000000 in
set_option maxRecDepth 100000 in
theorem spec_BillTerm.calls (k : Nat) (a0_0 : Int) (A0_1 : Option Addr) (c0_1 : Nat) (l0_1 : List Int) (A1 : Option Addr) (c1 : Nat) (l1 : List (S41)) (r1 : List (S78)) (r2 : Int) (w : World) (hr0_1 : Kd.C (Kd.int .i64) w A0_1 l0_1.length l0_1) (hc0_1 : l0_1.length ≤ c0_1) (hr1 : Kd.C k41 w A1 l1.length l1) (hc1 : l1.length ≤ c1) (h : spec_BillTerm.f k a0_0 l0_1 l1 = some (r1, r2)) :
  Calls Try.prog 43 #[.agg #[.int .i64 a0_0, .slice A0_1 l0_1.length c0_1], .slice A1 l1.length c1] w fun e w' => ∃ v0_ : Value, e = .returned (.tuple #[v0_, .int .i64 r2]) ∧ Kd.R k78 78 w' w.heap.size (fun _ => True) v0_ r1 ∧ Below w.heap.size w w' := by
 have hu25 := Try.underlying25
 have HR0_1 := Aside0.mk hr0_1
 have HC0_1 := Aside0.mk hc0_1
 clear hr0_1 hc0_1
 have HR1 := Aside0.mk hr1
 have HC1 := Aside0.mk hc1
 clear hr1 hc1
 have HB := Aside0.mk (Below.refl w.heap.size w)
 have H : ((spec_SoundOk.f k a0_0 l0_1 l1).bind fun t377 => (if t377 = true then ((spec_l5Term.f k l1 0).bind fun bt378 => (if (bt378.1.length : Int) > 9 then (some ((([] : List (S78))), (-1))) else (some (bt378.1, bt378.2)))) else (some ((([] : List (S78))), (-1))))) = some (r1, r2) := h
 clear h
 replace H := Option.bind_eq_some_iff.mp H
 obtain ⟨t377, A30, H⟩ := H
 replace H : (if t377 = true then ((spec_l5Term.f k l1 0).bind fun bt378 => (if (bt378.1.length : Int) > 9 then (some ((([] : List (S78))), (-1))) else (some (bt378.1, bt378.2)))) else (some ((([] : List (S78))), (-1)))) = some (r1, r2) := H
 have A3 := Aside0.mk A30
 clear A30
 by_cases c4 : t377 = true
 ·subst c4
  have H1 : ((spec_l5Term.f k l1 0).bind fun bt378 => (if (bt378.1.length : Int) > 9 then (some ((([] : List (S78))), (-1))) else (some (bt378.1, bt378.2)))) = some (r1, r2) := by rw [if_pos rfl] at H; exact H
  clear H
  have H := H1
  clear H1
  replace H := Option.bind_eq_some_iff.mp H
  obtain ⟨⟨t378, t379⟩, A50, H⟩ := H
  replace H : (if (t378.length : Int) > 9 then (some ((([] : List (S78))), (-1))) else (some (t378, t379))) = some (r1, r2) := H
  have A5 := Aside0.mk A50
  clear A50
  by_cases c6 : (t378.length : Int) > 9
  ·rw [if_pos c6] at H
   have c6b0 : decide (9 < (t378.length : Int)) = true := decide_eq_true c6
   have c6b1 : decide (9 < t378.length) = true := decide_eq_true (by omega)
   clear c6
   obtain ⟨y382, hy382⟩ : ∃ y_ : List (S78), y_ = (([] : List (S78))) := ⟨_, rfl⟩
   replace H : (some (y382, (-1))) = some (r1, r2) := by first | (rw [hy382]; with_reducible exact H) | (have H2_ := (Option.bind_some _ _).symm.trans H; rw [hy382]; with_reducible exact H2_) | (have H2_ := (Option.bind_some _ _).symm.trans H; with_reducible exact H2_) | with_reducible exact H | (rw [hy382]; exact H) | exact H
   have Ny382 := Aside0.mk hy382
   clear hy382
   simp only [Option.some.injEq, Prod.mk.injEq] at H
   obtain ⟨rfl, rfl⟩ := H
   go_enter Try.func43, Try.ntmps43
   go_wp2_with (first | ((with_reducible refine gate_dst (N := 2) rfl ?_); refine box_event ?hg (N := 2) ?hd (cs := #[.int .i64 a0_0, .slice A0_1 l0_1.length c0_1]) (t := 25) ?hr ?_; (case hd => rfl); (case hg => rfl); (case hr => first | (go_simp; done) | (go_simp; rfl)); intro gb376 hg w7 hbox hb; have n0_ := Aside0.mk (below_step bh hb); have n1_ := Aside0.mk (hbox); have n2_ := Aside0.mk ((gs (W0 := w) hg bh)); have n3_ := Aside0.mk ((gs (W0 := w) hg bh)); clear HB; have HB := n0_; have BK376 := n1_; have GW376 := n2_; have GE376 := n3_; clear n0_ n1_ n2_ n3_ hb hbox hg; have hcz8_0 := cz0 BK376; have hcz8_1 := cz1 BK376; have hfz8_0 := blk_frozen BK376.out 0; have hfz8_1 := blk_frozen BK376.out 1) | ((with_reducible refine gate_callee (f := 33) rfl ?_); refine goesL_ (some 10) rfl rfl Try.func33 kr rfl #[.agg #[.int .i64 a0_0, .slice A0_1 l0_1.length c0_1], .slice A1 l1.length c1] rfl lm ?_; (with_reducible refine (spec_SoundOk.calls k a0_0 _ _ l0_1 _ _ l1 true _ ?side1 ?side2 ?side3 ?side4 A3.out).mono ?_); (case side1 => repeat (first | exact (Kd.C_below HR0_1.out HB.out) | (with_reducible refine Kd.C_alloc ?_ _) | (with_reducible refine Kd.C_drewN ?_ _) | (with_reducible refine Kd.C_drew ?_))); (case side2 => exact HC0_1.out); (case side3 => repeat (first | exact (Kd.C_below HR1.out HB.out) | (with_reducible refine Kd.C_alloc ?_ _) | (with_reducible refine Kd.C_drewN ?_ _) | (with_reducible refine Kd.C_drew ?_))); (case side4 => exact HC1.out); rintro e w9 ⟨rfl, hb⟩; refine ⟨_, rfl, ?_⟩; have n0_ := Aside0.mk (blk_below (bz BK376) hb); have n1_ := Aside0.mk (below_step bh hb); clear BK376 HB; have BK376 := n0_; have HB := n1_; clear n0_ n1_; (try clear hb); (try clear hb2); (try clear hk); (try clear hi)) | ((with_reducible refine gate_callee (f := 77) rfl ?_); refine goesL_ (some 15) rfl rfl Try.func77 kr rfl #[.slice A1 l1.length c1, .int .i64 0] rfl lm ?_; (with_reducible refine (spec_l5Term.calls k _ _ l1 0 t378 t379 _ ?side1 ?side2 A5.out).mono ?_); (case side1 => repeat (first | exact (Kd.C_below HR1.out HB.out) | (with_reducible refine Kd.C_alloc ?_ _) | (with_reducible refine Kd.C_drewN ?_ _) | (with_reducible refine Kd.C_drew ?_))); (case side2 => exact HC1.out); rintro e w10 ⟨v380, rfl, ho0, hb⟩; refine ⟨_, rfl, ?_⟩; have n0_ := Aside0.mk (Kd.R_lower ho0 (below_size bh)); have n1_ := Aside0.mk (blk_below (bz BK376) hb); have n2_ := Aside0.mk (below_step bh hb); clear BK376 HB; have HO381 := n0_; have BK376 := n1_; have HB := n2_; clear n0_ n1_ n2_; (try clear hb); (try clear hb2); (try clear hk); (try clear hi); (try clear ho0); obtain ⟨Ao11, co11, eo11⟩ := Kd.R_slice HO381.out; subst eo11) | ((with_reducible refine gate_dst (N := 21) rfl ?_); refine Kd.R_lit k78 _ 78 ?hg (N := 21) ?hd (xs := ([] : List (S78))) (inner := []) (ok := fun _ => True) (okp := fun _ => True) ?hr ?hp (fun _ hk => hk) trivial (Below.refl _ _) (Nat.le_refl _) (by simp) ?_; (case hd => rfl); (case hg => rfl); (case hr => first | (go_simp; done) | (go_simp; rfl)); (case hp => exact (Reps.none _ _)); intro v383 w12 ho13 hb hg_ hnew_; clear hg_ hnew_; (first | rw [← Ny382.out] at ho13 | (simp only [Int.reduceToNat] at ho13; rw [← Ny382.out] at ho13)); have n0_ := Aside0.mk (Kd.R_elder' (rz HO381) (Kd.R_base ho13) hb); have n1_ := Aside0.mk (Kd.R_lower (Kd.R_new' ho13 (Kd.R_lt (rz HO381))) (below_size bh)); have n2_ := Aside0.mk (blk_below (bz BK376) hb); have n3_ := Aside0.mk (below_step bh hb); clear HO381 BK376 HB; have HO381 := n0_; have HO384 := n1_; have BK376 := n2_; have HB := n3_; clear n0_ n1_ n2_ n3_ hb ho13))
   go_ret2
   exact ⟨_, by first | rfl | (simp [errW_none, errW_some] <;> rfl) | (simp [*, errW_none, errW_some] <;> rfl), by (with_reducible repeat (first | apply Kd.R_alloc | apply Kd.R_drewN | apply Kd.R_drew)); exact Kd.R_mono HO384.out (fun _ hk => trivial), by exact bh⟩
  ·rw [if_neg c6] at H
   have c6b0 : decide (9 < (t378.length : Int)) = false := decide_eq_false c6
   have c6b1 : decide (9 < t378.length) = false := decide_eq_false (by omega)
   clear c6
   simp only [Option.some.injEq, Prod.mk.injEq] at H
   obtain ⟨rfl, rfl⟩ := H
   go_enter Try.func43, Try.ntmps43
   go_wp2_with (first | ((with_reducible refine gate_dst (N := 2) rfl ?_); refine box_event ?hg (N := 2) ?hd (cs := #[.int .i64 a0_0, .slice A0_1 l0_1.length c0_1]) (t := 25) ?hr ?_; (case hd => rfl); (case hg => rfl); (case hr => first | (go_simp; done) | (go_simp; rfl)); intro gb376 hg w14 hbox hb; have n0_ := Aside0.mk (below_step bh hb); have n1_ := Aside0.mk (hbox); have n2_ := Aside0.mk ((gs (W0 := w) hg bh)); have n3_ := Aside0.mk ((gs (W0 := w) hg bh)); clear HB; have HB := n0_; have BK376 := n1_; have GW376 := n2_; have GE376 := n3_; clear n0_ n1_ n2_ n3_ hb hbox hg; have hcz15_0 := cz0 BK376; have hcz15_1 := cz1 BK376; have hfz15_0 := blk_frozen BK376.out 0; have hfz15_1 := blk_frozen BK376.out 1) | ((with_reducible refine gate_callee (f := 33) rfl ?_); refine goesL_ (some 10) rfl rfl Try.func33 kr rfl #[.agg #[.int .i64 a0_0, .slice A0_1 l0_1.length c0_1], .slice A1 l1.length c1] rfl lm ?_; (with_reducible refine (spec_SoundOk.calls k a0_0 _ _ l0_1 _ _ l1 true _ ?side1 ?side2 ?side3 ?side4 A3.out).mono ?_); (case side1 => repeat (first | exact (Kd.C_below HR0_1.out HB.out) | (with_reducible refine Kd.C_alloc ?_ _) | (with_reducible refine Kd.C_drewN ?_ _) | (with_reducible refine Kd.C_drew ?_))); (case side2 => exact HC0_1.out); (case side3 => repeat (first | exact (Kd.C_below HR1.out HB.out) | (with_reducible refine Kd.C_alloc ?_ _) | (with_reducible refine Kd.C_drewN ?_ _) | (with_reducible refine Kd.C_drew ?_))); (case side4 => exact HC1.out); rintro e w16 ⟨rfl, hb⟩; refine ⟨_, rfl, ?_⟩; have n0_ := Aside0.mk (blk_below (bz BK376) hb); have n1_ := Aside0.mk (below_step bh hb); clear BK376 HB; have BK376 := n0_; have HB := n1_; clear n0_ n1_; (try clear hb); (try clear hb2); (try clear hk); (try clear hi)) | ((with_reducible refine gate_callee (f := 77) rfl ?_); refine goesL_ (some 15) rfl rfl Try.func77 kr rfl #[.slice A1 l1.length c1, .int .i64 0] rfl lm ?_; (with_reducible refine (spec_l5Term.calls k _ _ l1 0 t378 t379 _ ?side1 ?side2 A5.out).mono ?_); (case side1 => repeat (first | exact (Kd.C_below HR1.out HB.out) | (with_reducible refine Kd.C_alloc ?_ _) | (with_reducible refine Kd.C_drewN ?_ _) | (with_reducible refine Kd.C_drew ?_))); (case side2 => exact HC1.out); rintro e w17 ⟨v380, rfl, ho0, hb⟩; refine ⟨_, rfl, ?_⟩; have n0_ := Aside0.mk (Kd.R_lower ho0 (below_size bh)); have n1_ := Aside0.mk (blk_below (bz BK376) hb); have n2_ := Aside0.mk (below_step bh hb); clear BK376 HB; have HO381 := n0_; have BK376 := n1_; have HB := n2_; clear n0_ n1_ n2_; (try clear hb); (try clear hb2); (try clear hk); (try clear hi); (try clear ho0); obtain ⟨Ao18, co18, eo18⟩ := Kd.R_slice HO381.out; subst eo18))
   go_ret2
   exact ⟨_, by first | rfl | (simp [errW_none, errW_some] <;> rfl) | (simp [*, errW_none, errW_some] <;> rfl), by (with_reducible repeat (first | apply Kd.R_alloc | apply Kd.R_drewN | apply Kd.R_drew)); exact HO381.out, by exact bh⟩
 ·replace c4 := Bool.eq_false_iff.mpr c4
  subst c4
  have H1 : (some ((([] : List (S78))), (-1))) = some (r1, r2) := by rw [if_neg (show ¬ (false = true) by decide)] at H; exact H
  clear H
  have H := H1
  clear H1
  obtain ⟨y385, hy385⟩ : ∃ y_ : List (S78), y_ = (([] : List (S78))) := ⟨_, rfl⟩
  replace H : (some (y385, (-1))) = some (r1, r2) := by first | (rw [hy385]; with_reducible exact H) | (have H2_ := (Option.bind_some _ _).symm.trans H; rw [hy385]; with_reducible exact H2_) | (have H2_ := (Option.bind_some _ _).symm.trans H; with_reducible exact H2_) | with_reducible exact H | (rw [hy385]; exact H) | exact H
  have Ny385 := Aside0.mk hy385
  clear hy385
  simp only [Option.some.injEq, Prod.mk.injEq] at H
  obtain ⟨rfl, rfl⟩ := H
  go_enter Try.func43, Try.ntmps43
  go_wp2_with (first | ((with_reducible refine gate_dst (N := 2) rfl ?_); refine box_event ?hg (N := 2) ?hd (cs := #[.int .i64 a0_0, .slice A0_1 l0_1.length c0_1]) (t := 25) ?hr ?_; (case hd => rfl); (case hg => rfl); (case hr => first | (go_simp; done) | (go_simp; rfl)); intro gb376 hg w19 hbox hb; have n0_ := Aside0.mk (below_step bh hb); have n1_ := Aside0.mk (hbox); have n2_ := Aside0.mk ((gs (W0 := w) hg bh)); have n3_ := Aside0.mk ((gs (W0 := w) hg bh)); clear HB; have HB := n0_; have BK376 := n1_; have GW376 := n2_; have GE376 := n3_; clear n0_ n1_ n2_ n3_ hb hbox hg; have hcz20_0 := cz0 BK376; have hcz20_1 := cz1 BK376; have hfz20_0 := blk_frozen BK376.out 0; have hfz20_1 := blk_frozen BK376.out 1) | ((with_reducible refine gate_callee (f := 33) rfl ?_); refine goesL_ (some 10) rfl rfl Try.func33 kr rfl #[.agg #[.int .i64 a0_0, .slice A0_1 l0_1.length c0_1], .slice A1 l1.length c1] rfl lm ?_; (with_reducible refine (spec_SoundOk.calls k a0_0 _ _ l0_1 _ _ l1 false _ ?side1 ?side2 ?side3 ?side4 A3.out).mono ?_); (case side1 => repeat (first | exact (Kd.C_below HR0_1.out HB.out) | (with_reducible refine Kd.C_alloc ?_ _) | (with_reducible refine Kd.C_drewN ?_ _) | (with_reducible refine Kd.C_drew ?_))); (case side2 => exact HC0_1.out); (case side3 => repeat (first | exact (Kd.C_below HR1.out HB.out) | (with_reducible refine Kd.C_alloc ?_ _) | (with_reducible refine Kd.C_drewN ?_ _) | (with_reducible refine Kd.C_drew ?_))); (case side4 => exact HC1.out); rintro e w21 ⟨rfl, hb⟩; refine ⟨_, rfl, ?_⟩; have n0_ := Aside0.mk (blk_below (bz BK376) hb); have n1_ := Aside0.mk (below_step bh hb); clear BK376 HB; have BK376 := n0_; have HB := n1_; clear n0_ n1_; (try clear hb); (try clear hb2); (try clear hk); (try clear hi)) | ((with_reducible refine gate_dst (N := 12) rfl ?_); refine Kd.R_lit k78 _ 78 ?hg (N := 12) ?hd (xs := ([] : List (S78))) (inner := []) (ok := fun _ => True) (okp := fun _ => True) ?hr ?hp (fun _ hk => hk) trivial (Below.refl _ _) (Nat.le_refl _) (by simp) ?_; (case hd => rfl); (case hg => rfl); (case hr => first | (go_simp; done) | (go_simp; rfl)); (case hp => exact (Reps.none _ _)); intro v386 w22 ho23 hb hg_ hnew_; clear hg_ hnew_; (first | rw [← Ny385.out] at ho23 | (simp only [Int.reduceToNat] at ho23; rw [← Ny385.out] at ho23)); have n0_ := Aside0.mk (Kd.R_lower ho23 (below_size bh)); have n1_ := Aside0.mk (blk_below (bz BK376) hb); have n2_ := Aside0.mk (below_step bh hb); clear BK376 HB; have HO387 := n0_; have BK376 := n1_; have HB := n2_; clear n0_ n1_ n2_ hb ho23))
  go_ret2
  exact ⟨_, by first | rfl | (simp [errW_none, errW_some] <;> rfl) | (simp [*, errW_none, errW_some] <;> rfl), by (with_reducible repeat (first | apply Kd.R_alloc | apply Kd.R_drewN | apply Kd.R_drew)); exact HO387.out, by exact bh⟩

/-! ### laws_markIntS: function 79 -/
def laws_markIntS.l0 : Nat → List Int → Int → Int → Option (Int × List Int)
 | 0, _, _, _ => none
 | k + 1, x0, x1, x5 => if x5 < (x0.length : Int) then (if 0 ≤ x5 then (laws_markIntS.l0 k (x0.set (x5 : Int).toNat x1) (wrap64 (x1 + 1)) (wrap64 (x5 + 1))) else (none)) else (some (x1, x0))
def laws_markIntS.f (k : Nat) (l0 : List Int) (a1 : Int) : Option (Int × List Int) := laws_markIntS.l0 k l0 a1 0
theorem laws_markIntS.mono_l : ∀ k, (∀ y0 y1 y2, LeO (laws_markIntS.l0 k y0 y1 y2) (laws_markIntS.l0 (k + 1) y0 y1 y2))
 | 0 => fun _ _ _ r h => by simp [laws_markIntS.l0] at h
 | k + 1 => by
  have ih0 := laws_markIntS.mono_l k
  ·intro y0 y1 y2
   unfold laws_markIntS.l0
   repeat' first
   | (with_reducible exact ih0 _ _ _)
   | (with_reducible exact LeO.refl _)
   | (with_reducible exact LeO.none _)
   | (with_reducible refine LeO.ite ?_ ?_)
   | (with_reducible refine LeO.bind ?_ (fun _ => ?_))
   | exact ih0 _ _ _
   | exact LeO.none _
   | refine LeO.ite ?_ ?_
   | refine LeO.bind ?_ (fun _ => ?_)
theorem laws_markIntS.mono : ∀ a0 a1 k, LeO (laws_markIntS.f k a0 a1) (laws_markIntS.f (k + 1) a0 a1) := by
 intro a0 a1 k
 have ih0 := laws_markIntS.mono_l k
 unfold laws_markIntS.f
 repeat' first
   | (with_reducible exact ih0 _ _ _)
   | (with_reducible exact LeO.refl _)
   | (with_reducible exact LeO.none _)
   | (with_reducible refine LeO.ite ?_ ?_)
   | (with_reducible refine LeO.bind ?_ (fun _ => ?_))
   | exact ih0 _ _ _
   | exact LeO.none _
   | refine LeO.ite ?_ ?_
   | refine LeO.bind ?_ (fun _ => ?_)
set_option maxHeartbeats 8000000 in
set_option maxRecDepth 100000 in
theorem laws_markIntS.calls (k : Nat) (P0_ : Nat → Prop) (u9000_ : Value) (l0 : List Int) (a1 : Int) (r1 : Int) (r2 : List Int) (w0 w : World) (hB : Below w0.heap.size w0 w) (ho0 : Kd.R (Kd.int .i64) 3 w w0.heap.size P0_ u9000_ l0) (h : laws_markIntS.f k l0 a1 = some (r1, r2)) :
  Calls Try.prog 79 #[u9000_, .int .i64 a1] w fun e w' => e = .returned (.int .i64 r1) ∧ Kd.R (Kd.int .i64) 3 w' w0.heap.size (fun k_ => (P0_ k_ ∨ w.heap.size ≤ k_)) u9000_ r2 ∧ Below w0.heap.size w0 w' ∧ Kept w w' (fun k_ => P0_ k_) := by
 have HO0 := Aside0.mk (show Kd.R (Kd.int .i64) 3 w w0.heap.size (fun k_ => (P0_ k_ ∨ w.heap.size ≤ k_)) u9000_ l0 from Kd.R_mono ho0 (fun k_ hk => (.inl hk)))
 have HK := Aside0.mk (Kept.refl w (fun k_ => P0_ k_))
 have HW0 := Aside0.mk hB.size
 have HB := Aside0.mk hB
 clear hB
 have H : (laws_markIntS.l0 k l0 a1 0) = some (r1, r2) := h
 clear h
 have H' := Aside0.mk H
 clear H
 go_enter Try.func79, Try.ntmps79
 go_wp2
 go_loopg [1, 5] k (fun kq v1 v5 w' => ∃ (x0_1 : List Int) (x1_1 : Int) (x5_1 : Int), v1 = .int .i64 x1_1 ∧ v5 = .int .i64 x5_1 ∧ Aside0 (laws_markIntS.l0 kq x0_1 x1_1 x5_1 = some (r1, r2)) ∧ Aside0 (kq ≤ k) ∧ Aside0 (Kd.R (Kd.int .i64) 3 w' w0.heap.size (fun k_ => (P0_ k_ ∨ w.heap.size ≤ k_)) u9000_ x0_1) ∧ Aside0 (Kept w w' (fun k_ => P0_ k_)) ∧ Aside0 (Below w0.heap.size w0 w'))
 case atStart => exact ⟨(l0), (a1), (0), (by first | rfl | (simp; done) | (simp [*]; done)), (by first | rfl | (simp; done) | (simp [*]; done)), H', ⟨Nat.le_refl _⟩, ⟨rz HO0⟩, ⟨by repeat (first | (with_reducible first | exact HK.out | apply Kept.alloc | apply Kept.drewN | apply Kept.drew) | exact HK.out)⟩, ⟨by exact bh⟩⟩
 case round =>
  clear H'
  try clear p2
  obtain ⟨x0_1, x1_1, x5_1, rfl, rfl, HA, HK1, HO_0, HK, HB⟩ := hrel
  cases gk with
  | zero => exact absurd HA.out (by simp [laws_markIntS.l0])
  | succ k1 =>
   have H := HA.out
   clear HA
   simp only [laws_markIntS.l0] at H
   by_cases c3 : x5_1 < (x0_1.length : Int)
   ·rw [if_pos c3] at H
    have c3b0 : decide (x5_1 < (x0_1.length : Int)) = true := decide_eq_true c3
    clear c3
    by_cases c4 : 0 ≤ x5_1
    ·rw [if_pos c4] at H
     have c4b0 : decide (0 ≤ x5_1) = true := decide_eq_true c4
     clear c4
     obtain ⟨y388, hy388⟩ : ∃ y_ : List Int, y_ = (x0_1.set (x5_1 : Int).toNat x1_1) := ⟨_, rfl⟩
     replace H : (laws_markIntS.l0 k1 y388 (wrap64 (x1_1 + 1)) (wrap64 (x5_1 + 1))) = some (r1, r2) := by first | (rw [hy388]; with_reducible exact H) | (have H2_ := (Option.bind_some _ _).symm.trans H; rw [hy388]; with_reducible exact H2_) | (have H2_ := (Option.bind_some _ _).symm.trans H; with_reducible exact H2_) | with_reducible exact H | (rw [hy388]; exact H) | exact H
     have Ny388 := Aside0.mk hy388
     clear hy388
     have H' := Aside0.mk H
     clear H
     obtain ⟨Ao6, co6, eo6⟩ := Kd.R_slice HO_0.out
     subst eo6
     have p5 : 0 ≤ (x5_1 : Int) := oda
     have q5 : (x5_1 : Int) < ((x0_1.length : Int) : Int) := oda
     obtain ⟨go5, co5, eo5, gb5, gl5, cl5, HG5⟩ := Kd.R_form HO_0.out (by omega)
     (first | cases eo5 | (injection eo5 with ea_ en_ ec_; (first | subst ea_ | (injection ea_ with ea_; subst ea_)); subst ec_; clear en_))
     have GB5 := Aside0.mk gb5
     have GG5 := Aside0.mk HG5
     clear gb5 gl5 HG5
     have HMgo5 := Aside0.mk (show (P0_ go5 ∨ w.heap.size ≤ go5) from (HO_0.out.1 _ rfl))
     obtain ⟨hx5_0, hf5_0⟩ := Kd.R_celln 0 HO_0.out (x5_1 : Int) p5 q5
     replace p5 := eq_true p5
     replace q5 := eq_true q5
     have HP7 := Kd.R_putg HO_0.out (x5_1 : Int) x1_1
     go_wp2_with (first | ((with_reducible refine gate_store (t := 3) (p := 15) rfl ?_); refine store_event (t := 3) (p := 15) (v := ?vo_w8) (w1 := (wr.setCell ⟨go5, (x5_1 : Int).toNat, none⟩ (.int .i64 x1_1))) ?hg ?ho ?hn ?hr ?_; (case ho => rfl); (case hg => rfl); (case hn => rfl); (case hr => first | (go_simp; done) | (go_simp; rfl)); intro w8 hw; have hg : wr.grownBy w8 (some go5) := (by rw [hw]; exact HP7.2); have hp_ : Kd.R (Kd.int .i64) 3 w8 w0.heap.size (fun k_ => (P0_ k_ ∨ w.heap.size ≤ k_)) (.slice (some ⟨go5, 0, none⟩) x0_1.length co6) y388 := (by rw [hw, Ny388.out]; exact HP7.1); clear HP7; have n0_ := Aside0.mk (hp_); have n1_ := Aside0.mk ((by rw [hw]; exact below_set (HB.out) GB5.out : Below w0.heap.size w0 w8)); have n2_ := Aside0.mk (Kept.of_grown (S := (fun k_ => P0_ k_)) hg (by repeat (first | (with_reducible first | exact HK.out | apply Kept.alloc | apply Kept.drewN | apply Kept.drew) | exact HK.out)) (fun k_ e_ => (HO_0.out.1 k_ e_))); clear HO_0 HB HK; have HO_0 := n0_; have HB := n1_; have HK := n2_; clear n0_ n1_ n2_ hg hw hp_))
     go_roundg k1
     case measure => have := HK1.out; omega
     case rel => exact ⟨(y388), (wrap64 (x1_1 + 1)), (wrap64 (x5_1 + 1)), (by first | rfl | (simp; done) | (simp [*]; done)), (by first | rfl | (simp; done) | (simp [*]; done)), H', ⟨by have := HK1.out; omega⟩, ⟨rz HO_0⟩, ⟨by repeat (first | (with_reducible first | exact HK.out | apply Kept.alloc | apply Kept.drewN | apply Kept.drew) | exact HK.out)⟩, ⟨by exact bh⟩⟩
    ·rw [if_neg c4] at H
     exact absurd H (by simp)
   ·rw [if_neg c3] at H
    have c3b0 : decide (x5_1 < (x0_1.length : Int)) = false := decide_eq_false c3
    clear c3
    simp only [Option.some.injEq, Prod.mk.injEq] at H
    obtain ⟨rfl, rfl⟩ := H
    obtain ⟨Ao9, co9, eo9⟩ := Kd.R_slice HO_0.out
    subst eo9
    go_wp2
    go_ret
    exact ⟨by first | rfl | (simp [errW_none, errW_some] <;> rfl) | (simp [*, errW_none, errW_some] <;> rfl), by (with_reducible repeat (first | apply Kd.R_alloc | apply Kd.R_drewN | apply Kd.R_drew)); exact HO_0.out, by repeat (first | (with_reducible first | exact HB.out | apply below_alloc | apply pw_below_drewN | apply below_drew1) | exact HB.out), by repeat (first | (with_reducible first | exact HK.out | apply Kept.alloc | apply Kept.drewN | apply Kept.drew) | exact HK.out)⟩

/-! ### laws_markHouse: function 47 -/
def laws_markHouse.f (k : Nat) (a0_0 : Int) (l0_1 : List Int) (a1 : Int) : Option (Int × List Int) := (laws_markIntS.f k l0_1 a1).bind fun bt390 => (some (bt390.1, bt390.2))
theorem laws_markHouse.mono : ∀ a0 a1 a2 k, LeO (laws_markHouse.f k a0 a1 a2) (laws_markHouse.f (k + 1) a0 a1 a2) := by
 intro a0 a1 a2 k
 unfold laws_markHouse.f
 repeat' first
   | (with_reducible exact laws_markIntS.mono _ _ _)
   | (with_reducible exact LeO.refl _)
   | (with_reducible exact LeO.none _)
   | (with_reducible refine LeO.ite ?_ ?_)
   | (with_reducible refine LeO.bind ?_ (fun _ => ?_))
   | exact laws_markIntS.mono _ _ _
   | exact LeO.none _
   | refine LeO.ite ?_ ?_
   | refine LeO.bind ?_ (fun _ => ?_)
set_option maxHeartbeats 8000000 in
set_option maxRecDepth 100000 in
theorem laws_markHouse.calls (k : Nat) (a0_0 : Int) (P0_1_ : Nat → Prop) (u9000_ : Value) (l0_1 : List Int) (a1 : Int) (r1 : Int) (r2 : List Int) (w0 w : World) (hB : Below w0.heap.size w0 w) (ho0_1 : Kd.R (Kd.int .i64) 3 w w0.heap.size P0_1_ u9000_ l0_1) (h : laws_markHouse.f k a0_0 l0_1 a1 = some (r1, r2)) :
  Calls Try.prog 47 #[.agg #[.int .i64 a0_0, u9000_], .int .i64 a1] w fun e w' => e = .returned (.int .i64 r1) ∧ Kd.R (Kd.int .i64) 3 w' w0.heap.size (fun k_ => (P0_1_ k_ ∨ w.heap.size ≤ k_)) u9000_ r2 ∧ Below w0.heap.size w0 w' ∧ Kept w w' (fun k_ => P0_1_ k_) := by
 have hu25 := Try.underlying25
 have HO0_1 := Aside0.mk (show Kd.R (Kd.int .i64) 3 w w0.heap.size (fun k_ => (P0_1_ k_ ∨ w.heap.size ≤ k_)) u9000_ l0_1 from Kd.R_mono ho0_1 (fun k_ hk => (.inl hk)))
 have HK := Aside0.mk (Kept.refl w (fun k_ => P0_1_ k_))
 have HW0 := Aside0.mk hB.size
 have HB := Aside0.mk hB
 clear hB
 have H : ((laws_markIntS.f k l0_1 a1).bind fun bt390 => (some (bt390.1, bt390.2))) = some (r1, r2) := h
 clear h
 replace H := Option.bind_eq_some_iff.mp H
 obtain ⟨⟨t390, t391⟩, A30, H⟩ := H
 replace H : (some (t390, t391)) = some (r1, r2) := H
 have A3 := Aside0.mk A30
 clear A30
 simp only [Option.some.injEq, Prod.mk.injEq] at H
 obtain ⟨rfl, rfl⟩ := H
 obtain ⟨Ao4, co4, eo4⟩ := Kd.R_slice HO0_1.out
 subst eo4
 go_enter Try.func47, Try.ntmps47
 go_wp2_with (first | ((with_reducible refine gate_dst (N := 2) rfl ?_); refine box_event ?hg (N := 2) ?hd (cs := #[.int .i64 a0_0, .slice Ao4 l0_1.length co4]) (t := 25) ?hr ?_; (case hd => rfl); (case hg => rfl); (case hr => first | (go_simp; done) | (go_simp; rfl)); intro gb389 hg w5 hbox hb; have n0_ := Aside0.mk (Kd.R_below (rz HO0_1) hb); have n1_ := Aside0.mk (Kept.below (S := (fun k_ => P0_1_ k_)) (by repeat (first | (with_reducible first | exact HK.out | apply Kept.alloc | apply Kept.drewN | apply Kept.drew) | exact HK.out)) hb); have n2_ := Aside0.mk (below_step bh hb); have n3_ := Aside0.mk (hbox); have n4_ := Aside0.mk ((by rw [hg]; exact (by first | exact HK.out.1 | exact (show Kept w _ (fun k_ => P0_1_ k_) from by repeat (first | (with_reducible first | exact HK.out | apply Kept.alloc | apply Kept.drewN | apply Kept.drew) | exact HK.out)).1) : w.heap.size ≤ gb389)); have n5_ := Aside0.mk ((by rw [hg]; exact (below_size bh) : w0.heap.size ≤ gb389)); clear HO0_1 HK HB; have HO0_1 := n0_; have HK := n1_; have HB := n2_; have BK389 := n3_; have GW389 := n4_; have GE389 := n5_; clear n0_ n1_ n2_ n3_ n4_ n5_ hb hbox hg; have hcz6_0 := cz0 BK389; have hcz6_1 := cz1 BK389; have hfz6_0 := blk_frozen BK389.out 0; have hfz6_1 := blk_frozen BK389.out 1) | ((with_reducible refine gate_callee (f := 79) rfl ?_); refine goesL_ (some 8) rfl rfl Try.func79 kr rfl #[.slice Ao4 l0_1.length co4, .int .i64 a1] rfl lm ?_; (with_reducible refine (laws_markIntS.calls k (fun k_ => some k_ = (.slice Ao4 l0_1.length co4 : Value).ownBlock) (.slice Ao4 l0_1.length co4) l0_1 a1 t390 t391 w0 _ ?side1 ?side2 A3.out).mono ?_); (case side1 => repeat (first | (with_reducible first | exact HB.out | apply below_alloc | apply pw_below_drewN | apply below_drew1 | refine below_set ?_ GE389.out) | exact HB.out)); (case side2 => exact Kd.R_tight rfl HO0_1.out); rintro e w7 ⟨rfl, hy0, hb, hkp⟩; refine ⟨_, rfl, ?_⟩; have n0_ := Aside0.mk (Kd.R_reok rfl hy0 (fun k_ e_ => HO0_1.out.1 k_ e_)); have n1_ := Aside0.mk (blk_kept (bz BK389) hkp (fun hs_ => (fun e_ => (Kd.R_ne HO0_1.out BK389.out (by decide)) e_) hs_)); have n2_ := Aside0.mk (Kept.then_ (S := (fun k_ => P0_1_ k_)) (by repeat (first | (with_reducible first | exact HK.out | apply Kept.alloc | apply Kept.drewN | apply Kept.drew | refine Kept.setCell ?_ (.inr GW389.out) _) | exact HK.out)) hkp (fun k_ hs_ => (fun e_ => (HO0_1.out.1 k_ e_.symm)) hs_)); have n3_ := Aside0.mk (hb); clear HO0_1 BK389 HK HB; have HO0_1 := n0_; have BK389 := n1_; have HK := n2_; have HB := n3_; clear n0_ n1_ n2_ n3_; (try clear hb); (try clear hkp); (try clear hy0)))
 go_ret
 exact ⟨by first | rfl | (simp [errW_none, errW_some] <;> rfl) | (simp [*, errW_none, errW_some] <;> rfl), by (with_reducible repeat (first | apply Kd.R_alloc | apply Kd.R_drewN | apply Kd.R_drew)); exact HO0_1.out, by repeat (first | (with_reducible first | exact HB.out | apply below_alloc | apply pw_below_drewN | apply below_drew1 | refine below_set ?_ GE389.out) | exact HB.out), by repeat (first | (with_reducible first | exact HK.out | apply Kept.alloc | apply Kept.drewN | apply Kept.drew | refine Kept.setCell ?_ (.inr GW389.out) _) | exact HK.out)⟩

/-! ### laws_markMarkS: function 49 -/
def laws_markMarkS.l0 : Nat → List (S78) → Int → Int → Option (Int × (List (S78)))
 | 0, _, _, _ => none
 | k + 1, x0, x1, x5 => if x5 < (x0.length : Int) then (if 0 ≤ x5 then ((some (x0.set (x5 : Int).toNat (⟨x1, (rd_T78 x0 x5).f1, (rd_T78 x0 x5).f2⟩ : S78) : List (S78))).bind fun y392 => ((some (y392.set (x5 : Int).toNat (⟨(rd_T78 y392 x5).f0, wrap64 (x1 + 1), (rd_T78 y392 x5).f2⟩ : S78) : List (S78))).bind fun y393 => (laws_markMarkS.l0 k (y393.set (x5 : Int).toNat (⟨(rd_T78 y393 x5).f0, (rd_T78 y393 x5).f1, wrap64 ((wrap64 (x1 + 1)) + 1)⟩ : S78)) (wrap64 ((wrap64 ((wrap64 (x1 + 1)) + 1)) + 1)) (wrap64 (x5 + 1))))) else (none)) else (some (x1, x0))
def laws_markMarkS.f (k : Nat) (l0 : List (S78)) (a1 : Int) : Option (Int × (List (S78))) := laws_markMarkS.l0 k l0 a1 0
theorem laws_markMarkS.mono_l : ∀ k, (∀ y0 y1 y2, LeO (laws_markMarkS.l0 k y0 y1 y2) (laws_markMarkS.l0 (k + 1) y0 y1 y2))
 | 0 => fun _ _ _ r h => by simp [laws_markMarkS.l0] at h
 | k + 1 => by
  have ih0 := laws_markMarkS.mono_l k
  ·intro y0 y1 y2
   unfold laws_markMarkS.l0
   repeat' first
   | (with_reducible exact ih0 _ _ _)
   | (with_reducible exact LeO.refl _)
   | (with_reducible exact LeO.none _)
   | (with_reducible refine LeO.ite ?_ ?_)
   | (with_reducible refine LeO.bind ?_ (fun _ => ?_))
   | exact ih0 _ _ _
   | exact LeO.none _
   | refine LeO.ite ?_ ?_
   | refine LeO.bind ?_ (fun _ => ?_)
theorem laws_markMarkS.mono : ∀ a0 a1 k, LeO (laws_markMarkS.f k a0 a1) (laws_markMarkS.f (k + 1) a0 a1) := by
 intro a0 a1 k
 have ih0 := laws_markMarkS.mono_l k
 unfold laws_markMarkS.f
 repeat' first
   | (with_reducible exact ih0 _ _ _)
   | (with_reducible exact LeO.refl _)
   | (with_reducible exact LeO.none _)
   | (with_reducible refine LeO.ite ?_ ?_)
   | (with_reducible refine LeO.bind ?_ (fun _ => ?_))
   | exact ih0 _ _ _
   | exact LeO.none _
   | refine LeO.ite ?_ ?_
   | refine LeO.bind ?_ (fun _ => ?_)
set_option maxHeartbeats 8000000 in
set_option maxRecDepth 100000 in
theorem laws_markMarkS.calls (k : Nat) (P0_ : Nat → Prop) (u9000_ : Value) (l0 : List (S78)) (a1 : Int) (r1 : Int) (r2 : List (S78)) (w0 w : World) (hB : Below w0.heap.size w0 w) (ho0 : Kd.R k78 78 w w0.heap.size P0_ u9000_ l0) (h : laws_markMarkS.f k l0 a1 = some (r1, r2)) :
  Calls Try.prog 49 #[u9000_, .int .i64 a1] w fun e w' => e = .returned (.int .i64 r1) ∧ Kd.R k78 78 w' w0.heap.size (fun k_ => (P0_ k_ ∨ w.heap.size ≤ k_)) u9000_ r2 ∧ Below w0.heap.size w0 w' ∧ Kept w w' (fun k_ => P0_ k_) := by
 have HO0 := Aside0.mk (show Kd.R k78 78 w w0.heap.size (fun k_ => (P0_ k_ ∨ w.heap.size ≤ k_)) u9000_ l0 from Kd.R_mono ho0 (fun k_ hk => (.inl hk)))
 have HK := Aside0.mk (Kept.refl w (fun k_ => P0_ k_))
 have HW0 := Aside0.mk hB.size
 have HB := Aside0.mk hB
 clear hB
 have H : (laws_markMarkS.l0 k l0 a1 0) = some (r1, r2) := h
 clear h
 have H' := Aside0.mk H
 clear H
 go_enter Try.func49, Try.ntmps49
 go_wp2
 go_loopg [1, 5] k (fun kq v1 v5 w' => ∃ (x0_1 : List (S78)) (x1_1 : Int) (x5_1 : Int), v1 = .int .i64 x1_1 ∧ v5 = .int .i64 x5_1 ∧ Aside0 (laws_markMarkS.l0 kq x0_1 x1_1 x5_1 = some (r1, r2)) ∧ Aside0 (kq ≤ k) ∧ Aside0 (Kd.R k78 78 w' w0.heap.size (fun k_ => (P0_ k_ ∨ w.heap.size ≤ k_)) u9000_ x0_1) ∧ Aside0 (Kept w w' (fun k_ => P0_ k_)) ∧ Aside0 (Below w0.heap.size w0 w'))
 case atStart => exact ⟨(l0), (a1), (0), (by first | rfl | (simp; done) | (simp [*]; done)), (by first | rfl | (simp; done) | (simp [*]; done)), H', ⟨Nat.le_refl _⟩, ⟨rz HO0⟩, ⟨by repeat (first | (with_reducible first | exact HK.out | apply Kept.alloc | apply Kept.drewN | apply Kept.drew) | exact HK.out)⟩, ⟨by exact bh⟩⟩
 case round =>
  clear H'
  try clear p2
  obtain ⟨x0_1, x1_1, x5_1, rfl, rfl, HA, HK1, HO_0, HK, HB⟩ := hrel
  cases gk with
  | zero => exact absurd HA.out (by simp [laws_markMarkS.l0])
  | succ k1 =>
   have H := HA.out
   clear HA
   simp only [laws_markMarkS.l0] at H
   by_cases c3 : x5_1 < (x0_1.length : Int)
   ·rw [if_pos c3] at H
    have c3b0 : decide (x5_1 < (x0_1.length : Int)) = true := decide_eq_true c3
    clear c3
    by_cases c4 : 0 ≤ x5_1
    ·rw [if_pos c4] at H
     have c4b0 : decide (0 ≤ x5_1) = true := decide_eq_true c4
     clear c4
     obtain ⟨y392, hy392⟩ : ∃ y_ : List (S78), y_ = (x0_1.set (x5_1 : Int).toNat (⟨x1_1, (rd_T78 x0_1 x5_1).f1, (rd_T78 x0_1 x5_1).f2⟩ : S78)) := ⟨_, rfl⟩
     replace H : ((some (y392.set (x5_1 : Int).toNat (⟨(rd_T78 y392 x5_1).f0, wrap64 (x1_1 + 1), (rd_T78 y392 x5_1).f2⟩ : S78) : List (S78))).bind fun y393 => (laws_markMarkS.l0 k1 (y393.set (x5_1 : Int).toNat (⟨(rd_T78 y393 x5_1).f0, (rd_T78 y393 x5_1).f1, wrap64 ((wrap64 (x1_1 + 1)) + 1)⟩ : S78)) (wrap64 ((wrap64 ((wrap64 (x1_1 + 1)) + 1)) + 1)) (wrap64 (x5_1 + 1)))) = some (r1, r2) := by first | (rw [hy392]; with_reducible exact H) | (have H2_ := (Option.bind_some _ _).symm.trans H; rw [hy392]; with_reducible exact H2_) | (have H2_ := (Option.bind_some _ _).symm.trans H; with_reducible exact H2_) | with_reducible exact H | (rw [hy392]; exact H) | exact H
     have Ny392 := Aside0.mk hy392
     clear hy392
     obtain ⟨y393, hy393⟩ : ∃ y_ : List (S78), y_ = (y392.set (x5_1 : Int).toNat (⟨(rd_T78 y392 x5_1).f0, wrap64 (x1_1 + 1), (rd_T78 y392 x5_1).f2⟩ : S78)) := ⟨_, rfl⟩
     replace H : (laws_markMarkS.l0 k1 (y393.set (x5_1 : Int).toNat (⟨(rd_T78 y393 x5_1).f0, (rd_T78 y393 x5_1).f1, wrap64 ((wrap64 (x1_1 + 1)) + 1)⟩ : S78)) (wrap64 ((wrap64 ((wrap64 (x1_1 + 1)) + 1)) + 1)) (wrap64 (x5_1 + 1))) = some (r1, r2) := by first | (rw [hy393]; with_reducible exact H) | (have H2_ := (Option.bind_some _ _).symm.trans H; rw [hy393]; with_reducible exact H2_) | (have H2_ := (Option.bind_some _ _).symm.trans H; with_reducible exact H2_) | with_reducible exact H | (rw [hy393]; exact H) | exact H
     have Ny393 := Aside0.mk hy393
     clear hy393
     obtain ⟨y394, hy394⟩ : ∃ y_ : List (S78), y_ = (y393.set (x5_1 : Int).toNat (⟨(rd_T78 y393 x5_1).f0, (rd_T78 y393 x5_1).f1, wrap64 ((wrap64 (x1_1 + 1)) + 1)⟩ : S78)) := ⟨_, rfl⟩
     replace H : (laws_markMarkS.l0 k1 y394 (wrap64 ((wrap64 ((wrap64 (x1_1 + 1)) + 1)) + 1)) (wrap64 (x5_1 + 1))) = some (r1, r2) := by first | (rw [hy394]; with_reducible exact H) | (have H2_ := (Option.bind_some _ _).symm.trans H; rw [hy394]; with_reducible exact H2_) | (have H2_ := (Option.bind_some _ _).symm.trans H; with_reducible exact H2_) | with_reducible exact H | (rw [hy394]; exact H) | exact H
     have Ny394 := Aside0.mk hy394
     clear hy394
     have H' := Aside0.mk H
     clear H
     obtain ⟨Ao8, co8, eo8⟩ := Kd.R_slice HO_0.out
     subst eo8
     have p5 : 0 ≤ (x5_1 : Int) := oda
     have q5 : (x5_1 : Int) < ((x0_1.length : Int) : Int) := oda
     obtain ⟨go5, co5, eo5, gb5, gl5, cl5, HG5⟩ := Kd.R_form HO_0.out (by omega)
     (first | cases eo5 | (injection eo5 with ea_ en_ ec_; (first | subst ea_ | (injection ea_ with ea_; subst ea_)); subst ec_; clear en_))
     have GB5 := Aside0.mk gb5
     have GG5 := Aside0.mk HG5
     clear gb5 gl5 HG5
     have HMgo5 := Aside0.mk (show (P0_ go5 ∨ w.heap.size ≤ go5) from (HO_0.out.1 _ rfl))
     obtain ⟨ce5, hcl5, hM5, hcc5, hfr5⟩ := Kd.R_elem HO_0.out z78 (x5_1 : Int) p5 q5
     obtain rfl := k78_openM hM5
     have hx5_0 : wr.cell? ⟨go5, (x5_1 : Int).toNat * 3, none⟩ = some (.int .i64 ((rd_T78 x0_1 x5_1).f0)) := hcc5 0 _ rfl
     have hx5_1 : wr.cell? ⟨go5, (x5_1 : Int).toNat * 3 + 1, none⟩ = some (.int .i64 ((rd_T78 x0_1 x5_1).f1)) := hcc5 1 _ rfl
     have hx5_2 : wr.cell? ⟨go5, (x5_1 : Int).toNat * 3 + 2, none⟩ = some (.int .i64 ((rd_T78 x0_1 x5_1).f2)) := hcc5 2 _ rfl
     have hf5_0 : wr.frozen? ⟨go5, (x5_1 : Int).toNat * 3, none⟩ = false := hfr5 0
     have hf5_1 : wr.frozen? ⟨go5, (x5_1 : Int).toNat * 3 + 1, none⟩ = false := hfr5 1
     have hf5_2 : wr.frozen? ⟨go5, (x5_1 : Int).toNat * 3 + 2, none⟩ = false := hfr5 2
     (try clear hcl5); (try clear hcc5); (try clear hfr5); (try clear hM5)
     replace p5 := eq_true p5
     replace q5 := eq_true q5
     have HX9 := Aside0.mk (show Kd.R k78 78 wr w0.heap.size (fun k_ => (P0_ k_ ∨ w.heap.size ≤ k_)) (.slice (some ⟨go5, 0, none⟩) x0_1.length co8) x0_1 from (rz HO_0))
     obtain ⟨ce9, hcl9, hM9, hcc9, hfr9⟩ := Kd.R_elem HX9.out z78 (x5_1 : Int) oda (by have h_ : (x5_1 : Int) < ((x0_1.length : Int) : Int) := oda; first | exact h_ | (have e_ := (Kd.R_reads' HO_0.out).1; omega) | simpa using h_)
     obtain rfl := k78_openM hM9
     have HP9 := Kd.R_seg HX9.out (x5_1 : Int) oda (by have h_ : (x5_1 : Int) < ((x0_1.length : Int) : Int) := oda; first | exact h_ | (have e_ := (Kd.R_reads' HO_0.out).1; omega) | simpa using h_) (seg := [.int .i64 x1_1]) (j := 0) hcl9 hcc9 (show 1 ≤ 3 from by decide) (x' := (⟨x1_1, (rd_T78 x0_1 x5_1).f1, (rd_T78 x0_1 x5_1).f2⟩ : S78)) (k78_mkM _ _ _ (⟨x1_1, (rd_T78 x0_1 x5_1).f1, (rd_T78 x0_1 x5_1).f2⟩ : S78) ) (fun _ hk => hk)
     have hx9_0 := hcc9 0 _ rfl
     (try simp only [show (k78).sz = 3 from rfl, Nat.mul_one, Nat.add_zero] at hx9_0)
     have hf9_0 := hfr9 0
     (try simp only [show (k78).sz = 3 from rfl, Nat.mul_one, Nat.add_zero] at hf9_0)
     (try clear hcl9); (try clear hcc9); (try clear hfr9); (try clear hM9)
     go_wp2_with (first | ((with_reducible refine gate_store (t := 3) (p := 16) rfl ?_); refine store_event (t := 3) (p := 16) (v := ?vo_w10) (w1 := (wr.setCell ⟨go5, (x5_1 : Int).toNat * 3, none⟩ (.int .i64 x1_1))) ?hg ?ho ?hn ?hr ?_; (case ho => rfl); (case hg => rfl); (case hn => rfl); (case hr => first | (go_simp; done) | (go_simp; rfl)); intro w10 hw; have hg : wr.grownBy w10 (some go5) := (by rw [hw]; exact HP9.2); have hp_ : Kd.R k78 78 w10 w0.heap.size (fun k_ => (P0_ k_ ∨ w.heap.size ≤ k_)) (.slice (some ⟨go5, 0, none⟩) x0_1.length co8) y392 := (by rw [hw, Ny392.out]; exact HP9.1); clear HP9; have n0_ := Aside0.mk (hp_); have n1_ := Aside0.mk ((by rw [hw]; exact below_set (HB.out) GB5.out : Below w0.heap.size w0 w10)); have n2_ := Aside0.mk (Kept.of_grown (S := (fun k_ => P0_ k_)) hg (by repeat (first | (with_reducible first | exact HK.out | apply Kept.alloc | apply Kept.drewN | apply Kept.drew) | exact HK.out)) (fun k_ e_ => (HO_0.out.1 k_ e_))); clear HO_0 HB HK; have HO_0 := n0_; have HB := n1_; have HK := n2_; clear n0_ n1_ n2_ hg hw hp_; have p6 : 0 ≤ (x5_1 : Int) := oda; have q6 : (x5_1 : Int) < ((x0_1.length : Int) : Int) := oda; obtain ⟨ce6, hcl6, hM6, hcc6, hfr6⟩ := Kd.R_elem HO_0.out z78 (x5_1 : Int) p6 q6; obtain rfl := k78_openM hM6; have hx6_0 : w10.cell? ⟨go5, (x5_1 : Int).toNat * 3, none⟩ = some (.int .i64 ((rd_T78 y392 x5_1).f0)) := hcc6 0 _ rfl; have hx6_1 : w10.cell? ⟨go5, (x5_1 : Int).toNat * 3 + 1, none⟩ = some (.int .i64 ((rd_T78 y392 x5_1).f1)) := hcc6 1 _ rfl; have hx6_2 : w10.cell? ⟨go5, (x5_1 : Int).toNat * 3 + 2, none⟩ = some (.int .i64 ((rd_T78 y392 x5_1).f2)) := hcc6 2 _ rfl; have hf6_0 : w10.frozen? ⟨go5, (x5_1 : Int).toNat * 3, none⟩ = false := hfr6 0; have hf6_1 : w10.frozen? ⟨go5, (x5_1 : Int).toNat * 3 + 1, none⟩ = false := hfr6 1; have hf6_2 : w10.frozen? ⟨go5, (x5_1 : Int).toNat * 3 + 2, none⟩ = false := hfr6 2; (try clear hcl6); (try clear hcc6); (try clear hfr6); (try clear hM6); replace p6 := eq_true p6; replace q6 := eq_true q6; have HX11 := Aside0.mk (show Kd.R k78 78 w10 w0.heap.size (fun k_ => (P0_ k_ ∨ w.heap.size ≤ k_)) (.slice (some ⟨go5, 0, none⟩) x0_1.length co8) y392 from (rz HO_0)); obtain ⟨ce11, hcl11, hM11, hcc11, hfr11⟩ := Kd.R_elem HX11.out z78 (x5_1 : Int) oda (by have h_ : (x5_1 : Int) < ((x0_1.length : Int) : Int) := oda; first | exact h_ | (have e_ := (Kd.R_reads' HO_0.out).1; omega) | simpa using h_); obtain rfl := k78_openM hM11; have HP11 := Kd.R_seg HX11.out (x5_1 : Int) oda (by have h_ : (x5_1 : Int) < ((x0_1.length : Int) : Int) := oda; first | exact h_ | (have e_ := (Kd.R_reads' HO_0.out).1; omega) | simpa using h_) (seg := [.int .i64 (wrap64 (x1_1 + 1))]) (j := 1) hcl11 hcc11 (show 2 ≤ 3 from by decide) (x' := (⟨(rd_T78 y392 x5_1).f0, wrap64 (x1_1 + 1), (rd_T78 y392 x5_1).f2⟩ : S78)) (k78_mkM _ _ _ (⟨(rd_T78 y392 x5_1).f0, wrap64 (x1_1 + 1), (rd_T78 y392 x5_1).f2⟩ : S78) ) (fun _ hk => hk); have hx11_1 := hcc11 1 _ rfl; (try simp only [show (k78).sz = 3 from rfl, Nat.mul_one, Nat.add_zero] at hx11_1); have hf11_1 := hfr11 1; (try simp only [show (k78).sz = 3 from rfl, Nat.mul_one, Nat.add_zero] at hf11_1); (try clear hcl11); (try clear hcc11); (try clear hfr11); (try clear hM11)) | ((with_reducible refine gate_store (t := 3) (p := 23) rfl ?_); refine store_event (t := 3) (p := 23) (v := ?vo_w12) (w1 := (w10.setCell ⟨go5, (x5_1 : Int).toNat * 3 + 1, none⟩ (.int .i64 (wrap64 (x1_1 + 1))))) ?hg ?ho ?hn ?hr ?_; (case ho => rfl); (case hg => rfl); (case hn => rfl); (case hr => first | (go_simp; done) | (go_simp; rfl)); intro w12 hw; have hg : w10.grownBy w12 (some go5) := (by rw [hw]; exact HP11.2); have hp_ : Kd.R k78 78 w12 w0.heap.size (fun k_ => (P0_ k_ ∨ w.heap.size ≤ k_)) (.slice (some ⟨go5, 0, none⟩) x0_1.length co8) y393 := (by rw [hw, Ny393.out]; exact HP11.1); clear HP11; have n0_ := Aside0.mk (hp_); have n1_ := Aside0.mk ((by rw [hw]; exact below_set (HB.out) GB5.out : Below w0.heap.size w0 w12)); have n2_ := Aside0.mk (Kept.of_grown (S := (fun k_ => P0_ k_)) hg (by repeat (first | (with_reducible first | exact HK.out | apply Kept.alloc | apply Kept.drewN | apply Kept.drew) | exact HK.out)) (fun k_ e_ => (HO_0.out.1 k_ e_))); clear HO_0 HB HK; have HO_0 := n0_; have HB := n1_; have HK := n2_; clear n0_ n1_ n2_ hg hw hp_; have p7 : 0 ≤ (x5_1 : Int) := oda; have q7 : (x5_1 : Int) < ((x0_1.length : Int) : Int) := oda; obtain ⟨ce7, hcl7, hM7, hcc7, hfr7⟩ := Kd.R_elem HO_0.out z78 (x5_1 : Int) p7 q7; obtain rfl := k78_openM hM7; have hx7_0 : w12.cell? ⟨go5, (x5_1 : Int).toNat * 3, none⟩ = some (.int .i64 ((rd_T78 y393 x5_1).f0)) := hcc7 0 _ rfl; have hx7_1 : w12.cell? ⟨go5, (x5_1 : Int).toNat * 3 + 1, none⟩ = some (.int .i64 ((rd_T78 y393 x5_1).f1)) := hcc7 1 _ rfl; have hx7_2 : w12.cell? ⟨go5, (x5_1 : Int).toNat * 3 + 2, none⟩ = some (.int .i64 ((rd_T78 y393 x5_1).f2)) := hcc7 2 _ rfl; have hf7_0 : w12.frozen? ⟨go5, (x5_1 : Int).toNat * 3, none⟩ = false := hfr7 0; have hf7_1 : w12.frozen? ⟨go5, (x5_1 : Int).toNat * 3 + 1, none⟩ = false := hfr7 1; have hf7_2 : w12.frozen? ⟨go5, (x5_1 : Int).toNat * 3 + 2, none⟩ = false := hfr7 2; (try clear hcl7); (try clear hcc7); (try clear hfr7); (try clear hM7); replace p7 := eq_true p7; replace q7 := eq_true q7; have HX13 := Aside0.mk (show Kd.R k78 78 w12 w0.heap.size (fun k_ => (P0_ k_ ∨ w.heap.size ≤ k_)) (.slice (some ⟨go5, 0, none⟩) x0_1.length co8) y393 from (rz HO_0)); obtain ⟨ce13, hcl13, hM13, hcc13, hfr13⟩ := Kd.R_elem HX13.out z78 (x5_1 : Int) oda (by have h_ : (x5_1 : Int) < ((x0_1.length : Int) : Int) := oda; first | exact h_ | (have e_ := (Kd.R_reads' HO_0.out).1; omega) | simpa using h_); obtain rfl := k78_openM hM13; have HP13 := Kd.R_seg HX13.out (x5_1 : Int) oda (by have h_ : (x5_1 : Int) < ((x0_1.length : Int) : Int) := oda; first | exact h_ | (have e_ := (Kd.R_reads' HO_0.out).1; omega) | simpa using h_) (seg := [.int .i64 (wrap64 ((wrap64 (x1_1 + 1)) + 1))]) (j := 2) hcl13 hcc13 (show 3 ≤ 3 from by decide) (x' := (⟨(rd_T78 y393 x5_1).f0, (rd_T78 y393 x5_1).f1, wrap64 ((wrap64 (x1_1 + 1)) + 1)⟩ : S78)) (k78_mkM _ _ _ (⟨(rd_T78 y393 x5_1).f0, (rd_T78 y393 x5_1).f1, wrap64 ((wrap64 (x1_1 + 1)) + 1)⟩ : S78) ) (fun _ hk => hk); have hx13_2 := hcc13 2 _ rfl; (try simp only [show (k78).sz = 3 from rfl, Nat.mul_one, Nat.add_zero] at hx13_2); have hf13_2 := hfr13 2; (try simp only [show (k78).sz = 3 from rfl, Nat.mul_one, Nat.add_zero] at hf13_2); (try clear hcl13); (try clear hcc13); (try clear hfr13); (try clear hM13)) | ((with_reducible refine gate_store (t := 3) (p := 30) rfl ?_); refine store_event (t := 3) (p := 30) (v := ?vo_w14) (w1 := (w12.setCell ⟨go5, (x5_1 : Int).toNat * 3 + 2, none⟩ (.int .i64 (wrap64 ((wrap64 (x1_1 + 1)) + 1))))) ?hg ?ho ?hn ?hr ?_; (case ho => rfl); (case hg => rfl); (case hn => rfl); (case hr => first | (go_simp; done) | (go_simp; rfl)); intro w14 hw; have hg : w12.grownBy w14 (some go5) := (by rw [hw]; exact HP13.2); have hp_ : Kd.R k78 78 w14 w0.heap.size (fun k_ => (P0_ k_ ∨ w.heap.size ≤ k_)) (.slice (some ⟨go5, 0, none⟩) x0_1.length co8) y394 := (by rw [hw, Ny394.out]; exact HP13.1); clear HP13; have n0_ := Aside0.mk (hp_); have n1_ := Aside0.mk ((by rw [hw]; exact below_set (HB.out) GB5.out : Below w0.heap.size w0 w14)); have n2_ := Aside0.mk (Kept.of_grown (S := (fun k_ => P0_ k_)) hg (by repeat (first | (with_reducible first | exact HK.out | apply Kept.alloc | apply Kept.drewN | apply Kept.drew) | exact HK.out)) (fun k_ e_ => (HO_0.out.1 k_ e_))); clear HO_0 HB HK; have HO_0 := n0_; have HB := n1_; have HK := n2_; clear n0_ n1_ n2_ hg hw hp_))
     go_roundg k1
     case measure => have := HK1.out; omega
     case rel => exact ⟨(y394), (wrap64 ((wrap64 ((wrap64 (x1_1 + 1)) + 1)) + 1)), (wrap64 (x5_1 + 1)), (by first | rfl | (simp; done) | (simp [*]; done)), (by first | rfl | (simp; done) | (simp [*]; done)), H', ⟨by have := HK1.out; omega⟩, ⟨rz HO_0⟩, ⟨by repeat (first | (with_reducible first | exact HK.out | apply Kept.alloc | apply Kept.drewN | apply Kept.drew) | exact HK.out)⟩, ⟨by exact bh⟩⟩
    ·rw [if_neg c4] at H
     exact absurd H (by simp)
   ·rw [if_neg c3] at H
    have c3b0 : decide (x5_1 < (x0_1.length : Int)) = false := decide_eq_false c3
    clear c3
    simp only [Option.some.injEq, Prod.mk.injEq] at H
    obtain ⟨rfl, rfl⟩ := H
    obtain ⟨Ao15, co15, eo15⟩ := Kd.R_slice HO_0.out
    subst eo15
    go_wp2
    go_ret
    exact ⟨by first | rfl | (simp [errW_none, errW_some] <;> rfl) | (simp [*, errW_none, errW_some] <;> rfl), by (with_reducible repeat (first | apply Kd.R_alloc | apply Kd.R_drewN | apply Kd.R_drew)); exact HO_0.out, by repeat (first | (with_reducible first | exact HB.out | apply below_alloc | apply pw_below_drewN | apply below_drew1) | exact HB.out), by repeat (first | (with_reducible first | exact HK.out | apply Kept.alloc | apply Kept.drewN | apply Kept.drew) | exact HK.out)⟩

/-! ### laws_markStepS: function 48 -/
def laws_markStepS.l0 : Nat → List S41 → Int → Int → Option (Int × List S41)
 | 0, _, _, _ => none
 | k + 1, x0, x1, x5 => if x5 < (x0.length : Int) then (if 0 ≤ x5 then ((laws_markMarkS.f k (rd_T41 x0 x5).f0 x1).bind fun bt => (laws_markStepS.l0 k (x0.set (x5 : Int).toNat (⟨bt.2, bt.1, wrap64 (bt.1 + 1)⟩ : S41)) (wrap64 ((wrap64 (bt.1 + 1)) + 1)) (wrap64 (x5 + 1)))) else (none)) else (some (x1, x0))
def laws_markStepS.f (k : Nat) (l0 : List S41) (a1 : Int) : Option (Int × List S41) := laws_markStepS.l0 k l0 a1 0
theorem laws_markStepS.mono_l : ∀ k, (∀ y0 y1 y2, LeO (laws_markStepS.l0 k y0 y1 y2) (laws_markStepS.l0 (k + 1) y0 y1 y2))
 | 0 => fun _ _ _ r h => by simp [laws_markStepS.l0] at h
 | k + 1 => by
  have ih0 := laws_markStepS.mono_l k
  ·intro y0 y1 y2
   unfold laws_markStepS.l0
   repeat' first
   | (with_reducible exact ih0 _ _ _)
   | (with_reducible exact laws_markMarkS.mono _ _ _)
   | (with_reducible exact LeO.refl _)
   | (with_reducible exact LeO.none _)
   | (with_reducible refine LeO.ite ?_ ?_)
   | (with_reducible refine LeO.bind ?_ (fun _ => ?_))
   | exact ih0 _ _ _
   | exact laws_markMarkS.mono _ _ _
   | exact LeO.none _
   | refine LeO.ite ?_ ?_
   | refine LeO.bind ?_ (fun _ => ?_)
theorem laws_markStepS.mono : ∀ a0 a1 k, LeO (laws_markStepS.f k a0 a1) (laws_markStepS.f (k + 1) a0 a1) := by
 intro a0 a1 k
 have ih0 := laws_markStepS.mono_l k
 unfold laws_markStepS.f
 repeat' first
   | (with_reducible exact ih0 _ _ _)
   | (with_reducible exact laws_markMarkS.mono _ _ _)
   | (with_reducible exact LeO.refl _)
   | (with_reducible exact LeO.none _)
   | (with_reducible refine LeO.ite ?_ ?_)
   | (with_reducible refine LeO.bind ?_ (fun _ => ?_))
   | exact ih0 _ _ _
   | exact laws_markMarkS.mono _ _ _
   | exact LeO.none _
   | refine LeO.ite ?_ ?_
   | refine LeO.bind ?_ (fun _ => ?_)
set_option maxHeartbeats 8000000 in
set_option maxRecDepth 100000 in
theorem laws_markStepS.calls (k : Nat) (P0_ : Nat → Prop) (u9000_ : Value) (l0 : List S41) (a1 : Int) (r1 : Int) (r2 : List S41) (w0 w : World) (hB : Below w0.heap.size w0 w) (ho0 : Kd.S k41 41 w w0.heap.size P0_ u9000_ l0) (h : laws_markStepS.f k l0 a1 = some (r1, r2)) :
  Calls Try.prog 48 #[u9000_, .int .i64 a1] w fun e w' => e = .returned (.int .i64 r1) ∧ Kd.S k41 41 w' w0.heap.size P0_ u9000_ r2 ∧ Below w0.heap.size w0 w' ∧ Kept w w' (fun k_ => P0_ k_) := by
 have HO0 := Aside0.mk ho0
 have HK := Aside0.mk (Kept.refl w (fun k_ => P0_ k_))
 have HW0 := Aside0.mk hB.size
 have HB := Aside0.mk hB
 clear hB
 have H : (laws_markStepS.l0 k l0 a1 0) = some (r1, r2) := h
 clear h
 have H' := Aside0.mk H
 clear H
 go_enter Try.func48, Try.ntmps48
 go_wp2
 go_loopg [1, 5] k (fun kq v1 v5 w' => ∃ (x0_1 : List S41) (x1_1 : Int) (x5_1 : Int), v1 = .int .i64 x1_1 ∧ v5 = .int .i64 x5_1 ∧ Aside0 (laws_markStepS.l0 kq x0_1 x1_1 x5_1 = some (r1, r2)) ∧ Aside0 (kq ≤ k) ∧ Aside0 (Kd.S k41 41 w' w0.heap.size P0_ u9000_ x0_1) ∧ Aside0 (Kept w w' (fun k_ => P0_ k_)) ∧ Aside0 (Below w0.heap.size w0 w'))
 case atStart => exact ⟨(l0), (a1), (0), (by first | rfl | (simp; done) | (simp [*]; done)), (by first | rfl | (simp; done) | (simp [*]; done)), H', ⟨Nat.le_refl _⟩, ⟨sz HO0⟩, ⟨by repeat (first | (with_reducible first | exact HK.out | apply Kept.alloc | apply Kept.drewN | apply Kept.drew) | exact HK.out)⟩, ⟨by exact bh⟩⟩
 case round =>
  clear H'
  obtain ⟨x0_1, x1_1, x5_1, rfl, rfl, HA, HK1, HO_0, HK, HB⟩ := hrel
  cases gk with
  | zero => exact absurd HA.out (by simp [laws_markStepS.l0])
  | succ k1 =>
   have H := HA.out
   clear HA
   simp only [laws_markStepS.l0] at H
   by_cases c3 : x5_1 < (x0_1.length : Int)
   ·rw [if_pos c3] at H
    have c3b0 : decide (x5_1 < (x0_1.length : Int)) = true := decide_eq_true c3
    by_cases c4 : 0 ≤ x5_1
    ·rw [if_pos c4] at H
     have c4b0 : decide (0 ≤ x5_1) = true := decide_eq_true c4
     obtain ⟨⟨t1, t2⟩, A0, H⟩ := Option.bind_eq_some_iff.mp H
     have A := Aside0.mk A0
     clear A0
     have H' := Aside0.mk H
     clear H
     have hil : x5_1.toNat < x0_1.length := by omega
     obtain ⟨g, co, eo, gb, gl, cl, HG⟩ := Kd.S_form HO_0.out (by omega)
     subst eo
     have GB := Aside0.mk gb
     have HMg := Aside0.mk (show P0_ g from (Kd.S_R HO_0.out).1 _ rfl)
     obtain ⟨oki, c, hcl, hM, hcc, hok, hH⟩ := Kd.S_lend HO_0.out z41 x5_1 c4 (by omega)
     obtain ⟨y, hy0⟩ : ∃ y, y = x0_1.getD x5_1.toNat z41 := ⟨_, rfl⟩
     rw [← hy0] at hM
     replace A : Aside0 (laws_markMarkS.f k1 y.f0 x1_1 = some (t1, t2)) := ⟨by rw [hy0]; exact A.out⟩
     obtain ⟨v, rfl, hv⟩ := k41_openM hM
     have hx : wr.cell? ⟨g, x5_1.toNat * 3, none⟩ = some v := by simpa [show (k41).sz = 3 from rfl] using hcc 0 v rfl
     obtain ⟨Av, cv, ev⟩ := Kd.R_slice hv
     subst ev
     obtain ⟨y1, hy1⟩ : ∃ y1, y1 = x0_1.set x5_1.toNat (⟨t2, y.f1, y.f2⟩ : S41) := ⟨_, rfl⟩
     obtain ⟨y2, hy2⟩ : ∃ y2, y2 = x0_1.set x5_1.toNat (⟨t2, t1, y.f2⟩ : S41) := ⟨_, rfl⟩
     obtain ⟨y3, hy3⟩ : ∃ y3, y3 = x0_1.set x5_1.toNat (⟨t2, t1, wrap64 (t1 + 1)⟩ : S41) := ⟨_, rfl⟩
     rw [← hy3] at H'
     have e12 : y1.set x5_1.toNat (⟨t2, t1, y.f2⟩ : S41) = y2 := by rw [hy1, hy2, List.set_set]
     have e23 : y2.set x5_1.toNat (⟨t2, t1, wrap64 (t1 + 1)⟩ : S41) = y3 := by rw [hy2, hy3, List.set_set]
     have g1 : y1.getD x5_1.toNat z41 = (⟨t2, y.f1, y.f2⟩ : S41) := by rw [hy1, List.getD_eq_getElem?_getD, List.getElem?_set_self hil]; rfl
     have g2 : y2.getD x5_1.toNat z41 = (⟨t2, t1, y.f2⟩ : S41) := by rw [hy2, List.getD_eq_getElem?_getD, List.getElem?_set_self hil]; rfl
     have E12 := Aside0.mk e12
     have E23 := Aside0.mk e23
     have G1 := Aside0.mk g1
     have G2 := Aside0.mk g2
     have Y1 := Aside0.mk hy1
     have p5 := eq_true c4
     have q5 := eq_true c3
     have C3 := Aside0.mk c3
     have C4 := Aside0.mk c4
     have HV := Aside0.mk hv
     have HH := Aside0.mk hH
     have HOK := Aside0.mk hok
     clear hy0 e12 e23 g1 g2 hy1 hy2 hy3 hil hv hH hok hcl hcc c3 c4 hM gb gl HG
     go_wp2_with (first | ((with_reducible refine gate_callee (f := 49) rfl ?_); refine goesL_ (some 18) rfl rfl Try.func49 kr rfl #[.slice Av y.f0.length cv, .int .i64 x1_1] rfl (by (try simp only [List.map_toArray, List.map_cons, List.map_nil]); first | done | rfl) ?_; (with_reducible refine (laws_markMarkS.calls k1 oki (.slice Av y.f0.length cv) y.f0 x1_1 t1 t2 w0 _ ?side1 ?side2 A.out).mono ?_); (case side1 => repeat (first | (with_reducible first | exact HB.out | apply below_alloc | apply pw_below_drewN | apply below_drew1) | exact HB.out)); (case side2 => (with_reducible repeat (first | apply Kd.R_alloc | apply Kd.R_drewN | apply Kd.R_drew)); exact HV.out); rintro e w3 ⟨rfl, hy, hb, hk⟩; refine ⟨_, rfl, ?_⟩; have HO3 := Aside0.mk (show Kd.S k41 41 w3 w0.heap.size P0_ (.slice (some ⟨g, 0, none⟩) x0_1.length co) y1 from (by rw [Y1.out]; exact (Kd.H_back (x' := (⟨t2, y.f1, y.f2⟩ : S41)) (Kd.H_kept (by (with_reducible repeat (first | apply Kd.H_alloc | apply Kd.H_drewN | apply Kd.H_drew)); exact HH.out) hk (fun _ _ hn => hn)) (k41_mkM _ _ _ (⟨t2, y.f1, y.f2⟩ : S41) (Kd.R_reok rfl hy (fun k_ e_ => HV.out.1 k_ e_))) (fun _ h_ => h_)))); have HK3 := Aside0.mk (Kept.then_ (S := fun k_ => P0_ k_) (by repeat (first | (with_reducible first | exact HK.out | apply Kept.alloc | apply Kept.drewN | apply Kept.drew) | exact HK.out)) hk (fun k_ hs_ => .inl (HOK.out k_ hs_).1)); have HB3 := Aside0.mk hb; clear hy hb hk; obtain ⟨oki1, c1, hcl1, hM1, hcc1, hfr1, hoki1, hH1⟩ := Kd.S_elem HO3.out z41 x5_1 C4.out C3.out; rw [G1.out] at hM1; obtain ⟨v1, rfl, hv1⟩ := k41_openM hM1; have HP1 := Kd.S_seg (okg := fun _ => False) (Kd.H_mono hH1 (fun k_ h_ => ⟨h_, fun e_ => e_⟩)) C4.out C3.out (seg := [.int .i64 t1]) (j := 1) (show 2 ≤ 3 from by decide) (x' := (⟨t2, t1, y.f2⟩ : S41)) (k41_mkM _ _ _ (⟨t2, t1, y.f2⟩ : S41) hv1) (fun _ h_ => Or.inl h_) (fun k_ h_ => h_.elim); rw [E12.out] at HP1; have hx1 : w3.cell? ⟨g, x5_1.toNat * 3 + 1, none⟩ = some (.int .i64 y.f1) := hcc1 1 _ rfl; have hf1 : w3.frozen? ⟨g, x5_1.toNat * 3 + 1, none⟩ = false := hfr1 1; (try clear hcl1); (try clear hcc1); (try clear hfr1); (try clear hM1); (try clear hoki1); (try clear hH1); (try clear hv1)) | ((with_reducible refine gate_store (t := 3) (p := 23) rfl ?_); refine store_event (t := 3) (p := 23) (v := ?vo_w4) (w1 := (w3.setCell ⟨g, x5_1.toNat * 3 + 1, none⟩ (.int .i64 t1))) ?hg ?ho ?hn ?hr ?_; (case ho => rfl); (case hg => rfl); (case hn => rfl); (case hr => first | (go_simp; done) | (go_simp; rfl)); intro w4 hw; have hg : w3.grownBy w4 (some g) := (by rw [hw]; exact HP1.2); have HO4 := Aside0.mk (show Kd.S k41 41 w4 w0.heap.size P0_ (.slice (some ⟨g, 0, none⟩) x0_1.length co) y2 from (by rw [hw]; exact HP1.1)); have HB4 := Aside0.mk (show Below w0.heap.size w0 w4 from (by rw [hw]; exact below_set (HB3.out) GB.out)); have HK4 := Aside0.mk (Kept.of_grown (S := (fun k_ => P0_ k_)) hg HK3.out (fun k_ e_ => .inl (by cases e_; exact HMg.out))); clear hg hw HP1; obtain ⟨oki2, c2, hcl2, hM2, hcc2, hfr2, hoki2, hH2⟩ := Kd.S_elem HO4.out z41 x5_1 C4.out C3.out; rw [G2.out] at hM2; obtain ⟨v2, rfl, hv2⟩ := k41_openM hM2; have HP2 := Kd.S_seg (okg := fun _ => False) (Kd.H_mono hH2 (fun k_ h_ => ⟨h_, fun e_ => e_⟩)) C4.out C3.out (seg := [.int .i64 (wrap64 (t1 + 1))]) (j := 2) (show 3 ≤ 3 from by decide) (x' := (⟨t2, t1, wrap64 (t1 + 1)⟩ : S41)) (k41_mkM _ _ _ (⟨t2, t1, wrap64 (t1 + 1)⟩ : S41) hv2) (fun _ h_ => Or.inl h_) (fun k_ h_ => h_.elim); rw [E23.out] at HP2; have hx2 : w4.cell? ⟨g, x5_1.toNat * 3 + 2, none⟩ = some (.int .i64 y.f2) := hcc2 2 _ rfl; have hf2 : w4.frozen? ⟨g, x5_1.toNat * 3 + 2, none⟩ = false := hfr2 2; (try clear hcl2); (try clear hcc2); (try clear hfr2); (try clear hM2); (try clear hoki2); (try clear hH2); (try clear hv2)) | ((with_reducible refine gate_store (t := 3) (p := 30) rfl ?_); refine store_event (t := 3) (p := 30) (v := ?vo_w5) (w1 := (w4.setCell ⟨g, x5_1.toNat * 3 + 2, none⟩ (.int .i64 (wrap64 (t1 + 1))))) ?hg ?ho ?hn ?hr ?_; (case ho => rfl); (case hg => rfl); (case hn => rfl); (case hr => first | (go_simp; done) | (go_simp; rfl)); intro w5 hw; have hg : w4.grownBy w5 (some g) := (by rw [hw]; exact HP2.2); have HO5 := Aside0.mk (show Kd.S k41 41 w5 w0.heap.size P0_ (.slice (some ⟨g, 0, none⟩) x0_1.length co) y3 from (by rw [hw]; exact HP2.1)); have HB5 := Aside0.mk (show Below w0.heap.size w0 w5 from (by rw [hw]; exact below_set (HB4.out) GB.out)); have HK5 := Aside0.mk (Kept.of_grown (S := (fun k_ => P0_ k_)) hg HK4.out (fun k_ e_ => .inl (by cases e_; exact HMg.out))); clear hg hw HP2))
     go_roundg k1
     case measure => have := HK1.out; omega
     case rel => exact ⟨y3, (wrap64 ((wrap64 (t1 + 1)) + 1)), (wrap64 (x5_1 + 1)), (by first | rfl | (simp; done) | (simp [*]; done)), (by first | rfl | (simp; done) | (simp [*]; done)), H', ⟨by have := HK1.out; omega⟩, ⟨sz HO5⟩, ⟨by repeat (first | (with_reducible first | exact HK5.out | apply Kept.alloc | apply Kept.drewN | apply Kept.drew) | exact HK5.out)⟩, ⟨by repeat (first | (with_reducible first | exact HB5.out | apply below_alloc | apply pw_below_drewN | apply below_drew1) | exact HB5.out)⟩⟩
    ·rw [if_neg c4] at H
     exact absurd H (by simp)
   ·rw [if_neg c3] at H
    have c3b0 : decide (x5_1 < (x0_1.length : Int)) = false := decide_eq_false c3
    clear c3
    simp only [Option.some.injEq, Prod.mk.injEq] at H
    obtain ⟨rfl, rfl⟩ := H
    obtain ⟨Ao9, co9, eo9⟩ := Kd.S_slice HO_0.out
    subst eo9
    go_wp2
    go_ret
    exact ⟨by first | rfl | (simp [errW_none, errW_some] <;> rfl) | (simp [*, errW_none, errW_some] <;> rfl), by (with_reducible repeat (first | apply Kd.S_alloc | apply Kd.S_drewN | apply Kd.S_drew)); exact HO_0.out, by repeat (first | (with_reducible first | exact HB.out | apply below_alloc | apply pw_below_drewN | apply below_drew1) | exact HB.out), by repeat (first | (with_reducible first | exact HK.out | apply Kept.alloc | apply Kept.drewN | apply Kept.drew) | exact HK.out)⟩

end Go.Proofs.Ytnpjlpkbefdnlaa.QFnExactBillTerm
