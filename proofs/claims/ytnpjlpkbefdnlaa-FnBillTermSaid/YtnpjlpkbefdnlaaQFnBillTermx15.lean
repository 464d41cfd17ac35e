-- Printed for this claim by a turned copy of the print (wip/myprint). Lean checks it. Squeezed. Worded. Tightened.
import Derived.Test.YtnpjlpkbefdnlaaQFnBillTermx0
import Derived.Test.YtnpjlpkbefdnlaaQFnBillTermx1
import Derived.Test.YtnpjlpkbefdnlaaQFnBillTermx3
import Derived.Test.YtnpjlpkbefdnlaaQFnBillTermx14
namespace Go.Proofs.Ytnpjlpkbefdnlaa.QFnBillTerm
open Go.RowKit Go.Proofs.YtnpjlpkbefdnlaaW.PrintWords Go.Proofs.YtnpjlpkbefdnlaaW.PrintLast Go.Proofs.YtnpjlpkbefdnlaaW.PrintMore
attribute [local go_sem] max2_int min2_int max_two min_two max_three min_three max_four min_four Opens.cell_twice   -- for this text's walks alone
set_option linter.unusedVariables false
set_option linter.unusedSimpArgs false

attribute [local go_sem high] eqA78
/-! ### spec_l5Term: function 77 -/
mutual
def spec_l5Term.j0 : Nat → List (S78) → Int → List (S78) → Int → Option ((List (S78)) × Int)
 | 0, _, _, _, _ => none
 | k + 1, x8, x9, x10, x11 => if x9 = 1 then (some ((([] : List (S78))), 1)) else (if x9 = 2 then (some (x10, x11)) else (if x11 = 2 then (some (x8, 0)) else (if x10.length + x8.length < 5864062014805 then ((some (x10 ++ x8 : List (S78))).bind fun y445 => (if y445.length < 5864062014805 then (some ((y445 ++ [(⟨2, 0, 0⟩ : S78)]), 0)) else (none))) else (none))))
def spec_l5Term.f : Nat → List (S41) → Int → Option ((List (S78)) × Int)
 | 0, _, _ => none
 | k + 1, l0, a1 => if a1 = 10 then (some ((([] : List (S78))), 1)) else (if a1 = 11 then (some ((([] : List (S78))), 2)) else (if 0 ≤ a1 then (if a1 < (l0.length : Int) then ((spec_l5Term.f k l0 ((rd_T41 l0 a1).f1)).bind fun bt417 => ((spec_l5Term.f k l0 ((rd_T41 l0 a1).f2)).bind fun bt422 => ((some (([] : List (S78)) : List (S78))).bind fun y426 => (if y426.length + ((rd_T41 l0 a1).f0).length < 5864062014805 then ((some (y426 ++ ((rd_T41 l0 a1).f0) : List (S78))).bind fun y430 => (if bt417.2 = 0 then (if y430.length + bt417.1.length < 5864062014805 then ((some (y430 ++ bt417.1 : List (S78))).bind fun y433 => (if y433.length < 5864062014805 then (spec_l5Term.j0 k bt422.1 bt422.2 (y433 ++ [(⟨1, 0, 0⟩ : S78)]) 0) else (none))) else (none)) else (if bt417.2 = 2 then (spec_l5Term.j0 k bt422.1 bt422.2 (([] : List (S78))) 2) else (spec_l5Term.j0 k bt422.1 bt422.2 y430 0)))) else (none))))) else (none)) else (none)))
end
theorem spec_l5Term.mono_l : ∀ k, (∀ y0 y1, LeO (spec_l5Term.f k y0 y1) (spec_l5Term.f (k + 1) y0 y1)) ∧ (∀ y0 y1 y2 y3, LeO (spec_l5Term.j0 k y0 y1 y2 y3) (spec_l5Term.j0 (k + 1) y0 y1 y2 y3))
 | 0 => ⟨fun _ _ r h => by simp [spec_l5Term.f] at h, fun _ _ _ _ r h => by simp [spec_l5Term.j0] at h⟩
 | k + 1 => by
  obtain ⟨ih0, ih1⟩ := spec_l5Term.mono_l k
  refine ⟨?_, ?_⟩
  ·intro y0 y1
   unfold spec_l5Term.f
   repeat' first
   | (with_reducible exact ih0 _ _)
   | (with_reducible exact ih1 _ _ _ _)
   | (with_reducible exact LeO.refl _)
   | (with_reducible exact LeO.none _)
   | (with_reducible refine LeO.ite ?_ ?_)
   | (with_reducible refine LeO.bind ?_ (fun _ => ?_))
   | exact ih0 _ _
   | exact ih1 _ _ _ _
   | exact LeO.none _
   | refine LeO.ite ?_ ?_
   | refine LeO.bind ?_ (fun _ => ?_)
  ·intro y0 y1 y2 y3
   unfold spec_l5Term.j0
   repeat' first
   | (with_reducible exact ih0 _ _)
   | (with_reducible exact ih1 _ _ _ _)
   | (with_reducible exact LeO.refl _)
   | (with_reducible exact LeO.none _)
   | (with_reducible refine LeO.ite ?_ ?_)
   | (with_reducible refine LeO.bind ?_ (fun _ => ?_))
   | exact ih0 _ _
   | exact ih1 _ _ _ _
   | exact LeO.none _
   | refine LeO.ite ?_ ?_
   | refine LeO.bind ?_ (fun _ => ?_)
theorem spec_l5Term.mono : ∀ a0 a1 k, LeO (spec_l5Term.f k a0 a1) (spec_l5Term.f (k + 1) a0 a1) := by
 intro a0 a1 k
 obtain ⟨ih0, ih1⟩ := spec_l5Term.mono_l k
 exact ih0 a0 a1
set_option maxHeartbeats 8000000 in
set_option maxRecDepth 100000 in
theorem spec_l5Term.calls (k : Nat) : ∀ (A0 : Option Addr) (c0 : Nat) (l0 : List (S41)) (a1 : Int) (r1 : List (S78)) (r2 : Int) (w : World) (hr0 : Kd.C k41 w A0 l0.length l0) (hc0 : l0.length ≤ c0) (h : spec_l5Term.f k l0 a1 = some (r1, r2)),
  Calls Try.prog 77 #[.slice A0 l0.length c0, .int .i64 a1] w fun e w' => ∃ v0_ : Value, e = .returned (.tuple #[v0_, .int .i64 r2]) ∧ Kd.R k78 78 w' w.heap.size (fun _ => True) v0_ r1 ∧ Below w.heap.size w w' := by
 induction k using Nat.strongRecOn with
 | _ k ih =>
 intro A0 c0 l0 a1 r1 r2 w hr0 hc0 h
 cases k with
 | zero => exact absurd h (by simp [spec_l5Term.f])
 | succ k =>
 simp only [spec_l5Term.f] at h
 have hu78 := Try.underlying78
 have HR0 := Aside0.mk hr0
 have HC0 := Aside0.mk hc0
 clear hr0 hc0
 have HB := Aside0.mk (Below.refl w.heap.size w)
 have H : (if a1 = 10 then (some ((([] : List (S78))), 1)) else (if a1 = 11 then (some ((([] : List (S78))), 2)) else (if 0 ≤ a1 then (if a1 < (l0.length : Int) then ((spec_l5Term.f k l0 ((rd_T41 l0 a1).f1)).bind fun bt417 => ((spec_l5Term.f k l0 ((rd_T41 l0 a1).f2)).bind fun bt422 => ((some (([] : List (S78)) : List (S78))).bind fun y426 => (if y426.length + ((rd_T41 l0 a1).f0).length < 5864062014805 then ((some (y426 ++ ((rd_T41 l0 a1).f0) : List (S78))).bind fun y430 => (if bt417.2 = 0 then (if y430.length + bt417.1.length < 5864062014805 then ((some (y430 ++ bt417.1 : List (S78))).bind fun y433 => (if y433.length < 5864062014805 then (spec_l5Term.j0 k bt422.1 bt422.2 (y433 ++ [(⟨1, 0, 0⟩ : S78)]) 0) else (none))) else (none)) else (if bt417.2 = 2 then (spec_l5Term.j0 k bt422.1 bt422.2 (([] : List (S78))) 2) else (spec_l5Term.j0 k bt422.1 bt422.2 y430 0)))) else (none))))) else (none)) else (none)))) = some (r1, r2) := h
 clear h
 by_cases c3 : a1 = 10
 ·rw [if_pos c3] at H
  have c3b0 : (a1 == 10) = true := beq_iff_eq.mpr c3
  have c3b1 : (a1 != 10) = false := bne_eq_false_iff_eq.mpr c3
  clear c3
  obtain ⟨y410, hy410⟩ : ∃ y_ : List (S78), y_ = (([] : List (S78))) := ⟨_, rfl⟩
  replace H : (some (y410, 1)) = some (r1, r2) := by first | (rw [hy410]; with_reducible exact H) | (have H2_ := (Option.bind_some _ _).symm.trans H; rw [hy410]; with_reducible exact H2_) | (have H2_ := (Option.bind_some _ _).symm.trans H; with_reducible exact H2_) | with_reducible exact H | (rw [hy410]; exact H) | exact H
  have Ny410 := Aside0.mk hy410
  clear hy410
  simp only [Option.some.injEq, Prod.mk.injEq] at H
  obtain ⟨rfl, rfl⟩ := H
  go_enter Try.func77, Try.ntmps77
  go_wp2_with (first | ((with_reducible refine gate_dst (N := 15) rfl ?_); refine Kd.R_lit k78 _ 78 ?hg (N := 15) ?hd (xs := ([] : List (S78))) (inner := []) (ok := fun _ => True) (okp := fun _ => True) ?hr ?hp (fun _ hk => hk) trivial (Below.refl _ _) (Nat.le_refl _) (by simp) ?_; (case hd => rfl); (case hg => rfl); (case hr => first | (go_simp; done) | (go_simp; rfl)); (case hp => exact (Reps.none _ _)); intro v411 w4 ho5 hb hg_ hnew_; clear hg_ hnew_; (first | rw [← Ny410.out] at ho5 | (simp only [Int.reduceToNat] at ho5; rw [← Ny410.out] at ho5)); have n0_ := Aside0.mk (Kd.R_lower ho5 (below_size bh)); have n1_ := Aside0.mk (below_step bh hb); clear HB; have HO412 := n0_; have HB := n1_; clear n0_ n1_ hb ho5))
  go_ret2
  exact ⟨_, by first | rfl | (simp [errW_none, errW_some] <;> rfl) | (simp [*, errW_none, errW_some] <;> rfl), by (with_reducible repeat (first | apply Kd.R_alloc | apply Kd.R_drewN | apply Kd.R_drew)); exact HO412.out, by exact bh⟩
 ·rw [if_neg c3] at H
  have c3b0 : (a1 == 10) = false := beq_eq_false_iff_ne.mpr c3
  have c3b1 : (a1 != 10) = true := bne_iff_ne.mpr c3
  by_cases c6 : a1 = 11
  ·rw [if_pos c6] at H
   have c6b0 : (a1 == 11) = true := beq_iff_eq.mpr c6
   have c6b1 : (a1 != 11) = false := bne_eq_false_iff_eq.mpr c6
   clear c6
   obtain ⟨y413, hy413⟩ : ∃ y_ : List (S78), y_ = (([] : List (S78))) := ⟨_, rfl⟩
   replace H : (some (y413, 2)) = some (r1, r2) := by first | (rw [hy413]; with_reducible exact H) | (have H2_ := (Option.bind_some _ _).symm.trans H; rw [hy413]; with_reducible exact H2_) | (have H2_ := (Option.bind_some _ _).symm.trans H; with_reducible exact H2_) | with_reducible exact H | (rw [hy413]; exact H) | exact H
   have Ny413 := Aside0.mk hy413
   clear hy413
   simp only [Option.some.injEq, Prod.mk.injEq] at H
   obtain ⟨rfl, rfl⟩ := H
   go_enter Try.func77, Try.ntmps77
   go_wp2_with (first | ((with_reducible refine gate_dst (N := 18) rfl ?_); refine Kd.R_lit k78 _ 78 ?hg (N := 18) ?hd (xs := ([] : List (S78))) (inner := []) (ok := fun _ => True) (okp := fun _ => True) ?hr ?hp (fun _ hk => hk) trivial (Below.refl _ _) (Nat.le_refl _) (by simp) ?_; (case hd => rfl); (case hg => rfl); (case hr => first | (go_simp; done) | (go_simp; rfl)); (case hp => exact (Reps.none _ _)); intro v414 w7 ho8 hb hg_ hnew_; clear hg_ hnew_; (first | rw [← Ny413.out] at ho8 | (simp only [Int.reduceToNat] at ho8; rw [← Ny413.out] at ho8)); have n0_ := Aside0.mk (Kd.R_lower ho8 (below_size bh)); have n1_ := Aside0.mk (below_step bh hb); clear HB; have HO415 := n0_; have HB := n1_; clear n0_ n1_ hb ho8))
   go_ret2
   exact ⟨_, by first | rfl | (simp [errW_none, errW_some] <;> rfl) | (simp [*, errW_none, errW_some] <;> rfl), by (with_reducible repeat (first | apply Kd.R_alloc | apply Kd.R_drewN | apply Kd.R_drew)); exact HO415.out, by exact bh⟩
  ·rw [if_neg c6] at H
   have c6b0 : (a1 == 11) = false := beq_eq_false_iff_ne.mpr c6
   have c6b1 : (a1 != 11) = true := bne_iff_ne.mpr c6
   by_cases c9 : 0 ≤ a1
   ·rw [if_pos c9] at H
    have c9b0 : decide (0 ≤ a1) = true := decide_eq_true c9
    clear c9
    by_cases c10 : a1 < (l0.length : Int)
    ·rw [if_pos c10] at H
     have c10b0 : decide (a1 < (l0.length : Int)) = true := decide_eq_true c10
     clear c10
     replace H := Option.bind_eq_some_iff.mp H
     obtain ⟨⟨t417, t418⟩, A110, H⟩ := H
     replace H : ((spec_l5Term.f k l0 ((rd_T41 l0 a1).f2)).bind fun bt422 => ((some (([] : List (S78)) : List (S78))).bind fun y426 => (if y426.length + ((rd_T41 l0 a1).f0).length < 5864062014805 then ((some (y426 ++ ((rd_T41 l0 a1).f0) : List (S78))).bind fun y430 => (if t418 = 0 then (if y430.length + t417.length < 5864062014805 then ((some (y430 ++ t417 : List (S78))).bind fun y433 => (if y433.length < 5864062014805 then (spec_l5Term.j0 k bt422.1 bt422.2 (y433 ++ [(⟨1, 0, 0⟩ : S78)]) 0) else (none))) else (none)) else (if t418 = 2 then (spec_l5Term.j0 k bt422.1 bt422.2 (([] : List (S78))) 2) else (spec_l5Term.j0 k bt422.1 bt422.2 y430 0)))) else (none)))) = some (r1, r2) := H
     have A11 := Aside0.mk A110
     clear A110
     replace H := Option.bind_eq_some_iff.mp H
     obtain ⟨⟨t422, t423⟩, A120, H⟩ := H
     replace H : ((some (([] : List (S78)) : List (S78))).bind fun y426 => (if y426.length + ((rd_T41 l0 a1).f0).length < 5864062014805 then ((some (y426 ++ ((rd_T41 l0 a1).f0) : List (S78))).bind fun y430 => (if t418 = 0 then (if y430.length + t417.length < 5864062014805 then ((some (y430 ++ t417 : List (S78))).bind fun y433 => (if y433.length < 5864062014805 then (spec_l5Term.j0 k t422 t423 (y433 ++ [(⟨1, 0, 0⟩ : S78)]) 0) else (none))) else (none)) else (if t418 = 2 then (spec_l5Term.j0 k t422 t423 (([] : List (S78))) 2) else (spec_l5Term.j0 k t422 t423 y430 0)))) else (none))) = some (r1, r2) := H
     have A12 := Aside0.mk A120
     clear A120
     obtain ⟨y426, hy426⟩ : ∃ y_ : List (S78), y_ = (([] : List (S78))) := ⟨_, rfl⟩
     replace H : (if y426.length + ((rd_T41 l0 a1).f0).length < 5864062014805 then ((some (y426 ++ ((rd_T41 l0 a1).f0) : List (S78))).bind fun y430 => (if t418 = 0 then (if y430.length + t417.length < 5864062014805 then ((some (y430 ++ t417 : List (S78))).bind fun y433 => (if y433.length < 5864062014805 then (spec_l5Term.j0 k t422 t423 (y433 ++ [(⟨1, 0, 0⟩ : S78)]) 0) else (none))) else (none)) else (if t418 = 2 then (spec_l5Term.j0 k t422 t423 (([] : List (S78))) 2) else (spec_l5Term.j0 k t422 t423 y430 0)))) else (none)) = some (r1, r2) := by first | (rw [hy426]; with_reducible exact H) | (have H2_ := (Option.bind_some _ _).symm.trans H; rw [hy426]; with_reducible exact H2_) | (have H2_ := (Option.bind_some _ _).symm.trans H; with_reducible exact H2_) | with_reducible exact H | (rw [hy426]; exact H) | exact H
     have Ny426 := Aside0.mk hy426
     clear hy426
     by_cases c13 : y426.length + ((rd_T41 l0 a1).f0).length < 5864062014805
     ·rw [if_pos c13] at H
      have LMc13 := Aside0.mk c13
      clear c13
      obtain ⟨y430, hy430⟩ : ∃ y_ : List (S78), y_ = (y426 ++ ((rd_T41 l0 a1).f0)) := ⟨_, rfl⟩
      replace H : (if t418 = 0 then (if y430.length + t417.length < 5864062014805 then ((some (y430 ++ t417 : List (S78))).bind fun y433 => (if y433.length < 5864062014805 then (spec_l5Term.j0 k t422 t423 (y433 ++ [(⟨1, 0, 0⟩ : S78)]) 0) else (none))) else (none)) else (if t418 = 2 then (spec_l5Term.j0 k t422 t423 (([] : List (S78))) 2) else (spec_l5Term.j0 k t422 t423 y430 0))) = some (r1, r2) := by first | (rw [hy430]; with_reducible exact H) | (have H2_ := (Option.bind_some _ _).symm.trans H; rw [hy430]; with_reducible exact H2_) | (have H2_ := (Option.bind_some _ _).symm.trans H; with_reducible exact H2_) | with_reducible exact H | (rw [hy430]; exact H) | exact H
      have Ny430 := Aside0.mk hy430
      clear hy430
      have HC14 := Aside0.mk H
      clear H
      have p416 : 0 ≤ (a1 : Int) := oda
      have q416 : a1 < (l0.length : Int) := oda
      obtain ⟨ad416, A416_0, c416_0, e416, hx416_0, hx416_1, hx416_2, hl416_0, hi416_0⟩ := at_T41 HR0.out a1 p416 q416
      cases e416
      have HR416_0 := Aside0.mk hi416_0
      have HC416_0 := Aside0.mk hl416_0
      clear hi416_0 hl416_0
      replace p416 := eq_true p416
      replace q416 := eq_true q416
      go_enter Try.func77, Try.ntmps77
      go_upto_block 1 with (first | ((with_reducible refine gate_callee (f := 77) rfl ?_); refine goesL_ (some 26) rfl rfl Try.func77 kr rfl #[.slice (some ad416) l0.length c0, .int .i64 ((rd_T41 l0 a1).f1)] rfl lm ?_; (with_reducible refine (ih k (by omega) _ _ l0 ((rd_T41 l0 a1).f1) t417 t418 _ ?side1 ?side2 A11.out).mono ?_); (case side1 => repeat (first | exact HR0.out | (with_reducible refine Kd.C_alloc ?_ _) | (with_reducible refine Kd.C_drewN ?_ _) | (with_reducible refine Kd.C_drew ?_))); (case side2 => exact HC0.out); rintro e w15 ⟨v419, rfl, ho0, hb⟩; refine ⟨_, rfl, ?_⟩; have n0_ := Aside0.mk (Kd.R_lower ho0 (below_size bh)); have n1_ := Aside0.mk (below_step bh hb); clear HB; have HO420 := n0_; have HB := n1_; clear n0_ n1_; (try clear hb); (try clear hb2); (try clear hk); (try clear hi); (try clear ho0); have p421 : 0 ≤ (a1 : Int) := oda; have q421 : a1 < (l0.length : Int) := oda; obtain ⟨ad421, A421_0, c421_0, e421, hx421_0, hx421_1, hx421_2, hl421_0, hi421_0⟩ := at_T41 HR0.out a1 p421 q421; obtain rfl : ad416 = ad421 := (by injection e421); replace hx421_0 := (HB.out.cell (World.block_lt_of_cell? w _ hx421_0)).trans hx421_0; replace hx421_1 := (HB.out.cell (World.block_lt_of_cell? w _ hx421_1)).trans hx421_1; replace hx421_2 := (HB.out.cell (World.block_lt_of_cell? w _ hx421_2)).trans hx421_2; have HR421_0 := Aside0.mk hi421_0; have HC421_0 := Aside0.mk hl421_0; clear hi421_0 hl421_0; replace p421 := eq_true p421; replace q421 := eq_true q421) | ((with_reducible refine gate_callee (f := 77) rfl ?_); refine goesL_ (some 36) rfl rfl Try.func77 kr rfl #[.slice (some ad416) l0.length c0, .int .i64 ((rd_T41 l0 a1).f2)] rfl lm ?_; (with_reducible refine (ih k (by omega) _ _ l0 ((rd_T41 l0 a1).f2) t422 t423 _ ?side1 ?side2 A12.out).mono ?_); (case side1 => repeat (first | exact (Kd.C_below HR0.out HB.out) | (with_reducible refine Kd.C_alloc ?_ _) | (with_reducible refine Kd.C_drewN ?_ _) | (with_reducible refine Kd.C_drew ?_))); (case side2 => exact HC0.out); rintro e w16 ⟨v424, rfl, ho0, hb⟩; refine ⟨_, rfl, ?_⟩; have n0_ := Aside0.mk (Kd.R_elder' (rz HO420) (Kd.R_base ho0) hb); have n1_ := Aside0.mk (Kd.R_lower (Kd.R_new' ho0 (Kd.R_lt (rz HO420))) (below_size bh)); have n2_ := Aside0.mk (below_step bh hb); clear HO420 HB; have HO420 := n0_; have HO425 := n1_; have HB := n2_; clear n0_ n1_ n2_; (try clear hb); (try clear hb2); (try clear hk); (try clear hi); (try clear ho0)) | ((with_reducible refine gate_dst (N := 39) rfl ?_); refine Kd.R_lit k78 _ 78 ?hg (N := 39) ?hd (xs := ([] : List (S78))) (inner := []) (ok := fun _ => True) (okp := fun _ => True) ?hr ?hp (fun _ hk => hk) trivial (Below.refl _ _) (Nat.le_refl _) (by simp) ?_; (case hd => rfl); (case hg => rfl); (case hr => first | (go_simp; done) | (go_simp; rfl)); (case hp => exact (Reps.none _ _)); intro v427 w17 ho18 hb hg_ hnew_; clear hg_ hnew_; (first | rw [← Ny426.out] at ho18 | (simp only [Int.reduceToNat] at ho18; rw [← Ny426.out] at ho18)); have n0_ := Aside0.mk (Kd.R_elder' (rz HO420) (Kd.R_base ho18) hb); have n1_ := Aside0.mk (Kd.R_elder' (rz HO425) (Kd.R_base ho18) hb); have n2_ := Aside0.mk (Kd.R_lower (Kd.R_new' (Kd.R_new' ho18 (Kd.R_lt (rz HO420))) (Kd.R_lt (rz HO425))) (below_size bh)); have n3_ := Aside0.mk (below_step bh hb); clear HO420 HO425 HB; have HO420 := n0_; have HO425 := n1_; have HO428 := n2_; have HB := n3_; clear n0_ n1_ n2_ n3_ hb ho18; have p429 : 0 ≤ (a1 : Int) := oda; have q429 : a1 < (l0.length : Int) := oda; obtain ⟨ad429, A429_0, c429_0, e429, hx429_0, hx429_1, hx429_2, hl429_0, hi429_0⟩ := at_T41 HR0.out a1 p429 q429; obtain rfl : ad416 = ad429 := (by injection e429); replace hx429_0 := (HB.out.cell (World.block_lt_of_cell? w _ hx429_0)).trans hx429_0; replace hx429_1 := (HB.out.cell (World.block_lt_of_cell? w _ hx429_1)).trans hx429_1; replace hx429_2 := (HB.out.cell (World.block_lt_of_cell? w _ hx429_2)).trans hx429_2; have HR429_0 := Aside0.mk hi429_0; have HC429_0 := Aside0.mk hl429_0; clear hi429_0 hl429_0; replace p429 := eq_true p429; replace q429 := eq_true q429) | ((with_reducible refine gate_builtin (b := .append) (xs := #[.tmp 39, .tmp 44]) rfl ?_); at_builtin; refine Kd.R_append_rows k78 (w0 := w) w.heap.size rfl (.tmp 39) (.tmp 44) 33 78 (.agg #[(.int .i64 0), (.int .i64 0), (.int .i64 0)]) 24 rfl Try.underlying33 info78 rfl (by decide) (by omega) v427 y426 ((rd_T41 l0 a1).f0) _ _ _ (fun k_ => some k_ ≠ (v419 : Value).ownBlock ∧ some k_ ≠ (v424 : Value).ownBlock) (fun _ => False) rfl rfl ?aO ?aR (fun _ _ h => h) (fun _ h => h.elim) ?aF ?aB ?aS ?aL ?_; (case aR => repeat (first | exact (Kd.C_below HR429_0.out HB.out) | (with_reducible refine Kd.C_alloc ?_ _) | (with_reducible refine Kd.C_drewN ?_ _) | (with_reducible refine Kd.C_drew ?_))); (case aB => exact bh); (case aF => exact (fun k_ hk => ⟨Kd.fresh' (Kd.R_lt (rz HO420)) k_ hk, Kd.fresh' (Kd.R_lt (rz HO425)) k_ hk⟩)); (case aO => exact (mR HO428)); (case aS => exact (below_size bh)); (case aL => have := LMc13.out; omega); intro v431 w19 ho hb hg hat; rw [← Ny430.out] at ho; have n0_ := Aside0.mk (Kd.R_after (ok := (fun k_ => some k_ ≠ (v424 : Value).ownBlock)) (mR HO420) hg hat); have n1_ := Aside0.mk (Kd.R_after (ok := (fun k_ => some k_ ≠ (v419 : Value).ownBlock)) (mR HO425) hg hat); have n2_ := Aside0.mk (hb); have n3_ := Aside0.mk (ho); clear HO420 HO425 HB HO428; have HO420 := n0_; have HO425 := n1_; have HB := n2_; have HO432 := n3_; clear n0_ n1_ n2_ n3_ ho hb hg hat))
      (try simp only [Act.put, List.setIfInBounds_toArray, List.set_cons_zero, List.set_cons_succ])
      go_cut [10, 11] (fun v10 v11 wc => ∃ (kq : Nat) (x10_13 : List (S78)) (x11_13 : Int), v11 = .int .i64 x11_13 ∧ Aside0 (spec_l5Term.j0 kq t422 t423 x10_13 x11_13 = some (r1, r2)) ∧ Aside0 (kq ≤ k) ∧ Aside0 (Kd.R k78 78 wc w.heap.size (fun k_ => some k_ ≠ (v10 : Value).ownBlock) v424 t422) ∧ Aside0 (Kd.R k78 78 wc w.heap.size (fun k_ => some k_ ≠ (v424 : Value).ownBlock) v10 x10_13) ∧ Aside0 (Below w.heap.size w wc))
      case first =>
       have H := HC14.out
       clear HC14
       by_cases c20 : t418 = 0
       ·rw [if_pos c20] at H
        have c20b0 : (t418 == 0) = true := beq_iff_eq.mpr c20
        have c20b1 : (t418 != 0) = false := bne_eq_false_iff_eq.mpr c20
        clear c20
        (first | rw [c20b0] | (simp only [i64_w, i32_w]; rw [c20b0]) | skip)
        by_cases c21 : y430.length + t417.length < 5864062014805
        ·rw [if_pos c21] at H
         have LMc21 := Aside0.mk c21
         clear c21
         obtain ⟨y433, hy433⟩ : ∃ y_ : List (S78), y_ = (y430 ++ t417) := ⟨_, rfl⟩
         replace H : (if y433.length < 5864062014805 then (spec_l5Term.j0 k t422 t423 (y433 ++ [(⟨1, 0, 0⟩ : S78)]) 0) else (none)) = some (r1, r2) := by first | (rw [hy433]; with_reducible exact H) | (have H2_ := (Option.bind_some _ _).symm.trans H; rw [hy433]; with_reducible exact H2_) | (have H2_ := (Option.bind_some _ _).symm.trans H; with_reducible exact H2_) | with_reducible exact H | (rw [hy433]; exact H) | exact H
         have Ny433 := Aside0.mk hy433
         clear hy433
         by_cases c22 : y433.length < 5864062014805
         ·rw [if_pos c22] at H
          have LMc22 := Aside0.mk c22
          clear c22
          obtain ⟨y436, hy436⟩ : ∃ y_ : List (S78), y_ = (y433 ++ [(⟨1, 0, 0⟩ : S78)]) := ⟨_, rfl⟩
          replace H : (spec_l5Term.j0 k t422 t423 y436 0) = some (r1, r2) := by first | (rw [hy436]; with_reducible exact H) | (have H2_ := (Option.bind_some _ _).symm.trans H; rw [hy436]; with_reducible exact H2_) | (have H2_ := (Option.bind_some _ _).symm.trans H; with_reducible exact H2_) | with_reducible exact H | (rw [hy436]; exact H) | exact H
          have Ny436 := Aside0.mk hy436
          clear hy436
          have H' := Aside0.mk H
          clear H
          obtain ⟨Ao24, co24, eo24⟩ := Kd.R_slice HO420.out
          subst eo24
          go_wp2_with (first | ((with_reducible refine gate_builtin (b := .append) (xs := #[.tmp 49, .tmp 50]) rfl ?_); at_builtin; refine Kd.R_append_rows k78 (w0 := w) w.heap.size rfl (.tmp 49) (.tmp 50) 33 78 (.agg #[(.int .i64 0), (.int .i64 0), (.int .i64 0)]) 24 rfl Try.underlying33 info78 rfl (by decide) (by omega) v431 y430 t417 _ _ _ (fun k_ => some k_ ≠ (.slice Ao24 t417.length co24 : Value).ownBlock ∧ some k_ ≠ (v424 : Value).ownBlock) (fun _ => False) rfl rfl ?aO ?aR (fun _ _ h => h) (fun _ h => h.elim) ?aF ?aB ?aS ?aL ?_; (case aR => repeat (first | exact (Kd.R_reads' HO420.out).2.2 | (with_reducible refine Kd.C_alloc ?_ _) | (with_reducible refine Kd.C_drewN ?_ _) | (with_reducible refine Kd.C_drew ?_))); (case aB => exact bh); (case aF => exact (fun k_ hk => ⟨Kd.fresh' (Kd.R_lt (rz HO420)) k_ hk, Kd.fresh' (Kd.R_lt (rz HO425)) k_ hk⟩)); (case aO => exact (rz HO432)); (case aS => exact (below_size bh)); (case aL => have := LMc21.out; omega); intro v434 w23 ho hb hg hat; rw [← Ny433.out] at ho; have n0_ := Aside0.mk (Kd.R_after (ok := (fun k_ => some k_ ≠ (v424 : Value).ownBlock)) (rz HO420) hg hat); have n1_ := Aside0.mk (Kd.R_after (ok := (fun k_ => some k_ ≠ (.slice Ao24 t417.length co24 : Value).ownBlock)) (rz HO425) hg hat); have n2_ := Aside0.mk (hb); have n3_ := Aside0.mk (ho); clear HO420 HO425 HB HO432; have HO420 := n0_; have HO425 := n1_; have HB := n2_; have HO435 := n3_; clear n0_ n1_ n2_ n3_ ho hb hg hat) | ((with_reducible refine gate_builtin (b := .append) (xs := #[.tmp 51, .tmp 53]) rfl ?_); at_builtin; refine Kd.R_append k78 (w0 := w) w.heap.size rfl (.tmp 51) (.tmp 53) 33 78 (.agg #[(.int .i64 0), (.int .i64 0), (.int .i64 0)]) 24 rfl Try.underlying33 info78 rfl (by decide) (by omega) v434 y433 (⟨1, 0, 0⟩ : S78) [.int .i64 1, .int .i64 0, .int .i64 0] (fun k_ => some k_ ≠ (.slice Ao24 t417.length co24 : Value).ownBlock ∧ some k_ ≠ (v424 : Value).ownBlock) (fun _ => False) rfl rfl ?aP (fun _ hk => hk.elim) ?aF ?aO ?aB ?aS ?aL ?_; (case aP => exact k78_mkM _ _ _ (⟨1, 0, 0⟩ : S78)); (case aB => exact bh); (case aF => exact (fun k_ hk => ⟨Kd.fresh' (Kd.R_lt (rz HO420)) k_ hk, Kd.fresh' (Kd.R_lt (rz HO425)) k_ hk⟩)); (case aO => exact (rz HO435)); (case aS => exact (below_size bh)); (case aL => have := LMc22.out; omega); intro v437 w25 ho hb hg hat; rw [← Ny436.out] at ho; have n0_ := Aside0.mk (Kd.R_after (ok := (fun k_ => some k_ ≠ (v424 : Value).ownBlock)) (rz HO420) hg hat); have n1_ := Aside0.mk (Kd.R_after (ok := (fun k_ => some k_ ≠ (.slice Ao24 t417.length co24 : Value).ownBlock)) (rz HO425) hg hat); have n2_ := Aside0.mk (hb); have n3_ := Aside0.mk (ho); clear HO420 HO425 HB HO435; have HO420 := n0_; have HO425 := n1_; have HB := n2_; have HO438 := n3_; clear n0_ n1_ n2_ n3_ ho hb hg hat))
          go_meet
          case rel => exact ⟨_, (y436), (0), (by first | rfl | (simp; done) | (simp [*]; done)), H', ⟨by first | omega | exact Nat.le_refl _⟩, ⟨mR HO425⟩, ⟨mR HO438⟩, ⟨by exact bh⟩⟩
         ·rw [if_neg c22] at H
          exact absurd H (by simp)
        ·rw [if_neg c21] at H
         exact absurd H (by simp)
       ·rw [if_neg c20] at H
        have c20b0 : (t418 == 0) = false := beq_eq_false_iff_ne.mpr c20
        have c20b1 : (t418 != 0) = true := bne_iff_ne.mpr c20
        (first | rw [c20b0] | (simp only [i64_w, i32_w]; rw [c20b0]) | skip)
        by_cases c26 : t418 = 2
        ·rw [if_pos c26] at H
         have c26b0 : (t418 == 2) = true := beq_iff_eq.mpr c26
         have c26b1 : (t418 != 2) = false := bne_eq_false_iff_eq.mpr c26
         clear c26
         obtain ⟨y439, hy439⟩ : ∃ y_ : List (S78), y_ = (([] : List (S78))) := ⟨_, rfl⟩
         replace H : (spec_l5Term.j0 k t422 t423 y439 2) = some (r1, r2) := by first | (rw [hy439]; with_reducible exact H) | (have H2_ := (Option.bind_some _ _).symm.trans H; rw [hy439]; with_reducible exact H2_) | (have H2_ := (Option.bind_some _ _).symm.trans H; with_reducible exact H2_) | with_reducible exact H | (rw [hy439]; exact H) | exact H
         have Ny439 := Aside0.mk hy439
         clear hy439
         have H' := Aside0.mk H
         clear H
         go_wp2_with (first | ((with_reducible refine gate_dst (N := 57) rfl ?_); refine Kd.R_lit k78 _ 78 ?hg (N := 57) ?hd (xs := ([] : List (S78))) (inner := []) (ok := fun _ => True) (okp := fun _ => True) ?hr ?hp (fun _ hk => hk) trivial (Below.refl _ _) (Nat.le_refl _) (by simp) ?_; (case hd => rfl); (case hg => rfl); (case hr => first | (go_simp; done) | (go_simp; rfl)); (case hp => exact (Reps.none _ _)); intro v440 w27 ho28 hb hg_ hnew_; clear hg_ hnew_; (first | rw [← Ny439.out] at ho28 | (simp only [Int.reduceToNat] at ho28; rw [← Ny439.out] at ho28)); have n0_ := Aside0.mk (Kd.R_elder' (rz HO420) (Kd.R_base ho28) hb); have n1_ := Aside0.mk (Kd.R_elder' (rz HO425) (Kd.R_base ho28) hb); have n2_ := Aside0.mk (Kd.R_elder' (rz HO432) (Kd.R_base ho28) hb); have n3_ := Aside0.mk (Kd.R_lower (Kd.R_new' (Kd.R_new' (Kd.R_new' ho28 (Kd.R_lt (rz HO420))) (Kd.R_lt (rz HO425))) (Kd.R_lt (rz HO432))) (below_size bh)); have n4_ := Aside0.mk (below_step bh hb); clear HO420 HO425 HO432 HB; have HO420 := n0_; have HO425 := n1_; have HO432 := n2_; have HO441 := n3_; have HB := n4_; clear n0_ n1_ n2_ n3_ n4_ hb ho28))
         go_meet
         case rel => exact ⟨_, (y439), (2), (by first | rfl | (simp; done) | (simp [*]; done)), H', ⟨by first | omega | exact Nat.le_refl _⟩, ⟨mR HO425⟩, ⟨mR HO441⟩, ⟨by exact bh⟩⟩
        ·rw [if_neg c26] at H
         have c26b0 : (t418 == 2) = false := beq_eq_false_iff_ne.mpr c26
         have c26b1 : (t418 != 2) = true := bne_iff_ne.mpr c26
         have H' := Aside0.mk H
         clear H
         go_wp2
         go_meet
         case rel => exact ⟨_, (y430), (0), (by first | rfl | (simp; done) | (simp [*]; done)), H', ⟨by first | omega | exact Nat.le_refl _⟩, ⟨mR HO425⟩, ⟨mR HO432⟩, ⟨by exact bh⟩⟩
      case rest =>
       clear HC14
       try clear c1
       try clear c2
       try clear p2
       try clear c3
       try clear c3b0
       try clear c3b1
       try clear c4
       try clear p4
       try clear q4
       try clear hx4
       try clear c6
       try clear c6b0
       try clear c6b1
       try clear c7
       try clear c9
       try clear c9b0
       try clear c10
       try clear c10b0
       try clear c13
       try clear c20
       try clear c20b0
       try clear c20b1
       try clear c21
       try clear c22
       try clear c26
       try clear c26b0
       try clear c26b1
       try clear hx416_0
       try clear hx416_1
       try clear hx416_2
       try clear hx421_0
       try clear hx421_1
       try clear hx421_2
       try clear hx429_0
       try clear hx429_1
       try clear hx429_2
       try clear p416
       try clear p421
       try clear p429
       try clear q416
       try clear q421
       try clear q429
       obtain ⟨kq, x10_13, x11_13, rfl, HA, HJ13, HO_8, HO_10, HB⟩ := hcut
       cases kq with
       | zero => exact absurd HA.out (by simp [spec_l5Term.j0])
       | succ kj13 =>
        have H := HA.out
        clear HA
        simp only [spec_l5Term.j0] at H
        by_cases c29 : t423 = 1
        ·rw [if_pos c29] at H
         have c29b0 : (t423 == 1) = true := beq_iff_eq.mpr c29
         have c29b1 : (t423 != 1) = false := bne_eq_false_iff_eq.mpr c29
         clear c29
         obtain ⟨y442, hy442⟩ : ∃ y_ : List (S78), y_ = (([] : List (S78))) := ⟨_, rfl⟩
         replace H : (some (y442, 1)) = some (r1, r2) := by first | (rw [hy442]; with_reducible exact H) | (have H2_ := (Option.bind_some _ _).symm.trans H; rw [hy442]; with_reducible exact H2_) | (have H2_ := (Option.bind_some _ _).symm.trans H; with_reducible exact H2_) | with_reducible exact H | (rw [hy442]; exact H) | exact H
         have Ny442 := Aside0.mk hy442
         clear hy442
         simp only [Option.some.injEq, Prod.mk.injEq] at H
         obtain ⟨rfl, rfl⟩ := H
         go_wp2_with (first | ((with_reducible refine gate_dst (N := 61) rfl ?_); refine Kd.R_lit k78 _ 78 ?hg (N := 61) ?hd (xs := ([] : List (S78))) (inner := []) (ok := fun _ => True) (okp := fun _ => True) ?hr ?hp (fun _ hk => hk) trivial (Below.refl _ _) (Nat.le_refl _) (by simp) ?_; (case hd => rfl); (case hg => rfl); (case hr => first | (go_simp; done) | (go_simp; rfl)); (case hp => exact (Reps.none _ _)); intro v443 w30 ho31 hb hg_ hnew_; clear hg_ hnew_; (first | rw [← Ny442.out] at ho31 | (simp only [Int.reduceToNat] at ho31; rw [← Ny442.out] at ho31)); have n0_ := Aside0.mk (Kd.R_elder' (rz HO_8) (Kd.R_base ho31) hb); have n1_ := Aside0.mk (Kd.R_elder' (rz HO_10) (Kd.R_base ho31) hb); have n2_ := Aside0.mk (Kd.R_lower (Kd.R_new' (Kd.R_new' ho31 (Kd.R_lt (rz HO_8))) (Kd.R_lt (rz HO_10))) (below_size bh)); have n3_ := Aside0.mk (below_step bh hb); clear HO_8 HO_10 HB; have HO_8 := n0_; have HO_10 := n1_; have HO444 := n2_; have HB := n3_; clear n0_ n1_ n2_ n3_ hb ho31))
         go_ret2
         exact ⟨_, by first | rfl | (simp [errW_none, errW_some] <;> rfl) | (simp [*, errW_none, errW_some] <;> rfl), by (with_reducible repeat (first | apply Kd.R_alloc | apply Kd.R_drewN | apply Kd.R_drew)); exact Kd.R_mono HO444.out (fun _ hk => trivial), by exact bh⟩
        ·rw [if_neg c29] at H
         have c29b0 : (t423 == 1) = false := beq_eq_false_iff_ne.mpr c29
         have c29b1 : (t423 != 1) = true := bne_iff_ne.mpr c29
         by_cases c32 : t423 = 2
         ·rw [if_pos c32] at H
          have c32b0 : (t423 == 2) = true := beq_iff_eq.mpr c32
          have c32b1 : (t423 != 2) = false := bne_eq_false_iff_eq.mpr c32
          clear c32
          simp only [Option.some.injEq, Prod.mk.injEq] at H
          obtain ⟨rfl, rfl⟩ := H
          go_wp2
          go_ret2
          exact ⟨_, by first | rfl | (simp [errW_none, errW_some] <;> rfl) | (simp [*, errW_none, errW_some] <;> rfl), by (with_reducible repeat (first | apply Kd.R_alloc | apply Kd.R_drewN | apply Kd.R_drew)); exact Kd.R_mono HO_10.out (fun _ hk => trivial), by exact bh⟩
         ·rw [if_neg c32] at H
          have c32b0 : (t423 == 2) = false := beq_eq_false_iff_ne.mpr c32
          have c32b1 : (t423 != 2) = true := bne_iff_ne.mpr c32
          by_cases c33 : x11_13 = 2
          ·rw [if_pos c33] at H
           have c33b0 : (x11_13 == 2) = true := beq_iff_eq.mpr c33
           have c33b1 : (x11_13 != 2) = false := bne_eq_false_iff_eq.mpr c33
           clear c33
           simp only [Option.some.injEq, Prod.mk.injEq] at H
           obtain ⟨rfl, rfl⟩ := H
           go_wp2
           go_ret2
           exact ⟨_, by first | rfl | (simp [errW_none, errW_some] <;> rfl) | (simp [*, errW_none, errW_some] <;> rfl), by (with_reducible repeat (first | apply Kd.R_alloc | apply Kd.R_drewN | apply Kd.R_drew)); exact Kd.R_mono HO_8.out (fun _ hk => trivial), by exact bh⟩
          ·rw [if_neg c33] at H
           have c33b0 : (x11_13 == 2) = false := beq_eq_false_iff_ne.mpr c33
           have c33b1 : (x11_13 != 2) = true := bne_iff_ne.mpr c33
           by_cases c34 : x10_13.length + t422.length < 5864062014805
           ·rw [if_pos c34] at H
            have LMc34 := Aside0.mk c34
            clear c34
            obtain ⟨y445, hy445⟩ : ∃ y_ : List (S78), y_ = (x10_13 ++ t422) := ⟨_, rfl⟩
            replace H : (if y445.length < 5864062014805 then (some ((y445 ++ [(⟨2, 0, 0⟩ : S78)]), 0)) else (none)) = some (r1, r2) := by first | (rw [hy445]; with_reducible exact H) | (have H2_ := (Option.bind_some _ _).symm.trans H; rw [hy445]; with_reducible exact H2_) | (have H2_ := (Option.bind_some _ _).symm.trans H; with_reducible exact H2_) | with_reducible exact H | (rw [hy445]; exact H) | exact H
            have Ny445 := Aside0.mk hy445
            clear hy445
            by_cases c35 : y445.length < 5864062014805
            ·rw [if_pos c35] at H
             have LMc35 := Aside0.mk c35
             clear c35
             obtain ⟨y448, hy448⟩ : ∃ y_ : List (S78), y_ = (y445 ++ [(⟨2, 0, 0⟩ : S78)]) := ⟨_, rfl⟩
             replace H : (some (y448, 0)) = some (r1, r2) := by first | (rw [hy448]; with_reducible exact H) | (have H2_ := (Option.bind_some _ _).symm.trans H; rw [hy448]; with_reducible exact H2_) | (have H2_ := (Option.bind_some _ _).symm.trans H; with_reducible exact H2_) | with_reducible exact H | (rw [hy448]; exact H) | exact H
             have Ny448 := Aside0.mk hy448
             clear hy448
             simp only [Option.some.injEq, Prod.mk.injEq] at H
             obtain ⟨rfl, rfl⟩ := H
             obtain ⟨Ao37, co37, eo37⟩ := Kd.R_slice HO_8.out
             subst eo37
             go_wp2_with (first | ((with_reducible refine gate_builtin (b := .append) (xs := #[.tmp 71, .tmp 72]) rfl ?_); at_builtin; refine Kd.R_append_rows k78 (w0 := w) w.heap.size rfl (.tmp 71) (.tmp 72) 33 78 (.agg #[(.int .i64 0), (.int .i64 0), (.int .i64 0)]) 24 rfl Try.underlying33 info78 rfl (by decide) (by omega) u10 x10_13 t422 _ _ _ (fun k_ => some k_ ≠ (.slice Ao37 t422.length co37 : Value).ownBlock) (fun _ => False) rfl rfl ?aO ?aR (fun _ _ h => h) (fun _ h => h.elim) ?aF ?aB ?aS ?aL ?_; (case aR => repeat (first | exact (Kd.R_reads' HO_8.out).2.2 | (with_reducible refine Kd.C_alloc ?_ _) | (with_reducible refine Kd.C_drewN ?_ _) | (with_reducible refine Kd.C_drew ?_))); (case aB => exact bh); (case aF => exact (fun k_ hk => Kd.fresh' (Kd.R_lt (rz HO_8)) k_ hk)); (case aO => exact (rz HO_10)); (case aS => exact (below_size bh)); (case aL => have := LMc34.out; omega); intro v446 w36 ho hb hg hat; rw [← Ny445.out] at ho; have n0_ := Aside0.mk (Kd.R_after (ok := (fun _ => True)) (mR HO_8) hg hat); have n1_ := Aside0.mk (hb); have n2_ := Aside0.mk (ho); clear HO_8 HB HO_10; have HO_8 := n0_; have HB := n1_; have HO447 := n2_; clear n0_ n1_ n2_ ho hb hg hat) | ((with_reducible refine gate_builtin (b := .append) (xs := #[.tmp 73, .tmp 75]) rfl ?_); at_builtin; refine Kd.R_append k78 (w0 := w) w.heap.size rfl (.tmp 73) (.tmp 75) 33 78 (.agg #[(.int .i64 0), (.int .i64 0), (.int .i64 0)]) 24 rfl Try.underlying33 info78 rfl (by decide) (by omega) v446 y445 (⟨2, 0, 0⟩ : S78) [.int .i64 2, .int .i64 0, .int .i64 0] (fun k_ => some k_ ≠ (.slice Ao37 t422.length co37 : Value).ownBlock) (fun _ => False) rfl rfl ?aP (fun _ hk => hk.elim) ?aF ?aO ?aB ?aS ?aL ?_; (case aP => exact k78_mkM _ _ _ (⟨2, 0, 0⟩ : S78)); (case aB => exact bh); (case aF => exact (fun k_ hk => Kd.fresh' (Kd.R_lt (rz HO_8)) k_ hk)); (case aO => exact (rz HO447)); (case aS => exact (below_size bh)); (case aL => have := LMc35.out; omega); intro v449 w38 ho hb hg hat; rw [← Ny448.out] at ho; have n0_ := Aside0.mk (Kd.R_after (ok := (fun _ => True)) (rz HO_8) hg hat); have n1_ := Aside0.mk (hb); have n2_ := Aside0.mk (ho); clear HO_8 HB HO447; have HO_8 := n0_; have HB := n1_; have HO450 := n2_; clear n0_ n1_ n2_ ho hb hg hat))
             go_ret2
             exact ⟨_, by first | rfl | (simp [errW_none, errW_some] <;> rfl) | (simp [*, errW_none, errW_some] <;> rfl), by (with_reducible repeat (first | apply Kd.R_alloc | apply Kd.R_drewN | apply Kd.R_drew)); exact Kd.R_mono HO450.out (fun _ hk => trivial), by exact bh⟩
            ·rw [if_neg c35] at H
             exact absurd H (by simp)
           ·rw [if_neg c34] at H
            exact absurd H (by simp)
     ·rw [if_neg c13] at H
      exact absurd H (by simp)
    ·rw [if_neg c10] at H
     exact absurd H (by simp)
   ·rw [if_neg c9] at H
    exact absurd H (by simp)

/-! ### spec_BillTerm: function 43 -/
def spec_BillTerm.f (k : Nat) (a0_0 : Int) (l0_1 : List Int) (l1 : List (S41)) : Option ((List (S78)) × Int) := (spec_SoundOk.f k a0_0 l0_1 l1).bind fun t452 => (if t452 = true then ((spec_l5Term.f k l1 0).bind fun bt453 => (if (bt453.1.length : Int) > 9 then (some ((([] : List (S78))), (-1))) else (some (bt453.1, bt453.2)))) else (some ((([] : List (S78))), (-1))))
theorem spec_BillTerm.mono : ∀ a0 a1 a2 k, LeO (spec_BillTerm.f k a0 a1 a2) (spec_BillTerm.f (k + 1) a0 a1 a2) := by
 intro a0 a1 a2 k
 unfold spec_BillTerm.f
 repeat' first
   | (with_reducible exact spec_SoundOk.mono _ _ _ _)
   | (with_reducible exact spec_l5Term.mono _ _ _)
   | (with_reducible exact LeO.refl _)
   | (with_reducible exact LeO.none _)
   | (with_reducible refine LeO.ite ?_ ?_)
   | (with_reducible refine LeO.bind ?_ (fun _ => ?_))
   | exact spec_SoundOk.mono _ _ _ _
   | exact spec_l5Term.mono _ _ _
   | exact LeO.none _
   | refine LeO.ite ?_ ?_
   | refine LeO.bind ?_ (fun _ => ?_)
set_option maxHeartbeats 8000000 in
set_option maxRecDepth 100000 in
theorem spec_BillTerm.calls (k : Nat) (a0_0 : Int) (A0_1 : Option Addr) (c0_1 : Nat) (l0_1 : List Int) (A1 : Option Addr) (c1 : Nat) (l1 : List (S41)) (r1 : List (S78)) (r2 : Int) (w : World) (hr0_1 : Kd.C (Kd.int .i64) w A0_1 l0_1.length l0_1) (hc0_1 : l0_1.length ≤ c0_1) (hr1 : Kd.C k41 w A1 l1.length l1) (hc1 : l1.length ≤ c1) (h : spec_BillTerm.f k a0_0 l0_1 l1 = some (r1, r2)) :
  Calls Try.prog 43 #[.agg #[.int .i64 a0_0, .slice A0_1 l0_1.length c0_1], .slice A1 l1.length c1] w fun e w' => ∃ v0_ : Value, e = .returned (.tuple #[v0_, .int .i64 r2]) ∧ Kd.R k78 78 w' w.heap.size (fun _ => True) v0_ r1 ∧ Below w.heap.size w w' := by
 have hu25 := Try.underlying25
 have HR0_1 := Aside0.mk hr0_1
 have HC0_1 := Aside0.mk hc0_1
 clear hr0_1 hc0_1
 have HR1 := Aside0.mk hr1
 have HC1 := Aside0.mk hc1
 clear hr1 hc1
 have HB := Aside0.mk (Below.refl w.heap.size w)
 have H : ((spec_SoundOk.f k a0_0 l0_1 l1).bind fun t452 => (if t452 = true then ((spec_l5Term.f k l1 0).bind fun bt453 => (if (bt453.1.length : Int) > 9 then (some ((([] : List (S78))), (-1))) else (some (bt453.1, bt453.2)))) else (some ((([] : List (S78))), (-1))))) = some (r1, r2) := h
 clear h
 replace H := Option.bind_eq_some_iff.mp H
 obtain ⟨t452, A30, H⟩ := H
 replace H : (if t452 = true then ((spec_l5Term.f k l1 0).bind fun bt453 => (if (bt453.1.length : Int) > 9 then (some ((([] : List (S78))), (-1))) else (some (bt453.1, bt453.2)))) else (some ((([] : List (S78))), (-1)))) = some (r1, r2) := H
 have A3 := Aside0.mk A30
 clear A30
 by_cases c4 : t452 = true
 ·subst c4
  have H1 : ((spec_l5Term.f k l1 0).bind fun bt453 => (if (bt453.1.length : Int) > 9 then (some ((([] : List (S78))), (-1))) else (some (bt453.1, bt453.2)))) = some (r1, r2) := by rw [if_pos rfl] at H; exact H
  clear H
  have H := H1
  clear H1
  replace H := Option.bind_eq_some_iff.mp H
  obtain ⟨⟨t453, t454⟩, A50, H⟩ := H
  replace H : (if (t453.length : Int) > 9 then (some ((([] : List (S78))), (-1))) else (some (t453, t454))) = some (r1, r2) := H
  have A5 := Aside0.mk A50
  clear A50
  by_cases c6 : (t453.length : Int) > 9
  ·rw [if_pos c6] at H
   have c6b0 : decide (9 < (t453.length : Int)) = true := decide_eq_true c6
   have c6b1 : decide (9 < t453.length) = true := decide_eq_true (by omega)
   clear c6
   obtain ⟨y457, hy457⟩ : ∃ y_ : List (S78), y_ = (([] : List (S78))) := ⟨_, rfl⟩
   replace H : (some (y457, (-1))) = some (r1, r2) := by first | (rw [hy457]; with_reducible exact H) | (have H2_ := (Option.bind_some _ _).symm.trans H; rw [hy457]; with_reducible exact H2_) | (have H2_ := (Option.bind_some _ _).symm.trans H; with_reducible exact H2_) | with_reducible exact H | (rw [hy457]; exact H) | exact H
   have Ny457 := Aside0.mk hy457
   clear hy457
   simp only [Option.some.injEq, Prod.mk.injEq] at H
   obtain ⟨rfl, rfl⟩ := H
   go_enter Try.func43, Try.ntmps43
   go_wp2_with (first | ((with_reducible refine gate_dst (N := 2) rfl ?_); refine box_event ?hg (N := 2) ?hd (cs := #[.int .i64 a0_0, .slice A0_1 l0_1.length c0_1]) (t := 25) ?hr ?_; (case hd => rfl); (case hg => rfl); (case hr => first | (go_simp; done) | (go_simp; rfl)); intro gb451 hg w7 hbox hb; have n0_ := Aside0.mk (below_step bh hb); have n1_ := Aside0.mk (hbox); have n2_ := Aside0.mk ((gs (W0 := w) hg bh)); have n3_ := Aside0.mk ((gs (W0 := w) hg bh)); clear HB; have HB := n0_; have BK451 := n1_; have GW451 := n2_; have GE451 := n3_; clear n0_ n1_ n2_ n3_ hb hbox hg; have hcz8_0 := cz0 BK451; have hcz8_1 := cz1 BK451; have hfz8_0 := blk_frozen BK451.out 0; have hfz8_1 := blk_frozen BK451.out 1) | ((with_reducible refine gate_callee (f := 33) rfl ?_); refine goesL_ (some 10) rfl rfl Try.func33 kr rfl #[.agg #[.int .i64 a0_0, .slice A0_1 l0_1.length c0_1], .slice A1 l1.length c1] rfl lm ?_; (with_reducible refine (spec_SoundOk.calls k a0_0 _ _ l0_1 _ _ l1 true _ ?side1 ?side2 ?side3 ?side4 A3.out).mono ?_); (case side1 => repeat (first | exact (Kd.C_below HR0_1.out HB.out) | (with_reducible refine Kd.C_alloc ?_ _) | (with_reducible refine Kd.C_drewN ?_ _) | (with_reducible refine Kd.C_drew ?_))); (case side2 => exact HC0_1.out); (case side3 => repeat (first | exact (Kd.C_below HR1.out HB.out) | (with_reducible refine Kd.C_alloc ?_ _) | (with_reducible refine Kd.C_drewN ?_ _) | (with_reducible refine Kd.C_drew ?_))); (case side4 => exact HC1.out); rintro e w9 ⟨rfl, hb⟩; refine ⟨_, rfl, ?_⟩; have n0_ := Aside0.mk (blk_below (bz BK451) hb); have n1_ := Aside0.mk (below_step bh hb); clear BK451 HB; have BK451 := n0_; have HB := n1_; clear n0_ n1_; (try clear hb); (try clear hb2); (try clear hk); (try clear hi)) | ((with_reducible refine gate_callee (f := 77) rfl ?_); refine goesL_ (some 15) rfl rfl Try.func77 kr rfl #[.slice A1 l1.length c1, .int .i64 0] rfl lm ?_; (with_reducible refine (spec_l5Term.calls k _ _ l1 0 t453 t454 _ ?side1 ?side2 A5.out).mono ?_); (case side1 => repeat (first | exact (Kd.C_below HR1.out HB.out) | (with_reducible refine Kd.C_alloc ?_ _) | (with_reducible refine Kd.C_drewN ?_ _) | (with_reducible refine Kd.C_drew ?_))); (case side2 => exact HC1.out); rintro e w10 ⟨v455, rfl, ho0, hb⟩; refine ⟨_, rfl, ?_⟩; have n0_ := Aside0.mk (Kd.R_lower ho0 (below_size bh)); have n1_ := Aside0.mk (blk_below (bz BK451) hb); have n2_ := Aside0.mk (below_step bh hb); clear BK451 HB; have HO456 := n0_; have BK451 := n1_; have HB := n2_; clear n0_ n1_ n2_; (try clear hb); (try clear hb2); (try clear hk); (try clear hi); (try clear ho0); obtain ⟨Ao11, co11, eo11⟩ := Kd.R_slice HO456.out; subst eo11) | ((with_reducible refine gate_dst (N := 21) rfl ?_); refine Kd.R_lit k78 _ 78 ?hg (N := 21) ?hd (xs := ([] : List (S78))) (inner := []) (ok := fun _ => True) (okp := fun _ => True) ?hr ?hp (fun _ hk => hk) trivial (Below.refl _ _) (Nat.le_refl _) (by simp) ?_; (case hd => rfl); (case hg => rfl); (case hr => first | (go_simp; done) | (go_simp; rfl)); (case hp => exact (Reps.none _ _)); intro v458 w12 ho13 hb hg_ hnew_; clear hg_ hnew_; (first | rw [← Ny457.out] at ho13 | (simp only [Int.reduceToNat] at ho13; rw [← Ny457.out] at ho13)); have n0_ := Aside0.mk (Kd.R_elder' (rz HO456) (Kd.R_base ho13) hb); have n1_ := Aside0.mk (Kd.R_lower (Kd.R_new' ho13 (Kd.R_lt (rz HO456))) (below_size bh)); have n2_ := Aside0.mk (blk_below (bz BK451) hb); have n3_ := Aside0.mk (below_step bh hb); clear HO456 BK451 HB; have HO456 := n0_; have HO459 := n1_; have BK451 := n2_; have HB := n3_; clear n0_ n1_ n2_ n3_ hb ho13))
   go_ret2
   exact ⟨_, by first | rfl | (simp [errW_none, errW_some] <;> rfl) | (simp [*, errW_none, errW_some] <;> rfl), by (with_reducible repeat (first | apply Kd.R_alloc | apply Kd.R_drewN | apply Kd.R_drew)); exact Kd.R_mono HO459.out (fun _ hk => trivial), by exact bh⟩
  ·rw [if_neg c6] at H
   have c6b0 : decide (9 < (t453.length : Int)) = false := decide_eq_false c6
   have c6b1 : decide (9 < t453.length) = false := decide_eq_false (by omega)
   clear c6
   simp only [Option.some.injEq, Prod.mk.injEq] at H
   obtain ⟨rfl, rfl⟩ := H
   go_enter Try.func43, Try.ntmps43
   go_wp2_with (first | ((with_reducible refine gate_dst (N := 2) rfl ?_); refine box_event ?hg (N := 2) ?hd (cs := #[.int .i64 a0_0, .slice A0_1 l0_1.length c0_1]) (t := 25) ?hr ?_; (case hd => rfl); (case hg => rfl); (case hr => first | (go_simp; done) | (go_simp; rfl)); intro gb451 hg w14 hbox hb; have n0_ := Aside0.mk (below_step bh hb); have n1_ := Aside0.mk (hbox); have n2_ := Aside0.mk ((gs (W0 := w) hg bh)); have n3_ := Aside0.mk ((gs (W0 := w) hg bh)); clear HB; have HB := n0_; have BK451 := n1_; have GW451 := n2_; have GE451 := n3_; clear n0_ n1_ n2_ n3_ hb hbox hg; have hcz15_0 := cz0 BK451; have hcz15_1 := cz1 BK451; have hfz15_0 := blk_frozen BK451.out 0; have hfz15_1 := blk_frozen BK451.out 1) | ((with_reducible refine gate_callee (f := 33) rfl ?_); refine goesL_ (some 10) rfl rfl Try.func33 kr rfl #[.agg #[.int .i64 a0_0, .slice A0_1 l0_1.length c0_1], .slice A1 l1.length c1] rfl lm ?_; (with_reducible refine (spec_SoundOk.calls k a0_0 _ _ l0_1 _ _ l1 true _ ?side1 ?side2 ?side3 ?side4 A3.out).mono ?_); (case side1 => repeat (first | exact (Kd.C_below HR0_1.out HB.out) | (with_reducible refine Kd.C_alloc ?_ _) | (with_reducible refine Kd.C_drewN ?_ _) | (with_reducible refine Kd.C_drew ?_))); (case side2 => exact HC0_1.out); (case side3 => repeat (first | exact (Kd.C_below HR1.out HB.out) | (with_reducible refine Kd.C_alloc ?_ _) | (with_reducible refine Kd.C_drewN ?_ _) | (with_reducible refine Kd.C_drew ?_))); (case side4 => exact HC1.out); rintro e w16 ⟨rfl, hb⟩; refine ⟨_, rfl, ?_⟩; have n0_ := Aside0.mk (blk_below (bz BK451) hb); have n1_ := Aside0.mk (below_step bh hb); clear BK451 HB; have BK451 := n0_; have HB := n1_; clear n0_ n1_; (try clear hb); (try clear hb2); (try clear hk); (try clear hi)) | ((with_reducible refine gate_callee (f := 77) rfl ?_); refine goesL_ (some 15) rfl rfl Try.func77 kr rfl #[.slice A1 l1.length c1, .int .i64 0] rfl lm ?_; (with_reducible refine (spec_l5Term.calls k _ _ l1 0 t453 t454 _ ?side1 ?side2 A5.out).mono ?_); (case side1 => repeat (first | exact (Kd.C_below HR1.out HB.out) | (with_reducible refine Kd.C_alloc ?_ _) | (with_reducible refine Kd.C_drewN ?_ _) | (with_reducible refine Kd.C_drew ?_))); (case side2 => exact HC1.out); rintro e w17 ⟨v455, rfl, ho0, hb⟩; refine ⟨_, rfl, ?_⟩; have n0_ := Aside0.mk (Kd.R_lower ho0 (below_size bh)); have n1_ := Aside0.mk (blk_below (bz BK451) hb); have n2_ := Aside0.mk (below_step bh hb); clear BK451 HB; have HO456 := n0_; have BK451 := n1_; have HB := n2_; clear n0_ n1_ n2_; (try clear hb); (try clear hb2); (try clear hk); (try clear hi); (try clear ho0); obtain ⟨Ao18, co18, eo18⟩ := Kd.R_slice HO456.out; subst eo18))
   go_ret2
   exact ⟨_, by first | rfl | (simp [errW_none, errW_some] <;> rfl) | (simp [*, errW_none, errW_some] <;> rfl), by (with_reducible repeat (first | apply Kd.R_alloc | apply Kd.R_drewN | apply Kd.R_drew)); exact HO456.out, by exact bh⟩
 ·replace c4 := Bool.eq_false_iff.mpr c4
  subst c4
  have H1 : (some ((([] : List (S78))), (-1))) = some (r1, r2) := by rw [if_neg (show ¬ (false = true) by decide)] at H; exact H
  clear H
  have H := H1
  clear H1
  obtain ⟨y460, hy460⟩ : ∃ y_ : List (S78), y_ = (([] : List (S78))) := ⟨_, rfl⟩
  replace H : (some (y460, (-1))) = some (r1, r2) := by first | (rw [hy460]; with_reducible exact H) | (have H2_ := (Option.bind_some _ _).symm.trans H; rw [hy460]; with_reducible exact H2_) | (have H2_ := (Option.bind_some _ _).symm.trans H; with_reducible exact H2_) | with_reducible exact H | (rw [hy460]; exact H) | exact H
  have Ny460 := Aside0.mk hy460
  clear hy460
  simp only [Option.some.injEq, Prod.mk.injEq] at H
  obtain ⟨rfl, rfl⟩ := H
  go_enter Try.func43, Try.ntmps43
  go_wp2_with (first | ((with_reducible refine gate_dst (N := 2) rfl ?_); refine box_event ?hg (N := 2) ?hd (cs := #[.int .i64 a0_0, .slice A0_1 l0_1.length c0_1]) (t := 25) ?hr ?_; (case hd => rfl); (case hg => rfl); (case hr => first | (go_simp; done) | (go_simp; rfl)); intro gb451 hg w19 hbox hb; have n0_ := Aside0.mk (below_step bh hb); have n1_ := Aside0.mk (hbox); have n2_ := Aside0.mk ((gs (W0 := w) hg bh)); have n3_ := Aside0.mk ((gs (W0 := w) hg bh)); clear HB; have HB := n0_; have BK451 := n1_; have GW451 := n2_; have GE451 := n3_; clear n0_ n1_ n2_ n3_ hb hbox hg; have hcz20_0 := cz0 BK451; have hcz20_1 := cz1 BK451; have hfz20_0 := blk_frozen BK451.out 0; have hfz20_1 := blk_frozen BK451.out 1) | ((with_reducible refine gate_callee (f := 33) rfl ?_); refine goesL_ (some 10) rfl rfl Try.func33 kr rfl #[.agg #[.int .i64 a0_0, .slice A0_1 l0_1.length c0_1], .slice A1 l1.length c1] rfl lm ?_; (with_reducible refine (spec_SoundOk.calls k a0_0 _ _ l0_1 _ _ l1 false _ ?side1 ?side2 ?side3 ?side4 A3.out).mono ?_); (case side1 => repeat (first | exact (Kd.C_below HR0_1.out HB.out) | (with_reducible refine Kd.C_alloc ?_ _) | (with_reducible refine Kd.C_drewN ?_ _) | (with_reducible refine Kd.C_drew ?_))); (case side2 => exact HC0_1.out); (case side3 => repeat (first | exact (Kd.C_below HR1.out HB.out) | (with_reducible refine Kd.C_alloc ?_ _) | (with_reducible refine Kd.C_drewN ?_ _) | (with_reducible refine Kd.C_drew ?_))); (case side4 => exact HC1.out); rintro e w21 ⟨rfl, hb⟩; refine ⟨_, rfl, ?_⟩; have n0_ := Aside0.mk (blk_below (bz BK451) hb); have n1_ := Aside0.mk (below_step bh hb); clear BK451 HB; have BK451 := n0_; have HB := n1_; clear n0_ n1_; (try clear hb); (try clear hb2); (try clear hk); (try clear hi)) | ((with_reducible refine gate_dst (N := 12) rfl ?_); refine Kd.R_lit k78 _ 78 ?hg (N := 12) ?hd (xs := ([] : List (S78))) (inner := []) (ok := fun _ => True) (okp := fun _ => True) ?hr ?hp (fun _ hk => hk) trivial (Below.refl _ _) (Nat.le_refl _) (by simp) ?_; (case hd => rfl); (case hg => rfl); (case hr => first | (go_simp; done) | (go_simp; rfl)); (case hp => exact (Reps.none _ _)); intro v461 w22 ho23 hb hg_ hnew_; clear hg_ hnew_; (first | rw [← Ny460.out] at ho23 | (simp only [Int.reduceToNat] at ho23; rw [← Ny460.out] at ho23)); have n0_ := Aside0.mk (Kd.R_lower ho23 (below_size bh)); have n1_ := Aside0.mk (blk_below (bz BK451) hb); have n2_ := Aside0.mk (below_step bh hb); clear BK451 HB; have HO462 := n0_; have BK451 := n1_; have HB := n2_; clear n0_ n1_ n2_ hb ho23))
  go_ret2
  exact ⟨_, by first | rfl | (simp [errW_none, errW_some] <;> rfl) | (simp [*, errW_none, errW_some] <;> rfl), by (with_reducible repeat (first | apply Kd.R_alloc | apply Kd.R_drewN | apply Kd.R_drew)); exact HO462.out, by exact bh⟩

/-! ### laws_sameMarks: function 44 -/
def laws_sameMarks.l0 : Nat → List (S78) → List (S78) → Int → Option (Bool)
 | 0, _, _, _ => none
 | k + 1, x0, x1, x5 => if x5 < (x0.length : Int) then (if 0 ≤ x5 then (if x5 < (x1.length : Int) then (if (!(((rd_T78 x0 x5).f0) == ((rd_T78 x1 x5).f0)) || (!(((rd_T78 x0 x5).f1) == ((rd_T78 x1 x5).f1)) || (!(((rd_T78 x0 x5).f2) == ((rd_T78 x1 x5).f2))))) = true then (some false) else (laws_sameMarks.l0 k x0 x1 (wrap64 (x5 + 1)))) else (none)) else (none)) else (some true)
def laws_sameMarks.f (k : Nat) (l0 : List (S78)) (l1 : List (S78)) : Option (Bool) := if (l0.length : Int) = (l1.length : Int) then (laws_sameMarks.l0 k l0 l1 0) else (some false)
theorem laws_sameMarks.mono_l : ∀ k, (∀ y0 y1 y2, LeO (laws_sameMarks.l0 k y0 y1 y2) (laws_sameMarks.l0 (k + 1) y0 y1 y2))
 | 0 => fun _ _ _ r h => by simp [laws_sameMarks.l0] at h
 | k + 1 => by
  have ih0 := laws_sameMarks.mono_l k
  ·intro y0 y1 y2
   unfold laws_sameMarks.l0
   repeat' first
   | (with_reducible exact ih0 _ _ _)
   | (with_reducible exact LeO.refl _)
   | (with_reducible exact LeO.none _)
   | (with_reducible refine LeO.ite ?_ ?_)
   | (with_reducible refine LeO.bind ?_ (fun _ => ?_))
   | exact ih0 _ _ _
   | exact LeO.none _
   | refine LeO.ite ?_ ?_
   | refine LeO.bind ?_ (fun _ => ?_)
theorem laws_sameMarks.mono : ∀ a0 a1 k, LeO (laws_sameMarks.f k a0 a1) (laws_sameMarks.f (k + 1) a0 a1) := by
 intro a0 a1 k
 have ih0 := laws_sameMarks.mono_l k
 unfold laws_sameMarks.f
 repeat' first
   | (with_reducible exact ih0 _ _ _)
   | (with_reducible exact LeO.refl _)
   | (with_reducible exact LeO.none _)
   | (with_reducible refine LeO.ite ?_ ?_)
   | (with_reducible refine LeO.bind ?_ (fun _ => ?_))
   | exact ih0 _ _ _
   | exact LeO.none _
   | refine LeO.ite ?_ ?_
   | refine LeO.bind ?_ (fun _ => ?_)
set_option maxHeartbeats 8000000 in
set_option maxRecDepth 100000 in
theorem laws_sameMarks.calls (k : Nat) (A0 : Option Addr) (c0 : Nat) (l0 : List (S78)) (A1 : Option Addr) (c1 : Nat) (l1 : List (S78)) (r : Bool) (w : World) (hr0 : Kd.C k78 w A0 l0.length l0) (hc0 : l0.length ≤ c0) (hr1 : Kd.C k78 w A1 l1.length l1) (hc1 : l1.length ≤ c1) (h : laws_sameMarks.f k l0 l1 = some r) :
  Calls Try.prog 44 #[.slice A0 l0.length c0, .slice A1 l1.length c1] w fun e w' => e = .returned (.bool r) ∧ Drawn0 w w' := by
 have hu78 := Try.underlying78
 have HR0 := Aside0.mk hr0
 have HC0 := Aside0.mk hc0
 clear hr0 hc0
 have HR1 := Aside0.mk hr1
 have HC1 := Aside0.mk hc1
 clear hr1 hc1
 have H : (if (l0.length : Int) = (l1.length : Int) then (laws_sameMarks.l0 k l0 l1 0) else (some false)) = some r := h
 clear h
 by_cases c3 : (l0.length : Int) = (l1.length : Int)
 ·rw [if_pos c3] at H
  have c3b0 : ((l0.length : Int) == (l1.length : Int)) = true := beq_iff_eq.mpr c3
  have c3b1 : ((l0.length : Int) != (l1.length : Int)) = false := bne_eq_false_iff_eq.mpr c3
  have c3b2 : (l0.length == l1.length) = true := by first | simpa using c3 | (simp at c3 ⊢; omega)
  clear c3
  have H' := Aside0.mk H
  clear H
  go_enter Try.func44, Try.ntmps44
  go_wp2
  repeat (go_quiet (fail); try go_wp2)
  go_loopg [5] k (fun kq v5 w' => ∃ (x5_1 : Int), v5 = .int .i64 x5_1 ∧ Aside0 (laws_sameMarks.l0 kq l0 l1 x5_1 = some r) ∧ Aside0 (kq ≤ k) ∧ Drawn0 w w')
  case atStart => exact ⟨(0), (by first | rfl | (simp; done) | (simp [*]; done)), H', ⟨Nat.le_refl _⟩, by repeat (first | exact Drawn0.refl _ | apply Drawn0.step)⟩
  case round =>
   clear H'
   try clear c1
   try clear p2
   try clear c3
   try clear c3b0
   try clear c3b1
   try clear c3b2
   obtain ⟨x5_1, rfl, HA, HK1, ⟨m1, rfl⟩⟩ := hrel
   cases gk with
   | zero => exact absurd HA.out (by simp [laws_sameMarks.l0])
   | succ k1 =>
    have H := HA.out
    clear HA
    simp only [laws_sameMarks.l0] at H
    by_cases c4 : x5_1 < (l0.length : Int)
    ·rw [if_pos c4] at H
     have c4b0 : decide (x5_1 < (l0.length : Int)) = true := decide_eq_true c4
     clear c4
     by_cases c5 : 0 ≤ x5_1
     ·rw [if_pos c5] at H
      have c5b0 : decide (0 ≤ x5_1) = true := decide_eq_true c5
      clear c5
      by_cases c6 : x5_1 < (l1.length : Int)
      ·rw [if_pos c6] at H
       have c6b0 : decide (x5_1 < (l1.length : Int)) = true := decide_eq_true c6
       clear c6
       by_cases c7 : (!(((rd_T78 l0 x5_1).f0) == ((rd_T78 l1 x5_1).f0)) || (!(((rd_T78 l0 x5_1).f1) == ((rd_T78 l1 x5_1).f1)) || (!(((rd_T78 l0 x5_1).f2) == ((rd_T78 l1 x5_1).f2))))) = true
       ·rw [if_pos c7] at H
        have c7b0 : (!(((rd_T78 l0 x5_1).f0) == ((rd_T78 l1 x5_1).f0)) || (!(((rd_T78 l0 x5_1).f1) == ((rd_T78 l1 x5_1).f1)) || (!(((rd_T78 l0 x5_1).f2) == ((rd_T78 l1 x5_1).f2))))) = true := c7
        clear c7
        obtain rfl := Option.some.inj H
        have p463 : 0 ≤ (x5_1 : Int) := oda
        have q463 : x5_1 < (l0.length : Int) := oda
        obtain ⟨ad463, e463, hx463_0, hx463_1, hx463_2⟩ := at_T78 HR0.out x5_1 p463 q463
        cases e463
        replace p463 := eq_true p463
        replace q463 := eq_true q463
        have p464 : 0 ≤ (x5_1 : Int) := oda
        have q464 : x5_1 < (l1.length : Int) := oda
        obtain ⟨ad464, e464, hx464_0, hx464_1, hx464_2⟩ := at_T78 HR1.out x5_1 p464 q464
        cases e464
        replace p464 := eq_true p464
        replace q464 := eq_true q464
        go_wp2
        repeat (go_quiet (fail); try go_wp2)
        go_ret
        exact ⟨by first | rfl | (simp; done) | (simp [*]; done), by repeat (first | exact Drawn0.refl _ | apply Drawn0.step)⟩
       ·rw [if_neg c7] at H
        have c7b0 : (!(((rd_T78 l0 x5_1).f0) == ((rd_T78 l1 x5_1).f0)) || (!(((rd_T78 l0 x5_1).f1) == ((rd_T78 l1 x5_1).f1)) || (!(((rd_T78 l0 x5_1).f2) == ((rd_T78 l1 x5_1).f2))))) = false := by simpa using c7
        clear c7
        have H' := Aside0.mk H
        clear H
        have p463 : 0 ≤ (x5_1 : Int) := oda
        have q463 : x5_1 < (l0.length : Int) := oda
        obtain ⟨ad463, e463, hx463_0, hx463_1, hx463_2⟩ := at_T78 HR0.out x5_1 p463 q463
        cases e463
        replace p463 := eq_true p463
        replace q463 := eq_true q463
        have p464 : 0 ≤ (x5_1 : Int) := oda
        have q464 : x5_1 < (l1.length : Int) := oda
        obtain ⟨ad464, e464, hx464_0, hx464_1, hx464_2⟩ := at_T78 HR1.out x5_1 p464 q464
        cases e464
        replace p464 := eq_true p464
        replace q464 := eq_true q464
        go_wp2
        repeat (go_quiet (fail); try go_wp2)
        go_roundg k1
        case measure => have := HK1.out; omega
        case rel => exact ⟨(wrap64 (x5_1 + 1)), (by first | rfl | (simp; done) | (simp [*]; done)), H', ⟨by have := HK1.out; omega⟩, by repeat (first | exact Drawn0.refl _ | apply Drawn0.step)⟩
      ·rw [if_neg c6] at H
       exact absurd H (by simp)
     ·rw [if_neg c5] at H
      exact absurd H (by simp)
    ·rw [if_neg c4] at H
     have c4b0 : decide (x5_1 < (l0.length : Int)) = false := decide_eq_false c4
     clear c4
     obtain rfl := Option.some.inj H
     go_wp2
     repeat (go_quiet (fail); try go_wp2)
     go_ret
     exact ⟨by first | rfl | (simp; done) | (simp [*]; done), by repeat (first | exact Drawn0.refl _ | apply Drawn0.step)⟩
 ·rw [if_neg c3] at H
  have c3b0 : ((l0.length : Int) == (l1.length : Int)) = false := beq_eq_false_iff_ne.mpr c3
  have c3b1 : ((l0.length : Int) != (l1.length : Int)) = true := bne_iff_ne.mpr c3
  have c3b2 : (l0.length == l1.length) = false := by first | simpa using c3 | (simp at c3 ⊢; omega)
  obtain rfl := Option.some.inj H
  go_enter Try.func44, Try.ntmps44
  go_wp2
  repeat (go_quiet (fail); try go_wp2)
  go_ret
  exact ⟨by first | rfl | (simp; done) | (simp [*]; done), by repeat (first | exact Drawn0.refl _ | apply Drawn0.step)⟩

/-! ### impl_TermOk: function 45 -/
def impl_TermOk.f (k : Nat) (a0_0 : Int) (l0_1 : List Int) (l1 : List (S78)) : Option (Bool) := (impl_isTerm.f k a0_0 l0_1 l1).bind fun t466 => (some t466)
theorem impl_TermOk.mono : ∀ a0 a1 a2 k, LeO (impl_TermOk.f k a0 a1 a2) (impl_TermOk.f (k + 1) a0 a1 a2) := by
 intro a0 a1 a2 k
 unfold impl_TermOk.f
 repeat' first
   | (with_reducible exact impl_isTerm.mono _ _ _ _)
   | (with_reducible exact LeO.refl _)
   | (with_reducible exact LeO.none _)
   | (with_reducible refine LeO.ite ?_ ?_)
   | (with_reducible refine LeO.bind ?_ (fun _ => ?_))
   | exact impl_isTerm.mono _ _ _ _
   | exact LeO.none _
   | refine LeO.ite ?_ ?_
   | refine LeO.bind ?_ (fun _ => ?_)
set_option maxHeartbeats 8000000 in
set_option maxRecDepth 100000 in
theorem impl_TermOk.calls (k : Nat) (a0_0 : Int) (A0_1 : Option Addr) (c0_1 : Nat) (l0_1 : List Int) (A1 : Option Addr) (c1 : Nat) (l1 : List (S78)) (r : Bool) (w : World) (hr0_1 : Kd.C (Kd.int .i64) w A0_1 l0_1.length l0_1) (hc0_1 : l0_1.length ≤ c0_1) (hr1 : Kd.C k78 w A1 l1.length l1) (hc1 : l1.length ≤ c1) (h : impl_TermOk.f k a0_0 l0_1 l1 = some r) :
  Calls Try.prog 45 #[.agg #[.int .i64 a0_0, .slice A0_1 l0_1.length c0_1], .slice A1 l1.length c1] w fun e w' => e = .returned (.bool r) ∧ Below w.heap.size w w' := by
 have hu25 := Try.underlying25
 have HR0_1 := Aside0.mk hr0_1
 have HC0_1 := Aside0.mk hc0_1
 clear hr0_1 hc0_1
 have HR1 := Aside0.mk hr1
 have HC1 := Aside0.mk hc1
 clear hr1 hc1
 have HB := Aside0.mk (Below.refl w.heap.size w)
 have H : ((impl_isTerm.f k a0_0 l0_1 l1).bind fun t466 => (some t466)) = some r := h
 clear h
 replace H := Option.bind_eq_some_iff.mp H
 obtain ⟨t466, A30, H⟩ := H
 replace H : (some t466) = some r := H
 have A3 := Aside0.mk A30
 clear A30
 obtain rfl := Option.some.inj H
 go_enter Try.func45, Try.ntmps45
 go_wp2_with (first | ((with_reducible refine gate_dst (N := 2) rfl ?_); refine box_event ?hg (N := 2) ?hd (cs := #[.int .i64 a0_0, .slice A0_1 l0_1.length c0_1]) (t := 25) ?hr ?_; (case hd => rfl); (case hg => rfl); (case hr => first | (go_simp; done) | (go_simp; rfl)); intro gb465 hg w4 hbox hb; have n0_ := Aside0.mk (below_step bh hb); have n1_ := Aside0.mk (hbox); have n2_ := Aside0.mk ((gs (W0 := w) hg bh)); have n3_ := Aside0.mk ((gs (W0 := w) hg bh)); clear HB; have HB := n0_; have BK465 := n1_; have GW465 := n2_; have GE465 := n3_; clear n0_ n1_ n2_ n3_ hb hbox hg; have hcz5_0 := cz0 BK465; have hcz5_1 := cz1 BK465; have hfz5_0 := blk_frozen BK465.out 0; have hfz5_1 := blk_frozen BK465.out 1) | ((with_reducible refine gate_callee (f := 62) rfl ?_); refine goesL_ (some 7) rfl rfl Try.func62 kr rfl #[.agg #[.int .i64 a0_0, .slice A0_1 l0_1.length c0_1], .slice A1 l1.length c1] rfl lm ?_; (with_reducible refine (impl_isTerm.calls k a0_0 _ _ l0_1 _ _ l1 t466 _ ?side1 ?side2 ?side3 ?side4 A3.out).mono ?_); (case side1 => repeat (first | exact (Kd.C_below HR0_1.out HB.out) | (with_reducible refine Kd.C_alloc ?_ _) | (with_reducible refine Kd.C_drewN ?_ _) | (with_reducible refine Kd.C_drew ?_))); (case side2 => exact HC0_1.out); (case side3 => repeat (first | exact (Kd.C_below HR1.out HB.out) | (with_reducible refine Kd.C_alloc ?_ _) | (with_reducible refine Kd.C_drewN ?_ _) | (with_reducible refine Kd.C_drew ?_))); (case side4 => exact HC1.out); rintro e w6 ⟨rfl, hb⟩; refine ⟨_, rfl, ?_⟩; have n0_ := Aside0.mk (blk_below (bz BK465) hb); have n1_ := Aside0.mk (below_step bh hb); clear BK465 HB; have BK465 := n0_; have HB := n1_; clear n0_ n1_; (try clear hb); (try clear hb2); (try clear hk); (try clear hi)))
 go_ret
 exact ⟨by first | rfl | (simp [errW_none, errW_some] <;> rfl) | (simp [*, errW_none, errW_some] <;> rfl), by exact bh⟩

end Go.Proofs.Ytnpjlpkbefdnlaa.QFnBillTerm
