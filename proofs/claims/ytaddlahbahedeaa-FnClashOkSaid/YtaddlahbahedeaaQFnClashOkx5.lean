-- Printed for this claim by a turned copy of the print (wip/myprint). Lean checks it. Squeezed. Worded. Tightened.
import Derived.Test.YtaddlahbahedeaaQFnClashOkx0
import Derived.Test.YtaddlahbahedeaaQFnClashOkx4
namespace Go.Proofs.Ytaddlahbahedeaa.QFnClashOk
open Go.RowKit Go.Proofs.YtaddlahbahedeaaW.PrintWords Go.Proofs.YtaddlahbahedeaaW.PrintLast Go.Proofs.YtaddlahbahedeaaW.PrintMore
attribute [local go_sem] max2_int min2_int max_two min_two max_three min_three max_four min_four Opens.cell_twice   -- for this text's walks alone
set_option linter.unusedVariables false
set_option linter.unusedSimpArgs false

/-! ### impl_isTerm: function 49 -/
mutual
def impl_isTerm.j0 : Nat → List (S61) → Bool → Int → List Int → Option (Bool)
 | 0, _, _, _, _ => none
 | k + 1, x1, x20, x131000, x131001 => if x20 = true then (some false) else (impl_isTerm.l0 k 0 x1 (x1.length : Int) 0 x131000 x131001)
def impl_isTerm.l0 : Nat → Int → List (S61) → Int → Int → Int → List Int → Option (Bool)
 | 0, _, _, _, _, _, _ => none
 | k + 1, x5, x21, x22, x23, x131000, x131001 => if x23 < x22 then (if 0 ≤ x23 then (if x23 < (x21.length : Int) then (if ((rd_T61 x21 x23).f0) = 0 then (if ((rd_T61 x21 x23).f1) < 0 then (some false) else (if ((rd_T61 x21 x23).f1) ≥ (x131001.length : Int) then (some false) else (if ((rd_T61 x21 x23).f2) < 1 then (some false) else (if 0 ≤ ((rd_T61 x21 x23).f1) then (if ((rd_T61 x21 x23).f1) < (x131001.length : Int) then ((impl_headsOf.f (rd x131001 ((rd_T61 x21 x23).f1))).bind fun t135 => (if ((rd_T61 x21 x23).f2) > t135 then (some false) else (impl_isTerm.l0 k (wrap64 (x5 + 1)) x21 x22 (wrap64 (x23 + 1)) x131000 x131001))) else (none)) else (none))))) else (if ((rd_T61 x21 x23).f0) = 1 then (impl_isTerm.j2 k x5 x21 x22 x23 (((rd_T61 x21 x23).f0) == 1) x131000 x131001 ((rd_T61 x21 x23).f0) ((rd_T61 x21 x23).f1) ((rd_T61 x21 x23).f2)) else (impl_isTerm.j2 k x5 x21 x22 x23 (((rd_T61 x21 x23).f0) == 2) x131000 x131001 ((rd_T61 x21 x23).f0) ((rd_T61 x21 x23).f1) ((rd_T61 x21 x23).f2)))) else (none)) else (none)) else (some (x5 == 1))
def impl_isTerm.j2 : Nat → Int → List (S61) → Int → Int → Bool → Int → List Int → Int → Int → Int → Option (Bool)
 | 0, _, _, _, _, _, _, _, _, _, _ => none
 | k + 1, x5, x21, x22, x23, x61, x131000, x131001, x134000, x134001, x134002 => if x61 = true then (if x134001 = 0 then (if x134002 = 0 then (if x5 < 2 then (some false) else (impl_isTerm.l0 k (wrap64 (x5 - 1)) x21 x22 (wrap64 (x23 + 1)) x131000 x131001)) else (some false)) else (some false)) else (some false)
end
def impl_isTerm.f (k : Nat) (a0_0 : Int) (l0_1 : List Int) (l1 : List (S61)) : Option (Bool) := (impl_isHouse.f k a0_0 l0_1).bind fun t131 => (if t131 = true then (if (l1.length : Int) < 1 then (impl_isTerm.j0 k l1 true a0_0 l0_1) else (impl_isTerm.j0 k l1 (decide ((l1.length : Int) > 9)) a0_0 l0_1)) else (impl_isTerm.j0 k l1 true a0_0 l0_1))
theorem impl_isTerm.mono_l : ∀ k, (∀ y0 y1 y2 y3, LeO (impl_isTerm.j0 k y0 y1 y2 y3) (impl_isTerm.j0 (k + 1) y0 y1 y2 y3)) ∧ (∀ y0 y1 y2 y3 y4 y5, LeO (impl_isTerm.l0 k y0 y1 y2 y3 y4 y5) (impl_isTerm.l0 (k + 1) y0 y1 y2 y3 y4 y5)) ∧ (∀ y0 y1 y2 y3 y4 y5 y6 y7 y8 y9, LeO (impl_isTerm.j2 k y0 y1 y2 y3 y4 y5 y6 y7 y8 y9) (impl_isTerm.j2 (k + 1) y0 y1 y2 y3 y4 y5 y6 y7 y8 y9))
 | 0 => ⟨fun _ _ _ _ r h => by simp [impl_isTerm.j0] at h, fun _ _ _ _ _ _ r h => by simp [impl_isTerm.l0] at h, fun _ _ _ _ _ _ _ _ _ _ r h => by simp [impl_isTerm.j2] at h⟩
 | k + 1 => by
  obtain ⟨ih0, ih1, ih2⟩ := impl_isTerm.mono_l k
  refine ⟨?_, ?_, ?_⟩
  ·intro y0 y1 y2 y3
   unfold impl_isTerm.j0
   repeat' first
   | (with_reducible exact ih0 _ _ _ _)
   | (with_reducible exact ih1 _ _ _ _ _ _)
   | (with_reducible exact ih2 _ _ _ _ _ _ _ _ _ _)
   | (with_reducible exact impl_isHouse.mono _ _ _)
   | (with_reducible exact LeO.refl _)
   | (with_reducible exact LeO.none _)
   | (with_reducible refine LeO.ite ?_ ?_)
   | (with_reducible refine LeO.bind ?_ (fun _ => ?_))
   | exact ih0 _ _ _ _
   | exact ih1 _ _ _ _ _ _
   | exact ih2 _ _ _ _ _ _ _ _ _ _
   | exact impl_isHouse.mono _ _ _
   | exact LeO.none _
   | refine LeO.ite ?_ ?_
   | refine LeO.bind ?_ (fun _ => ?_)
  ·intro y0 y1 y2 y3 y4 y5
   unfold impl_isTerm.l0
   repeat' first
   | (with_reducible exact ih0 _ _ _ _)
   | (with_reducible exact ih1 _ _ _ _ _ _)
   | (with_reducible exact ih2 _ _ _ _ _ _ _ _ _ _)
   | (with_reducible exact impl_isHouse.mono _ _ _)
   | (with_reducible exact LeO.refl _)
   | (with_reducible exact LeO.none _)
   | (with_reducible refine LeO.ite ?_ ?_)
   | (with_reducible refine LeO.bind ?_ (fun _ => ?_))
   | exact ih0 _ _ _ _
   | exact ih1 _ _ _ _ _ _
   | exact ih2 _ _ _ _ _ _ _ _ _ _
   | exact impl_isHouse.mono _ _ _
   | exact LeO.none _
   | refine LeO.ite ?_ ?_
   | refine LeO.bind ?_ (fun _ => ?_)
  ·intro y0 y1 y2 y3 y4 y5 y6 y7 y8 y9
   unfold impl_isTerm.j2
   repeat' first
   | (with_reducible exact ih0 _ _ _ _)
   | (with_reducible exact ih1 _ _ _ _ _ _)
   | (with_reducible exact ih2 _ _ _ _ _ _ _ _ _ _)
   | (with_reducible exact impl_isHouse.mono _ _ _)
   | (with_reducible exact LeO.refl _)
   | (with_reducible exact LeO.none _)
   | (with_reducible refine LeO.ite ?_ ?_)
   | (with_reducible refine LeO.bind ?_ (fun _ => ?_))
   | exact ih0 _ _ _ _
   | exact ih1 _ _ _ _ _ _
   | exact ih2 _ _ _ _ _ _ _ _ _ _
   | exact impl_isHouse.mono _ _ _
   | exact LeO.none _
   | refine LeO.ite ?_ ?_
   | refine LeO.bind ?_ (fun _ => ?_)
theorem impl_isTerm.mono : ∀ a0 a1 a2 k, LeO (impl_isTerm.f k a0 a1 a2) (impl_isTerm.f (k + 1) a0 a1 a2) := by
 intro a0 a1 a2 k
 obtain ⟨ih0, ih1, ih2⟩ := impl_isTerm.mono_l k
 unfold impl_isTerm.f
 repeat' first
   | (with_reducible exact ih0 _ _ _ _)
   | (with_reducible exact ih1 _ _ _ _ _ _)
   | (with_reducible exact ih2 _ _ _ _ _ _ _ _ _ _)
   | (with_reducible exact impl_isHouse.mono _ _ _)
   | (with_reducible exact LeO.refl _)
   | (with_reducible exact LeO.none _)
   | (with_reducible refine LeO.ite ?_ ?_)
   | (with_reducible refine LeO.bind ?_ (fun _ => ?_))
   | exact ih0 _ _ _ _
   | exact ih1 _ _ _ _ _ _
   | exact ih2 _ _ _ _ _ _ _ _ _ _
   | exact impl_isHouse.mono _ _ _
   | exact LeO.none _
   | refine LeO.ite ?_ ?_
   | refine LeO.bind ?_ (fun _ => ?_)
set_option maxHeartbeats 8000000 in
set_option maxRecDepth 100000 in
theorem impl_isTerm.calls (k : Nat) (a0_0 : Int) (A0_1 : Option Addr) (c0_1 : Nat) (l0_1 : List Int) (A1 : Option Addr) (c1 : Nat) (l1 : List (S61)) (r : Bool) (w : World) (hr0_1 : Kd.C (Kd.int .i64) w A0_1 l0_1.length l0_1) (hc0_1 : l0_1.length ≤ c0_1) (hr1 : Kd.C k61 w A1 l1.length l1) (hc1 : l1.length ≤ c1) (h : impl_isTerm.f k a0_0 l0_1 l1 = some r) :
  Calls Try.prog 49 #[.agg #[.int .i64 a0_0, .slice A0_1 l0_1.length c0_1], .slice A1 l1.length c1] w fun e w' => e = .returned (.bool r) ∧ Below w.heap.size w w' := by
 have hu25 := Try.underlying25
 have hu61 := Try.underlying61
 have HR0_1 := Aside0.mk hr0_1
 have HC0_1 := Aside0.mk hc0_1
 clear hr0_1 hc0_1
 have HR1 := Aside0.mk hr1
 have HC1 := Aside0.mk hc1
 clear hr1 hc1
 have HB := Aside0.mk (Below.refl w.heap.size w)
 have H : ((impl_isHouse.f k a0_0 l0_1).bind fun t131 => (if t131 = true then (if (l1.length : Int) < 1 then (impl_isTerm.j0 k l1 true a0_0 l0_1) else (impl_isTerm.j0 k l1 (decide ((l1.length : Int) > 9)) a0_0 l0_1)) else (impl_isTerm.j0 k l1 true a0_0 l0_1))) = some r := h
 clear h
 have HC3 := Aside0.mk H
 clear H
 go_enter Try.func49, Try.ntmps49
 go_upto_region 1 with (first | ((with_reducible refine gate_dst (N := 2) rfl ?_); (try (refine gate_guard (by rfl) ?_; dsimp only)); refine box_event ?hg (N := 2) ?hd (cs := #[.int .i64 a0_0, .slice A0_1 l0_1.length c0_1]) (t := 25) ?hr ?_; (case hd => rfl); (case hg => rfl); (case hr => first | (go_simp; done) | (go_simp; rfl)); intro gb130 hg w4 hbox hb; have n0_ := Aside0.mk (below_step bh hb); have n1_ := Aside0.mk (hbox); have n2_ := Aside0.mk ((gs (W0 := w) hg bh)); have n3_ := Aside0.mk ((gs (W0 := w) hg bh)); clear HB; have HB := n0_; have BK130 := n1_; have GW130 := n2_; have GE130 := n3_; clear n0_ n1_ n2_ n3_ hb hbox hg))
 repeat (go_quiet (first | ((with_reducible refine gate_dst (N := 2) rfl ?_); (try (refine gate_guard (by rfl) ?_; dsimp only)); refine box_event ?hg (N := 2) ?hd (cs := #[.int .i64 a0_0, .slice A0_1 l0_1.length c0_1]) (t := 25) ?hr ?_; (case hd => rfl); (case hg => rfl); (case hr => first | (go_simp; done) | (go_simp; rfl)); intro gb130 hg w4 hbox hb; have n0_ := Aside0.mk (below_step bh hb); have n1_ := Aside0.mk (hbox); have n2_ := Aside0.mk ((gs (W0 := w) hg bh)); have n3_ := Aside0.mk ((gs (W0 := w) hg bh)); clear HB; have HB := n0_; have BK130 := n1_; have GW130 := n2_; have GE130 := n3_; clear n0_ n1_ n2_ n3_ hb hbox hg)); go_upto_region 1 with (first | ((with_reducible refine gate_dst (N := 2) rfl ?_); (try (refine gate_guard (by rfl) ?_; dsimp only)); refine box_event ?hg (N := 2) ?hd (cs := #[.int .i64 a0_0, .slice A0_1 l0_1.length c0_1]) (t := 25) ?hr ?_; (case hd => rfl); (case hg => rfl); (case hr => first | (go_simp; done) | (go_simp; rfl)); intro gb130 hg w4 hbox hb; have n0_ := Aside0.mk (below_step bh hb); have n1_ := Aside0.mk (hbox); have n2_ := Aside0.mk ((gs (W0 := w) hg bh)); have n3_ := Aside0.mk ((gs (W0 := w) hg bh)); clear HB; have HB := n0_; have BK130 := n1_; have GW130 := n2_; have GE130 := n3_; clear n0_ n1_ n2_ n3_ hb hbox hg)))
 (try simp only [Act.put, List.setIfInBounds_toArray, List.set_cons_zero, List.set_cons_succ])
 go_cut [20] (fun v20 wc => ∃ (kq : Nat) (x20_2 : Bool), v20 = .bool x20_2 ∧ Aside0 (impl_isTerm.j0 kq l1 x20_2 a0_0 l0_1 = some r) ∧ Aside0 (kq ≤ k) ∧ Aside0 (wc.heap[gb130]? = some (.cells #[.int .i64 a0_0, (.slice A0_1 l0_1.length c0_1)] 25 (0, 0))) ∧ Aside0 (Below w.heap.size w wc))
 case first =>
  have H := HC3.out
  clear HC3
  replace H := Option.bind_eq_some_iff.mp H
  obtain ⟨t131, A50, H⟩ := H
  replace H : (if t131 = true then (if (l1.length : Int) < 1 then (impl_isTerm.j0 k l1 true a0_0 l0_1) else (impl_isTerm.j0 k l1 (decide ((l1.length : Int) > 9)) a0_0 l0_1)) else (impl_isTerm.j0 k l1 true a0_0 l0_1)) = some r := H
  have A5 := Aside0.mk A50
  clear A50
  by_cases c6 : t131 = true
  ·subst c6
   have H1 : (if (l1.length : Int) < 1 then (impl_isTerm.j0 k l1 true a0_0 l0_1) else (impl_isTerm.j0 k l1 (decide ((l1.length : Int) > 9)) a0_0 l0_1)) = some r := by rw [if_pos rfl] at H; exact H
   clear H
   have H := H1
   clear H1
   by_cases c7 : (l1.length : Int) < 1
   ·rw [if_pos c7] at H
    have c7b0 : decide ((l1.length : Int) < 1) = true := decide_eq_true c7
    have c7b1 : decide (l1.length < 1) = true := decide_eq_true (by omega)
    clear c7
    (first | rw [c7b0] | (simp only [i64_w, i32_w]; rw [c7b0]) | skip)
    have H' := Aside0.mk H
    clear H
    have hcz8_0 := cz0 BK130
    have hcz8_1 := cz1 BK130
    have hfz8_0 := blk_frozen BK130.out 0
    have hfz8_1 := blk_frozen BK130.out 1
    go_wp2_with (first | (go_at_call 70; (with_reducible refine (impl_isHouse.calls k a0_0 _ _ l0_1 true _ ?side1 ?side2 A5.out).mono ?_); (case side1 => repeat (first | exact (Kd.C_below HR0_1.out HB.out) | (with_reducible refine Kd.C_alloc ?_ _) | (with_reducible refine Kd.C_drewN ?_ _) | (with_reducible refine Kd.C_drew ?_))); (case side2 => exact HC0_1.out); rintro e w9 ⟨rfl, hb⟩; have n0_ := Aside0.mk (blk_below (bz BK130) hb); have n1_ := Aside0.mk (below_step bh hb); clear BK130 HB; have BK130 := n0_; have HB := n1_; clear n0_ n1_; (try clear hb); (try clear hb2); (try clear hk); (try clear hi)))
    repeat (go_quiet (first | (go_at_call 70; (with_reducible refine (impl_isHouse.calls k a0_0 _ _ l0_1 true _ ?side1 ?side2 A5.out).mono ?_); (case side1 => repeat (first | exact (Kd.C_below HR0_1.out HB.out) | (with_reducible refine Kd.C_alloc ?_ _) | (with_reducible refine Kd.C_drewN ?_ _) | (with_reducible refine Kd.C_drew ?_))); (case side2 => exact HC0_1.out); rintro e w9 ⟨rfl, hb⟩; have n0_ := Aside0.mk (blk_below (bz BK130) hb); have n1_ := Aside0.mk (below_step bh hb); clear BK130 HB; have BK130 := n0_; have HB := n1_; clear n0_ n1_; (try clear hb); (try clear hb2); (try clear hk); (try clear hi))); try go_wp2_with (first | (go_at_call 70; (with_reducible refine (impl_isHouse.calls k a0_0 _ _ l0_1 true _ ?side1 ?side2 A5.out).mono ?_); (case side1 => repeat (first | exact (Kd.C_below HR0_1.out HB.out) | (with_reducible refine Kd.C_alloc ?_ _) | (with_reducible refine Kd.C_drewN ?_ _) | (with_reducible refine Kd.C_drew ?_))); (case side2 => exact HC0_1.out); rintro e w9 ⟨rfl, hb⟩; have n0_ := Aside0.mk (blk_below (bz BK130) hb); have n1_ := Aside0.mk (below_step bh hb); clear BK130 HB; have BK130 := n0_; have HB := n1_; clear n0_ n1_; (try clear hb); (try clear hb2); (try clear hk); (try clear hi))))
    go_meet
    case rel => exact ⟨_, (true), (by first | rfl | (simp; done) | (simp [*]; done)), H', ⟨by first | omega | exact Nat.le_refl _⟩, ⟨bz BK130⟩, ⟨by exact bh⟩⟩
   ·rw [if_neg c7] at H
    have c7b0 : decide ((l1.length : Int) < 1) = false := decide_eq_false c7
    have c7b1 : decide (l1.length < 1) = false := decide_eq_false (by omega)
    clear c7
    (first | rw [c7b0] | (simp only [i64_w, i32_w]; rw [c7b0]) | skip)
    have H' := Aside0.mk H
    clear H
    have hcz10_0 := cz0 BK130
    have hcz10_1 := cz1 BK130
    have hfz10_0 := blk_frozen BK130.out 0
    have hfz10_1 := blk_frozen BK130.out 1
    go_wp2_with (first | (go_at_call 70; (with_reducible refine (impl_isHouse.calls k a0_0 _ _ l0_1 true _ ?side1 ?side2 A5.out).mono ?_); (case side1 => repeat (first | exact (Kd.C_below HR0_1.out HB.out) | (with_reducible refine Kd.C_alloc ?_ _) | (with_reducible refine Kd.C_drewN ?_ _) | (with_reducible refine Kd.C_drew ?_))); (case side2 => exact HC0_1.out); rintro e w11 ⟨rfl, hb⟩; have n0_ := Aside0.mk (blk_below (bz BK130) hb); have n1_ := Aside0.mk (below_step bh hb); clear BK130 HB; have BK130 := n0_; have HB := n1_; clear n0_ n1_; (try clear hb); (try clear hb2); (try clear hk); (try clear hi)))
    repeat (go_quiet (first | (go_at_call 70; (with_reducible refine (impl_isHouse.calls k a0_0 _ _ l0_1 true _ ?side1 ?side2 A5.out).mono ?_); (case side1 => repeat (first | exact (Kd.C_below HR0_1.out HB.out) | (with_reducible refine Kd.C_alloc ?_ _) | (with_reducible refine Kd.C_drewN ?_ _) | (with_reducible refine Kd.C_drew ?_))); (case side2 => exact HC0_1.out); rintro e w11 ⟨rfl, hb⟩; have n0_ := Aside0.mk (blk_below (bz BK130) hb); have n1_ := Aside0.mk (below_step bh hb); clear BK130 HB; have BK130 := n0_; have HB := n1_; clear n0_ n1_; (try clear hb); (try clear hb2); (try clear hk); (try clear hi))); try go_wp2_with (first | (go_at_call 70; (with_reducible refine (impl_isHouse.calls k a0_0 _ _ l0_1 true _ ?side1 ?side2 A5.out).mono ?_); (case side1 => repeat (first | exact (Kd.C_below HR0_1.out HB.out) | (with_reducible refine Kd.C_alloc ?_ _) | (with_reducible refine Kd.C_drewN ?_ _) | (with_reducible refine Kd.C_drew ?_))); (case side2 => exact HC0_1.out); rintro e w11 ⟨rfl, hb⟩; have n0_ := Aside0.mk (blk_below (bz BK130) hb); have n1_ := Aside0.mk (below_step bh hb); clear BK130 HB; have BK130 := n0_; have HB := n1_; clear n0_ n1_; (try clear hb); (try clear hb2); (try clear hk); (try clear hi))))
    go_meet
    case rel => exact ⟨_, (decide ((l1.length : Int) > 9)), (by first | rfl | (simp; done) | (simp [*]; done)), H', ⟨by first | omega | exact Nat.le_refl _⟩, ⟨bz BK130⟩, ⟨by exact bh⟩⟩
  ·replace c6 := Bool.eq_false_iff.mpr c6
   subst c6
   have H1 : (impl_isTerm.j0 k l1 true a0_0 l0_1) = some r := by rw [if_neg (show ¬ (false = true) by decide)] at H; exact H
   clear H
   have H := H1
   clear H1
   have H' := Aside0.mk H
   clear H
   have hcz12_0 := cz0 BK130
   have hcz12_1 := cz1 BK130
   have hfz12_0 := blk_frozen BK130.out 0
   have hfz12_1 := blk_frozen BK130.out 1
   go_wp2_with (first | (go_at_call 70; (with_reducible refine (impl_isHouse.calls k a0_0 _ _ l0_1 false _ ?side1 ?side2 A5.out).mono ?_); (case side1 => repeat (first | exact (Kd.C_below HR0_1.out HB.out) | (with_reducible refine Kd.C_alloc ?_ _) | (with_reducible refine Kd.C_drewN ?_ _) | (with_reducible refine Kd.C_drew ?_))); (case side2 => exact HC0_1.out); rintro e w13 ⟨rfl, hb⟩; have n0_ := Aside0.mk (blk_below (bz BK130) hb); have n1_ := Aside0.mk (below_step bh hb); clear BK130 HB; have BK130 := n0_; have HB := n1_; clear n0_ n1_; (try clear hb); (try clear hb2); (try clear hk); (try clear hi)))
   repeat (go_quiet (first | (go_at_call 70; (with_reducible refine (impl_isHouse.calls k a0_0 _ _ l0_1 false _ ?side1 ?side2 A5.out).mono ?_); (case side1 => repeat (first | exact (Kd.C_below HR0_1.out HB.out) | (with_reducible refine Kd.C_alloc ?_ _) | (with_reducible refine Kd.C_drewN ?_ _) | (with_reducible refine Kd.C_drew ?_))); (case side2 => exact HC0_1.out); rintro e w13 ⟨rfl, hb⟩; have n0_ := Aside0.mk (blk_below (bz BK130) hb); have n1_ := Aside0.mk (below_step bh hb); clear BK130 HB; have BK130 := n0_; have HB := n1_; clear n0_ n1_; (try clear hb); (try clear hb2); (try clear hk); (try clear hi))); try go_wp2_with (first | (go_at_call 70; (with_reducible refine (impl_isHouse.calls k a0_0 _ _ l0_1 false _ ?side1 ?side2 A5.out).mono ?_); (case side1 => repeat (first | exact (Kd.C_below HR0_1.out HB.out) | (with_reducible refine Kd.C_alloc ?_ _) | (with_reducible refine Kd.C_drewN ?_ _) | (with_reducible refine Kd.C_drew ?_))); (case side2 => exact HC0_1.out); rintro e w13 ⟨rfl, hb⟩; have n0_ := Aside0.mk (blk_below (bz BK130) hb); have n1_ := Aside0.mk (below_step bh hb); clear BK130 HB; have BK130 := n0_; have HB := n1_; clear n0_ n1_; (try clear hb); (try clear hb2); (try clear hk); (try clear hi))))
   go_meet
   case rel => exact ⟨_, (true), (by first | rfl | (simp; done) | (simp [*]; done)), H', ⟨by first | omega | exact Nat.le_refl _⟩, ⟨bz BK130⟩, ⟨by exact bh⟩⟩
 case rest =>
  clear HC3
  try clear c1
  try clear p2
  try clear c4
  try clear c6
  try clear c7
  try clear c7b0
  try clear c7b1
  try clear hcz10_0
  try clear hcz10_1
  try clear hcz12_0
  try clear hcz12_1
  try clear hcz8_0
  try clear hcz8_1
  try clear hfz10_0
  try clear hfz10_1
  try clear hfz12_0
  try clear hfz12_1
  try clear hfz8_0
  try clear hfz8_1
  obtain ⟨kq, x20_2, rfl, HA, HJ2, BK130, HB⟩ := hcut
  cases kq with
  | zero => exact absurd HA.out (by simp [impl_isTerm.j0])
  | succ kj2 =>
   have H := HA.out
   clear HA
   simp only [impl_isTerm.j0] at H
   by_cases c14 : x20_2 = true
   ·subst c14
    have H1 : (some false) = some r := by rw [if_pos rfl] at H; exact H
    clear H
    have H := H1
    clear H1
    obtain rfl := Option.some.inj H
    go_wp2
    repeat (go_quiet (fail); try go_wp2)
    go_ret
    exact ⟨by first | rfl | (simp [errW_none, errW_some] <;> rfl) | (simp [*, errW_none, errW_some] <;> rfl), by exact bh⟩
   ·replace c14 := Bool.eq_false_iff.mpr c14
    subst c14
    have H1 : (impl_isTerm.l0 kj2 0 l1 (l1.length : Int) 0 a0_0 l0_1) = some r := by rw [if_neg (show ¬ (false = true) by decide)] at H; exact H
    clear H
    have H := H1
    clear H1
    have H' := Aside0.mk H
    clear H
    go_wp2
    repeat (go_quiet (fail); try go_wp2)
    go_loopg [5, 23] kj2 (fun kq v5 v23 w' => ∃ (x5_2 : Int) (x23_2 : Int), v5 = .int .i64 x5_2 ∧ v23 = .int .i64 x23_2 ∧ Aside0 (impl_isTerm.l0 kq x5_2 l1 (l1.length : Int) x23_2 a0_0 l0_1 = some r) ∧ Aside0 (kq ≤ kj2) ∧ Aside0 (w'.heap[gb130]? = some (.cells #[.int .i64 a0_0, (.slice A0_1 l0_1.length c0_1)] 25 (0, 0))) ∧ Aside0 (Below w.heap.size w w'))
    case atStart => exact ⟨(0), (0), (by first | rfl | (simp; done) | (simp [*]; done)), (by first | rfl | (simp; done) | (simp [*]; done)), H', ⟨Nat.le_refl _⟩, ⟨bz BK130⟩, ⟨by exact bh⟩⟩
    case round =>
     clear H'
     try clear c1
     try clear p2
     try clear c4
     try clear c6
     try clear c7
     try clear c7b0
     try clear c7b1
     try clear c14
     try clear hcz10_0
     try clear hcz10_1
     try clear hcz12_0
     try clear hcz12_1
     try clear hcz8_0
     try clear hcz8_1
     try clear hfz10_0
     try clear hfz10_1
     try clear hfz12_0
     try clear hfz12_1
     try clear hfz8_0
     try clear hfz8_1
     try clear p2
     obtain ⟨x5_2, x23_2, rfl, rfl, HA, HK2, BK130, HB⟩ := hrel
     cases gk with
     | zero => exact absurd HA.out (by simp [impl_isTerm.l0])
     | succ k2 =>
      have H := HA.out
      clear HA
      simp only [impl_isTerm.l0] at H
      by_cases c15 : x23_2 < (l1.length : Int)
      ·rw [if_pos c15] at H
       have c15b0 : decide (x23_2 < (l1.length : Int)) = true := decide_eq_true c15
       clear c15
       by_cases c16 : 0 ≤ x23_2
       ·rw [if_pos c16] at H
        have c16b0 : decide (0 ≤ x23_2) = true := decide_eq_true c16
        clear c16
        by_cases c17 : x23_2 < (l1.length : Int)
        ·rw [if_pos c17] at H
         have c17b0 : decide (x23_2 < (l1.length : Int)) = true := decide_eq_true c17
         clear c17
         by_cases c18 : ((rd_T61 l1 x23_2).f0) = 0
         ·rw [if_pos c18] at H
          have c18b0 : (((rd_T61 l1 x23_2).f0) == 0) = true := beq_iff_eq.mpr c18
          have c18b1 : (((rd_T61 l1 x23_2).f0) != 0) = false := bne_eq_false_iff_eq.mpr c18
          clear c18
          by_cases c19 : ((rd_T61 l1 x23_2).f1) < 0
          ·rw [if_pos c19] at H
           have c19b0 : decide (((rd_T61 l1 x23_2).f1) < 0) = true := decide_eq_true c19
           clear c19
           obtain rfl := Option.some.inj H
           have p132 : 0 ≤ (x23_2 : Int) := oda
           have q132 : x23_2 < (l1.length : Int) := oda
           obtain ⟨ad132, e132, hx132_0, hx132_1, hx132_2⟩ := at_T61 HR1.out x23_2 p132 q132
           cases e132
           replace hx132_0 := (HB.out.cell (World.block_lt_of_cell? w _ hx132_0)).trans hx132_0
           replace hx132_1 := (HB.out.cell (World.block_lt_of_cell? w _ hx132_1)).trans hx132_1
           replace hx132_2 := (HB.out.cell (World.block_lt_of_cell? w _ hx132_2)).trans hx132_2
           replace p132 := eq_true p132
           replace q132 := eq_true q132
           go_wp2_with (first | ((with_reducible refine gate_dst (N := 7) rfl ?_); (try (refine gate_guard (by rfl) ?_; dsimp only)); refine box_event ?hg (N := 7) ?hd (cs := #[.int .i64 0, .int .i64 0, .int .i64 0]) (t := 61) ?hr ?_; (case hd => rfl); (case hg => rfl); (case hr => first | (go_simp; done) | (go_simp; rfl)); intro gb133 hg w20 hbox hb; have n0_ := Aside0.mk (blk_below (bz BK130) hb); have n1_ := Aside0.mk (below_step bh hb); have n2_ := Aside0.mk (hbox); have n3_ := Aside0.mk ((gs (W0 := w) hg bh)); have n4_ := Aside0.mk ((gs (W0 := w) hg bh)); have n5_ := Aside0.mk ((gn hg (bz BK130))); have n6_ := Aside0.mk ((gm hg (bz BK130))); clear BK130 HB; have BK130 := n0_; have HB := n1_; have BK133 := n2_; have GW133 := n3_; have GE133 := n4_; have NB130_133 := n5_; have NB133_130 := n6_; clear n0_ n1_ n2_ n3_ n4_ n5_ n6_ hb hbox hg; have hnb21 := NB133_130.out; have hnc21 := NB130_133.out; have hcz22_0 := cz0 BK133; have hcz22_1 := cz1 BK133; have hcz22_2 := cz2 BK133; have hfz22_0 := blk_frozen BK133.out 0; have hfz22_1 := blk_frozen BK133.out 1; have hfz22_2 := blk_frozen BK133.out 2))
           repeat (go_quiet (first | ((with_reducible refine gate_dst (N := 7) rfl ?_); (try (refine gate_guard (by rfl) ?_; dsimp only)); refine box_event ?hg (N := 7) ?hd (cs := #[.int .i64 0, .int .i64 0, .int .i64 0]) (t := 61) ?hr ?_; (case hd => rfl); (case hg => rfl); (case hr => first | (go_simp; done) | (go_simp; rfl)); intro gb133 hg w20 hbox hb; have n0_ := Aside0.mk (blk_below (bz BK130) hb); have n1_ := Aside0.mk (below_step bh hb); have n2_ := Aside0.mk (hbox); have n3_ := Aside0.mk ((gs (W0 := w) hg bh)); have n4_ := Aside0.mk ((gs (W0 := w) hg bh)); have n5_ := Aside0.mk ((gn hg (bz BK130))); have n6_ := Aside0.mk ((gm hg (bz BK130))); clear BK130 HB; have BK130 := n0_; have HB := n1_; have BK133 := n2_; have GW133 := n3_; have GE133 := n4_; have NB130_133 := n5_; have NB133_130 := n6_; clear n0_ n1_ n2_ n3_ n4_ n5_ n6_ hb hbox hg; have hnb21 := NB133_130.out; have hnc21 := NB130_133.out; have hcz22_0 := cz0 BK133; have hcz22_1 := cz1 BK133; have hcz22_2 := cz2 BK133; have hfz22_0 := blk_frozen BK133.out 0; have hfz22_1 := blk_frozen BK133.out 1; have hfz22_2 := blk_frozen BK133.out 2)); try go_wp2_with (first | ((with_reducible refine gate_dst (N := 7) rfl ?_); (try (refine gate_guard (by rfl) ?_; dsimp only)); refine box_event ?hg (N := 7) ?hd (cs := #[.int .i64 0, .int .i64 0, .int .i64 0]) (t := 61) ?hr ?_; (case hd => rfl); (case hg => rfl); (case hr => first | (go_simp; done) | (go_simp; rfl)); intro gb133 hg w20 hbox hb; have n0_ := Aside0.mk (blk_below (bz BK130) hb); have n1_ := Aside0.mk (below_step bh hb); have n2_ := Aside0.mk (hbox); have n3_ := Aside0.mk ((gs (W0 := w) hg bh)); have n4_ := Aside0.mk ((gs (W0 := w) hg bh)); have n5_ := Aside0.mk ((gn hg (bz BK130))); have n6_ := Aside0.mk ((gm hg (bz BK130))); clear BK130 HB; have BK130 := n0_; have HB := n1_; have BK133 := n2_; have GW133 := n3_; have GE133 := n4_; have NB130_133 := n5_; have NB133_130 := n6_; clear n0_ n1_ n2_ n3_ n4_ n5_ n6_ hb hbox hg; have hnb21 := NB133_130.out; have hnc21 := NB130_133.out; have hcz22_0 := cz0 BK133; have hcz22_1 := cz1 BK133; have hcz22_2 := cz2 BK133; have hfz22_0 := blk_frozen BK133.out 0; have hfz22_1 := blk_frozen BK133.out 1; have hfz22_2 := blk_frozen BK133.out 2)))
           go_ret
           exact ⟨by first | rfl | (simp [errW_none, errW_some] <;> rfl) | (simp [*, errW_none, errW_some] <;> rfl), by exact bh⟩
          ·rw [if_neg c19] at H
           have c19b0 : decide (((rd_T61 l1 x23_2).f1) < 0) = false := decide_eq_false c19
           clear c19
           by_cases c23 : ((rd_T61 l1 x23_2).f1) ≥ (l0_1.length : Int)
           ·rw [if_pos c23] at H
            have c23b0 : decide ((l0_1.length : Int) ≤ ((rd_T61 l1 x23_2).f1)) = true := decide_eq_true c23
            clear c23
            obtain rfl := Option.some.inj H
            have p132 : 0 ≤ (x23_2 : Int) := oda
            have q132 : x23_2 < (l1.length : Int) := oda
            obtain ⟨ad132, e132, hx132_0, hx132_1, hx132_2⟩ := at_T61 HR1.out x23_2 p132 q132
            cases e132
            replace hx132_0 := (HB.out.cell (World.block_lt_of_cell? w _ hx132_0)).trans hx132_0
            replace hx132_1 := (HB.out.cell (World.block_lt_of_cell? w _ hx132_1)).trans hx132_1
            replace hx132_2 := (HB.out.cell (World.block_lt_of_cell? w _ hx132_2)).trans hx132_2
            replace p132 := eq_true p132
            replace q132 := eq_true q132
            go_wp2_with (first | ((with_reducible refine gate_dst (N := 7) rfl ?_); (try (refine gate_guard (by rfl) ?_; dsimp only)); refine box_event ?hg (N := 7) ?hd (cs := #[.int .i64 0, .int .i64 0, .int .i64 0]) (t := 61) ?hr ?_; (case hd => rfl); (case hg => rfl); (case hr => first | (go_simp; done) | (go_simp; rfl)); intro gb133 hg w24 hbox hb; have n0_ := Aside0.mk (blk_below (bz BK130) hb); have n1_ := Aside0.mk (below_step bh hb); have n2_ := Aside0.mk (hbox); have n3_ := Aside0.mk ((gs (W0 := w) hg bh)); have n4_ := Aside0.mk ((gs (W0 := w) hg bh)); have n5_ := Aside0.mk ((gn hg (bz BK130))); have n6_ := Aside0.mk ((gm hg (bz BK130))); clear BK130 HB; have BK130 := n0_; have HB := n1_; have BK133 := n2_; have GW133 := n3_; have GE133 := n4_; have NB130_133 := n5_; have NB133_130 := n6_; clear n0_ n1_ n2_ n3_ n4_ n5_ n6_ hb hbox hg; have hnb25 := NB133_130.out; have hnc25 := NB130_133.out; have hcz26_0 := cz0 BK133; have hcz26_1 := cz1 BK133; have hcz26_2 := cz2 BK133; have hfz26_0 := blk_frozen BK133.out 0; have hfz26_1 := blk_frozen BK133.out 1; have hfz26_2 := blk_frozen BK133.out 2; have hcz27_0 := cz0 BK130; have hcz27_1 := cz1 BK130; have hfz27_0 := blk_frozen BK130.out 0; have hfz27_1 := blk_frozen BK130.out 1))
            repeat (go_quiet (first | ((with_reducible refine gate_dst (N := 7) rfl ?_); (try (refine gate_guard (by rfl) ?_; dsimp only)); refine box_event ?hg (N := 7) ?hd (cs := #[.int .i64 0, .int .i64 0, .int .i64 0]) (t := 61) ?hr ?_; (case hd => rfl); (case hg => rfl); (case hr => first | (go_simp; done) | (go_simp; rfl)); intro gb133 hg w24 hbox hb; have n0_ := Aside0.mk (blk_below (bz BK130) hb); have n1_ := Aside0.mk (below_step bh hb); have n2_ := Aside0.mk (hbox); have n3_ := Aside0.mk ((gs (W0 := w) hg bh)); have n4_ := Aside0.mk ((gs (W0 := w) hg bh)); have n5_ := Aside0.mk ((gn hg (bz BK130))); have n6_ := Aside0.mk ((gm hg (bz BK130))); clear BK130 HB; have BK130 := n0_; have HB := n1_; have BK133 := n2_; have GW133 := n3_; have GE133 := n4_; have NB130_133 := n5_; have NB133_130 := n6_; clear n0_ n1_ n2_ n3_ n4_ n5_ n6_ hb hbox hg; have hnb25 := NB133_130.out; have hnc25 := NB130_133.out; have hcz26_0 := cz0 BK133; have hcz26_1 := cz1 BK133; have hcz26_2 := cz2 BK133; have hfz26_0 := blk_frozen BK133.out 0; have hfz26_1 := blk_frozen BK133.out 1; have hfz26_2 := blk_frozen BK133.out 2; have hcz27_0 := cz0 BK130; have hcz27_1 := cz1 BK130; have hfz27_0 := blk_frozen BK130.out 0; have hfz27_1 := blk_frozen BK130.out 1)); try go_wp2_with (first | ((with_reducible refine gate_dst (N := 7) rfl ?_); (try (refine gate_guard (by rfl) ?_; dsimp only)); refine box_event ?hg (N := 7) ?hd (cs := #[.int .i64 0, .int .i64 0, .int .i64 0]) (t := 61) ?hr ?_; (case hd => rfl); (case hg => rfl); (case hr => first | (go_simp; done) | (go_simp; rfl)); intro gb133 hg w24 hbox hb; have n0_ := Aside0.mk (blk_below (bz BK130) hb); have n1_ := Aside0.mk (below_step bh hb); have n2_ := Aside0.mk (hbox); have n3_ := Aside0.mk ((gs (W0 := w) hg bh)); have n4_ := Aside0.mk ((gs (W0 := w) hg bh)); have n5_ := Aside0.mk ((gn hg (bz BK130))); have n6_ := Aside0.mk ((gm hg (bz BK130))); clear BK130 HB; have BK130 := n0_; have HB := n1_; have BK133 := n2_; have GW133 := n3_; have GE133 := n4_; have NB130_133 := n5_; have NB133_130 := n6_; clear n0_ n1_ n2_ n3_ n4_ n5_ n6_ hb hbox hg; have hnb25 := NB133_130.out; have hnc25 := NB130_133.out; have hcz26_0 := cz0 BK133; have hcz26_1 := cz1 BK133; have hcz26_2 := cz2 BK133; have hfz26_0 := blk_frozen BK133.out 0; have hfz26_1 := blk_frozen BK133.out 1; have hfz26_2 := blk_frozen BK133.out 2; have hcz27_0 := cz0 BK130; have hcz27_1 := cz1 BK130; have hfz27_0 := blk_frozen BK130.out 0; have hfz27_1 := blk_frozen BK130.out 1)))
            go_ret
            exact ⟨by first | rfl | (simp [errW_none, errW_some] <;> rfl) | (simp [*, errW_none, errW_some] <;> rfl), by exact bh⟩
           ·rw [if_neg c23] at H
            have c23b0 : decide ((l0_1.length : Int) ≤ ((rd_T61 l1 x23_2).f1)) = false := decide_eq_false c23
            clear c23
            by_cases c28 : ((rd_T61 l1 x23_2).f2) < 1
            ·rw [if_pos c28] at H
             have c28b0 : decide (((rd_T61 l1 x23_2).f2) < 1) = true := decide_eq_true c28
             clear c28
             obtain rfl := Option.some.inj H
             have p132 : 0 ≤ (x23_2 : Int) := oda
             have q132 : x23_2 < (l1.length : Int) := oda
             obtain ⟨ad132, e132, hx132_0, hx132_1, hx132_2⟩ := at_T61 HR1.out x23_2 p132 q132
             cases e132
             replace hx132_0 := (HB.out.cell (World.block_lt_of_cell? w _ hx132_0)).trans hx132_0
             replace hx132_1 := (HB.out.cell (World.block_lt_of_cell? w _ hx132_1)).trans hx132_1
             replace hx132_2 := (HB.out.cell (World.block_lt_of_cell? w _ hx132_2)).trans hx132_2
             replace p132 := eq_true p132
             replace q132 := eq_true q132
             go_wp2_with (first | ((with_reducible refine gate_dst (N := 7) rfl ?_); (try (refine gate_guard (by rfl) ?_; dsimp only)); refine box_event ?hg (N := 7) ?hd (cs := #[.int .i64 0, .int .i64 0, .int .i64 0]) (t := 61) ?hr ?_; (case hd => rfl); (case hg => rfl); (case hr => first | (go_simp; done) | (go_simp; rfl)); intro gb133 hg w29 hbox hb; have n0_ := Aside0.mk (blk_below (bz BK130) hb); have n1_ := Aside0.mk (below_step bh hb); have n2_ := Aside0.mk (hbox); have n3_ := Aside0.mk ((gs (W0 := w) hg bh)); have n4_ := Aside0.mk ((gs (W0 := w) hg bh)); have n5_ := Aside0.mk ((gn hg (bz BK130))); have n6_ := Aside0.mk ((gm hg (bz BK130))); clear BK130 HB; have BK130 := n0_; have HB := n1_; have BK133 := n2_; have GW133 := n3_; have GE133 := n4_; have NB130_133 := n5_; have NB133_130 := n6_; clear n0_ n1_ n2_ n3_ n4_ n5_ n6_ hb hbox hg; have hnb30 := NB133_130.out; have hnc30 := NB130_133.out; have hcz31_0 := cz0 BK133; have hcz31_1 := cz1 BK133; have hcz31_2 := cz2 BK133; have hfz31_0 := blk_frozen BK133.out 0; have hfz31_1 := blk_frozen BK133.out 1; have hfz31_2 := blk_frozen BK133.out 2; have hcz32_0 := cz0 BK130; have hcz32_1 := cz1 BK130; have hfz32_0 := blk_frozen BK130.out 0; have hfz32_1 := blk_frozen BK130.out 1))
             repeat (go_quiet (first | ((with_reducible refine gate_dst (N := 7) rfl ?_); (try (refine gate_guard (by rfl) ?_; dsimp only)); refine box_event ?hg (N := 7) ?hd (cs := #[.int .i64 0, .int .i64 0, .int .i64 0]) (t := 61) ?hr ?_; (case hd => rfl); (case hg => rfl); (case hr => first | (go_simp; done) | (go_simp; rfl)); intro gb133 hg w29 hbox hb; have n0_ := Aside0.mk (blk_below (bz BK130) hb); have n1_ := Aside0.mk (below_step bh hb); have n2_ := Aside0.mk (hbox); have n3_ := Aside0.mk ((gs (W0 := w) hg bh)); have n4_ := Aside0.mk ((gs (W0 := w) hg bh)); have n5_ := Aside0.mk ((gn hg (bz BK130))); have n6_ := Aside0.mk ((gm hg (bz BK130))); clear BK130 HB; have BK130 := n0_; have HB := n1_; have BK133 := n2_; have GW133 := n3_; have GE133 := n4_; have NB130_133 := n5_; have NB133_130 := n6_; clear n0_ n1_ n2_ n3_ n4_ n5_ n6_ hb hbox hg; have hnb30 := NB133_130.out; have hnc30 := NB130_133.out; have hcz31_0 := cz0 BK133; have hcz31_1 := cz1 BK133; have hcz31_2 := cz2 BK133; have hfz31_0 := blk_frozen BK133.out 0; have hfz31_1 := blk_frozen BK133.out 1; have hfz31_2 := blk_frozen BK133.out 2; have hcz32_0 := cz0 BK130; have hcz32_1 := cz1 BK130; have hfz32_0 := blk_frozen BK130.out 0; have hfz32_1 := blk_frozen BK130.out 1)); try go_wp2_with (first | ((with_reducible refine gate_dst (N := 7) rfl ?_); (try (refine gate_guard (by rfl) ?_; dsimp only)); refine box_event ?hg (N := 7) ?hd (cs := #[.int .i64 0, .int .i64 0, .int .i64 0]) (t := 61) ?hr ?_; (case hd => rfl); (case hg => rfl); (case hr => first | (go_simp; done) | (go_simp; rfl)); intro gb133 hg w29 hbox hb; have n0_ := Aside0.mk (blk_below (bz BK130) hb); have n1_ := Aside0.mk (below_step bh hb); have n2_ := Aside0.mk (hbox); have n3_ := Aside0.mk ((gs (W0 := w) hg bh)); have n4_ := Aside0.mk ((gs (W0 := w) hg bh)); have n5_ := Aside0.mk ((gn hg (bz BK130))); have n6_ := Aside0.mk ((gm hg (bz BK130))); clear BK130 HB; have BK130 := n0_; have HB := n1_; have BK133 := n2_; have GW133 := n3_; have GE133 := n4_; have NB130_133 := n5_; have NB133_130 := n6_; clear n0_ n1_ n2_ n3_ n4_ n5_ n6_ hb hbox hg; have hnb30 := NB133_130.out; have hnc30 := NB130_133.out; have hcz31_0 := cz0 BK133; have hcz31_1 := cz1 BK133; have hcz31_2 := cz2 BK133; have hfz31_0 := blk_frozen BK133.out 0; have hfz31_1 := blk_frozen BK133.out 1; have hfz31_2 := blk_frozen BK133.out 2; have hcz32_0 := cz0 BK130; have hcz32_1 := cz1 BK130; have hfz32_0 := blk_frozen BK130.out 0; have hfz32_1 := blk_frozen BK130.out 1)))
             go_ret
             exact ⟨by first | rfl | (simp [errW_none, errW_some] <;> rfl) | (simp [*, errW_none, errW_some] <;> rfl), by exact bh⟩
            ·rw [if_neg c28] at H
             have c28b0 : decide (((rd_T61 l1 x23_2).f2) < 1) = false := decide_eq_false c28
             clear c28
             by_cases c33 : 0 ≤ ((rd_T61 l1 x23_2).f1)
             ·rw [if_pos c33] at H
              have c33b0 : decide (0 ≤ ((rd_T61 l1 x23_2).f1)) = true := decide_eq_true c33
              clear c33
              by_cases c34 : ((rd_T61 l1 x23_2).f1) < (l0_1.length : Int)
              ·rw [if_pos c34] at H
               have c34b0 : decide (((rd_T61 l1 x23_2).f1) < (l0_1.length : Int)) = true := decide_eq_true c34
               clear c34
               replace H := Option.bind_eq_some_iff.mp H
               obtain ⟨t135, A350, H⟩ := H
               replace H : (if ((rd_T61 l1 x23_2).f2) > t135 then (some false) else (impl_isTerm.l0 k2 (wrap64 (x5_2 + 1)) l1 (l1.length : Int) (wrap64 (x23_2 + 1)) a0_0 l0_1)) = some r := H
               have A35 := Aside0.mk A350
               clear A350
               by_cases c36 : ((rd_T61 l1 x23_2).f2) > t135
               ·rw [if_pos c36] at H
                have c36b0 : decide (t135 < ((rd_T61 l1 x23_2).f2)) = true := decide_eq_true c36
                clear c36
                obtain rfl := Option.some.inj H
                have p132 : 0 ≤ (x23_2 : Int) := oda
                have q132 : x23_2 < (l1.length : Int) := oda
                obtain ⟨ad132, e132, hx132_0, hx132_1, hx132_2⟩ := at_T61 HR1.out x23_2 p132 q132
                cases e132
                replace hx132_0 := (HB.out.cell (World.block_lt_of_cell? w _ hx132_0)).trans hx132_0
                replace hx132_1 := (HB.out.cell (World.block_lt_of_cell? w _ hx132_1)).trans hx132_1
                replace hx132_2 := (HB.out.cell (World.block_lt_of_cell? w _ hx132_2)).trans hx132_2
                replace p132 := eq_true p132
                replace q132 := eq_true q132
                go_wp2_with (first | ((with_reducible refine gate_dst (N := 7) rfl ?_); (try (refine gate_guard (by rfl) ?_; dsimp only)); refine box_event ?hg (N := 7) ?hd (cs := #[.int .i64 0, .int .i64 0, .int .i64 0]) (t := 61) ?hr ?_; (case hd => rfl); (case hg => rfl); (case hr => first | (go_simp; done) | (go_simp; rfl)); intro gb133 hg w37 hbox hb; have n0_ := Aside0.mk (blk_below (bz BK130) hb); have n1_ := Aside0.mk (below_step bh hb); have n2_ := Aside0.mk (hbox); have n3_ := Aside0.mk ((gs (W0 := w) hg bh)); have n4_ := Aside0.mk ((gs (W0 := w) hg bh)); have n5_ := Aside0.mk ((gn hg (bz BK130))); have n6_ := Aside0.mk ((gm hg (bz BK130))); clear BK130 HB; have BK130 := n0_; have HB := n1_; have BK133 := n2_; have GW133 := n3_; have GE133 := n4_; have NB130_133 := n5_; have NB133_130 := n6_; clear n0_ n1_ n2_ n3_ n4_ n5_ n6_ hb hbox hg; have hnb38 := NB133_130.out; have hnc38 := NB130_133.out; have hcz39_0 := cz0 BK133; have hcz39_1 := cz1 BK133; have hcz39_2 := cz2 BK133; have hfz39_0 := blk_frozen BK133.out 0; have hfz39_1 := blk_frozen BK133.out 1; have hfz39_2 := blk_frozen BK133.out 2; have hcz40_0 := cz0 BK130; have hcz40_1 := cz1 BK130; have hfz40_0 := blk_frozen BK130.out 0; have hfz40_1 := blk_frozen BK130.out 1; have p134 : 0 ≤ (((rd_T61 l1 x23_2).f1) : Int) := oda; have q134 : ((rd_T61 l1 x23_2).f1) < (l0_1.length : Int) := oda; obtain ⟨ad134, e134, hx134_0⟩ := Kd.at_int HR0_1.out ((rd_T61 l1 x23_2).f1) p134 q134; cases e134; have hn134_0 : ad134.block ≠ gb133 := Nat.ne_of_lt (Nat.lt_of_lt_of_le (by have := World.block_lt_of_cell? _ _ hx134_0; first | rwa [add_block] at this | exact this) GW133.out); have hn134_1 : ad134.block ≠ gb133 := Nat.ne_of_lt (Nat.lt_of_lt_of_le (by have := World.block_lt_of_cell? _ _ hx134_0; first | rwa [add_block] at this | exact this) GW133.out); have hn134_2 : ad134.block ≠ gb133 := Nat.ne_of_lt (Nat.lt_of_lt_of_le (by have := World.block_lt_of_cell? _ _ hx134_0; first | rwa [add_block] at this | exact this) GW133.out); replace hx134_0 := (HB.out.cell (World.block_lt_of_cell? w _ hx134_0)).trans hx134_0; replace hx134_0 := (cell_far (p := ⟨gb133, 0, none⟩) (by first | (rw [add_block]; exact hn134_0) | (show (Addr.add _ _).block ≠ _; rw [add_block]; exact hn134_0) | exact hn134_0) (.int .i64 ((rd_T61 l1 x23_2).f0))).trans hx134_0; replace hx134_0 := (cell_far (p := ⟨gb133, 1, none⟩) (by first | (rw [add_block]; exact hn134_1) | (show (Addr.add _ _).block ≠ _; rw [add_block]; exact hn134_1) | exact hn134_1) (.int .i64 ((rd_T61 l1 x23_2).f1))).trans hx134_0; replace hx134_0 := (cell_far (p := ⟨gb133, 2, none⟩) (by first | (rw [add_block]; exact hn134_2) | (show (Addr.add _ _).block ≠ _; rw [add_block]; exact hn134_2) | exact hn134_2) (.int .i64 ((rd_T61 l1 x23_2).f2))).trans hx134_0; (try have hy134_0 := fun (n_ : Nat) => (show (((((w37.drewN n_).setCell ⟨gb133, 0, none⟩ (.int .i64 ((rd_T61 l1 x23_2).f0))).setCell ⟨gb133, 1, none⟩ (.int .i64 ((rd_T61 l1 x23_2).f1))).setCell ⟨gb133, 2, none⟩ (.int .i64 ((rd_T61 l1 x23_2).f2)))).cell? _ = some _ from hx134_0)); clear hn134_0 hn134_1 hn134_2; replace p134 := eq_true p134; replace q134 := eq_true q134) | (go_at_call 71; (with_reducible refine (impl_headsOf.calls (rd l0_1 ((rd_T61 l1 x23_2).f1)) t135 _ A35.out).mono ?_); rintro e w' ⟨rfl, ⟨nd, rfl⟩⟩; (try first | exact ⟨rfl, _, World.drewN_drewN _ _ _⟩ | exact ⟨rfl, _, Eq.trans (World.drewN_drewN _ _ _) (congrArg (World.drewN _) (Nat.add_assoc _ _ _))⟩)))
                repeat (go_quiet (first | ((with_reducible refine gate_dst (N := 7) rfl ?_); (try (refine gate_guard (by rfl) ?_; dsimp only)); refine box_event ?hg (N := 7) ?hd (cs := #[.int .i64 0, .int .i64 0, .int .i64 0]) (t := 61) ?hr ?_; (case hd => rfl); (case hg => rfl); (case hr => first | (go_simp; done) | (go_simp; rfl)); intro gb133 hg w37 hbox hb; have n0_ := Aside0.mk (blk_below (bz BK130) hb); have n1_ := Aside0.mk (below_step bh hb); have n2_ := Aside0.mk (hbox); have n3_ := Aside0.mk ((gs (W0 := w) hg bh)); have n4_ := Aside0.mk ((gs (W0 := w) hg bh)); have n5_ := Aside0.mk ((gn hg (bz BK130))); have n6_ := Aside0.mk ((gm hg (bz BK130))); clear BK130 HB; have BK130 := n0_; have HB := n1_; have BK133 := n2_; have GW133 := n3_; have GE133 := n4_; have NB130_133 := n5_; have NB133_130 := n6_; clear n0_ n1_ n2_ n3_ n4_ n5_ n6_ hb hbox hg; have hnb38 := NB133_130.out; have hnc38 := NB130_133.out; have hcz39_0 := cz0 BK133; have hcz39_1 := cz1 BK133; have hcz39_2 := cz2 BK133; have hfz39_0 := blk_frozen BK133.out 0; have hfz39_1 := blk_frozen BK133.out 1; have hfz39_2 := blk_frozen BK133.out 2; have hcz40_0 := cz0 BK130; have hcz40_1 := cz1 BK130; have hfz40_0 := blk_frozen BK130.out 0; have hfz40_1 := blk_frozen BK130.out 1; have p134 : 0 ≤ (((rd_T61 l1 x23_2).f1) : Int) := oda; have q134 : ((rd_T61 l1 x23_2).f1) < (l0_1.length : Int) := oda; obtain ⟨ad134, e134, hx134_0⟩ := Kd.at_int HR0_1.out ((rd_T61 l1 x23_2).f1) p134 q134; cases e134; have hn134_0 : ad134.block ≠ gb133 := Nat.ne_of_lt (Nat.lt_of_lt_of_le (by have := World.block_lt_of_cell? _ _ hx134_0; first | rwa [add_block] at this | exact this) GW133.out); have hn134_1 : ad134.block ≠ gb133 := Nat.ne_of_lt (Nat.lt_of_lt_of_le (by have := World.block_lt_of_cell? _ _ hx134_0; first | rwa [add_block] at this | exact this) GW133.out); have hn134_2 : ad134.block ≠ gb133 := Nat.ne_of_lt (Nat.lt_of_lt_of_le (by have := World.block_lt_of_cell? _ _ hx134_0; first | rwa [add_block] at this | exact this) GW133.out); replace hx134_0 := (HB.out.cell (World.block_lt_of_cell? w _ hx134_0)).trans hx134_0; replace hx134_0 := (cell_far (p := ⟨gb133, 0, none⟩) (by first | (rw [add_block]; exact hn134_0) | (show (Addr.add _ _).block ≠ _; rw [add_block]; exact hn134_0) | exact hn134_0) (.int .i64 ((rd_T61 l1 x23_2).f0))).trans hx134_0; replace hx134_0 := (cell_far (p := ⟨gb133, 1, none⟩) (by first | (rw [add_block]; exact hn134_1) | (show (Addr.add _ _).block ≠ _; rw [add_block]; exact hn134_1) | exact hn134_1) (.int .i64 ((rd_T61 l1 x23_2).f1))).trans hx134_0; replace hx134_0 := (cell_far (p := ⟨gb133, 2, none⟩) (by first | (rw [add_block]; exact hn134_2) | (show (Addr.add _ _).block ≠ _; rw [add_block]; exact hn134_2) | exact hn134_2) (.int .i64 ((rd_T61 l1 x23_2).f2))).trans hx134_0; (try have hy134_0 := fun (n_ : Nat) => (show (((((w37.drewN n_).setCell ⟨gb133, 0, none⟩ (.int .i64 ((rd_T61 l1 x23_2).f0))).setCell ⟨gb133, 1, none⟩ (.int .i64 ((rd_T61 l1 x23_2).f1))).setCell ⟨gb133, 2, none⟩ (.int .i64 ((rd_T61 l1 x23_2).f2)))).cell? _ = some _ from hx134_0)); clear hn134_0 hn134_1 hn134_2; replace p134 := eq_true p134; replace q134 := eq_true q134) | (go_at_call 71; (with_reducible refine (impl_headsOf.calls (rd l0_1 ((rd_T61 l1 x23_2).f1)) t135 _ A35.out).mono ?_); rintro e w' ⟨rfl, ⟨nd, rfl⟩⟩; (try first | exact ⟨rfl, _, World.drewN_drewN _ _ _⟩ | exact ⟨rfl, _, Eq.trans (World.drewN_drewN _ _ _) (congrArg (World.drewN _) (Nat.add_assoc _ _ _))⟩))); try go_wp2_with (first | ((with_reducible refine gate_dst (N := 7) rfl ?_); (try (refine gate_guard (by rfl) ?_; dsimp only)); refine box_event ?hg (N := 7) ?hd (cs := #[.int .i64 0, .int .i64 0, .int .i64 0]) (t := 61) ?hr ?_; (case hd => rfl); (case hg => rfl); (case hr => first | (go_simp; done) | (go_simp; rfl)); intro gb133 hg w37 hbox hb; have n0_ := Aside0.mk (blk_below (bz BK130) hb); have n1_ := Aside0.mk (below_step bh hb); have n2_ := Aside0.mk (hbox); have n3_ := Aside0.mk ((gs (W0 := w) hg bh)); have n4_ := Aside0.mk ((gs (W0 := w) hg bh)); have n5_ := Aside0.mk ((gn hg (bz BK130))); have n6_ := Aside0.mk ((gm hg (bz BK130))); clear BK130 HB; have BK130 := n0_; have HB := n1_; have BK133 := n2_; have GW133 := n3_; have GE133 := n4_; have NB130_133 := n5_; have NB133_130 := n6_; clear n0_ n1_ n2_ n3_ n4_ n5_ n6_ hb hbox hg; have hnb38 := NB133_130.out; have hnc38 := NB130_133.out; have hcz39_0 := cz0 BK133; have hcz39_1 := cz1 BK133; have hcz39_2 := cz2 BK133; have hfz39_0 := blk_frozen BK133.out 0; have hfz39_1 := blk_frozen BK133.out 1; have hfz39_2 := blk_frozen BK133.out 2; have hcz40_0 := cz0 BK130; have hcz40_1 := cz1 BK130; have hfz40_0 := blk_frozen BK130.out 0; have hfz40_1 := blk_frozen BK130.out 1; have p134 : 0 ≤ (((rd_T61 l1 x23_2).f1) : Int) := oda; have q134 : ((rd_T61 l1 x23_2).f1) < (l0_1.length : Int) := oda; obtain ⟨ad134, e134, hx134_0⟩ := Kd.at_int HR0_1.out ((rd_T61 l1 x23_2).f1) p134 q134; cases e134; have hn134_0 : ad134.block ≠ gb133 := Nat.ne_of_lt (Nat.lt_of_lt_of_le (by have := World.block_lt_of_cell? _ _ hx134_0; first | rwa [add_block] at this | exact this) GW133.out); have hn134_1 : ad134.block ≠ gb133 := Nat.ne_of_lt (Nat.lt_of_lt_of_le (by have := World.block_lt_of_cell? _ _ hx134_0; first | rwa [add_block] at this | exact this) GW133.out); have hn134_2 : ad134.block ≠ gb133 := Nat.ne_of_lt (Nat.lt_of_lt_of_le (by have := World.block_lt_of_cell? _ _ hx134_0; first | rwa [add_block] at this | exact this) GW133.out); replace hx134_0 := (HB.out.cell (World.block_lt_of_cell? w _ hx134_0)).trans hx134_0; replace hx134_0 := (cell_far (p := ⟨gb133, 0, none⟩) (by first | (rw [add_block]; exact hn134_0) | (show (Addr.add _ _).block ≠ _; rw [add_block]; exact hn134_0) | exact hn134_0) (.int .i64 ((rd_T61 l1 x23_2).f0))).trans hx134_0; replace hx134_0 := (cell_far (p := ⟨gb133, 1, none⟩) (by first | (rw [add_block]; exact hn134_1) | (show (Addr.add _ _).block ≠ _; rw [add_block]; exact hn134_1) | exact hn134_1) (.int .i64 ((rd_T61 l1 x23_2).f1))).trans hx134_0; replace hx134_0 := (cell_far (p := ⟨gb133, 2, none⟩) (by first | (rw [add_block]; exact hn134_2) | (show (Addr.add _ _).block ≠ _; rw [add_block]; exact hn134_2) | exact hn134_2) (.int .i64 ((rd_T61 l1 x23_2).f2))).trans hx134_0; (try have hy134_0 := fun (n_ : Nat) => (show (((((w37.drewN n_).setCell ⟨gb133, 0, none⟩ (.int .i64 ((rd_T61 l1 x23_2).f0))).setCell ⟨gb133, 1, none⟩ (.int .i64 ((rd_T61 l1 x23_2).f1))).setCell ⟨gb133, 2, none⟩ (.int .i64 ((rd_T61 l1 x23_2).f2)))).cell? _ = some _ from hx134_0)); clear hn134_0 hn134_1 hn134_2; replace p134 := eq_true p134; replace q134 := eq_true q134) | (go_at_call 71; (with_reducible refine (impl_headsOf.calls (rd l0_1 ((rd_T61 l1 x23_2).f1)) t135 _ A35.out).mono ?_); rintro e w' ⟨rfl, ⟨nd, rfl⟩⟩; (try first | exact ⟨rfl, _, World.drewN_drewN _ _ _⟩ | exact ⟨rfl, _, Eq.trans (World.drewN_drewN _ _ _) (congrArg (World.drewN _) (Nat.add_assoc _ _ _))⟩))))
                go_ret
                exact ⟨by first | rfl | (simp [errW_none, errW_some] <;> rfl) | (simp [*, errW_none, errW_some] <;> rfl), by exact bh⟩
               ·rw [if_neg c36] at H
                have c36b0 : decide (t135 < ((rd_T61 l1 x23_2).f2)) = false := decide_eq_false c36
                clear c36
                have H' := Aside0.mk H
                clear H
                have p132 : 0 ≤ (x23_2 : Int) := oda
                have q132 : x23_2 < (l1.length : Int) := oda
                obtain ⟨ad132, e132, hx132_0, hx132_1, hx132_2⟩ := at_T61 HR1.out x23_2 p132 q132
                cases e132
                replace hx132_0 := (HB.out.cell (World.block_lt_of_cell? w _ hx132_0)).trans hx132_0
                replace hx132_1 := (HB.out.cell (World.block_lt_of_cell? w _ hx132_1)).trans hx132_1
                replace hx132_2 := (HB.out.cell (World.block_lt_of_cell? w _ hx132_2)).trans hx132_2
                replace p132 := eq_true p132
                replace q132 := eq_true q132
                go_wp2_with (first | ((with_reducible refine gate_dst (N := 7) rfl ?_); (try (refine gate_guard (by rfl) ?_; dsimp only)); refine box_event ?hg (N := 7) ?hd (cs := #[.int .i64 0, .int .i64 0, .int .i64 0]) (t := 61) ?hr ?_; (case hd => rfl); (case hg => rfl); (case hr => first | (go_simp; done) | (go_simp; rfl)); intro gb133 hg w41 hbox hb; have n0_ := Aside0.mk (blk_below (bz BK130) hb); have n1_ := Aside0.mk (below_step bh hb); have n2_ := Aside0.mk (hbox); have n3_ := Aside0.mk ((gs (W0 := w) hg bh)); have n4_ := Aside0.mk ((gs (W0 := w) hg bh)); have n5_ := Aside0.mk ((gn hg (bz BK130))); have n6_ := Aside0.mk ((gm hg (bz BK130))); clear BK130 HB; have BK130 := n0_; have HB := n1_; have BK133 := n2_; have GW133 := n3_; have GE133 := n4_; have NB130_133 := n5_; have NB133_130 := n6_; clear n0_ n1_ n2_ n3_ n4_ n5_ n6_ hb hbox hg; have hnb42 := NB133_130.out; have hnc42 := NB130_133.out; have hcz43_0 := cz0 BK133; have hcz43_1 := cz1 BK133; have hcz43_2 := cz2 BK133; have hfz43_0 := blk_frozen BK133.out 0; have hfz43_1 := blk_frozen BK133.out 1; have hfz43_2 := blk_frozen BK133.out 2; have hcz44_0 := cz0 BK130; have hcz44_1 := cz1 BK130; have hfz44_0 := blk_frozen BK130.out 0; have hfz44_1 := blk_frozen BK130.out 1; have p134 : 0 ≤ (((rd_T61 l1 x23_2).f1) : Int) := oda; have q134 : ((rd_T61 l1 x23_2).f1) < (l0_1.length : Int) := oda; obtain ⟨ad134, e134, hx134_0⟩ := Kd.at_int HR0_1.out ((rd_T61 l1 x23_2).f1) p134 q134; cases e134; have hn134_0 : ad134.block ≠ gb133 := Nat.ne_of_lt (Nat.lt_of_lt_of_le (by have := World.block_lt_of_cell? _ _ hx134_0; first | rwa [add_block] at this | exact this) GW133.out); have hn134_1 : ad134.block ≠ gb133 := Nat.ne_of_lt (Nat.lt_of_lt_of_le (by have := World.block_lt_of_cell? _ _ hx134_0; first | rwa [add_block] at this | exact this) GW133.out); have hn134_2 : ad134.block ≠ gb133 := Nat.ne_of_lt (Nat.lt_of_lt_of_le (by have := World.block_lt_of_cell? _ _ hx134_0; first | rwa [add_block] at this | exact this) GW133.out); replace hx134_0 := (HB.out.cell (World.block_lt_of_cell? w _ hx134_0)).trans hx134_0; replace hx134_0 := (cell_far (p := ⟨gb133, 0, none⟩) (by first | (rw [add_block]; exact hn134_0) | (show (Addr.add _ _).block ≠ _; rw [add_block]; exact hn134_0) | exact hn134_0) (.int .i64 ((rd_T61 l1 x23_2).f0))).trans hx134_0; replace hx134_0 := (cell_far (p := ⟨gb133, 1, none⟩) (by first | (rw [add_block]; exact hn134_1) | (show (Addr.add _ _).block ≠ _; rw [add_block]; exact hn134_1) | exact hn134_1) (.int .i64 ((rd_T61 l1 x23_2).f1))).trans hx134_0; replace hx134_0 := (cell_far (p := ⟨gb133, 2, none⟩) (by first | (rw [add_block]; exact hn134_2) | (show (Addr.add _ _).block ≠ _; rw [add_block]; exact hn134_2) | exact hn134_2) (.int .i64 ((rd_T61 l1 x23_2).f2))).trans hx134_0; (try have hy134_0 := fun (n_ : Nat) => (show (((((w41.drewN n_).setCell ⟨gb133, 0, none⟩ (.int .i64 ((rd_T61 l1 x23_2).f0))).setCell ⟨gb133, 1, none⟩ (.int .i64 ((rd_T61 l1 x23_2).f1))).setCell ⟨gb133, 2, none⟩ (.int .i64 ((rd_T61 l1 x23_2).f2)))).cell? _ = some _ from hx134_0)); clear hn134_0 hn134_1 hn134_2; replace p134 := eq_true p134; replace q134 := eq_true q134) | (go_at_call 71; (with_reducible refine (impl_headsOf.calls (rd l0_1 ((rd_T61 l1 x23_2).f1)) t135 _ A35.out).mono ?_); rintro e w' ⟨rfl, ⟨nd, rfl⟩⟩; (try first | exact ⟨rfl, _, World.drewN_drewN _ _ _⟩ | exact ⟨rfl, _, Eq.trans (World.drewN_drewN _ _ _) (congrArg (World.drewN _) (Nat.add_assoc _ _ _))⟩)))
                repeat (go_quiet (first | ((with_reducible refine gate_dst (N := 7) rfl ?_); (try (refine gate_guard (by rfl) ?_; dsimp only)); refine box_event ?hg (N := 7) ?hd (cs := #[.int .i64 0, .int .i64 0, .int .i64 0]) (t := 61) ?hr ?_; (case hd => rfl); (case hg => rfl); (case hr => first | (go_simp; done) | (go_simp; rfl)); intro gb133 hg w41 hbox hb; have n0_ := Aside0.mk (blk_below (bz BK130) hb); have n1_ := Aside0.mk (below_step bh hb); have n2_ := Aside0.mk (hbox); have n3_ := Aside0.mk ((gs (W0 := w) hg bh)); have n4_ := Aside0.mk ((gs (W0 := w) hg bh)); have n5_ := Aside0.mk ((gn hg (bz BK130))); have n6_ := Aside0.mk ((gm hg (bz BK130))); clear BK130 HB; have BK130 := n0_; have HB := n1_; have BK133 := n2_; have GW133 := n3_; have GE133 := n4_; have NB130_133 := n5_; have NB133_130 := n6_; clear n0_ n1_ n2_ n3_ n4_ n5_ n6_ hb hbox hg; have hnb42 := NB133_130.out; have hnc42 := NB130_133.out; have hcz43_0 := cz0 BK133; have hcz43_1 := cz1 BK133; have hcz43_2 := cz2 BK133; have hfz43_0 := blk_frozen BK133.out 0; have hfz43_1 := blk_frozen BK133.out 1; have hfz43_2 := blk_frozen BK133.out 2; have hcz44_0 := cz0 BK130; have hcz44_1 := cz1 BK130; have hfz44_0 := blk_frozen BK130.out 0; have hfz44_1 := blk_frozen BK130.out 1; have p134 : 0 ≤ (((rd_T61 l1 x23_2).f1) : Int) := oda; have q134 : ((rd_T61 l1 x23_2).f1) < (l0_1.length : Int) := oda; obtain ⟨ad134, e134, hx134_0⟩ := Kd.at_int HR0_1.out ((rd_T61 l1 x23_2).f1) p134 q134; cases e134; have hn134_0 : ad134.block ≠ gb133 := Nat.ne_of_lt (Nat.lt_of_lt_of_le (by have := World.block_lt_of_cell? _ _ hx134_0; first | rwa [add_block] at this | exact this) GW133.out); have hn134_1 : ad134.block ≠ gb133 := Nat.ne_of_lt (Nat.lt_of_lt_of_le (by have := World.block_lt_of_cell? _ _ hx134_0; first | rwa [add_block] at this | exact this) GW133.out); have hn134_2 : ad134.block ≠ gb133 := Nat.ne_of_lt (Nat.lt_of_lt_of_le (by have := World.block_lt_of_cell? _ _ hx134_0; first | rwa [add_block] at this | exact this) GW133.out); replace hx134_0 := (HB.out.cell (World.block_lt_of_cell? w _ hx134_0)).trans hx134_0; replace hx134_0 := (cell_far (p := ⟨gb133, 0, none⟩) (by first | (rw [add_block]; exact hn134_0) | (show (Addr.add _ _).block ≠ _; rw [add_block]; exact hn134_0) | exact hn134_0) (.int .i64 ((rd_T61 l1 x23_2).f0))).trans hx134_0; replace hx134_0 := (cell_far (p := ⟨gb133, 1, none⟩) (by first | (rw [add_block]; exact hn134_1) | (show (Addr.add _ _).block ≠ _; rw [add_block]; exact hn134_1) | exact hn134_1) (.int .i64 ((rd_T61 l1 x23_2).f1))).trans hx134_0; replace hx134_0 := (cell_far (p := ⟨gb133, 2, none⟩) (by first | (rw [add_block]; exact hn134_2) | (show (Addr.add _ _).block ≠ _; rw [add_block]; exact hn134_2) | exact hn134_2) (.int .i64 ((rd_T61 l1 x23_2).f2))).trans hx134_0; (try have hy134_0 := fun (n_ : Nat) => (show (((((w41.drewN n_).setCell ⟨gb133, 0, none⟩ (.int .i64 ((rd_T61 l1 x23_2).f0))).setCell ⟨gb133, 1, none⟩ (.int .i64 ((rd_T61 l1 x23_2).f1))).setCell ⟨gb133, 2, none⟩ (.int .i64 ((rd_T61 l1 x23_2).f2)))).cell? _ = some _ from hx134_0)); clear hn134_0 hn134_1 hn134_2; replace p134 := eq_true p134; replace q134 := eq_true q134) | (go_at_call 71; (with_reducible refine (impl_headsOf.calls (rd l0_1 ((rd_T61 l1 x23_2).f1)) t135 _ A35.out).mono ?_); rintro e w' ⟨rfl, ⟨nd, rfl⟩⟩; (try first | exact ⟨rfl, _, World.drewN_drewN _ _ _⟩ | exact ⟨rfl, _, Eq.trans (World.drewN_drewN _ _ _) (congrArg (World.drewN _) (Nat.add_assoc _ _ _))⟩))); try go_wp2_with (first | ((with_reducible refine gate_dst (N := 7) rfl ?_); (try (refine gate_guard (by rfl) ?_; dsimp only)); refine box_event ?hg (N := 7) ?hd (cs := #[.int .i64 0, .int .i64 0, .int .i64 0]) (t := 61) ?hr ?_; (case hd => rfl); (case hg => rfl); (case hr => first | (go_simp; done) | (go_simp; rfl)); intro gb133 hg w41 hbox hb; have n0_ := Aside0.mk (blk_below (bz BK130) hb); have n1_ := Aside0.mk (below_step bh hb); have n2_ := Aside0.mk (hbox); have n3_ := Aside0.mk ((gs (W0 := w) hg bh)); have n4_ := Aside0.mk ((gs (W0 := w) hg bh)); have n5_ := Aside0.mk ((gn hg (bz BK130))); have n6_ := Aside0.mk ((gm hg (bz BK130))); clear BK130 HB; have BK130 := n0_; have HB := n1_; have BK133 := n2_; have GW133 := n3_; have GE133 := n4_; have NB130_133 := n5_; have NB133_130 := n6_; clear n0_ n1_ n2_ n3_ n4_ n5_ n6_ hb hbox hg; have hnb42 := NB133_130.out; have hnc42 := NB130_133.out; have hcz43_0 := cz0 BK133; have hcz43_1 := cz1 BK133; have hcz43_2 := cz2 BK133; have hfz43_0 := blk_frozen BK133.out 0; have hfz43_1 := blk_frozen BK133.out 1; have hfz43_2 := blk_frozen BK133.out 2; have hcz44_0 := cz0 BK130; have hcz44_1 := cz1 BK130; have hfz44_0 := blk_frozen BK130.out 0; have hfz44_1 := blk_frozen BK130.out 1; have p134 : 0 ≤ (((rd_T61 l1 x23_2).f1) : Int) := oda; have q134 : ((rd_T61 l1 x23_2).f1) < (l0_1.length : Int) := oda; obtain ⟨ad134, e134, hx134_0⟩ := Kd.at_int HR0_1.out ((rd_T61 l1 x23_2).f1) p134 q134; cases e134; have hn134_0 : ad134.block ≠ gb133 := Nat.ne_of_lt (Nat.lt_of_lt_of_le (by have := World.block_lt_of_cell? _ _ hx134_0; first | rwa [add_block] at this | exact this) GW133.out); have hn134_1 : ad134.block ≠ gb133 := Nat.ne_of_lt (Nat.lt_of_lt_of_le (by have := World.block_lt_of_cell? _ _ hx134_0; first | rwa [add_block] at this | exact this) GW133.out); have hn134_2 : ad134.block ≠ gb133 := Nat.ne_of_lt (Nat.lt_of_lt_of_le (by have := World.block_lt_of_cell? _ _ hx134_0; first | rwa [add_block] at this | exact this) GW133.out); replace hx134_0 := (HB.out.cell (World.block_lt_of_cell? w _ hx134_0)).trans hx134_0; replace hx134_0 := (cell_far (p := ⟨gb133, 0, none⟩) (by first | (rw [add_block]; exact hn134_0) | (show (Addr.add _ _).block ≠ _; rw [add_block]; exact hn134_0) | exact hn134_0) (.int .i64 ((rd_T61 l1 x23_2).f0))).trans hx134_0; replace hx134_0 := (cell_far (p := ⟨gb133, 1, none⟩) (by first | (rw [add_block]; exact hn134_1) | (show (Addr.add _ _).block ≠ _; rw [add_block]; exact hn134_1) | exact hn134_1) (.int .i64 ((rd_T61 l1 x23_2).f1))).trans hx134_0; replace hx134_0 := (cell_far (p := ⟨gb133, 2, none⟩) (by first | (rw [add_block]; exact hn134_2) | (show (Addr.add _ _).block ≠ _; rw [add_block]; exact hn134_2) | exact hn134_2) (.int .i64 ((rd_T61 l1 x23_2).f2))).trans hx134_0; (try have hy134_0 := fun (n_ : Nat) => (show (((((w41.drewN n_).setCell ⟨gb133, 0, none⟩ (.int .i64 ((rd_T61 l1 x23_2).f0))).setCell ⟨gb133, 1, none⟩ (.int .i64 ((rd_T61 l1 x23_2).f1))).setCell ⟨gb133, 2, none⟩ (.int .i64 ((rd_T61 l1 x23_2).f2)))).cell? _ = some _ from hx134_0)); clear hn134_0 hn134_1 hn134_2; replace p134 := eq_true p134; replace q134 := eq_true q134) | (go_at_call 71; (with_reducible refine (impl_headsOf.calls (rd l0_1 ((rd_T61 l1 x23_2).f1)) t135 _ A35.out).mono ?_); rintro e w' ⟨rfl, ⟨nd, rfl⟩⟩; (try first | exact ⟨rfl, _, World.drewN_drewN _ _ _⟩ | exact ⟨rfl, _, Eq.trans (World.drewN_drewN _ _ _) (congrArg (World.drewN _) (Nat.add_assoc _ _ _))⟩))))
                go_roundg k2
                case measure => have := HJ2.out; have := HK2.out; omega
                case rel => exact ⟨(wrap64 (x5_2 + 1)), (wrap64 (x23_2 + 1)), (by first | rfl | (simp; done) | (simp [*]; done)), (by first | rfl | (simp; done) | (simp [*]; done)), H', ⟨by have := HJ2.out; have := HK2.out; omega⟩, ⟨bf NB130_133 BK130⟩, ⟨by exact bh⟩⟩
              ·rw [if_neg c34] at H
               exact absurd H (by simp)
             ·rw [if_neg c33] at H
              exact absurd H (by simp)
         ·rw [if_neg c18] at H
          have c18b0 : (((rd_T61 l1 x23_2).f0) == 0) = false := beq_eq_false_iff_ne.mpr c18
          have c18b1 : (((rd_T61 l1 x23_2).f0) != 0) = true := bne_iff_ne.mpr c18
          have HC45 := Aside0.mk H
          clear H
          have p132 : 0 ≤ (x23_2 : Int) := oda
          have q132 : x23_2 < (l1.length : Int) := oda
          obtain ⟨ad132, e132, hx132_0, hx132_1, hx132_2⟩ := at_T61 HR1.out x23_2 p132 q132
          cases e132
          replace hx132_0 := (HB.out.cell (World.block_lt_of_cell? w _ hx132_0)).trans hx132_0
          replace hx132_1 := (HB.out.cell (World.block_lt_of_cell? w _ hx132_1)).trans hx132_1
          replace hx132_2 := (HB.out.cell (World.block_lt_of_cell? w _ hx132_2)).trans hx132_2
          replace p132 := eq_true p132
          replace q132 := eq_true q132
          go_upto_if 61 with (first | ((with_reducible refine gate_dst (N := 7) rfl ?_); (try (refine gate_guard (by rfl) ?_; dsimp only)); refine box_event ?hg (N := 7) ?hd (cs := #[.int .i64 0, .int .i64 0, .int .i64 0]) (t := 61) ?hr ?_; (case hd => rfl); (case hg => rfl); (case hr => first | (go_simp; done) | (go_simp; rfl)); intro gb133 hg w46 hbox hb; have n0_ := Aside0.mk (blk_below (bz BK130) hb); have n1_ := Aside0.mk (below_step bh hb); have n2_ := Aside0.mk (hbox); have n3_ := Aside0.mk ((gs (W0 := w) hg bh)); have n4_ := Aside0.mk ((gs (W0 := w) hg bh)); have n5_ := Aside0.mk ((gn hg (bz BK130))); have n6_ := Aside0.mk ((gm hg (bz BK130))); clear BK130 HB; have BK130 := n0_; have HB := n1_; have BK133 := n2_; have GW133 := n3_; have GE133 := n4_; have NB130_133 := n5_; have NB133_130 := n6_; clear n0_ n1_ n2_ n3_ n4_ n5_ n6_ hb hbox hg; have hnb47 := NB133_130.out; have hnc47 := NB130_133.out; have hcz48_0 := cz0 BK133; have hcz48_1 := cz1 BK133; have hcz48_2 := cz2 BK133; have hfz48_0 := blk_frozen BK133.out 0; have hfz48_1 := blk_frozen BK133.out 1; have hfz48_2 := blk_frozen BK133.out 2))
          repeat (go_quiet (first | ((with_reducible refine gate_dst (N := 7) rfl ?_); (try (refine gate_guard (by rfl) ?_; dsimp only)); refine box_event ?hg (N := 7) ?hd (cs := #[.int .i64 0, .int .i64 0, .int .i64 0]) (t := 61) ?hr ?_; (case hd => rfl); (case hg => rfl); (case hr => first | (go_simp; done) | (go_simp; rfl)); intro gb133 hg w46 hbox hb; have n0_ := Aside0.mk (blk_below (bz BK130) hb); have n1_ := Aside0.mk (below_step bh hb); have n2_ := Aside0.mk (hbox); have n3_ := Aside0.mk ((gs (W0 := w) hg bh)); have n4_ := Aside0.mk ((gs (W0 := w) hg bh)); have n5_ := Aside0.mk ((gn hg (bz BK130))); have n6_ := Aside0.mk ((gm hg (bz BK130))); clear BK130 HB; have BK130 := n0_; have HB := n1_; have BK133 := n2_; have GW133 := n3_; have GE133 := n4_; have NB130_133 := n5_; have NB133_130 := n6_; clear n0_ n1_ n2_ n3_ n4_ n5_ n6_ hb hbox hg; have hnb47 := NB133_130.out; have hnc47 := NB130_133.out; have hcz48_0 := cz0 BK133; have hcz48_1 := cz1 BK133; have hcz48_2 := cz2 BK133; have hfz48_0 := blk_frozen BK133.out 0; have hfz48_1 := blk_frozen BK133.out 1; have hfz48_2 := blk_frozen BK133.out 2)); go_upto_if 61 with (first | ((with_reducible refine gate_dst (N := 7) rfl ?_); (try (refine gate_guard (by rfl) ?_; dsimp only)); refine box_event ?hg (N := 7) ?hd (cs := #[.int .i64 0, .int .i64 0, .int .i64 0]) (t := 61) ?hr ?_; (case hd => rfl); (case hg => rfl); (case hr => first | (go_simp; done) | (go_simp; rfl)); intro gb133 hg w46 hbox hb; have n0_ := Aside0.mk (blk_below (bz BK130) hb); have n1_ := Aside0.mk (below_step bh hb); have n2_ := Aside0.mk (hbox); have n3_ := Aside0.mk ((gs (W0 := w) hg bh)); have n4_ := Aside0.mk ((gs (W0 := w) hg bh)); have n5_ := Aside0.mk ((gn hg (bz BK130))); have n6_ := Aside0.mk ((gm hg (bz BK130))); clear BK130 HB; have BK130 := n0_; have HB := n1_; have BK133 := n2_; have GW133 := n3_; have GE133 := n4_; have NB130_133 := n5_; have NB133_130 := n6_; clear n0_ n1_ n2_ n3_ n4_ n5_ n6_ hb hbox hg; have hnb47 := NB133_130.out; have hnc47 := NB130_133.out; have hcz48_0 := cz0 BK133; have hcz48_1 := cz1 BK133; have hcz48_2 := cz2 BK133; have hfz48_0 := blk_frozen BK133.out 0; have hfz48_1 := blk_frozen BK133.out 1; have hfz48_2 := blk_frozen BK133.out 2)))
          (try simp only [Act.put, List.setIfInBounds_toArray, List.set_cons_zero, List.set_cons_succ])
          go_cut [61] (fun v61 wc => ∃ (kq : Nat) (x61_44 : Bool), v61 = .bool x61_44 ∧ Aside0 (impl_isTerm.j2 kq x5_2 l1 (l1.length : Int) x23_2 x61_44 a0_0 l0_1 ((rd_T61 l1 x23_2).f0) ((rd_T61 l1 x23_2).f1) ((rd_T61 l1 x23_2).f2) = some r) ∧ Aside0 (kq ≤ k2) ∧ Aside0 (wc.heap[gb130]? = some (.cells #[.int .i64 a0_0, (.slice A0_1 l0_1.length c0_1)] 25 (0, 0))) ∧ Aside0 (wc.heap[gb133]? = some (.cells #[.int .i64 ((rd_T61 l1 x23_2).f0), .int .i64 ((rd_T61 l1 x23_2).f1), .int .i64 ((rd_T61 l1 x23_2).f2)] 61 (0, 0))) ∧ Aside0 (Below w.heap.size w wc))
          case first =>
           have H := HC45.out
           clear HC45
           by_cases c49 : ((rd_T61 l1 x23_2).f0) = 1
           ·rw [if_pos c49] at H
            have c49b0 : (((rd_T61 l1 x23_2).f0) == 1) = true := beq_iff_eq.mpr c49
            have c49b1 : (((rd_T61 l1 x23_2).f0) != 1) = false := bne_eq_false_iff_eq.mpr c49
            clear c49
            (first | rw [c49b0] | (simp only [i64_w, i32_w]; rw [c49b0]) | skip)
            have H' := Aside0.mk H
            clear H
            go_wp2
            repeat (go_quiet (fail); try go_wp2)
            go_meet
            case rel => exact ⟨_, ((((rd_T61 l1 x23_2).f0) == 1)), (by first | rfl | (simp; done) | (simp [*]; done)), H', ⟨by have := HJ2.out; have := HK2.out; first | omega | exact Nat.le_refl _⟩, ⟨bf NB130_133 BK130⟩, ⟨bp BK133⟩, ⟨by exact bh⟩⟩
           ·rw [if_neg c49] at H
            have c49b0 : (((rd_T61 l1 x23_2).f0) == 1) = false := beq_eq_false_iff_ne.mpr c49
            have c49b1 : (((rd_T61 l1 x23_2).f0) != 1) = true := bne_iff_ne.mpr c49
            (first | rw [c49b0] | (simp only [i64_w, i32_w]; rw [c49b0]) | skip)
            have H' := Aside0.mk H
            clear H
            go_wp2
            repeat (go_quiet (fail); try go_wp2)
            go_meet
            case rel => exact ⟨_, ((((rd_T61 l1 x23_2).f0) == 2)), (by first | rfl | (simp; done) | (simp [*]; done)), H', ⟨by have := HJ2.out; have := HK2.out; first | omega | exact Nat.le_refl _⟩, ⟨bf NB130_133 BK130⟩, ⟨bp BK133⟩, ⟨by exact bh⟩⟩
          case rest =>
           clear HC45
           try clear c1
           try clear p1
           try clear q1
           try clear hx1
           try clear c2
           try clear p2
           try clear c3
           try clear c4
           try clear c6
           try clear p6
           try clear c7
           try clear c7b0
           try clear c7b1
           try clear p13
           try clear q13
           try clear hx13
           try clear c14
           try clear c15
           try clear c15b0
           try clear c16
           try clear c16b0
           try clear c17
           try clear c17b0
           try clear c18
           try clear c18b0
           try clear c18b1
           try clear c19
           try clear c19b0
           try clear c21
           try clear c23
           try clear c23b0
           try clear c25
           try clear c28
           try clear c28b0
           try clear c30
           try clear c33
           try clear c33b0
           try clear c34
           try clear c34b0
           try clear c36
           try clear c36b0
           try clear c38
           try clear c42
           try clear c47
           try clear c49
           try clear c49b0
           try clear c49b1
           try clear hcz10_0
           try clear hcz10_1
           try clear hcz12_0
           try clear hcz12_1
           try clear hcz22_0
           try clear hcz22_1
           try clear hcz22_2
           try clear hcz26_0
           try clear hcz26_1
           try clear hcz26_2
           try clear hcz27_0
           try clear hcz27_1
           try clear hcz31_0
           try clear hcz31_1
           try clear hcz31_2
           try clear hcz32_0
           try clear hcz32_1
           try clear hcz39_0
           try clear hcz39_1
           try clear hcz39_2
           try clear hcz40_0
           try clear hcz40_1
           try clear hcz43_0
           try clear hcz43_1
           try clear hcz43_2
           try clear hcz44_0
           try clear hcz44_1
           try clear hcz48_0
           try clear hcz48_1
           try clear hcz48_2
           try clear hcz8_0
           try clear hcz8_1
           try clear hfz10_0
           try clear hfz10_1
           try clear hfz12_0
           try clear hfz12_1
           try clear hfz22_0
           try clear hfz22_1
           try clear hfz22_2
           try clear hfz26_0
           try clear hfz26_1
           try clear hfz26_2
           try clear hfz27_0
           try clear hfz27_1
           try clear hfz31_0
           try clear hfz31_1
           try clear hfz31_2
           try clear hfz32_0
           try clear hfz32_1
           try clear hfz39_0
           try clear hfz39_1
           try clear hfz39_2
           try clear hfz40_0
           try clear hfz40_1
           try clear hfz43_0
           try clear hfz43_1
           try clear hfz43_2
           try clear hfz44_0
           try clear hfz44_1
           try clear hfz48_0
           try clear hfz48_1
           try clear hfz48_2
           try clear hfz8_0
           try clear hfz8_1
           try clear hx132_0
           try clear hx132_1
           try clear hx132_2
           try clear hx134_0
           try clear p132
           try clear p134
           try clear p2
           try clear q132
           try clear q134
           obtain ⟨kq, x61_44, rfl, HA, HJ44, BK130, BK133, HB⟩ := hcut
           cases kq with
           | zero => exact absurd HA.out (by simp [impl_isTerm.j2])
           | succ kj44 =>
            have H := HA.out
            clear HA
            simp only [impl_isTerm.j2] at H
            by_cases c50 : x61_44 = true
            ·subst c50
             have H1 : (if ((rd_T61 l1 x23_2).f1) = 0 then (if ((rd_T61 l1 x23_2).f2) = 0 then (if x5_2 < 2 then (some false) else (impl_isTerm.l0 kj44 (wrap64 (x5_2 - 1)) l1 (l1.length : Int) (wrap64 (x23_2 + 1)) a0_0 l0_1)) else (some false)) else (some false)) = some r := by rw [if_pos rfl] at H; exact H
             clear H
             have H := H1
             clear H1
             by_cases c51 : ((rd_T61 l1 x23_2).f1) = 0
             ·rw [if_pos c51] at H
              have c51b0 : (((rd_T61 l1 x23_2).f1) == 0) = true := beq_iff_eq.mpr c51
              have c51b1 : (((rd_T61 l1 x23_2).f1) != 0) = false := bne_eq_false_iff_eq.mpr c51
              clear c51
              by_cases c52 : ((rd_T61 l1 x23_2).f2) = 0
              ·rw [if_pos c52] at H
               have c52b0 : (((rd_T61 l1 x23_2).f2) == 0) = true := beq_iff_eq.mpr c52
               have c52b1 : (((rd_T61 l1 x23_2).f2) != 0) = false := bne_eq_false_iff_eq.mpr c52
               clear c52
               by_cases c53 : x5_2 < 2
               ·rw [if_pos c53] at H
                have c53b0 : decide (x5_2 < 2) = true := decide_eq_true c53
                clear c53
                obtain rfl := Option.some.inj H
                have hnb54 := NB133_130.out
                have hnc54 := NB130_133.out
                have hcz55_0 : wc.cell? ⟨gb133, 0, none⟩ = some (.int .i64 ((rd_T61 l1 x23_2).f0)) := (blk_cell BK133.out 0).trans rfl
                have hcz55_1 : wc.cell? ⟨gb133, 1, none⟩ = some (.int .i64 ((rd_T61 l1 x23_2).f1)) := (blk_cell BK133.out 1).trans rfl
                have hcz55_2 : wc.cell? ⟨gb133, 2, none⟩ = some (.int .i64 ((rd_T61 l1 x23_2).f2)) := (blk_cell BK133.out 2).trans rfl
                have hfz55_0 := blk_frozen BK133.out 0
                have hfz55_1 := blk_frozen BK133.out 1
                have hfz55_2 := blk_frozen BK133.out 2
                go_wp2
                repeat (go_quiet (fail); try go_wp2)
                go_ret
                exact ⟨by first | rfl | (simp [errW_none, errW_some] <;> rfl) | (simp [*, errW_none, errW_some] <;> rfl), by exact bh⟩
               ·rw [if_neg c53] at H
                have c53b0 : decide (x5_2 < 2) = false := decide_eq_false c53
                clear c53
                have H' := Aside0.mk H
                clear H
                have hnb56 := NB133_130.out
                have hnc56 := NB130_133.out
                have hcz57_0 : wc.cell? ⟨gb133, 0, none⟩ = some (.int .i64 ((rd_T61 l1 x23_2).f0)) := (blk_cell BK133.out 0).trans rfl
                have hcz57_1 : wc.cell? ⟨gb133, 1, none⟩ = some (.int .i64 ((rd_T61 l1 x23_2).f1)) := (blk_cell BK133.out 1).trans rfl
                have hcz57_2 : wc.cell? ⟨gb133, 2, none⟩ = some (.int .i64 ((rd_T61 l1 x23_2).f2)) := (blk_cell BK133.out 2).trans rfl
                have hfz57_0 := blk_frozen BK133.out 0
                have hfz57_1 := blk_frozen BK133.out 1
                have hfz57_2 := blk_frozen BK133.out 2
                go_wp2
                repeat (go_quiet (fail); try go_wp2)
                go_roundg kj44
                case measure => have := HJ2.out; have := HK2.out; have := HJ44.out; omega
                case rel => exact ⟨(wrap64 (x5_2 - 1)), (wrap64 (x23_2 + 1)), (by first | rfl | (simp; done) | (simp [*]; done)), (by first | rfl | (simp; done) | (simp [*]; done)), H', ⟨by have := HJ2.out; have := HK2.out; have := HJ44.out; omega⟩, ⟨bz BK130⟩, ⟨by exact bh⟩⟩
              ·rw [if_neg c52] at H
               have c52b0 : (((rd_T61 l1 x23_2).f2) == 0) = false := beq_eq_false_iff_ne.mpr c52
               have c52b1 : (((rd_T61 l1 x23_2).f2) != 0) = true := bne_iff_ne.mpr c52
               obtain rfl := Option.some.inj H
               have hnb58 := NB133_130.out
               have hnc58 := NB130_133.out
               have hcz59_0 : wc.cell? ⟨gb133, 0, none⟩ = some (.int .i64 ((rd_T61 l1 x23_2).f0)) := (blk_cell BK133.out 0).trans rfl
               have hcz59_1 : wc.cell? ⟨gb133, 1, none⟩ = some (.int .i64 ((rd_T61 l1 x23_2).f1)) := (blk_cell BK133.out 1).trans rfl
               have hcz59_2 : wc.cell? ⟨gb133, 2, none⟩ = some (.int .i64 ((rd_T61 l1 x23_2).f2)) := (blk_cell BK133.out 2).trans rfl
               have hfz59_0 := blk_frozen BK133.out 0
               have hfz59_1 := blk_frozen BK133.out 1
               have hfz59_2 := blk_frozen BK133.out 2
               go_wp2
               repeat (go_quiet (fail); try go_wp2)
               go_ret
               exact ⟨by first | rfl | (simp [errW_none, errW_some] <;> rfl) | (simp [*, errW_none, errW_some] <;> rfl), by exact bh⟩
             ·rw [if_neg c51] at H
              have c51b0 : (((rd_T61 l1 x23_2).f1) == 0) = false := beq_eq_false_iff_ne.mpr c51
              have c51b1 : (((rd_T61 l1 x23_2).f1) != 0) = true := bne_iff_ne.mpr c51
              obtain rfl := Option.some.inj H
              have hnb60 := NB133_130.out
              have hnc60 := NB130_133.out
              have hcz61_0 : wc.cell? ⟨gb133, 0, none⟩ = some (.int .i64 ((rd_T61 l1 x23_2).f0)) := (blk_cell BK133.out 0).trans rfl
              have hcz61_1 : wc.cell? ⟨gb133, 1, none⟩ = some (.int .i64 ((rd_T61 l1 x23_2).f1)) := (blk_cell BK133.out 1).trans rfl
              have hcz61_2 : wc.cell? ⟨gb133, 2, none⟩ = some (.int .i64 ((rd_T61 l1 x23_2).f2)) := (blk_cell BK133.out 2).trans rfl
              have hfz61_0 := blk_frozen BK133.out 0
              have hfz61_1 := blk_frozen BK133.out 1
              have hfz61_2 := blk_frozen BK133.out 2
              go_wp2
              repeat (go_quiet (fail); try go_wp2)
              go_ret
              exact ⟨by first | rfl | (simp [errW_none, errW_some] <;> rfl) | (simp [*, errW_none, errW_some] <;> rfl), by exact bh⟩
            ·replace c50 := Bool.eq_false_iff.mpr c50
             subst c50
             have H1 : (some false) = some r := by rw [if_neg (show ¬ (false = true) by decide)] at H; exact H
             clear H
             have H := H1
             clear H1
             obtain rfl := Option.some.inj H
             go_wp2
             repeat (go_quiet (fail); try go_wp2)
             go_ret
             exact ⟨by first | rfl | (simp [errW_none, errW_some] <;> rfl) | (simp [*, errW_none, errW_some] <;> rfl), by exact bh⟩
        ·rw [if_neg c17] at H
         exact absurd H (by simp)
       ·rw [if_neg c16] at H
        exact absurd H (by simp)
      ·rw [if_neg c15] at H
       have c15b0 : decide (x23_2 < (l1.length : Int)) = false := decide_eq_false c15
       clear c15
       obtain rfl := Option.some.inj H
       go_wp2
       repeat (go_quiet (fail); try go_wp2)
       go_ret
       exact ⟨by first | rfl | (simp [errW_none, errW_some] <;> rfl) | (simp [*, errW_none, errW_some] <;> rfl), by exact bh⟩

/-! ### cmp_isNaN_int: function 104 -/
def cmp_isNaN_int.f (a0 : Int) : Option (Bool) := some (a0 != a0)
set_option maxHeartbeats 8000000 in
set_option maxRecDepth 100000 in
theorem cmp_isNaN_int.calls (a0 : Int) (r : Bool) (w : World) (h : cmp_isNaN_int.f a0 = some r) :
  Calls Try.prog 104 #[.int .i64 a0] w fun e w' => e = .returned (.bool r) ∧ Drawn0 w w' := by
 have H : (some (a0 != a0)) = some r := h
 clear h
 obtain rfl := Option.some.inj H
 go_enter Try.func104, Try.ntmps104
 go_wp2
 go_ret
 exact ⟨by first | rfl | (simp; done) | (simp [*]; done), by repeat (first | exact Drawn0.refl _ | apply Drawn0.step)⟩

/-! ### cmp_Less_int: function 94 -/
def cmp_Less_int.f (a0 : Int) (a1 : Int) : Option (Bool) := (cmp_isNaN_int.f a0).bind fun t136 => (if t136 = true then ((cmp_isNaN_int.f a1).bind fun t137 => (if t137 = true then (some (decide (a0 < a1))) else (some true))) else (some (decide (a0 < a1))))
set_option maxHeartbeats 8000000 in
set_option maxRecDepth 100000 in
theorem cmp_Less_int.calls (a0 : Int) (a1 : Int) (r : Bool) (w : World) (h : cmp_Less_int.f a0 a1 = some r) :
  Calls Try.prog 94 #[.int .i64 a0, .int .i64 a1] w fun e w' => e = .returned (.bool r) ∧ Drawn0 w w' := by
 have H : ((cmp_isNaN_int.f a0).bind fun t136 => (if t136 = true then ((cmp_isNaN_int.f a1).bind fun t137 => (if t137 = true then (some (decide (a0 < a1))) else (some true))) else (some (decide (a0 < a1))))) = some r := h
 clear h
 replace H := Option.bind_eq_some_iff.mp H
 obtain ⟨t136, A30, H⟩ := H
 replace H : (if t136 = true then ((cmp_isNaN_int.f a1).bind fun t137 => (if t137 = true then (some (decide (a0 < a1))) else (some true))) else (some (decide (a0 < a1)))) = some r := H
 have A3 := Aside0.mk A30
 clear A30
 by_cases c4 : t136 = true
 ·subst c4
  have H1 : ((cmp_isNaN_int.f a1).bind fun t137 => (if t137 = true then (some (decide (a0 < a1))) else (some true))) = some r := by rw [if_pos rfl] at H; exact H
  clear H
  have H := H1
  clear H1
  replace H := Option.bind_eq_some_iff.mp H
  obtain ⟨t137, A50, H⟩ := H
  replace H : (if t137 = true then (some (decide (a0 < a1))) else (some true)) = some r := H
  have A5 := Aside0.mk A50
  clear A50
  by_cases c6 : t137 = true
  ·subst c6
   have H1 : (some (decide (a0 < a1))) = some r := by rw [if_pos rfl] at H; exact H
   clear H
   have H := H1
   clear H1
   obtain rfl := Option.some.inj H
   go_enter Try.func94, Try.ntmps94
   go_wp2_with (first | ((with_reducible refine gate_callee (f := 104) rfl ?_); refine goesL_ (some 6) rfl rfl Try.func104 kr rfl #[.int .i64 a0] rfl lm ?_; (with_reducible refine (cmp_isNaN_int.calls a0 true _ A3.out).mono ?_); rintro e w' ⟨rfl, ⟨nd, rfl⟩⟩; refine ⟨_, rfl, ?_⟩) | (go_at_call 104; (with_reducible refine (cmp_isNaN_int.calls a1 true _ A5.out).mono ?_); rintro e w' ⟨rfl, ⟨nd, rfl⟩⟩))
   go_ret
   exact ⟨by first | rfl | (simp; done) | (simp [*]; done), by repeat (first | exact Drawn0.refl _ | apply Drawn0.step)⟩
  ·replace c6 := Bool.eq_false_iff.mpr c6
   subst c6
   have H1 : (some true) = some r := by rw [if_neg (show ¬ (false = true) by decide)] at H; exact H
   clear H
   have H := H1
   clear H1
   obtain rfl := Option.some.inj H
   go_enter Try.func94, Try.ntmps94
   go_wp2_with (first | ((with_reducible refine gate_callee (f := 104) rfl ?_); refine goesL_ (some 6) rfl rfl Try.func104 kr rfl #[.int .i64 a0] rfl lm ?_; (with_reducible refine (cmp_isNaN_int.calls a0 true _ A3.out).mono ?_); rintro e w' ⟨rfl, ⟨nd, rfl⟩⟩; refine ⟨_, rfl, ?_⟩) | (go_at_call 104; (with_reducible refine (cmp_isNaN_int.calls a1 false _ A5.out).mono ?_); rintro e w' ⟨rfl, ⟨nd, rfl⟩⟩))
   go_ret
   exact ⟨by first | rfl | (simp; done) | (simp [*]; done), by repeat (first | exact Drawn0.refl _ | apply Drawn0.step)⟩
 ·replace c4 := Bool.eq_false_iff.mpr c4
  subst c4
  have H1 : (some (decide (a0 < a1))) = some r := by rw [if_neg (show ¬ (false = true) by decide)] at H; exact H
  clear H
  have H := H1
  clear H1
  obtain rfl := Option.some.inj H
  go_enter Try.func94, Try.ntmps94
  go_wp2_with (first | ((with_reducible refine gate_callee (f := 104) rfl ?_); refine goesL_ (some 6) rfl rfl Try.func104 kr rfl #[.int .i64 a0] rfl lm ?_; (with_reducible refine (cmp_isNaN_int.calls a0 false _ A3.out).mono ?_); rintro e w' ⟨rfl, ⟨nd, rfl⟩⟩; refine ⟨_, rfl, ?_⟩))
  go_ret
  exact ⟨by first | rfl | (simp; done) | (simp [*]; done), by repeat (first | exact Drawn0.refl _ | apply Drawn0.step)⟩

end Go.Proofs.Ytaddlahbahedeaa.QFnClashOk
