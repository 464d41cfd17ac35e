-- Printed for this claim by a turned copy of the print (wip/myprint). Lean checks it. Squeezed. Worded. Tightened.
import Derived.Test.YtmbphgdfadoknaaQFnCharterOkx0
import Derived.Test.YtmbphgdfadoknaaQFnCharterOkx5
import Derived.Test.YtmbphgdfadoknaaQFnCharterOkx6
namespace Go.Proofs.Ytmbphgdfadoknaa.QFnCharterOk
open Go.RowKit Go.Proofs.YtmbphgdfadoknaaW.PrintWords Go.Proofs.YtmbphgdfadoknaaW.PrintLast Go.Proofs.YtmbphgdfadoknaaW.PrintMore
attribute [local go_sem] max2_int min2_int max_two min_two max_three min_three max_four min_four Opens.cell_twice   -- for this text's walks alone
set_option linter.unusedVariables false
set_option linter.unusedSimpArgs false

/-! ### impl_isCharter: function 28 -/
mutual
def impl_isCharter.j0 : Nat → Bool → Int → List Int → List (List (S35)) → Option (Bool)
 | 0, _, _, _, _ => none
 | k + 1, x22, x250000, x250001, x250002 => if x22 = true then (some false) else (impl_isCharter.l0 k x250002 (x250002.length : Int) 0 x250000 x250001 x250002)
def impl_isCharter.l0 : Nat → List (List (S35)) → Int → Int → Int → List Int → List (List (S35)) → Option (Bool)
 | 0, _, _, _, _, _, _ => none
 | k + 1, x24, x25, x26, x250000, x250001, x250002 => if x26 < x25 then (if 0 ≤ x26 then (if x26 < (x24.length : Int) then (if ((rd_L5 x24 x26).length : Int) < 1 then (impl_isCharter.j2 k x26 (rd_L5 x24 x26) x24 x25 x26 true x250000 x250001 x250002) else (impl_isCharter.j2 k x26 (rd_L5 x24 x26) x24 x25 x26 (decide (((rd_L5 x24 x26).length : Int) > 3)) x250000 x250001 x250002)) else (none)) else (none)) else (some true)
def impl_isCharter.j2 : Nat → Int → List (S35) → List (List (S35)) → Int → Int → Bool → Int → List Int → List (List (S35)) → Option (Bool)
 | 0, _, _, _, _, _, _, _, _, _ => none
 | k + 1, x3, x4, x24, x25, x26, x38, x250000, x250001, x250002 => if x38 = true then (some false) else (impl_isCharter.l1 k x3 x24 x25 x26 x4 (x4.length : Int) 0 x250000 x250001 x250002)
def impl_isCharter.l1 : Nat → Int → List (List (S35)) → Int → Int → List (S35) → Int → Int → Int → List Int → List (List (S35)) → Option (Bool)
 | 0, _, _, _, _, _, _, _, _, _, _ => none
 | k + 1, x3, x24, x25, x26, x39, x40, x41, x250000, x250001, x250002 => if x41 < x40 then (if 0 ≤ x41 then (if x41 < (x39.length : Int) then ((impl_isTerm.f k x250000 x250001 ((rd_T35 x39 x41).f0)).bind fun t254 => (if t254 = true then (if ((rd_T35 x39 x41).f1) = (-1) then (impl_isCharter.j4 k x3 x24 x25 x26 x39 x40 x41 (((rd_T35 x39 x41).f2) == 0) x250000 x250001 x250002 ((rd_T35 x39 x41).f0) ((rd_T35 x39 x41).f1) ((rd_T35 x39 x41).f2)) else (impl_isCharter.j4 k x3 x24 x25 x26 x39 x40 x41 false x250000 x250001 x250002 ((rd_T35 x39 x41).f0) ((rd_T35 x39 x41).f1) ((rd_T35 x39 x41).f2))) else (some false))) else (none)) else (none)) else (impl_isCharter.l0 k x24 x25 (wrap64 (x26 + 1)) x250000 x250001 x250002)
def impl_isCharter.j4 : Nat → Int → List (List (S35)) → Int → Int → List (S35) → Int → Int → Bool → Int → List Int → List (List (S35)) → List (S75) → Int → Int → Option (Bool)
 | 0, _, _, _, _, _, _, _, _, _, _, _, _, _, _ => none
 | k + 1, x3, x24, x25, x26, x39, x40, x41, x58, x250000, x250001, x250002, x254000, x254001, x254002 => if x58 = true then (impl_isCharter.l1 k x3 x24 x25 x26 x39 x40 (wrap64 (x41 + 1)) x250000 x250001 x250002) else (if x254001 < 0 then (some false) else (if x254001 ≥ (x250002.length : Int) then (some false) else (if x254001 = x3 then (some false) else (if x254002 < 0 then (some false) else (if 0 ≤ x254001 then (if x254001 < (x250002.length : Int) then (if x254002 ≥ ((rd_L5 x250002 x254001).length : Int) then (some false) else (impl_isCharter.l1 k x3 x24 x25 x26 x39 x40 (wrap64 (x41 + 1)) x250000 x250001 x250002)) else (none)) else (none))))))
end
def impl_isCharter.f (k : Nat) (a0_0 : Int) (l0_1 : List Int) (l0_2 : List (List (S35))) : Option (Bool) := (impl_isHouse.f k a0_0 l0_1).bind fun t250 => (if t250 = true then (if (l0_2.length : Int) < 1 then (impl_isCharter.j0 k true a0_0 l0_1 l0_2) else (impl_isCharter.j0 k (decide ((l0_2.length : Int) > 3)) a0_0 l0_1 l0_2)) else (impl_isCharter.j0 k true a0_0 l0_1 l0_2))
theorem impl_isCharter.mono_l : ∀ k, (∀ y0 y1 y2 y3, LeO (impl_isCharter.j0 k y0 y1 y2 y3) (impl_isCharter.j0 (k + 1) y0 y1 y2 y3)) ∧ (∀ y0 y1 y2 y3 y4 y5, LeO (impl_isCharter.l0 k y0 y1 y2 y3 y4 y5) (impl_isCharter.l0 (k + 1) y0 y1 y2 y3 y4 y5)) ∧ (∀ y0 y1 y2 y3 y4 y5 y6 y7 y8, LeO (impl_isCharter.j2 k y0 y1 y2 y3 y4 y5 y6 y7 y8) (impl_isCharter.j2 (k + 1) y0 y1 y2 y3 y4 y5 y6 y7 y8)) ∧ (∀ y0 y1 y2 y3 y4 y5 y6 y7 y8 y9, LeO (impl_isCharter.l1 k y0 y1 y2 y3 y4 y5 y6 y7 y8 y9) (impl_isCharter.l1 (k + 1) y0 y1 y2 y3 y4 y5 y6 y7 y8 y9)) ∧ (∀ y0 y1 y2 y3 y4 y5 y6 y7 y8 y9 y10 y11 y12 y13, LeO (impl_isCharter.j4 k y0 y1 y2 y3 y4 y5 y6 y7 y8 y9 y10 y11 y12 y13) (impl_isCharter.j4 (k + 1) y0 y1 y2 y3 y4 y5 y6 y7 y8 y9 y10 y11 y12 y13))
 | 0 => ⟨fun _ _ _ _ r h => by simp [impl_isCharter.j0] at h, fun _ _ _ _ _ _ r h => by simp [impl_isCharter.l0] at h, fun _ _ _ _ _ _ _ _ _ r h => by simp [impl_isCharter.j2] at h, fun _ _ _ _ _ _ _ _ _ _ r h => by simp [impl_isCharter.l1] at h, fun _ _ _ _ _ _ _ _ _ _ _ _ _ _ r h => by simp [impl_isCharter.j4] at h⟩
 | k + 1 => by
  obtain ⟨ih0, ih1, ih2, ih3, ih4⟩ := impl_isCharter.mono_l k
  refine ⟨?_, ?_, ?_, ?_, ?_⟩
  ·intro y0 y1 y2 y3
   unfold impl_isCharter.j0
   repeat' first
   | (with_reducible exact ih0 _ _ _ _)
   | (with_reducible exact ih1 _ _ _ _ _ _)
   | (with_reducible exact ih2 _ _ _ _ _ _ _ _ _)
   | (with_reducible exact ih3 _ _ _ _ _ _ _ _ _ _)
   | (with_reducible exact ih4 _ _ _ _ _ _ _ _ _ _ _ _ _ _)
   | (with_reducible exact impl_isHouse.mono _ _ _)
   | (with_reducible exact impl_isTerm.mono _ _ _ _)
   | (with_reducible exact LeO.refl _)
   | (with_reducible exact LeO.none _)
   | (with_reducible refine LeO.ite ?_ ?_)
   | (with_reducible refine LeO.bind ?_ (fun _ => ?_))
   | exact ih0 _ _ _ _
   | exact ih1 _ _ _ _ _ _
   | exact ih2 _ _ _ _ _ _ _ _ _
   | exact ih3 _ _ _ _ _ _ _ _ _ _
   | exact ih4 _ _ _ _ _ _ _ _ _ _ _ _ _ _
   | exact impl_isHouse.mono _ _ _
   | exact impl_isTerm.mono _ _ _ _
   | exact LeO.none _
   | refine LeO.ite ?_ ?_
   | refine LeO.bind ?_ (fun _ => ?_)
  ·intro y0 y1 y2 y3 y4 y5
   unfold impl_isCharter.l0
   repeat' first
   | (with_reducible exact ih0 _ _ _ _)
   | (with_reducible exact ih1 _ _ _ _ _ _)
   | (with_reducible exact ih2 _ _ _ _ _ _ _ _ _)
   | (with_reducible exact ih3 _ _ _ _ _ _ _ _ _ _)
   | (with_reducible exact ih4 _ _ _ _ _ _ _ _ _ _ _ _ _ _)
   | (with_reducible exact impl_isHouse.mono _ _ _)
   | (with_reducible exact impl_isTerm.mono _ _ _ _)
   | (with_reducible exact LeO.refl _)
   | (with_reducible exact LeO.none _)
   | (with_reducible refine LeO.ite ?_ ?_)
   | (with_reducible refine LeO.bind ?_ (fun _ => ?_))
   | exact ih0 _ _ _ _
   | exact ih1 _ _ _ _ _ _
   | exact ih2 _ _ _ _ _ _ _ _ _
   | exact ih3 _ _ _ _ _ _ _ _ _ _
   | exact ih4 _ _ _ _ _ _ _ _ _ _ _ _ _ _
   | exact impl_isHouse.mono _ _ _
   | exact impl_isTerm.mono _ _ _ _
   | exact LeO.none _
   | refine LeO.ite ?_ ?_
   | refine LeO.bind ?_ (fun _ => ?_)
  ·intro y0 y1 y2 y3 y4 y5 y6 y7 y8
   unfold impl_isCharter.j2
   repeat' first
   | (with_reducible exact ih0 _ _ _ _)
   | (with_reducible exact ih1 _ _ _ _ _ _)
   | (with_reducible exact ih2 _ _ _ _ _ _ _ _ _)
   | (with_reducible exact ih3 _ _ _ _ _ _ _ _ _ _)
   | (with_reducible exact ih4 _ _ _ _ _ _ _ _ _ _ _ _ _ _)
   | (with_reducible exact impl_isHouse.mono _ _ _)
   | (with_reducible exact impl_isTerm.mono _ _ _ _)
   | (with_reducible exact LeO.refl _)
   | (with_reducible exact LeO.none _)
   | (with_reducible refine LeO.ite ?_ ?_)
   | (with_reducible refine LeO.bind ?_ (fun _ => ?_))
   | exact ih0 _ _ _ _
   | exact ih1 _ _ _ _ _ _
   | exact ih2 _ _ _ _ _ _ _ _ _
   | exact ih3 _ _ _ _ _ _ _ _ _ _
   | exact ih4 _ _ _ _ _ _ _ _ _ _ _ _ _ _
   | exact impl_isHouse.mono _ _ _
   | exact impl_isTerm.mono _ _ _ _
   | exact LeO.none _
   | refine LeO.ite ?_ ?_
   | refine LeO.bind ?_ (fun _ => ?_)
  ·intro y0 y1 y2 y3 y4 y5 y6 y7 y8 y9
   unfold impl_isCharter.l1
   repeat' first
   | (with_reducible exact ih0 _ _ _ _)
   | (with_reducible exact ih1 _ _ _ _ _ _)
   | (with_reducible exact ih2 _ _ _ _ _ _ _ _ _)
   | (with_reducible exact ih3 _ _ _ _ _ _ _ _ _ _)
   | (with_reducible exact ih4 _ _ _ _ _ _ _ _ _ _ _ _ _ _)
   | (with_reducible exact impl_isHouse.mono _ _ _)
   | (with_reducible exact impl_isTerm.mono _ _ _ _)
   | (with_reducible exact LeO.refl _)
   | (with_reducible exact LeO.none _)
   | (with_reducible refine LeO.ite ?_ ?_)
   | (with_reducible refine LeO.bind ?_ (fun _ => ?_))
   | exact ih0 _ _ _ _
   | exact ih1 _ _ _ _ _ _
   | exact ih2 _ _ _ _ _ _ _ _ _
   | exact ih3 _ _ _ _ _ _ _ _ _ _
   | exact ih4 _ _ _ _ _ _ _ _ _ _ _ _ _ _
   | exact impl_isHouse.mono _ _ _
   | exact impl_isTerm.mono _ _ _ _
   | exact LeO.none _
   | refine LeO.ite ?_ ?_
   | refine LeO.bind ?_ (fun _ => ?_)
  ·intro y0 y1 y2 y3 y4 y5 y6 y7 y8 y9 y10 y11 y12 y13
   unfold impl_isCharter.j4
   repeat' first
   | (with_reducible exact ih0 _ _ _ _)
   | (with_reducible exact ih1 _ _ _ _ _ _)
   | (with_reducible exact ih2 _ _ _ _ _ _ _ _ _)
   | (with_reducible exact ih3 _ _ _ _ _ _ _ _ _ _)
   | (with_reducible exact ih4 _ _ _ _ _ _ _ _ _ _ _ _ _ _)
   | (with_reducible exact impl_isHouse.mono _ _ _)
   | (with_reducible exact impl_isTerm.mono _ _ _ _)
   | (with_reducible exact LeO.refl _)
   | (with_reducible exact LeO.none _)
   | (with_reducible refine LeO.ite ?_ ?_)
   | (with_reducible refine LeO.bind ?_ (fun _ => ?_))
   | exact ih0 _ _ _ _
   | exact ih1 _ _ _ _ _ _
   | exact ih2 _ _ _ _ _ _ _ _ _
   | exact ih3 _ _ _ _ _ _ _ _ _ _
   | exact ih4 _ _ _ _ _ _ _ _ _ _ _ _ _ _
   | exact impl_isHouse.mono _ _ _
   | exact impl_isTerm.mono _ _ _ _
   | exact LeO.none _
   | refine LeO.ite ?_ ?_
   | refine LeO.bind ?_ (fun _ => ?_)
theorem impl_isCharter.mono : ∀ a0 a1 a2 k, LeO (impl_isCharter.f k a0 a1 a2) (impl_isCharter.f (k + 1) a0 a1 a2) := by
 intro a0 a1 a2 k
 obtain ⟨ih0, ih1, ih2, ih3, ih4⟩ := impl_isCharter.mono_l k
 unfold impl_isCharter.f
 repeat' first
   | (with_reducible exact ih0 _ _ _ _)
   | (with_reducible exact ih1 _ _ _ _ _ _)
   | (with_reducible exact ih2 _ _ _ _ _ _ _ _ _)
   | (with_reducible exact ih3 _ _ _ _ _ _ _ _ _ _)
   | (with_reducible exact ih4 _ _ _ _ _ _ _ _ _ _ _ _ _ _)
   | (with_reducible exact impl_isHouse.mono _ _ _)
   | (with_reducible exact impl_isTerm.mono _ _ _ _)
   | (with_reducible exact LeO.refl _)
   | (with_reducible exact LeO.none _)
   | (with_reducible refine LeO.ite ?_ ?_)
   | (with_reducible refine LeO.bind ?_ (fun _ => ?_))
   | exact ih0 _ _ _ _
   | exact ih1 _ _ _ _ _ _
   | exact ih2 _ _ _ _ _ _ _ _ _
   | exact ih3 _ _ _ _ _ _ _ _ _ _
   | exact ih4 _ _ _ _ _ _ _ _ _ _ _ _ _ _
   | exact impl_isHouse.mono _ _ _
   | exact impl_isTerm.mono _ _ _ _
   | exact LeO.none _
   | refine LeO.ite ?_ ?_
   | refine LeO.bind ?_ (fun _ => ?_)
set_option maxHeartbeats 8000000 in
set_option maxRecDepth 100000 in
theorem impl_isCharter.calls (k : Nat) (a0_0 : Int) (A0_1 : Option Addr) (c0_1 : Nat) (l0_1 : List Int) (A0_2 : Option Addr) (c0_2 : Nat) (l0_2 : List (List (S35))) (r : Bool) (w : World) (hr0_1 : Kd.C (Kd.int .i64) w A0_1 l0_1.length l0_1) (hc0_1 : l0_1.length ≤ c0_1) (hr0_2 : Kd.C (Kd.slice 35 k35) w A0_2 l0_2.length l0_2) (hc0_2 : l0_2.length ≤ c0_2) (h : impl_isCharter.f k a0_0 l0_1 l0_2 = some r) :
  Calls Try.prog 28 #[.agg #[.int .i64 a0_0, .slice A0_1 l0_1.length c0_1, .slice A0_2 l0_2.length c0_2]] w fun e w' => e = .returned (.bool r) ∧ Below w.heap.size w w' := by
 have hu28 := Try.underlying28
 have hu25 := Try.underlying25
 have hu35 := Try.underlying35
 have HR0_1 := Aside0.mk hr0_1
 have HC0_1 := Aside0.mk hc0_1
 clear hr0_1 hc0_1
 have HR0_2 := Aside0.mk hr0_2
 have HC0_2 := Aside0.mk hc0_2
 clear hr0_2 hc0_2
 have HB := Aside0.mk (Below.refl w.heap.size w)
 have H : ((impl_isHouse.f k a0_0 l0_1).bind fun t250 => (if t250 = true then (if (l0_2.length : Int) < 1 then (impl_isCharter.j0 k true a0_0 l0_1 l0_2) else (impl_isCharter.j0 k (decide ((l0_2.length : Int) > 3)) a0_0 l0_1 l0_2)) else (impl_isCharter.j0 k true a0_0 l0_1 l0_2))) = some r := h
 clear h
 have HC2 := Aside0.mk H
 clear H
 go_enter Try.func28, Try.ntmps28
 go_upto_region 1 with (first | ((with_reducible refine gate_dst (N := 1) rfl ?_); (try (refine gate_guard (by rfl) ?_; dsimp only)); refine box_event ?hg (N := 1) ?hd (cs := #[.int .i64 a0_0, .slice A0_1 l0_1.length c0_1, .slice A0_2 l0_2.length c0_2]) (t := 28) ?hr ?_; (case hd => rfl); (case hg => rfl); (case hr => first | (go_simp; done) | (go_simp; rfl)); intro gb249 hg w3 hbox hb; have n0_ := Aside0.mk (below_step bh hb); have n1_ := Aside0.mk (hbox); have n2_ := Aside0.mk ((gs (W0 := w) hg bh)); have n3_ := Aside0.mk ((gs (W0 := w) hg bh)); clear HB; have HB := n0_; have BK249 := n1_; have GW249 := n2_; have GE249 := n3_; clear n0_ n1_ n2_ n3_ hb hbox hg))
 repeat (go_quiet (first | ((with_reducible refine gate_dst (N := 1) rfl ?_); (try (refine gate_guard (by rfl) ?_; dsimp only)); refine box_event ?hg (N := 1) ?hd (cs := #[.int .i64 a0_0, .slice A0_1 l0_1.length c0_1, .slice A0_2 l0_2.length c0_2]) (t := 28) ?hr ?_; (case hd => rfl); (case hg => rfl); (case hr => first | (go_simp; done) | (go_simp; rfl)); intro gb249 hg w3 hbox hb; have n0_ := Aside0.mk (below_step bh hb); have n1_ := Aside0.mk (hbox); have n2_ := Aside0.mk ((gs (W0 := w) hg bh)); have n3_ := Aside0.mk ((gs (W0 := w) hg bh)); clear HB; have HB := n0_; have BK249 := n1_; have GW249 := n2_; have GE249 := n3_; clear n0_ n1_ n2_ n3_ hb hbox hg)); go_upto_region 1 with (first | ((with_reducible refine gate_dst (N := 1) rfl ?_); (try (refine gate_guard (by rfl) ?_; dsimp only)); refine box_event ?hg (N := 1) ?hd (cs := #[.int .i64 a0_0, .slice A0_1 l0_1.length c0_1, .slice A0_2 l0_2.length c0_2]) (t := 28) ?hr ?_; (case hd => rfl); (case hg => rfl); (case hr => first | (go_simp; done) | (go_simp; rfl)); intro gb249 hg w3 hbox hb; have n0_ := Aside0.mk (below_step bh hb); have n1_ := Aside0.mk (hbox); have n2_ := Aside0.mk ((gs (W0 := w) hg bh)); have n3_ := Aside0.mk ((gs (W0 := w) hg bh)); clear HB; have HB := n0_; have BK249 := n1_; have GW249 := n2_; have GE249 := n3_; clear n0_ n1_ n2_ n3_ hb hbox hg)))
 (try simp only [Act.put, List.setIfInBounds_toArray, List.set_cons_zero, List.set_cons_succ])
 go_cut [22] (fun v22 wc => ∃ (kq : Nat) (x22_1 : Bool), v22 = .bool x22_1 ∧ Aside0 (impl_isCharter.j0 kq x22_1 a0_0 l0_1 l0_2 = some r) ∧ Aside0 (kq ≤ k) ∧ Aside0 (wc.heap[gb249]? = some (.cells #[.int .i64 a0_0, (.slice A0_1 l0_1.length c0_1), (.slice A0_2 l0_2.length c0_2)] 28 (0, 0))) ∧ Aside0 (Below w.heap.size w wc))
 case first =>
  have H := HC2.out
  clear HC2
  replace H := Option.bind_eq_some_iff.mp H
  obtain ⟨t250, A40, H⟩ := H
  replace H : (if t250 = true then (if (l0_2.length : Int) < 1 then (impl_isCharter.j0 k true a0_0 l0_1 l0_2) else (impl_isCharter.j0 k (decide ((l0_2.length : Int) > 3)) a0_0 l0_1 l0_2)) else (impl_isCharter.j0 k true a0_0 l0_1 l0_2)) = some r := H
  have A4 := Aside0.mk A40
  clear A40
  by_cases c5 : t250 = true
  ·subst c5
   have H1 : (if (l0_2.length : Int) < 1 then (impl_isCharter.j0 k true a0_0 l0_1 l0_2) else (impl_isCharter.j0 k (decide ((l0_2.length : Int) > 3)) a0_0 l0_1 l0_2)) = some r := by rw [if_pos rfl] at H; exact H
   clear H
   have H := H1
   clear H1
   by_cases c6 : (l0_2.length : Int) < 1
   ·rw [if_pos c6] at H
    have c6b0 : decide ((l0_2.length : Int) < 1) = true := decide_eq_true c6
    have c6b1 : decide (l0_2.length < 1) = true := decide_eq_true (by omega)
    clear c6
    (first | rw [c6b0] | (simp only [i64_w, i32_w]; rw [c6b0]) | skip)
    have H' := Aside0.mk H
    clear H
    have hcz7_0 := cz0 BK249
    have hcz7_1 := cz1 BK249
    have hcz7_2 := cz2 BK249
    have hfz7_0 := blk_frozen BK249.out 0
    have hfz7_1 := blk_frozen BK249.out 1
    have hfz7_2 := blk_frozen BK249.out 2
    go_wp2_with (first | (go_at_call 47; (with_reducible refine (impl_isHouse.calls k a0_0 _ _ l0_1 true _ ?side1 ?side2 A4.out).mono ?_); (case side1 => repeat (first | exact (Kd.C_below HR0_1.out HB.out) | (with_reducible refine Kd.C_alloc ?_ _) | (with_reducible refine Kd.C_drewN ?_ _) | (with_reducible refine Kd.C_drew ?_))); (case side2 => exact HC0_1.out); rintro e w8 ⟨rfl, hb⟩; have n0_ := Aside0.mk (blk_below (bz BK249) hb); have n1_ := Aside0.mk (below_step bh hb); clear BK249 HB; have BK249 := n0_; have HB := n1_; clear n0_ n1_; (try clear hb); (try clear hb2); (try clear hk); (try clear hi); have hcz9_0 := cz0 BK249; have hcz9_1 := cz1 BK249; have hcz9_2 := cz2 BK249; have hfz9_0 := blk_frozen BK249.out 0; have hfz9_1 := blk_frozen BK249.out 1; have hfz9_2 := blk_frozen BK249.out 2))
    repeat (go_quiet (first | (go_at_call 47; (with_reducible refine (impl_isHouse.calls k a0_0 _ _ l0_1 true _ ?side1 ?side2 A4.out).mono ?_); (case side1 => repeat (first | exact (Kd.C_below HR0_1.out HB.out) | (with_reducible refine Kd.C_alloc ?_ _) | (with_reducible refine Kd.C_drewN ?_ _) | (with_reducible refine Kd.C_drew ?_))); (case side2 => exact HC0_1.out); rintro e w8 ⟨rfl, hb⟩; have n0_ := Aside0.mk (blk_below (bz BK249) hb); have n1_ := Aside0.mk (below_step bh hb); clear BK249 HB; have BK249 := n0_; have HB := n1_; clear n0_ n1_; (try clear hb); (try clear hb2); (try clear hk); (try clear hi); have hcz9_0 := cz0 BK249; have hcz9_1 := cz1 BK249; have hcz9_2 := cz2 BK249; have hfz9_0 := blk_frozen BK249.out 0; have hfz9_1 := blk_frozen BK249.out 1; have hfz9_2 := blk_frozen BK249.out 2)); try go_wp2_with (first | (go_at_call 47; (with_reducible refine (impl_isHouse.calls k a0_0 _ _ l0_1 true _ ?side1 ?side2 A4.out).mono ?_); (case side1 => repeat (first | exact (Kd.C_below HR0_1.out HB.out) | (with_reducible refine Kd.C_alloc ?_ _) | (with_reducible refine Kd.C_drewN ?_ _) | (with_reducible refine Kd.C_drew ?_))); (case side2 => exact HC0_1.out); rintro e w8 ⟨rfl, hb⟩; have n0_ := Aside0.mk (blk_below (bz BK249) hb); have n1_ := Aside0.mk (below_step bh hb); clear BK249 HB; have BK249 := n0_; have HB := n1_; clear n0_ n1_; (try clear hb); (try clear hb2); (try clear hk); (try clear hi); have hcz9_0 := cz0 BK249; have hcz9_1 := cz1 BK249; have hcz9_2 := cz2 BK249; have hfz9_0 := blk_frozen BK249.out 0; have hfz9_1 := blk_frozen BK249.out 1; have hfz9_2 := blk_frozen BK249.out 2)))
    go_meet
    case rel => exact ⟨_, (true), (by first | rfl | (simp; done) | (simp [*]; done)), H', ⟨by first | omega | exact Nat.le_refl _⟩, ⟨bz BK249⟩, ⟨by exact bh⟩⟩
   ·rw [if_neg c6] at H
    have c6b0 : decide ((l0_2.length : Int) < 1) = false := decide_eq_false c6
    have c6b1 : decide (l0_2.length < 1) = false := decide_eq_false (by omega)
    clear c6
    (first | rw [c6b0] | (simp only [i64_w, i32_w]; rw [c6b0]) | skip)
    have H' := Aside0.mk H
    clear H
    have hcz10_0 := cz0 BK249
    have hcz10_1 := cz1 BK249
    have hcz10_2 := cz2 BK249
    have hfz10_0 := blk_frozen BK249.out 0
    have hfz10_1 := blk_frozen BK249.out 1
    have hfz10_2 := blk_frozen BK249.out 2
    go_wp2_with (first | (go_at_call 47; (with_reducible refine (impl_isHouse.calls k a0_0 _ _ l0_1 true _ ?side1 ?side2 A4.out).mono ?_); (case side1 => repeat (first | exact (Kd.C_below HR0_1.out HB.out) | (with_reducible refine Kd.C_alloc ?_ _) | (with_reducible refine Kd.C_drewN ?_ _) | (with_reducible refine Kd.C_drew ?_))); (case side2 => exact HC0_1.out); rintro e w11 ⟨rfl, hb⟩; have n0_ := Aside0.mk (blk_below (bz BK249) hb); have n1_ := Aside0.mk (below_step bh hb); clear BK249 HB; have BK249 := n0_; have HB := n1_; clear n0_ n1_; (try clear hb); (try clear hb2); (try clear hk); (try clear hi); have hcz12_0 := cz0 BK249; have hcz12_1 := cz1 BK249; have hcz12_2 := cz2 BK249; have hfz12_0 := blk_frozen BK249.out 0; have hfz12_1 := blk_frozen BK249.out 1; have hfz12_2 := blk_frozen BK249.out 2))
    repeat (go_quiet (first | (go_at_call 47; (with_reducible refine (impl_isHouse.calls k a0_0 _ _ l0_1 true _ ?side1 ?side2 A4.out).mono ?_); (case side1 => repeat (first | exact (Kd.C_below HR0_1.out HB.out) | (with_reducible refine Kd.C_alloc ?_ _) | (with_reducible refine Kd.C_drewN ?_ _) | (with_reducible refine Kd.C_drew ?_))); (case side2 => exact HC0_1.out); rintro e w11 ⟨rfl, hb⟩; have n0_ := Aside0.mk (blk_below (bz BK249) hb); have n1_ := Aside0.mk (below_step bh hb); clear BK249 HB; have BK249 := n0_; have HB := n1_; clear n0_ n1_; (try clear hb); (try clear hb2); (try clear hk); (try clear hi); have hcz12_0 := cz0 BK249; have hcz12_1 := cz1 BK249; have hcz12_2 := cz2 BK249; have hfz12_0 := blk_frozen BK249.out 0; have hfz12_1 := blk_frozen BK249.out 1; have hfz12_2 := blk_frozen BK249.out 2)); try go_wp2_with (first | (go_at_call 47; (with_reducible refine (impl_isHouse.calls k a0_0 _ _ l0_1 true _ ?side1 ?side2 A4.out).mono ?_); (case side1 => repeat (first | exact (Kd.C_below HR0_1.out HB.out) | (with_reducible refine Kd.C_alloc ?_ _) | (with_reducible refine Kd.C_drewN ?_ _) | (with_reducible refine Kd.C_drew ?_))); (case side2 => exact HC0_1.out); rintro e w11 ⟨rfl, hb⟩; have n0_ := Aside0.mk (blk_below (bz BK249) hb); have n1_ := Aside0.mk (below_step bh hb); clear BK249 HB; have BK249 := n0_; have HB := n1_; clear n0_ n1_; (try clear hb); (try clear hb2); (try clear hk); (try clear hi); have hcz12_0 := cz0 BK249; have hcz12_1 := cz1 BK249; have hcz12_2 := cz2 BK249; have hfz12_0 := blk_frozen BK249.out 0; have hfz12_1 := blk_frozen BK249.out 1; have hfz12_2 := blk_frozen BK249.out 2)))
    go_meet
    case rel => exact ⟨_, (decide ((l0_2.length : Int) > 3)), (by first | rfl | (simp; done) | (simp [*]; done)), H', ⟨by first | omega | exact Nat.le_refl _⟩, ⟨bz BK249⟩, ⟨by exact bh⟩⟩
  ·replace c5 := Bool.eq_false_iff.mpr c5
   subst c5
   have H1 : (impl_isCharter.j0 k true a0_0 l0_1 l0_2) = some r := by rw [if_neg (show ¬ (false = true) by decide)] at H; exact H
   clear H
   have H := H1
   clear H1
   have H' := Aside0.mk H
   clear H
   have hcz13_0 := cz0 BK249
   have hcz13_1 := cz1 BK249
   have hcz13_2 := cz2 BK249
   have hfz13_0 := blk_frozen BK249.out 0
   have hfz13_1 := blk_frozen BK249.out 1
   have hfz13_2 := blk_frozen BK249.out 2
   go_wp2_with (first | (go_at_call 47; (with_reducible refine (impl_isHouse.calls k a0_0 _ _ l0_1 false _ ?side1 ?side2 A4.out).mono ?_); (case side1 => repeat (first | exact (Kd.C_below HR0_1.out HB.out) | (with_reducible refine Kd.C_alloc ?_ _) | (with_reducible refine Kd.C_drewN ?_ _) | (with_reducible refine Kd.C_drew ?_))); (case side2 => exact HC0_1.out); rintro e w14 ⟨rfl, hb⟩; have n0_ := Aside0.mk (blk_below (bz BK249) hb); have n1_ := Aside0.mk (below_step bh hb); clear BK249 HB; have BK249 := n0_; have HB := n1_; clear n0_ n1_; (try clear hb); (try clear hb2); (try clear hk); (try clear hi)))
   repeat (go_quiet (first | (go_at_call 47; (with_reducible refine (impl_isHouse.calls k a0_0 _ _ l0_1 false _ ?side1 ?side2 A4.out).mono ?_); (case side1 => repeat (first | exact (Kd.C_below HR0_1.out HB.out) | (with_reducible refine Kd.C_alloc ?_ _) | (with_reducible refine Kd.C_drewN ?_ _) | (with_reducible refine Kd.C_drew ?_))); (case side2 => exact HC0_1.out); rintro e w14 ⟨rfl, hb⟩; have n0_ := Aside0.mk (blk_below (bz BK249) hb); have n1_ := Aside0.mk (below_step bh hb); clear BK249 HB; have BK249 := n0_; have HB := n1_; clear n0_ n1_; (try clear hb); (try clear hb2); (try clear hk); (try clear hi))); try go_wp2_with (first | (go_at_call 47; (with_reducible refine (impl_isHouse.calls k a0_0 _ _ l0_1 false _ ?side1 ?side2 A4.out).mono ?_); (case side1 => repeat (first | exact (Kd.C_below HR0_1.out HB.out) | (with_reducible refine Kd.C_alloc ?_ _) | (with_reducible refine Kd.C_drewN ?_ _) | (with_reducible refine Kd.C_drew ?_))); (case side2 => exact HC0_1.out); rintro e w14 ⟨rfl, hb⟩; have n0_ := Aside0.mk (blk_below (bz BK249) hb); have n1_ := Aside0.mk (below_step bh hb); clear BK249 HB; have BK249 := n0_; have HB := n1_; clear n0_ n1_; (try clear hb); (try clear hb2); (try clear hk); (try clear hi))))
   go_meet
   case rel => exact ⟨_, (true), (by first | rfl | (simp; done) | (simp [*]; done)), H', ⟨by first | omega | exact Nat.le_refl _⟩, ⟨bz BK249⟩, ⟨by exact bh⟩⟩
 case rest =>
  clear HC2
  try clear c2
  try clear p2
  try clear c5
  try clear c6
  try clear c6b0
  try clear c6b1
  try clear hcz10_0
  try clear hcz10_1
  try clear hcz10_2
  try clear hcz12_0
  try clear hcz12_1
  try clear hcz12_2
  try clear hcz13_0
  try clear hcz13_1
  try clear hcz13_2
  try clear hcz7_0
  try clear hcz7_1
  try clear hcz7_2
  try clear hcz9_0
  try clear hcz9_1
  try clear hcz9_2
  try clear hfz10_0
  try clear hfz10_1
  try clear hfz10_2
  try clear hfz12_0
  try clear hfz12_1
  try clear hfz12_2
  try clear hfz13_0
  try clear hfz13_1
  try clear hfz13_2
  try clear hfz7_0
  try clear hfz7_1
  try clear hfz7_2
  try clear hfz9_0
  try clear hfz9_1
  try clear hfz9_2
  obtain ⟨kq, x22_1, rfl, HA, HJ1, BK249, HB⟩ := hcut
  cases kq with
  | zero => exact absurd HA.out (by simp [impl_isCharter.j0])
  | succ kj1 =>
   have H := HA.out
   clear HA
   simp only [impl_isCharter.j0] at H
   by_cases c15 : x22_1 = true
   ·subst c15
    have H1 : (some false) = some r := by rw [if_pos rfl] at H; exact H
    clear H
    have H := H1
    clear H1
    obtain rfl := Option.some.inj H
    go_wp2
    repeat (go_quiet (fail); try go_wp2)
    go_ret
    exact ⟨by first | rfl | (simp [errW_none, errW_some] <;> rfl) | (simp [*, errW_none, errW_some] <;> rfl), by exact bh⟩
   ·replace c15 := Bool.eq_false_iff.mpr c15
    subst c15
    have H1 : (impl_isCharter.l0 kj1 l0_2 (l0_2.length : Int) 0 a0_0 l0_1 l0_2) = some r := by rw [if_neg (show ¬ (false = true) by decide)] at H; exact H
    clear H
    have H := H1
    clear H1
    have H' := Aside0.mk H
    clear H
    have hcz16_0 := cz0 BK249
    have hcz16_1 := cz1 BK249
    have hcz16_2 := cz2 BK249
    have hfz16_0 := blk_frozen BK249.out 0
    have hfz16_1 := blk_frozen BK249.out 1
    have hfz16_2 := blk_frozen BK249.out 2
    go_wp2
    repeat (go_quiet (fail); try go_wp2)
    go_loopg [26] kj1 (fun kq v26 w' => ∃ (x26_2 : Int), v26 = .int .i64 x26_2 ∧ Aside0 (impl_isCharter.l0 kq l0_2 (l0_2.length : Int) x26_2 a0_0 l0_1 l0_2 = some r) ∧ Aside0 (kq ≤ kj1) ∧ Aside0 (w'.heap[gb249]? = some (.cells #[.int .i64 a0_0, (.slice A0_1 l0_1.length c0_1), (.slice A0_2 l0_2.length c0_2)] 28 (0, 0))) ∧ Aside0 (Below w.heap.size w w'))
    case atStart => exact ⟨(0), (by first | rfl | (simp; done) | (simp [*]; done)), H', ⟨Nat.le_refl _⟩, ⟨bz BK249⟩, ⟨by exact bh⟩⟩
    case round =>
     clear H'
     try clear c1
     try clear c2
     try clear p2
     try clear c5
     try clear c6
     try clear c6b0
     try clear c6b1
     try clear c15
     try clear hcz10_0
     try clear hcz10_1
     try clear hcz10_2
     try clear hcz12_0
     try clear hcz12_1
     try clear hcz12_2
     try clear hcz13_0
     try clear hcz13_1
     try clear hcz13_2
     try clear hcz16_0
     try clear hcz16_1
     try clear hcz16_2
     try clear hcz7_0
     try clear hcz7_1
     try clear hcz7_2
     try clear hcz9_0
     try clear hcz9_1
     try clear hcz9_2
     try clear hfz10_0
     try clear hfz10_1
     try clear hfz10_2
     try clear hfz12_0
     try clear hfz12_1
     try clear hfz12_2
     try clear hfz13_0
     try clear hfz13_1
     try clear hfz13_2
     try clear hfz16_0
     try clear hfz16_1
     try clear hfz16_2
     try clear hfz7_0
     try clear hfz7_1
     try clear hfz7_2
     try clear hfz9_0
     try clear hfz9_1
     try clear hfz9_2
     try clear p2
     obtain ⟨x26_2, rfl, HA, HK2, BK249, HB⟩ := hrel
     cases gk with
     | zero => exact absurd HA.out (by simp [impl_isCharter.l0])
     | succ k2 =>
      have H := HA.out
      clear HA
      simp only [impl_isCharter.l0] at H
      by_cases c17 : x26_2 < (l0_2.length : Int)
      ·rw [if_pos c17] at H
       have c17b0 : decide (x26_2 < (l0_2.length : Int)) = true := decide_eq_true c17
       clear c17
       by_cases c18 : 0 ≤ x26_2
       ·rw [if_pos c18] at H
        have c18b0 : decide (0 ≤ x26_2) = true := decide_eq_true c18
        clear c18
        by_cases c19 : x26_2 < (l0_2.length : Int)
        ·rw [if_pos c19] at H
         have c19b0 : decide (x26_2 < (l0_2.length : Int)) = true := decide_eq_true c19
         clear c19
         have HC20 := Aside0.mk H
         clear H
         have p251 : 0 ≤ (x26_2 : Int) := oda
         have q251 : x26_2 < (l0_2.length : Int) := oda
         obtain ⟨ad251, A251_0, c251_0, e251, hx251_0, hl251_0, hi251_0⟩ := at_L5 HR0_2.out x26_2 p251 q251
         cases e251
         replace hx251_0 := (HB.out.cell (World.block_lt_of_cell? w _ hx251_0)).trans hx251_0
         have HR251_0 := Aside0.mk hi251_0
         have HC251_0 := Aside0.mk hl251_0
         clear hi251_0 hl251_0
         replace p251 := eq_true p251
         replace q251 := eq_true q251
         go_upto_region 6 with (fail)
         repeat (go_quiet (fail); go_upto_region 6 with (fail))
         go_cut [38] (fun v38 wc => ∃ (kq : Nat) (x38_19 : Bool), v38 = .bool x38_19 ∧ Aside0 (impl_isCharter.j2 kq x26_2 (rd_L5 l0_2 x26_2) l0_2 (l0_2.length : Int) x26_2 x38_19 a0_0 l0_1 l0_2 = some r) ∧ Aside0 (kq ≤ k2) ∧ Aside0 (wc.heap[gb249]? = some (.cells #[.int .i64 a0_0, (.slice A0_1 l0_1.length c0_1), (.slice (some ad251) l0_2.length c0_2)] 28 (0, 0))) ∧ Aside0 (Below w.heap.size w wc))
         case first =>
          have H := HC20.out
          clear HC20
          by_cases c21 : ((rd_L5 l0_2 x26_2).length : Int) < 1
          ·rw [if_pos c21] at H
           have c21b0 : decide (((rd_L5 l0_2 x26_2).length : Int) < 1) = true := decide_eq_true c21
           have c21b1 : decide ((rd_L5 l0_2 x26_2).length < 1) = true := decide_eq_true (by omega)
           clear c21
           (first | rw [c21b0] | (simp only [i64_w, i32_w]; rw [c21b0]) | skip)
           have H' := Aside0.mk H
           clear H
           go_wp2
           repeat (go_quiet (fail); try go_wp2)
           go_meet
           case rel => exact ⟨_, (true), (by first | rfl | (simp; done) | (simp [*]; done)), H', ⟨by have := HJ1.out; have := HK2.out; first | omega | exact Nat.le_refl _⟩, ⟨bz BK249⟩, ⟨by exact bh⟩⟩
          ·rw [if_neg c21] at H
           have c21b0 : decide (((rd_L5 l0_2 x26_2).length : Int) < 1) = false := decide_eq_false c21
           have c21b1 : decide ((rd_L5 l0_2 x26_2).length < 1) = false := decide_eq_false (by omega)
           clear c21
           (first | rw [c21b0] | (simp only [i64_w, i32_w]; rw [c21b0]) | skip)
           have H' := Aside0.mk H
           clear H
           go_wp2
           repeat (go_quiet (fail); try go_wp2)
           go_meet
           case rel => exact ⟨_, (decide (((rd_L5 l0_2 x26_2).length : Int) > 3)), (by first | rfl | (simp; done) | (simp [*]; done)), H', ⟨by have := HJ1.out; have := HK2.out; first | omega | exact Nat.le_refl _⟩, ⟨bz BK249⟩, ⟨by exact bh⟩⟩
         case rest =>
          clear HC20
          try clear c1
          try clear c2
          try clear p2
          try clear q2
          try clear hx2
          try clear c5
          try clear c6
          try clear c6b0
          try clear c6b1
          try clear c15
          try clear c17
          try clear c17b0
          try clear c18
          try clear c18b0
          try clear c19
          try clear c19b0
          try clear c21
          try clear c21b0
          try clear c21b1
          try clear hcz10_0
          try clear hcz10_1
          try clear hcz10_2
          try clear hcz12_0
          try clear hcz12_1
          try clear hcz12_2
          try clear hcz13_0
          try clear hcz13_1
          try clear hcz13_2
          try clear hcz16_0
          try clear hcz16_1
          try clear hcz16_2
          try clear hcz7_0
          try clear hcz7_1
          try clear hcz7_2
          try clear hcz9_0
          try clear hcz9_1
          try clear hcz9_2
          try clear hfz10_0
          try clear hfz10_1
          try clear hfz10_2
          try clear hfz12_0
          try clear hfz12_1
          try clear hfz12_2
          try clear hfz13_0
          try clear hfz13_1
          try clear hfz13_2
          try clear hfz16_0
          try clear hfz16_1
          try clear hfz16_2
          try clear hfz7_0
          try clear hfz7_1
          try clear hfz7_2
          try clear hfz9_0
          try clear hfz9_1
          try clear hfz9_2
          try clear hx251_0
          try clear p2
          try clear p251
          try clear q251
          obtain ⟨kq, x38_19, rfl, HA, HJ19, BK249, HB⟩ := hcut
          cases kq with
          | zero => exact absurd HA.out (by simp [impl_isCharter.j2])
          | succ kj19 =>
           have H := HA.out
           clear HA
           simp only [impl_isCharter.j2] at H
           by_cases c22 : x38_19 = true
           ·subst c22
            have H1 : (some false) = some r := by rw [if_pos rfl] at H; exact H
            clear H
            have H := H1
            clear H1
            obtain rfl := Option.some.inj H
            go_wp2
            repeat (go_quiet (fail); try go_wp2)
            go_ret
            exact ⟨by first | rfl | (simp [errW_none, errW_some] <;> rfl) | (simp [*, errW_none, errW_some] <;> rfl), by exact bh⟩
           ·replace c22 := Bool.eq_false_iff.mpr c22
            subst c22
            have H1 : (impl_isCharter.l1 kj19 x26_2 l0_2 (l0_2.length : Int) x26_2 (rd_L5 l0_2 x26_2) ((rd_L5 l0_2 x26_2).length : Int) 0 a0_0 l0_1 l0_2) = some r := by rw [if_neg (show ¬ (false = true) by decide)] at H; exact H
            clear H
            have H := H1
            clear H1
            have H' := Aside0.mk H
            clear H
            go_wp2
            repeat (go_quiet (fail); try go_wp2)
            go_loopg [41] kj19 (fun kq v41 w' => ∃ (x41_4 : Int), v41 = .int .i64 x41_4 ∧ Aside0 (impl_isCharter.l1 kq x26_2 l0_2 (l0_2.length : Int) x26_2 (rd_L5 l0_2 x26_2) ((rd_L5 l0_2 x26_2).length : Int) x41_4 a0_0 l0_1 l0_2 = some r) ∧ Aside0 (kq ≤ kj19) ∧ Aside0 (w'.heap[gb249]? = some (.cells #[.int .i64 a0_0, (.slice A0_1 l0_1.length c0_1), (.slice (some ad251) l0_2.length c0_2)] 28 (0, 0))) ∧ Aside0 (Below w.heap.size w w'))
            case atStart => exact ⟨(0), (by first | rfl | (simp; done) | (simp [*]; done)), H', ⟨Nat.le_refl _⟩, ⟨bz BK249⟩, ⟨by exact bh⟩⟩
            case round =>
             clear H'
             try clear c1
             try clear c2
             try clear p2
             try clear q2
             try clear hx2
             try clear c5
             try clear c6
             try clear c6b0
             try clear c6b1
             try clear c15
             try clear c17
             try clear c17b0
             try clear c18
             try clear c18b0
             try clear c19
             try clear c19b0
             try clear c21
             try clear c21b0
             try clear c21b1
             try clear c22
             try clear hcz10_0
             try clear hcz10_1
             try clear hcz10_2
             try clear hcz12_0
             try clear hcz12_1
             try clear hcz12_2
             try clear hcz13_0
             try clear hcz13_1
             try clear hcz13_2
             try clear hcz16_0
             try clear hcz16_1
             try clear hcz16_2
             try clear hcz7_0
             try clear hcz7_1
             try clear hcz7_2
             try clear hcz9_0
             try clear hcz9_1
             try clear hcz9_2
             try clear hfz10_0
             try clear hfz10_1
             try clear hfz10_2
             try clear hfz12_0
             try clear hfz12_1
             try clear hfz12_2
             try clear hfz13_0
             try clear hfz13_1
             try clear hfz13_2
             try clear hfz16_0
             try clear hfz16_1
             try clear hfz16_2
             try clear hfz7_0
             try clear hfz7_1
             try clear hfz7_2
             try clear hfz9_0
             try clear hfz9_1
             try clear hfz9_2
             try clear hx251_0
             try clear p2
             try clear p251
             try clear q2
             try clear q251
             obtain ⟨x41_4, rfl, HA, HK4, BK249, HB⟩ := hrel
             cases gk with
             | zero => exact absurd HA.out (by simp [impl_isCharter.l1])
             | succ k4 =>
              have H := HA.out
              clear HA
              simp only [impl_isCharter.l1] at H
              by_cases c23 : x41_4 < ((rd_L5 l0_2 x26_2).length : Int)
              ·rw [if_pos c23] at H
               have c23b0 : decide (x41_4 < ((rd_L5 l0_2 x26_2).length : Int)) = true := decide_eq_true c23
               clear c23
               by_cases c24 : 0 ≤ x41_4
               ·rw [if_pos c24] at H
                have c24b0 : decide (0 ≤ x41_4) = true := decide_eq_true c24
                clear c24
                by_cases c25 : x41_4 < ((rd_L5 l0_2 x26_2).length : Int)
                ·rw [if_pos c25] at H
                 have c25b0 : decide (x41_4 < ((rd_L5 l0_2 x26_2).length : Int)) = true := decide_eq_true c25
                 clear c25
                 replace H := Option.bind_eq_some_iff.mp H
                 obtain ⟨t254, A260, H⟩ := H
                 replace H : (if t254 = true then (if ((rd_T35 (rd_L5 l0_2 x26_2) x41_4).f1) = (-1) then (impl_isCharter.j4 k4 x26_2 l0_2 (l0_2.length : Int) x26_2 (rd_L5 l0_2 x26_2) ((rd_L5 l0_2 x26_2).length : Int) x41_4 (((rd_T35 (rd_L5 l0_2 x26_2) x41_4).f2) == 0) a0_0 l0_1 l0_2 ((rd_T35 (rd_L5 l0_2 x26_2) x41_4).f0) ((rd_T35 (rd_L5 l0_2 x26_2) x41_4).f1) ((rd_T35 (rd_L5 l0_2 x26_2) x41_4).f2)) else (impl_isCharter.j4 k4 x26_2 l0_2 (l0_2.length : Int) x26_2 (rd_L5 l0_2 x26_2) ((rd_L5 l0_2 x26_2).length : Int) x41_4 false a0_0 l0_1 l0_2 ((rd_T35 (rd_L5 l0_2 x26_2) x41_4).f0) ((rd_T35 (rd_L5 l0_2 x26_2) x41_4).f1) ((rd_T35 (rd_L5 l0_2 x26_2) x41_4).f2))) else (some false)) = some r := H
                 have A26 := Aside0.mk A260
                 clear A260
                 by_cases c27 : t254 = true
                 ·subst c27
                  have H1 : (if ((rd_T35 (rd_L5 l0_2 x26_2) x41_4).f1) = (-1) then (impl_isCharter.j4 k4 x26_2 l0_2 (l0_2.length : Int) x26_2 (rd_L5 l0_2 x26_2) ((rd_L5 l0_2 x26_2).length : Int) x41_4 (((rd_T35 (rd_L5 l0_2 x26_2) x41_4).f2) == 0) a0_0 l0_1 l0_2 ((rd_T35 (rd_L5 l0_2 x26_2) x41_4).f0) ((rd_T35 (rd_L5 l0_2 x26_2) x41_4).f1) ((rd_T35 (rd_L5 l0_2 x26_2) x41_4).f2)) else (impl_isCharter.j4 k4 x26_2 l0_2 (l0_2.length : Int) x26_2 (rd_L5 l0_2 x26_2) ((rd_L5 l0_2 x26_2).length : Int) x41_4 false a0_0 l0_1 l0_2 ((rd_T35 (rd_L5 l0_2 x26_2) x41_4).f0) ((rd_T35 (rd_L5 l0_2 x26_2) x41_4).f1) ((rd_T35 (rd_L5 l0_2 x26_2) x41_4).f2))) = some r := by rw [if_pos rfl] at H; exact H
                  clear H
                  have H := H1
                  clear H1
                  have HC28 := Aside0.mk H
                  clear H
                  have p252 : 0 ≤ (x41_4 : Int) := oda
                  have q252 : x41_4 < ((rd_L5 l0_2 x26_2).length : Int) := oda
                  obtain ⟨ad252, A252_0, c252_0, e252, hx252_0, hx252_1, hx252_2, hl252_0, hi252_0⟩ := at_T35 HR251_0.out x41_4 p252 q252
                  cases e252
                  replace hx252_0 := (HB.out.cell (World.block_lt_of_cell? w _ hx252_0)).trans hx252_0
                  replace hx252_1 := (HB.out.cell (World.block_lt_of_cell? w _ hx252_1)).trans hx252_1
                  replace hx252_2 := (HB.out.cell (World.block_lt_of_cell? w _ hx252_2)).trans hx252_2
                  have HR252_0 := Aside0.mk hi252_0
                  have HC252_0 := Aside0.mk hl252_0
                  clear hi252_0 hl252_0
                  replace p252 := eq_true p252
                  replace q252 := eq_true q252
                  go_upto_region 13 with (first | ((with_reducible refine gate_dst (N := 6) rfl ?_); (try (refine gate_guard (by rfl) ?_; dsimp only)); refine box_event ?hg (N := 6) ?hd (cs := #[.slice none 0 0, .int .i64 0, .int .i64 0]) (t := 35) ?hr ?_; (case hd => rfl); (case hg => rfl); (case hr => first | (go_simp; done) | (go_simp; rfl)); intro gb253 hg w29 hbox hb; have n0_ := Aside0.mk (blk_below (bz BK249) hb); have n1_ := Aside0.mk (below_step bh hb); have n2_ := Aside0.mk (hbox); have n3_ := Aside0.mk ((gs (W0 := w) hg bh)); have n4_ := Aside0.mk ((gs (W0 := w) hg bh)); have n5_ := Aside0.mk ((gn hg (bz BK249))); have n6_ := Aside0.mk ((gm hg (bz BK249))); clear BK249 HB; have BK249 := n0_; have HB := n1_; have BK253 := n2_; have GW253 := n3_; have GE253 := n4_; have NB249_253 := n5_; have NB253_249 := n6_; clear n0_ n1_ n2_ n3_ n4_ n5_ n6_ hb hbox hg; have hnb30 := NB253_249.out; have hnc30 := NB249_253.out; have hcz31_0 := cz0 BK253; have hcz31_1 := cz1 BK253; have hcz31_2 := cz2 BK253; have hfz31_0 := blk_frozen BK253.out 0; have hfz31_1 := blk_frozen BK253.out 1; have hfz31_2 := blk_frozen BK253.out 2; have hcz32_0 := cz0 BK249; have hcz32_1 := cz1 BK249; have hcz32_2 := cz2 BK249; have hfz32_0 := blk_frozen BK249.out 0; have hfz32_1 := blk_frozen BK249.out 1; have hfz32_2 := blk_frozen BK249.out 2) | (go_at_call 48; (with_reducible refine (impl_isTerm.calls k4 a0_0 _ _ l0_1 _ _ ((rd_T35 (rd_L5 l0_2 x26_2) x41_4).f0) true _ ?side1 ?side2 ?side3 ?side4 A26.out).mono ?_); (case side1 => exact Kd.C_below HR0_1.out bh); (case side2 => exact HC0_1.out); (case side3 => exact Kd.C_below HR252_0.out bh); (case side4 => exact HC252_0.out); rintro e w33 ⟨rfl, hb⟩; have n0_ := Aside0.mk (blk_below (g := gb249) (o := .cells #[.int .i64 a0_0, .slice A0_1 l0_1.length c0_1, .slice (some ad251) l0_2.length c0_2] 28 (0, 0)) (bf NB249_253 BK249) hb); have n1_ := Aside0.mk (blk_below (g := gb253) (o := .cells #[.slice A252_0 ((rd_T35 (rd_L5 l0_2 x26_2) x41_4).f0).length c252_0, .int .i64 ((rd_T35 (rd_L5 l0_2 x26_2) x41_4).f1), .int .i64 ((rd_T35 (rd_L5 l0_2 x26_2) x41_4).f2)] 35 (0, 0)) (bp BK253) hb); have n2_ := Aside0.mk (below_step bh hb); clear BK249 BK253 HB; have BK249 := n0_; have BK253 := n1_; have HB := n2_; clear n0_ n1_ n2_; (try clear hb); (try clear hb2); (try clear hk); (try clear hi)))
                  repeat (go_quiet (first | ((with_reducible refine gate_dst (N := 6) rfl ?_); (try (refine gate_guard (by rfl) ?_; dsimp only)); refine box_event ?hg (N := 6) ?hd (cs := #[.slice none 0 0, .int .i64 0, .int .i64 0]) (t := 35) ?hr ?_; (case hd => rfl); (case hg => rfl); (case hr => first | (go_simp; done) | (go_simp; rfl)); intro gb253 hg w29 hbox hb; have n0_ := Aside0.mk (blk_below (bz BK249) hb); have n1_ := Aside0.mk (below_step bh hb); have n2_ := Aside0.mk (hbox); have n3_ := Aside0.mk ((gs (W0 := w) hg bh)); have n4_ := Aside0.mk ((gs (W0 := w) hg bh)); have n5_ := Aside0.mk ((gn hg (bz BK249))); have n6_ := Aside0.mk ((gm hg (bz BK249))); clear BK249 HB; have BK249 := n0_; have HB := n1_; have BK253 := n2_; have GW253 := n3_; have GE253 := n4_; have NB249_253 := n5_; have NB253_249 := n6_; clear n0_ n1_ n2_ n3_ n4_ n5_ n6_ hb hbox hg; have hnb30 := NB253_249.out; have hnc30 := NB249_253.out; have hcz31_0 := cz0 BK253; have hcz31_1 := cz1 BK253; have hcz31_2 := cz2 BK253; have hfz31_0 := blk_frozen BK253.out 0; have hfz31_1 := blk_frozen BK253.out 1; have hfz31_2 := blk_frozen BK253.out 2; have hcz32_0 := cz0 BK249; have hcz32_1 := cz1 BK249; have hcz32_2 := cz2 BK249; have hfz32_0 := blk_frozen BK249.out 0; have hfz32_1 := blk_frozen BK249.out 1; have hfz32_2 := blk_frozen BK249.out 2) | (go_at_call 48; (with_reducible refine (impl_isTerm.calls k4 a0_0 _ _ l0_1 _ _ ((rd_T35 (rd_L5 l0_2 x26_2) x41_4).f0) true _ ?side1 ?side2 ?side3 ?side4 A26.out).mono ?_); (case side1 => exact Kd.C_below HR0_1.out bh); (case side2 => exact HC0_1.out); (case side3 => exact Kd.C_below HR252_0.out bh); (case side4 => exact HC252_0.out); rintro e w33 ⟨rfl, hb⟩; have n0_ := Aside0.mk (blk_below (g := gb249) (o := .cells #[.int .i64 a0_0, .slice A0_1 l0_1.length c0_1, .slice (some ad251) l0_2.length c0_2] 28 (0, 0)) (bf NB249_253 BK249) hb); have n1_ := Aside0.mk (blk_below (g := gb253) (o := .cells #[.slice A252_0 ((rd_T35 (rd_L5 l0_2 x26_2) x41_4).f0).length c252_0, .int .i64 ((rd_T35 (rd_L5 l0_2 x26_2) x41_4).f1), .int .i64 ((rd_T35 (rd_L5 l0_2 x26_2) x41_4).f2)] 35 (0, 0)) (bp BK253) hb); have n2_ := Aside0.mk (below_step bh hb); clear BK249 BK253 HB; have BK249 := n0_; have BK253 := n1_; have HB := n2_; clear n0_ n1_ n2_; (try clear hb); (try clear hb2); (try clear hk); (try clear hi))); go_upto_region 13 with (first | ((with_reducible refine gate_dst (N := 6) rfl ?_); (try (refine gate_guard (by rfl) ?_; dsimp only)); refine box_event ?hg (N := 6) ?hd (cs := #[.slice none 0 0, .int .i64 0, .int .i64 0]) (t := 35) ?hr ?_; (case hd => rfl); (case hg => rfl); (case hr => first | (go_simp; done) | (go_simp; rfl)); intro gb253 hg w29 hbox hb; have n0_ := Aside0.mk (blk_below (bz BK249) hb); have n1_ := Aside0.mk (below_step bh hb); have n2_ := Aside0.mk (hbox); have n3_ := Aside0.mk ((gs (W0 := w) hg bh)); have n4_ := Aside0.mk ((gs (W0 := w) hg bh)); have n5_ := Aside0.mk ((gn hg (bz BK249))); have n6_ := Aside0.mk ((gm hg (bz BK249))); clear BK249 HB; have BK249 := n0_; have HB := n1_; have BK253 := n2_; have GW253 := n3_; have GE253 := n4_; have NB249_253 := n5_; have NB253_249 := n6_; clear n0_ n1_ n2_ n3_ n4_ n5_ n6_ hb hbox hg; have hnb30 := NB253_249.out; have hnc30 := NB249_253.out; have hcz31_0 := cz0 BK253; have hcz31_1 := cz1 BK253; have hcz31_2 := cz2 BK253; have hfz31_0 := blk_frozen BK253.out 0; have hfz31_1 := blk_frozen BK253.out 1; have hfz31_2 := blk_frozen BK253.out 2; have hcz32_0 := cz0 BK249; have hcz32_1 := cz1 BK249; have hcz32_2 := cz2 BK249; have hfz32_0 := blk_frozen BK249.out 0; have hfz32_1 := blk_frozen BK249.out 1; have hfz32_2 := blk_frozen BK249.out 2) | (go_at_call 48; (with_reducible refine (impl_isTerm.calls k4 a0_0 _ _ l0_1 _ _ ((rd_T35 (rd_L5 l0_2 x26_2) x41_4).f0) true _ ?side1 ?side2 ?side3 ?side4 A26.out).mono ?_); (case side1 => exact Kd.C_below HR0_1.out bh); (case side2 => exact HC0_1.out); (case side3 => exact Kd.C_below HR252_0.out bh); (case side4 => exact HC252_0.out); rintro e w33 ⟨rfl, hb⟩; have n0_ := Aside0.mk (blk_below (g := gb249) (o := .cells #[.int .i64 a0_0, .slice A0_1 l0_1.length c0_1, .slice (some ad251) l0_2.length c0_2] 28 (0, 0)) (bf NB249_253 BK249) hb); have n1_ := Aside0.mk (blk_below (g := gb253) (o := .cells #[.slice A252_0 ((rd_T35 (rd_L5 l0_2 x26_2) x41_4).f0).length c252_0, .int .i64 ((rd_T35 (rd_L5 l0_2 x26_2) x41_4).f1), .int .i64 ((rd_T35 (rd_L5 l0_2 x26_2) x41_4).f2)] 35 (0, 0)) (bp BK253) hb); have n2_ := Aside0.mk (below_step bh hb); clear BK249 BK253 HB; have BK249 := n0_; have BK253 := n1_; have HB := n2_; clear n0_ n1_ n2_; (try clear hb); (try clear hb2); (try clear hk); (try clear hi))))
                  (try simp only [Act.put, List.setIfInBounds_toArray, List.set_cons_zero, List.set_cons_succ])
                  go_cut [58] (fun v58 wc => ∃ (kq : Nat) (x58_27 : Bool), v58 = .bool x58_27 ∧ Aside0 (impl_isCharter.j4 kq x26_2 l0_2 (l0_2.length : Int) x26_2 (rd_L5 l0_2 x26_2) ((rd_L5 l0_2 x26_2).length : Int) x41_4 x58_27 a0_0 l0_1 l0_2 ((rd_T35 (rd_L5 l0_2 x26_2) x41_4).f0) ((rd_T35 (rd_L5 l0_2 x26_2) x41_4).f1) ((rd_T35 (rd_L5 l0_2 x26_2) x41_4).f2) = some r) ∧ Aside0 (kq ≤ k4) ∧ Aside0 (wc.heap[gb249]? = some (.cells #[.int .i64 a0_0, (.slice A0_1 l0_1.length c0_1), (.slice (some ad251) l0_2.length c0_2)] 28 (0, 0))) ∧ Aside0 (wc.heap[gb253]? = some (.cells #[(.slice A252_0 ((rd_T35 (rd_L5 l0_2 x26_2) x41_4).f0).length c252_0), .int .i64 ((rd_T35 (rd_L5 l0_2 x26_2) x41_4).f1), .int .i64 ((rd_T35 (rd_L5 l0_2 x26_2) x41_4).f2)] 35 (0, 0))) ∧ Aside0 (Below w.heap.size w wc))
                  case first =>
                   have H := HC28.out
                   clear HC28
                   by_cases c34 : ((rd_T35 (rd_L5 l0_2 x26_2) x41_4).f1) = (-1)
                   ·rw [if_pos c34] at H
                    have c34b0 : (((rd_T35 (rd_L5 l0_2 x26_2) x41_4).f1) == (-1)) = true := beq_iff_eq.mpr c34
                    have c34b1 : (((rd_T35 (rd_L5 l0_2 x26_2) x41_4).f1) != (-1)) = false := bne_eq_false_iff_eq.mpr c34
                    clear c34
                    (first | rw [c34b0] | (simp only [i64_w, i32_w]; rw [c34b0]) | skip)
                    have H' := Aside0.mk H
                    clear H
                    have hnb35 := NB253_249.out
                    have hnc35 := NB249_253.out
                    have hcz36_0 : w33.cell? ⟨gb253, 0, none⟩ = some (.slice A252_0 ((rd_T35 (rd_L5 l0_2 x26_2) x41_4).f0).length c252_0) := (blk_cell BK253.out 0).trans rfl
                    have hcz36_1 : w33.cell? ⟨gb253, 1, none⟩ = some (.int .i64 ((rd_T35 (rd_L5 l0_2 x26_2) x41_4).f1)) := (blk_cell BK253.out 1).trans rfl
                    have hcz36_2 : w33.cell? ⟨gb253, 2, none⟩ = some (.int .i64 ((rd_T35 (rd_L5 l0_2 x26_2) x41_4).f2)) := (blk_cell BK253.out 2).trans rfl
                    have hfz36_0 := blk_frozen BK253.out 0
                    have hfz36_1 := blk_frozen BK253.out 1
                    have hfz36_2 := blk_frozen BK253.out 2
                    go_wp2
                    repeat (go_quiet (fail); try go_wp2)
                    go_meet
                    case rel => exact ⟨_, ((((rd_T35 (rd_L5 l0_2 x26_2) x41_4).f2) == 0)), (by first | rfl | (simp; done) | (simp [*]; done)), H', ⟨by have := HJ1.out; have := HK2.out; have := HJ19.out; have := HK4.out; first | omega | exact Nat.le_refl _⟩, ⟨bz BK249⟩, ⟨bz BK253⟩, ⟨by exact bh⟩⟩
                   ·rw [if_neg c34] at H
                    have c34b0 : (((rd_T35 (rd_L5 l0_2 x26_2) x41_4).f1) == (-1)) = false := beq_eq_false_iff_ne.mpr c34
                    have c34b1 : (((rd_T35 (rd_L5 l0_2 x26_2) x41_4).f1) != (-1)) = true := bne_iff_ne.mpr c34
                    (first | rw [c34b0] | (simp only [i64_w, i32_w]; rw [c34b0]) | skip)
                    have H' := Aside0.mk H
                    clear H
                    have hnb37 := NB253_249.out
                    have hnc37 := NB249_253.out
                    have hcz38_0 : w33.cell? ⟨gb253, 0, none⟩ = some (.slice A252_0 ((rd_T35 (rd_L5 l0_2 x26_2) x41_4).f0).length c252_0) := (blk_cell BK253.out 0).trans rfl
                    have hcz38_1 : w33.cell? ⟨gb253, 1, none⟩ = some (.int .i64 ((rd_T35 (rd_L5 l0_2 x26_2) x41_4).f1)) := (blk_cell BK253.out 1).trans rfl
                    have hcz38_2 : w33.cell? ⟨gb253, 2, none⟩ = some (.int .i64 ((rd_T35 (rd_L5 l0_2 x26_2) x41_4).f2)) := (blk_cell BK253.out 2).trans rfl
                    have hfz38_0 := blk_frozen BK253.out 0
                    have hfz38_1 := blk_frozen BK253.out 1
                    have hfz38_2 := blk_frozen BK253.out 2
                    go_wp2
                    repeat (go_quiet (fail); try go_wp2)
                    go_meet
                    case rel => exact ⟨_, (false), (by first | rfl | (simp; done) | (simp [*]; done)), H', ⟨by have := HJ1.out; have := HK2.out; have := HJ19.out; have := HK4.out; first | omega | exact Nat.le_refl _⟩, ⟨bz BK249⟩, ⟨bz BK253⟩, ⟨by exact bh⟩⟩
                  case rest =>
                   clear HC28
                   try clear c1
                   try clear c2
                   try clear p2
                   try clear q2
                   try clear hx2
                   try clear c3
                   try clear c5
                   try clear c6
                   try clear c6b0
                   try clear c6b1
                   try clear c15
                   try clear c17
                   try clear c17b0
                   try clear c18
                   try clear c18b0
                   try clear c19
                   try clear c19b0
                   try clear c21
                   try clear c21b0
                   try clear c21b1
                   try clear c22
                   try clear c23
                   try clear c23b0
                   try clear c24
                   try clear c24b0
                   try clear c25
                   try clear c25b0
                   try clear p25
                   try clear q25
                   try clear hx25
                   try clear c27
                   try clear c28
                   try clear c30
                   try clear c34
                   try clear c34b0
                   try clear c34b1
                   try clear c35
                   try clear c37
                   try clear hcz10_0
                   try clear hcz10_1
                   try clear hcz10_2
                   try clear hcz12_0
                   try clear hcz12_1
                   try clear hcz12_2
                   try clear hcz13_0
                   try clear hcz13_1
                   try clear hcz13_2
                   try clear hcz16_0
                   try clear hcz16_1
                   try clear hcz16_2
                   try clear hcz31_0
                   try clear hcz31_1
                   try clear hcz31_2
                   try clear hcz32_0
                   try clear hcz32_1
                   try clear hcz32_2
                   try clear hcz36_0
                   try clear hcz36_1
                   try clear hcz36_2
                   try clear hcz38_0
                   try clear hcz38_1
                   try clear hcz38_2
                   try clear hcz7_0
                   try clear hcz7_1
                   try clear hcz7_2
                   try clear hcz9_0
                   try clear hcz9_1
                   try clear hcz9_2
                   try clear hfz10_0
                   try clear hfz10_1
                   try clear hfz10_2
                   try clear hfz12_0
                   try clear hfz12_1
                   try clear hfz12_2
                   try clear hfz13_0
                   try clear hfz13_1
                   try clear hfz13_2
                   try clear hfz16_0
                   try clear hfz16_1
                   try clear hfz16_2
                   try clear hfz31_0
                   try clear hfz31_1
                   try clear hfz31_2
                   try clear hfz32_0
                   try clear hfz32_1
                   try clear hfz32_2
                   try clear hfz36_0
                   try clear hfz36_1
                   try clear hfz36_2
                   try clear hfz38_0
                   try clear hfz38_1
                   try clear hfz38_2
                   try clear hfz7_0
                   try clear hfz7_1
                   try clear hfz7_2
                   try clear hfz9_0
                   try clear hfz9_1
                   try clear hfz9_2
                   try clear hx251_0
                   try clear hx252_0
                   try clear hx252_1
                   try clear hx252_2
                   try clear p2
                   try clear p251
                   try clear p252
                   try clear q2
                   try clear q251
                   try clear q252
                   obtain ⟨kq, x58_27, rfl, HA, HJ27, BK249, BK253, HB⟩ := hcut
                   cases kq with
                   | zero => exact absurd HA.out (by simp [impl_isCharter.j4])
                   | succ kj27 =>
                    have H := HA.out
                    clear HA
                    simp only [impl_isCharter.j4] at H
                    by_cases c39 : x58_27 = true
                    ·subst c39
                     have H1 : (impl_isCharter.l1 kj27 x26_2 l0_2 (l0_2.length : Int) x26_2 (rd_L5 l0_2 x26_2) ((rd_L5 l0_2 x26_2).length : Int) (wrap64 (x41_4 + 1)) a0_0 l0_1 l0_2) = some r := by rw [if_pos rfl] at H; exact H
                     clear H
                     have H := H1
                     clear H1
                     have H' := Aside0.mk H
                     clear H
                     go_wp2
                     repeat (go_quiet (fail); try go_wp2)
                     go_roundg kj27
                     case measure => have := HJ1.out; have := HK2.out; have := HJ19.out; have := HK4.out; have := HJ27.out; omega
                     case rel => exact ⟨(wrap64 (x41_4 + 1)), (by first | rfl | (simp; done) | (simp [*]; done)), H', ⟨by have := HJ1.out; have := HK2.out; have := HJ19.out; have := HK4.out; have := HJ27.out; omega⟩, ⟨bz BK249⟩, ⟨by exact bh⟩⟩
                    ·replace c39 := Bool.eq_false_iff.mpr c39
                     subst c39
                     have H1 : (if ((rd_T35 (rd_L5 l0_2 x26_2) x41_4).f1) < 0 then (some false) else (if ((rd_T35 (rd_L5 l0_2 x26_2) x41_4).f1) ≥ (l0_2.length : Int) then (some false) else (if ((rd_T35 (rd_L5 l0_2 x26_2) x41_4).f1) = x26_2 then (some false) else (if ((rd_T35 (rd_L5 l0_2 x26_2) x41_4).f2) < 0 then (some false) else (if 0 ≤ ((rd_T35 (rd_L5 l0_2 x26_2) x41_4).f1) then (if ((rd_T35 (rd_L5 l0_2 x26_2) x41_4).f1) < (l0_2.length : Int) then (if ((rd_T35 (rd_L5 l0_2 x26_2) x41_4).f2) ≥ ((rd_L5 l0_2 ((rd_T35 (rd_L5 l0_2 x26_2) x41_4).f1)).length : Int) then (some false) else (impl_isCharter.l1 kj27 x26_2 l0_2 (l0_2.length : Int) x26_2 (rd_L5 l0_2 x26_2) ((rd_L5 l0_2 x26_2).length : Int) (wrap64 (x41_4 + 1)) a0_0 l0_1 l0_2)) else (none)) else (none)))))) = some r := by rw [if_neg (show ¬ (false = true) by decide)] at H; exact H
                     clear H
                     have H := H1
                     clear H1
                     by_cases c40 : ((rd_T35 (rd_L5 l0_2 x26_2) x41_4).f1) < 0
                     ·rw [if_pos c40] at H
                      have c40b0 : decide (((rd_T35 (rd_L5 l0_2 x26_2) x41_4).f1) < 0) = true := decide_eq_true c40
                      clear c40
                      obtain rfl := Option.some.inj H
                      have hnb41 := NB253_249.out
                      have hnc41 := NB249_253.out
                      have hcz42_0 : wc.cell? ⟨gb253, 0, none⟩ = some (.slice A252_0 ((rd_T35 (rd_L5 l0_2 x26_2) x41_4).f0).length c252_0) := (blk_cell BK253.out 0).trans rfl
                      have hcz42_1 : wc.cell? ⟨gb253, 1, none⟩ = some (.int .i64 ((rd_T35 (rd_L5 l0_2 x26_2) x41_4).f1)) := (blk_cell BK253.out 1).trans rfl
                      have hcz42_2 : wc.cell? ⟨gb253, 2, none⟩ = some (.int .i64 ((rd_T35 (rd_L5 l0_2 x26_2) x41_4).f2)) := (blk_cell BK253.out 2).trans rfl
                      have hfz42_0 := blk_frozen BK253.out 0
                      have hfz42_1 := blk_frozen BK253.out 1
                      have hfz42_2 := blk_frozen BK253.out 2
                      go_wp2
                      repeat (go_quiet (fail); try go_wp2)
                      go_ret
                      exact ⟨by first | rfl | (simp [errW_none, errW_some] <;> rfl) | (simp [*, errW_none, errW_some] <;> rfl), by exact bh⟩
                     ·rw [if_neg c40] at H
                      have c40b0 : decide (((rd_T35 (rd_L5 l0_2 x26_2) x41_4).f1) < 0) = false := decide_eq_false c40
                      clear c40
                      by_cases c43 : ((rd_T35 (rd_L5 l0_2 x26_2) x41_4).f1) ≥ (l0_2.length : Int)
                      ·rw [if_pos c43] at H
                       have c43b0 : decide ((l0_2.length : Int) ≤ ((rd_T35 (rd_L5 l0_2 x26_2) x41_4).f1)) = true := decide_eq_true c43
                       clear c43
                       obtain rfl := Option.some.inj H
                       have hnb44 := NB253_249.out
                       have hnc44 := NB249_253.out
                       have hcz45_0 : wc.cell? ⟨gb253, 0, none⟩ = some (.slice A252_0 ((rd_T35 (rd_L5 l0_2 x26_2) x41_4).f0).length c252_0) := (blk_cell BK253.out 0).trans rfl
                       have hcz45_1 : wc.cell? ⟨gb253, 1, none⟩ = some (.int .i64 ((rd_T35 (rd_L5 l0_2 x26_2) x41_4).f1)) := (blk_cell BK253.out 1).trans rfl
                       have hcz45_2 : wc.cell? ⟨gb253, 2, none⟩ = some (.int .i64 ((rd_T35 (rd_L5 l0_2 x26_2) x41_4).f2)) := (blk_cell BK253.out 2).trans rfl
                       have hfz45_0 := blk_frozen BK253.out 0
                       have hfz45_1 := blk_frozen BK253.out 1
                       have hfz45_2 := blk_frozen BK253.out 2
                       have hcz46_0 := cz0 BK249
                       have hcz46_1 := cz1 BK249
                       have hcz46_2 := cz2 BK249
                       have hfz46_0 := blk_frozen BK249.out 0
                       have hfz46_1 := blk_frozen BK249.out 1
                       have hfz46_2 := blk_frozen BK249.out 2
                       go_wp2
                       repeat (go_quiet (fail); try go_wp2)
                       go_ret
                       exact ⟨by first | rfl | (simp [errW_none, errW_some] <;> rfl) | (simp [*, errW_none, errW_some] <;> rfl), by exact bh⟩
                      ·rw [if_neg c43] at H
                       have c43b0 : decide ((l0_2.length : Int) ≤ ((rd_T35 (rd_L5 l0_2 x26_2) x41_4).f1)) = false := decide_eq_false c43
                       clear c43
                       by_cases c47 : ((rd_T35 (rd_L5 l0_2 x26_2) x41_4).f1) = x26_2
                       ·rw [if_pos c47] at H
                        have c47b0 : (((rd_T35 (rd_L5 l0_2 x26_2) x41_4).f1) == x26_2) = true := beq_iff_eq.mpr c47
                        have c47b1 : (((rd_T35 (rd_L5 l0_2 x26_2) x41_4).f1) != x26_2) = false := bne_eq_false_iff_eq.mpr c47
                        clear c47
                        obtain rfl := Option.some.inj H
                        have hnb48 := NB253_249.out
                        have hnc48 := NB249_253.out
                        have hcz49_0 : wc.cell? ⟨gb253, 0, none⟩ = some (.slice A252_0 ((rd_T35 (rd_L5 l0_2 x26_2) x41_4).f0).length c252_0) := (blk_cell BK253.out 0).trans rfl
                        have hcz49_1 : wc.cell? ⟨gb253, 1, none⟩ = some (.int .i64 ((rd_T35 (rd_L5 l0_2 x26_2) x41_4).f1)) := (blk_cell BK253.out 1).trans rfl
                        have hcz49_2 : wc.cell? ⟨gb253, 2, none⟩ = some (.int .i64 ((rd_T35 (rd_L5 l0_2 x26_2) x41_4).f2)) := (blk_cell BK253.out 2).trans rfl
                        have hfz49_0 := blk_frozen BK253.out 0
                        have hfz49_1 := blk_frozen BK253.out 1
                        have hfz49_2 := blk_frozen BK253.out 2
                        have hcz50_0 := cz0 BK249
                        have hcz50_1 := cz1 BK249
                        have hcz50_2 := cz2 BK249
                        have hfz50_0 := blk_frozen BK249.out 0
                        have hfz50_1 := blk_frozen BK249.out 1
                        have hfz50_2 := blk_frozen BK249.out 2
                        go_wp2
                        repeat (go_quiet (fail); try go_wp2)
                        go_ret
                        exact ⟨by first | rfl | (simp [errW_none, errW_some] <;> rfl) | (simp [*, errW_none, errW_some] <;> rfl), by exact bh⟩
                       ·rw [if_neg c47] at H
                        have c47b0 : (((rd_T35 (rd_L5 l0_2 x26_2) x41_4).f1) == x26_2) = false := beq_eq_false_iff_ne.mpr c47
                        have c47b1 : (((rd_T35 (rd_L5 l0_2 x26_2) x41_4).f1) != x26_2) = true := bne_iff_ne.mpr c47
                        by_cases c51 : ((rd_T35 (rd_L5 l0_2 x26_2) x41_4).f2) < 0
                        ·rw [if_pos c51] at H
                         have c51b0 : decide (((rd_T35 (rd_L5 l0_2 x26_2) x41_4).f2) < 0) = true := decide_eq_true c51
                         clear c51
                         obtain rfl := Option.some.inj H
                         have hnb52 := NB253_249.out
                         have hnc52 := NB249_253.out
                         have hcz53_0 : wc.cell? ⟨gb253, 0, none⟩ = some (.slice A252_0 ((rd_T35 (rd_L5 l0_2 x26_2) x41_4).f0).length c252_0) := (blk_cell BK253.out 0).trans rfl
                         have hcz53_1 : wc.cell? ⟨gb253, 1, none⟩ = some (.int .i64 ((rd_T35 (rd_L5 l0_2 x26_2) x41_4).f1)) := (blk_cell BK253.out 1).trans rfl
                         have hcz53_2 : wc.cell? ⟨gb253, 2, none⟩ = some (.int .i64 ((rd_T35 (rd_L5 l0_2 x26_2) x41_4).f2)) := (blk_cell BK253.out 2).trans rfl
                         have hfz53_0 := blk_frozen BK253.out 0
                         have hfz53_1 := blk_frozen BK253.out 1
                         have hfz53_2 := blk_frozen BK253.out 2
                         have hcz54_0 := cz0 BK249
                         have hcz54_1 := cz1 BK249
                         have hcz54_2 := cz2 BK249
                         have hfz54_0 := blk_frozen BK249.out 0
                         have hfz54_1 := blk_frozen BK249.out 1
                         have hfz54_2 := blk_frozen BK249.out 2
                         go_wp2
                         repeat (go_quiet (fail); try go_wp2)
                         go_ret
                         exact ⟨by first | rfl | (simp [errW_none, errW_some] <;> rfl) | (simp [*, errW_none, errW_some] <;> rfl), by exact bh⟩
                        ·rw [if_neg c51] at H
                         have c51b0 : decide (((rd_T35 (rd_L5 l0_2 x26_2) x41_4).f2) < 0) = false := decide_eq_false c51
                         clear c51
                         by_cases c55 : 0 ≤ ((rd_T35 (rd_L5 l0_2 x26_2) x41_4).f1)
                         ·rw [if_pos c55] at H
                          have c55b0 : decide (0 ≤ ((rd_T35 (rd_L5 l0_2 x26_2) x41_4).f1)) = true := decide_eq_true c55
                          clear c55
                          by_cases c56 : ((rd_T35 (rd_L5 l0_2 x26_2) x41_4).f1) < (l0_2.length : Int)
                          ·rw [if_pos c56] at H
                           have c56b0 : decide (((rd_T35 (rd_L5 l0_2 x26_2) x41_4).f1) < (l0_2.length : Int)) = true := decide_eq_true c56
                           clear c56
                           by_cases c57 : ((rd_T35 (rd_L5 l0_2 x26_2) x41_4).f2) ≥ ((rd_L5 l0_2 ((rd_T35 (rd_L5 l0_2 x26_2) x41_4).f1)).length : Int)
                           ·rw [if_pos c57] at H
                            have c57b0 : decide (((rd_L5 l0_2 ((rd_T35 (rd_L5 l0_2 x26_2) x41_4).f1)).length : Int) ≤ ((rd_T35 (rd_L5 l0_2 x26_2) x41_4).f2)) = true := decide_eq_true c57
                            clear c57
                            obtain rfl := Option.some.inj H
                            have hnb58 := NB253_249.out
                            have hnc58 := NB249_253.out
                            have hcz59_0 : wc.cell? ⟨gb253, 0, none⟩ = some (.slice A252_0 ((rd_T35 (rd_L5 l0_2 x26_2) x41_4).f0).length c252_0) := (blk_cell BK253.out 0).trans rfl
                            have hcz59_1 : wc.cell? ⟨gb253, 1, none⟩ = some (.int .i64 ((rd_T35 (rd_L5 l0_2 x26_2) x41_4).f1)) := (blk_cell BK253.out 1).trans rfl
                            have hcz59_2 : wc.cell? ⟨gb253, 2, none⟩ = some (.int .i64 ((rd_T35 (rd_L5 l0_2 x26_2) x41_4).f2)) := (blk_cell BK253.out 2).trans rfl
                            have hfz59_0 := blk_frozen BK253.out 0
                            have hfz59_1 := blk_frozen BK253.out 1
                            have hfz59_2 := blk_frozen BK253.out 2
                            have hcz60_0 := cz0 BK249
                            have hcz60_1 := cz1 BK249
                            have hcz60_2 := cz2 BK249
                            have hfz60_0 := blk_frozen BK249.out 0
                            have hfz60_1 := blk_frozen BK249.out 1
                            have hfz60_2 := blk_frozen BK249.out 2
                            have p255 : 0 ≤ (((rd_T35 (rd_L5 l0_2 x26_2) x41_4).f1) : Int) := oda
                            have q255 : ((rd_T35 (rd_L5 l0_2 x26_2) x41_4).f1) < (l0_2.length : Int) := oda
                            obtain ⟨ad255, A255_0, c255_0, e255, hx255_0, hl255_0, hi255_0⟩ := at_L5 HR0_2.out ((rd_T35 (rd_L5 l0_2 x26_2) x41_4).f1) p255 q255
                            obtain rfl : ad251 = ad255 := (by injection e255)
                            replace hx255_0 := (HB.out.cell (World.block_lt_of_cell? w _ hx255_0)).trans hx255_0
                            have HR255_0 := Aside0.mk hi255_0
                            have HC255_0 := Aside0.mk hl255_0
                            clear hi255_0 hl255_0
                            replace p255 := eq_true p255
                            replace q255 := eq_true q255
                            go_wp2
                            repeat (go_quiet (fail); try go_wp2)
                            go_ret
                            exact ⟨by first | rfl | (simp [errW_none, errW_some] <;> rfl) | (simp [*, errW_none, errW_some] <;> rfl), by exact bh⟩
                           ·rw [if_neg c57] at H
                            have c57b0 : decide (((rd_L5 l0_2 ((rd_T35 (rd_L5 l0_2 x26_2) x41_4).f1)).length : Int) ≤ ((rd_T35 (rd_L5 l0_2 x26_2) x41_4).f2)) = false := decide_eq_false c57
                            clear c57
                            have H' := Aside0.mk H
                            clear H
                            have hnb61 := NB253_249.out
                            have hnc61 := NB249_253.out
                            have hcz62_0 : wc.cell? ⟨gb253, 0, none⟩ = some (.slice A252_0 ((rd_T35 (rd_L5 l0_2 x26_2) x41_4).f0).length c252_0) := (blk_cell BK253.out 0).trans rfl
                            have hcz62_1 : wc.cell? ⟨gb253, 1, none⟩ = some (.int .i64 ((rd_T35 (rd_L5 l0_2 x26_2) x41_4).f1)) := (blk_cell BK253.out 1).trans rfl
                            have hcz62_2 : wc.cell? ⟨gb253, 2, none⟩ = some (.int .i64 ((rd_T35 (rd_L5 l0_2 x26_2) x41_4).f2)) := (blk_cell BK253.out 2).trans rfl
                            have hfz62_0 := blk_frozen BK253.out 0
                            have hfz62_1 := blk_frozen BK253.out 1
                            have hfz62_2 := blk_frozen BK253.out 2
                            have hcz63_0 := cz0 BK249
                            have hcz63_1 := cz1 BK249
                            have hcz63_2 := cz2 BK249
                            have hfz63_0 := blk_frozen BK249.out 0
                            have hfz63_1 := blk_frozen BK249.out 1
                            have hfz63_2 := blk_frozen BK249.out 2
                            have p255 : 0 ≤ (((rd_T35 (rd_L5 l0_2 x26_2) x41_4).f1) : Int) := oda
                            have q255 : ((rd_T35 (rd_L5 l0_2 x26_2) x41_4).f1) < (l0_2.length : Int) := oda
                            obtain ⟨ad255, A255_0, c255_0, e255, hx255_0, hl255_0, hi255_0⟩ := at_L5 HR0_2.out ((rd_T35 (rd_L5 l0_2 x26_2) x41_4).f1) p255 q255
                            obtain rfl : ad251 = ad255 := (by injection e255)
                            replace hx255_0 := (HB.out.cell (World.block_lt_of_cell? w _ hx255_0)).trans hx255_0
                            have HR255_0 := Aside0.mk hi255_0
                            have HC255_0 := Aside0.mk hl255_0
                            clear hi255_0 hl255_0
                            replace p255 := eq_true p255
                            replace q255 := eq_true q255
                            go_wp2
                            repeat (go_quiet (fail); try go_wp2)
                            go_roundg kj27
                            case measure => have := HJ1.out; have := HK2.out; have := HJ19.out; have := HK4.out; have := HJ27.out; omega
                            case rel => exact ⟨(wrap64 (x41_4 + 1)), (by first | rfl | (simp; done) | (simp [*]; done)), H', ⟨by have := HJ1.out; have := HK2.out; have := HJ19.out; have := HK4.out; have := HJ27.out; omega⟩, ⟨bz BK249⟩, ⟨by exact bh⟩⟩
                          ·rw [if_neg c56] at H
                           exact absurd H (by simp)
                         ·rw [if_neg c55] at H
                          exact absurd H (by simp)
                 ·replace c27 := Bool.eq_false_iff.mpr c27
                  subst c27
                  have H1 : (some false) = some r := by rw [if_neg (show ¬ (false = true) by decide)] at H; exact H
                  clear H
                  have H := H1
                  clear H1
                  obtain rfl := Option.some.inj H
                  have p252 : 0 ≤ (x41_4 : Int) := oda
                  have q252 : x41_4 < ((rd_L5 l0_2 x26_2).length : Int) := oda
                  obtain ⟨ad252, A252_0, c252_0, e252, hx252_0, hx252_1, hx252_2, hl252_0, hi252_0⟩ := at_T35 HR251_0.out x41_4 p252 q252
                  cases e252
                  replace hx252_0 := (HB.out.cell (World.block_lt_of_cell? w _ hx252_0)).trans hx252_0
                  replace hx252_1 := (HB.out.cell (World.block_lt_of_cell? w _ hx252_1)).trans hx252_1
                  replace hx252_2 := (HB.out.cell (World.block_lt_of_cell? w _ hx252_2)).trans hx252_2
                  have HR252_0 := Aside0.mk hi252_0
                  have HC252_0 := Aside0.mk hl252_0
                  clear hi252_0 hl252_0
                  replace p252 := eq_true p252
                  replace q252 := eq_true q252
                  go_wp2_with (first | ((with_reducible refine gate_dst (N := 6) rfl ?_); (try (refine gate_guard (by rfl) ?_; dsimp only)); refine box_event ?hg (N := 6) ?hd (cs := #[.slice none 0 0, .int .i64 0, .int .i64 0]) (t := 35) ?hr ?_; (case hd => rfl); (case hg => rfl); (case hr => first | (go_simp; done) | (go_simp; rfl)); intro gb253 hg w64 hbox hb; have n0_ := Aside0.mk (blk_below (bz BK249) hb); have n1_ := Aside0.mk (below_step bh hb); have n2_ := Aside0.mk (hbox); have n3_ := Aside0.mk ((gs (W0 := w) hg bh)); have n4_ := Aside0.mk ((gs (W0 := w) hg bh)); have n5_ := Aside0.mk ((gn hg (bz BK249))); have n6_ := Aside0.mk ((gm hg (bz BK249))); clear BK249 HB; have BK249 := n0_; have HB := n1_; have BK253 := n2_; have GW253 := n3_; have GE253 := n4_; have NB249_253 := n5_; have NB253_249 := n6_; clear n0_ n1_ n2_ n3_ n4_ n5_ n6_ hb hbox hg; have hnb65 := NB253_249.out; have hnc65 := NB249_253.out; have hcz66_0 := cz0 BK253; have hcz66_1 := cz1 BK253; have hcz66_2 := cz2 BK253; have hfz66_0 := blk_frozen BK253.out 0; have hfz66_1 := blk_frozen BK253.out 1; have hfz66_2 := blk_frozen BK253.out 2; have hcz67_0 := cz0 BK249; have hcz67_1 := cz1 BK249; have hcz67_2 := cz2 BK249; have hfz67_0 := blk_frozen BK249.out 0; have hfz67_1 := blk_frozen BK249.out 1; have hfz67_2 := blk_frozen BK249.out 2) | (go_at_call 48; (with_reducible refine (impl_isTerm.calls k4 a0_0 _ _ l0_1 _ _ ((rd_T35 (rd_L5 l0_2 x26_2) x41_4).f0) false _ ?side1 ?side2 ?side3 ?side4 A26.out).mono ?_); (case side1 => exact Kd.C_below HR0_1.out bh); (case side2 => exact HC0_1.out); (case side3 => exact Kd.C_below HR252_0.out bh); (case side4 => exact HC252_0.out); rintro e w68 ⟨rfl, hb⟩; have n0_ := Aside0.mk (blk_below (g := gb249) (o := .cells #[.int .i64 a0_0, .slice A0_1 l0_1.length c0_1, .slice (some ad251) l0_2.length c0_2] 28 (0, 0)) (bf NB249_253 BK249) hb); have n1_ := Aside0.mk (blk_below (g := gb253) (o := .cells #[.slice A252_0 ((rd_T35 (rd_L5 l0_2 x26_2) x41_4).f0).length c252_0, .int .i64 ((rd_T35 (rd_L5 l0_2 x26_2) x41_4).f1), .int .i64 ((rd_T35 (rd_L5 l0_2 x26_2) x41_4).f2)] 35 (0, 0)) (bp BK253) hb); have n2_ := Aside0.mk (below_step bh hb); clear BK249 BK253 HB; have BK249 := n0_; have BK253 := n1_; have HB := n2_; clear n0_ n1_ n2_; (try clear hb); (try clear hb2); (try clear hk); (try clear hi)))
                  repeat (go_quiet (first | ((with_reducible refine gate_dst (N := 6) rfl ?_); (try (refine gate_guard (by rfl) ?_; dsimp only)); refine box_event ?hg (N := 6) ?hd (cs := #[.slice none 0 0, .int .i64 0, .int .i64 0]) (t := 35) ?hr ?_; (case hd => rfl); (case hg => rfl); (case hr => first | (go_simp; done) | (go_simp; rfl)); intro gb253 hg w64 hbox hb; have n0_ := Aside0.mk (blk_below (bz BK249) hb); have n1_ := Aside0.mk (below_step bh hb); have n2_ := Aside0.mk (hbox); have n3_ := Aside0.mk ((gs (W0 := w) hg bh)); have n4_ := Aside0.mk ((gs (W0 := w) hg bh)); have n5_ := Aside0.mk ((gn hg (bz BK249))); have n6_ := Aside0.mk ((gm hg (bz BK249))); clear BK249 HB; have BK249 := n0_; have HB := n1_; have BK253 := n2_; have GW253 := n3_; have GE253 := n4_; have NB249_253 := n5_; have NB253_249 := n6_; clear n0_ n1_ n2_ n3_ n4_ n5_ n6_ hb hbox hg; have hnb65 := NB253_249.out; have hnc65 := NB249_253.out; have hcz66_0 := cz0 BK253; have hcz66_1 := cz1 BK253; have hcz66_2 := cz2 BK253; have hfz66_0 := blk_frozen BK253.out 0; have hfz66_1 := blk_frozen BK253.out 1; have hfz66_2 := blk_frozen BK253.out 2; have hcz67_0 := cz0 BK249; have hcz67_1 := cz1 BK249; have hcz67_2 := cz2 BK249; have hfz67_0 := blk_frozen BK249.out 0; have hfz67_1 := blk_frozen BK249.out 1; have hfz67_2 := blk_frozen BK249.out 2) | (go_at_call 48; (with_reducible refine (impl_isTerm.calls k4 a0_0 _ _ l0_1 _ _ ((rd_T35 (rd_L5 l0_2 x26_2) x41_4).f0) false _ ?side1 ?side2 ?side3 ?side4 A26.out).mono ?_); (case side1 => exact Kd.C_below HR0_1.out bh); (case side2 => exact HC0_1.out); (case side3 => exact Kd.C_below HR252_0.out bh); (case side4 => exact HC252_0.out); rintro e w68 ⟨rfl, hb⟩; have n0_ := Aside0.mk (blk_below (g := gb249) (o := .cells #[.int .i64 a0_0, .slice A0_1 l0_1.length c0_1, .slice (some ad251) l0_2.length c0_2] 28 (0, 0)) (bf NB249_253 BK249) hb); have n1_ := Aside0.mk (blk_below (g := gb253) (o := .cells #[.slice A252_0 ((rd_T35 (rd_L5 l0_2 x26_2) x41_4).f0).length c252_0, .int .i64 ((rd_T35 (rd_L5 l0_2 x26_2) x41_4).f1), .int .i64 ((rd_T35 (rd_L5 l0_2 x26_2) x41_4).f2)] 35 (0, 0)) (bp BK253) hb); have n2_ := Aside0.mk (below_step bh hb); clear BK249 BK253 HB; have BK249 := n0_; have BK253 := n1_; have HB := n2_; clear n0_ n1_ n2_; (try clear hb); (try clear hb2); (try clear hk); (try clear hi))); try go_wp2_with (first | ((with_reducible refine gate_dst (N := 6) rfl ?_); (try (refine gate_guard (by rfl) ?_; dsimp only)); refine box_event ?hg (N := 6) ?hd (cs := #[.slice none 0 0, .int .i64 0, .int .i64 0]) (t := 35) ?hr ?_; (case hd => rfl); (case hg => rfl); (case hr => first | (go_simp; done) | (go_simp; rfl)); intro gb253 hg w64 hbox hb; have n0_ := Aside0.mk (blk_below (bz BK249) hb); have n1_ := Aside0.mk (below_step bh hb); have n2_ := Aside0.mk (hbox); have n3_ := Aside0.mk ((gs (W0 := w) hg bh)); have n4_ := Aside0.mk ((gs (W0 := w) hg bh)); have n5_ := Aside0.mk ((gn hg (bz BK249))); have n6_ := Aside0.mk ((gm hg (bz BK249))); clear BK249 HB; have BK249 := n0_; have HB := n1_; have BK253 := n2_; have GW253 := n3_; have GE253 := n4_; have NB249_253 := n5_; have NB253_249 := n6_; clear n0_ n1_ n2_ n3_ n4_ n5_ n6_ hb hbox hg; have hnb65 := NB253_249.out; have hnc65 := NB249_253.out; have hcz66_0 := cz0 BK253; have hcz66_1 := cz1 BK253; have hcz66_2 := cz2 BK253; have hfz66_0 := blk_frozen BK253.out 0; have hfz66_1 := blk_frozen BK253.out 1; have hfz66_2 := blk_frozen BK253.out 2; have hcz67_0 := cz0 BK249; have hcz67_1 := cz1 BK249; have hcz67_2 := cz2 BK249; have hfz67_0 := blk_frozen BK249.out 0; have hfz67_1 := blk_frozen BK249.out 1; have hfz67_2 := blk_frozen BK249.out 2) | (go_at_call 48; (with_reducible refine (impl_isTerm.calls k4 a0_0 _ _ l0_1 _ _ ((rd_T35 (rd_L5 l0_2 x26_2) x41_4).f0) false _ ?side1 ?side2 ?side3 ?side4 A26.out).mono ?_); (case side1 => exact Kd.C_below HR0_1.out bh); (case side2 => exact HC0_1.out); (case side3 => exact Kd.C_below HR252_0.out bh); (case side4 => exact HC252_0.out); rintro e w68 ⟨rfl, hb⟩; have n0_ := Aside0.mk (blk_below (g := gb249) (o := .cells #[.int .i64 a0_0, .slice A0_1 l0_1.length c0_1, .slice (some ad251) l0_2.length c0_2] 28 (0, 0)) (bf NB249_253 BK249) hb); have n1_ := Aside0.mk (blk_below (g := gb253) (o := .cells #[.slice A252_0 ((rd_T35 (rd_L5 l0_2 x26_2) x41_4).f0).length c252_0, .int .i64 ((rd_T35 (rd_L5 l0_2 x26_2) x41_4).f1), .int .i64 ((rd_T35 (rd_L5 l0_2 x26_2) x41_4).f2)] 35 (0, 0)) (bp BK253) hb); have n2_ := Aside0.mk (below_step bh hb); clear BK249 BK253 HB; have BK249 := n0_; have BK253 := n1_; have HB := n2_; clear n0_ n1_ n2_; (try clear hb); (try clear hb2); (try clear hk); (try clear hi))))
                  go_ret
                  exact ⟨by first | rfl | (simp [errW_none, errW_some] <;> rfl) | (simp [*, errW_none, errW_some] <;> rfl), by exact bh⟩
                ·rw [if_neg c25] at H
                 exact absurd H (by simp)
               ·rw [if_neg c24] at H
                exact absurd H (by simp)
              ·rw [if_neg c23] at H
               have c23b0 : decide (x41_4 < ((rd_L5 l0_2 x26_2).length : Int)) = false := decide_eq_false c23
               clear c23
               have H' := Aside0.mk H
               clear H
               go_wp2
               repeat (go_quiet (fail); try go_wp2)
               go_roundg k4
               case measure => have := HJ1.out; have := HK2.out; have := HJ19.out; have := HK4.out; omega
               case rel => exact ⟨(wrap64 (x26_2 + 1)), (by first | rfl | (simp; done) | (simp [*]; done)), H', ⟨by have := HJ1.out; have := HK2.out; have := HJ19.out; have := HK4.out; omega⟩, ⟨bz BK249⟩, ⟨by exact bh⟩⟩
        ·rw [if_neg c19] at H
         exact absurd H (by simp)
       ·rw [if_neg c18] at H
        exact absurd H (by simp)
      ·rw [if_neg c17] at H
       have c17b0 : decide (x26_2 < (l0_2.length : Int)) = false := decide_eq_false c17
       clear c17
       obtain rfl := Option.some.inj H
       go_wp2
       repeat (go_quiet (fail); try go_wp2)
       go_ret
       exact ⟨by first | rfl | (simp [errW_none, errW_some] <;> rfl) | (simp [*, errW_none, errW_some] <;> rfl), by exact bh⟩

end Go.Proofs.Ytmbphgdfadoknaa.QFnCharterOk
