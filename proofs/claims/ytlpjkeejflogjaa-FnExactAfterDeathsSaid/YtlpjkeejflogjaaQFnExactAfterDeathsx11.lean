-- Printed for this claim by a turned copy of the print (wip/myprint). Lean checks it. Squeezed. Worded. Tightened.
import Derived.Test.YtlpjkeejflogjaaQFnExactAfterDeathsx0
import Derived.Test.YtlpjkeejflogjaaQFnExactAfterDeathsx6
import Derived.Test.YtlpjkeejflogjaaQFnExactAfterDeathsx7
import Derived.Test.YtlpjkeejflogjaaQFnExactAfterDeathsx9
import Derived.Test.YtlpjkeejflogjaaQFnExactAfterDeathsx10
namespace Go.Proofs.Ytlpjkeejflogjaa.QFnExactAfterDeaths
open Go.RowKit Go.Proofs.YtlpjkeejflogjaaW.PrintWords Go.Proofs.YtlpjkeejflogjaaW.PrintLast Go.Proofs.YtlpjkeejflogjaaW.PrintMore
attribute [local go_sem] max2_int min2_int max_two min_two max_three min_three max_four min_four Opens.cell_twice   -- for this text's walks alone
set_option linter.unusedVariables false
set_option linter.unusedSimpArgs false

/-! ### spec_AfterDeath: function 46 -/
mutual
def spec_AfterDeath.j0 : Nat → Int → Bool → Int → List (List Int) → List Int → Int → Option (Int × (List (List Int)) × List Int × Int × Bool)
 | 0, _, _, _, _, _, _ => none
 | k + 1, x1, x26, x296000, x296001, x296002, x296003 => if x26 = true then (some (0, ([] : List (List Int)), ([] : List Int), 0, false)) else ((spec_l7Copy.f k x296000 x296001 x296002 x296003).bind fun bt299 => (if 0 ≤ x1 then (spec_AfterDeath.l0 k x1 0 bt299.1 bt299.2.1 bt299.2.2.1 (wrap64 (x296003 - (shl .i64 1 x1)))) else (none)))
def spec_AfterDeath.l0 : Nat → Int → Int → Int → List (List Int) → List Int → Int → Option (Int × (List (List Int)) × List Int × Int × Bool)
 | 0, _, _, _, _, _, _ => none
 | k + 1, x1, x7, x308000, x308001, x308002, x308003 => if x7 < (x308002.length : Int) then (if 0 ≤ x7 then (if (rd x308002 x7) = x1 then (spec_AfterDeath.l0 k x1 (wrap64 (x7 + 1)) x308000 x308001 (x308002.set (x7 : Int).toNat (-1)) x308003) else (spec_AfterDeath.l0 k x1 (wrap64 (x7 + 1)) x308000 x308001 x308002 x308003)) else (none)) else ((spec_FilledCourt.f k x308000 x308001 x308002 x308003).bind fun bt310 => (some (bt310.1, bt310.2.1, bt310.2.2.1, bt310.2.2.2, true)))
end
def spec_AfterDeath.f (k : Nat) (a0_0 : Int) (l0_1 : List (List Int)) (l0_2 : List Int) (a0_3 : Int) (a1 : Int) : Option (Int × (List (List Int)) × List Int × Int × Bool) := (spec_CourtOk.f k a0_0 l0_1 l0_2 a0_3).bind fun t297 => (if t297 = true then ((spec_l1In.f a1 0 (wrap64 (a0_0 - 1))).bind fun t298 => (if t298 = true then (if 0 ≤ a1 then (spec_AfterDeath.j0 k a1 ((Int.tmod (shr .i64 a0_3 a1) 2) == 0) a0_0 l0_1 l0_2 a0_3) else (none)) else (spec_AfterDeath.j0 k a1 true a0_0 l0_1 l0_2 a0_3))) else (spec_AfterDeath.j0 k a1 true a0_0 l0_1 l0_2 a0_3))
theorem spec_AfterDeath.mono_l : ∀ k, (∀ y0 y1 y2 y3 y4 y5, LeO (spec_AfterDeath.j0 k y0 y1 y2 y3 y4 y5) (spec_AfterDeath.j0 (k + 1) y0 y1 y2 y3 y4 y5)) ∧ (∀ y0 y1 y2 y3 y4 y5, LeO (spec_AfterDeath.l0 k y0 y1 y2 y3 y4 y5) (spec_AfterDeath.l0 (k + 1) y0 y1 y2 y3 y4 y5))
 | 0 => ⟨fun _ _ _ _ _ _ r h => by simp [spec_AfterDeath.j0] at h, fun _ _ _ _ _ _ r h => by simp [spec_AfterDeath.l0] at h⟩
 | k + 1 => by
  obtain ⟨ih0, ih1⟩ := spec_AfterDeath.mono_l k
  refine ⟨?_, ?_⟩
  ·intro y0 y1 y2 y3 y4 y5
   unfold spec_AfterDeath.j0
   repeat' first
   | (with_reducible exact ih0 _ _ _ _ _ _)
   | (with_reducible exact ih1 _ _ _ _ _ _)
   | (with_reducible exact spec_CourtOk.mono _ _ _ _ _)
   | (with_reducible exact spec_FilledCourt.mono _ _ _ _ _)
   | (with_reducible exact spec_l7Copy.mono _ _ _ _ _)
   | (with_reducible exact LeO.refl _)
   | (with_reducible exact LeO.none _)
   | (with_reducible refine LeO.ite ?_ ?_)
   | (with_reducible refine LeO.bind ?_ (fun _ => ?_))
   | exact ih0 _ _ _ _ _ _
   | exact ih1 _ _ _ _ _ _
   | exact spec_CourtOk.mono _ _ _ _ _
   | exact spec_FilledCourt.mono _ _ _ _ _
   | exact spec_l7Copy.mono _ _ _ _ _
   | exact LeO.none _
   | refine LeO.ite ?_ ?_
   | refine LeO.bind ?_ (fun _ => ?_)
  ·intro y0 y1 y2 y3 y4 y5
   unfold spec_AfterDeath.l0
   repeat' first
   | (with_reducible exact ih0 _ _ _ _ _ _)
   | (with_reducible exact ih1 _ _ _ _ _ _)
   | (with_reducible exact spec_CourtOk.mono _ _ _ _ _)
   | (with_reducible exact spec_FilledCourt.mono _ _ _ _ _)
   | (with_reducible exact spec_l7Copy.mono _ _ _ _ _)
   | (with_reducible exact LeO.refl _)
   | (with_reducible exact LeO.none _)
   | (with_reducible refine LeO.ite ?_ ?_)
   | (with_reducible refine LeO.bind ?_ (fun _ => ?_))
   | exact ih0 _ _ _ _ _ _
   | exact ih1 _ _ _ _ _ _
   | exact spec_CourtOk.mono _ _ _ _ _
   | exact spec_FilledCourt.mono _ _ _ _ _
   | exact spec_l7Copy.mono _ _ _ _ _
   | exact LeO.none _
   | refine LeO.ite ?_ ?_
   | refine LeO.bind ?_ (fun _ => ?_)
theorem spec_AfterDeath.mono : ∀ a0 a1 a2 a3 a4 k, LeO (spec_AfterDeath.f k a0 a1 a2 a3 a4) (spec_AfterDeath.f (k + 1) a0 a1 a2 a3 a4) := by
 intro a0 a1 a2 a3 a4 k
 obtain ⟨ih0, ih1⟩ := spec_AfterDeath.mono_l k
 unfold spec_AfterDeath.f
 repeat' first
   | (with_reducible exact ih0 _ _ _ _ _ _)
   | (with_reducible exact ih1 _ _ _ _ _ _)
   | (with_reducible exact spec_CourtOk.mono _ _ _ _ _)
   | (with_reducible exact spec_FilledCourt.mono _ _ _ _ _)
   | (with_reducible exact spec_l7Copy.mono _ _ _ _ _)
   | (with_reducible exact LeO.refl _)
   | (with_reducible exact LeO.none _)
   | (with_reducible refine LeO.ite ?_ ?_)
   | (with_reducible refine LeO.bind ?_ (fun _ => ?_))
   | exact ih0 _ _ _ _ _ _
   | exact ih1 _ _ _ _ _ _
   | exact spec_CourtOk.mono _ _ _ _ _
   | exact spec_FilledCourt.mono _ _ _ _ _
   | exact spec_l7Copy.mono _ _ _ _ _
   | exact LeO.none _
   | refine LeO.ite ?_ ?_
   | refine LeO.bind ?_ (fun _ => ?_)
set_option maxHeartbeats 8000000 in
set_option maxRecDepth 100000 in
theorem spec_AfterDeath.calls (k : Nat) (a0_0 : Int) (A0_1 : Option Addr) (c0_1 : Nat) (l0_1 : List (List Int)) (A0_2 : Option Addr) (c0_2 : Nat) (l0_2 : List Int) (a0_3 : Int) (a1 : Int) (r1 : Int) (r2 : List (List Int)) (r3 : List Int) (r4 : Int) (r5 : Bool) (w : World) (hr0_1 : Kd.C (Kd.slice 3 (Kd.int .i64)) w A0_1 l0_1.length l0_1) (hc0_1 : l0_1.length ≤ c0_1) (hr0_2 : Kd.C (Kd.int .i64) w A0_2 l0_2.length l0_2) (hc0_2 : l0_2.length ≤ c0_2) (h : spec_AfterDeath.f k a0_0 l0_1 l0_2 a0_3 a1 = some (r1, r2, r3, r4, r5)) :
  Calls Try.prog 46 #[.agg #[.int .i64 a0_0, .slice A0_1 l0_1.length c0_1, .slice A0_2 l0_2.length c0_2, .int .i64 a0_3], .int .i64 a1] w fun e w' => ∃ v1_ v2_ : Value, e = .returned (.tuple #[.agg #[.int .i64 r1, v1_, v2_, .int .i64 r4], .bool r5]) ∧ Kd.S (Kd.slice 3 (Kd.int .i64)) 23 w' w.heap.size (fun k_ => some k_ ≠ (v2_ : Value).ownBlock) v1_ r2 ∧ Kd.R (Kd.int .i64) 3 w' w.heap.size (fun _ => True) v2_ r3 ∧ Below w.heap.size w w' := by
 have hu28 := Try.underlying28
 have HR0_1 := Aside0.mk hr0_1
 have HC0_1 := Aside0.mk hc0_1
 clear hr0_1 hc0_1
 have HR0_2 := Aside0.mk hr0_2
 have HC0_2 := Aside0.mk hc0_2
 clear hr0_2 hc0_2
 have HB := Aside0.mk (Below.refl w.heap.size w)
 have H : ((spec_CourtOk.f k a0_0 l0_1 l0_2 a0_3).bind fun t297 => (if t297 = true then ((spec_l1In.f a1 0 (wrap64 (a0_0 - 1))).bind fun t298 => (if t298 = true then (if 0 ≤ a1 then (spec_AfterDeath.j0 k a1 ((Int.tmod (shr .i64 a0_3 a1) 2) == 0) a0_0 l0_1 l0_2 a0_3) else (none)) else (spec_AfterDeath.j0 k a1 true a0_0 l0_1 l0_2 a0_3))) else (spec_AfterDeath.j0 k a1 true a0_0 l0_1 l0_2 a0_3))) = some (r1, r2, r3, r4, r5) := h
 clear h
 have HC3 := Aside0.mk H
 clear H
 go_enter Try.func46, Try.ntmps46
 go_upto_region 1 with (first | ((with_reducible refine gate_dst (N := 2) rfl ?_); refine box_event ?hg (N := 2) ?hd (cs := #[.int .i64 a0_0, .slice A0_1 l0_1.length c0_1, .slice A0_2 l0_2.length c0_2, .int .i64 a0_3]) (t := 28) ?hr ?_; (case hd => rfl); (case hg => rfl); (case hr => first | (go_simp; done) | (go_simp; rfl)); intro gb295 hg w4 hbox hb; have n0_ := Aside0.mk (below_step bh hb); have n1_ := Aside0.mk (hbox); have n2_ := Aside0.mk ((gs (W0 := w) hg bh)); have n3_ := Aside0.mk ((gs (W0 := w) hg bh)); clear HB; have HB := n0_; have BK295 := n1_; have GW295 := n2_; have GE295 := n3_; clear n0_ n1_ n2_ n3_ hb hbox hg) | ((with_reducible refine gate_dst (N := 4) rfl ?_); refine box_event ?hg (N := 4) ?hd (cs := #[.int .i64 0, .slice none 0 0, .slice none 0 0, .int .i64 0]) (t := 28) ?hr ?_; (case hd => rfl); (case hg => rfl); (case hr => first | (go_simp; done) | (go_simp; rfl)); intro gb296 hg w5 hbox hb; have n0_ := Aside0.mk (blk_below (bz BK295) hb); have n1_ := Aside0.mk (below_step bh hb); have n2_ := Aside0.mk (hbox); have n3_ := Aside0.mk ((gs (W0 := w) hg bh)); have n4_ := Aside0.mk ((gs (W0 := w) hg bh)); have n5_ := Aside0.mk ((gn hg (bz BK295))); have n6_ := Aside0.mk ((gm hg (bz BK295))); clear BK295 HB; have BK295 := n0_; have HB := n1_; have BK296 := n2_; have GW296 := n3_; have GE296 := n4_; have NB295_296 := n5_; have NB296_295 := n6_; clear n0_ n1_ n2_ n3_ n4_ n5_ n6_ hb hbox hg))
 (try simp only [Act.put, List.setIfInBounds_toArray, List.set_cons_zero, List.set_cons_succ])
 go_cut [26] (fun v26 wc => ∃ (kq : Nat) (x26_2 : Bool), v26 = .bool x26_2 ∧ Aside0 (spec_AfterDeath.j0 kq a1 x26_2 a0_0 l0_1 l0_2 a0_3 = some (r1, r2, r3, r4, r5)) ∧ Aside0 (kq ≤ k) ∧ Aside0 (wc.heap[gb295]? = some (.cells #[.int .i64 a0_0, (.slice A0_1 l0_1.length c0_1), (.slice A0_2 l0_2.length c0_2), .int .i64 a0_3] 28 (0, 0))) ∧ Aside0 (wc.heap[gb296]? = some (.cells #[.int .i64 0, (.slice none 0 0), (.slice none 0 0), .int .i64 0] 28 (0, 0))) ∧ Aside0 (Below w.heap.size w wc))
 case first =>
  have H := HC3.out
  clear HC3
  replace H := Option.bind_eq_some_iff.mp H
  obtain ⟨t297, A60, H⟩ := H
  replace H : (if t297 = true then ((spec_l1In.f a1 0 (wrap64 (a0_0 - 1))).bind fun t298 => (if t298 = true then (if 0 ≤ a1 then (spec_AfterDeath.j0 k a1 ((Int.tmod (shr .i64 a0_3 a1) 2) == 0) a0_0 l0_1 l0_2 a0_3) else (none)) else (spec_AfterDeath.j0 k a1 true a0_0 l0_1 l0_2 a0_3))) else (spec_AfterDeath.j0 k a1 true a0_0 l0_1 l0_2 a0_3)) = some (r1, r2, r3, r4, r5) := H
  have A6 := Aside0.mk A60
  clear A60
  by_cases c7 : t297 = true
  ·subst c7
   have H1 : ((spec_l1In.f a1 0 (wrap64 (a0_0 - 1))).bind fun t298 => (if t298 = true then (if 0 ≤ a1 then (spec_AfterDeath.j0 k a1 ((Int.tmod (shr .i64 a0_3 a1) 2) == 0) a0_0 l0_1 l0_2 a0_3) else (none)) else (spec_AfterDeath.j0 k a1 true a0_0 l0_1 l0_2 a0_3))) = some (r1, r2, r3, r4, r5) := by rw [if_pos rfl] at H; exact H
   clear H
   have H := H1
   clear H1
   replace H := Option.bind_eq_some_iff.mp H
   obtain ⟨t298, A80, H⟩ := H
   replace H : (if t298 = true then (if 0 ≤ a1 then (spec_AfterDeath.j0 k a1 ((Int.tmod (shr .i64 a0_3 a1) 2) == 0) a0_0 l0_1 l0_2 a0_3) else (none)) else (spec_AfterDeath.j0 k a1 true a0_0 l0_1 l0_2 a0_3)) = some (r1, r2, r3, r4, r5) := H
   have A8 := Aside0.mk A80
   clear A80
   by_cases c9 : t298 = true
   ·subst c9
    have H1 : (if 0 ≤ a1 then (spec_AfterDeath.j0 k a1 ((Int.tmod (shr .i64 a0_3 a1) 2) == 0) a0_0 l0_1 l0_2 a0_3) else (none)) = some (r1, r2, r3, r4, r5) := by rw [if_pos rfl] at H; exact H
    clear H
    have H := H1
    clear H1
    by_cases c10 : 0 ≤ a1
    ·rw [if_pos c10] at H
     have c10b0 := eq_true c10
     have c10b1 : decide (0 ≤ a1) = true := decide_eq_true c10
     clear c10
     obtain ⟨ji11, hji11⟩ : ∃ j_ : Int, (shr .i64 a0_3 a1) = j_ := ⟨_, rfl⟩
     replace H : (spec_AfterDeath.j0 k a1 ((Int.tmod (ji11) 2) == 0) a0_0 l0_1 l0_2 a0_3) = some (r1, r2, r3, r4, r5) := by first | (rw [hji11] at H; exact H) | (simp only [hji11] at H ⊢; exact H)
     (try rw [hji11] at A6)
     (try rw [hji11] at A8)
     have hji11_ : (a0_3 / 2 ^ min a1.toNat 64) = ji11 := hji11
     have hji11z : a1 ≤ 64 → (a0_3 / 2 ^ a1.toNat) = ji11 := shr_small hji11
     have H' := Aside0.mk H
     clear H
     have hnb12 := NB295_296.out
     have hnc12 := NB296_295.out
     have hcz13_0 := cz0 BK295
     have hcz13_1 := cz1 BK295
     have hcz13_2 := cz2 BK295
     have hcz13_3 := cz3 BK295
     have hfz13_0 := blk_frozen BK295.out 0
     have hfz13_1 := blk_frozen BK295.out 1
     have hfz13_2 := blk_frozen BK295.out 2
     have hfz13_3 := blk_frozen BK295.out 3
     go_wp2_with (first | ((with_reducible refine gate_callee (f := 17) rfl ?_); refine goesL_ (some 9) rfl rfl Try.func17 kr rfl #[.agg #[.int .i64 a0_0, .slice A0_1 l0_1.length c0_1, .slice A0_2 l0_2.length c0_2, .int .i64 a0_3]] rfl lm ?_; (with_reducible refine (spec_CourtOk.calls k a0_0 _ _ l0_1 _ _ l0_2 a0_3 true _ ?side1 ?side2 ?side3 ?side4 A6.out).mono ?_); (case side1 => repeat (first | exact (Kd.C_below HR0_1.out HB.out) | (with_reducible refine Kd.C_alloc ?_ _) | (with_reducible refine Kd.C_drewN ?_ _) | (with_reducible refine Kd.C_drew ?_))); (case side2 => exact HC0_1.out); (case side3 => repeat (first | exact (Kd.C_below HR0_2.out HB.out) | (with_reducible refine Kd.C_alloc ?_ _) | (with_reducible refine Kd.C_drewN ?_ _) | (with_reducible refine Kd.C_drew ?_))); (case side4 => exact HC0_2.out); rintro e w14 ⟨rfl, hb⟩; refine ⟨_, rfl, ?_⟩; have n0_ := Aside0.mk (blk_below (bz BK295) hb); have n1_ := Aside0.mk (blk_below (bz BK296) hb); have n2_ := Aside0.mk (below_step bh hb); clear BK295 BK296 HB; have BK295 := n0_; have BK296 := n1_; have HB := n2_; clear n0_ n1_ n2_; (try clear hb); (try clear hb2); (try clear hk); (try clear hi); have hcz15_0 := cz0 BK295; have hcz15_1 := cz1 BK295; have hcz15_2 := cz2 BK295; have hcz15_3 := cz3 BK295; have hfz15_0 := blk_frozen BK295.out 0; have hfz15_1 := blk_frozen BK295.out 1; have hfz15_2 := blk_frozen BK295.out 2; have hfz15_3 := blk_frozen BK295.out 3) | (go_at_call 52; (with_reducible refine (spec_l1In.calls a1 0 (wrap64 (a0_0 - 1)) true _ A8.out).mono ?_); rintro e w' ⟨rfl, ⟨nd, rfl⟩⟩))
     go_meet
     case rel => exact ⟨_, (((Int.tmod (ji11) 2) == 0)), (by first | rfl | (simp; done) | (simp only [← hji11] <;> (first | rfl | simp)) | (simp [*]; done)), H', ⟨by first | omega | exact Nat.le_refl _⟩, ⟨bz BK295⟩, ⟨bz BK296⟩, ⟨by exact bh⟩⟩
    ·rw [if_neg c10] at H
     exact absurd H (by simp)
   ·replace c9 := Bool.eq_false_iff.mpr c9
    subst c9
    have H1 : (spec_AfterDeath.j0 k a1 true a0_0 l0_1 l0_2 a0_3) = some (r1, r2, r3, r4, r5) := by rw [if_neg (show ¬ (false = true) by decide)] at H; exact H
    clear H
    have H := H1
    clear H1
    have H' := Aside0.mk H
    clear H
    have hnb16 := NB295_296.out
    have hnc16 := NB296_295.out
    have hcz17_0 := cz0 BK295
    have hcz17_1 := cz1 BK295
    have hcz17_2 := cz2 BK295
    have hcz17_3 := cz3 BK295
    have hfz17_0 := blk_frozen BK295.out 0
    have hfz17_1 := blk_frozen BK295.out 1
    have hfz17_2 := blk_frozen BK295.out 2
    have hfz17_3 := blk_frozen BK295.out 3
    go_wp2_with (first | ((with_reducible refine gate_callee (f := 17) rfl ?_); refine goesL_ (some 9) rfl rfl Try.func17 kr rfl #[.agg #[.int .i64 a0_0, .slice A0_1 l0_1.length c0_1, .slice A0_2 l0_2.length c0_2, .int .i64 a0_3]] rfl lm ?_; (with_reducible refine (spec_CourtOk.calls k a0_0 _ _ l0_1 _ _ l0_2 a0_3 true _ ?side1 ?side2 ?side3 ?side4 A6.out).mono ?_); (case side1 => repeat (first | exact (Kd.C_below HR0_1.out HB.out) | (with_reducible refine Kd.C_alloc ?_ _) | (with_reducible refine Kd.C_drewN ?_ _) | (with_reducible refine Kd.C_drew ?_))); (case side2 => exact HC0_1.out); (case side3 => repeat (first | exact (Kd.C_below HR0_2.out HB.out) | (with_reducible refine Kd.C_alloc ?_ _) | (with_reducible refine Kd.C_drewN ?_ _) | (with_reducible refine Kd.C_drew ?_))); (case side4 => exact HC0_2.out); rintro e w18 ⟨rfl, hb⟩; refine ⟨_, rfl, ?_⟩; have n0_ := Aside0.mk (blk_below (bz BK295) hb); have n1_ := Aside0.mk (blk_below (bz BK296) hb); have n2_ := Aside0.mk (below_step bh hb); clear BK295 BK296 HB; have BK295 := n0_; have BK296 := n1_; have HB := n2_; clear n0_ n1_ n2_; (try clear hb); (try clear hb2); (try clear hk); (try clear hi); have hcz19_0 := cz0 BK295; have hcz19_1 := cz1 BK295; have hcz19_2 := cz2 BK295; have hcz19_3 := cz3 BK295; have hfz19_0 := blk_frozen BK295.out 0; have hfz19_1 := blk_frozen BK295.out 1; have hfz19_2 := blk_frozen BK295.out 2; have hfz19_3 := blk_frozen BK295.out 3) | (go_at_call 52; (with_reducible refine (spec_l1In.calls a1 0 (wrap64 (a0_0 - 1)) false _ A8.out).mono ?_); rintro e w' ⟨rfl, ⟨nd, rfl⟩⟩))
    go_meet
    case rel => exact ⟨_, (true), (by first | rfl | (simp; done) | (simp [*]; done)), H', ⟨by first | omega | exact Nat.le_refl _⟩, ⟨bz BK295⟩, ⟨bz BK296⟩, ⟨by exact bh⟩⟩
  ·replace c7 := Bool.eq_false_iff.mpr c7
   subst c7
   have H1 : (spec_AfterDeath.j0 k a1 true a0_0 l0_1 l0_2 a0_3) = some (r1, r2, r3, r4, r5) := by rw [if_neg (show ¬ (false = true) by decide)] at H; exact H
   clear H
   have H := H1
   clear H1
   have H' := Aside0.mk H
   clear H
   have hnb20 := NB295_296.out
   have hnc20 := NB296_295.out
   have hcz21_0 := cz0 BK295
   have hcz21_1 := cz1 BK295
   have hcz21_2 := cz2 BK295
   have hcz21_3 := cz3 BK295
   have hfz21_0 := blk_frozen BK295.out 0
   have hfz21_1 := blk_frozen BK295.out 1
   have hfz21_2 := blk_frozen BK295.out 2
   have hfz21_3 := blk_frozen BK295.out 3
   go_wp2_with (first | ((with_reducible refine gate_callee (f := 17) rfl ?_); refine goesL_ (some 9) rfl rfl Try.func17 kr rfl #[.agg #[.int .i64 a0_0, .slice A0_1 l0_1.length c0_1, .slice A0_2 l0_2.length c0_2, .int .i64 a0_3]] rfl lm ?_; (with_reducible refine (spec_CourtOk.calls k a0_0 _ _ l0_1 _ _ l0_2 a0_3 false _ ?side1 ?side2 ?side3 ?side4 A6.out).mono ?_); (case side1 => repeat (first | exact (Kd.C_below HR0_1.out HB.out) | (with_reducible refine Kd.C_alloc ?_ _) | (with_reducible refine Kd.C_drewN ?_ _) | (with_reducible refine Kd.C_drew ?_))); (case side2 => exact HC0_1.out); (case side3 => repeat (first | exact (Kd.C_below HR0_2.out HB.out) | (with_reducible refine Kd.C_alloc ?_ _) | (with_reducible refine Kd.C_drewN ?_ _) | (with_reducible refine Kd.C_drew ?_))); (case side4 => exact HC0_2.out); rintro e w22 ⟨rfl, hb⟩; refine ⟨_, rfl, ?_⟩; have n0_ := Aside0.mk (blk_below (bz BK295) hb); have n1_ := Aside0.mk (blk_below (bz BK296) hb); have n2_ := Aside0.mk (below_step bh hb); clear BK295 BK296 HB; have BK295 := n0_; have BK296 := n1_; have HB := n2_; clear n0_ n1_ n2_; (try clear hb); (try clear hb2); (try clear hk); (try clear hi)))
   go_meet
   case rel => exact ⟨_, (true), (by first | rfl | (simp; done) | (simp [*]; done)), H', ⟨by first | omega | exact Nat.le_refl _⟩, ⟨bz BK295⟩, ⟨bz BK296⟩, ⟨by exact bh⟩⟩
 case rest =>
  clear HC3
  try clear c1
  try clear c2
  try clear p2
  try clear c4
  try clear p6
  try clear c7
  try clear c9
  try clear c10
  try clear c10b0
  try clear c10b1
  try clear c12
  try clear c16
  try clear c17
  try clear c20
  try clear hcz13_0
  try clear hcz13_1
  try clear hcz13_2
  try clear hcz13_3
  try clear hcz15_0
  try clear hcz15_1
  try clear hcz15_2
  try clear hcz15_3
  try clear hcz17_0
  try clear hcz17_1
  try clear hcz17_2
  try clear hcz17_3
  try clear hcz19_0
  try clear hcz19_1
  try clear hcz19_2
  try clear hcz19_3
  try clear hcz21_0
  try clear hcz21_1
  try clear hcz21_2
  try clear hcz21_3
  try clear hfz13_0
  try clear hfz13_1
  try clear hfz13_2
  try clear hfz13_3
  try clear hfz15_0
  try clear hfz15_1
  try clear hfz15_2
  try clear hfz15_3
  try clear hfz17_0
  try clear hfz17_1
  try clear hfz17_2
  try clear hfz17_3
  try clear hfz19_0
  try clear hfz19_1
  try clear hfz19_2
  try clear hfz19_3
  try clear hfz21_0
  try clear hfz21_1
  try clear hfz21_2
  try clear hfz21_3
  obtain ⟨kq, x26_2, rfl, HA, HJ2, BK295, BK296, HB⟩ := hcut
  cases kq with
  | zero => exact absurd HA.out (by simp [spec_AfterDeath.j0])
  | succ kj2 =>
   have H := HA.out
   clear HA
   simp only [spec_AfterDeath.j0] at H
   by_cases c23 : x26_2 = true
   ·subst c23
    have H1 : (some (0, ([] : List (List Int)), ([] : List Int), 0, false)) = some (r1, r2, r3, r4, r5) := by rw [if_pos rfl] at H; exact H
    clear H
    have H := H1
    clear H1
    simp only [Option.some.injEq, Prod.mk.injEq] at H
    obtain ⟨rfl, rfl, rfl, rfl, rfl⟩ := H
    have hnb24 := NB296_295.out
    have hnc24 := NB295_296.out
    have hcz25_0 := cz0 BK296
    have hcz25_1 := cz1 BK296
    have hcz25_2 := cz2 BK296
    have hcz25_3 := cz3 BK296
    have hfz25_0 := blk_frozen BK296.out 0
    have hfz25_1 := blk_frozen BK296.out 1
    have hfz25_2 := blk_frozen BK296.out 2
    have hfz25_3 := blk_frozen BK296.out 3
    go_wp2
    refine bodyPost_ret (results_ct rfl _ _ gb296 28 #[.int .i64 0, .slice none 0 0, .slice none 0 0, .int .i64 0] (0, 0) _ rfl (bp BK296) Try.underlying28 rfl kr) rfl ?_
    exact ⟨_, _, by first | rfl | (simp [errW_none, errW_some] <;> rfl) | (simp [*, errW_none, errW_some] <;> rfl), by first | exact Kd.S_nil _ _ _ _ _ | exact Kd.N_nil _ _ _ _ _ | exact Kd.V_nil _ _ _ _ _ | exact Kd.Q_nil _ _ _ _ _ | exact Kd.R_nil _ _ _ _ _, by first | exact Kd.R_nil _ _ _ _ _ | exact Kd.N_nil _ _ _ _ _ | exact Kd.V_nil _ _ _ _ _ | exact Kd.Q_nil _ _ _ _ _ | exact Kd.S_nil _ _ _ _ _, by exact bh⟩
   ·replace c23 := Bool.eq_false_iff.mpr c23
    subst c23
    have H1 : ((spec_l7Copy.f kj2 a0_0 l0_1 l0_2 a0_3).bind fun bt299 => (if 0 ≤ a1 then (spec_AfterDeath.l0 kj2 a1 0 bt299.1 bt299.2.1 bt299.2.2.1 (wrap64 (a0_3 - (shl .i64 1 a1)))) else (none))) = some (r1, r2, r3, r4, r5) := by rw [if_neg (show ¬ (false = true) by decide)] at H; exact H
    clear H
    have H := H1
    clear H1
    replace H := Option.bind_eq_some_iff.mp H
    obtain ⟨⟨t299, t300, t303, t306⟩, A260, H⟩ := H
    replace H : (if 0 ≤ a1 then (spec_AfterDeath.l0 kj2 a1 0 t299 t300 t303 (wrap64 (a0_3 - (shl .i64 1 a1)))) else (none)) = some (r1, r2, r3, r4, r5) := H
    have A26 := Aside0.mk A260
    clear A260
    by_cases c27 : 0 ≤ a1
    ·rw [if_pos c27] at H
     have c27b0 := eq_true c27
     have c27b1 : decide (0 ≤ a1) = true := decide_eq_true c27
     clear c27
     obtain ⟨ji28, hji28⟩ : ∃ j_ : Int, (shl .i64 1 a1) = j_ := ⟨_, rfl⟩
     replace H : (spec_AfterDeath.l0 kj2 a1 0 t299 t300 t303 (wrap64 (a0_3 - (ji28)))) = some (r1, r2, r3, r4, r5) := by first | (rw [hji28] at H; exact H) | (simp only [hji28] at H ⊢; exact H)
     (try rw [hji28] at A26)
     have hji28_ : (IntKind.i64.wrap (1 * 2 ^ min a1.toNat 64)) = ji28 := hji28
     have hji28z : a1 ≤ 64 → (IntKind.i64.wrap (1 * 2 ^ a1.toNat)) = ji28 := shl_small hji28
     have hji28u : (IntKind.i64.wrap (2 ^ min a1.toNat 64)) = ji28 := by have h_ := hji28_; rw [Int.one_mul] at h_; exact h_
     have hji28v : a1 ≤ 64 → (IntKind.i64.wrap (2 ^ a1.toNat)) = ji28 := fun hle_ => by have h_ := hji28z hle_; rw [Int.one_mul] at h_; exact h_
     have hji28y : (wrap64 (1 * 2 ^ min a1.toNat 64)) = ji28 := (i64_w _).symm.trans hji28_
     have hji28x : a1 ≤ 64 → (wrap64 (1 * 2 ^ a1.toNat)) = ji28 := fun h_ => (i64_w _).symm.trans (hji28z h_)
     have H' := Aside0.mk H
     clear H
     have hnb29 := NB295_296.out
     have hnc29 := NB296_295.out
     have hcz30_0 := cz0 BK295
     have hcz30_1 := cz1 BK295
     have hcz30_2 := cz2 BK295
     have hcz30_3 := cz3 BK295
     have hfz30_0 := blk_frozen BK295.out 0
     have hfz30_1 := blk_frozen BK295.out 1
     have hfz30_2 := blk_frozen BK295.out 2
     have hfz30_3 := blk_frozen BK295.out 3
     try go_wp2_with (first | ((with_reducible refine gate_callee (f := 67) rfl ?_); refine goesL_ (some 29) rfl rfl Try.func67 kr rfl #[.agg #[.int .i64 a0_0, .slice A0_1 l0_1.length c0_1, .slice A0_2 l0_2.length c0_2, .int .i64 a0_3]] rfl lm ?_; (with_reducible refine (spec_l7Copy.calls kj2 a0_0 _ _ l0_1 _ _ l0_2 a0_3 t299 t300 t303 t306 _ ?side1 ?side2 ?side3 ?side4 A26.out).mono ?_); (case side1 => repeat (first | exact (Kd.C_below HR0_1.out HB.out) | (with_reducible refine Kd.C_alloc ?_ _) | (with_reducible refine Kd.C_drewN ?_ _) | (with_reducible refine Kd.C_drew ?_))); (case side2 => exact HC0_1.out); (case side3 => repeat (first | exact (Kd.C_below HR0_2.out HB.out) | (with_reducible refine Kd.C_alloc ?_ _) | (with_reducible refine Kd.C_drewN ?_ _) | (with_reducible refine Kd.C_drew ?_))); (case side4 => exact HC0_2.out); rintro e w31 ⟨v301, v304, rfl, ho0, ho1, hb⟩; refine ⟨_, rfl, ?_⟩; have n0_ := Aside0.mk (Kd.S_lower ho0 (below_size bh)); have n1_ := Aside0.mk (Kd.R_lower ho1 (below_size bh)); have n2_ := Aside0.mk (blk_below (bz BK295) hb); have n3_ := Aside0.mk (blk_below (bz BK296) hb); have n4_ := Aside0.mk (below_step bh hb); clear BK295 BK296 HB; have HO302 := n0_; have HO305 := n1_; have BK295 := n2_; have BK296 := n3_; have HB := n4_; clear n0_ n1_ n2_ n3_ n4_; (try clear hb); (try clear hb2); (try clear hk); (try clear hi); (try clear ho0); (try clear ho1)) | ((with_reducible refine gate_dst (N := 6) rfl ?_); refine box_event ?hg (N := 6) ?hd (cs := #[.int .i64 0, .slice none 0 0, .slice none 0 0, .int .i64 0]) (t := 28) ?hr ?_; (case hd => rfl); (case hg => rfl); (case hr => first | (go_simp; done) | (go_simp; rfl)); intro gb307 hg w32 hbox hb; have n0_ := Aside0.mk (Kd.S_below (sz HO302) hb); have n1_ := Aside0.mk (Kd.R_below (rz HO305) hb); have n2_ := Aside0.mk (blk_below (bz BK295) hb); have n3_ := Aside0.mk (blk_below (bz BK296) hb); have n4_ := Aside0.mk (below_step bh hb); have n5_ := Aside0.mk (hbox); have n6_ := Aside0.mk ((gs (W0 := w) hg bh)); have n7_ := Aside0.mk ((gs (W0 := w) hg bh)); have n8_ := Aside0.mk ((gn hg (bz BK295))); have n9_ := Aside0.mk ((gm hg (bz BK295))); have n10_ := Aside0.mk ((gn hg (bz BK296))); have n11_ := Aside0.mk ((gm hg (bz BK296))); clear HO302 HO305 BK295 BK296 HB; have HO302 := n0_; have HO305 := n1_; have BK295 := n2_; have BK296 := n3_; have HB := n4_; have BK307 := n5_; have GW307 := n6_; have GE307 := n7_; have NB295_307 := n8_; have NB307_295 := n9_; have NB296_307 := n10_; have NB307_296 := n11_; clear n0_ n1_ n2_ n3_ n4_ n5_ n6_ n7_ n8_ n9_ n10_ n11_ hb hbox hg; have hnb33 := NB307_295.out; have hnc33 := NB295_307.out; have hnb34 := NB307_296.out; have hnc34 := NB296_307.out; have hcz35_0 := cz0 BK307; have hcz35_1 := cz1 BK307; have hcz35_2 := cz2 BK307; have hcz35_3 := cz3 BK307; have hfz35_0 := blk_frozen BK307.out 0; have hfz35_1 := blk_frozen BK307.out 1; have hfz35_2 := blk_frozen BK307.out 2; have hfz35_3 := blk_frozen BK307.out 3; obtain ⟨Ao36, co36, eo36⟩ := Kd.S_slice HO302.out; subst eo36; obtain ⟨Ao37, co37, eo37⟩ := Kd.R_slice HO305.out; subst eo37))
     generalize hW_ : ((((w32.setCell ⟨gb307, 0, none⟩ (.int .i64 t299)).setCell ⟨gb307, 1, none⟩ (.slice Ao36 t300.length co36)).setCell ⟨gb307, 2, none⟩ (.slice Ao37 t303.length co37)).setCell ⟨gb307, 3, none⟩ (.int .i64 t306)) = w38
     have n0_ : Aside0 (Kd.S (Kd.slice 3 (Kd.int .i64)) 23 w38 w.heap.size (fun k_ => some k_ ≠ (.slice Ao37 t303.length co37 : Value).ownBlock) (.slice Ao36 t300.length co36) t300) := ⟨by subst hW_; (with_reducible repeat (first | apply Kd.S_alloc | apply Kd.S_drewN | apply Kd.S_drew)); exact Kd.S_mono (Kd.S_far (p := ⟨gb307, 3, none⟩) (Kd.S_far (p := ⟨gb307, 2, none⟩) (Kd.S_far (p := ⟨gb307, 1, none⟩) (Kd.S_far (p := ⟨gb307, 0, none⟩) (Kd.S_types HO302.out BK307.out (by decide)) (fun _ hk => hk.2) (.int .i64 t299)) (fun _ hk => hk.2) (.slice Ao36 t300.length co36)) (fun _ hk => hk.2) (.slice Ao37 t303.length co37)) (fun _ hk => hk.2) (.int .i64 t306)) (fun _ hk => hk.1)⟩
     have n1_ : Aside0 (Kd.R (Kd.int .i64) 3 w38 w.heap.size (fun _ => True) (.slice Ao37 t303.length co37) t303) := ⟨by subst hW_; (with_reducible repeat (first | apply Kd.R_alloc | apply Kd.R_drewN | apply Kd.R_drew)); exact Kd.R_mono (Kd.R_far (p := ⟨gb307, 3, none⟩) (Kd.R_far (p := ⟨gb307, 2, none⟩) (Kd.R_far (p := ⟨gb307, 1, none⟩) (Kd.R_far (p := ⟨gb307, 0, none⟩) (Kd.R_types HO305.out BK307.out (by decide)) (fun _ hk => hk.2) (.int .i64 t299)) (fun _ hk => hk.2) (.slice Ao36 t300.length co36)) (fun _ hk => hk.2) (.slice Ao37 t303.length co37)) (fun _ hk => hk.2) (.int .i64 t306)) (fun _ hk => trivial)⟩
     have n2_ : Aside0 (w38.heap[gb295]? = some (.cells #[.int .i64 a0_0, .slice A0_1 l0_1.length c0_1, .slice A0_2 l0_2.length c0_2, .int .i64 a0_3] 28 (0, 0))) := ⟨by subst hW_; (with_reducible repeat (first | refine blk_drewN ?_ _ | refine blk_drew ?_ | refine blk_alloc ?_ _)); refine blk_far ?_ NB295_307.out _; (with_reducible repeat (first | refine blk_drewN ?_ _ | refine blk_drew ?_ | refine blk_alloc ?_ _)); refine blk_far ?_ NB295_307.out _; (with_reducible repeat (first | refine blk_drewN ?_ _ | refine blk_drew ?_ | refine blk_alloc ?_ _)); refine blk_far ?_ NB295_307.out _; (with_reducible repeat (first | refine blk_drewN ?_ _ | refine blk_drew ?_ | refine blk_alloc ?_ _)); refine blk_far ?_ NB295_307.out _; (with_reducible repeat (first | refine blk_drewN ?_ _ | refine blk_drew ?_ | refine blk_alloc ?_ _)); exact BK295.out⟩
     have n3_ : Aside0 (w38.heap[gb296]? = some (.cells #[.int .i64 0, .slice none 0 0, .slice none 0 0, .int .i64 0] 28 (0, 0))) := ⟨by subst hW_; (with_reducible repeat (first | refine blk_drewN ?_ _ | refine blk_drew ?_ | refine blk_alloc ?_ _)); refine blk_far ?_ NB296_307.out _; (with_reducible repeat (first | refine blk_drewN ?_ _ | refine blk_drew ?_ | refine blk_alloc ?_ _)); refine blk_far ?_ NB296_307.out _; (with_reducible repeat (first | refine blk_drewN ?_ _ | refine blk_drew ?_ | refine blk_alloc ?_ _)); refine blk_far ?_ NB296_307.out _; (with_reducible repeat (first | refine blk_drewN ?_ _ | refine blk_drew ?_ | refine blk_alloc ?_ _)); refine blk_far ?_ NB296_307.out _; (with_reducible repeat (first | refine blk_drewN ?_ _ | refine blk_drew ?_ | refine blk_alloc ?_ _)); exact BK296.out⟩
     have n4_ : Aside0 (w38.heap[gb307]? = some (.cells #[.int .i64 t299, .slice Ao36 t300.length co36, .slice Ao37 t303.length co37, .int .i64 t306] 28 (0, 0))) := ⟨by subst hW_; (with_reducible repeat (first | refine blk_drewN ?_ _ | refine blk_drew ?_ | refine blk_alloc ?_ _)); refine blk_put (cs := #[.int .i64 t299, .slice Ao36 t300.length co36, .slice Ao37 t303.length co37, .int .i64 0]) ?_ 3 _ rfl; (with_reducible repeat (first | refine blk_drewN ?_ _ | refine blk_drew ?_ | refine blk_alloc ?_ _)); refine blk_put (cs := #[.int .i64 t299, .slice Ao36 t300.length co36, .slice none 0 0, .int .i64 0]) ?_ 2 _ rfl; (with_reducible repeat (first | refine blk_drewN ?_ _ | refine blk_drew ?_ | refine blk_alloc ?_ _)); refine blk_put (cs := #[.int .i64 t299, .slice none 0 0, .slice none 0 0, .int .i64 0]) ?_ 1 _ rfl; (with_reducible repeat (first | refine blk_drewN ?_ _ | refine blk_drew ?_ | refine blk_alloc ?_ _)); refine blk_put (cs := #[.int .i64 0, .slice none 0 0, .slice none 0 0, .int .i64 0]) ?_ 0 _ rfl; (with_reducible repeat (first | refine blk_drewN ?_ _ | refine blk_drew ?_ | refine blk_alloc ?_ _)); exact BK307.out⟩
     have n5_ : Aside0 (Below w.heap.size w w38) := ⟨by subst hW_; exact bh⟩
     clear hW_
     (try clear HO302)
     (try clear HO305)
     (try clear BK295)
     (try clear BK296)
     (try clear BK307)
     (try clear HB)
     have HO302 := n0_
     have HO305 := n1_
     have BK295 := n2_
     have BK296 := n3_
     have BK307 := n4_
     have HB := n5_
     clear n0_ n1_ n2_ n3_ n4_ n5_
     have n0_ := Aside0.mk (Kd.S_drew HO302.out)
     have n1_ := Aside0.mk (Kd.R_drew HO305.out)
     have n2_ := Aside0.mk (blk_drew BK295.out)
     have n3_ := Aside0.mk (blk_drew BK296.out)
     have n4_ := Aside0.mk (blk_drew BK307.out)
     have n5_ := Aside0.mk (below_drew1 HB.out)
     clear HO302 HO305 BK295 BK296 BK307 HB
     have HO302 := n0_
     have HO305 := n1_
     have BK295 := n2_
     have BK296 := n3_
     have BK307 := n4_
     have HB := n5_
     clear n0_ n1_ n2_ n3_ n4_ n5_
     refine start_ (n := 7) (S := fun w' => w'.cell? ⟨gb295, 0, none⟩ = some (.int .i64 a0_0) ∧ w'.cell? ⟨gb295, 1, none⟩ = some (.slice A0_1 l0_1.length c0_1) ∧ w'.cell? ⟨gb295, 2, none⟩ = some (.slice A0_2 l0_2.length c0_2) ∧ w'.cell? ⟨gb295, 3, none⟩ = some (.int .i64 a0_3)) (ds := []) #[F,F,F,F,F,F,F] kr rfl rfl ⟨cz0 BK295, cz1 BK295, cz2 BK295, cz3 BK295⟩ (fun hHeld => ?_)
     generalize w38.drew = w39 at HO302 HO305 BK295 BK296 BK307 HB hHeld ⊢
     refine pu 0 (some 30) #[T,F,F,F,F,F,F] kr ?_
     refine pu 2 (some 32) #[T,F,T,F,F,F,F] kr ?_
     refine pu 3 (some 33) #[T,F,T,T,F,F,F] kr ?_
     refine tk4 1 (some 31) #[T,T,T,T,F,F,F] kr ?_
     refine pu 4 (some 34) #[T,T,T,T,T,F,F] kr ?_
     refine pu 5 (some 35) #[T,T,T,T,T,T,F] kr ?_
     refine one_ (i := 6) (N := none) #[T,T,T,T,T,T,T] rfl rfl kr (by decide) (fun K hK => ?_)
     have hs40 := cz3 BK307
     have hfs40 := blk_frozen BK307.out 3
     have hns40_0 := NB295_307.out
     have hns40_1 := NB296_307.out
     have hms40_0 := NB307_295.out
     have hms40_1 := NB307_296.out
     refine skip_ (w1 := ?_) (by rfl) rfl ?_ ?_
     rotate_left
     ·go_simp
      rfl
     refine hK.out _ _ ⟨((cell_far (p := ⟨gb307, _, none⟩) NB295_307.out _).trans (hHeld.1)), ((cell_far (p := ⟨gb307, _, none⟩) NB295_307.out _).trans (hHeld.2.1)), ((cell_far (p := ⟨gb307, _, none⟩) NB295_307.out _).trans (hHeld.2.2.1)), ((cell_far (p := ⟨gb307, _, none⟩) NB295_307.out _).trans (hHeld.2.2.2))⟩ (fun hHeld => ?_)
     clear hK K
     refine done_ kr ?_
     try go_wp2
     go_loopg [7] kj2 (fun kq v7 w' => ∃ (x7_2 : Int) (x308002_2 : List Int) (u308002 : Value), v7 = .int .i64 x7_2 ∧ Aside0 (spec_AfterDeath.l0 kq a1 x7_2 t299 t300 x308002_2 (wrap64 (a0_3 - (ji28))) = some (r1, r2, r3, r4, r5)) ∧ Aside0 (kq ≤ kj2) ∧ Aside0 (Kd.S (Kd.slice 3 (Kd.int .i64)) 23 w' w.heap.size (fun k_ => some k_ ≠ (u308002 : Value).ownBlock) (.slice Ao36 t300.length co36) t300) ∧ Aside0 (Kd.R (Kd.int .i64) 3 w' w.heap.size (fun _ => True) u308002 x308002_2) ∧ Aside0 (w'.heap[gb295]? = some (.cells #[.int .i64 a0_0, (.slice A0_1 l0_1.length c0_1), (.slice A0_2 l0_2.length c0_2), .int .i64 a0_3] 28 (0, 0))) ∧ Aside0 (w'.heap[gb296]? = some (.cells #[.int .i64 0, (.slice none 0 0), (.slice none 0 0), .int .i64 0] 28 (0, 0))) ∧ Aside0 (w'.heap[gb307]? = some (.cells #[.int .i64 t299, (.slice Ao36 t300.length co36), u308002, .int .i64 (wrap64 (a0_3 - (ji28)))] 28 (0, 0))) ∧ Aside0 (Below w.heap.size w w'))
     case atStart => exact ⟨(0), (t303), (.slice Ao37 t303.length co37), (by first | rfl | (simp; done) | (simp [*]; done)), H', ⟨Nat.le_refl _⟩, ⟨gS HO302 BK307⟩, ⟨gR HO305 BK307⟩, ⟨bf NB295_307 BK295⟩, ⟨bf NB296_307 BK296⟩, ⟨bp BK307⟩, ⟨by exact bh⟩⟩
     case round =>
      clear H'
      try clear c1
      try clear c2
      try clear p2
      try clear c3
      try clear c4
      try clear c6
      try clear p6
      try clear c7
      try clear c9
      try clear c10
      try clear c10b0
      try clear c10b1
      try clear c12
      try clear c16
      try clear c17
      try clear c20
      try clear c23
      try clear c24
      try clear c27
      try clear c27b0
      try clear c27b1
      try clear c29
      try clear c33
      try clear c34
      try clear hcz13_0
      try clear hcz13_1
      try clear hcz13_2
      try clear hcz13_3
      try clear hcz15_0
      try clear hcz15_1
      try clear hcz15_2
      try clear hcz15_3
      try clear hcz17_0
      try clear hcz17_1
      try clear hcz17_2
      try clear hcz17_3
      try clear hcz19_0
      try clear hcz19_1
      try clear hcz19_2
      try clear hcz19_3
      try clear hcz21_0
      try clear hcz21_1
      try clear hcz21_2
      try clear hcz21_3
      try clear hcz25_0
      try clear hcz25_1
      try clear hcz25_2
      try clear hcz25_3
      try clear hcz30_0
      try clear hcz30_1
      try clear hcz30_2
      try clear hcz30_3
      try clear hcz35_0
      try clear hcz35_1
      try clear hcz35_2
      try clear hcz35_3
      try clear hfz13_0
      try clear hfz13_1
      try clear hfz13_2
      try clear hfz13_3
      try clear hfz15_0
      try clear hfz15_1
      try clear hfz15_2
      try clear hfz15_3
      try clear hfz17_0
      try clear hfz17_1
      try clear hfz17_2
      try clear hfz17_3
      try clear hfz19_0
      try clear hfz19_1
      try clear hfz19_2
      try clear hfz19_3
      try clear hfz21_0
      try clear hfz21_1
      try clear hfz21_2
      try clear hfz21_3
      try clear hfz25_0
      try clear hfz25_1
      try clear hfz25_2
      try clear hfz25_3
      try clear hfz30_0
      try clear hfz30_1
      try clear hfz30_2
      try clear hfz30_3
      try clear hfz35_0
      try clear hfz35_1
      try clear hfz35_2
      try clear hfz35_3
      try clear p2
      try clear p6
      obtain ⟨x7_2, x308002_2, u308002, rfl, HA, HK2, HO_308001, HO_308002, BK295, BK296, BK307, HB⟩ := hrel
      cases gk with
      | zero => exact absurd HA.out (by simp [spec_AfterDeath.l0])
      | succ k2 =>
       have H := HA.out
       clear HA
       simp only [spec_AfterDeath.l0] at H
       by_cases c41 : x7_2 < (x308002_2.length : Int)
       ·rw [if_pos c41] at H
        have c41b0 : decide (x7_2 < (x308002_2.length : Int)) = true := decide_eq_true c41
        clear c41
        by_cases c42 : 0 ≤ x7_2
        ·rw [if_pos c42] at H
         have c42b0 : decide (0 ≤ x7_2) = true := decide_eq_true c42
         clear c42
         by_cases c43 : (rd x308002_2 x7_2) = a1
         ·rw [if_pos c43] at H
          have c43b0 : ((rd x308002_2 x7_2) == a1) = true := beq_iff_eq.mpr c43
          have c43b1 : ((rd x308002_2 x7_2) != a1) = false := bne_eq_false_iff_eq.mpr c43
          clear c43
          obtain ⟨y309, hy309⟩ : ∃ y_ : List Int, y_ = (x308002_2.set (x7_2 : Int).toNat (-1)) := ⟨_, rfl⟩
          replace H : (spec_AfterDeath.l0 k2 a1 (wrap64 (x7_2 + 1)) t299 t300 y309 (wrap64 (a0_3 - (ji28)))) = some (r1, r2, r3, r4, r5) := by first | (rw [hy309]; with_reducible exact H) | (have H2_ := (Option.bind_some _ _).symm.trans H; rw [hy309]; with_reducible exact H2_) | (have H2_ := (Option.bind_some _ _).symm.trans H; with_reducible exact H2_) | with_reducible exact H | (rw [hy309]; exact H) | exact H
          have Ny309 := Aside0.mk hy309
          clear hy309
          have H' := Aside0.mk H
          clear H
          have hnb45 := NB307_295.out
          have hnc45 := NB295_307.out
          have hnb46 := NB307_296.out
          have hnc46 := NB296_307.out
          have hcz47_0 := cz0 BK307
          have hcz47_1 := cz1 BK307
          have hcz47_2 := cz2 BK307
          have hcz47_3 : wr.cell? ⟨gb307, 3, none⟩ = some (.int .i64 (wrap64 (a0_3 - (ji28)))) := (blk_cell BK307.out 3).trans rfl
          have hfz47_0 := blk_frozen BK307.out 0
          have hfz47_1 := blk_frozen BK307.out 1
          have hfz47_2 := blk_frozen BK307.out 2
          have hfz47_3 := blk_frozen BK307.out 3
          obtain ⟨Ao48, co48, eo48⟩ := Kd.R_slice HO_308002.out
          subst eo48
          have p308 : 0 ≤ (x7_2 : Int) := oda
          have q308 : x7_2 < (x308002_2.length : Int) := oda
          obtain ⟨ad308, e308, hx308_0⟩ := Kd.at_int (Kd.R_reads' HO_308002.out).2.2 x7_2 p308 q308
          cases e308
          replace p308 := eq_true p308
          replace q308 := eq_true q308
          have p44 : 0 ≤ (x7_2 : Int) := oda
          have q44 : (x7_2 : Int) < ((x308002_2.length : Int) : Int) := oda
          obtain ⟨go44, co44, eo44, gb44, gl44, cl44, HG44⟩ := Kd.R_form HO_308002.out (by omega)
          (first | cases eo44 | (injection eo44 with ea_ en_ ec_; (first | subst ea_ | (injection ea_ with ea_; subst ea_)); subst ec_; clear en_))
          have GB44 := Aside0.mk gb44
          have GG44 := Aside0.mk HG44
          clear gb44 gl44 HG44
          (first | simp only [add_plain] at hx308_0 | skip)
          obtain ⟨hx44_0, hf44_0⟩ := Kd.R_celln 0 HO_308002.out (x7_2 : Int) p44 q44
          replace p44 := eq_true p44
          replace q44 := eq_true q44
          have HP49 := Kd.R_putg HO_308002.out (x7_2 : Int) (-1)
          go_wp2_with (first | ((with_reducible refine gate_store (t := 3) (p := 53) rfl ?_); refine store_event (t := 3) (p := 53) (v := ?vo_w50) (w1 := (wr.setCell ⟨go44, (x7_2 : Int).toNat, none⟩ (.int .i64 (-1)))) ?hg ?ho ?hn ?hr ?_; (case ho => rfl); (case hg => rfl); (case hn => rfl); (case hr => first | (go_simp; done) | (go_simp; rfl)); intro w50 hw; have hg : wr.grownBy w50 (some go44) := (by rw [hw]; exact HP49.2); have hp_ : Kd.R (Kd.int .i64) 3 w50 w.heap.size (fun _ => True) (.slice (some ⟨go44, 0, none⟩) x308002_2.length co48) y309 := (by rw [hw, Ny309.out]; exact HP49.1); clear HP49; have n0_ := Aside0.mk (Kd.S_after (v := (.slice (some ⟨go44, 0, none⟩) x308002_2.length co48)) (v1 := (.slice (some ⟨go44, 0, none⟩) x308002_2.length co48)) (ok := (fun _ => True)) (mS HO_308001) hg (.inl rfl)); have n1_ := Aside0.mk (hp_); have n2_ := Aside0.mk (blk_grown (bz BK295) hg (Kd.R_ne HO_308002.out BK295.out (by decide))); have n3_ := Aside0.mk (blk_grown (bz BK296) hg (Kd.R_ne HO_308002.out BK296.out (by decide))); have n4_ := Aside0.mk (blk_grown (bz BK307) hg (Kd.R_ne HO_308002.out BK307.out (by decide))); have n5_ := Aside0.mk ((by rw [hw]; exact below_set (HB.out) GB44.out : Below w.heap.size w w50)); clear HO_308001 HO_308002 BK295 BK296 BK307 HB; have HO_308001 := n0_; have HO_308002 := n1_; have BK295 := n2_; have BK296 := n3_; have BK307 := n4_; have HB := n5_; clear n0_ n1_ n2_ n3_ n4_ n5_ hg hw hp_))
          go_roundg k2
          case measure => have := HJ2.out; have := HK2.out; omega
          case rel => exact ⟨(wrap64 (x7_2 + 1)), (y309), (.slice (some ⟨go44, 0, none⟩) x308002_2.length co48), (by first | rfl | (simp; done) | (simp [*]; done)), H', ⟨by have := HJ2.out; have := HK2.out; omega⟩, ⟨mS HO_308001⟩, ⟨rz HO_308002⟩, ⟨bz BK295⟩, ⟨bz BK296⟩, ⟨bz BK307⟩, ⟨by exact bh⟩⟩
         ·rw [if_neg c43] at H
          have c43b0 : ((rd x308002_2 x7_2) == a1) = false := beq_eq_false_iff_ne.mpr c43
          have c43b1 : ((rd x308002_2 x7_2) != a1) = true := bne_iff_ne.mpr c43
          have H' := Aside0.mk H
          clear H
          have hnb51 := NB307_295.out
          have hnc51 := NB295_307.out
          have hnb52 := NB307_296.out
          have hnc52 := NB296_307.out
          have hcz53_0 := cz0 BK307
          have hcz53_1 := cz1 BK307
          have hcz53_2 := cz2 BK307
          have hcz53_3 : wr.cell? ⟨gb307, 3, none⟩ = some (.int .i64 (wrap64 (a0_3 - (ji28)))) := (blk_cell BK307.out 3).trans rfl
          have hfz53_0 := blk_frozen BK307.out 0
          have hfz53_1 := blk_frozen BK307.out 1
          have hfz53_2 := blk_frozen BK307.out 2
          have hfz53_3 := blk_frozen BK307.out 3
          obtain ⟨Ao54, co54, eo54⟩ := Kd.R_slice HO_308002.out
          subst eo54
          have p308 : 0 ≤ (x7_2 : Int) := oda
          have q308 : x7_2 < (x308002_2.length : Int) := oda
          obtain ⟨ad308, e308, hx308_0⟩ := Kd.at_int (Kd.R_reads' HO_308002.out).2.2 x7_2 p308 q308
          cases e308
          replace p308 := eq_true p308
          replace q308 := eq_true q308
          go_wp2
          go_roundg k2
          case measure => have := HJ2.out; have := HK2.out; omega
          case rel => exact ⟨(wrap64 (x7_2 + 1)), (x308002_2), (.slice (some ad308) x308002_2.length co54), (by first | rfl | (simp; done) | (simp [*]; done)), H', ⟨by have := HJ2.out; have := HK2.out; omega⟩, ⟨sz HO_308001⟩, ⟨rz HO_308002⟩, ⟨bz BK295⟩, ⟨bz BK296⟩, ⟨bz BK307⟩, ⟨by exact bh⟩⟩
        ·rw [if_neg c42] at H
         exact absurd H (by simp)
       ·rw [if_neg c41] at H
        have c41b0 : decide (x7_2 < (x308002_2.length : Int)) = false := decide_eq_false c41
        clear c41
        replace H := Option.bind_eq_some_iff.mp H
        obtain ⟨⟨t310, t311, t314, t317⟩, A550, H⟩ := H
        replace H : (some (t310, t311, t314, t317, true)) = some (r1, r2, r3, r4, r5) := H
        have A55 := Aside0.mk A550
        clear A550
        simp only [Option.some.injEq, Prod.mk.injEq] at H
        obtain ⟨rfl, rfl, rfl, rfl, rfl⟩ := H
        have hnb56 := NB307_295.out
        have hnc56 := NB295_307.out
        have hnb57 := NB307_296.out
        have hnc57 := NB296_307.out
        have hcz58_0 := cz0 BK307
        have hcz58_1 := cz1 BK307
        have hcz58_2 := cz2 BK307
        have hcz58_3 : wr.cell? ⟨gb307, 3, none⟩ = some (.int .i64 (wrap64 (a0_3 - (ji28)))) := (blk_cell BK307.out 3).trans rfl
        have hfz58_0 := blk_frozen BK307.out 0
        have hfz58_1 := blk_frozen BK307.out 1
        have hfz58_2 := blk_frozen BK307.out 2
        have hfz58_3 := blk_frozen BK307.out 3
        obtain ⟨Ao59, co59, eo59⟩ := Kd.R_slice HO_308002.out
        subst eo59
        go_wp2_with (first | ((with_reducible refine gate_callee (f := 36) rfl ?_); refine goesL_ (some 55) rfl rfl Try.func36 kr rfl #[.agg #[.int .i64 t299, .slice Ao36 t300.length co36, .slice Ao59 x308002_2.length co59, .int .i64 (wrap64 (a0_3 - (ji28)))]] rfl (by (try simp only [List.map_toArray, List.map_cons, List.map_nil]); first | done | (simp only [hji28]; rfl) | rfl | (simp only [List.length_drop, List.length_take]; rfl)) ?_; (with_reducible refine (spec_FilledCourt.calls k2 t299 _ _ t300 _ _ x308002_2 (wrap64 (a0_3 - (ji28))) t310 t311 t314 t317 _ ?side1 ?side2 ?side3 ?side4 A55.out).mono ?_); (case side1 => repeat (first | exact (Kd.S_reads' HO_308001.out).2.2 | (with_reducible refine Kd.C_alloc ?_ _) | (with_reducible refine Kd.C_drewN ?_ _) | (with_reducible refine Kd.C_drew ?_))); (case side2 => exact (Kd.S_reads' HO_308001.out).2.1); (case side3 => repeat (first | exact (Kd.R_reads' HO_308002.out).2.2 | (with_reducible refine Kd.C_alloc ?_ _) | (with_reducible refine Kd.C_drewN ?_ _) | (with_reducible refine Kd.C_drew ?_))); (case side4 => exact (Kd.R_reads' HO_308002.out).2.1); rintro e w60 ⟨v312, v315, rfl, ho0, ho1, hb⟩; refine ⟨_, rfl, ?_⟩; have n0_ := Aside0.mk (Kd.S_mono (Kd.S_told (Kd.S_told (Kd.S_old (sz HO_308001) hb) (Kd.S_base ho0)) (Kd.R_base ho1)) (fun _ h_ => h_.1)); have n1_ := Aside0.mk (Kd.R_elder' (rz HO_308002) (Kd.R_base ho1) hb); have n2_ := Aside0.mk (Kd.S_lower (Kd.S_new' (Kd.S_new' ho0 (Kd.S_lt (sz HO_308001))) (Kd.R_lt (rz HO_308002))) (below_size bh)); have n3_ := Aside0.mk (Kd.R_lower (Kd.R_new' ho1 (Kd.R_lt (rz HO_308002))) (below_size bh)); have n4_ := Aside0.mk (blk_below (bz BK295) hb); have n5_ := Aside0.mk (blk_below (bz BK296) hb); have n6_ := Aside0.mk (blk_below (bz BK307) hb); have n7_ := Aside0.mk (below_step bh hb); clear HO_308001 HO_308002 BK295 BK296 BK307 HB; have HO_308001 := n0_; have HO_308002 := n1_; have HO313 := n2_; have HO316 := n3_; have BK295 := n4_; have BK296 := n5_; have BK307 := n6_; have HB := n7_; clear n0_ n1_ n2_ n3_ n4_ n5_ n6_ n7_; (try clear hb); (try clear hb2); (try clear hk); (try clear hi); (try clear ho0); (try clear ho1); have hnb61 := NB296_295.out; have hnc61 := NB295_296.out; have hcz62_0 := cz0 BK296; have hcz62_1 := cz1 BK296; have hcz62_2 := cz2 BK296; have hcz62_3 := cz3 BK296; have hfz62_0 := blk_frozen BK296.out 0; have hfz62_1 := blk_frozen BK296.out 1; have hfz62_2 := blk_frozen BK296.out 2; have hfz62_3 := blk_frozen BK296.out 3; obtain ⟨Ao63, co63, eo63⟩ := Kd.S_slice HO313.out; subst eo63; obtain ⟨Ao64, co64, eo64⟩ := Kd.R_slice HO316.out; subst eo64))
        refine bodyPost_ret (results_ct rfl _ _ gb296 28 #[.int .i64 t310, .slice Ao63 t311.length co63, .slice Ao64 t314.length co64, .int .i64 t317] (0, 0) _ rfl (bp BK296) Try.underlying28 rfl kr) rfl ?_
        exact ⟨_, _, by first | rfl | (simp [errW_none, errW_some] <;> rfl) | (simp only [← hji28]; first | rfl | (simp [errW_none, errW_some] <;> rfl)) | (simp [*, errW_none, errW_some] <;> rfl), by (with_reducible repeat (first | apply Kd.S_alloc | apply Kd.S_drewN | apply Kd.S_drew)); exact Kd.S_mono (Kd.S_far (p := ⟨gb296, 3, none⟩) (Kd.S_far (p := ⟨gb296, 2, none⟩) (Kd.S_far (p := ⟨gb296, 1, none⟩) (Kd.S_far (p := ⟨gb296, 0, none⟩) (Kd.S_types HO313.out BK296.out (by decide)) (fun _ hk => hk.2) (.int .i64 t310)) (fun _ hk => hk.2) (.slice Ao63 t311.length co63)) (fun _ hk => hk.2) (.slice Ao64 t314.length co64)) (fun _ hk => hk.2) (.int .i64 t317)) (fun _ hk => hk.1.1.1), by (with_reducible repeat (first | apply Kd.R_alloc | apply Kd.R_drewN | apply Kd.R_drew)); exact Kd.R_mono (Kd.R_far (p := ⟨gb296, 3, none⟩) (Kd.R_far (p := ⟨gb296, 2, none⟩) (Kd.R_far (p := ⟨gb296, 1, none⟩) (Kd.R_far (p := ⟨gb296, 0, none⟩) (Kd.R_types HO316.out BK296.out (by decide)) (fun _ hk => hk.2) (.int .i64 t310)) (fun _ hk => hk.2) (.slice Ao63 t311.length co63)) (fun _ hk => hk.2) (.slice Ao64 t314.length co64)) (fun _ hk => hk.2) (.int .i64 t317)) (fun _ hk => trivial), by exact bh⟩
    ·rw [if_neg c27] at H
     exact absurd H (by simp)

end Go.Proofs.Ytlpjkeejflogjaa.QFnExactAfterDeaths
