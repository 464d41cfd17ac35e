-- Printed for this claim by a turned copy of the print (wip/myprint). Lean checks it. Squeezed. Worded. Tightened.
import Derived.Test.YtlpjkeejflogjaaQFnAfterDeathsx0
import Derived.Test.YtlpjkeejflogjaaQFnAfterDeathsx1
import Derived.Test.YtlpjkeejflogjaaQFnAfterDeathsx2
import Derived.Test.YtlpjkeejflogjaaQFnAfterDeathsx10
import Derived.Test.YtlpjkeejflogjaaQFnAfterDeathsx11
namespace Go.Proofs.Ytlpjkeejflogjaa.QFnAfterDeaths
open Go.RowKit Go.Proofs.YtlpjkeejflogjaaW.PrintWords Go.Proofs.YtlpjkeejflogjaaW.PrintLast Go.Proofs.YtlpjkeejflogjaaW.PrintMore
attribute [local go_sem] max2_int min2_int max_two min_two max_three min_three max_four min_four Opens.cell_twice   -- for this text's walks alone
set_option linter.unusedVariables false
set_option linter.unusedSimpArgs false

/-! ### impl_AfterDeaths: function 32 -/
mutual
def impl_AfterDeaths.j0 : Nat → List Int → Bool → Int → List (List Int) → List Int → Int → Option (Int × (List (List Int)) × List Int × Int × Int)
 | 0, _, _, _, _, _, _ => none
 | k + 1, x1, x16, x345000, x345001, x345002, x345003 => if x16 = true then (some (0, ([] : List (List Int)), ([] : List Int), 0, (-1))) else ((impl_copyCourt.f k x345000 x345001 x345002 x345003).bind fun bt347 => (impl_AfterDeaths.l0 k 0 x1 (x1.length : Int) 0 bt347.1 bt347.2.1 bt347.2.2.1 bt347.2.2.2))
def impl_AfterDeaths.l0 : Nat → Int → List Int → Int → Int → Int → List (List Int) → List Int → Int → Option (Int × (List (List Int)) × List Int × Int × Int)
 | 0, _, _, _, _, _, _, _, _ => none
 | k + 1, x6, x20, x21, x22, x345000, x345001, x345002, x345003 => if x22 < x21 then (if 0 ≤ x22 then (if x22 < (x20.length : Int) then ((impl_lives.f x345000 x345001 x345002 x345003 (rd x20 x22)).bind fun t356 => (if t356 = true then ((impl_afterDeath.f k x345000 x345001 x345002 x345003 (rd x20 x22)).bind fun bt357 => (impl_AfterDeaths.l0 k (wrap64 (x6 + 1)) x20 x21 (wrap64 (x22 + 1)) bt357.1 bt357.2.1 bt357.2.2.1 bt357.2.2.2)) else (impl_AfterDeaths.l0 k x6 x20 x21 (wrap64 (x22 + 1)) x345000 x345001 x345002 x345003))) else (none)) else (none)) else (some (x345000, x345001, x345002, x345003, x6))
end
def impl_AfterDeaths.f (k : Nat) (a0_0 : Int) (l0_1 : List (List Int)) (l0_2 : List Int) (a0_3 : Int) (l1 : List Int) : Option (Int × (List (List Int)) × List Int × Int × Int) := (impl_isCourt.f k a0_0 l0_1 l0_2 a0_3).bind fun t346 => (if t346 = true then (impl_AfterDeaths.j0 k l1 (decide ((l1.length : Int) > 20)) a0_0 l0_1 l0_2 a0_3) else (impl_AfterDeaths.j0 k l1 true a0_0 l0_1 l0_2 a0_3))
theorem impl_AfterDeaths.mono_l : ∀ k, (∀ y0 y1 y2 y3 y4 y5, LeO (impl_AfterDeaths.j0 k y0 y1 y2 y3 y4 y5) (impl_AfterDeaths.j0 (k + 1) y0 y1 y2 y3 y4 y5)) ∧ (∀ y0 y1 y2 y3 y4 y5 y6 y7, LeO (impl_AfterDeaths.l0 k y0 y1 y2 y3 y4 y5 y6 y7) (impl_AfterDeaths.l0 (k + 1) y0 y1 y2 y3 y4 y5 y6 y7))
 | 0 => ⟨fun _ _ _ _ _ _ r h => by simp [impl_AfterDeaths.j0] at h, fun _ _ _ _ _ _ _ _ r h => by simp [impl_AfterDeaths.l0] at h⟩
 | k + 1 => by
  obtain ⟨ih0, ih1⟩ := impl_AfterDeaths.mono_l k
  refine ⟨?_, ?_⟩
  ·intro y0 y1 y2 y3 y4 y5
   unfold impl_AfterDeaths.j0
   repeat' first
   | (with_reducible exact ih0 _ _ _ _ _ _)
   | (with_reducible exact ih1 _ _ _ _ _ _ _ _)
   | (with_reducible exact impl_afterDeath.mono _ _ _ _ _ _)
   | (with_reducible exact impl_copyCourt.mono _ _ _ _ _)
   | (with_reducible exact impl_isCourt.mono _ _ _ _ _)
   | (with_reducible exact LeO.refl _)
   | (with_reducible exact LeO.none _)
   | (with_reducible refine LeO.ite ?_ ?_)
   | (with_reducible refine LeO.bind ?_ (fun _ => ?_))
   | exact ih0 _ _ _ _ _ _
   | exact ih1 _ _ _ _ _ _ _ _
   | exact impl_afterDeath.mono _ _ _ _ _ _
   | exact impl_copyCourt.mono _ _ _ _ _
   | exact impl_isCourt.mono _ _ _ _ _
   | exact LeO.none _
   | refine LeO.ite ?_ ?_
   | refine LeO.bind ?_ (fun _ => ?_)
  ·intro y0 y1 y2 y3 y4 y5 y6 y7
   unfold impl_AfterDeaths.l0
   repeat' first
   | (with_reducible exact ih0 _ _ _ _ _ _)
   | (with_reducible exact ih1 _ _ _ _ _ _ _ _)
   | (with_reducible exact impl_afterDeath.mono _ _ _ _ _ _)
   | (with_reducible exact impl_copyCourt.mono _ _ _ _ _)
   | (with_reducible exact impl_isCourt.mono _ _ _ _ _)
   | (with_reducible exact LeO.refl _)
   | (with_reducible exact LeO.none _)
   | (with_reducible refine LeO.ite ?_ ?_)
   | (with_reducible refine LeO.bind ?_ (fun _ => ?_))
   | exact ih0 _ _ _ _ _ _
   | exact ih1 _ _ _ _ _ _ _ _
   | exact impl_afterDeath.mono _ _ _ _ _ _
   | exact impl_copyCourt.mono _ _ _ _ _
   | exact impl_isCourt.mono _ _ _ _ _
   | exact LeO.none _
   | refine LeO.ite ?_ ?_
   | refine LeO.bind ?_ (fun _ => ?_)
theorem impl_AfterDeaths.mono : ∀ a0 a1 a2 a3 a4 k, LeO (impl_AfterDeaths.f k a0 a1 a2 a3 a4) (impl_AfterDeaths.f (k + 1) a0 a1 a2 a3 a4) := by
 intro a0 a1 a2 a3 a4 k
 obtain ⟨ih0, ih1⟩ := impl_AfterDeaths.mono_l k
 unfold impl_AfterDeaths.f
 repeat' first
   | (with_reducible exact ih0 _ _ _ _ _ _)
   | (with_reducible exact ih1 _ _ _ _ _ _ _ _)
   | (with_reducible exact impl_afterDeath.mono _ _ _ _ _ _)
   | (with_reducible exact impl_copyCourt.mono _ _ _ _ _)
   | (with_reducible exact impl_isCourt.mono _ _ _ _ _)
   | (with_reducible exact LeO.refl _)
   | (with_reducible exact LeO.none _)
   | (with_reducible refine LeO.ite ?_ ?_)
   | (with_reducible refine LeO.bind ?_ (fun _ => ?_))
   | exact ih0 _ _ _ _ _ _
   | exact ih1 _ _ _ _ _ _ _ _
   | exact impl_afterDeath.mono _ _ _ _ _ _
   | exact impl_copyCourt.mono _ _ _ _ _
   | exact impl_isCourt.mono _ _ _ _ _
   | exact LeO.none _
   | refine LeO.ite ?_ ?_
   | refine LeO.bind ?_ (fun _ => ?_)
set_option maxHeartbeats 8000000 in
set_option maxRecDepth 100000 in
theorem impl_AfterDeaths.calls (k : Nat) (a0_0 : Int) (A0_1 : Option Addr) (c0_1 : Nat) (l0_1 : List (List Int)) (A0_2 : Option Addr) (c0_2 : Nat) (l0_2 : List Int) (a0_3 : Int) (A1 : Option Addr) (c1 : Nat) (l1 : List Int) (r1 : Int) (r2 : List (List Int)) (r3 : List Int) (r4 : Int) (r5 : Int) (w : World) (hr0_1 : Kd.C (Kd.slice 3 (Kd.int .i64)) w A0_1 l0_1.length l0_1) (hc0_1 : l0_1.length ≤ c0_1) (hr0_2 : Kd.C (Kd.int .i64) w A0_2 l0_2.length l0_2) (hc0_2 : l0_2.length ≤ c0_2) (hr1 : Kd.C (Kd.int .i64) w A1 l1.length l1) (hc1 : l1.length ≤ c1) (h : impl_AfterDeaths.f k a0_0 l0_1 l0_2 a0_3 l1 = some (r1, r2, r3, r4, r5)) :
  Calls Try.prog 32 #[.agg #[.int .i64 a0_0, .slice A0_1 l0_1.length c0_1, .slice A0_2 l0_2.length c0_2, .int .i64 a0_3], .slice A1 l1.length c1] w fun e w' => ∃ v1_ v2_ : Value, e = .returned (.tuple #[.agg #[.int .i64 r1, v1_, v2_, .int .i64 r4], .int .i64 r5]) ∧ Kd.V (Kd.slice 3 (Kd.int .i64)) 23 w' w.heap.size (fun k_ => (w.heap.size ≤ k_) ∧ some k_ ≠ (v2_ : Value).ownBlock) v1_ r2 ∧ Kd.R (Kd.int .i64) 3 w' w.heap.size (fun k_ => (w.heap.size ≤ k_)) v2_ r3 ∧ Below w.heap.size w w' := by
 have hu28 := Try.underlying28
 have HR0_1 := Aside0.mk hr0_1
 have HC0_1 := Aside0.mk hc0_1
 clear hr0_1 hc0_1
 have HR0_2 := Aside0.mk hr0_2
 have HC0_2 := Aside0.mk hc0_2
 clear hr0_2 hc0_2
 have HR1 := Aside0.mk hr1
 have HC1 := Aside0.mk hc1
 clear hr1 hc1
 have HB := Aside0.mk (Below.refl w.heap.size w)
 have H : ((impl_isCourt.f k a0_0 l0_1 l0_2 a0_3).bind fun t346 => (if t346 = true then (impl_AfterDeaths.j0 k l1 (decide ((l1.length : Int) > 20)) a0_0 l0_1 l0_2 a0_3) else (impl_AfterDeaths.j0 k l1 true a0_0 l0_1 l0_2 a0_3))) = some (r1, r2, r3, r4, r5) := h
 clear h
 have HC3 := Aside0.mk H
 clear H
 go_enter Try.func32, Try.ntmps32
 go_upto_region 1 with (first | ((with_reducible refine gate_dst (N := 2) rfl ?_); (try (refine gate_guard (by rfl) ?_; dsimp only)); refine box_event ?hg (N := 2) ?hd (cs := #[.int .i64 a0_0, .slice A0_1 l0_1.length c0_1, .slice A0_2 l0_2.length c0_2, .int .i64 a0_3]) (t := 28) ?hr ?_; (case hd => rfl); (case hg => rfl); (case hr => first | (go_simp; done) | (go_simp; rfl)); intro gb344 hg w4 hbox hb; have n0_ := Aside0.mk (below_step bh hb); have n1_ := Aside0.mk (hbox); have n2_ := Aside0.mk ((gs (W0 := w) hg bh)); have n3_ := Aside0.mk ((gs (W0 := w) hg bh)); clear HB; have HB := n0_; have BK344 := n1_; have GW344 := n2_; have GE344 := n3_; clear n0_ n1_ n2_ n3_ hb hbox hg) | ((with_reducible refine gate_dst (N := 4) rfl ?_); (try (refine gate_guard (by rfl) ?_; dsimp only)); refine box_event ?hg (N := 4) ?hd (cs := #[.int .i64 0, .slice none 0 0, .slice none 0 0, .int .i64 0]) (t := 28) ?hr ?_; (case hd => rfl); (case hg => rfl); (case hr => first | (go_simp; done) | (go_simp; rfl)); intro gb345 hg w5 hbox hb; have n0_ := Aside0.mk (blk_below (bz BK344) hb); have n1_ := Aside0.mk (below_step bh hb); have n2_ := Aside0.mk (hbox); have n3_ := Aside0.mk ((gs (W0 := w) hg bh)); have n4_ := Aside0.mk ((gs (W0 := w) hg bh)); have n5_ := Aside0.mk ((gn hg (bz BK344))); have n6_ := Aside0.mk ((gm hg (bz BK344))); clear BK344 HB; have BK344 := n0_; have HB := n1_; have BK345 := n2_; have GW345 := n3_; have GE345 := n4_; have NB344_345 := n5_; have NB345_344 := n6_; clear n0_ n1_ n2_ n3_ n4_ n5_ n6_ hb hbox hg))
 (try simp only [Act.put, List.setIfInBounds_toArray, List.set_cons_zero, List.set_cons_succ])
 go_cut [16] (fun v16 wc => ∃ (kq : Nat) (x16_2 : Bool), v16 = .bool x16_2 ∧ Aside0 (impl_AfterDeaths.j0 kq l1 x16_2 a0_0 l0_1 l0_2 a0_3 = some (r1, r2, r3, r4, r5)) ∧ Aside0 (kq ≤ k) ∧ Aside0 (wc.heap[gb344]? = some (.cells #[.int .i64 a0_0, (.slice A0_1 l0_1.length c0_1), (.slice A0_2 l0_2.length c0_2), .int .i64 a0_3] 28 (0, 0))) ∧ Aside0 (wc.heap[gb345]? = some (.cells #[.int .i64 0, (.slice none 0 0), (.slice none 0 0), .int .i64 0] 28 (0, 0))) ∧ Aside0 (Below w.heap.size w wc))
 case first =>
  have H := HC3.out
  clear HC3
  replace H := Option.bind_eq_some_iff.mp H
  obtain ⟨t346, A60, H⟩ := H
  replace H : (if t346 = true then (impl_AfterDeaths.j0 k l1 (decide ((l1.length : Int) > 20)) a0_0 l0_1 l0_2 a0_3) else (impl_AfterDeaths.j0 k l1 true a0_0 l0_1 l0_2 a0_3)) = some (r1, r2, r3, r4, r5) := H
  have A6 := Aside0.mk A60
  clear A60
  by_cases c7 : t346 = true
  ·subst c7
   have H1 : (impl_AfterDeaths.j0 k l1 (decide ((l1.length : Int) > 20)) a0_0 l0_1 l0_2 a0_3) = some (r1, r2, r3, r4, r5) := by rw [if_pos rfl] at H; exact H
   clear H
   have H := H1
   clear H1
   have H' := Aside0.mk H
   clear H
   have hnb8 := NB344_345.out
   have hnc8 := NB345_344.out
   have hcz9_0 := cz0 BK344
   have hcz9_1 := cz1 BK344
   have hcz9_2 := cz2 BK344
   have hcz9_3 := cz3 BK344
   have hfz9_0 := blk_frozen BK344.out 0
   have hfz9_1 := blk_frozen BK344.out 1
   have hfz9_2 := blk_frozen BK344.out 2
   have hfz9_3 := blk_frozen BK344.out 3
   go_wp2_with (first | ((with_reducible refine gate_callee (f := 54) rfl ?_); refine goesL_ (some 10) rfl rfl Try.func54 kr rfl #[.agg #[.int .i64 a0_0, .slice A0_1 l0_1.length c0_1, .slice A0_2 l0_2.length c0_2, .int .i64 a0_3]] rfl lm ?_; (with_reducible refine (impl_isCourt.calls k a0_0 _ _ l0_1 _ _ l0_2 a0_3 true _ ?side1 ?side2 ?side3 ?side4 A6.out).mono ?_); (case side1 => repeat (first | exact (Kd.C_below HR0_1.out HB.out) | (with_reducible refine Kd.C_alloc ?_ _) | (with_reducible refine Kd.C_drewN ?_ _) | (with_reducible refine Kd.C_drew ?_))); (case side2 => exact HC0_1.out); (case side3 => repeat (first | exact (Kd.C_below HR0_2.out HB.out) | (with_reducible refine Kd.C_alloc ?_ _) | (with_reducible refine Kd.C_drewN ?_ _) | (with_reducible refine Kd.C_drew ?_))); (case side4 => exact HC0_2.out); rintro e w10 ⟨rfl, hb⟩; refine ⟨_, rfl, ?_⟩; have n0_ := Aside0.mk (blk_below (bz BK344) hb); have n1_ := Aside0.mk (blk_below (bz BK345) hb); have n2_ := Aside0.mk (below_step bh hb); clear BK344 BK345 HB; have BK344 := n0_; have BK345 := n1_; have HB := n2_; clear n0_ n1_ n2_; (try clear hb); (try clear hb2); (try clear hk); (try clear hi)))
   go_meet
   case rel => exact ⟨_, (decide ((l1.length : Int) > 20)), (by first | rfl | (simp; done) | (simp [*]; done)), H', ⟨by first | omega | exact Nat.le_refl _⟩, ⟨bz BK344⟩, ⟨bz BK345⟩, ⟨by exact bh⟩⟩
  ·replace c7 := Bool.eq_false_iff.mpr c7
   subst c7
   have H1 : (impl_AfterDeaths.j0 k l1 true a0_0 l0_1 l0_2 a0_3) = some (r1, r2, r3, r4, r5) := by rw [if_neg (show ¬ (false = true) by decide)] at H; exact H
   clear H
   have H := H1
   clear H1
   have H' := Aside0.mk H
   clear H
   have hnb11 := NB344_345.out
   have hnc11 := NB345_344.out
   have hcz12_0 := cz0 BK344
   have hcz12_1 := cz1 BK344
   have hcz12_2 := cz2 BK344
   have hcz12_3 := cz3 BK344
   have hfz12_0 := blk_frozen BK344.out 0
   have hfz12_1 := blk_frozen BK344.out 1
   have hfz12_2 := blk_frozen BK344.out 2
   have hfz12_3 := blk_frozen BK344.out 3
   go_wp2_with (first | ((with_reducible refine gate_callee (f := 54) rfl ?_); refine goesL_ (some 10) rfl rfl Try.func54 kr rfl #[.agg #[.int .i64 a0_0, .slice A0_1 l0_1.length c0_1, .slice A0_2 l0_2.length c0_2, .int .i64 a0_3]] rfl lm ?_; (with_reducible refine (impl_isCourt.calls k a0_0 _ _ l0_1 _ _ l0_2 a0_3 false _ ?side1 ?side2 ?side3 ?side4 A6.out).mono ?_); (case side1 => repeat (first | exact (Kd.C_below HR0_1.out HB.out) | (with_reducible refine Kd.C_alloc ?_ _) | (with_reducible refine Kd.C_drewN ?_ _) | (with_reducible refine Kd.C_drew ?_))); (case side2 => exact HC0_1.out); (case side3 => repeat (first | exact (Kd.C_below HR0_2.out HB.out) | (with_reducible refine Kd.C_alloc ?_ _) | (with_reducible refine Kd.C_drewN ?_ _) | (with_reducible refine Kd.C_drew ?_))); (case side4 => exact HC0_2.out); rintro e w13 ⟨rfl, hb⟩; refine ⟨_, rfl, ?_⟩; have n0_ := Aside0.mk (blk_below (bz BK344) hb); have n1_ := Aside0.mk (blk_below (bz BK345) hb); have n2_ := Aside0.mk (below_step bh hb); clear BK344 BK345 HB; have BK344 := n0_; have BK345 := n1_; have HB := n2_; clear n0_ n1_ n2_; (try clear hb); (try clear hb2); (try clear hk); (try clear hi)))
   go_meet
   case rel => exact ⟨_, (true), (by first | rfl | (simp; done) | (simp [*]; done)), H', ⟨by first | omega | exact Nat.le_refl _⟩, ⟨bz BK344⟩, ⟨bz BK345⟩, ⟨by exact bh⟩⟩
 case rest =>
  clear HC3
  try clear c1
  try clear p2
  try clear c3
  try clear c5
  try clear c7
  try clear c8
  try clear c11
  try clear hcz12_0
  try clear hcz12_1
  try clear hcz12_2
  try clear hcz12_3
  try clear hcz9_0
  try clear hcz9_1
  try clear hcz9_2
  try clear hcz9_3
  try clear hfz12_0
  try clear hfz12_1
  try clear hfz12_2
  try clear hfz12_3
  try clear hfz9_0
  try clear hfz9_1
  try clear hfz9_2
  try clear hfz9_3
  obtain ⟨kq, x16_2, rfl, HA, HJ2, BK344, BK345, HB⟩ := hcut
  cases kq with
  | zero => exact absurd HA.out (by simp [impl_AfterDeaths.j0])
  | succ kj2 =>
   have H := HA.out
   clear HA
   simp only [impl_AfterDeaths.j0] at H
   by_cases c14 : x16_2 = true
   ·subst c14
    have H1 : (some (0, ([] : List (List Int)), ([] : List Int), 0, (-1))) = some (r1, r2, r3, r4, r5) := by rw [if_pos rfl] at H; exact H
    clear H
    have H := H1
    clear H1
    simp only [Option.some.injEq, Prod.mk.injEq] at H
    obtain ⟨rfl, rfl, rfl, rfl, rfl⟩ := H
    have hnb15 := NB345_344.out
    have hnc15 := NB344_345.out
    have hcz16_0 := cz0 BK345
    have hcz16_1 := cz1 BK345
    have hcz16_2 := cz2 BK345
    have hcz16_3 := cz3 BK345
    have hfz16_0 := blk_frozen BK345.out 0
    have hfz16_1 := blk_frozen BK345.out 1
    have hfz16_2 := blk_frozen BK345.out 2
    have hfz16_3 := blk_frozen BK345.out 3
    go_wp2
    refine bodyPost_ret (results_ct rfl _ _ gb345 28 #[.int .i64 0, .slice none 0 0, .slice none 0 0, .int .i64 0] (0, 0) _ rfl (bp BK345) Try.underlying28 rfl kr) rfl ?_
    exact ⟨_, _, by first | rfl | (simp [errW_none, errW_some] <;> rfl) | (simp [*, errW_none, errW_some] <;> rfl), by first | exact Kd.S_nil _ _ _ _ _ | exact Kd.N_nil _ _ _ _ _ | exact Kd.V_nil _ _ _ _ _ | exact Kd.Q_nil _ _ _ _ _ | exact Kd.R_nil _ _ _ _ _, by first | exact Kd.R_nil _ _ _ _ _ | exact Kd.N_nil _ _ _ _ _ | exact Kd.V_nil _ _ _ _ _ | exact Kd.Q_nil _ _ _ _ _ | exact Kd.S_nil _ _ _ _ _, by exact bh⟩
   ·replace c14 := Bool.eq_false_iff.mpr c14
    subst c14
    have H1 : ((impl_copyCourt.f kj2 a0_0 l0_1 l0_2 a0_3).bind fun bt347 => (impl_AfterDeaths.l0 kj2 0 l1 (l1.length : Int) 0 bt347.1 bt347.2.1 bt347.2.2.1 bt347.2.2.2)) = some (r1, r2, r3, r4, r5) := by rw [if_neg (show ¬ (false = true) by decide)] at H; exact H
    clear H
    have H := H1
    clear H1
    replace H := Option.bind_eq_some_iff.mp H
    obtain ⟨⟨t347, t348, t351, t354⟩, A170, H⟩ := H
    replace H : (impl_AfterDeaths.l0 kj2 0 l1 (l1.length : Int) 0 t347 t348 t351 t354) = some (r1, r2, r3, r4, r5) := H
    have A17 := Aside0.mk A170
    clear A170
    have H' := Aside0.mk H
    clear H
    have hnb18 := NB344_345.out
    have hnc18 := NB345_344.out
    have hcz19_0 := cz0 BK344
    have hcz19_1 := cz1 BK344
    have hcz19_2 := cz2 BK344
    have hcz19_3 := cz3 BK344
    have hfz19_0 := blk_frozen BK344.out 0
    have hfz19_1 := blk_frozen BK344.out 1
    have hfz19_2 := blk_frozen BK344.out 2
    have hfz19_3 := blk_frozen BK344.out 3
    go_wp2_with (first | ((with_reducible refine gate_callee (f := 63) rfl ?_); refine goesL_ (some 19) rfl rfl Try.func63 kr rfl #[.agg #[.int .i64 a0_0, .slice A0_1 l0_1.length c0_1, .slice A0_2 l0_2.length c0_2, .int .i64 a0_3]] rfl lm ?_; (with_reducible refine (impl_copyCourt.calls kj2 a0_0 _ _ l0_1 _ _ l0_2 a0_3 t347 t348 t351 t354 _ ?side1 ?side2 ?side3 ?side4 A17.out).mono ?_); (case side1 => repeat (first | exact (Kd.C_below HR0_1.out HB.out) | (with_reducible refine Kd.C_alloc ?_ _) | (with_reducible refine Kd.C_drewN ?_ _) | (with_reducible refine Kd.C_drew ?_))); (case side2 => exact HC0_1.out); (case side3 => repeat (first | exact (Kd.C_below HR0_2.out HB.out) | (with_reducible refine Kd.C_alloc ?_ _) | (with_reducible refine Kd.C_drewN ?_ _) | (with_reducible refine Kd.C_drew ?_))); (case side4 => exact HC0_2.out); rintro e w20 ⟨v349, v352, rfl, ho0, ho1, hb⟩; refine ⟨_, rfl, ?_⟩; have n0_ := Aside0.mk (Kd.S_lower (Kd.S_newM (M := fun k_ => (w.heap.size ≤ k_)) ho0 (below_size bh) (fun k_ h_ => h_)) (below_size bh)); have n1_ := Aside0.mk (Kd.R_lower (Kd.R_newM (M := fun k_ => (w.heap.size ≤ k_)) ho1 (below_size bh) (fun k_ h_ => h_)) (below_size bh)); have n2_ := Aside0.mk (blk_below (bz BK344) hb); have n3_ := Aside0.mk (blk_below (bz BK345) hb); have n4_ := Aside0.mk (below_step bh hb); clear BK344 BK345 HB; have HO350 := n0_; have HO353 := n1_; have BK344 := n2_; have BK345 := n3_; have HB := n4_; clear n0_ n1_ n2_ n3_ n4_; (try clear hb); (try clear hb2); (try clear hk); (try clear hi); (try clear ho0); (try clear ho1); have hcz21_0 := cz0 BK344; have hcz21_1 := cz1 BK344; have hcz21_2 := cz2 BK344; have hcz21_3 := cz3 BK344; have hfz21_0 := blk_frozen BK344.out 0; have hfz21_1 := blk_frozen BK344.out 1; have hfz21_2 := blk_frozen BK344.out 2; have hfz21_3 := blk_frozen BK344.out 3; obtain ⟨Ao22, co22, eo22⟩ := Kd.S_slice HO350.out; subst eo22; obtain ⟨Ao23, co23, eo23⟩ := Kd.R_slice HO353.out; subst eo23))
    go_loopg [6, 22] kj2 (fun kq v6 v22 w' => ∃ (x6_2 : Int) (x22_2 : Int) (x345000_2 : Int) (x345001_2 : List (List Int)) (x345002_2 : List Int) (x345003_2 : Int) (u345001 : Value) (u345002 : Value), v6 = .int .i64 x6_2 ∧ v22 = .int .i64 x22_2 ∧ Aside0 (impl_AfterDeaths.l0 kq x6_2 l1 (l1.length : Int) x22_2 x345000_2 x345001_2 x345002_2 x345003_2 = some (r1, r2, r3, r4, r5)) ∧ Aside0 (kq ≤ kj2) ∧ Aside0 (Kd.V (Kd.slice 3 (Kd.int .i64)) 23 w' w.heap.size (fun k_ => (w.heap.size ≤ k_) ∧ some k_ ≠ (u345002 : Value).ownBlock ∧ k_ ≠ gb344 ∧ k_ ≠ gb345) u345001 x345001_2) ∧ Aside0 (Kd.R (Kd.int .i64) 3 w' w.heap.size (fun k_ => (w.heap.size ≤ k_)) u345002 x345002_2) ∧ Aside0 (w'.heap[gb344]? = some (.cells #[.int .i64 x345000_2, u345001, u345002, .int .i64 x345003_2] 28 (0, 0))) ∧ Aside0 (w'.heap[gb345]? = some (.cells #[.int .i64 0, (.slice none 0 0), (.slice none 0 0), .int .i64 0] 28 (0, 0))) ∧ Aside0 (Below w.heap.size w w'))
    case atStart => exact ⟨(0), (0), (t347), (t348), (t351), (t354), (.slice Ao22 t348.length co22), (.slice Ao23 t351.length co23), (by first | rfl | (simp; done) | (simp [*]; done)), (by first | rfl | (simp; done) | (simp [*]; done)), H', ⟨Nat.le_refl _⟩, ⟨Kd.S_V (by (with_reducible repeat (first | apply Kd.S_alloc | apply Kd.S_drewN | apply Kd.S_drew)); exact Kd.S_mono (Kd.S_far (p := ⟨gb344, 3, none⟩) (Kd.S_far (p := ⟨gb344, 2, none⟩) (Kd.S_far (p := ⟨gb344, 1, none⟩) (Kd.S_far (p := ⟨gb344, 0, none⟩) (Kd.S_types (Kd.S_types (Kd.S_types HO350.out BK344.out (by decide)) BK345.out (by decide)) BK344.out (by decide)) (fun _ hk => hk.2) (.int .i64 t347)) (fun _ hk => hk.2) (.slice Ao22 t348.length co22)) (fun _ hk => hk.2) (.slice Ao23 t351.length co23)) (fun _ hk => hk.2) (.int .i64 t354)) (fun _ hk => ⟨hk.1.1.1.1, ⟨hk.1.1.1.2, ⟨hk.1.1.2, hk.1.2⟩⟩⟩))⟩, ⟨gR HO353 BK344⟩, ⟨bp BK344⟩, ⟨bf NB345_344 BK345⟩, ⟨by exact bh⟩⟩
    case round =>
     clear H'
     try clear c1
     try clear p2
     try clear c3
     try clear c5
     try clear c6
     try clear c7
     try clear c8
     try clear c11
     try clear c14
     try clear c15
     try clear c18
     try clear hcz12_0
     try clear hcz12_1
     try clear hcz12_2
     try clear hcz12_3
     try clear hcz16_0
     try clear hcz16_1
     try clear hcz16_2
     try clear hcz16_3
     try clear hcz19_0
     try clear hcz19_1
     try clear hcz19_2
     try clear hcz19_3
     try clear hcz21_0
     try clear hcz21_1
     try clear hcz21_2
     try clear hcz21_3
     try clear hcz9_0
     try clear hcz9_1
     try clear hcz9_2
     try clear hcz9_3
     try clear hfz12_0
     try clear hfz12_1
     try clear hfz12_2
     try clear hfz12_3
     try clear hfz16_0
     try clear hfz16_1
     try clear hfz16_2
     try clear hfz16_3
     try clear hfz19_0
     try clear hfz19_1
     try clear hfz19_2
     try clear hfz19_3
     try clear hfz21_0
     try clear hfz21_1
     try clear hfz21_2
     try clear hfz21_3
     try clear hfz9_0
     try clear hfz9_1
     try clear hfz9_2
     try clear hfz9_3
     try clear p2
     obtain ⟨x6_2, x22_2, x345000_2, x345001_2, x345002_2, x345003_2, u345001, u345002, rfl, rfl, HA, HK2, HO_345001, HO_345002, BK344, BK345, HB⟩ := hrel
     cases gk with
     | zero => exact absurd HA.out (by simp [impl_AfterDeaths.l0])
     | succ k2 =>
      have H := HA.out
      clear HA
      simp only [impl_AfterDeaths.l0] at H
      by_cases c24 : x22_2 < (l1.length : Int)
      ·rw [if_pos c24] at H
       have c24b0 : decide (x22_2 < (l1.length : Int)) = true := decide_eq_true c24
       clear c24
       by_cases c25 : 0 ≤ x22_2
       ·rw [if_pos c25] at H
        have c25b0 : decide (0 ≤ x22_2) = true := decide_eq_true c25
        clear c25
        by_cases c26 : x22_2 < (l1.length : Int)
        ·rw [if_pos c26] at H
         have c26b0 : decide (x22_2 < (l1.length : Int)) = true := decide_eq_true c26
         clear c26
         replace H := Option.bind_eq_some_iff.mp H
         obtain ⟨t356, A270, H⟩ := H
         replace H : (if t356 = true then ((impl_afterDeath.f k2 x345000_2 x345001_2 x345002_2 x345003_2 (rd l1 x22_2)).bind fun bt357 => (impl_AfterDeaths.l0 k2 (wrap64 (x6_2 + 1)) l1 (l1.length : Int) (wrap64 (x22_2 + 1)) bt357.1 bt357.2.1 bt357.2.2.1 bt357.2.2.2)) else (impl_AfterDeaths.l0 k2 x6_2 l1 (l1.length : Int) (wrap64 (x22_2 + 1)) x345000_2 x345001_2 x345002_2 x345003_2)) = some (r1, r2, r3, r4, r5) := H
         have A27 := Aside0.mk A270
         clear A270
         by_cases c28 : t356 = true
         ·subst c28
          have H1 : ((impl_afterDeath.f k2 x345000_2 x345001_2 x345002_2 x345003_2 (rd l1 x22_2)).bind fun bt357 => (impl_AfterDeaths.l0 k2 (wrap64 (x6_2 + 1)) l1 (l1.length : Int) (wrap64 (x22_2 + 1)) bt357.1 bt357.2.1 bt357.2.2.1 bt357.2.2.2)) = some (r1, r2, r3, r4, r5) := by rw [if_pos rfl] at H; exact H
          clear H
          have H := H1
          clear H1
          replace H := Option.bind_eq_some_iff.mp H
          obtain ⟨⟨t357, t358, t361, t364⟩, A290, H⟩ := H
          replace H : (impl_AfterDeaths.l0 k2 (wrap64 (x6_2 + 1)) l1 (l1.length : Int) (wrap64 (x22_2 + 1)) t357 t358 t361 t364) = some (r1, r2, r3, r4, r5) := H
          have A29 := Aside0.mk A290
          clear A290
          have H' := Aside0.mk H
          clear H
          have p355 : 0 ≤ (x22_2 : Int) := oda
          have q355 : x22_2 < (l1.length : Int) := oda
          obtain ⟨ad355, e355, hx355_0⟩ := Kd.at_int HR1.out x22_2 p355 q355
          cases e355
          replace hx355_0 := (HB.out.cell (World.block_lt_of_cell? w _ hx355_0)).trans hx355_0
          replace p355 := eq_true p355
          replace q355 := eq_true q355
          have hnb30 := NB344_345.out
          have hnc30 := NB345_344.out
          have hcz31_0 := cz0 BK344
          have hcz31_1 := cz1 BK344
          have hcz31_2 := cz2 BK344
          have hcz31_3 := cz3 BK344
          have hfz31_0 := blk_frozen BK344.out 0
          have hfz31_1 := blk_frozen BK344.out 1
          have hfz31_2 := blk_frozen BK344.out 2
          have hfz31_3 := blk_frozen BK344.out 3
          obtain ⟨Ao32, co32, eo32⟩ := Kd.V_slice HO_345001.out
          subst eo32
          obtain ⟨Ao33, co33, eo33⟩ := Kd.R_slice HO_345002.out
          subst eo33
          go_wp2_with (first | ((with_reducible refine gate_callee (f := 64) rfl ?_); refine goesL_ (some 28) rfl rfl Try.func64 kr rfl #[.agg #[.int .i64 x345000_2, .slice Ao32 x345001_2.length co32, .slice Ao33 x345002_2.length co33, .int .i64 x345003_2], .int .i64 (rd l1 x22_2)] rfl lm ?_; (with_reducible refine (impl_lives.calls x345000_2 _ _ x345001_2 _ _ x345002_2 x345003_2 (rd l1 x22_2) true _ ?side1 ?side2 ?side3 ?side4 A27.out).mono ?_); (case side1 => repeat (first | exact (Kd.V_reads' HO_345001.out).2.2 | (with_reducible refine Kd.C_alloc ?_ _) | (with_reducible refine Kd.C_drewN ?_ _) | (with_reducible refine Kd.C_drew ?_))); (case side2 => exact (Kd.V_reads' HO_345001.out).2.1); (case side3 => repeat (first | exact (Kd.R_reads' HO_345002.out).2.2 | (with_reducible refine Kd.C_alloc ?_ _) | (with_reducible refine Kd.C_drewN ?_ _) | (with_reducible refine Kd.C_drew ?_))); (case side4 => exact (Kd.R_reads' HO_345002.out).2.1); rintro e w34 ⟨rfl, hb⟩; refine ⟨_, rfl, ?_⟩; have n0_ := Aside0.mk (Kd.V_below (vz HO_345001) hb); have n1_ := Aside0.mk (Kd.R_below (rz HO_345002) hb); have n2_ := Aside0.mk (blk_below (bz BK344) hb); have n3_ := Aside0.mk (blk_below (bz BK345) hb); have n4_ := Aside0.mk (below_step bh hb); clear HO_345001 HO_345002 BK344 BK345 HB; have HO_345001 := n0_; have HO_345002 := n1_; have BK344 := n2_; have BK345 := n3_; have HB := n4_; clear n0_ n1_ n2_ n3_ n4_; (try clear hb); (try clear hb2); (try clear hk); (try clear hi); have hcz35_0 := cz0 BK344; have hcz35_1 := cz1 BK344; have hcz35_2 := cz2 BK344; have hcz35_3 := cz3 BK344; have hfz35_0 := blk_frozen BK344.out 0; have hfz35_1 := blk_frozen BK344.out 1; have hfz35_2 := blk_frozen BK344.out 2; have hfz35_3 := blk_frozen BK344.out 3) | ((with_reducible refine gate_callee (f := 65) rfl ?_); refine goesL_ (some 31) rfl rfl Try.func65 kr rfl #[.agg #[.int .i64 x345000_2, .slice Ao32 x345001_2.length co32, .slice Ao33 x345002_2.length co33, .int .i64 x345003_2], .int .i64 (rd l1 x22_2)] rfl lm ?_; (with_reducible refine (impl_afterDeath.calls k2 x345000_2 _ _ x345001_2 _ _ x345002_2 x345003_2 (rd l1 x22_2) t357 t358 t361 t364 _ ?side1 ?side2 ?side3 ?side4 A29.out).mono ?_); (case side1 => repeat (first | exact (Kd.V_reads' HO_345001.out).2.2 | (with_reducible refine Kd.C_alloc ?_ _) | (with_reducible refine Kd.C_drewN ?_ _) | (with_reducible refine Kd.C_drew ?_))); (case side2 => exact (Kd.V_reads' HO_345001.out).2.1); (case side3 => repeat (first | exact (Kd.R_reads' HO_345002.out).2.2 | (with_reducible refine Kd.C_alloc ?_ _) | (with_reducible refine Kd.C_drewN ?_ _) | (with_reducible refine Kd.C_drew ?_))); (case side4 => exact (Kd.R_reads' HO_345002.out).2.1); rintro e w36 ⟨v359, v362, rfl, ho0, ho1, hb⟩; refine ⟨_, rfl, ?_⟩; have n0_ := Aside0.mk (Kd.V_elder' (vz HO_345001) (Kd.R_base ho1) hb); have n1_ := Aside0.mk (Kd.R_elder' (rz HO_345002) (Kd.R_base ho1) hb); have n2_ := Aside0.mk (Kd.V_lower (Kd.V_mono (ok' := fun k_ => (w.heap.size ≤ k_) ∧ some k_ ≠ (v362 : Value).ownBlock ∧ some k_ ≠ (.slice Ao33 x345002_2.length co33 : Value).ownBlock ∧ k_ ≠ gb344 ∧ k_ ≠ gb345) ho0 (fun k_ hk_ => ⟨(Nat.le_trans (below_size bh) hk_.1), hk_.2, (Kd.fresh' (Kd.R_lt (rz HO_345002)) k_ hk_.1), (Kd.freshB (bz BK344) k_ hk_.1), (Kd.freshB (bz BK345) k_ hk_.1)⟩)) (below_size bh)); have n3_ := Aside0.mk (Kd.R_lower (Kd.R_new' (Kd.R_newM (M := fun k_ => (w.heap.size ≤ k_)) (Kd.R_mono (ok' := fun k_ => True) ho1 (fun _ hk_ => trivial)) (below_size bh) (fun k_ h_ => h_)) (Kd.R_lt (rz HO_345002))) (below_size bh)); have n4_ := Aside0.mk (blk_below (bz BK344) hb); have n5_ := Aside0.mk (blk_below (bz BK345) hb); have n6_ := Aside0.mk (below_step bh hb); clear HO_345001 HO_345002 BK344 BK345 HB; have HO_345001 := n0_; have HO_345002 := n1_; have HO360 := n2_; have HO363 := n3_; have BK344 := n4_; have BK345 := n5_; have HB := n6_; clear n0_ n1_ n2_ n3_ n4_ n5_ n6_; (try clear hb); (try clear hb2); (try clear hk); (try clear hi); (try clear ho0); (try clear ho1); have hcz37_0 := cz0 BK344; have hcz37_1 := cz1 BK344; have hcz37_2 := cz2 BK344; have hcz37_3 := cz3 BK344; have hfz37_0 := blk_frozen BK344.out 0; have hfz37_1 := blk_frozen BK344.out 1; have hfz37_2 := blk_frozen BK344.out 2; have hfz37_3 := blk_frozen BK344.out 3; obtain ⟨Ao38, co38, eo38⟩ := Kd.V_slice HO360.out; subst eo38; obtain ⟨Ao39, co39, eo39⟩ := Kd.R_slice HO363.out; subst eo39))
          go_roundg k2
          case measure => have := HJ2.out; have := HK2.out; omega
          case rel => exact ⟨(wrap64 (x6_2 + 1)), (wrap64 (x22_2 + 1)), (t357), (t358), (t361), (t364), (.slice Ao38 t358.length co38), (.slice Ao39 t361.length co39), (by first | rfl | (simp; done) | (simp [*]; done)), (by first | rfl | (simp; done) | (simp [*]; done)), H', ⟨by have := HJ2.out; have := HK2.out; omega⟩, ⟨vV HO360 (fun _ hk => hk.2.2.2.1)⟩, ⟨gR HO363 BK344⟩, ⟨bp BK344⟩, ⟨bf NB345_344 BK345⟩, ⟨by exact bh⟩⟩
         ·replace c28 := Bool.eq_false_iff.mpr c28
          subst c28
          have H1 : (impl_AfterDeaths.l0 k2 x6_2 l1 (l1.length : Int) (wrap64 (x22_2 + 1)) x345000_2 x345001_2 x345002_2 x345003_2) = some (r1, r2, r3, r4, r5) := by rw [if_neg (show ¬ (false = true) by decide)] at H; exact H
          clear H
          have H := H1
          clear H1
          have H' := Aside0.mk H
          clear H
          have p355 : 0 ≤ (x22_2 : Int) := oda
          have q355 : x22_2 < (l1.length : Int) := oda
          obtain ⟨ad355, e355, hx355_0⟩ := Kd.at_int HR1.out x22_2 p355 q355
          cases e355
          replace hx355_0 := (HB.out.cell (World.block_lt_of_cell? w _ hx355_0)).trans hx355_0
          replace p355 := eq_true p355
          replace q355 := eq_true q355
          have hnb40 := NB344_345.out
          have hnc40 := NB345_344.out
          have hcz41_0 := cz0 BK344
          have hcz41_1 := cz1 BK344
          have hcz41_2 := cz2 BK344
          have hcz41_3 := cz3 BK344
          have hfz41_0 := blk_frozen BK344.out 0
          have hfz41_1 := blk_frozen BK344.out 1
          have hfz41_2 := blk_frozen BK344.out 2
          have hfz41_3 := blk_frozen BK344.out 3
          obtain ⟨Ao42, co42, eo42⟩ := Kd.V_slice HO_345001.out
          subst eo42
          obtain ⟨Ao43, co43, eo43⟩ := Kd.R_slice HO_345002.out
          subst eo43
          go_wp2_with (first | ((with_reducible refine gate_callee (f := 64) rfl ?_); refine goesL_ (some 28) rfl rfl Try.func64 kr rfl #[.agg #[.int .i64 x345000_2, .slice Ao42 x345001_2.length co42, .slice Ao43 x345002_2.length co43, .int .i64 x345003_2], .int .i64 (rd l1 x22_2)] rfl lm ?_; (with_reducible refine (impl_lives.calls x345000_2 _ _ x345001_2 _ _ x345002_2 x345003_2 (rd l1 x22_2) false _ ?side1 ?side2 ?side3 ?side4 A27.out).mono ?_); (case side1 => repeat (first | exact (Kd.V_reads' HO_345001.out).2.2 | (with_reducible refine Kd.C_alloc ?_ _) | (with_reducible refine Kd.C_drewN ?_ _) | (with_reducible refine Kd.C_drew ?_))); (case side2 => exact (Kd.V_reads' HO_345001.out).2.1); (case side3 => repeat (first | exact (Kd.R_reads' HO_345002.out).2.2 | (with_reducible refine Kd.C_alloc ?_ _) | (with_reducible refine Kd.C_drewN ?_ _) | (with_reducible refine Kd.C_drew ?_))); (case side4 => exact (Kd.R_reads' HO_345002.out).2.1); rintro e w44 ⟨rfl, hb⟩; refine ⟨_, rfl, ?_⟩; have n0_ := Aside0.mk (Kd.V_below (vz HO_345001) hb); have n1_ := Aside0.mk (Kd.R_below (rz HO_345002) hb); have n2_ := Aside0.mk (blk_below (bz BK344) hb); have n3_ := Aside0.mk (blk_below (bz BK345) hb); have n4_ := Aside0.mk (below_step bh hb); clear HO_345001 HO_345002 BK344 BK345 HB; have HO_345001 := n0_; have HO_345002 := n1_; have BK344 := n2_; have BK345 := n3_; have HB := n4_; clear n0_ n1_ n2_ n3_ n4_; (try clear hb); (try clear hb2); (try clear hk); (try clear hi)))
          go_roundg k2
          case measure => have := HJ2.out; have := HK2.out; omega
          case rel => exact ⟨(x6_2), (wrap64 (x22_2 + 1)), (x345000_2), (x345001_2), (x345002_2), (x345003_2), (.slice Ao42 x345001_2.length co42), (.slice Ao43 x345002_2.length co43), (by first | rfl | (simp; done) | (simp [*]; done)), (by first | rfl | (simp; done) | (simp [*]; done)), H', ⟨by have := HJ2.out; have := HK2.out; omega⟩, ⟨vz HO_345001⟩, ⟨rz HO_345002⟩, ⟨bz BK344⟩, ⟨bz BK345⟩, ⟨by exact bh⟩⟩
        ·rw [if_neg c26] at H
         exact absurd H (by simp)
       ·rw [if_neg c25] at H
        exact absurd H (by simp)
      ·rw [if_neg c24] at H
       have c24b0 : decide (x22_2 < (l1.length : Int)) = false := decide_eq_false c24
       clear c24
       simp only [Option.some.injEq, Prod.mk.injEq] at H
       obtain ⟨rfl, rfl, rfl, rfl, rfl⟩ := H
       have hnb45 := NB344_345.out
       have hnc45 := NB345_344.out
       have hcz46_0 := cz0 BK344
       have hcz46_1 := cz1 BK344
       have hcz46_2 := cz2 BK344
       have hcz46_3 := cz3 BK344
       have hfz46_0 := blk_frozen BK344.out 0
       have hfz46_1 := blk_frozen BK344.out 1
       have hfz46_2 := blk_frozen BK344.out 2
       have hfz46_3 := blk_frozen BK344.out 3
       have hcz47_0 := cz0 BK345
       have hcz47_1 := cz1 BK345
       have hcz47_2 := cz2 BK345
       have hcz47_3 := cz3 BK345
       have hfz47_0 := blk_frozen BK345.out 0
       have hfz47_1 := blk_frozen BK345.out 1
       have hfz47_2 := blk_frozen BK345.out 2
       have hfz47_3 := blk_frozen BK345.out 3
       obtain ⟨Ao48, co48, eo48⟩ := Kd.V_slice HO_345001.out
       subst eo48
       obtain ⟨Ao49, co49, eo49⟩ := Kd.R_slice HO_345002.out
       subst eo49
       go_wp2
       refine bodyPost_ret (results_ct rfl _ _ gb345 28 #[.int .i64 x345000_2, .slice Ao48 x345001_2.length co48, .slice Ao49 x345002_2.length co49, .int .i64 x345003_2] (0, 0) _ rfl (bp BK345) Try.underlying28 rfl kr) rfl ?_
       exact ⟨_, _, by first | rfl | (simp [errW_none, errW_some] <;> rfl) | (simp [*, errW_none, errW_some] <;> rfl), by (with_reducible repeat (first | apply Kd.V_alloc | apply Kd.V_drewN | apply Kd.V_drew)); exact Kd.V_mono (Kd.V_far (p := ⟨gb345, 3, none⟩) (Kd.V_far (p := ⟨gb345, 2, none⟩) (Kd.V_far (p := ⟨gb345, 1, none⟩) (Kd.V_far (p := ⟨gb345, 0, none⟩) (Kd.V_mono HO_345001.out (fun k_ hk => (⟨hk, hk.2.2.2⟩ : _ ∧ k_ ≠ gb345))) (fun _ hk => hk.2) (.int .i64 x345000_2)) (fun _ hk => hk.2) (.slice Ao48 x345001_2.length co48)) (fun _ hk => hk.2) (.slice Ao49 x345002_2.length co49)) (fun _ hk => hk.2) (.int .i64 x345003_2)) (fun _ hk => ⟨hk.1.1, hk.1.2.1⟩), by (with_reducible repeat (first | apply Kd.R_alloc | apply Kd.R_drewN | apply Kd.R_drew)); exact Kd.R_mono (Kd.R_far (p := ⟨gb345, 3, none⟩) (Kd.R_far (p := ⟨gb345, 2, none⟩) (Kd.R_far (p := ⟨gb345, 1, none⟩) (Kd.R_far (p := ⟨gb345, 0, none⟩) (Kd.R_types HO_345002.out BK345.out (by decide)) (fun _ hk => hk.2) (.int .i64 x345000_2)) (fun _ hk => hk.2) (.slice Ao48 x345001_2.length co48)) (fun _ hk => hk.2) (.slice Ao49 x345002_2.length co49)) (fun _ hk => hk.2) (.int .i64 x345003_2)) (fun _ hk => hk.1), by exact bh⟩

/-! ### laws_sameInts: function 38 -/
def laws_sameInts.l0 : Nat → List Int → List Int → Int → Option (Bool)
 | 0, _, _, _ => none
 | k + 1, x0, x1, x5 => if x5 < (x0.length : Int) then (if 0 ≤ x5 then (if x5 < (x1.length : Int) then (if (rd x0 x5) = (rd x1 x5) then (laws_sameInts.l0 k x0 x1 (wrap64 (x5 + 1))) else (some false)) else (none)) else (none)) else (some true)
def laws_sameInts.f (k : Nat) (l0 : List Int) (l1 : List Int) : Option (Bool) := if (l0.length : Int) = (l1.length : Int) then (laws_sameInts.l0 k l0 l1 0) else (some false)
theorem laws_sameInts.mono_l : ∀ k, (∀ y0 y1 y2, LeO (laws_sameInts.l0 k y0 y1 y2) (laws_sameInts.l0 (k + 1) y0 y1 y2))
 | 0 => fun _ _ _ r h => by simp [laws_sameInts.l0] at h
 | k + 1 => by
  have ih0 := laws_sameInts.mono_l k
  ·intro y0 y1 y2
   unfold laws_sameInts.l0
   repeat' first
   | (with_reducible exact ih0 _ _ _)
   | (with_reducible exact LeO.refl _)
   | (with_reducible exact LeO.none _)
   | (with_reducible refine LeO.ite ?_ ?_)
   | (with_reducible refine LeO.bind ?_ (fun _ => ?_))
   | exact ih0 _ _ _
   | exact LeO.none _
   | refine LeO.ite ?_ ?_
   | refine LeO.bind ?_ (fun _ => ?_)
theorem laws_sameInts.mono : ∀ a0 a1 k, LeO (laws_sameInts.f k a0 a1) (laws_sameInts.f (k + 1) a0 a1) := by
 intro a0 a1 k
 have ih0 := laws_sameInts.mono_l k
 unfold laws_sameInts.f
 repeat' first
   | (with_reducible exact ih0 _ _ _)
   | (with_reducible exact LeO.refl _)
   | (with_reducible exact LeO.none _)
   | (with_reducible refine LeO.ite ?_ ?_)
   | (with_reducible refine LeO.bind ?_ (fun _ => ?_))
   | exact ih0 _ _ _
   | exact LeO.none _
   | refine LeO.ite ?_ ?_
   | refine LeO.bind ?_ (fun _ => ?_)
set_option maxHeartbeats 8000000 in
set_option maxRecDepth 100000 in
theorem laws_sameInts.calls (k : Nat) (A0 : Option Addr) (c0 : Nat) (l0 : List Int) (A1 : Option Addr) (c1 : Nat) (l1 : List Int) (r : Bool) (w : World) (hr0 : Kd.C (Kd.int .i64) w A0 l0.length l0) (hc0 : l0.length ≤ c0) (hr1 : Kd.C (Kd.int .i64) w A1 l1.length l1) (hc1 : l1.length ≤ c1) (h : laws_sameInts.f k l0 l1 = some r) :
  Calls Try.prog 38 #[.slice A0 l0.length c0, .slice A1 l1.length c1] w fun e w' => e = .returned (.bool r) ∧ Drawn0 w w' := by
 have HR0 := Aside0.mk hr0
 have HC0 := Aside0.mk hc0
 clear hr0 hc0
 have HR1 := Aside0.mk hr1
 have HC1 := Aside0.mk hc1
 clear hr1 hc1
 have H : (if (l0.length : Int) = (l1.length : Int) then (laws_sameInts.l0 k l0 l1 0) else (some false)) = some r := h
 clear h
 by_cases c3 : (l0.length : Int) = (l1.length : Int)
 ·rw [if_pos c3] at H
  have c3b0 : ((l0.length : Int) == (l1.length : Int)) = true := beq_iff_eq.mpr c3
  have c3b1 : ((l0.length : Int) != (l1.length : Int)) = false := bne_eq_false_iff_eq.mpr c3
  have c3b2 : (l0.length == l1.length) = true := by first | simpa using c3 | (simp at c3 ⊢; omega)
  clear c3
  have H' := Aside0.mk H
  clear H
  go_enter Try.func38, Try.ntmps38
  go_wp2
  repeat (go_quiet (fail); try go_wp2)
  go_loopg [5] k (fun kq v5 w' => ∃ (x5_1 : Int), v5 = .int .i64 x5_1 ∧ Aside0 (laws_sameInts.l0 kq l0 l1 x5_1 = some r) ∧ Aside0 (kq ≤ k) ∧ Drawn0 w w')
  case atStart => exact ⟨(0), (by first | rfl | (simp; done) | (simp [*]; done)), H', ⟨Nat.le_refl _⟩, by repeat (first | exact Drawn0.refl _ | apply Drawn0.step)⟩
  case round =>
   clear H'
   try clear c1
   try clear p2
   try clear c3
   try clear c3b0
   try clear c3b1
   try clear c3b2
   obtain ⟨x5_1, rfl, HA, HK1, ⟨m1, rfl⟩⟩ := hrel
   cases gk with
   | zero => exact absurd HA.out (by simp [laws_sameInts.l0])
   | succ k1 =>
    have H := HA.out
    clear HA
    simp only [laws_sameInts.l0] at H
    by_cases c4 : x5_1 < (l0.length : Int)
    ·rw [if_pos c4] at H
     have c4b0 : decide (x5_1 < (l0.length : Int)) = true := decide_eq_true c4
     clear c4
     by_cases c5 : 0 ≤ x5_1
     ·rw [if_pos c5] at H
      have c5b0 : decide (0 ≤ x5_1) = true := decide_eq_true c5
      clear c5
      by_cases c6 : x5_1 < (l1.length : Int)
      ·rw [if_pos c6] at H
       have c6b0 : decide (x5_1 < (l1.length : Int)) = true := decide_eq_true c6
       clear c6
       by_cases c7 : (rd l0 x5_1) = (rd l1 x5_1)
       ·rw [if_pos c7] at H
        have c7b0 : ((rd l0 x5_1) == (rd l1 x5_1)) = true := beq_iff_eq.mpr c7
        have c7b1 : ((rd l0 x5_1) != (rd l1 x5_1)) = false := bne_eq_false_iff_eq.mpr c7
        clear c7
        have H' := Aside0.mk H
        clear H
        have p365 : 0 ≤ (x5_1 : Int) := oda
        have q365 : x5_1 < (l0.length : Int) := oda
        obtain ⟨ad365, e365, hx365_0⟩ := Kd.at_int HR0.out x5_1 p365 q365
        cases e365
        replace p365 := eq_true p365
        replace q365 := eq_true q365
        have p366 : 0 ≤ (x5_1 : Int) := oda
        have q366 : x5_1 < (l1.length : Int) := oda
        obtain ⟨ad366, e366, hx366_0⟩ := Kd.at_int HR1.out x5_1 p366 q366
        cases e366
        replace p366 := eq_true p366
        replace q366 := eq_true q366
        go_wp2
        repeat (go_quiet (fail); try go_wp2)
        go_roundg k1
        case measure => have := HK1.out; omega
        case rel => exact ⟨(wrap64 (x5_1 + 1)), (by first | rfl | (simp; done) | (simp [*]; done)), H', ⟨by have := HK1.out; omega⟩, by repeat (first | exact Drawn0.refl _ | apply Drawn0.step)⟩
       ·rw [if_neg c7] at H
        have c7b0 : ((rd l0 x5_1) == (rd l1 x5_1)) = false := beq_eq_false_iff_ne.mpr c7
        have c7b1 : ((rd l0 x5_1) != (rd l1 x5_1)) = true := bne_iff_ne.mpr c7
        obtain rfl := Option.some.inj H
        have p365 : 0 ≤ (x5_1 : Int) := oda
        have q365 : x5_1 < (l0.length : Int) := oda
        obtain ⟨ad365, e365, hx365_0⟩ := Kd.at_int HR0.out x5_1 p365 q365
        cases e365
        replace p365 := eq_true p365
        replace q365 := eq_true q365
        have p366 : 0 ≤ (x5_1 : Int) := oda
        have q366 : x5_1 < (l1.length : Int) := oda
        obtain ⟨ad366, e366, hx366_0⟩ := Kd.at_int HR1.out x5_1 p366 q366
        cases e366
        replace p366 := eq_true p366
        replace q366 := eq_true q366
        go_wp2
        repeat (go_quiet (fail); try go_wp2)
        go_ret
        exact ⟨by first | rfl | (simp; done) | (simp [*]; done), by repeat (first | exact Drawn0.refl _ | apply Drawn0.step)⟩
      ·rw [if_neg c6] at H
       exact absurd H (by simp)
     ·rw [if_neg c5] at H
      exact absurd H (by simp)
    ·rw [if_neg c4] at H
     have c4b0 : decide (x5_1 < (l0.length : Int)) = false := decide_eq_false c4
     clear c4
     obtain rfl := Option.some.inj H
     go_wp2
     repeat (go_quiet (fail); try go_wp2)
     go_ret
     exact ⟨by first | rfl | (simp; done) | (simp [*]; done), by repeat (first | exact Drawn0.refl _ | apply Drawn0.step)⟩
 ·rw [if_neg c3] at H
  have c3b0 : ((l0.length : Int) == (l1.length : Int)) = false := beq_eq_false_iff_ne.mpr c3
  have c3b1 : ((l0.length : Int) != (l1.length : Int)) = true := bne_iff_ne.mpr c3
  have c3b2 : (l0.length == l1.length) = false := by first | simpa using c3 | (simp at c3 ⊢; omega)
  obtain rfl := Option.some.inj H
  go_enter Try.func38, Try.ntmps38
  go_wp2
  repeat (go_quiet (fail); try go_wp2)
  go_ret
  exact ⟨by first | rfl | (simp; done) | (simp [*]; done), by repeat (first | exact Drawn0.refl _ | apply Drawn0.step)⟩

end Go.Proofs.Ytlpjkeejflogjaa.QFnAfterDeaths
