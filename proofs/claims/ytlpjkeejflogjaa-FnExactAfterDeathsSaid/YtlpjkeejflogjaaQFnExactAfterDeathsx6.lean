-- Printed for this claim by a turned copy of the print (wip/myprint). Lean checks it. Squeezed. Worded. Tightened.
import Derived.Test.YtlpjkeejflogjaaQFnExactAfterDeathsx0
import Derived.Test.YtlpjkeejflogjaaQFnExactAfterDeathsx2
import Derived.Test.YtlpjkeejflogjaaQFnExactAfterDeathsx3
import Derived.Test.YtlpjkeejflogjaaQFnExactAfterDeathsx4
import Derived.Test.YtlpjkeejflogjaaQFnExactAfterDeathsx5
namespace Go.Proofs.Ytlpjkeejflogjaa.QFnExactAfterDeaths
open Go.RowKit Go.Proofs.YtlpjkeejflogjaaW.PrintWords Go.Proofs.YtlpjkeejflogjaaW.PrintLast Go.Proofs.YtlpjkeejflogjaaW.PrintMore
attribute [local go_sem] max2_int min2_int max_two min_two max_three min_three max_four min_four Opens.cell_twice   -- for this text's walks alone
set_option linter.unusedVariables false
set_option linter.unusedSimpArgs false

/-! ### impl_AfterDeaths: function 32 -/
mutual
def impl_AfterDeaths.j0 : Nat → List Int → Bool → Int → List (List Int) → List Int → Int → Option (Int × (List (List Int)) × List Int × Int × Int)
 | 0, _, _, _, _, _, _ => none
 | k + 1, x1, x16, x210000, x210001, x210002, x210003 => if x16 = true then (some (0, ([] : List (List Int)), ([] : List Int), 0, (-1))) else ((impl_copyCourt.f k x210000 x210001 x210002 x210003).bind fun bt212 => (impl_AfterDeaths.l0 k 0 x1 (x1.length : Int) 0 bt212.1 bt212.2.1 bt212.2.2.1 bt212.2.2.2))
def impl_AfterDeaths.l0 : Nat → Int → List Int → Int → Int → Int → List (List Int) → List Int → Int → Option (Int × (List (List Int)) × List Int × Int × Int)
 | 0, _, _, _, _, _, _, _, _ => none
 | k + 1, x6, x20, x21, x22, x210000, x210001, x210002, x210003 => if x22 < x21 then (if 0 ≤ x22 then (if x22 < (x20.length : Int) then ((impl_lives.f x210000 x210001 x210002 x210003 (rd x20 x22)).bind fun t221 => (if t221 = true then ((impl_afterDeath.f k x210000 x210001 x210002 x210003 (rd x20 x22)).bind fun bt222 => (impl_AfterDeaths.l0 k (wrap64 (x6 + 1)) x20 x21 (wrap64 (x22 + 1)) bt222.1 bt222.2.1 bt222.2.2.1 bt222.2.2.2)) else (impl_AfterDeaths.l0 k x6 x20 x21 (wrap64 (x22 + 1)) x210000 x210001 x210002 x210003))) else (none)) else (none)) else (some (x210000, x210001, x210002, x210003, x6))
end
def impl_AfterDeaths.f (k : Nat) (a0_0 : Int) (l0_1 : List (List Int)) (l0_2 : List Int) (a0_3 : Int) (l1 : List Int) : Option (Int × (List (List Int)) × List Int × Int × Int) := (impl_isCourt.f k a0_0 l0_1 l0_2 a0_3).bind fun t211 => (if t211 = true then (impl_AfterDeaths.j0 k l1 (decide ((l1.length : Int) > 20)) a0_0 l0_1 l0_2 a0_3) else (impl_AfterDeaths.j0 k l1 true a0_0 l0_1 l0_2 a0_3))
theorem impl_AfterDeaths.mono_l : ∀ k, (∀ y0 y1 y2 y3 y4 y5, LeO (impl_AfterDeaths.j0 k y0 y1 y2 y3 y4 y5) (impl_AfterDeaths.j0 (k + 1) y0 y1 y2 y3 y4 y5)) ∧ (∀ y0 y1 y2 y3 y4 y5 y6 y7, LeO (impl_AfterDeaths.l0 k y0 y1 y2 y3 y4 y5 y6 y7) (impl_AfterDeaths.l0 (k + 1) y0 y1 y2 y3 y4 y5 y6 y7))
 | 0 => ⟨fun _ _ _ _ _ _ r h => by simp [impl_AfterDeaths.j0] at h, fun _ _ _ _ _ _ _ _ r h => by simp [impl_AfterDeaths.l0] at h⟩
 | k + 1 => by
  obtain ⟨ih0, ih1⟩ := impl_AfterDeaths.mono_l k
  refine ⟨?_, ?_⟩
  ·intro y0 y1 y2 y3 y4 y5
   unfold impl_AfterDeaths.j0
   repeat' first
   | (with_reducible exact ih0 _ _ _ _ _ _)
   | (with_reducible exact ih1 _ _ _ _ _ _ _ _)
   | (with_reducible exact impl_afterDeath.mono _ _ _ _ _ _)
   | (with_reducible exact impl_copyCourt.mono _ _ _ _ _)
   | (with_reducible exact impl_isCourt.mono _ _ _ _ _)
   | (with_reducible exact LeO.refl _)
   | (with_reducible exact LeO.none _)
   | (with_reducible refine LeO.ite ?_ ?_)
   | (with_reducible refine LeO.bind ?_ (fun _ => ?_))
   | exact ih0 _ _ _ _ _ _
   | exact ih1 _ _ _ _ _ _ _ _
   | exact impl_afterDeath.mono _ _ _ _ _ _
   | exact impl_copyCourt.mono _ _ _ _ _
   | exact impl_isCourt.mono _ _ _ _ _
   | exact LeO.none _
   | refine LeO.ite ?_ ?_
   | refine LeO.bind ?_ (fun _ => ?_)
  ·intro y0 y1 y2 y3 y4 y5 y6 y7
   unfold impl_AfterDeaths.l0
   repeat' first
   | (with_reducible exact ih0 _ _ _ _ _ _)
   | (with_reducible exact ih1 _ _ _ _ _ _ _ _)
   | (with_reducible exact impl_afterDeath.mono _ _ _ _ _ _)
   | (with_reducible exact impl_copyCourt.mono _ _ _ _ _)
   | (with_reducible exact impl_isCourt.mono _ _ _ _ _)
   | (with_reducible exact LeO.refl _)
   | (with_reducible exact LeO.none _)
   | (with_reducible refine LeO.ite ?_ ?_)
   | (with_reducible refine LeO.bind ?_ (fun _ => ?_))
   | exact ih0 _ _ _ _ _ _
   | exact ih1 _ _ _ _ _ _ _ _
   | exact impl_afterDeath.mono _ _ _ _ _ _
   | exact impl_copyCourt.mono _ _ _ _ _
   | exact impl_isCourt.mono _ _ _ _ _
   | exact LeO.none _
   | refine LeO.ite ?_ ?_
   | refine LeO.bind ?_ (fun _ => ?_)
theorem impl_AfterDeaths.mono : ∀ a0 a1 a2 a3 a4 k, LeO (impl_AfterDeaths.f k a0 a1 a2 a3 a4) (impl_AfterDeaths.f (k + 1) a0 a1 a2 a3 a4) := by
 intro a0 a1 a2 a3 a4 k
 obtain ⟨ih0, ih1⟩ := impl_AfterDeaths.mono_l k
 unfold impl_AfterDeaths.f
 repeat' first
   | (with_reducible exact ih0 _ _ _ _ _ _)
   | (with_reducible exact ih1 _ _ _ _ _ _ _ _)
   | (with_reducible exact impl_afterDeath.mono _ _ _ _ _ _)
   | (with_reducible exact impl_copyCourt.mono _ _ _ _ _)
   | (with_reducible exact impl_isCourt.mono _ _ _ _ _)
   | (with_reducible exact LeO.refl _)
   | (with_reducible exact LeO.none _)
   | (with_reducible refine LeO.ite ?_ ?_)
   | (with_reducible refine LeO.bind ?_ (fun _ => ?_))
   | exact ih0 _ _ _ _ _ _
   | exact ih1 _ _ _ _ _ _ _ _
   | exact impl_afterDeath.mono _ _ _ _ _ _
   | exact impl_copyCourt.mono _ _ _ _ _
   | exact impl_isCourt.mono _ _ _ _ _
   | exact LeO.none _
   | refine LeO.ite ?_ ?_
   | refine LeO.bind ?_ (fun _ => ?_)
set_option maxHeartbeats 8000000 in
set_option maxRecDepth 100000 in
theorem impl_AfterDeaths.calls (k : Nat) (a0_0 : Int) (A0_1 : Option Addr) (c0_1 : Nat) (l0_1 : List (List Int)) (A0_2 : Option Addr) (c0_2 : Nat) (l0_2 : List Int) (a0_3 : Int) (A1 : Option Addr) (c1 : Nat) (l1 : List Int) (r1 : Int) (r2 : List (List Int)) (r3 : List Int) (r4 : Int) (r5 : Int) (w : World) (hr0_1 : Kd.C (Kd.slice 3 (Kd.int .i64)) w A0_1 l0_1.length l0_1) (hc0_1 : l0_1.length ≤ c0_1) (hr0_2 : Kd.C (Kd.int .i64) w A0_2 l0_2.length l0_2) (hc0_2 : l0_2.length ≤ c0_2) (hr1 : Kd.C (Kd.int .i64) w A1 l1.length l1) (hc1 : l1.length ≤ c1) (h : impl_AfterDeaths.f k a0_0 l0_1 l0_2 a0_3 l1 = some (r1, r2, r3, r4, r5)) :
  Calls Try.prog 32 #[.agg #[.int .i64 a0_0, .slice A0_1 l0_1.length c0_1, .slice A0_2 l0_2.length c0_2, .int .i64 a0_3], .slice A1 l1.length c1] w fun e w' => ∃ v1_ v2_ : Value, e = .returned (.tuple #[.agg #[.int .i64 r1, v1_, v2_, .int .i64 r4], .int .i64 r5]) ∧ Kd.S (Kd.slice 3 (Kd.int .i64)) 23 w' w.heap.size (fun k_ => some k_ ≠ (v2_ : Value).ownBlock) v1_ r2 ∧ Kd.R (Kd.int .i64) 3 w' w.heap.size (fun _ => True) v2_ r3 ∧ Below w.heap.size w w' := by
 have hu28 := Try.underlying28
 have HR0_1 := Aside0.mk hr0_1
 have HC0_1 := Aside0.mk hc0_1
 clear hr0_1 hc0_1
 have HR0_2 := Aside0.mk hr0_2
 have HC0_2 := Aside0.mk hc0_2
 clear hr0_2 hc0_2
 have HR1 := Aside0.mk hr1
 have HC1 := Aside0.mk hc1
 clear hr1 hc1
 have HB := Aside0.mk (Below.refl w.heap.size w)
 have H : ((impl_isCourt.f k a0_0 l0_1 l0_2 a0_3).bind fun t211 => (if t211 = true then (impl_AfterDeaths.j0 k l1 (decide ((l1.length : Int) > 20)) a0_0 l0_1 l0_2 a0_3) else (impl_AfterDeaths.j0 k l1 true a0_0 l0_1 l0_2 a0_3))) = some (r1, r2, r3, r4, r5) := h
 clear h
 have HC3 := Aside0.mk H
 clear H
 go_enter Try.func32, Try.ntmps32
 go_upto_region 1 with (first | ((with_reducible refine gate_dst (N := 2) rfl ?_); (try (refine gate_guard (by rfl) ?_; dsimp only)); refine box_event ?hg (N := 2) ?hd (cs := #[.int .i64 a0_0, .slice A0_1 l0_1.length c0_1, .slice A0_2 l0_2.length c0_2, .int .i64 a0_3]) (t := 28) ?hr ?_; (case hd => rfl); (case hg => rfl); (case hr => first | (go_simp; done) | (go_simp; rfl)); intro gb209 hg w4 hbox hb; have n0_ := Aside0.mk (below_step bh hb); have n1_ := Aside0.mk (hbox); have n2_ := Aside0.mk ((gs (W0 := w) hg bh)); have n3_ := Aside0.mk ((gs (W0 := w) hg bh)); clear HB; have HB := n0_; have BK209 := n1_; have GW209 := n2_; have GE209 := n3_; clear n0_ n1_ n2_ n3_ hb hbox hg) | ((with_reducible refine gate_dst (N := 4) rfl ?_); (try (refine gate_guard (by rfl) ?_; dsimp only)); refine box_event ?hg (N := 4) ?hd (cs := #[.int .i64 0, .slice none 0 0, .slice none 0 0, .int .i64 0]) (t := 28) ?hr ?_; (case hd => rfl); (case hg => rfl); (case hr => first | (go_simp; done) | (go_simp; rfl)); intro gb210 hg w5 hbox hb; have n0_ := Aside0.mk (blk_below (bz BK209) hb); have n1_ := Aside0.mk (below_step bh hb); have n2_ := Aside0.mk (hbox); have n3_ := Aside0.mk ((gs (W0 := w) hg bh)); have n4_ := Aside0.mk ((gs (W0 := w) hg bh)); have n5_ := Aside0.mk ((gn hg (bz BK209))); have n6_ := Aside0.mk ((gm hg (bz BK209))); clear BK209 HB; have BK209 := n0_; have HB := n1_; have BK210 := n2_; have GW210 := n3_; have GE210 := n4_; have NB209_210 := n5_; have NB210_209 := n6_; clear n0_ n1_ n2_ n3_ n4_ n5_ n6_ hb hbox hg))
 (try simp only [Act.put, List.setIfInBounds_toArray, List.set_cons_zero, List.set_cons_succ])
 go_cut [16] (fun v16 wc => ∃ (kq : Nat) (x16_2 : Bool), v16 = .bool x16_2 ∧ Aside0 (impl_AfterDeaths.j0 kq l1 x16_2 a0_0 l0_1 l0_2 a0_3 = some (r1, r2, r3, r4, r5)) ∧ Aside0 (kq ≤ k) ∧ Aside0 (wc.heap[gb209]? = some (.cells #[.int .i64 a0_0, (.slice A0_1 l0_1.length c0_1), (.slice A0_2 l0_2.length c0_2), .int .i64 a0_3] 28 (0, 0))) ∧ Aside0 (wc.heap[gb210]? = some (.cells #[.int .i64 0, (.slice none 0 0), (.slice none 0 0), .int .i64 0] 28 (0, 0))) ∧ Aside0 (Below w.heap.size w wc))
 case first =>
  have H := HC3.out
  clear HC3
  replace H := Option.bind_eq_some_iff.mp H
  obtain ⟨t211, A60, H⟩ := H
  replace H : (if t211 = true then (impl_AfterDeaths.j0 k l1 (decide ((l1.length : Int) > 20)) a0_0 l0_1 l0_2 a0_3) else (impl_AfterDeaths.j0 k l1 true a0_0 l0_1 l0_2 a0_3)) = some (r1, r2, r3, r4, r5) := H
  have A6 := Aside0.mk A60
  clear A60
  by_cases c7 : t211 = true
  ·subst c7
   have H1 : (impl_AfterDeaths.j0 k l1 (decide ((l1.length : Int) > 20)) a0_0 l0_1 l0_2 a0_3) = some (r1, r2, r3, r4, r5) := by rw [if_pos rfl] at H; exact H
   clear H
   have H := H1
   clear H1
   have H' := Aside0.mk H
   clear H
   have hnb8 := NB209_210.out
   have hnc8 := NB210_209.out
   have hcz9_0 := cz0 BK209
   have hcz9_1 := cz1 BK209
   have hcz9_2 := cz2 BK209
   have hcz9_3 := cz3 BK209
   have hfz9_0 := blk_frozen BK209.out 0
   have hfz9_1 := blk_frozen BK209.out 1
   have hfz9_2 := blk_frozen BK209.out 2
   have hfz9_3 := blk_frozen BK209.out 3
   go_wp2_with (first | ((with_reducible refine gate_callee (f := 54) rfl ?_); refine goesL_ (some 10) rfl rfl Try.func54 kr rfl #[.agg #[.int .i64 a0_0, .slice A0_1 l0_1.length c0_1, .slice A0_2 l0_2.length c0_2, .int .i64 a0_3]] rfl lm ?_; (with_reducible refine (impl_isCourt.calls k a0_0 _ _ l0_1 _ _ l0_2 a0_3 true _ ?side1 ?side2 ?side3 ?side4 A6.out).mono ?_); (case side1 => repeat (first | exact (Kd.C_below HR0_1.out HB.out) | (with_reducible refine Kd.C_alloc ?_ _) | (with_reducible refine Kd.C_drewN ?_ _) | (with_reducible refine Kd.C_drew ?_))); (case side2 => exact HC0_1.out); (case side3 => repeat (first | exact (Kd.C_below HR0_2.out HB.out) | (with_reducible refine Kd.C_alloc ?_ _) | (with_reducible refine Kd.C_drewN ?_ _) | (with_reducible refine Kd.C_drew ?_))); (case side4 => exact HC0_2.out); rintro e w10 ⟨rfl, hb⟩; refine ⟨_, rfl, ?_⟩; have n0_ := Aside0.mk (blk_below (bz BK209) hb); have n1_ := Aside0.mk (blk_below (bz BK210) hb); have n2_ := Aside0.mk (below_step bh hb); clear BK209 BK210 HB; have BK209 := n0_; have BK210 := n1_; have HB := n2_; clear n0_ n1_ n2_; (try clear hb); (try clear hb2); (try clear hk); (try clear hi)))
   go_meet
   case rel => exact ⟨_, (decide ((l1.length : Int) > 20)), (by first | rfl | (simp; done) | (simp [*]; done)), H', ⟨by first | omega | exact Nat.le_refl _⟩, ⟨bz BK209⟩, ⟨bz BK210⟩, ⟨by exact bh⟩⟩
  ·replace c7 := Bool.eq_false_iff.mpr c7
   subst c7
   have H1 : (impl_AfterDeaths.j0 k l1 true a0_0 l0_1 l0_2 a0_3) = some (r1, r2, r3, r4, r5) := by rw [if_neg (show ¬ (false = true) by decide)] at H; exact H
   clear H
   have H := H1
   clear H1
   have H' := Aside0.mk H
   clear H
   have hnb11 := NB209_210.out
   have hnc11 := NB210_209.out
   have hcz12_0 := cz0 BK209
   have hcz12_1 := cz1 BK209
   have hcz12_2 := cz2 BK209
   have hcz12_3 := cz3 BK209
   have hfz12_0 := blk_frozen BK209.out 0
   have hfz12_1 := blk_frozen BK209.out 1
   have hfz12_2 := blk_frozen BK209.out 2
   have hfz12_3 := blk_frozen BK209.out 3
   go_wp2_with (first | ((with_reducible refine gate_callee (f := 54) rfl ?_); refine goesL_ (some 10) rfl rfl Try.func54 kr rfl #[.agg #[.int .i64 a0_0, .slice A0_1 l0_1.length c0_1, .slice A0_2 l0_2.length c0_2, .int .i64 a0_3]] rfl lm ?_; (with_reducible refine (impl_isCourt.calls k a0_0 _ _ l0_1 _ _ l0_2 a0_3 false _ ?side1 ?side2 ?side3 ?side4 A6.out).mono ?_); (case side1 => repeat (first | exact (Kd.C_below HR0_1.out HB.out) | (with_reducible refine Kd.C_alloc ?_ _) | (with_reducible refine Kd.C_drewN ?_ _) | (with_reducible refine Kd.C_drew ?_))); (case side2 => exact HC0_1.out); (case side3 => repeat (first | exact (Kd.C_below HR0_2.out HB.out) | (with_reducible refine Kd.C_alloc ?_ _) | (with_reducible refine Kd.C_drewN ?_ _) | (with_reducible refine Kd.C_drew ?_))); (case side4 => exact HC0_2.out); rintro e w13 ⟨rfl, hb⟩; refine ⟨_, rfl, ?_⟩; have n0_ := Aside0.mk (blk_below (bz BK209) hb); have n1_ := Aside0.mk (blk_below (bz BK210) hb); have n2_ := Aside0.mk (below_step bh hb); clear BK209 BK210 HB; have BK209 := n0_; have BK210 := n1_; have HB := n2_; clear n0_ n1_ n2_; (try clear hb); (try clear hb2); (try clear hk); (try clear hi)))
   go_meet
   case rel => exact ⟨_, (true), (by first | rfl | (simp; done) | (simp [*]; done)), H', ⟨by first | omega | exact Nat.le_refl _⟩, ⟨bz BK209⟩, ⟨bz BK210⟩, ⟨by exact bh⟩⟩
 case rest =>
  clear HC3
  try clear c1
  try clear p2
  try clear c3
  try clear c5
  try clear c7
  try clear c8
  try clear c11
  try clear hcz12_0
  try clear hcz12_1
  try clear hcz12_2
  try clear hcz12_3
  try clear hcz9_0
  try clear hcz9_1
  try clear hcz9_2
  try clear hcz9_3
  try clear hfz12_0
  try clear hfz12_1
  try clear hfz12_2
  try clear hfz12_3
  try clear hfz9_0
  try clear hfz9_1
  try clear hfz9_2
  try clear hfz9_3
  obtain ⟨kq, x16_2, rfl, HA, HJ2, BK209, BK210, HB⟩ := hcut
  cases kq with
  | zero => exact absurd HA.out (by simp [impl_AfterDeaths.j0])
  | succ kj2 =>
   have H := HA.out
   clear HA
   simp only [impl_AfterDeaths.j0] at H
   by_cases c14 : x16_2 = true
   ·subst c14
    have H1 : (some (0, ([] : List (List Int)), ([] : List Int), 0, (-1))) = some (r1, r2, r3, r4, r5) := by rw [if_pos rfl] at H; exact H
    clear H
    have H := H1
    clear H1
    simp only [Option.some.injEq, Prod.mk.injEq] at H
    obtain ⟨rfl, rfl, rfl, rfl, rfl⟩ := H
    have hnb15 := NB210_209.out
    have hnc15 := NB209_210.out
    have hcz16_0 := cz0 BK210
    have hcz16_1 := cz1 BK210
    have hcz16_2 := cz2 BK210
    have hcz16_3 := cz3 BK210
    have hfz16_0 := blk_frozen BK210.out 0
    have hfz16_1 := blk_frozen BK210.out 1
    have hfz16_2 := blk_frozen BK210.out 2
    have hfz16_3 := blk_frozen BK210.out 3
    go_wp2
    refine bodyPost_ret (results_ct rfl _ _ gb210 28 #[.int .i64 0, .slice none 0 0, .slice none 0 0, .int .i64 0] (0, 0) _ rfl (bp BK210) Try.underlying28 rfl kr) rfl ?_
    exact ⟨_, _, by first | rfl | (simp [errW_none, errW_some] <;> rfl) | (simp [*, errW_none, errW_some] <;> rfl), by first | exact Kd.S_nil _ _ _ _ _ | exact Kd.N_nil _ _ _ _ _ | exact Kd.V_nil _ _ _ _ _ | exact Kd.Q_nil _ _ _ _ _ | exact Kd.R_nil _ _ _ _ _, by first | exact Kd.R_nil _ _ _ _ _ | exact Kd.N_nil _ _ _ _ _ | exact Kd.V_nil _ _ _ _ _ | exact Kd.Q_nil _ _ _ _ _ | exact Kd.S_nil _ _ _ _ _, by exact bh⟩
   ·replace c14 := Bool.eq_false_iff.mpr c14
    subst c14
    have H1 : ((impl_copyCourt.f kj2 a0_0 l0_1 l0_2 a0_3).bind fun bt212 => (impl_AfterDeaths.l0 kj2 0 l1 (l1.length : Int) 0 bt212.1 bt212.2.1 bt212.2.2.1 bt212.2.2.2)) = some (r1, r2, r3, r4, r5) := by rw [if_neg (show ¬ (false = true) by decide)] at H; exact H
    clear H
    have H := H1
    clear H1
    replace H := Option.bind_eq_some_iff.mp H
    obtain ⟨⟨t212, t213, t216, t219⟩, A170, H⟩ := H
    replace H : (impl_AfterDeaths.l0 kj2 0 l1 (l1.length : Int) 0 t212 t213 t216 t219) = some (r1, r2, r3, r4, r5) := H
    have A17 := Aside0.mk A170
    clear A170
    have H' := Aside0.mk H
    clear H
    have hnb18 := NB209_210.out
    have hnc18 := NB210_209.out
    have hcz19_0 := cz0 BK209
    have hcz19_1 := cz1 BK209
    have hcz19_2 := cz2 BK209
    have hcz19_3 := cz3 BK209
    have hfz19_0 := blk_frozen BK209.out 0
    have hfz19_1 := blk_frozen BK209.out 1
    have hfz19_2 := blk_frozen BK209.out 2
    have hfz19_3 := blk_frozen BK209.out 3
    go_wp2_with (first | ((with_reducible refine gate_callee (f := 63) rfl ?_); refine goesL_ (some 19) rfl rfl Try.func63 kr rfl #[.agg #[.int .i64 a0_0, .slice A0_1 l0_1.length c0_1, .slice A0_2 l0_2.length c0_2, .int .i64 a0_3]] rfl lm ?_; (with_reducible refine (impl_copyCourt.calls kj2 a0_0 _ _ l0_1 _ _ l0_2 a0_3 t212 t213 t216 t219 _ ?side1 ?side2 ?side3 ?side4 A17.out).mono ?_); (case side1 => repeat (first | exact (Kd.C_below HR0_1.out HB.out) | (with_reducible refine Kd.C_alloc ?_ _) | (with_reducible refine Kd.C_drewN ?_ _) | (with_reducible refine Kd.C_drew ?_))); (case side2 => exact HC0_1.out); (case side3 => repeat (first | exact (Kd.C_below HR0_2.out HB.out) | (with_reducible refine Kd.C_alloc ?_ _) | (with_reducible refine Kd.C_drewN ?_ _) | (with_reducible refine Kd.C_drew ?_))); (case side4 => exact HC0_2.out); rintro e w20 ⟨v214, v217, rfl, ho0, ho1, hb⟩; refine ⟨_, rfl, ?_⟩; have n0_ := Aside0.mk (Kd.S_lower ho0 (below_size bh)); have n1_ := Aside0.mk (Kd.R_lower ho1 (below_size bh)); have n2_ := Aside0.mk (blk_below (bz BK209) hb); have n3_ := Aside0.mk (blk_below (bz BK210) hb); have n4_ := Aside0.mk (below_step bh hb); clear BK209 BK210 HB; have HO215 := n0_; have HO218 := n1_; have BK209 := n2_; have BK210 := n3_; have HB := n4_; clear n0_ n1_ n2_ n3_ n4_; (try clear hb); (try clear hb2); (try clear hk); (try clear hi); (try clear ho0); (try clear ho1); have hcz21_0 := cz0 BK209; have hcz21_1 := cz1 BK209; have hcz21_2 := cz2 BK209; have hcz21_3 := cz3 BK209; have hfz21_0 := blk_frozen BK209.out 0; have hfz21_1 := blk_frozen BK209.out 1; have hfz21_2 := blk_frozen BK209.out 2; have hfz21_3 := blk_frozen BK209.out 3; obtain ⟨Ao22, co22, eo22⟩ := Kd.S_slice HO215.out; subst eo22; obtain ⟨Ao23, co23, eo23⟩ := Kd.R_slice HO218.out; subst eo23))
    go_loopg [6, 22] kj2 (fun kq v6 v22 w' => ∃ (x6_2 : Int) (x22_2 : Int) (x210000_2 : Int) (x210001_2 : List (List Int)) (x210002_2 : List Int) (x210003_2 : Int) (u210001 : Value) (u210002 : Value), v6 = .int .i64 x6_2 ∧ v22 = .int .i64 x22_2 ∧ Aside0 (impl_AfterDeaths.l0 kq x6_2 l1 (l1.length : Int) x22_2 x210000_2 x210001_2 x210002_2 x210003_2 = some (r1, r2, r3, r4, r5)) ∧ Aside0 (kq ≤ kj2) ∧ Aside0 (Kd.S (Kd.slice 3 (Kd.int .i64)) 23 w' w.heap.size (fun k_ => some k_ ≠ (u210002 : Value).ownBlock) u210001 x210001_2) ∧ Aside0 (Kd.R (Kd.int .i64) 3 w' w.heap.size (fun _ => True) u210002 x210002_2) ∧ Aside0 (w'.heap[gb209]? = some (.cells #[.int .i64 x210000_2, u210001, u210002, .int .i64 x210003_2] 28 (0, 0))) ∧ Aside0 (w'.heap[gb210]? = some (.cells #[.int .i64 0, (.slice none 0 0), (.slice none 0 0), .int .i64 0] 28 (0, 0))) ∧ Aside0 (Below w.heap.size w w'))
    case atStart => exact ⟨(0), (0), (t212), (t213), (t216), (t219), (.slice Ao22 t213.length co22), (.slice Ao23 t216.length co23), (by first | rfl | (simp; done) | (simp [*]; done)), (by first | rfl | (simp; done) | (simp [*]; done)), H', ⟨Nat.le_refl _⟩, ⟨gS HO215 BK209⟩, ⟨gR HO218 BK209⟩, ⟨bp BK209⟩, ⟨bf NB210_209 BK210⟩, ⟨by exact bh⟩⟩
    case round =>
     clear H'
     try clear c1
     try clear p2
     try clear c3
     try clear c5
     try clear c6
     try clear c7
     try clear c8
     try clear c11
     try clear c14
     try clear c15
     try clear c18
     try clear hcz12_0
     try clear hcz12_1
     try clear hcz12_2
     try clear hcz12_3
     try clear hcz16_0
     try clear hcz16_1
     try clear hcz16_2
     try clear hcz16_3
     try clear hcz19_0
     try clear hcz19_1
     try clear hcz19_2
     try clear hcz19_3
     try clear hcz21_0
     try clear hcz21_1
     try clear hcz21_2
     try clear hcz21_3
     try clear hcz9_0
     try clear hcz9_1
     try clear hcz9_2
     try clear hcz9_3
     try clear hfz12_0
     try clear hfz12_1
     try clear hfz12_2
     try clear hfz12_3
     try clear hfz16_0
     try clear hfz16_1
     try clear hfz16_2
     try clear hfz16_3
     try clear hfz19_0
     try clear hfz19_1
     try clear hfz19_2
     try clear hfz19_3
     try clear hfz21_0
     try clear hfz21_1
     try clear hfz21_2
     try clear hfz21_3
     try clear hfz9_0
     try clear hfz9_1
     try clear hfz9_2
     try clear hfz9_3
     try clear p2
     obtain ⟨x6_2, x22_2, x210000_2, x210001_2, x210002_2, x210003_2, u210001, u210002, rfl, rfl, HA, HK2, HO_210001, HO_210002, BK209, BK210, HB⟩ := hrel
     cases gk with
     | zero => exact absurd HA.out (by simp [impl_AfterDeaths.l0])
     | succ k2 =>
      have H := HA.out
      clear HA
      simp only [impl_AfterDeaths.l0] at H
      by_cases c24 : x22_2 < (l1.length : Int)
      ·rw [if_pos c24] at H
       have c24b0 : decide (x22_2 < (l1.length : Int)) = true := decide_eq_true c24
       clear c24
       by_cases c25 : 0 ≤ x22_2
       ·rw [if_pos c25] at H
        have c25b0 : decide (0 ≤ x22_2) = true := decide_eq_true c25
        clear c25
        by_cases c26 : x22_2 < (l1.length : Int)
        ·rw [if_pos c26] at H
         have c26b0 : decide (x22_2 < (l1.length : Int)) = true := decide_eq_true c26
         clear c26
         replace H := Option.bind_eq_some_iff.mp H
         obtain ⟨t221, A270, H⟩ := H
         replace H : (if t221 = true then ((impl_afterDeath.f k2 x210000_2 x210001_2 x210002_2 x210003_2 (rd l1 x22_2)).bind fun bt222 => (impl_AfterDeaths.l0 k2 (wrap64 (x6_2 + 1)) l1 (l1.length : Int) (wrap64 (x22_2 + 1)) bt222.1 bt222.2.1 bt222.2.2.1 bt222.2.2.2)) else (impl_AfterDeaths.l0 k2 x6_2 l1 (l1.length : Int) (wrap64 (x22_2 + 1)) x210000_2 x210001_2 x210002_2 x210003_2)) = some (r1, r2, r3, r4, r5) := H
         have A27 := Aside0.mk A270
         clear A270
         by_cases c28 : t221 = true
         ·subst c28
          have H1 : ((impl_afterDeath.f k2 x210000_2 x210001_2 x210002_2 x210003_2 (rd l1 x22_2)).bind fun bt222 => (impl_AfterDeaths.l0 k2 (wrap64 (x6_2 + 1)) l1 (l1.length : Int) (wrap64 (x22_2 + 1)) bt222.1 bt222.2.1 bt222.2.2.1 bt222.2.2.2)) = some (r1, r2, r3, r4, r5) := by rw [if_pos rfl] at H; exact H
          clear H
          have H := H1
          clear H1
          replace H := Option.bind_eq_some_iff.mp H
          obtain ⟨⟨t222, t223, t226, t229⟩, A290, H⟩ := H
          replace H : (impl_AfterDeaths.l0 k2 (wrap64 (x6_2 + 1)) l1 (l1.length : Int) (wrap64 (x22_2 + 1)) t222 t223 t226 t229) = some (r1, r2, r3, r4, r5) := H
          have A29 := Aside0.mk A290
          clear A290
          have H' := Aside0.mk H
          clear H
          have p220 : 0 ≤ (x22_2 : Int) := oda
          have q220 : x22_2 < (l1.length : Int) := oda
          obtain ⟨ad220, e220, hx220_0⟩ := Kd.at_int HR1.out x22_2 p220 q220
          cases e220
          replace hx220_0 := (HB.out.cell (World.block_lt_of_cell? w _ hx220_0)).trans hx220_0
          replace p220 := eq_true p220
          replace q220 := eq_true q220
          have hnb30 := NB209_210.out
          have hnc30 := NB210_209.out
          have hcz31_0 := cz0 BK209
          have hcz31_1 := cz1 BK209
          have hcz31_2 := cz2 BK209
          have hcz31_3 := cz3 BK209
          have hfz31_0 := blk_frozen BK209.out 0
          have hfz31_1 := blk_frozen BK209.out 1
          have hfz31_2 := blk_frozen BK209.out 2
          have hfz31_3 := blk_frozen BK209.out 3
          obtain ⟨Ao32, co32, eo32⟩ := Kd.S_slice HO_210001.out
          subst eo32
          obtain ⟨Ao33, co33, eo33⟩ := Kd.R_slice HO_210002.out
          subst eo33
          go_wp2_with (first | ((with_reducible refine gate_callee (f := 64) rfl ?_); refine goesL_ (some 28) rfl rfl Try.func64 kr rfl #[.agg #[.int .i64 x210000_2, .slice Ao32 x210001_2.length co32, .slice Ao33 x210002_2.length co33, .int .i64 x210003_2], .int .i64 (rd l1 x22_2)] rfl lm ?_; (with_reducible refine (impl_lives.calls x210000_2 _ _ x210001_2 _ _ x210002_2 x210003_2 (rd l1 x22_2) true _ ?side1 ?side2 ?side3 ?side4 A27.out).mono ?_); (case side1 => repeat (first | exact (Kd.S_reads' HO_210001.out).2.2 | (with_reducible refine Kd.C_alloc ?_ _) | (with_reducible refine Kd.C_drewN ?_ _) | (with_reducible refine Kd.C_drew ?_))); (case side2 => exact (Kd.S_reads' HO_210001.out).2.1); (case side3 => repeat (first | exact (Kd.R_reads' HO_210002.out).2.2 | (with_reducible refine Kd.C_alloc ?_ _) | (with_reducible refine Kd.C_drewN ?_ _) | (with_reducible refine Kd.C_drew ?_))); (case side4 => exact (Kd.R_reads' HO_210002.out).2.1); rintro e w34 ⟨rfl, hb⟩; refine ⟨_, rfl, ?_⟩; have n0_ := Aside0.mk (Kd.S_below (sz HO_210001) hb); have n1_ := Aside0.mk (Kd.R_below (rz HO_210002) hb); have n2_ := Aside0.mk (blk_below (bz BK209) hb); have n3_ := Aside0.mk (blk_below (bz BK210) hb); have n4_ := Aside0.mk (below_step bh hb); clear HO_210001 HO_210002 BK209 BK210 HB; have HO_210001 := n0_; have HO_210002 := n1_; have BK209 := n2_; have BK210 := n3_; have HB := n4_; clear n0_ n1_ n2_ n3_ n4_; (try clear hb); (try clear hb2); (try clear hk); (try clear hi); have hcz35_0 := cz0 BK209; have hcz35_1 := cz1 BK209; have hcz35_2 := cz2 BK209; have hcz35_3 := cz3 BK209; have hfz35_0 := blk_frozen BK209.out 0; have hfz35_1 := blk_frozen BK209.out 1; have hfz35_2 := blk_frozen BK209.out 2; have hfz35_3 := blk_frozen BK209.out 3) | ((with_reducible refine gate_callee (f := 65) rfl ?_); refine goesL_ (some 31) rfl rfl Try.func65 kr rfl #[.agg #[.int .i64 x210000_2, .slice Ao32 x210001_2.length co32, .slice Ao33 x210002_2.length co33, .int .i64 x210003_2], .int .i64 (rd l1 x22_2)] rfl lm ?_; (with_reducible refine (impl_afterDeath.calls k2 x210000_2 _ _ x210001_2 _ _ x210002_2 x210003_2 (rd l1 x22_2) t222 t223 t226 t229 _ ?side1 ?side2 ?side3 ?side4 A29.out).mono ?_); (case side1 => repeat (first | exact (Kd.S_reads' HO_210001.out).2.2 | (with_reducible refine Kd.C_alloc ?_ _) | (with_reducible refine Kd.C_drewN ?_ _) | (with_reducible refine Kd.C_drew ?_))); (case side2 => exact (Kd.S_reads' HO_210001.out).2.1); (case side3 => repeat (first | exact (Kd.R_reads' HO_210002.out).2.2 | (with_reducible refine Kd.C_alloc ?_ _) | (with_reducible refine Kd.C_drewN ?_ _) | (with_reducible refine Kd.C_drew ?_))); (case side4 => exact (Kd.R_reads' HO_210002.out).2.1); rintro e w36 ⟨v224, v227, rfl, ho0, ho1, hb⟩; refine ⟨_, rfl, ?_⟩; have n0_ := Aside0.mk (Kd.S_mono (Kd.S_told (Kd.S_told (Kd.S_old (sz HO_210001) hb) (Kd.S_base ho0)) (Kd.R_base ho1)) (fun _ h_ => h_.1)); have n1_ := Aside0.mk (Kd.R_elder' (rz HO_210002) (Kd.R_base ho1) hb); have n2_ := Aside0.mk (Kd.S_lower (Kd.S_new' (Kd.S_new' ho0 (Kd.S_lt (sz HO_210001))) (Kd.R_lt (rz HO_210002))) (below_size bh)); have n3_ := Aside0.mk (Kd.R_lower (Kd.R_new' ho1 (Kd.R_lt (rz HO_210002))) (below_size bh)); have n4_ := Aside0.mk (blk_below (bz BK209) hb); have n5_ := Aside0.mk (blk_below (bz BK210) hb); have n6_ := Aside0.mk (below_step bh hb); clear HO_210001 HO_210002 BK209 BK210 HB; have HO_210001 := n0_; have HO_210002 := n1_; have HO225 := n2_; have HO228 := n3_; have BK209 := n4_; have BK210 := n5_; have HB := n6_; clear n0_ n1_ n2_ n3_ n4_ n5_ n6_; (try clear hb); (try clear hb2); (try clear hk); (try clear hi); (try clear ho0); (try clear ho1); have hcz37_0 := cz0 BK209; have hcz37_1 := cz1 BK209; have hcz37_2 := cz2 BK209; have hcz37_3 := cz3 BK209; have hfz37_0 := blk_frozen BK209.out 0; have hfz37_1 := blk_frozen BK209.out 1; have hfz37_2 := blk_frozen BK209.out 2; have hfz37_3 := blk_frozen BK209.out 3; obtain ⟨Ao38, co38, eo38⟩ := Kd.S_slice HO225.out; subst eo38; obtain ⟨Ao39, co39, eo39⟩ := Kd.R_slice HO228.out; subst eo39))
          go_roundg k2
          case measure => have := HJ2.out; have := HK2.out; omega
          case rel => exact ⟨(wrap64 (x6_2 + 1)), (wrap64 (x22_2 + 1)), (t222), (t223), (t226), (t229), (.slice Ao38 t223.length co38), (.slice Ao39 t226.length co39), (by first | rfl | (simp; done) | (simp [*]; done)), (by first | rfl | (simp; done) | (simp [*]; done)), H', ⟨by have := HJ2.out; have := HK2.out; omega⟩, ⟨gS HO225 BK209⟩, ⟨gR HO228 BK209⟩, ⟨bp BK209⟩, ⟨bf NB210_209 BK210⟩, ⟨by exact bh⟩⟩
         ·replace c28 := Bool.eq_false_iff.mpr c28
          subst c28
          have H1 : (impl_AfterDeaths.l0 k2 x6_2 l1 (l1.length : Int) (wrap64 (x22_2 + 1)) x210000_2 x210001_2 x210002_2 x210003_2) = some (r1, r2, r3, r4, r5) := by rw [if_neg (show ¬ (false = true) by decide)] at H; exact H
          clear H
          have H := H1
          clear H1
          have H' := Aside0.mk H
          clear H
          have p220 : 0 ≤ (x22_2 : Int) := oda
          have q220 : x22_2 < (l1.length : Int) := oda
          obtain ⟨ad220, e220, hx220_0⟩ := Kd.at_int HR1.out x22_2 p220 q220
          cases e220
          replace hx220_0 := (HB.out.cell (World.block_lt_of_cell? w _ hx220_0)).trans hx220_0
          replace p220 := eq_true p220
          replace q220 := eq_true q220
          have hnb40 := NB209_210.out
          have hnc40 := NB210_209.out
          have hcz41_0 := cz0 BK209
          have hcz41_1 := cz1 BK209
          have hcz41_2 := cz2 BK209
          have hcz41_3 := cz3 BK209
          have hfz41_0 := blk_frozen BK209.out 0
          have hfz41_1 := blk_frozen BK209.out 1
          have hfz41_2 := blk_frozen BK209.out 2
          have hfz41_3 := blk_frozen BK209.out 3
          obtain ⟨Ao42, co42, eo42⟩ := Kd.S_slice HO_210001.out
          subst eo42
          obtain ⟨Ao43, co43, eo43⟩ := Kd.R_slice HO_210002.out
          subst eo43
          go_wp2_with (first | ((with_reducible refine gate_callee (f := 64) rfl ?_); refine goesL_ (some 28) rfl rfl Try.func64 kr rfl #[.agg #[.int .i64 x210000_2, .slice Ao42 x210001_2.length co42, .slice Ao43 x210002_2.length co43, .int .i64 x210003_2], .int .i64 (rd l1 x22_2)] rfl lm ?_; (with_reducible refine (impl_lives.calls x210000_2 _ _ x210001_2 _ _ x210002_2 x210003_2 (rd l1 x22_2) false _ ?side1 ?side2 ?side3 ?side4 A27.out).mono ?_); (case side1 => repeat (first | exact (Kd.S_reads' HO_210001.out).2.2 | (with_reducible refine Kd.C_alloc ?_ _) | (with_reducible refine Kd.C_drewN ?_ _) | (with_reducible refine Kd.C_drew ?_))); (case side2 => exact (Kd.S_reads' HO_210001.out).2.1); (case side3 => repeat (first | exact (Kd.R_reads' HO_210002.out).2.2 | (with_reducible refine Kd.C_alloc ?_ _) | (with_reducible refine Kd.C_drewN ?_ _) | (with_reducible refine Kd.C_drew ?_))); (case side4 => exact (Kd.R_reads' HO_210002.out).2.1); rintro e w44 ⟨rfl, hb⟩; refine ⟨_, rfl, ?_⟩; have n0_ := Aside0.mk (Kd.S_below (sz HO_210001) hb); have n1_ := Aside0.mk (Kd.R_below (rz HO_210002) hb); have n2_ := Aside0.mk (blk_below (bz BK209) hb); have n3_ := Aside0.mk (blk_below (bz BK210) hb); have n4_ := Aside0.mk (below_step bh hb); clear HO_210001 HO_210002 BK209 BK210 HB; have HO_210001 := n0_; have HO_210002 := n1_; have BK209 := n2_; have BK210 := n3_; have HB := n4_; clear n0_ n1_ n2_ n3_ n4_; (try clear hb); (try clear hb2); (try clear hk); (try clear hi)))
          go_roundg k2
          case measure => have := HJ2.out; have := HK2.out; omega
          case rel => exact ⟨(x6_2), (wrap64 (x22_2 + 1)), (x210000_2), (x210001_2), (x210002_2), (x210003_2), (.slice Ao42 x210001_2.length co42), (.slice Ao43 x210002_2.length co43), (by first | rfl | (simp; done) | (simp [*]; done)), (by first | rfl | (simp; done) | (simp [*]; done)), H', ⟨by have := HJ2.out; have := HK2.out; omega⟩, ⟨sz HO_210001⟩, ⟨rz HO_210002⟩, ⟨bz BK209⟩, ⟨bz BK210⟩, ⟨by exact bh⟩⟩
        ·rw [if_neg c26] at H
         exact absurd H (by simp)
       ·rw [if_neg c25] at H
        exact absurd H (by simp)
      ·rw [if_neg c24] at H
       have c24b0 : decide (x22_2 < (l1.length : Int)) = false := decide_eq_false c24
       clear c24
       simp only [Option.some.injEq, Prod.mk.injEq] at H
       obtain ⟨rfl, rfl, rfl, rfl, rfl⟩ := H
       have hnb45 := NB209_210.out
       have hnc45 := NB210_209.out
       have hcz46_0 := cz0 BK209
       have hcz46_1 := cz1 BK209
       have hcz46_2 := cz2 BK209
       have hcz46_3 := cz3 BK209
       have hfz46_0 := blk_frozen BK209.out 0
       have hfz46_1 := blk_frozen BK209.out 1
       have hfz46_2 := blk_frozen BK209.out 2
       have hfz46_3 := blk_frozen BK209.out 3
       have hcz47_0 := cz0 BK210
       have hcz47_1 := cz1 BK210
       have hcz47_2 := cz2 BK210
       have hcz47_3 := cz3 BK210
       have hfz47_0 := blk_frozen BK210.out 0
       have hfz47_1 := blk_frozen BK210.out 1
       have hfz47_2 := blk_frozen BK210.out 2
       have hfz47_3 := blk_frozen BK210.out 3
       obtain ⟨Ao48, co48, eo48⟩ := Kd.S_slice HO_210001.out
       subst eo48
       obtain ⟨Ao49, co49, eo49⟩ := Kd.R_slice HO_210002.out
       subst eo49
       go_wp2
       refine bodyPost_ret (results_ct rfl _ _ gb210 28 #[.int .i64 x210000_2, .slice Ao48 x210001_2.length co48, .slice Ao49 x210002_2.length co49, .int .i64 x210003_2] (0, 0) _ rfl (bp BK210) Try.underlying28 rfl kr) rfl ?_
       exact ⟨_, _, by first | rfl | (simp [errW_none, errW_some] <;> rfl) | (simp [*, errW_none, errW_some] <;> rfl), by (with_reducible repeat (first | apply Kd.S_alloc | apply Kd.S_drewN | apply Kd.S_drew)); exact Kd.S_mono (Kd.S_far (p := ⟨gb210, 3, none⟩) (Kd.S_far (p := ⟨gb210, 2, none⟩) (Kd.S_far (p := ⟨gb210, 1, none⟩) (Kd.S_far (p := ⟨gb210, 0, none⟩) (Kd.S_types HO_210001.out BK210.out (by decide)) (fun _ hk => hk.2) (.int .i64 x210000_2)) (fun _ hk => hk.2) (.slice Ao48 x210001_2.length co48)) (fun _ hk => hk.2) (.slice Ao49 x210002_2.length co49)) (fun _ hk => hk.2) (.int .i64 x210003_2)) (fun _ hk => hk.1), by (with_reducible repeat (first | apply Kd.R_alloc | apply Kd.R_drewN | apply Kd.R_drew)); exact Kd.R_mono (Kd.R_far (p := ⟨gb210, 3, none⟩) (Kd.R_far (p := ⟨gb210, 2, none⟩) (Kd.R_far (p := ⟨gb210, 1, none⟩) (Kd.R_far (p := ⟨gb210, 0, none⟩) (Kd.R_types HO_210002.out BK210.out (by decide)) (fun _ hk => hk.2) (.int .i64 x210000_2)) (fun _ hk => hk.2) (.slice Ao48 x210001_2.length co48)) (fun _ hk => hk.2) (.slice Ao49 x210002_2.length co49)) (fun _ hk => hk.2) (.int .i64 x210003_2)) (fun _ hk => trivial), by exact bh⟩

/-! ### laws_heldIntS: function 30 -/
def laws_heldIntS.l0 : Nat → List Int → Int → Int → Option (Int)
 | 0, _, _, _ => none
 | k + 1, x0, x1, x5 => if x5 < (x0.length : Int) then (if 0 ≤ x5 then (if (rd x0 x5) = x1 then (laws_heldIntS.l0 k x0 (wrap64 (x1 + 1)) (wrap64 (x5 + 1))) else (some (-1))) else (none)) else (some x1)
def laws_heldIntS.f (k : Nat) (l0 : List Int) (a1 : Int) : Option (Int) := laws_heldIntS.l0 k l0 a1 0
theorem laws_heldIntS.mono_l : ∀ k, (∀ y0 y1 y2, LeO (laws_heldIntS.l0 k y0 y1 y2) (laws_heldIntS.l0 (k + 1) y0 y1 y2))
 | 0 => fun _ _ _ r h => by simp [laws_heldIntS.l0] at h
 | k + 1 => by
  have ih0 := laws_heldIntS.mono_l k
  ·intro y0 y1 y2
   unfold laws_heldIntS.l0
   repeat' first
   | (with_reducible exact ih0 _ _ _)
   | (with_reducible exact LeO.refl _)
   | (with_reducible exact LeO.none _)
   | (with_reducible refine LeO.ite ?_ ?_)
   | (with_reducible refine LeO.bind ?_ (fun _ => ?_))
   | exact ih0 _ _ _
   | exact LeO.none _
   | refine LeO.ite ?_ ?_
   | refine LeO.bind ?_ (fun _ => ?_)
theorem laws_heldIntS.mono : ∀ a0 a1 k, LeO (laws_heldIntS.f k a0 a1) (laws_heldIntS.f (k + 1) a0 a1) := by
 intro a0 a1 k
 have ih0 := laws_heldIntS.mono_l k
 unfold laws_heldIntS.f
 repeat' first
   | (with_reducible exact ih0 _ _ _)
   | (with_reducible exact LeO.refl _)
   | (with_reducible exact LeO.none _)
   | (with_reducible refine LeO.ite ?_ ?_)
   | (with_reducible refine LeO.bind ?_ (fun _ => ?_))
   | exact ih0 _ _ _
   | exact LeO.none _
   | refine LeO.ite ?_ ?_
   | refine LeO.bind ?_ (fun _ => ?_)
set_option maxHeartbeats 8000000 in
set_option maxRecDepth 100000 in
theorem laws_heldIntS.calls (k : Nat) (A0 : Option Addr) (c0 : Nat) (l0 : List Int) (a1 : Int) (r : Int) (w : World) (hr0 : Kd.C (Kd.int .i64) w A0 l0.length l0) (hc0 : l0.length ≤ c0) (h : laws_heldIntS.f k l0 a1 = some r) :
  Calls Try.prog 30 #[.slice A0 l0.length c0, .int .i64 a1] w fun e w' => e = .returned (.int .i64 r) ∧ Drawn0 w w' := by
 have HR0 := Aside0.mk hr0
 have HC0 := Aside0.mk hc0
 clear hr0 hc0
 have H : (laws_heldIntS.l0 k l0 a1 0) = some r := h
 clear h
 have H' := Aside0.mk H
 clear H
 go_enter Try.func30, Try.ntmps30
 go_wp2
 go_loopg [1, 5] k (fun kq v1 v5 w' => ∃ (x1_1 : Int) (x5_1 : Int), v1 = .int .i64 x1_1 ∧ v5 = .int .i64 x5_1 ∧ Aside0 (laws_heldIntS.l0 kq l0 x1_1 x5_1 = some r) ∧ Aside0 (kq ≤ k) ∧ Drawn0 w w')
 case atStart => exact ⟨(a1), (0), (by first | rfl | (simp; done) | (simp [*]; done)), (by first | rfl | (simp; done) | (simp [*]; done)), H', ⟨Nat.le_refl _⟩, by repeat (first | exact Drawn0.refl _ | apply Drawn0.step)⟩
 case round =>
  clear H'
  try clear p2
  obtain ⟨x1_1, x5_1, rfl, rfl, HA, HK1, ⟨m1, rfl⟩⟩ := hrel
  cases gk with
  | zero => exact absurd HA.out (by simp [laws_heldIntS.l0])
  | succ k1 =>
   have H := HA.out
   clear HA
   simp only [laws_heldIntS.l0] at H
   by_cases c3 : x5_1 < (l0.length : Int)
   ·rw [if_pos c3] at H
    have c3b0 : decide (x5_1 < (l0.length : Int)) = true := decide_eq_true c3
    clear c3
    by_cases c4 : 0 ≤ x5_1
    ·rw [if_pos c4] at H
     have c4b0 : decide (0 ≤ x5_1) = true := decide_eq_true c4
     clear c4
     by_cases c5 : (rd l0 x5_1) = x1_1
     ·rw [if_pos c5] at H
      have c5b0 : ((rd l0 x5_1) == x1_1) = true := beq_iff_eq.mpr c5
      have c5b1 : ((rd l0 x5_1) != x1_1) = false := bne_eq_false_iff_eq.mpr c5
      clear c5
      have H' := Aside0.mk H
      clear H
      have p230 : 0 ≤ (x5_1 : Int) := oda
      have q230 : x5_1 < (l0.length : Int) := oda
      obtain ⟨ad230, e230, hx230_0⟩ := Kd.at_int HR0.out x5_1 p230 q230
      cases e230
      replace p230 := eq_true p230
      replace q230 := eq_true q230
      go_wp2
      go_roundg k1
      case measure => have := HK1.out; omega
      case rel => exact ⟨(wrap64 (x1_1 + 1)), (wrap64 (x5_1 + 1)), (by first | rfl | (simp; done) | (simp [*]; done)), (by first | rfl | (simp; done) | (simp [*]; done)), H', ⟨by have := HK1.out; omega⟩, by repeat (first | exact Drawn0.refl _ | apply Drawn0.step)⟩
     ·rw [if_neg c5] at H
      have c5b0 : ((rd l0 x5_1) == x1_1) = false := beq_eq_false_iff_ne.mpr c5
      have c5b1 : ((rd l0 x5_1) != x1_1) = true := bne_iff_ne.mpr c5
      obtain rfl := Option.some.inj H
      have p230 : 0 ≤ (x5_1 : Int) := oda
      have q230 : x5_1 < (l0.length : Int) := oda
      obtain ⟨ad230, e230, hx230_0⟩ := Kd.at_int HR0.out x5_1 p230 q230
      cases e230
      replace p230 := eq_true p230
      replace q230 := eq_true q230
      go_wp2
      go_ret
      exact ⟨by first | rfl | (simp; done) | (simp [*]; done), by repeat (first | exact Drawn0.refl _ | apply Drawn0.step)⟩
    ·rw [if_neg c4] at H
     exact absurd H (by simp)
   ·rw [if_neg c3] at H
    have c3b0 : decide (x5_1 < (l0.length : Int)) = false := decide_eq_false c3
    clear c3
    obtain rfl := Option.some.inj H
    go_wp2
    go_ret
    exact ⟨by first | rfl | (simp; done) | (simp [*]; done), by repeat (first | exact Drawn0.refl _ | apply Drawn0.step)⟩

/-! ### laws_heldIntSS: function 70 -/
def laws_heldIntSS.l0 : Nat → List (List Int) → Int → Int → Option (Int)
 | 0, _, _, _ => none
 | k + 1, x0, x1, x5 => if x5 < (x0.length : Int) then (if 0 ≤ x5 then ((laws_heldIntS.f k (rd_L1 x0 x5) x1).bind fun t232 => (if t232 < 0 then (some (-1)) else (laws_heldIntSS.l0 k x0 t232 (wrap64 (x5 + 1))))) else (none)) else (some x1)
def laws_heldIntSS.f (k : Nat) (l0 : List (List Int)) (a1 : Int) : Option (Int) := laws_heldIntSS.l0 k l0 a1 0
theorem laws_heldIntSS.mono_l : ∀ k, (∀ y0 y1 y2, LeO (laws_heldIntSS.l0 k y0 y1 y2) (laws_heldIntSS.l0 (k + 1) y0 y1 y2))
 | 0 => fun _ _ _ r h => by simp [laws_heldIntSS.l0] at h
 | k + 1 => by
  have ih0 := laws_heldIntSS.mono_l k
  ·intro y0 y1 y2
   unfold laws_heldIntSS.l0
   repeat' first
   | (with_reducible exact ih0 _ _ _)
   | (with_reducible exact laws_heldIntS.mono _ _ _)
   | (with_reducible exact LeO.refl _)
   | (with_reducible exact LeO.none _)
   | (with_reducible refine LeO.ite ?_ ?_)
   | (with_reducible refine LeO.bind ?_ (fun _ => ?_))
   | exact ih0 _ _ _
   | exact laws_heldIntS.mono _ _ _
   | exact LeO.none _
   | refine LeO.ite ?_ ?_
   | refine LeO.bind ?_ (fun _ => ?_)
theorem laws_heldIntSS.mono : ∀ a0 a1 k, LeO (laws_heldIntSS.f k a0 a1) (laws_heldIntSS.f (k + 1) a0 a1) := by
 intro a0 a1 k
 have ih0 := laws_heldIntSS.mono_l k
 unfold laws_heldIntSS.f
 repeat' first
   | (with_reducible exact ih0 _ _ _)
   | (with_reducible exact laws_heldIntS.mono _ _ _)
   | (with_reducible exact LeO.refl _)
   | (with_reducible exact LeO.none _)
   | (with_reducible refine LeO.ite ?_ ?_)
   | (with_reducible refine LeO.bind ?_ (fun _ => ?_))
   | exact ih0 _ _ _
   | exact laws_heldIntS.mono _ _ _
   | exact LeO.none _
   | refine LeO.ite ?_ ?_
   | refine LeO.bind ?_ (fun _ => ?_)
set_option maxHeartbeats 8000000 in
set_option maxRecDepth 100000 in
theorem laws_heldIntSS.calls (k : Nat) (A0 : Option Addr) (c0 : Nat) (l0 : List (List Int)) (a1 : Int) (r : Int) (w : World) (hr0 : Kd.C (Kd.slice 3 (Kd.int .i64)) w A0 l0.length l0) (hc0 : l0.length ≤ c0) (h : laws_heldIntSS.f k l0 a1 = some r) :
  Calls Try.prog 70 #[.slice A0 l0.length c0, .int .i64 a1] w fun e w' => e = .returned (.int .i64 r) ∧ Drawn0 w w' := by
 have HR0 := Aside0.mk hr0
 have HC0 := Aside0.mk hc0
 clear hr0 hc0
 have H : (laws_heldIntSS.l0 k l0 a1 0) = some r := h
 clear h
 have H' := Aside0.mk H
 clear H
 go_enter Try.func70, Try.ntmps70
 go_wp2
 go_loopg [1, 5] k (fun kq v1 v5 w' => ∃ (x1_1 : Int) (x5_1 : Int), v1 = .int .i64 x1_1 ∧ v5 = .int .i64 x5_1 ∧ Aside0 (laws_heldIntSS.l0 kq l0 x1_1 x5_1 = some r) ∧ Aside0 (kq ≤ k) ∧ Drawn0 w w')
 case atStart => exact ⟨(a1), (0), (by first | rfl | (simp; done) | (simp [*]; done)), (by first | rfl | (simp; done) | (simp [*]; done)), H', ⟨Nat.le_refl _⟩, by repeat (first | exact Drawn0.refl _ | apply Drawn0.step)⟩
 case round =>
  clear H'
  try clear p2
  obtain ⟨x1_1, x5_1, rfl, rfl, HA, HK1, ⟨m1, rfl⟩⟩ := hrel
  cases gk with
  | zero => exact absurd HA.out (by simp [laws_heldIntSS.l0])
  | succ k1 =>
   have H := HA.out
   clear HA
   simp only [laws_heldIntSS.l0] at H
   by_cases c3 : x5_1 < (l0.length : Int)
   ·rw [if_pos c3] at H
    have c3b0 : decide (x5_1 < (l0.length : Int)) = true := decide_eq_true c3
    clear c3
    by_cases c4 : 0 ≤ x5_1
    ·rw [if_pos c4] at H
     have c4b0 : decide (0 ≤ x5_1) = true := decide_eq_true c4
     clear c4
     replace H := Option.bind_eq_some_iff.mp H
     obtain ⟨t232, A50, H⟩ := H
     replace H : (if t232 < 0 then (some (-1)) else (laws_heldIntSS.l0 k1 l0 t232 (wrap64 (x5_1 + 1)))) = some r := H
     have A5 := Aside0.mk A50
     clear A50
     by_cases c6 : t232 < 0
     ·rw [if_pos c6] at H
      have c6b0 : decide (t232 < 0) = true := decide_eq_true c6
      clear c6
      obtain rfl := Option.some.inj H
      have p231 : 0 ≤ (x5_1 : Int) := oda
      have q231 : x5_1 < (l0.length : Int) := oda
      obtain ⟨ad231, A231_0, c231_0, e231, hx231_0, hl231_0, hi231_0⟩ := at_L1 HR0.out x5_1 p231 q231
      cases e231
      have HR231_0 := Aside0.mk hi231_0
      have HC231_0 := Aside0.mk hl231_0
      clear hi231_0 hl231_0
      replace p231 := eq_true p231
      replace q231 := eq_true q231
      go_wp2_with (first | ((with_reducible refine gate_callee (f := 30) rfl ?_); refine goesL_ (some 17) rfl rfl Try.func30 kr rfl #[.slice A231_0 (rd_L1 l0 x5_1).length c231_0, .int .i64 x1_1] rfl lm ?_; (with_reducible refine (laws_heldIntS.calls k1 _ _ (rd_L1 l0 x5_1) x1_1 t232 _ ?side1 ?side2 A5.out).mono ?_); (case side1 => repeat (first | exact HR231_0.out | (with_reducible refine Kd.C_alloc ?_ _) | (with_reducible refine Kd.C_drewN ?_ _) | (with_reducible refine Kd.C_drew ?_))); (case side2 => exact HC231_0.out); rintro e w' ⟨rfl, ⟨nd, rfl⟩⟩; refine ⟨_, rfl, ?_⟩))
      go_ret
      exact ⟨by first | rfl | (simp; done) | (simp [*]; done), by repeat (first | exact Drawn0.refl _ | apply Drawn0.step)⟩
     ·rw [if_neg c6] at H
      have c6b0 : decide (t232 < 0) = false := decide_eq_false c6
      clear c6
      have H' := Aside0.mk H
      clear H
      have p231 : 0 ≤ (x5_1 : Int) := oda
      have q231 : x5_1 < (l0.length : Int) := oda
      obtain ⟨ad231, A231_0, c231_0, e231, hx231_0, hl231_0, hi231_0⟩ := at_L1 HR0.out x5_1 p231 q231
      cases e231
      have HR231_0 := Aside0.mk hi231_0
      have HC231_0 := Aside0.mk hl231_0
      clear hi231_0 hl231_0
      replace p231 := eq_true p231
      replace q231 := eq_true q231
      go_wp2_with (first | ((with_reducible refine gate_callee (f := 30) rfl ?_); refine goesL_ (some 17) rfl rfl Try.func30 kr rfl #[.slice A231_0 (rd_L1 l0 x5_1).length c231_0, .int .i64 x1_1] rfl lm ?_; (with_reducible refine (laws_heldIntS.calls k1 _ _ (rd_L1 l0 x5_1) x1_1 t232 _ ?side1 ?side2 A5.out).mono ?_); (case side1 => repeat (first | exact HR231_0.out | (with_reducible refine Kd.C_alloc ?_ _) | (with_reducible refine Kd.C_drewN ?_ _) | (with_reducible refine Kd.C_drew ?_))); (case side2 => exact HC231_0.out); rintro e w' ⟨rfl, ⟨nd, rfl⟩⟩; refine ⟨_, rfl, ?_⟩))
      go_roundg k1
      case measure => have := HK1.out; omega
      case rel => exact ⟨(t232), (wrap64 (x5_1 + 1)), (by first | rfl | (simp; done) | (simp [*]; done)), (by first | rfl | (simp; done) | (simp [*]; done)), H', ⟨by have := HK1.out; omega⟩, by repeat (first | exact Drawn0.refl _ | apply Drawn0.step)⟩
    ·rw [if_neg c4] at H
     exact absurd H (by simp)
   ·rw [if_neg c3] at H
    have c3b0 : decide (x5_1 < (l0.length : Int)) = false := decide_eq_false c3
    clear c3
    obtain rfl := Option.some.inj H
    go_wp2
    go_ret
    exact ⟨by first | rfl | (simp; done) | (simp [*]; done), by repeat (first | exact Drawn0.refl _ | apply Drawn0.step)⟩

/-! ### laws_heldCourt: function 43 -/
def laws_heldCourt.f (k : Nat) (a0_0 : Int) (l0_1 : List (List Int)) (l0_2 : List Int) (a0_3 : Int) (a1 : Int) : Option (Int) := (laws_heldIntSS.f k l0_1 a1).bind fun t234 => (if t234 < 0 then (some (-1)) else ((laws_heldIntS.f k l0_2 t234).bind fun t235 => (if t235 < 0 then (some (-1)) else (some t235))))
theorem laws_heldCourt.mono : ∀ a0 a1 a2 a3 a4 k, LeO (laws_heldCourt.f k a0 a1 a2 a3 a4) (laws_heldCourt.f (k + 1) a0 a1 a2 a3 a4) := by
 intro a0 a1 a2 a3 a4 k
 unfold laws_heldCourt.f
 repeat' first
   | (with_reducible exact laws_heldIntS.mono _ _ _)
   | (with_reducible exact laws_heldIntSS.mono _ _ _)
   | (with_reducible exact LeO.refl _)
   | (with_reducible exact LeO.none _)
   | (with_reducible refine LeO.ite ?_ ?_)
   | (with_reducible refine LeO.bind ?_ (fun _ => ?_))
   | exact laws_heldIntS.mono _ _ _
   | exact laws_heldIntSS.mono _ _ _
   | exact LeO.none _
   | refine LeO.ite ?_ ?_
   | refine LeO.bind ?_ (fun _ => ?_)
set_option maxHeartbeats 8000000 in
set_option maxRecDepth 100000 in
theorem laws_heldCourt.calls (k : Nat) (a0_0 : Int) (A0_1 : Option Addr) (c0_1 : Nat) (l0_1 : List (List Int)) (A0_2 : Option Addr) (c0_2 : Nat) (l0_2 : List Int) (a0_3 : Int) (a1 : Int) (r : Int) (w : World) (hr0_1 : Kd.C (Kd.slice 3 (Kd.int .i64)) w A0_1 l0_1.length l0_1) (hc0_1 : l0_1.length ≤ c0_1) (hr0_2 : Kd.C (Kd.int .i64) w A0_2 l0_2.length l0_2) (hc0_2 : l0_2.length ≤ c0_2) (h : laws_heldCourt.f k a0_0 l0_1 l0_2 a0_3 a1 = some r) :
  Calls Try.prog 43 #[.agg #[.int .i64 a0_0, .slice A0_1 l0_1.length c0_1, .slice A0_2 l0_2.length c0_2, .int .i64 a0_3], .int .i64 a1] w fun e w' => e = .returned (.int .i64 r) ∧ Below w.heap.size w w' := by
 have hu28 := Try.underlying28
 have HR0_1 := Aside0.mk hr0_1
 have HC0_1 := Aside0.mk hc0_1
 clear hr0_1 hc0_1
 have HR0_2 := Aside0.mk hr0_2
 have HC0_2 := Aside0.mk hc0_2
 clear hr0_2 hc0_2
 have HB := Aside0.mk (Below.refl w.heap.size w)
 have H : ((laws_heldIntSS.f k l0_1 a1).bind fun t234 => (if t234 < 0 then (some (-1)) else ((laws_heldIntS.f k l0_2 t234).bind fun t235 => (if t235 < 0 then (some (-1)) else (some t235))))) = some r := h
 clear h
 replace H := Option.bind_eq_some_iff.mp H
 obtain ⟨t234, A30, H⟩ := H
 replace H : (if t234 < 0 then (some (-1)) else ((laws_heldIntS.f k l0_2 t234).bind fun t235 => (if t235 < 0 then (some (-1)) else (some t235)))) = some r := H
 have A3 := Aside0.mk A30
 clear A30
 by_cases c4 : t234 < 0
 ·rw [if_pos c4] at H
  have c4b0 : decide (t234 < 0) = true := decide_eq_true c4
  clear c4
  obtain rfl := Option.some.inj H
  go_enter Try.func43, Try.ntmps43
  go_wp2_with (first | ((with_reducible refine gate_dst (N := 2) rfl ?_); refine box_event ?hg (N := 2) ?hd (cs := #[.int .i64 a0_0, .slice A0_1 l0_1.length c0_1, .slice A0_2 l0_2.length c0_2, .int .i64 a0_3]) (t := 28) ?hr ?_; (case hd => rfl); (case hg => rfl); (case hr => first | (go_simp; done) | (go_simp; rfl)); intro gb233 hg w5 hbox hb; have n0_ := Aside0.mk (below_step bh hb); have n1_ := Aside0.mk (hbox); have n2_ := Aside0.mk ((gs (W0 := w) hg bh)); have n3_ := Aside0.mk ((gs (W0 := w) hg bh)); clear HB; have HB := n0_; have BK233 := n1_; have GW233 := n2_; have GE233 := n3_; clear n0_ n1_ n2_ n3_ hb hbox hg; have hcz6_0 := cz0 BK233; have hcz6_1 := cz1 BK233; have hcz6_2 := cz2 BK233; have hcz6_3 := cz3 BK233; have hfz6_0 := blk_frozen BK233.out 0; have hfz6_1 := blk_frozen BK233.out 1; have hfz6_2 := blk_frozen BK233.out 2; have hfz6_3 := blk_frozen BK233.out 3) | ((with_reducible refine gate_callee (f := 70) rfl ?_); refine goesL_ (some 8) rfl rfl Try.func70 kr rfl #[.slice A0_1 l0_1.length c0_1, .int .i64 a1] rfl lm ?_; (with_reducible refine (laws_heldIntSS.calls k _ _ l0_1 a1 t234 _ ?side1 ?side2 A3.out).mono ?_); (case side1 => repeat (first | exact (Kd.C_below HR0_1.out HB.out) | (with_reducible refine Kd.C_alloc ?_ _) | (with_reducible refine Kd.C_drewN ?_ _) | (with_reducible refine Kd.C_drew ?_))); (case side2 => exact HC0_1.out); rintro e w' ⟨rfl, ⟨nd, rfl⟩⟩; refine ⟨_, rfl, ?_⟩))
  go_ret
  exact ⟨by first | rfl | (simp [errW_none, errW_some] <;> rfl) | (simp [*, errW_none, errW_some] <;> rfl), by exact bh⟩
 ·rw [if_neg c4] at H
  have c4b0 : decide (t234 < 0) = false := decide_eq_false c4
  clear c4
  replace H := Option.bind_eq_some_iff.mp H
  obtain ⟨t235, A70, H⟩ := H
  replace H : (if t235 < 0 then (some (-1)) else (some t235)) = some r := H
  have A7 := Aside0.mk A70
  clear A70
  by_cases c8 : t235 < 0
  ·rw [if_pos c8] at H
   have c8b0 : decide (t235 < 0) = true := decide_eq_true c8
   clear c8
   obtain rfl := Option.some.inj H
   go_enter Try.func43, Try.ntmps43
   go_wp2_with (first | ((with_reducible refine gate_dst (N := 2) rfl ?_); refine box_event ?hg (N := 2) ?hd (cs := #[.int .i64 a0_0, .slice A0_1 l0_1.length c0_1, .slice A0_2 l0_2.length c0_2, .int .i64 a0_3]) (t := 28) ?hr ?_; (case hd => rfl); (case hg => rfl); (case hr => first | (go_simp; done) | (go_simp; rfl)); intro gb233 hg w9 hbox hb; have n0_ := Aside0.mk (below_step bh hb); have n1_ := Aside0.mk (hbox); have n2_ := Aside0.mk ((gs (W0 := w) hg bh)); have n3_ := Aside0.mk ((gs (W0 := w) hg bh)); clear HB; have HB := n0_; have BK233 := n1_; have GW233 := n2_; have GE233 := n3_; clear n0_ n1_ n2_ n3_ hb hbox hg; have hcz10_0 := cz0 BK233; have hcz10_1 := cz1 BK233; have hcz10_2 := cz2 BK233; have hcz10_3 := cz3 BK233; have hfz10_0 := blk_frozen BK233.out 0; have hfz10_1 := blk_frozen BK233.out 1; have hfz10_2 := blk_frozen BK233.out 2; have hfz10_3 := blk_frozen BK233.out 3) | ((with_reducible refine gate_callee (f := 70) rfl ?_); refine goesL_ (some 8) rfl rfl Try.func70 kr rfl #[.slice A0_1 l0_1.length c0_1, .int .i64 a1] rfl lm ?_; (with_reducible refine (laws_heldIntSS.calls k _ _ l0_1 a1 t234 _ ?side1 ?side2 A3.out).mono ?_); (case side1 => repeat (first | exact (Kd.C_below HR0_1.out HB.out) | (with_reducible refine Kd.C_alloc ?_ _) | (with_reducible refine Kd.C_drewN ?_ _) | (with_reducible refine Kd.C_drew ?_))); (case side2 => exact HC0_1.out); rintro e w' ⟨rfl, ⟨nd, rfl⟩⟩; refine ⟨_, rfl, ?_⟩) | ((with_reducible refine gate_callee (f := 30) rfl ?_); refine goesL_ (some 14) rfl rfl Try.func30 kr rfl #[.slice A0_2 l0_2.length c0_2, .int .i64 t234] rfl lm ?_; (with_reducible refine (laws_heldIntS.calls k _ _ l0_2 t234 t235 _ ?side1 ?side2 A7.out).mono ?_); (case side1 => repeat (first | exact (Kd.C_below HR0_2.out bh) | (with_reducible refine Kd.C_alloc ?_ _) | (with_reducible refine Kd.C_drewN ?_ _) | (with_reducible refine Kd.C_drew ?_))); (case side2 => exact HC0_2.out); rintro e w' ⟨rfl, ⟨nd, rfl⟩⟩; refine ⟨_, rfl, ?_⟩))
   go_ret
   exact ⟨by first | rfl | (simp [errW_none, errW_some] <;> rfl) | (simp [*, errW_none, errW_some] <;> rfl), by exact bh⟩
  ·rw [if_neg c8] at H
   have c8b0 : decide (t235 < 0) = false := decide_eq_false c8
   clear c8
   obtain rfl := Option.some.inj H
   go_enter Try.func43, Try.ntmps43
   go_wp2_with (first | ((with_reducible refine gate_dst (N := 2) rfl ?_); refine box_event ?hg (N := 2) ?hd (cs := #[.int .i64 a0_0, .slice A0_1 l0_1.length c0_1, .slice A0_2 l0_2.length c0_2, .int .i64 a0_3]) (t := 28) ?hr ?_; (case hd => rfl); (case hg => rfl); (case hr => first | (go_simp; done) | (go_simp; rfl)); intro gb233 hg w11 hbox hb; have n0_ := Aside0.mk (below_step bh hb); have n1_ := Aside0.mk (hbox); have n2_ := Aside0.mk ((gs (W0 := w) hg bh)); have n3_ := Aside0.mk ((gs (W0 := w) hg bh)); clear HB; have HB := n0_; have BK233 := n1_; have GW233 := n2_; have GE233 := n3_; clear n0_ n1_ n2_ n3_ hb hbox hg; have hcz12_0 := cz0 BK233; have hcz12_1 := cz1 BK233; have hcz12_2 := cz2 BK233; have hcz12_3 := cz3 BK233; have hfz12_0 := blk_frozen BK233.out 0; have hfz12_1 := blk_frozen BK233.out 1; have hfz12_2 := blk_frozen BK233.out 2; have hfz12_3 := blk_frozen BK233.out 3) | ((with_reducible refine gate_callee (f := 70) rfl ?_); refine goesL_ (some 8) rfl rfl Try.func70 kr rfl #[.slice A0_1 l0_1.length c0_1, .int .i64 a1] rfl lm ?_; (with_reducible refine (laws_heldIntSS.calls k _ _ l0_1 a1 t234 _ ?side1 ?side2 A3.out).mono ?_); (case side1 => repeat (first | exact (Kd.C_below HR0_1.out HB.out) | (with_reducible refine Kd.C_alloc ?_ _) | (with_reducible refine Kd.C_drewN ?_ _) | (with_reducible refine Kd.C_drew ?_))); (case side2 => exact HC0_1.out); rintro e w' ⟨rfl, ⟨nd, rfl⟩⟩; refine ⟨_, rfl, ?_⟩) | ((with_reducible refine gate_callee (f := 30) rfl ?_); refine goesL_ (some 14) rfl rfl Try.func30 kr rfl #[.slice A0_2 l0_2.length c0_2, .int .i64 t234] rfl lm ?_; (with_reducible refine (laws_heldIntS.calls k _ _ l0_2 t234 t235 _ ?side1 ?side2 A7.out).mono ?_); (case side1 => repeat (first | exact (Kd.C_below HR0_2.out bh) | (with_reducible refine Kd.C_alloc ?_ _) | (with_reducible refine Kd.C_drewN ?_ _) | (with_reducible refine Kd.C_drew ?_))); (case side2 => exact HC0_2.out); rintro e w' ⟨rfl, ⟨nd, rfl⟩⟩; refine ⟨_, rfl, ?_⟩))
   go_ret
   exact ⟨by first | rfl | (simp [errW_none, errW_some] <;> rfl) | (simp [*, errW_none, errW_some] <;> rfl), by exact bh⟩

/-! ### spec_l1In: function 52 -/
def spec_l1In.f (a0 : Int) (a1 : Int) (a2 : Int) : Option (Bool) := if a0 ≥ a1 then (some (decide (a0 ≤ a2))) else (some false)
set_option maxHeartbeats 8000000 in
set_option maxRecDepth 100000 in
theorem spec_l1In.calls (a0 : Int) (a1 : Int) (a2 : Int) (r : Bool) (w : World) (h : spec_l1In.f a0 a1 a2 = some r) :
  Calls Try.prog 52 #[.int .i64 a0, .int .i64 a1, .int .i64 a2] w fun e w' => e = .returned (.bool r) ∧ Drawn0 w w' := by
 have H : (if a0 ≥ a1 then (some (decide (a0 ≤ a2))) else (some false)) = some r := h
 clear h
 by_cases c4 : a0 ≥ a1
 ·rw [if_pos c4] at H
  have c4b0 : decide (a1 ≤ a0) = true := decide_eq_true c4
  clear c4
  obtain rfl := Option.some.inj H
  go_enter Try.func52, Try.ntmps52
  go_wp2
  go_ret
  exact ⟨by first | rfl | (simp; done) | (simp [*]; done), by repeat (first | exact Drawn0.refl _ | apply Drawn0.step)⟩
 ·rw [if_neg c4] at H
  have c4b0 : decide (a1 ≤ a0) = false := decide_eq_false c4
  clear c4
  obtain rfl := Option.some.inj H
  go_enter Try.func52, Try.ntmps52
  go_wp2
  go_ret
  exact ⟨by first | rfl | (simp; done) | (simp [*]; done), by repeat (first | exact Drawn0.refl _ | apply Drawn0.step)⟩

/-! ### spec_CrowdOk: function 51 -/
def spec_CrowdOk.f (a0 : Int) (a1 : Int) : Option (Bool) := (spec_l1In.f a0 1 6).bind fun t236 => (if t236 = true then (if 0 ≤ a0 then ((spec_l1In.f a1 0 (wrap64 ((shl .i64 1 a0) - 1))).bind fun t237 => (some t237)) else (none)) else (some false))
set_option maxHeartbeats 8000000 in
set_option maxRecDepth 100000 in
theorem spec_CrowdOk.calls (a0 : Int) (a1 : Int) (r : Bool) (w : World) (h : spec_CrowdOk.f a0 a1 = some r) :
  Calls Try.prog 51 #[.int .i64 a0, .int .i64 a1] w fun e w' => e = .returned (.bool r) ∧ Drawn0 w w' := by
 have H : ((spec_l1In.f a0 1 6).bind fun t236 => (if t236 = true then (if 0 ≤ a0 then ((spec_l1In.f a1 0 (wrap64 ((shl .i64 1 a0) - 1))).bind fun t237 => (some t237)) else (none)) else (some false))) = some r := h
 clear h
 replace H := Option.bind_eq_some_iff.mp H
 obtain ⟨t236, A30, H⟩ := H
 replace H : (if t236 = true then (if 0 ≤ a0 then ((spec_l1In.f a1 0 (wrap64 ((shl .i64 1 a0) - 1))).bind fun t237 => (some t237)) else (none)) else (some false)) = some r := H
 have A3 := Aside0.mk A30
 clear A30
 by_cases c4 : t236 = true
 ·subst c4
  have H1 : (if 0 ≤ a0 then ((spec_l1In.f a1 0 (wrap64 ((shl .i64 1 a0) - 1))).bind fun t237 => (some t237)) else (none)) = some r := by rw [if_pos rfl] at H; exact H
  clear H
  have H := H1
  clear H1
  by_cases c5 : 0 ≤ a0
  ·rw [if_pos c5] at H
   have c5b0 := eq_true c5
   have c5b1 : decide (0 ≤ a0) = true := decide_eq_true c5
   clear c5
   obtain ⟨ji6, hji6⟩ : ∃ j_ : Int, (shl .i64 1 a0) = j_ := ⟨_, rfl⟩
   replace H : ((spec_l1In.f a1 0 (wrap64 ((ji6) - 1))).bind fun t237 => (some t237)) = some r := by first | (rw [hji6] at H; exact H) | (simp only [hji6] at H ⊢; exact H)
   (try rw [hji6] at A3)
   have hji6_ : (IntKind.i64.wrap (1 * 2 ^ min a0.toNat 64)) = ji6 := hji6
   have hji6z : a0 ≤ 64 → (IntKind.i64.wrap (1 * 2 ^ a0.toNat)) = ji6 := shl_small hji6
   have hji6u : (IntKind.i64.wrap (2 ^ min a0.toNat 64)) = ji6 := by have h_ := hji6_; rw [Int.one_mul] at h_; exact h_
   have hji6v : a0 ≤ 64 → (IntKind.i64.wrap (2 ^ a0.toNat)) = ji6 := fun hle_ => by have h_ := hji6z hle_; rw [Int.one_mul] at h_; exact h_
   have hji6y : (wrap64 (1 * 2 ^ min a0.toNat 64)) = ji6 := (i64_w _).symm.trans hji6_
   have hji6x : a0 ≤ 64 → (wrap64 (1 * 2 ^ a0.toNat)) = ji6 := fun h_ => (i64_w _).symm.trans (hji6z h_)
   replace H := Option.bind_eq_some_iff.mp H
   obtain ⟨t237, A70, H⟩ := H
   replace H : (some t237) = some r := H
   have A7 := Aside0.mk A70
   clear A70
   obtain rfl := Option.some.inj H
   go_enter Try.func51, Try.ntmps51
   go_wp2_with (first | ((with_reducible refine gate_callee (f := 52) rfl ?_); refine goesL_ (some 6) rfl rfl Try.func52 kr rfl #[.int .i64 a0, .int .i64 1, .int .i64 6] rfl lm ?_; (with_reducible refine (spec_l1In.calls a0 1 6 true _ A3.out).mono ?_); rintro e w' ⟨rfl, ⟨nd, rfl⟩⟩; refine ⟨_, rfl, ?_⟩) | (go_at_call 52; (with_reducible refine (spec_l1In.calls a1 0 (wrap64 ((ji6) - 1)) t237 _ A7.out).mono ?_); rintro e w' ⟨rfl, ⟨nd, rfl⟩⟩))
   go_ret
   exact ⟨by first | rfl | (simp; done) | (simp only [← hji6] <;> (first | rfl | simp)) | (simp [*]; done), by repeat (first | exact Drawn0.refl _ | apply Drawn0.step)⟩
  ·rw [if_neg c5] at H
   exact absurd H (by simp)
 ·replace c4 := Bool.eq_false_iff.mpr c4
  subst c4
  have H1 : (some false) = some r := by rw [if_neg (show ¬ (false = true) by decide)] at H; exact H
  clear H
  have H := H1
  clear H1
  obtain rfl := Option.some.inj H
  go_enter Try.func51, Try.ntmps51
  go_wp2_with (first | ((with_reducible refine gate_callee (f := 52) rfl ?_); refine goesL_ (some 6) rfl rfl Try.func52 kr rfl #[.int .i64 a0, .int .i64 1, .int .i64 6] rfl lm ?_; (with_reducible refine (spec_l1In.calls a0 1 6 false _ A3.out).mono ?_); rintro e w' ⟨rfl, ⟨nd, rfl⟩⟩; refine ⟨_, rfl, ?_⟩))
  go_ret
  exact ⟨by first | rfl | (simp; done) | (simp [*]; done), by repeat (first | exact Drawn0.refl _ | apply Drawn0.step)⟩

end Go.Proofs.Ytlpjkeejflogjaa.QFnExactAfterDeaths
