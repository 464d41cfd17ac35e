-- Printed for this claim by a turned copy of the print (wip/myprint). Lean checks it. Squeezed. Worded. Tightened.
import Derived.Test.YtlpjkeejflogjaaQFnExactAfterDeathsx0
import Derived.Test.YtlpjkeejflogjaaQFnExactAfterDeathsx7
import Derived.Test.YtlpjkeejflogjaaQFnExactAfterDeathsx9
import Derived.Test.YtlpjkeejflogjaaQFnExactAfterDeathsx11
namespace Go.Proofs.Ytlpjkeejflogjaa.QFnExactAfterDeaths
open Go.RowKit Go.Proofs.YtlpjkeejflogjaaW.PrintWords Go.Proofs.YtlpjkeejflogjaaW.PrintLast Go.Proofs.YtlpjkeejflogjaaW.PrintMore
attribute [local go_sem] max2_int min2_int max_two min_two max_three min_three max_four min_four Opens.cell_twice   -- for this text's walks alone
set_option linter.unusedVariables false
set_option linter.unusedSimpArgs false

/-! ### spec_AfterDeaths: function 47 -/
mutual
def spec_AfterDeaths.j0 : Nat → List Int → Bool → Int → List (List Int) → List Int → Int → Option (Int × (List (List Int)) × List Int × Int × Int)
 | 0, _, _, _, _, _, _ => none
 | k + 1, x1, x18, x319000, x319001, x319002, x319003 => if x18 = true then (some (0, ([] : List (List Int)), ([] : List Int), 0, (-1))) else ((spec_l7Copy.f k x319000 x319001 x319002 x319003).bind fun bt321 => (spec_AfterDeaths.l0 k x1 0 0 bt321.1 bt321.2.1 bt321.2.2.1 bt321.2.2.2))
def spec_AfterDeaths.l0 : Nat → List Int → Int → Int → Int → List (List Int) → List Int → Int → Option (Int × (List (List Int)) × List Int × Int × Int)
 | 0, _, _, _, _, _, _, _ => none
 | k + 1, x1, x7, x8, x330000, x330001, x330002, x330003 => if x8 < (x1.length : Int) then (if 0 ≤ x8 then ((spec_AfterDeath.f k x330000 x330001 x330002 x330003 (rd x1 x8)).bind fun bt331 => (if bt331.2.2.2.2 = true then (spec_AfterDeaths.l0 k x1 (wrap64 (x7 + 1)) (wrap64 (x8 + 1)) bt331.1 bt331.2.1 bt331.2.2.1 bt331.2.2.2.1) else (spec_AfterDeaths.l0 k x1 x7 (wrap64 (x8 + 1)) x330000 x330001 x330002 x330003))) else (none)) else (some (x330000, x330001, x330002, x330003, x7))
end
def spec_AfterDeaths.f (k : Nat) (a0_0 : Int) (l0_1 : List (List Int)) (l0_2 : List Int) (a0_3 : Int) (l1 : List Int) : Option (Int × (List (List Int)) × List Int × Int × Int) := (spec_CourtOk.f k a0_0 l0_1 l0_2 a0_3).bind fun t320 => (if t320 = true then (spec_AfterDeaths.j0 k l1 (decide ((l1.length : Int) > 20)) a0_0 l0_1 l0_2 a0_3) else (spec_AfterDeaths.j0 k l1 true a0_0 l0_1 l0_2 a0_3))
theorem spec_AfterDeaths.mono_l : ∀ k, (∀ y0 y1 y2 y3 y4 y5, LeO (spec_AfterDeaths.j0 k y0 y1 y2 y3 y4 y5) (spec_AfterDeaths.j0 (k + 1) y0 y1 y2 y3 y4 y5)) ∧ (∀ y0 y1 y2 y3 y4 y5 y6, LeO (spec_AfterDeaths.l0 k y0 y1 y2 y3 y4 y5 y6) (spec_AfterDeaths.l0 (k + 1) y0 y1 y2 y3 y4 y5 y6))
 | 0 => ⟨fun _ _ _ _ _ _ r h => by simp [spec_AfterDeaths.j0] at h, fun _ _ _ _ _ _ _ r h => by simp [spec_AfterDeaths.l0] at h⟩
 | k + 1 => by
  obtain ⟨ih0, ih1⟩ := spec_AfterDeaths.mono_l k
  refine ⟨?_, ?_⟩
  ·intro y0 y1 y2 y3 y4 y5
   unfold spec_AfterDeaths.j0
   repeat' first
   | (with_reducible exact ih0 _ _ _ _ _ _)
   | (with_reducible exact ih1 _ _ _ _ _ _ _)
   | (with_reducible exact spec_AfterDeath.mono _ _ _ _ _ _)
   | (with_reducible exact spec_CourtOk.mono _ _ _ _ _)
   | (with_reducible exact spec_l7Copy.mono _ _ _ _ _)
   | (with_reducible exact LeO.refl _)
   | (with_reducible exact LeO.none _)
   | (with_reducible refine LeO.ite ?_ ?_)
   | (with_reducible refine LeO.bind ?_ (fun _ => ?_))
   | exact ih0 _ _ _ _ _ _
   | exact ih1 _ _ _ _ _ _ _
   | exact spec_AfterDeath.mono _ _ _ _ _ _
   | exact spec_CourtOk.mono _ _ _ _ _
   | exact spec_l7Copy.mono _ _ _ _ _
   | exact LeO.none _
   | refine LeO.ite ?_ ?_
   | refine LeO.bind ?_ (fun _ => ?_)
  ·intro y0 y1 y2 y3 y4 y5 y6
   unfold spec_AfterDeaths.l0
   repeat' first
   | (with_reducible exact ih0 _ _ _ _ _ _)
   | (with_reducible exact ih1 _ _ _ _ _ _ _)
   | (with_reducible exact spec_AfterDeath.mono _ _ _ _ _ _)
   | (with_reducible exact spec_CourtOk.mono _ _ _ _ _)
   | (with_reducible exact spec_l7Copy.mono _ _ _ _ _)
   | (with_reducible exact LeO.refl _)
   | (with_reducible exact LeO.none _)
   | (with_reducible refine LeO.ite ?_ ?_)
   | (with_reducible refine LeO.bind ?_ (fun _ => ?_))
   | exact ih0 _ _ _ _ _ _
   | exact ih1 _ _ _ _ _ _ _
   | exact spec_AfterDeath.mono _ _ _ _ _ _
   | exact spec_CourtOk.mono _ _ _ _ _
   | exact spec_l7Copy.mono _ _ _ _ _
   | exact LeO.none _
   | refine LeO.ite ?_ ?_
   | refine LeO.bind ?_ (fun _ => ?_)
theorem spec_AfterDeaths.mono : ∀ a0 a1 a2 a3 a4 k, LeO (spec_AfterDeaths.f k a0 a1 a2 a3 a4) (spec_AfterDeaths.f (k + 1) a0 a1 a2 a3 a4) := by
 intro a0 a1 a2 a3 a4 k
 obtain ⟨ih0, ih1⟩ := spec_AfterDeaths.mono_l k
 unfold spec_AfterDeaths.f
 repeat' first
   | (with_reducible exact ih0 _ _ _ _ _ _)
   | (with_reducible exact ih1 _ _ _ _ _ _ _)
   | (with_reducible exact spec_AfterDeath.mono _ _ _ _ _ _)
   | (with_reducible exact spec_CourtOk.mono _ _ _ _ _)
   | (with_reducible exact spec_l7Copy.mono _ _ _ _ _)
   | (with_reducible exact LeO.refl _)
   | (with_reducible exact LeO.none _)
   | (with_reducible refine LeO.ite ?_ ?_)
   | (with_reducible refine LeO.bind ?_ (fun _ => ?_))
   | exact ih0 _ _ _ _ _ _
   | exact ih1 _ _ _ _ _ _ _
   | exact spec_AfterDeath.mono _ _ _ _ _ _
   | exact spec_CourtOk.mono _ _ _ _ _
   | exact spec_l7Copy.mono _ _ _ _ _
   | exact LeO.none _
   | refine LeO.ite ?_ ?_
   | refine LeO.bind ?_ (fun _ => ?_)
def spec_AfterDeaths.T8 : Bool × List (List Nat × List Nat) := (true, [([], []), ([], []), ([], []), ([1, 2], [1, 2]), ([3], [3]), ([0, 4], [0, 4]), ([5], [5]), ([6], [6]), ([6], [6]), ([], []), ([9, 7, 5, 0, 1, 2, 3, 4, 5, 6, 7, 9], [7, 9]), ([8, 10, 0, 1, 2, 3, 4, 5, 6, 7, 8, 9, 10], [8])])
def spec_AfterDeaths.B8 : List Nat := [0, 0, 0, 6, 14, 31, 63, 127, 127, 0, 767, 2047]
theorem spec_AfterDeaths.tab8 : rtab .any (opsOf Try.f47 8) = spec_AfterDeaths.T8 := by kernel_rfl
theorem spec_AfterDeaths.bits8 : waitsOk spec_AfterDeaths.T8.2 spec_AfterDeaths.B8 = true := by kernel_rfl
set_option maxHeartbeats 8000000 in
set_option maxRecDepth 100000 in
theorem spec_AfterDeaths.calls (k : Nat) (a0_0 : Int) (A0_1 : Option Addr) (c0_1 : Nat) (l0_1 : List (List Int)) (A0_2 : Option Addr) (c0_2 : Nat) (l0_2 : List Int) (a0_3 : Int) (A1 : Option Addr) (c1 : Nat) (l1 : List Int) (r1 : Int) (r2 : List (List Int)) (r3 : List Int) (r4 : Int) (r5 : Int) (w : World) (hr0_1 : Kd.C (Kd.slice 3 (Kd.int .i64)) w A0_1 l0_1.length l0_1) (hc0_1 : l0_1.length ≤ c0_1) (hr0_2 : Kd.C (Kd.int .i64) w A0_2 l0_2.length l0_2) (hc0_2 : l0_2.length ≤ c0_2) (hr1 : Kd.C (Kd.int .i64) w A1 l1.length l1) (hc1 : l1.length ≤ c1) (h : spec_AfterDeaths.f k a0_0 l0_1 l0_2 a0_3 l1 = some (r1, r2, r3, r4, r5)) :
  Calls Try.prog 47 #[.agg #[.int .i64 a0_0, .slice A0_1 l0_1.length c0_1, .slice A0_2 l0_2.length c0_2, .int .i64 a0_3], .slice A1 l1.length c1] w fun e w' => ∃ v1_ v2_ : Value, e = .returned (.tuple #[.agg #[.int .i64 r1, v1_, v2_, .int .i64 r4], .int .i64 r5]) ∧ Kd.S (Kd.slice 3 (Kd.int .i64)) 23 w' w.heap.size (fun k_ => some k_ ≠ (v2_ : Value).ownBlock) v1_ r2 ∧ Kd.R (Kd.int .i64) 3 w' w.heap.size (fun _ => True) v2_ r3 ∧ Below w.heap.size w w' := by
 have hu28 := Try.underlying28
 have HR0_1 := Aside0.mk hr0_1
 have HC0_1 := Aside0.mk hc0_1
 clear hr0_1 hc0_1
 have HR0_2 := Aside0.mk hr0_2
 have HC0_2 := Aside0.mk hc0_2
 clear hr0_2 hc0_2
 have HR1 := Aside0.mk hr1
 have HC1 := Aside0.mk hc1
 clear hr1 hc1
 have HB := Aside0.mk (Below.refl w.heap.size w)
 have H : ((spec_CourtOk.f k a0_0 l0_1 l0_2 a0_3).bind fun t320 => (if t320 = true then (spec_AfterDeaths.j0 k l1 (decide ((l1.length : Int) > 20)) a0_0 l0_1 l0_2 a0_3) else (spec_AfterDeaths.j0 k l1 true a0_0 l0_1 l0_2 a0_3))) = some (r1, r2, r3, r4, r5) := h
 clear h
 have HC3 := Aside0.mk H
 clear H
 go_enter Try.func47, Try.ntmps47
 go_upto_region 1 with (first | ((with_reducible refine gate_dst (N := 2) rfl ?_); (try (refine gate_guard (by rfl) ?_; dsimp only)); refine box_event ?hg (N := 2) ?hd (cs := #[.int .i64 a0_0, .slice A0_1 l0_1.length c0_1, .slice A0_2 l0_2.length c0_2, .int .i64 a0_3]) (t := 28) ?hr ?_; (case hd => rfl); (case hg => rfl); (case hr => first | (go_simp; done) | (go_simp; rfl)); intro gb318 hg w4 hbox hb; have n0_ := Aside0.mk (below_step bh hb); have n1_ := Aside0.mk (hbox); have n2_ := Aside0.mk ((gs (W0 := w) hg bh)); have n3_ := Aside0.mk ((gs (W0 := w) hg bh)); clear HB; have HB := n0_; have BK318 := n1_; have GW318 := n2_; have GE318 := n3_; clear n0_ n1_ n2_ n3_ hb hbox hg) | ((with_reducible refine gate_dst (N := 4) rfl ?_); (try (refine gate_guard (by rfl) ?_; dsimp only)); refine box_event ?hg (N := 4) ?hd (cs := #[.int .i64 0, .slice none 0 0, .slice none 0 0, .int .i64 0]) (t := 28) ?hr ?_; (case hd => rfl); (case hg => rfl); (case hr => first | (go_simp; done) | (go_simp; rfl)); intro gb319 hg w5 hbox hb; have n0_ := Aside0.mk (blk_below (bz BK318) hb); have n1_ := Aside0.mk (below_step bh hb); have n2_ := Aside0.mk (hbox); have n3_ := Aside0.mk ((gs (W0 := w) hg bh)); have n4_ := Aside0.mk ((gs (W0 := w) hg bh)); have n5_ := Aside0.mk ((gn hg (bz BK318))); have n6_ := Aside0.mk ((gm hg (bz BK318))); clear BK318 HB; have BK318 := n0_; have HB := n1_; have BK319 := n2_; have GW319 := n3_; have GE319 := n4_; have NB318_319 := n5_; have NB319_318 := n6_; clear n0_ n1_ n2_ n3_ n4_ n5_ n6_ hb hbox hg))
 (try simp only [Act.put, List.setIfInBounds_toArray, List.set_cons_zero, List.set_cons_succ])
 go_cut [18] (fun v18 wc => ∃ (kq : Nat) (x18_2 : Bool), v18 = .bool x18_2 ∧ Aside0 (spec_AfterDeaths.j0 kq l1 x18_2 a0_0 l0_1 l0_2 a0_3 = some (r1, r2, r3, r4, r5)) ∧ Aside0 (kq ≤ k) ∧ Aside0 (wc.heap[gb318]? = some (.cells #[.int .i64 a0_0, (.slice A0_1 l0_1.length c0_1), (.slice A0_2 l0_2.length c0_2), .int .i64 a0_3] 28 (0, 0))) ∧ Aside0 (wc.heap[gb319]? = some (.cells #[.int .i64 0, (.slice none 0 0), (.slice none 0 0), .int .i64 0] 28 (0, 0))) ∧ Aside0 (Below w.heap.size w wc))
 case first =>
  have H := HC3.out
  clear HC3
  replace H := Option.bind_eq_some_iff.mp H
  obtain ⟨t320, A60, H⟩ := H
  replace H : (if t320 = true then (spec_AfterDeaths.j0 k l1 (decide ((l1.length : Int) > 20)) a0_0 l0_1 l0_2 a0_3) else (spec_AfterDeaths.j0 k l1 true a0_0 l0_1 l0_2 a0_3)) = some (r1, r2, r3, r4, r5) := H
  have A6 := Aside0.mk A60
  clear A60
  by_cases c7 : t320 = true
  ·subst c7
   have H1 : (spec_AfterDeaths.j0 k l1 (decide ((l1.length : Int) > 20)) a0_0 l0_1 l0_2 a0_3) = some (r1, r2, r3, r4, r5) := by rw [if_pos rfl] at H; exact H
   clear H
   have H := H1
   clear H1
   have H' := Aside0.mk H
   clear H
   have hnb8 := NB318_319.out
   have hnc8 := NB319_318.out
   have hcz9_0 := cz0 BK318
   have hcz9_1 := cz1 BK318
   have hcz9_2 := cz2 BK318
   have hcz9_3 := cz3 BK318
   have hfz9_0 := blk_frozen BK318.out 0
   have hfz9_1 := blk_frozen BK318.out 1
   have hfz9_2 := blk_frozen BK318.out 2
   have hfz9_3 := blk_frozen BK318.out 3
   go_wp2_with (first | ((with_reducible refine gate_callee (f := 17) rfl ?_); refine goesL_ (some 12) rfl rfl Try.func17 kr rfl #[.agg #[.int .i64 a0_0, .slice A0_1 l0_1.length c0_1, .slice A0_2 l0_2.length c0_2, .int .i64 a0_3]] rfl lm ?_; (with_reducible refine (spec_CourtOk.calls k a0_0 _ _ l0_1 _ _ l0_2 a0_3 true _ ?side1 ?side2 ?side3 ?side4 A6.out).mono ?_); (case side1 => repeat (first | exact (Kd.C_below HR0_1.out HB.out) | (with_reducible refine Kd.C_alloc ?_ _) | (with_reducible refine Kd.C_drewN ?_ _) | (with_reducible refine Kd.C_drew ?_))); (case side2 => exact HC0_1.out); (case side3 => repeat (first | exact (Kd.C_below HR0_2.out HB.out) | (with_reducible refine Kd.C_alloc ?_ _) | (with_reducible refine Kd.C_drewN ?_ _) | (with_reducible refine Kd.C_drew ?_))); (case side4 => exact HC0_2.out); rintro e w10 ⟨rfl, hb⟩; refine ⟨_, rfl, ?_⟩; have n0_ := Aside0.mk (blk_below (bz BK318) hb); have n1_ := Aside0.mk (blk_below (bz BK319) hb); have n2_ := Aside0.mk (below_step bh hb); clear BK318 BK319 HB; have BK318 := n0_; have BK319 := n1_; have HB := n2_; clear n0_ n1_ n2_; (try clear hb); (try clear hb2); (try clear hk); (try clear hi)))
   go_meet
   case rel => exact ⟨_, (decide ((l1.length : Int) > 20)), (by first | rfl | (simp; done) | (simp [*]; done)), H', ⟨by first | omega | exact Nat.le_refl _⟩, ⟨bz BK318⟩, ⟨bz BK319⟩, ⟨by exact bh⟩⟩
  ·replace c7 := Bool.eq_false_iff.mpr c7
   subst c7
   have H1 : (spec_AfterDeaths.j0 k l1 true a0_0 l0_1 l0_2 a0_3) = some (r1, r2, r3, r4, r5) := by rw [if_neg (show ¬ (false = true) by decide)] at H; exact H
   clear H
   have H := H1
   clear H1
   have H' := Aside0.mk H
   clear H
   have hnb11 := NB318_319.out
   have hnc11 := NB319_318.out
   have hcz12_0 := cz0 BK318
   have hcz12_1 := cz1 BK318
   have hcz12_2 := cz2 BK318
   have hcz12_3 := cz3 BK318
   have hfz12_0 := blk_frozen BK318.out 0
   have hfz12_1 := blk_frozen BK318.out 1
   have hfz12_2 := blk_frozen BK318.out 2
   have hfz12_3 := blk_frozen BK318.out 3
   go_wp2_with (first | ((with_reducible refine gate_callee (f := 17) rfl ?_); refine goesL_ (some 12) rfl rfl Try.func17 kr rfl #[.agg #[.int .i64 a0_0, .slice A0_1 l0_1.length c0_1, .slice A0_2 l0_2.length c0_2, .int .i64 a0_3]] rfl lm ?_; (with_reducible refine (spec_CourtOk.calls k a0_0 _ _ l0_1 _ _ l0_2 a0_3 false _ ?side1 ?side2 ?side3 ?side4 A6.out).mono ?_); (case side1 => repeat (first | exact (Kd.C_below HR0_1.out HB.out) | (with_reducible refine Kd.C_alloc ?_ _) | (with_reducible refine Kd.C_drewN ?_ _) | (with_reducible refine Kd.C_drew ?_))); (case side2 => exact HC0_1.out); (case side3 => repeat (first | exact (Kd.C_below HR0_2.out HB.out) | (with_reducible refine Kd.C_alloc ?_ _) | (with_reducible refine Kd.C_drewN ?_ _) | (with_reducible refine Kd.C_drew ?_))); (case side4 => exact HC0_2.out); rintro e w13 ⟨rfl, hb⟩; refine ⟨_, rfl, ?_⟩; have n0_ := Aside0.mk (blk_below (bz BK318) hb); have n1_ := Aside0.mk (blk_below (bz BK319) hb); have n2_ := Aside0.mk (below_step bh hb); clear BK318 BK319 HB; have BK318 := n0_; have BK319 := n1_; have HB := n2_; clear n0_ n1_ n2_; (try clear hb); (try clear hb2); (try clear hk); (try clear hi)))
   go_meet
   case rel => exact ⟨_, (true), (by first | rfl | (simp; done) | (simp [*]; done)), H', ⟨by first | omega | exact Nat.le_refl _⟩, ⟨bz BK318⟩, ⟨bz BK319⟩, ⟨by exact bh⟩⟩
 case rest =>
  clear HC3
  try clear c1
  try clear p2
  try clear c4
  try clear c7
  try clear c8
  try clear c11
  try clear hcz12_0
  try clear hcz12_1
  try clear hcz12_2
  try clear hcz12_3
  try clear hcz9_0
  try clear hcz9_1
  try clear hcz9_2
  try clear hcz9_3
  try clear hfz12_0
  try clear hfz12_1
  try clear hfz12_2
  try clear hfz12_3
  try clear hfz9_0
  try clear hfz9_1
  try clear hfz9_2
  try clear hfz9_3
  obtain ⟨kq, x18_2, rfl, HA, HJ2, BK318, BK319, HB⟩ := hcut
  cases kq with
  | zero => exact absurd HA.out (by simp [spec_AfterDeaths.j0])
  | succ kj2 =>
   have H := HA.out
   clear HA
   simp only [spec_AfterDeaths.j0] at H
   by_cases c14 : x18_2 = true
   ·subst c14
    have H1 : (some (0, ([] : List (List Int)), ([] : List Int), 0, (-1))) = some (r1, r2, r3, r4, r5) := by rw [if_pos rfl] at H; exact H
    clear H
    have H := H1
    clear H1
    simp only [Option.some.injEq, Prod.mk.injEq] at H
    obtain ⟨rfl, rfl, rfl, rfl, rfl⟩ := H
    have hnb15 := NB319_318.out
    have hnc15 := NB318_319.out
    have hcz16_0 := cz0 BK319
    have hcz16_1 := cz1 BK319
    have hcz16_2 := cz2 BK319
    have hcz16_3 := cz3 BK319
    have hfz16_0 := blk_frozen BK319.out 0
    have hfz16_1 := blk_frozen BK319.out 1
    have hfz16_2 := blk_frozen BK319.out 2
    have hfz16_3 := blk_frozen BK319.out 3
    go_wp2
    refine bodyPost_ret (results_ct rfl _ _ gb319 28 #[.int .i64 0, .slice none 0 0, .slice none 0 0, .int .i64 0] (0, 0) _ rfl (bp BK319) Try.underlying28 rfl kr) rfl ?_
    exact ⟨_, _, by first | rfl | (simp [errW_none, errW_some] <;> rfl) | (simp [*, errW_none, errW_some] <;> rfl), by first | exact Kd.S_nil _ _ _ _ _ | exact Kd.N_nil _ _ _ _ _ | exact Kd.V_nil _ _ _ _ _ | exact Kd.Q_nil _ _ _ _ _ | exact Kd.R_nil _ _ _ _ _, by first | exact Kd.R_nil _ _ _ _ _ | exact Kd.N_nil _ _ _ _ _ | exact Kd.V_nil _ _ _ _ _ | exact Kd.Q_nil _ _ _ _ _ | exact Kd.S_nil _ _ _ _ _, by exact bh⟩
   ·replace c14 := Bool.eq_false_iff.mpr c14
    subst c14
    have H1 : ((spec_l7Copy.f kj2 a0_0 l0_1 l0_2 a0_3).bind fun bt321 => (spec_AfterDeaths.l0 kj2 l1 0 0 bt321.1 bt321.2.1 bt321.2.2.1 bt321.2.2.2)) = some (r1, r2, r3, r4, r5) := by rw [if_neg (show ¬ (false = true) by decide)] at H; exact H
    clear H
    have H := H1
    clear H1
    replace H := Option.bind_eq_some_iff.mp H
    obtain ⟨⟨t321, t322, t325, t328⟩, A170, H⟩ := H
    replace H : (spec_AfterDeaths.l0 kj2 l1 0 0 t321 t322 t325 t328) = some (r1, r2, r3, r4, r5) := H
    have A17 := Aside0.mk A170
    clear A170
    have H' := Aside0.mk H
    clear H
    have hnb18 := NB318_319.out
    have hnc18 := NB319_318.out
    have hcz19_0 := cz0 BK318
    have hcz19_1 := cz1 BK318
    have hcz19_2 := cz2 BK318
    have hcz19_3 := cz3 BK318
    have hfz19_0 := blk_frozen BK318.out 0
    have hfz19_1 := blk_frozen BK318.out 1
    have hfz19_2 := blk_frozen BK318.out 2
    have hfz19_3 := blk_frozen BK318.out 3
    go_wp2_with (first | ((with_reducible refine gate_callee (f := 67) rfl ?_); refine goesL_ (some 21) rfl rfl Try.func67 kr rfl #[.agg #[.int .i64 a0_0, .slice A0_1 l0_1.length c0_1, .slice A0_2 l0_2.length c0_2, .int .i64 a0_3]] rfl lm ?_; (with_reducible refine (spec_l7Copy.calls kj2 a0_0 _ _ l0_1 _ _ l0_2 a0_3 t321 t322 t325 t328 _ ?side1 ?side2 ?side3 ?side4 A17.out).mono ?_); (case side1 => repeat (first | exact (Kd.C_below HR0_1.out HB.out) | (with_reducible refine Kd.C_alloc ?_ _) | (with_reducible refine Kd.C_drewN ?_ _) | (with_reducible refine Kd.C_drew ?_))); (case side2 => exact HC0_1.out); (case side3 => repeat (first | exact (Kd.C_below HR0_2.out HB.out) | (with_reducible refine Kd.C_alloc ?_ _) | (with_reducible refine Kd.C_drewN ?_ _) | (with_reducible refine Kd.C_drew ?_))); (case side4 => exact HC0_2.out); rintro e w20 ⟨v323, v326, rfl, ho0, ho1, hb⟩; refine ⟨_, rfl, ?_⟩; have n0_ := Aside0.mk (Kd.S_lower ho0 (below_size bh)); have n1_ := Aside0.mk (Kd.R_lower ho1 (below_size bh)); have n2_ := Aside0.mk (blk_below (bz BK318) hb); have n3_ := Aside0.mk (blk_below (bz BK319) hb); have n4_ := Aside0.mk (below_step bh hb); clear BK318 BK319 HB; have HO324 := n0_; have HO327 := n1_; have BK318 := n2_; have BK319 := n3_; have HB := n4_; clear n0_ n1_ n2_ n3_ n4_; (try clear hb); (try clear hb2); (try clear hk); (try clear hi); (try clear ho0); (try clear ho1)) | ((with_reducible refine gate_dst (N := 6) rfl ?_); (try (refine gate_guard (by rfl) ?_; dsimp only)); refine box_event ?hg (N := 6) ?hd (cs := #[.int .i64 0, .slice none 0 0, .slice none 0 0, .int .i64 0]) (t := 28) ?hr ?_; (case hd => rfl); (case hg => rfl); (case hr => first | (go_simp; done) | (go_simp; rfl)); intro gb329 hg w21 hbox hb; have n0_ := Aside0.mk (Kd.S_below (sz HO324) hb); have n1_ := Aside0.mk (Kd.R_below (rz HO327) hb); have n2_ := Aside0.mk (blk_below (bz BK318) hb); have n3_ := Aside0.mk (blk_below (bz BK319) hb); have n4_ := Aside0.mk (below_step bh hb); have n5_ := Aside0.mk (hbox); have n6_ := Aside0.mk ((gs (W0 := w) hg bh)); have n7_ := Aside0.mk ((gs (W0 := w) hg bh)); have n8_ := Aside0.mk ((gn hg (bz BK318))); have n9_ := Aside0.mk ((gm hg (bz BK318))); have n10_ := Aside0.mk ((gn hg (bz BK319))); have n11_ := Aside0.mk ((gm hg (bz BK319))); clear HO324 HO327 BK318 BK319 HB; have HO324 := n0_; have HO327 := n1_; have BK318 := n2_; have BK319 := n3_; have HB := n4_; have BK329 := n5_; have GW329 := n6_; have GE329 := n7_; have NB318_329 := n8_; have NB329_318 := n9_; have NB319_329 := n10_; have NB329_319 := n11_; clear n0_ n1_ n2_ n3_ n4_ n5_ n6_ n7_ n8_ n9_ n10_ n11_ hb hbox hg; have hnb22 := NB329_318.out; have hnc22 := NB318_329.out; have hnb23 := NB329_319.out; have hnc23 := NB319_329.out; have hcz24_0 := cz0 BK329; have hcz24_1 := cz1 BK329; have hcz24_2 := cz2 BK329; have hcz24_3 := cz3 BK329; have hfz24_0 := blk_frozen BK329.out 0; have hfz24_1 := blk_frozen BK329.out 1; have hfz24_2 := blk_frozen BK329.out 2; have hfz24_3 := blk_frozen BK329.out 3; obtain ⟨Ao25, co25, eo25⟩ := Kd.S_slice HO324.out; subst eo25; obtain ⟨Ao26, co26, eo26⟩ := Kd.R_slice HO327.out; subst eo26))
    go_loopg [7, 8] kj2 (fun kq v7 v8 w' => ∃ (x7_2 : Int) (x8_2 : Int) (x330000_2 : Int) (x330001_2 : List (List Int)) (x330002_2 : List Int) (x330003_2 : Int) (u330001 : Value) (u330002 : Value), v7 = .int .i64 x7_2 ∧ v8 = .int .i64 x8_2 ∧ Aside0 (spec_AfterDeaths.l0 kq l1 x7_2 x8_2 x330000_2 x330001_2 x330002_2 x330003_2 = some (r1, r2, r3, r4, r5)) ∧ Aside0 (kq ≤ kj2) ∧ Aside0 (Kd.S (Kd.slice 3 (Kd.int .i64)) 23 w' w.heap.size (fun k_ => some k_ ≠ (u330002 : Value).ownBlock) u330001 x330001_2) ∧ Aside0 (Kd.R (Kd.int .i64) 3 w' w.heap.size (fun _ => True) u330002 x330002_2) ∧ Aside0 (w'.heap[gb318]? = some (.cells #[.int .i64 a0_0, (.slice A0_1 l0_1.length c0_1), (.slice A0_2 l0_2.length c0_2), .int .i64 a0_3] 28 (0, 0))) ∧ Aside0 (w'.heap[gb319]? = some (.cells #[.int .i64 0, (.slice none 0 0), (.slice none 0 0), .int .i64 0] 28 (0, 0))) ∧ Aside0 (w'.heap[gb329]? = some (.cells #[.int .i64 x330000_2, u330001, u330002, .int .i64 x330003_2] 28 (0, 0))) ∧ Aside0 (Below w.heap.size w w'))
    case atStart => exact ⟨(0), (0), (t321), (t322), (t325), (t328), (.slice Ao25 t322.length co25), (.slice Ao26 t325.length co26), (by first | rfl | (simp; done) | (simp [*]; done)), (by first | rfl | (simp; done) | (simp [*]; done)), H', ⟨Nat.le_refl _⟩, ⟨gS HO324 BK329⟩, ⟨gR HO327 BK329⟩, ⟨bf NB318_329 BK318⟩, ⟨bf NB319_329 BK319⟩, ⟨bp BK329⟩, ⟨by exact bh⟩⟩
    case round =>
     clear H'
     try clear c1
     try clear c2
     try clear p2
     try clear c4
     try clear c6
     try clear c7
     try clear c8
     try clear c11
     try clear c14
     try clear c15
     try clear c17
     try clear c18
     try clear c22
     try clear c23
     try clear hcz12_0
     try clear hcz12_1
     try clear hcz12_2
     try clear hcz12_3
     try clear hcz16_0
     try clear hcz16_1
     try clear hcz16_2
     try clear hcz16_3
     try clear hcz19_0
     try clear hcz19_1
     try clear hcz19_2
     try clear hcz19_3
     try clear hcz24_0
     try clear hcz24_1
     try clear hcz24_2
     try clear hcz24_3
     try clear hcz9_0
     try clear hcz9_1
     try clear hcz9_2
     try clear hcz9_3
     try clear hfz12_0
     try clear hfz12_1
     try clear hfz12_2
     try clear hfz12_3
     try clear hfz16_0
     try clear hfz16_1
     try clear hfz16_2
     try clear hfz16_3
     try clear hfz19_0
     try clear hfz19_1
     try clear hfz19_2
     try clear hfz19_3
     try clear hfz24_0
     try clear hfz24_1
     try clear hfz24_2
     try clear hfz24_3
     try clear hfz9_0
     try clear hfz9_1
     try clear hfz9_2
     try clear hfz9_3
     try clear p2
     obtain ⟨x7_2, x8_2, x330000_2, x330001_2, x330002_2, x330003_2, u330001, u330002, rfl, rfl, HA, HK2, HO_330001, HO_330002, BK318, BK319, BK329, HB⟩ := hrel
     cases gk with
     | zero => exact absurd HA.out (by simp [spec_AfterDeaths.l0])
     | succ k2 =>
      have H := HA.out
      clear HA
      simp only [spec_AfterDeaths.l0] at H
      by_cases c27 : x8_2 < (l1.length : Int)
      ·rw [if_pos c27] at H
       have c27b0 : decide (x8_2 < (l1.length : Int)) = true := decide_eq_true c27
       clear c27
       by_cases c28 : 0 ≤ x8_2
       ·rw [if_pos c28] at H
        have c28b0 : decide (0 ≤ x8_2) = true := decide_eq_true c28
        clear c28
        replace H := Option.bind_eq_some_iff.mp H
        obtain ⟨⟨t331, t332, t335, t338, t339⟩, A290, H⟩ := H
        replace H : (if t339 = true then (spec_AfterDeaths.l0 k2 l1 (wrap64 (x7_2 + 1)) (wrap64 (x8_2 + 1)) t331 t332 t335 t338) else (spec_AfterDeaths.l0 k2 l1 x7_2 (wrap64 (x8_2 + 1)) x330000_2 x330001_2 x330002_2 x330003_2)) = some (r1, r2, r3, r4, r5) := H
        have A29 := Aside0.mk A290
        clear A290
        by_cases c30 : t339 = true
        ·subst c30
         have H1 : (spec_AfterDeaths.l0 k2 l1 (wrap64 (x7_2 + 1)) (wrap64 (x8_2 + 1)) t331 t332 t335 t338) = some (r1, r2, r3, r4, r5) := by rw [if_pos rfl] at H; exact H
         clear H
         have H := H1
         clear H1
         have H' := Aside0.mk H
         clear H
         obtain ⟨Ao31, co31, eo31⟩ := Kd.S_slice HO_330001.out
         subst eo31
         obtain ⟨Ao32, co32, eo32⟩ := Kd.R_slice HO_330002.out
         subst eo32
         try go_wp2
         have n0_ := Aside0.mk (Kd.S_drew HO_330001.out)
         have n1_ := Aside0.mk (Kd.R_drew HO_330002.out)
         have n2_ := Aside0.mk (blk_drew BK318.out)
         have n3_ := Aside0.mk (blk_drew BK319.out)
         have n4_ := Aside0.mk (blk_drew BK329.out)
         have n5_ := Aside0.mk (below_drew1 HB.out)
         clear HO_330001 HO_330002 BK318 BK319 BK329 HB
         have HO_330001 := n0_
         have HO_330002 := n1_
         have BK318 := n2_
         have BK319 := n3_
         have BK329 := n4_
         have HB := n5_
         clear n0_ n1_ n2_ n3_ n4_ n5_
         have p330 : 0 ≤ (x8_2 : Int) := oda
         have q330 : x8_2 < (l1.length : Int) := oda
         obtain ⟨ad330, e330, hx330_0⟩ := Kd.at_int HR1.out x8_2 p330 q330
         have hw330_0 := hx330_0
         cases e330
         replace hx330_0 := (HB.out.cell (World.block_lt_of_cell? w _ hx330_0)).trans hx330_0
         replace p330 := eq_true p330
         replace q330 := eq_true q330
         refine start_ (n := 12) (S := fun w' => w'.cell? ⟨gb329, 0, none⟩ = some (.int .i64 x330000_2) ∧ w'.cell? ⟨gb329, 1, none⟩ = some (.slice Ao31 x330001_2.length co31) ∧ w'.cell? ⟨gb329, 2, none⟩ = some (.slice Ao32 x330002_2.length co32) ∧ w'.cell? ⟨gb329, 3, none⟩ = some (.int .i64 x330003_2) ∧ w'.cell? (ad330.add (x8_2).toNat) = some (.int .i64 (rd l1 x8_2))) (ds := []) #[F,F,F,F,F,F,F,F,F,F,F,F] kr rfl rfl ⟨cz0 BK329, cz1 BK329, cz2 BK329, cz3 BK329, ((HB.out.cell (World.block_lt_of_cell? w _ hw330_0)).trans hw330_0)⟩ (fun hHeld => ?_); refine with_tabW spec_AfterDeaths.tab8 spec_AfterDeaths.bits8 (fun HT_ HW_ => ?_)
         generalize wr.drew = w33 at HO_330001 HO_330002 BK318 BK319 BK329 HB hx330_0 hHeld ⊢
         refine pu 1 (some 30) #[F,T,F,F,F,F,F,F,F,F,F,F] (any_of HT_.out kr) ?_
         refine pu 2 (some 31) #[F,T,T,F,F,F,F,F,F,F,F,F] (any_of HT_.out kr) ?_
         refine pu 3 (some 32) #[F,T,T,T,F,F,F,F,F,F,F,F] (any_of HT_.out kr) ?_
         refine tk5 0 (some 29) #[T,T,T,T,F,F,F,F,F,F,F,F] (take_ofW HT_.out HW_.out kr) ?_
         refine tk5 4 (some 33) #[T,T,T,T,T,F,F,F,F,F,F,F] (take_ofW HT_.out HW_.out kr) ?_
         refine join_ (σ := Value × Value × Nat) 2 #[T,T,T,T,T,T,T,T,T,T,F,F] (fun s_ => [(34, .tuple #[.agg #[.int .i64 t331, s_.1, s_.2.1, .int .i64 t338], .bool true]), (9, .pointer (some ⟨s_.2.2, 0, none⟩)), (28, .tuple #[.agg #[.int .i64 t331, s_.1, s_.2.1, .int .i64 t338], .bool true]), (35, .agg #[.int .i64 t331, s_.1, s_.2.1, .int .i64 t338]), (36, .bool true)]) (fun s_ w' => (w'.cell? ⟨gb329, 0, none⟩ = some (.int .i64 x330000_2) ∧ w'.cell? ⟨gb329, 1, none⟩ = some (.slice Ao31 x330001_2.length co31) ∧ w'.cell? ⟨gb329, 2, none⟩ = some (.slice Ao32 x330002_2.length co32) ∧ w'.cell? ⟨gb329, 3, none⟩ = some (.int .i64 x330003_2) ∧ w'.cell? (ad330.add (x8_2).toNat) = some (.int .i64 (rd l1 x8_2))) ∧ (Kd.S (Kd.slice 3 (Kd.int .i64)) 23 w' w.heap.size (fun k_ => some k_ ≠ (s_.2.1 : Value).ownBlock ∧ some k_ ≠ (.slice Ao31 x330001_2.length co31 : Value).ownBlock ∧ some k_ ≠ (.slice Ao32 x330002_2.length co32 : Value).ownBlock) s_.1 t332) ∧ (Kd.R (Kd.int .i64) 3 w' w.heap.size (fun k_ => some k_ ≠ (.slice Ao32 x330002_2.length co32 : Value).ownBlock) s_.2.1 t335) ∧ (Kd.S (Kd.slice 3 (Kd.int .i64)) 23 w' w.heap.size (fun k_ => some k_ ≠ (s_.1 : Value).ownBlock ∧ some k_ ≠ (s_.2.1 : Value).ownBlock ∧ some k_ ≠ (.slice Ao32 x330002_2.length co32 : Value).ownBlock) (.slice Ao31 x330001_2.length co31) x330001_2) ∧ (Kd.R (Kd.int .i64) 3 w' w.heap.size (fun k_ => some k_ ≠ (s_.2.1 : Value).ownBlock) (.slice Ao32 x330002_2.length co32) x330002_2) ∧ (w'.heap[gb318]? = some (.cells #[.int .i64 a0_0, .slice A0_1 l0_1.length c0_1, .slice A0_2 l0_2.length c0_2, .int .i64 a0_3] 28 (0, 0))) ∧ (w'.heap[gb319]? = some (.cells #[.int .i64 0, .slice none 0 0, .slice none 0 0, .int .i64 0] 28 (0, 0))) ∧ (w'.heap[gb329]? = some (.cells #[.int .i64 x330000_2, .slice Ao31 x330001_2.length co31, .slice Ao32 x330002_2.length co32, .int .i64 x330003_2] 28 (0, 0))) ∧ (w'.heap[s_.2.2]? = some (.cells #[.int .i64 0, .slice none 0 0, .slice none 0 0, .int .i64 0] 28 (0, 0))) ∧ (w.heap.size ≤ s_.2.2) ∧ (w.heap.size ≤ s_.2.2) ∧ (gb318 ≠ s_.2.2) ∧ (s_.2.2 ≠ gb318) ∧ (gb319 ≠ s_.2.2) ∧ (s_.2.2 ≠ gb319) ∧ (gb329 ≠ s_.2.2) ∧ (s_.2.2 ≠ gb329) ∧ (Below w.heap.size w w')) ?_ ?_
         rotate_left
         ·intro hCont
          refine two_ (i := 5) (j := 9) (Ni := some 34) (Nj := some 9) #[T,T,T,T,T,T,F,F,F,F,F,F] #[T,T,T,T,T,F,F,F,F,T,F,F] rfl rfl rfl rfl (two_of HT_.out kr) (by decide) (by decide) (fun K hK => ?_) (fun K hK => ?_)
          ·skip
           refine goes_ Try.func46 kr rfl #[.agg #[.int .i64 x330000_2, .slice Ao31 x330001_2.length co31, .slice Ao32 x330002_2.length co32, .int .i64 x330003_2], .int .i64 (rd l1 x8_2)] (by rfl) rfl rfl lm ?_
           with_reducible refine (spec_AfterDeath.calls k2 x330000_2 _ _ x330001_2 _ _ x330002_2 x330003_2 (rd l1 x8_2) t331 t332 t335 t338 true _ ?side1 ?side2 ?side3 ?side4 A29.out).mono ?_
           (case side1 => repeat (first | exact (Kd.S_reads' HO_330001.out).2.2 | (with_reducible refine Kd.C_alloc ?_ _) | (with_reducible refine Kd.C_drewN ?_ _) | (with_reducible refine Kd.C_drew ?_)))
           (case side2 => exact (Kd.S_reads' HO_330001.out).2.1)
           (case side3 => repeat (first | exact (Kd.R_reads' HO_330002.out).2.2 | (with_reducible refine Kd.C_alloc ?_ _) | (with_reducible refine Kd.C_drewN ?_ _) | (with_reducible refine Kd.C_drew ?_)))
           (case side4 => exact (Kd.R_reads' HO_330002.out).2.1)
           rintro e w34 ⟨v333, v336, rfl, ho0, ho1, hb⟩
           refine ⟨_, rfl, ?_⟩
           have n0_ := Aside0.mk (Kd.S_mono (Kd.S_told (Kd.S_told (Kd.S_old (sz HO_330001) hb) (Kd.S_base ho0)) (Kd.R_base ho1)) (fun _ h_ => h_.1))
           have n1_ := Aside0.mk (Kd.R_elder' (rz HO_330002) (Kd.R_base ho1) hb)
           have n2_ := Aside0.mk (Kd.S_lower (Kd.S_new' (Kd.S_new' ho0 (Kd.S_lt (sz HO_330001))) (Kd.R_lt (rz HO_330002))) (below_size bh))
           have n3_ := Aside0.mk (Kd.R_lower (Kd.R_new' ho1 (Kd.R_lt (rz HO_330002))) (below_size bh))
           have n4_ := Aside0.mk (blk_below (bz BK318) hb)
           have n5_ := Aside0.mk (blk_below (bz BK319) hb)
           have n6_ := Aside0.mk (blk_below (bz BK329) hb)
           have n7_ := Aside0.mk (below_step bh hb)
           clear HO_330001 HO_330002 BK318 BK319 BK329 HB
           have HO_330001 := n0_
           have HO_330002 := n1_
           have HO334 := n2_
           have HO337 := n3_
           have BK318 := n4_
           have BK319 := n5_
           have BK329 := n6_
           have HB := n7_
           clear n0_ n1_ n2_ n3_ n4_ n5_ n6_ n7_
           (try clear hb)
           (try clear hb2)
           (try clear hk)
           (try clear hi)
           (try clear ho0)
           (try clear ho1)
           refine hK.out _ _ ⟨cz0 BK329, cz1 BK329, cz2 BK329, cz3 BK329, ((HB.out.cell (World.block_lt_of_cell? w _ hw330_0)).trans hw330_0)⟩ (fun hHeld => ?_)
           clear hK K
           refine norm_ (a' := ?_) ?_ ?_
           rotate_left
           ·show Act.put _ (some 34) _ = _
            simp only [Act.put, List.setIfInBounds_toArray, List.set_cons_zero, List.set_cons_succ, i64_w, i32_w]
            rfl
           refine pu 6 (some 28) #[T,T,T,T,T,T,T,F,F,F,F,F] (any_of HT_.out kr) ?_
           refine pu 7 (some 35) #[T,T,T,T,T,T,T,T,F,F,F,F] (any_of HT_.out kr) ?_
           refine pu 8 (some 36) #[T,T,T,T,T,T,T,T,T,F,F,F] (any_of HT_.out kr) ?_
           refine one_ (i := 9) (N := some 9) #[T,T,T,T,T,T,T,T,T,T,F,F] rfl rfl (one_of HT_.out kr) (by decide) (fun K hK => ?_)
           refine box_step ?hg (N := 9) ?hd (cs := #[.int .i64 0, .slice none 0 0, .slice none 0 0, .int .i64 0]) (t := 28) ?hr ?_; (case hd => rfl); (case hg => rfl); (case hr => first | (go_simp; done) | (go_simp; rfl))
           intro gb340 hg w35 hbox hb
           have n0_ := Aside0.mk (Kd.S_below (sz HO_330001) hb)
           have n1_ := Aside0.mk (Kd.R_below (rz HO_330002) hb)
           have n2_ := Aside0.mk (Kd.S_below (sz HO334) hb)
           have n3_ := Aside0.mk (Kd.R_below (rz HO337) hb)
           have n4_ := Aside0.mk (blk_below (bz BK318) hb)
           have n5_ := Aside0.mk (blk_below (bz BK319) hb)
           have n6_ := Aside0.mk (blk_below (bz BK329) hb)
           have n7_ := Aside0.mk (below_step bh hb)
           have n8_ := Aside0.mk (hbox)
           have n9_ := Aside0.mk ((gs (W0 := w) hg bh))
           have n10_ := Aside0.mk ((gs (W0 := w) hg bh))
           have n11_ := Aside0.mk ((gn hg (bz BK318)))
           have n12_ := Aside0.mk ((gm hg (bz BK318)))
           have n13_ := Aside0.mk ((gn hg (bz BK319)))
           have n14_ := Aside0.mk ((gm hg (bz BK319)))
           have n15_ := Aside0.mk ((gn hg (bz BK329)))
           have n16_ := Aside0.mk ((gm hg (bz BK329)))
           clear HO_330001 HO_330002 HO334 HO337 BK318 BK319 BK329 HB
           have HO_330001 := n0_
           have HO_330002 := n1_
           have HO334 := n2_
           have HO337 := n3_
           have BK318 := n4_
           have BK319 := n5_
           have BK329 := n6_
           have HB := n7_
           have BK340 := n8_
           have GW340 := n9_
           have GE340 := n10_
           have NB318_340 := n11_
           have NB340_318 := n12_
           have NB319_340 := n13_
           have NB340_319 := n14_
           have NB329_340 := n15_
           have NB340_329 := n16_
           clear n0_ n1_ n2_ n3_ n4_ n5_ n6_ n7_ n8_ n9_ n10_ n11_ n12_ n13_ n14_ n15_ n16_ hb hbox hg
           refine hK.out _ _ ⟨cz0 BK329, cz1 BK329, cz2 BK329, cz3 BK329, ((HB.out.cell (World.block_lt_of_cell? w _ hw330_0)).trans hw330_0)⟩ (fun hHeld => ?_)
           clear hK K
           refine norm_ (a' := ?_) ?_ ?_
           rotate_left
           ·show Act.put _ (some 9) _ = _
            simp only [Act.put, List.setIfInBounds_toArray, List.set_cons_zero, List.set_cons_succ, i64_w, i32_w]
            rfl
           exact norm_ (by simp only [putAll, Act.put, List.setIfInBounds_toArray, List.set_cons_zero, List.set_cons_succ]) (hCont (v333, v336, gb340) _ ⟨hHeld, (mS HO334), (mR HO337), (mS HO_330001), (mR HO_330002), (bz BK318), (bz BK319), (bz BK329), (bz BK340), GW340.out, GE340.out, NB318_340.out, NB340_318.out, NB319_340.out, NB340_319.out, NB329_340.out, NB340_329.out, bh⟩)
          ·skip
           refine box_step ?hg (N := 9) ?hd (cs := #[.int .i64 0, .slice none 0 0, .slice none 0 0, .int .i64 0]) (t := 28) ?hr ?_; (case hd => rfl); (case hg => rfl); (case hr => first | (go_simp; done) | (go_simp; rfl))
           intro gb340 hg w34 hbox hb
           have n0_ := Aside0.mk (Kd.S_below (sz HO_330001) hb)
           have n1_ := Aside0.mk (Kd.R_below (rz HO_330002) hb)
           have n2_ := Aside0.mk (blk_below (bz BK318) hb)
           have n3_ := Aside0.mk (blk_below (bz BK319) hb)
           have n4_ := Aside0.mk (blk_below (bz BK329) hb)
           have n5_ := Aside0.mk (below_step bh hb)
           have n6_ := Aside0.mk (hbox)
           have n7_ := Aside0.mk ((gs (W0 := w) hg bh))
           have n8_ := Aside0.mk ((gs (W0 := w) hg bh))
           have n9_ := Aside0.mk ((gn hg (bz BK318)))
           have n10_ := Aside0.mk ((gm hg (bz BK318)))
           have n11_ := Aside0.mk ((gn hg (bz BK319)))
           have n12_ := Aside0.mk ((gm hg (bz BK319)))
           have n13_ := Aside0.mk ((gn hg (bz BK329)))
           have n14_ := Aside0.mk ((gm hg (bz BK329)))
           clear HO_330001 HO_330002 BK318 BK319 BK329 HB
           have HO_330001 := n0_
           have HO_330002 := n1_
           have BK318 := n2_
           have BK319 := n3_
           have BK329 := n4_
           have HB := n5_
           have BK340 := n6_
           have GW340 := n7_
           have GE340 := n8_
           have NB318_340 := n9_
           have NB340_318 := n10_
           have NB319_340 := n11_
           have NB340_319 := n12_
           have NB329_340 := n13_
           have NB340_329 := n14_
           clear n0_ n1_ n2_ n3_ n4_ n5_ n6_ n7_ n8_ n9_ n10_ n11_ n12_ n13_ n14_ hb hbox hg
           refine hK.out _ _ ⟨cz0 BK329, cz1 BK329, cz2 BK329, cz3 BK329, ((HB.out.cell (World.block_lt_of_cell? w _ hw330_0)).trans hw330_0)⟩ (fun hHeld => ?_)
           clear hK K
           refine norm_ (a' := ?_) ?_ ?_
           rotate_left
           ·show Act.put _ (some 9) _ = _
            simp only [Act.put, List.setIfInBounds_toArray, List.set_cons_zero, List.set_cons_succ, i64_w, i32_w]
            rfl
           refine one_ (i := 5) (N := some 34) #[T,T,T,T,T,T,F,F,F,T,F,F] rfl rfl (one_of HT_.out kr) (by decide) (fun K hK => ?_)
           refine goes_ Try.func46 kr rfl #[.agg #[.int .i64 x330000_2, .slice Ao31 x330001_2.length co31, .slice Ao32 x330002_2.length co32, .int .i64 x330003_2], .int .i64 (rd l1 x8_2)] (by rfl) rfl rfl lm ?_
           with_reducible refine (spec_AfterDeath.calls k2 x330000_2 _ _ x330001_2 _ _ x330002_2 x330003_2 (rd l1 x8_2) t331 t332 t335 t338 true _ ?side1 ?side2 ?side3 ?side4 A29.out).mono ?_
           (case side1 => repeat (first | exact (Kd.S_reads' HO_330001.out).2.2 | (with_reducible refine Kd.C_alloc ?_ _) | (with_reducible refine Kd.C_drewN ?_ _) | (with_reducible refine Kd.C_drew ?_)))
           (case side2 => exact (Kd.S_reads' HO_330001.out).2.1)
           (case side3 => repeat (first | exact (Kd.R_reads' HO_330002.out).2.2 | (with_reducible refine Kd.C_alloc ?_ _) | (with_reducible refine Kd.C_drewN ?_ _) | (with_reducible refine Kd.C_drew ?_)))
           (case side4 => exact (Kd.R_reads' HO_330002.out).2.1)
           rintro e w35 ⟨v333, v336, rfl, ho0, ho1, hb⟩
           refine ⟨_, rfl, ?_⟩
           have n0_ := Aside0.mk (Kd.S_mono (Kd.S_told (Kd.S_told (Kd.S_old (sz HO_330001) hb) (Kd.S_base ho0)) (Kd.R_base ho1)) (fun _ h_ => h_.1))
           have n1_ := Aside0.mk (Kd.R_elder' (rz HO_330002) (Kd.R_base ho1) hb)
           have n2_ := Aside0.mk (Kd.S_lower (Kd.S_new' (Kd.S_new' ho0 (Kd.S_lt (sz HO_330001))) (Kd.R_lt (rz HO_330002))) (below_size bh))
           have n3_ := Aside0.mk (Kd.R_lower (Kd.R_new' ho1 (Kd.R_lt (rz HO_330002))) (below_size bh))
           have n4_ := Aside0.mk (blk_below (bz BK318) hb)
           have n5_ := Aside0.mk (blk_below (bz BK319) hb)
           have n6_ := Aside0.mk (blk_below (bz BK329) hb)
           have n7_ := Aside0.mk (blk_below (bz BK340) hb)
           have n8_ := Aside0.mk (below_step bh hb)
           clear HO_330001 HO_330002 BK318 BK319 BK329 BK340 HB
           have HO_330001 := n0_
           have HO_330002 := n1_
           have HO334 := n2_
           have HO337 := n3_
           have BK318 := n4_
           have BK319 := n5_
           have BK329 := n6_
           have BK340 := n7_
           have HB := n8_
           clear n0_ n1_ n2_ n3_ n4_ n5_ n6_ n7_ n8_
           (try clear hb)
           (try clear hb2)
           (try clear hk)
           (try clear hi)
           (try clear ho0)
           (try clear ho1)
           refine hK.out _ _ ⟨cz0 BK329, cz1 BK329, cz2 BK329, cz3 BK329, ((HB.out.cell (World.block_lt_of_cell? w _ hw330_0)).trans hw330_0)⟩ (fun hHeld => ?_)
           clear hK K
           refine norm_ (a' := ?_) ?_ ?_
           rotate_left
           ·show Act.put _ (some 34) _ = _
            simp only [Act.put, List.setIfInBounds_toArray, List.set_cons_zero, List.set_cons_succ, i64_w, i32_w]
            rfl
           refine pu 6 (some 28) #[T,T,T,T,T,T,T,F,F,T,F,F] (any_of HT_.out kr) ?_
           refine pu 7 (some 35) #[T,T,T,T,T,T,T,T,F,T,F,F] (any_of HT_.out kr) ?_
           refine pu 8 (some 36) #[T,T,T,T,T,T,T,T,T,T,F,F] (any_of HT_.out kr) ?_
           exact norm_ (by simp only [putAll, Act.put, List.setIfInBounds_toArray, List.set_cons_zero, List.set_cons_succ]) (hCont (v333, v336, gb340) _ ⟨hHeld, (mS HO334), (mR HO337), (mS HO_330001), (mR HO_330002), (bz BK318), (bz BK319), (bz BK329), (bz BK340), GW340.out, GE340.out, NB318_340.out, NB340_318.out, NB319_340.out, NB340_319.out, NB329_340.out, NB340_329.out, bh⟩)
         rintro ⟨v333, v336, gb340⟩ w36 ⟨hS_, h0_, h1_, h2_, h3_, h4_, h5_, h6_, h7_, h8_, h9_, h10_, h11_, h12_, h13_, h14_, h15_, h16_⟩
         clear HO_330001 HO_330002 BK318 BK319 BK329 HB
         have HO334 := Aside0.mk h0_
         have HO337 := Aside0.mk h1_
         have HO_330001 := Aside0.mk h2_
         have HO_330002 := Aside0.mk h3_
         have BK318 := Aside0.mk h4_
         have BK319 := Aside0.mk h5_
         have BK329 := Aside0.mk h6_
         have BK340 := Aside0.mk h7_
         have GW340 := Aside0.mk h8_
         have GE340 := Aside0.mk h9_
         have NB318_340 := Aside0.mk h10_
         have NB340_318 := Aside0.mk h11_
         have NB319_340 := Aside0.mk h12_
         have NB340_319 := Aside0.mk h13_
         have NB329_340 := Aside0.mk h14_
         have NB340_329 := Aside0.mk h15_
         have HB := Aside0.mk h16_
         clear h0_ h1_ h2_ h3_ h4_ h5_ h6_ h7_ h8_ h9_ h10_ h11_ h12_ h13_ h14_ h15_ h16_
         have hHeld : w36.cell? ⟨gb329, 0, none⟩ = some (.int .i64 x330000_2) ∧ w36.cell? ⟨gb329, 1, none⟩ = some (.slice Ao31 x330001_2.length co31) ∧ w36.cell? ⟨gb329, 2, none⟩ = some (.slice Ao32 x330002_2.length co32) ∧ w36.cell? ⟨gb329, 3, none⟩ = some (.int .i64 x330003_2) ∧ w36.cell? (ad330.add (x8_2).toNat) = some (.int .i64 (rd l1 x8_2)) := hS_
         obtain ⟨Ao38, co38, eo38⟩ := Kd.S_slice HO334.out
         (first | subst eo38 | (injection eo38 with f1_ f2_ f3_; have f4_ := f1_.symm; have f5_ := f3_.symm; clear f1_ f2_ f3_; subst f4_; subst f5_))
         obtain ⟨Ao40, co40, eo40⟩ := Kd.R_slice HO337.out
         (first | subst eo40 | (injection eo40 with f1_ f2_ f3_; have f4_ := f1_.symm; have f5_ := f3_.symm; clear f1_ f2_ f3_; subst f4_; subst f5_))
         refine norm_ (a' := ?_) ?_ ?_
         rotate_left
         ·simp only [putAll, Act.put, List.setIfInBounds_toArray, List.set_cons_zero, List.set_cons_succ]
          rfl
         refine one_ (i := 10) (N := none) #[T,T,T,T,T,T,T,T,T,T,T,F] rfl rfl (one_of HT_.out kr) (by decide) (fun K hK => ?_)
         have hs37 := cz0 BK340
         have hfs37 := blk_frozen BK340.out 0
         have hns37_0 := NB318_340.out
         have hns37_1 := NB319_340.out
         have hns37_2 := NB329_340.out
         have hms37_0 := NB340_318.out
         have hms37_1 := NB340_319.out
         have hms37_2 := NB340_329.out
         have hs39 := cz1 BK340
         have hfs39 := blk_frozen BK340.out 1
         have hns39_0 := NB318_340.out
         have hns39_1 := NB319_340.out
         have hns39_2 := NB329_340.out
         have hms39_0 := NB340_318.out
         have hms39_1 := NB340_319.out
         have hms39_2 := NB340_329.out
         have hs41 := cz2 BK340
         have hfs41 := blk_frozen BK340.out 2
         have hns41_0 := NB318_340.out
         have hns41_1 := NB319_340.out
         have hns41_2 := NB329_340.out
         have hms41_0 := NB340_318.out
         have hms41_1 := NB340_319.out
         have hms41_2 := NB340_329.out
         have hs42 := cz3 BK340
         have hfs42 := blk_frozen BK340.out 3
         have hns42_0 := NB318_340.out
         have hns42_1 := NB319_340.out
         have hns42_2 := NB329_340.out
         have hms42_0 := NB340_318.out
         have hms42_1 := NB340_319.out
         have hms42_2 := NB340_329.out
         refine skip_ (w1 := ?_) (by rfl) rfl ?_ ?_
         rotate_left
         ·go_simp
          rfl
         refine hK.out _ _ ⟨((cell_far (p := ⟨gb340, _, none⟩) NB329_340.out _).trans (((cell_far (p := ⟨gb340, _, none⟩) NB329_340.out _).trans (((cell_far (p := ⟨gb340, _, none⟩) NB329_340.out _).trans (((cell_far (p := ⟨gb340, _, none⟩) NB329_340.out _).trans (hHeld.1)))))))), ((cell_far (p := ⟨gb340, _, none⟩) NB329_340.out _).trans (((cell_far (p := ⟨gb340, _, none⟩) NB329_340.out _).trans (((cell_far (p := ⟨gb340, _, none⟩) NB329_340.out _).trans (((cell_far (p := ⟨gb340, _, none⟩) NB329_340.out _).trans (hHeld.2.1)))))))), ((cell_far (p := ⟨gb340, _, none⟩) NB329_340.out _).trans (((cell_far (p := ⟨gb340, _, none⟩) NB329_340.out _).trans (((cell_far (p := ⟨gb340, _, none⟩) NB329_340.out _).trans (((cell_far (p := ⟨gb340, _, none⟩) NB329_340.out _).trans (hHeld.2.2.1)))))))), ((cell_far (p := ⟨gb340, _, none⟩) NB329_340.out _).trans (((cell_far (p := ⟨gb340, _, none⟩) NB329_340.out _).trans (((cell_far (p := ⟨gb340, _, none⟩) NB329_340.out _).trans (((cell_far (p := ⟨gb340, _, none⟩) NB329_340.out _).trans (hHeld.2.2.2.1)))))))), ((cell_far (p := ⟨gb340, _, none⟩) (by first | exact Nat.ne_of_lt (Nat.lt_of_lt_of_le (by have := World.block_lt_of_cell? _ _ hw330_0; first | rwa [add_block] at this | exact this) GW340.out) | (rw [add_block]; exact Nat.ne_of_lt (Nat.lt_of_lt_of_le (by have := World.block_lt_of_cell? _ _ hw330_0; first | rwa [add_block] at this | exact this) GW340.out)) | (show (Addr.add _ _).block ≠ _; rw [add_block]; exact Nat.ne_of_lt (Nat.lt_of_lt_of_le (by have := World.block_lt_of_cell? _ _ hw330_0; first | rwa [add_block] at this | exact this) GW340.out)) | (dsimp only; exact Nat.ne_of_lt (Nat.lt_of_lt_of_le (by have := World.block_lt_of_cell? _ _ hw330_0; first | rwa [add_block] at this | exact this) GW340.out))) _).trans (((cell_far (p := ⟨gb340, _, none⟩) (by first | exact Nat.ne_of_lt (Nat.lt_of_lt_of_le (by have := World.block_lt_of_cell? _ _ hw330_0; first | rwa [add_block] at this | exact this) GW340.out) | (rw [add_block]; exact Nat.ne_of_lt (Nat.lt_of_lt_of_le (by have := World.block_lt_of_cell? _ _ hw330_0; first | rwa [add_block] at this | exact this) GW340.out)) | (show (Addr.add _ _).block ≠ _; rw [add_block]; exact Nat.ne_of_lt (Nat.lt_of_lt_of_le (by have := World.block_lt_of_cell? _ _ hw330_0; first | rwa [add_block] at this | exact this) GW340.out)) | (dsimp only; exact Nat.ne_of_lt (Nat.lt_of_lt_of_le (by have := World.block_lt_of_cell? _ _ hw330_0; first | rwa [add_block] at this | exact this) GW340.out))) _).trans (((cell_far (p := ⟨gb340, _, none⟩) (by first | exact Nat.ne_of_lt (Nat.lt_of_lt_of_le (by have := World.block_lt_of_cell? _ _ hw330_0; first | rwa [add_block] at this | exact this) GW340.out) | (rw [add_block]; exact Nat.ne_of_lt (Nat.lt_of_lt_of_le (by have := World.block_lt_of_cell? _ _ hw330_0; first | rwa [add_block] at this | exact this) GW340.out)) | (show (Addr.add _ _).block ≠ _; rw [add_block]; exact Nat.ne_of_lt (Nat.lt_of_lt_of_le (by have := World.block_lt_of_cell? _ _ hw330_0; first | rwa [add_block] at this | exact this) GW340.out)) | (dsimp only; exact Nat.ne_of_lt (Nat.lt_of_lt_of_le (by have := World.block_lt_of_cell? _ _ hw330_0; first | rwa [add_block] at this | exact this) GW340.out))) _).trans (((cell_far (p := ⟨gb340, _, none⟩) (by first | exact Nat.ne_of_lt (Nat.lt_of_lt_of_le (by have := World.block_lt_of_cell? _ _ hw330_0; first | rwa [add_block] at this | exact this) GW340.out) | (rw [add_block]; exact Nat.ne_of_lt (Nat.lt_of_lt_of_le (by have := World.block_lt_of_cell? _ _ hw330_0; first | rwa [add_block] at this | exact this) GW340.out)) | (show (Addr.add _ _).block ≠ _; rw [add_block]; exact Nat.ne_of_lt (Nat.lt_of_lt_of_le (by have := World.block_lt_of_cell? _ _ hw330_0; first | rwa [add_block] at this | exact this) GW340.out)) | (dsimp only; exact Nat.ne_of_lt (Nat.lt_of_lt_of_le (by have := World.block_lt_of_cell? _ _ hw330_0; first | rwa [add_block] at this | exact this) GW340.out))) _).trans (hHeld.2.2.2.2))))))))⟩ (fun hHeld => ?_)
         clear hK K
         refine pu 11 (some 10) #[T,T,T,T,T,T,T,T,T,T,T,T] (any_of HT_.out kr) ?_
         refine done_ (done_of HT_.out kr) ?_
         have hnb43 := NB340_318.out
         have hnc43 := NB318_340.out
         have hnb44 := NB340_319.out
         have hnc44 := NB319_340.out
         have hnb45 := NB340_329.out
         have hnc45 := NB329_340.out
         have hcz46_0 := cz0 BK340
         have hcz46_1 := cz1 BK340
         have hcz46_2 := cz2 BK340
         have hcz46_3 := cz3 BK340
         have hfz46_0 := blk_frozen BK340.out 0
         have hfz46_1 := blk_frozen BK340.out 1
         have hfz46_2 := blk_frozen BK340.out 2
         have hfz46_3 := blk_frozen BK340.out 3
         have hnb47 := NB329_318.out
         have hnc47 := NB318_329.out
         have hnb48 := NB329_319.out
         have hnc48 := NB319_329.out
         have hcz49_0 := cz0 BK329
         have hcz49_1 := cz1 BK329
         have hcz49_2 := cz2 BK329
         have hcz49_3 := cz3 BK329
         have hfz49_0 := blk_frozen BK329.out 0
         have hfz49_1 := blk_frozen BK329.out 1
         have hfz49_2 := blk_frozen BK329.out 2
         have hfz49_3 := blk_frozen BK329.out 3
         try go_wp2
         go_roundg k2
         case measure => have := HJ2.out; have := HK2.out; omega
         case rel => exact ⟨(wrap64 (x7_2 + 1)), (wrap64 (x8_2 + 1)), (t331), (t332), (t335), (t338), (.slice Ao38 t332.length co38), (.slice Ao40 t335.length co40), (by first | rfl | (simp; done) | (simp [*]; done)), (by first | rfl | (simp; done) | (simp [*]; done)), H', ⟨by have := HJ2.out; have := HK2.out; omega⟩, ⟨by (with_reducible repeat (first | apply Kd.S_alloc | apply Kd.S_drewN | apply Kd.S_drew)); exact Kd.S_mono (Kd.S_far (p := ⟨gb329, 3, none⟩) (Kd.S_far (p := ⟨gb329, 2, none⟩) (Kd.S_far (p := ⟨gb329, 1, none⟩) (Kd.S_far (p := ⟨gb329, 0, none⟩) (Kd.S_far (p := ⟨gb340, 3, none⟩) (Kd.S_far (p := ⟨gb340, 2, none⟩) (Kd.S_far (p := ⟨gb340, 1, none⟩) (Kd.S_far (p := ⟨gb340, 0, none⟩) (Kd.S_types (Kd.S_types HO334.out BK340.out (by decide)) BK329.out (by decide)) (fun _ hk => hk.1.2) (.int .i64 t331)) (fun _ hk => hk.1.2) (.slice Ao38 t332.length co38)) (fun _ hk => hk.1.2) (.slice Ao40 t335.length co40)) (fun _ hk => hk.1.2) (.int .i64 t338)) (fun _ hk => hk.2) (.int .i64 t331)) (fun _ hk => hk.2) (.slice Ao38 t332.length co38)) (fun _ hk => hk.2) (.slice Ao40 t335.length co40)) (fun _ hk => hk.2) (.int .i64 t338)) (fun _ hk => hk.1.1.1)⟩, ⟨by (with_reducible repeat (first | apply Kd.R_alloc | apply Kd.R_drewN | apply Kd.R_drew)); exact Kd.R_mono (Kd.R_far (p := ⟨gb329, 3, none⟩) (Kd.R_far (p := ⟨gb329, 2, none⟩) (Kd.R_far (p := ⟨gb329, 1, none⟩) (Kd.R_far (p := ⟨gb329, 0, none⟩) (Kd.R_far (p := ⟨gb340, 3, none⟩) (Kd.R_far (p := ⟨gb340, 2, none⟩) (Kd.R_far (p := ⟨gb340, 1, none⟩) (Kd.R_far (p := ⟨gb340, 0, none⟩) (Kd.R_types (Kd.R_types HO337.out BK340.out (by decide)) BK329.out (by decide)) (fun _ hk => hk.1.2) (.int .i64 t331)) (fun _ hk => hk.1.2) (.slice Ao38 t332.length co38)) (fun _ hk => hk.1.2) (.slice Ao40 t335.length co40)) (fun _ hk => hk.1.2) (.int .i64 t338)) (fun _ hk => hk.2) (.int .i64 t331)) (fun _ hk => hk.2) (.slice Ao38 t332.length co38)) (fun _ hk => hk.2) (.slice Ao40 t335.length co40)) (fun _ hk => hk.2) (.int .i64 t338)) (fun _ hk => trivial)⟩, ⟨by (with_reducible repeat (first | refine blk_drewN ?_ _ | refine blk_drew ?_ | refine blk_alloc ?_ _)); refine blk_far ?_ NB318_329.out _; (with_reducible repeat (first | refine blk_drewN ?_ _ | refine blk_drew ?_ | refine blk_alloc ?_ _)); refine blk_far ?_ NB318_329.out _; (with_reducible repeat (first | refine blk_drewN ?_ _ | refine blk_drew ?_ | refine blk_alloc ?_ _)); refine blk_far ?_ NB318_329.out _; (with_reducible repeat (first | refine blk_drewN ?_ _ | refine blk_drew ?_ | refine blk_alloc ?_ _)); refine blk_far ?_ NB318_329.out _; (with_reducible repeat (first | refine blk_drewN ?_ _ | refine blk_drew ?_ | refine blk_alloc ?_ _)); refine blk_far ?_ NB318_340.out _; (with_reducible repeat (first | refine blk_drewN ?_ _ | refine blk_drew ?_ | refine blk_alloc ?_ _)); refine blk_far ?_ NB318_340.out _; (with_reducible repeat (first | refine blk_drewN ?_ _ | refine blk_drew ?_ | refine blk_alloc ?_ _)); refine blk_far ?_ NB318_340.out _; (with_reducible repeat (first | refine blk_drewN ?_ _ | refine blk_drew ?_ | refine blk_alloc ?_ _)); refine blk_far ?_ NB318_340.out _; (with_reducible repeat (first | refine blk_drewN ?_ _ | refine blk_drew ?_ | refine blk_alloc ?_ _)); exact BK318.out⟩, ⟨by (with_reducible repeat (first | refine blk_drewN ?_ _ | refine blk_drew ?_ | refine blk_alloc ?_ _)); refine blk_far ?_ NB319_329.out _; (with_reducible repeat (first | refine blk_drewN ?_ _ | refine blk_drew ?_ | refine blk_alloc ?_ _)); refine blk_far ?_ NB319_329.out _; (with_reducible repeat (first | refine blk_drewN ?_ _ | refine blk_drew ?_ | refine blk_alloc ?_ _)); refine blk_far ?_ NB319_329.out _; (with_reducible repeat (first | refine blk_drewN ?_ _ | refine blk_drew ?_ | refine blk_alloc ?_ _)); refine blk_far ?_ NB319_329.out _; (with_reducible repeat (first | refine blk_drewN ?_ _ | refine blk_drew ?_ | refine blk_alloc ?_ _)); refine blk_far ?_ NB319_340.out _; (with_reducible repeat (first | refine blk_drewN ?_ _ | refine blk_drew ?_ | refine blk_alloc ?_ _)); refine blk_far ?_ NB319_340.out _; (with_reducible repeat (first | refine blk_drewN ?_ _ | refine blk_drew ?_ | refine blk_alloc ?_ _)); refine blk_far ?_ NB319_340.out _; (with_reducible repeat (first | refine blk_drewN ?_ _ | refine blk_drew ?_ | refine blk_alloc ?_ _)); refine blk_far ?_ NB319_340.out _; (with_reducible repeat (first | refine blk_drewN ?_ _ | refine blk_drew ?_ | refine blk_alloc ?_ _)); exact BK319.out⟩, ⟨by (with_reducible repeat (first | refine blk_drewN ?_ _ | refine blk_drew ?_ | refine blk_alloc ?_ _)); refine blk_put (cs := #[.int .i64 t331, .slice Ao38 t332.length co38, .slice Ao40 t335.length co40, .int .i64 x330003_2]) ?_ 3 _ rfl; (with_reducible repeat (first | refine blk_drewN ?_ _ | refine blk_drew ?_ | refine blk_alloc ?_ _)); refine blk_put (cs := #[.int .i64 t331, .slice Ao38 t332.length co38, .slice Ao32 x330002_2.length co32, .int .i64 x330003_2]) ?_ 2 _ rfl; (with_reducible repeat (first | refine blk_drewN ?_ _ | refine blk_drew ?_ | refine blk_alloc ?_ _)); refine blk_put (cs := #[.int .i64 t331, .slice Ao31 x330001_2.length co31, .slice Ao32 x330002_2.length co32, .int .i64 x330003_2]) ?_ 1 _ rfl; (with_reducible repeat (first | refine blk_drewN ?_ _ | refine blk_drew ?_ | refine blk_alloc ?_ _)); refine blk_put (cs := #[.int .i64 x330000_2, .slice Ao31 x330001_2.length co31, .slice Ao32 x330002_2.length co32, .int .i64 x330003_2]) ?_ 0 _ rfl; (with_reducible repeat (first | refine blk_drewN ?_ _ | refine blk_drew ?_ | refine blk_alloc ?_ _)); refine blk_far ?_ NB329_340.out _; (with_reducible repeat (first | refine blk_drewN ?_ _ | refine blk_drew ?_ | refine blk_alloc ?_ _)); refine blk_far ?_ NB329_340.out _; (with_reducible repeat (first | refine blk_drewN ?_ _ | refine blk_drew ?_ | refine blk_alloc ?_ _)); refine blk_far ?_ NB329_340.out _; (with_reducible repeat (first | refine blk_drewN ?_ _ | refine blk_drew ?_ | refine blk_alloc ?_ _)); refine blk_far ?_ NB329_340.out _; (with_reducible repeat (first | refine blk_drewN ?_ _ | refine blk_drew ?_ | refine blk_alloc ?_ _)); exact BK329.out⟩, ⟨by exact bh⟩⟩
        ·replace c30 := Bool.eq_false_iff.mpr c30
         subst c30
         have H1 : (spec_AfterDeaths.l0 k2 l1 x7_2 (wrap64 (x8_2 + 1)) x330000_2 x330001_2 x330002_2 x330003_2) = some (r1, r2, r3, r4, r5) := by rw [if_neg (show ¬ (false = true) by decide)] at H; exact H
         clear H
         have H := H1
         clear H1
         have H' := Aside0.mk H
         clear H
         obtain ⟨Ao50, co50, eo50⟩ := Kd.S_slice HO_330001.out
         subst eo50
         obtain ⟨Ao51, co51, eo51⟩ := Kd.R_slice HO_330002.out
         subst eo51
         try go_wp2
         have n0_ := Aside0.mk (Kd.S_drew HO_330001.out)
         have n1_ := Aside0.mk (Kd.R_drew HO_330002.out)
         have n2_ := Aside0.mk (blk_drew BK318.out)
         have n3_ := Aside0.mk (blk_drew BK319.out)
         have n4_ := Aside0.mk (blk_drew BK329.out)
         have n5_ := Aside0.mk (below_drew1 HB.out)
         clear HO_330001 HO_330002 BK318 BK319 BK329 HB
         have HO_330001 := n0_
         have HO_330002 := n1_
         have BK318 := n2_
         have BK319 := n3_
         have BK329 := n4_
         have HB := n5_
         clear n0_ n1_ n2_ n3_ n4_ n5_
         have p330 : 0 ≤ (x8_2 : Int) := oda
         have q330 : x8_2 < (l1.length : Int) := oda
         obtain ⟨ad330, e330, hx330_0⟩ := Kd.at_int HR1.out x8_2 p330 q330
         have hw330_0 := hx330_0
         cases e330
         replace hx330_0 := (HB.out.cell (World.block_lt_of_cell? w _ hx330_0)).trans hx330_0
         replace p330 := eq_true p330
         replace q330 := eq_true q330
         refine start_ (n := 12) (S := fun w' => w'.cell? ⟨gb329, 0, none⟩ = some (.int .i64 x330000_2) ∧ w'.cell? ⟨gb329, 1, none⟩ = some (.slice Ao50 x330001_2.length co50) ∧ w'.cell? ⟨gb329, 2, none⟩ = some (.slice Ao51 x330002_2.length co51) ∧ w'.cell? ⟨gb329, 3, none⟩ = some (.int .i64 x330003_2) ∧ w'.cell? (ad330.add (x8_2).toNat) = some (.int .i64 (rd l1 x8_2))) (ds := []) #[F,F,F,F,F,F,F,F,F,F,F,F] kr rfl rfl ⟨cz0 BK329, cz1 BK329, cz2 BK329, cz3 BK329, ((HB.out.cell (World.block_lt_of_cell? w _ hw330_0)).trans hw330_0)⟩ (fun hHeld => ?_); refine with_tabW spec_AfterDeaths.tab8 spec_AfterDeaths.bits8 (fun HT_ HW_ => ?_)
         generalize wr.drew = w52 at HO_330001 HO_330002 BK318 BK319 BK329 HB hx330_0 hHeld ⊢
         refine pu 1 (some 30) #[F,T,F,F,F,F,F,F,F,F,F,F] (any_of HT_.out kr) ?_
         refine pu 2 (some 31) #[F,T,T,F,F,F,F,F,F,F,F,F] (any_of HT_.out kr) ?_
         refine pu 3 (some 32) #[F,T,T,T,F,F,F,F,F,F,F,F] (any_of HT_.out kr) ?_
         refine tk5 0 (some 29) #[T,T,T,T,F,F,F,F,F,F,F,F] (take_ofW HT_.out HW_.out kr) ?_
         refine tk5 4 (some 33) #[T,T,T,T,T,F,F,F,F,F,F,F] (take_ofW HT_.out HW_.out kr) ?_
         refine join_ (σ := Value × Value × Nat) 2 #[T,T,T,T,T,T,T,T,T,T,F,F] (fun s_ => [(34, .tuple #[.agg #[.int .i64 t331, s_.1, s_.2.1, .int .i64 t338], .bool false]), (9, .pointer (some ⟨s_.2.2, 0, none⟩)), (28, .tuple #[.agg #[.int .i64 t331, s_.1, s_.2.1, .int .i64 t338], .bool false]), (35, .agg #[.int .i64 t331, s_.1, s_.2.1, .int .i64 t338]), (36, .bool false)]) (fun s_ w' => (w'.cell? ⟨gb329, 0, none⟩ = some (.int .i64 x330000_2) ∧ w'.cell? ⟨gb329, 1, none⟩ = some (.slice Ao50 x330001_2.length co50) ∧ w'.cell? ⟨gb329, 2, none⟩ = some (.slice Ao51 x330002_2.length co51) ∧ w'.cell? ⟨gb329, 3, none⟩ = some (.int .i64 x330003_2) ∧ w'.cell? (ad330.add (x8_2).toNat) = some (.int .i64 (rd l1 x8_2))) ∧ (Kd.S (Kd.slice 3 (Kd.int .i64)) 23 w' w.heap.size (fun k_ => some k_ ≠ (s_.2.1 : Value).ownBlock ∧ some k_ ≠ (.slice Ao50 x330001_2.length co50 : Value).ownBlock ∧ some k_ ≠ (.slice Ao51 x330002_2.length co51 : Value).ownBlock) s_.1 t332) ∧ (Kd.R (Kd.int .i64) 3 w' w.heap.size (fun k_ => some k_ ≠ (.slice Ao51 x330002_2.length co51 : Value).ownBlock) s_.2.1 t335) ∧ (Kd.S (Kd.slice 3 (Kd.int .i64)) 23 w' w.heap.size (fun k_ => some k_ ≠ (s_.1 : Value).ownBlock ∧ some k_ ≠ (s_.2.1 : Value).ownBlock ∧ some k_ ≠ (.slice Ao51 x330002_2.length co51 : Value).ownBlock) (.slice Ao50 x330001_2.length co50) x330001_2) ∧ (Kd.R (Kd.int .i64) 3 w' w.heap.size (fun k_ => some k_ ≠ (s_.2.1 : Value).ownBlock) (.slice Ao51 x330002_2.length co51) x330002_2) ∧ (w'.heap[gb318]? = some (.cells #[.int .i64 a0_0, .slice A0_1 l0_1.length c0_1, .slice A0_2 l0_2.length c0_2, .int .i64 a0_3] 28 (0, 0))) ∧ (w'.heap[gb319]? = some (.cells #[.int .i64 0, .slice none 0 0, .slice none 0 0, .int .i64 0] 28 (0, 0))) ∧ (w'.heap[gb329]? = some (.cells #[.int .i64 x330000_2, .slice Ao50 x330001_2.length co50, .slice Ao51 x330002_2.length co51, .int .i64 x330003_2] 28 (0, 0))) ∧ (w'.heap[s_.2.2]? = some (.cells #[.int .i64 0, .slice none 0 0, .slice none 0 0, .int .i64 0] 28 (0, 0))) ∧ (w.heap.size ≤ s_.2.2) ∧ (w.heap.size ≤ s_.2.2) ∧ (gb318 ≠ s_.2.2) ∧ (s_.2.2 ≠ gb318) ∧ (gb319 ≠ s_.2.2) ∧ (s_.2.2 ≠ gb319) ∧ (gb329 ≠ s_.2.2) ∧ (s_.2.2 ≠ gb329) ∧ (Below w.heap.size w w')) ?_ ?_
         rotate_left
         ·intro hCont
          refine two_ (i := 5) (j := 9) (Ni := some 34) (Nj := some 9) #[T,T,T,T,T,T,F,F,F,F,F,F] #[T,T,T,T,T,F,F,F,F,T,F,F] rfl rfl rfl rfl (two_of HT_.out kr) (by decide) (by decide) (fun K hK => ?_) (fun K hK => ?_)
          ·skip
           refine goes_ Try.func46 kr rfl #[.agg #[.int .i64 x330000_2, .slice Ao50 x330001_2.length co50, .slice Ao51 x330002_2.length co51, .int .i64 x330003_2], .int .i64 (rd l1 x8_2)] (by rfl) rfl rfl lm ?_
           with_reducible refine (spec_AfterDeath.calls k2 x330000_2 _ _ x330001_2 _ _ x330002_2 x330003_2 (rd l1 x8_2) t331 t332 t335 t338 false _ ?side1 ?side2 ?side3 ?side4 A29.out).mono ?_
           (case side1 => repeat (first | exact (Kd.S_reads' HO_330001.out).2.2 | (with_reducible refine Kd.C_alloc ?_ _) | (with_reducible refine Kd.C_drewN ?_ _) | (with_reducible refine Kd.C_drew ?_)))
           (case side2 => exact (Kd.S_reads' HO_330001.out).2.1)
           (case side3 => repeat (first | exact (Kd.R_reads' HO_330002.out).2.2 | (with_reducible refine Kd.C_alloc ?_ _) | (with_reducible refine Kd.C_drewN ?_ _) | (with_reducible refine Kd.C_drew ?_)))
           (case side4 => exact (Kd.R_reads' HO_330002.out).2.1)
           rintro e w53 ⟨v333, v336, rfl, ho0, ho1, hb⟩
           refine ⟨_, rfl, ?_⟩
           have n0_ := Aside0.mk (Kd.S_mono (Kd.S_told (Kd.S_told (Kd.S_old (sz HO_330001) hb) (Kd.S_base ho0)) (Kd.R_base ho1)) (fun _ h_ => h_.1))
           have n1_ := Aside0.mk (Kd.R_elder' (rz HO_330002) (Kd.R_base ho1) hb)
           have n2_ := Aside0.mk (Kd.S_lower (Kd.S_new' (Kd.S_new' ho0 (Kd.S_lt (sz HO_330001))) (Kd.R_lt (rz HO_330002))) (below_size bh))
           have n3_ := Aside0.mk (Kd.R_lower (Kd.R_new' ho1 (Kd.R_lt (rz HO_330002))) (below_size bh))
           have n4_ := Aside0.mk (blk_below (bz BK318) hb)
           have n5_ := Aside0.mk (blk_below (bz BK319) hb)
           have n6_ := Aside0.mk (blk_below (bz BK329) hb)
           have n7_ := Aside0.mk (below_step bh hb)
           clear HO_330001 HO_330002 BK318 BK319 BK329 HB
           have HO_330001 := n0_
           have HO_330002 := n1_
           have HO334 := n2_
           have HO337 := n3_
           have BK318 := n4_
           have BK319 := n5_
           have BK329 := n6_
           have HB := n7_
           clear n0_ n1_ n2_ n3_ n4_ n5_ n6_ n7_
           (try clear hb)
           (try clear hb2)
           (try clear hk)
           (try clear hi)
           (try clear ho0)
           (try clear ho1)
           refine hK.out _ _ ⟨cz0 BK329, cz1 BK329, cz2 BK329, cz3 BK329, ((HB.out.cell (World.block_lt_of_cell? w _ hw330_0)).trans hw330_0)⟩ (fun hHeld => ?_)
           clear hK K
           refine norm_ (a' := ?_) ?_ ?_
           rotate_left
           ·show Act.put _ (some 34) _ = _
            simp only [Act.put, List.setIfInBounds_toArray, List.set_cons_zero, List.set_cons_succ, i64_w, i32_w]
            rfl
           refine pu 6 (some 28) #[T,T,T,T,T,T,T,F,F,F,F,F] (any_of HT_.out kr) ?_
           refine pu 7 (some 35) #[T,T,T,T,T,T,T,T,F,F,F,F] (any_of HT_.out kr) ?_
           refine pu 8 (some 36) #[T,T,T,T,T,T,T,T,T,F,F,F] (any_of HT_.out kr) ?_
           refine one_ (i := 9) (N := some 9) #[T,T,T,T,T,T,T,T,T,T,F,F] rfl rfl (one_of HT_.out kr) (by decide) (fun K hK => ?_)
           refine box_step ?hg (N := 9) ?hd (cs := #[.int .i64 0, .slice none 0 0, .slice none 0 0, .int .i64 0]) (t := 28) ?hr ?_; (case hd => rfl); (case hg => rfl); (case hr => first | (go_simp; done) | (go_simp; rfl))
           intro gb340 hg w54 hbox hb
           have n0_ := Aside0.mk (Kd.S_below (sz HO_330001) hb)
           have n1_ := Aside0.mk (Kd.R_below (rz HO_330002) hb)
           have n2_ := Aside0.mk (Kd.S_below (sz HO334) hb)
           have n3_ := Aside0.mk (Kd.R_below (rz HO337) hb)
           have n4_ := Aside0.mk (blk_below (bz BK318) hb)
           have n5_ := Aside0.mk (blk_below (bz BK319) hb)
           have n6_ := Aside0.mk (blk_below (bz BK329) hb)
           have n7_ := Aside0.mk (below_step bh hb)
           have n8_ := Aside0.mk (hbox)
           have n9_ := Aside0.mk ((gs (W0 := w) hg bh))
           have n10_ := Aside0.mk ((gs (W0 := w) hg bh))
           have n11_ := Aside0.mk ((gn hg (bz BK318)))
           have n12_ := Aside0.mk ((gm hg (bz BK318)))
           have n13_ := Aside0.mk ((gn hg (bz BK319)))
           have n14_ := Aside0.mk ((gm hg (bz BK319)))
           have n15_ := Aside0.mk ((gn hg (bz BK329)))
           have n16_ := Aside0.mk ((gm hg (bz BK329)))
           clear HO_330001 HO_330002 HO334 HO337 BK318 BK319 BK329 HB
           have HO_330001 := n0_
           have HO_330002 := n1_
           have HO334 := n2_
           have HO337 := n3_
           have BK318 := n4_
           have BK319 := n5_
           have BK329 := n6_
           have HB := n7_
           have BK340 := n8_
           have GW340 := n9_
           have GE340 := n10_
           have NB318_340 := n11_
           have NB340_318 := n12_
           have NB319_340 := n13_
           have NB340_319 := n14_
           have NB329_340 := n15_
           have NB340_329 := n16_
           clear n0_ n1_ n2_ n3_ n4_ n5_ n6_ n7_ n8_ n9_ n10_ n11_ n12_ n13_ n14_ n15_ n16_ hb hbox hg
           refine hK.out _ _ ⟨cz0 BK329, cz1 BK329, cz2 BK329, cz3 BK329, ((HB.out.cell (World.block_lt_of_cell? w _ hw330_0)).trans hw330_0)⟩ (fun hHeld => ?_)
           clear hK K
           refine norm_ (a' := ?_) ?_ ?_
           rotate_left
           ·show Act.put _ (some 9) _ = _
            simp only [Act.put, List.setIfInBounds_toArray, List.set_cons_zero, List.set_cons_succ, i64_w, i32_w]
            rfl
           exact norm_ (by simp only [putAll, Act.put, List.setIfInBounds_toArray, List.set_cons_zero, List.set_cons_succ]) (hCont (v333, v336, gb340) _ ⟨hHeld, (mS HO334), (mR HO337), (mS HO_330001), (mR HO_330002), (bz BK318), (bz BK319), (bz BK329), (bz BK340), GW340.out, GE340.out, NB318_340.out, NB340_318.out, NB319_340.out, NB340_319.out, NB329_340.out, NB340_329.out, bh⟩)
          ·skip
           refine box_step ?hg (N := 9) ?hd (cs := #[.int .i64 0, .slice none 0 0, .slice none 0 0, .int .i64 0]) (t := 28) ?hr ?_; (case hd => rfl); (case hg => rfl); (case hr => first | (go_simp; done) | (go_simp; rfl))
           intro gb340 hg w53 hbox hb
           have n0_ := Aside0.mk (Kd.S_below (sz HO_330001) hb)
           have n1_ := Aside0.mk (Kd.R_below (rz HO_330002) hb)
           have n2_ := Aside0.mk (blk_below (bz BK318) hb)
           have n3_ := Aside0.mk (blk_below (bz BK319) hb)
           have n4_ := Aside0.mk (blk_below (bz BK329) hb)
           have n5_ := Aside0.mk (below_step bh hb)
           have n6_ := Aside0.mk (hbox)
           have n7_ := Aside0.mk ((gs (W0 := w) hg bh))
           have n8_ := Aside0.mk ((gs (W0 := w) hg bh))
           have n9_ := Aside0.mk ((gn hg (bz BK318)))
           have n10_ := Aside0.mk ((gm hg (bz BK318)))
           have n11_ := Aside0.mk ((gn hg (bz BK319)))
           have n12_ := Aside0.mk ((gm hg (bz BK319)))
           have n13_ := Aside0.mk ((gn hg (bz BK329)))
           have n14_ := Aside0.mk ((gm hg (bz BK329)))
           clear HO_330001 HO_330002 BK318 BK319 BK329 HB
           have HO_330001 := n0_
           have HO_330002 := n1_
           have BK318 := n2_
           have BK319 := n3_
           have BK329 := n4_
           have HB := n5_
           have BK340 := n6_
           have GW340 := n7_
           have GE340 := n8_
           have NB318_340 := n9_
           have NB340_318 := n10_
           have NB319_340 := n11_
           have NB340_319 := n12_
           have NB329_340 := n13_
           have NB340_329 := n14_
           clear n0_ n1_ n2_ n3_ n4_ n5_ n6_ n7_ n8_ n9_ n10_ n11_ n12_ n13_ n14_ hb hbox hg
           refine hK.out _ _ ⟨cz0 BK329, cz1 BK329, cz2 BK329, cz3 BK329, ((HB.out.cell (World.block_lt_of_cell? w _ hw330_0)).trans hw330_0)⟩ (fun hHeld => ?_)
           clear hK K
           refine norm_ (a' := ?_) ?_ ?_
           rotate_left
           ·show Act.put _ (some 9) _ = _
            simp only [Act.put, List.setIfInBounds_toArray, List.set_cons_zero, List.set_cons_succ, i64_w, i32_w]
            rfl
           refine one_ (i := 5) (N := some 34) #[T,T,T,T,T,T,F,F,F,T,F,F] rfl rfl (one_of HT_.out kr) (by decide) (fun K hK => ?_)
           refine goes_ Try.func46 kr rfl #[.agg #[.int .i64 x330000_2, .slice Ao50 x330001_2.length co50, .slice Ao51 x330002_2.length co51, .int .i64 x330003_2], .int .i64 (rd l1 x8_2)] (by rfl) rfl rfl lm ?_
           with_reducible refine (spec_AfterDeath.calls k2 x330000_2 _ _ x330001_2 _ _ x330002_2 x330003_2 (rd l1 x8_2) t331 t332 t335 t338 false _ ?side1 ?side2 ?side3 ?side4 A29.out).mono ?_
           (case side1 => repeat (first | exact (Kd.S_reads' HO_330001.out).2.2 | (with_reducible refine Kd.C_alloc ?_ _) | (with_reducible refine Kd.C_drewN ?_ _) | (with_reducible refine Kd.C_drew ?_)))
           (case side2 => exact (Kd.S_reads' HO_330001.out).2.1)
           (case side3 => repeat (first | exact (Kd.R_reads' HO_330002.out).2.2 | (with_reducible refine Kd.C_alloc ?_ _) | (with_reducible refine Kd.C_drewN ?_ _) | (with_reducible refine Kd.C_drew ?_)))
           (case side4 => exact (Kd.R_reads' HO_330002.out).2.1)
           rintro e w54 ⟨v333, v336, rfl, ho0, ho1, hb⟩
           refine ⟨_, rfl, ?_⟩
           have n0_ := Aside0.mk (Kd.S_mono (Kd.S_told (Kd.S_told (Kd.S_old (sz HO_330001) hb) (Kd.S_base ho0)) (Kd.R_base ho1)) (fun _ h_ => h_.1))
           have n1_ := Aside0.mk (Kd.R_elder' (rz HO_330002) (Kd.R_base ho1) hb)
           have n2_ := Aside0.mk (Kd.S_lower (Kd.S_new' (Kd.S_new' ho0 (Kd.S_lt (sz HO_330001))) (Kd.R_lt (rz HO_330002))) (below_size bh))
           have n3_ := Aside0.mk (Kd.R_lower (Kd.R_new' ho1 (Kd.R_lt (rz HO_330002))) (below_size bh))
           have n4_ := Aside0.mk (blk_below (bz BK318) hb)
           have n5_ := Aside0.mk (blk_below (bz BK319) hb)
           have n6_ := Aside0.mk (blk_below (bz BK329) hb)
           have n7_ := Aside0.mk (blk_below (bz BK340) hb)
           have n8_ := Aside0.mk (below_step bh hb)
           clear HO_330001 HO_330002 BK318 BK319 BK329 BK340 HB
           have HO_330001 := n0_
           have HO_330002 := n1_
           have HO334 := n2_
           have HO337 := n3_
           have BK318 := n4_
           have BK319 := n5_
           have BK329 := n6_
           have BK340 := n7_
           have HB := n8_
           clear n0_ n1_ n2_ n3_ n4_ n5_ n6_ n7_ n8_
           (try clear hb)
           (try clear hb2)
           (try clear hk)
           (try clear hi)
           (try clear ho0)
           (try clear ho1)
           refine hK.out _ _ ⟨cz0 BK329, cz1 BK329, cz2 BK329, cz3 BK329, ((HB.out.cell (World.block_lt_of_cell? w _ hw330_0)).trans hw330_0)⟩ (fun hHeld => ?_)
           clear hK K
           refine norm_ (a' := ?_) ?_ ?_
           rotate_left
           ·show Act.put _ (some 34) _ = _
            simp only [Act.put, List.setIfInBounds_toArray, List.set_cons_zero, List.set_cons_succ, i64_w, i32_w]
            rfl
           refine pu 6 (some 28) #[T,T,T,T,T,T,T,F,F,T,F,F] (any_of HT_.out kr) ?_
           refine pu 7 (some 35) #[T,T,T,T,T,T,T,T,F,T,F,F] (any_of HT_.out kr) ?_
           refine pu 8 (some 36) #[T,T,T,T,T,T,T,T,T,T,F,F] (any_of HT_.out kr) ?_
           exact norm_ (by simp only [putAll, Act.put, List.setIfInBounds_toArray, List.set_cons_zero, List.set_cons_succ]) (hCont (v333, v336, gb340) _ ⟨hHeld, (mS HO334), (mR HO337), (mS HO_330001), (mR HO_330002), (bz BK318), (bz BK319), (bz BK329), (bz BK340), GW340.out, GE340.out, NB318_340.out, NB340_318.out, NB319_340.out, NB340_319.out, NB329_340.out, NB340_329.out, bh⟩)
         rintro ⟨v333, v336, gb340⟩ w55 ⟨hS_, h0_, h1_, h2_, h3_, h4_, h5_, h6_, h7_, h8_, h9_, h10_, h11_, h12_, h13_, h14_, h15_, h16_⟩
         clear HO_330001 HO_330002 BK318 BK319 BK329 HB
         have HO334 := Aside0.mk h0_
         have HO337 := Aside0.mk h1_
         have HO_330001 := Aside0.mk h2_
         have HO_330002 := Aside0.mk h3_
         have BK318 := Aside0.mk h4_
         have BK319 := Aside0.mk h5_
         have BK329 := Aside0.mk h6_
         have BK340 := Aside0.mk h7_
         have GW340 := Aside0.mk h8_
         have GE340 := Aside0.mk h9_
         have NB318_340 := Aside0.mk h10_
         have NB340_318 := Aside0.mk h11_
         have NB319_340 := Aside0.mk h12_
         have NB340_319 := Aside0.mk h13_
         have NB329_340 := Aside0.mk h14_
         have NB340_329 := Aside0.mk h15_
         have HB := Aside0.mk h16_
         clear h0_ h1_ h2_ h3_ h4_ h5_ h6_ h7_ h8_ h9_ h10_ h11_ h12_ h13_ h14_ h15_ h16_
         have hHeld : w55.cell? ⟨gb329, 0, none⟩ = some (.int .i64 x330000_2) ∧ w55.cell? ⟨gb329, 1, none⟩ = some (.slice Ao50 x330001_2.length co50) ∧ w55.cell? ⟨gb329, 2, none⟩ = some (.slice Ao51 x330002_2.length co51) ∧ w55.cell? ⟨gb329, 3, none⟩ = some (.int .i64 x330003_2) ∧ w55.cell? (ad330.add (x8_2).toNat) = some (.int .i64 (rd l1 x8_2)) := hS_
         obtain ⟨Ao57, co57, eo57⟩ := Kd.S_slice HO334.out
         (first | subst eo57 | (injection eo57 with f1_ f2_ f3_; have f4_ := f1_.symm; have f5_ := f3_.symm; clear f1_ f2_ f3_; subst f4_; subst f5_))
         obtain ⟨Ao59, co59, eo59⟩ := Kd.R_slice HO337.out
         (first | subst eo59 | (injection eo59 with f1_ f2_ f3_; have f4_ := f1_.symm; have f5_ := f3_.symm; clear f1_ f2_ f3_; subst f4_; subst f5_))
         refine norm_ (a' := ?_) ?_ ?_
         rotate_left
         ·simp only [putAll, Act.put, List.setIfInBounds_toArray, List.set_cons_zero, List.set_cons_succ]
          rfl
         refine one_ (i := 10) (N := none) #[T,T,T,T,T,T,T,T,T,T,T,F] rfl rfl (one_of HT_.out kr) (by decide) (fun K hK => ?_)
         have hs56 := cz0 BK340
         have hfs56 := blk_frozen BK340.out 0
         have hns56_0 := NB318_340.out
         have hns56_1 := NB319_340.out
         have hns56_2 := NB329_340.out
         have hms56_0 := NB340_318.out
         have hms56_1 := NB340_319.out
         have hms56_2 := NB340_329.out
         have hs58 := cz1 BK340
         have hfs58 := blk_frozen BK340.out 1
         have hns58_0 := NB318_340.out
         have hns58_1 := NB319_340.out
         have hns58_2 := NB329_340.out
         have hms58_0 := NB340_318.out
         have hms58_1 := NB340_319.out
         have hms58_2 := NB340_329.out
         have hs60 := cz2 BK340
         have hfs60 := blk_frozen BK340.out 2
         have hns60_0 := NB318_340.out
         have hns60_1 := NB319_340.out
         have hns60_2 := NB329_340.out
         have hms60_0 := NB340_318.out
         have hms60_1 := NB340_319.out
         have hms60_2 := NB340_329.out
         have hs61 := cz3 BK340
         have hfs61 := blk_frozen BK340.out 3
         have hns61_0 := NB318_340.out
         have hns61_1 := NB319_340.out
         have hns61_2 := NB329_340.out
         have hms61_0 := NB340_318.out
         have hms61_1 := NB340_319.out
         have hms61_2 := NB340_329.out
         refine skip_ (w1 := ?_) (by rfl) rfl ?_ ?_
         rotate_left
         ·go_simp
          rfl
         refine hK.out _ _ ⟨((cell_far (p := ⟨gb340, _, none⟩) NB329_340.out _).trans (((cell_far (p := ⟨gb340, _, none⟩) NB329_340.out _).trans (((cell_far (p := ⟨gb340, _, none⟩) NB329_340.out _).trans (((cell_far (p := ⟨gb340, _, none⟩) NB329_340.out _).trans (hHeld.1)))))))), ((cell_far (p := ⟨gb340, _, none⟩) NB329_340.out _).trans (((cell_far (p := ⟨gb340, _, none⟩) NB329_340.out _).trans (((cell_far (p := ⟨gb340, _, none⟩) NB329_340.out _).trans (((cell_far (p := ⟨gb340, _, none⟩) NB329_340.out _).trans (hHeld.2.1)))))))), ((cell_far (p := ⟨gb340, _, none⟩) NB329_340.out _).trans (((cell_far (p := ⟨gb340, _, none⟩) NB329_340.out _).trans (((cell_far (p := ⟨gb340, _, none⟩) NB329_340.out _).trans (((cell_far (p := ⟨gb340, _, none⟩) NB329_340.out _).trans (hHeld.2.2.1)))))))), ((cell_far (p := ⟨gb340, _, none⟩) NB329_340.out _).trans (((cell_far (p := ⟨gb340, _, none⟩) NB329_340.out _).trans (((cell_far (p := ⟨gb340, _, none⟩) NB329_340.out _).trans (((cell_far (p := ⟨gb340, _, none⟩) NB329_340.out _).trans (hHeld.2.2.2.1)))))))), ((cell_far (p := ⟨gb340, _, none⟩) (by first | exact Nat.ne_of_lt (Nat.lt_of_lt_of_le (by have := World.block_lt_of_cell? _ _ hw330_0; first | rwa [add_block] at this | exact this) GW340.out) | (rw [add_block]; exact Nat.ne_of_lt (Nat.lt_of_lt_of_le (by have := World.block_lt_of_cell? _ _ hw330_0; first | rwa [add_block] at this | exact this) GW340.out)) | (show (Addr.add _ _).block ≠ _; rw [add_block]; exact Nat.ne_of_lt (Nat.lt_of_lt_of_le (by have := World.block_lt_of_cell? _ _ hw330_0; first | rwa [add_block] at this | exact this) GW340.out)) | (dsimp only; exact Nat.ne_of_lt (Nat.lt_of_lt_of_le (by have := World.block_lt_of_cell? _ _ hw330_0; first | rwa [add_block] at this | exact this) GW340.out))) _).trans (((cell_far (p := ⟨gb340, _, none⟩) (by first | exact Nat.ne_of_lt (Nat.lt_of_lt_of_le (by have := World.block_lt_of_cell? _ _ hw330_0; first | rwa [add_block] at this | exact this) GW340.out) | (rw [add_block]; exact Nat.ne_of_lt (Nat.lt_of_lt_of_le (by have := World.block_lt_of_cell? _ _ hw330_0; first | rwa [add_block] at this | exact this) GW340.out)) | (show (Addr.add _ _).block ≠ _; rw [add_block]; exact Nat.ne_of_lt (Nat.lt_of_lt_of_le (by have := World.block_lt_of_cell? _ _ hw330_0; first | rwa [add_block] at this | exact this) GW340.out)) | (dsimp only; exact Nat.ne_of_lt (Nat.lt_of_lt_of_le (by have := World.block_lt_of_cell? _ _ hw330_0; first | rwa [add_block] at this | exact this) GW340.out))) _).trans (((cell_far (p := ⟨gb340, _, none⟩) (by first | exact Nat.ne_of_lt (Nat.lt_of_lt_of_le (by have := World.block_lt_of_cell? _ _ hw330_0; first | rwa [add_block] at this | exact this) GW340.out) | (rw [add_block]; exact Nat.ne_of_lt (Nat.lt_of_lt_of_le (by have := World.block_lt_of_cell? _ _ hw330_0; first | rwa [add_block] at this | exact this) GW340.out)) | (show (Addr.add _ _).block ≠ _; rw [add_block]; exact Nat.ne_of_lt (Nat.lt_of_lt_of_le (by have := World.block_lt_of_cell? _ _ hw330_0; first | rwa [add_block] at this | exact this) GW340.out)) | (dsimp only; exact Nat.ne_of_lt (Nat.lt_of_lt_of_le (by have := World.block_lt_of_cell? _ _ hw330_0; first | rwa [add_block] at this | exact this) GW340.out))) _).trans (((cell_far (p := ⟨gb340, _, none⟩) (by first | exact Nat.ne_of_lt (Nat.lt_of_lt_of_le (by have := World.block_lt_of_cell? _ _ hw330_0; first | rwa [add_block] at this | exact this) GW340.out) | (rw [add_block]; exact Nat.ne_of_lt (Nat.lt_of_lt_of_le (by have := World.block_lt_of_cell? _ _ hw330_0; first | rwa [add_block] at this | exact this) GW340.out)) | (show (Addr.add _ _).block ≠ _; rw [add_block]; exact Nat.ne_of_lt (Nat.lt_of_lt_of_le (by have := World.block_lt_of_cell? _ _ hw330_0; first | rwa [add_block] at this | exact this) GW340.out)) | (dsimp only; exact Nat.ne_of_lt (Nat.lt_of_lt_of_le (by have := World.block_lt_of_cell? _ _ hw330_0; first | rwa [add_block] at this | exact this) GW340.out))) _).trans (hHeld.2.2.2.2))))))))⟩ (fun hHeld => ?_)
         clear hK K
         refine pu 11 (some 10) #[T,T,T,T,T,T,T,T,T,T,T,T] (any_of HT_.out kr) ?_
         refine done_ (done_of HT_.out kr) ?_
         try go_wp2
         go_roundg k2
         case measure => have := HJ2.out; have := HK2.out; omega
         case rel => exact ⟨(x7_2), (wrap64 (x8_2 + 1)), (x330000_2), (x330001_2), (x330002_2), (x330003_2), (.slice Ao50 x330001_2.length co50), (.slice Ao51 x330002_2.length co51), (by first | rfl | (simp; done) | (simp [*]; done)), (by first | rfl | (simp; done) | (simp [*]; done)), H', ⟨by have := HJ2.out; have := HK2.out; omega⟩, ⟨gS HO_330001 BK340⟩, ⟨gR HO_330002 BK340⟩, ⟨bf NB318_340 BK318⟩, ⟨bf NB319_340 BK319⟩, ⟨bf NB329_340 BK329⟩, ⟨by exact bh⟩⟩
       ·rw [if_neg c28] at H
        exact absurd H (by simp)
      ·rw [if_neg c27] at H
       have c27b0 : decide (x8_2 < (l1.length : Int)) = false := decide_eq_false c27
       clear c27
       simp only [Option.some.injEq, Prod.mk.injEq] at H
       obtain ⟨rfl, rfl, rfl, rfl, rfl⟩ := H
       have hnb62 := NB329_318.out
       have hnc62 := NB318_329.out
       have hnb63 := NB329_319.out
       have hnc63 := NB319_329.out
       have hcz64_0 := cz0 BK329
       have hcz64_1 := cz1 BK329
       have hcz64_2 := cz2 BK329
       have hcz64_3 := cz3 BK329
       have hfz64_0 := blk_frozen BK329.out 0
       have hfz64_1 := blk_frozen BK329.out 1
       have hfz64_2 := blk_frozen BK329.out 2
       have hfz64_3 := blk_frozen BK329.out 3
       have hnb65 := NB319_318.out
       have hnc65 := NB318_319.out
       have hcz66_0 := cz0 BK319
       have hcz66_1 := cz1 BK319
       have hcz66_2 := cz2 BK319
       have hcz66_3 := cz3 BK319
       have hfz66_0 := blk_frozen BK319.out 0
       have hfz66_1 := blk_frozen BK319.out 1
       have hfz66_2 := blk_frozen BK319.out 2
       have hfz66_3 := blk_frozen BK319.out 3
       obtain ⟨Ao67, co67, eo67⟩ := Kd.S_slice HO_330001.out
       subst eo67
       obtain ⟨Ao68, co68, eo68⟩ := Kd.R_slice HO_330002.out
       subst eo68
       go_wp2
       refine bodyPost_ret (results_ct rfl _ _ gb319 28 #[.int .i64 x330000_2, .slice Ao67 x330001_2.length co67, .slice Ao68 x330002_2.length co68, .int .i64 x330003_2] (0, 0) _ rfl (bp BK319) Try.underlying28 rfl kr) rfl ?_
       exact ⟨_, _, by first | rfl | (simp [errW_none, errW_some] <;> rfl) | (simp [*, errW_none, errW_some] <;> rfl), by (with_reducible repeat (first | apply Kd.S_alloc | apply Kd.S_drewN | apply Kd.S_drew)); exact Kd.S_mono (Kd.S_far (p := ⟨gb319, 3, none⟩) (Kd.S_far (p := ⟨gb319, 2, none⟩) (Kd.S_far (p := ⟨gb319, 1, none⟩) (Kd.S_far (p := ⟨gb319, 0, none⟩) (Kd.S_types HO_330001.out BK319.out (by decide)) (fun _ hk => hk.2) (.int .i64 x330000_2)) (fun _ hk => hk.2) (.slice Ao67 x330001_2.length co67)) (fun _ hk => hk.2) (.slice Ao68 x330002_2.length co68)) (fun _ hk => hk.2) (.int .i64 x330003_2)) (fun _ hk => hk.1), by (with_reducible repeat (first | apply Kd.R_alloc | apply Kd.R_drewN | apply Kd.R_drew)); exact Kd.R_mono (Kd.R_far (p := ⟨gb319, 3, none⟩) (Kd.R_far (p := ⟨gb319, 2, none⟩) (Kd.R_far (p := ⟨gb319, 1, none⟩) (Kd.R_far (p := ⟨gb319, 0, none⟩) (Kd.R_types HO_330002.out BK319.out (by decide)) (fun _ hk => hk.2) (.int .i64 x330000_2)) (fun _ hk => hk.2) (.slice Ao67 x330001_2.length co67)) (fun _ hk => hk.2) (.slice Ao68 x330002_2.length co68)) (fun _ hk => hk.2) (.int .i64 x330003_2)) (fun _ hk => trivial), by exact bh⟩

end Go.Proofs.Ytlpjkeejflogjaa.QFnExactAfterDeaths
