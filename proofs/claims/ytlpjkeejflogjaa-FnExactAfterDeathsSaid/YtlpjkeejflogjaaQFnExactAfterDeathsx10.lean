-- Printed for this claim by a turned copy of the print (wip/myprint). Lean checks it. Squeezed. Worded. Tightened.
import Derived.Test.YtlpjkeejflogjaaQFnExactAfterDeathsx0
import Derived.Test.YtlpjkeejflogjaaQFnExactAfterDeathsx7
import Derived.Test.YtlpjkeejflogjaaQFnExactAfterDeathsx8
import Derived.Test.YtlpjkeejflogjaaQFnExactAfterDeathsx9
namespace Go.Proofs.Ytlpjkeejflogjaa.QFnExactAfterDeaths
open Go.RowKit Go.Proofs.YtlpjkeejflogjaaW.PrintWords Go.Proofs.YtlpjkeejflogjaaW.PrintLast Go.Proofs.YtlpjkeejflogjaaW.PrintMore
attribute [local go_sem] max2_int min2_int max_two min_two max_three min_three max_four min_four Opens.cell_twice   -- for this text's walks alone
set_option linter.unusedVariables false
set_option linter.unusedSimpArgs false

/-! ### spec_FilledCourt: function 36 -/
def spec_FilledCourt.l0 : Nat → Int → Int → List (List Int) → List Int → Int → Option (Int × (List (List Int)) × List Int × Int)
 | 0, _, _, _, _, _ => none
 | k + 1, x4, x292000, x292001, x292002, x292003 => if x4 < (x292002.length : Int) then (if 0 ≤ x4 then (if (rd x292002 x4) = (-1) then ((spec_l7Next.f k x292000 x292001 x292002 x292003 x4).bind fun t293 => (spec_FilledCourt.l0 k (wrap64 (x4 + 1)) x292000 x292001 (x292002.set (x4 : Int).toNat t293) x292003)) else (spec_FilledCourt.l0 k (wrap64 (x4 + 1)) x292000 x292001 x292002 x292003)) else (none)) else (some (x292000, x292001, x292002, x292003))
def spec_FilledCourt.f (k : Nat) (a0_0 : Int) (l0_1 : List (List Int)) (l0_2 : List Int) (a0_3 : Int) : Option (Int × (List (List Int)) × List Int × Int) := (spec_CourtOk.f k a0_0 l0_1 l0_2 a0_3).bind fun t282 => (if t282 = true then ((spec_l7Copy.f k a0_0 l0_1 l0_2 a0_3).bind fun bt283 => (spec_FilledCourt.l0 k 0 bt283.1 bt283.2.1 bt283.2.2.1 bt283.2.2.2)) else (some (0, ([] : List (List Int)), ([] : List Int), 0)))
theorem spec_FilledCourt.mono_l : ∀ k, (∀ y0 y1 y2 y3 y4, LeO (spec_FilledCourt.l0 k y0 y1 y2 y3 y4) (spec_FilledCourt.l0 (k + 1) y0 y1 y2 y3 y4))
 | 0 => fun _ _ _ _ _ r h => by simp [spec_FilledCourt.l0] at h
 | k + 1 => by
  have ih0 := spec_FilledCourt.mono_l k
  ·intro y0 y1 y2 y3 y4
   unfold spec_FilledCourt.l0
   repeat' first
   | (with_reducible exact ih0 _ _ _ _ _)
   | (with_reducible exact spec_CourtOk.mono _ _ _ _ _)
   | (with_reducible exact spec_l7Copy.mono _ _ _ _ _)
   | (with_reducible exact spec_l7Next.mono _ _ _ _ _ _)
   | (with_reducible exact LeO.refl _)
   | (with_reducible exact LeO.none _)
   | (with_reducible refine LeO.ite ?_ ?_)
   | (with_reducible refine LeO.bind ?_ (fun _ => ?_))
   | exact ih0 _ _ _ _ _
   | exact spec_CourtOk.mono _ _ _ _ _
   | exact spec_l7Copy.mono _ _ _ _ _
   | exact spec_l7Next.mono _ _ _ _ _ _
   | exact LeO.none _
   | refine LeO.ite ?_ ?_
   | refine LeO.bind ?_ (fun _ => ?_)
theorem spec_FilledCourt.mono : ∀ a0 a1 a2 a3 k, LeO (spec_FilledCourt.f k a0 a1 a2 a3) (spec_FilledCourt.f (k + 1) a0 a1 a2 a3) := by
 intro a0 a1 a2 a3 k
 have ih0 := spec_FilledCourt.mono_l k
 unfold spec_FilledCourt.f
 repeat' first
   | (with_reducible exact ih0 _ _ _ _ _)
   | (with_reducible exact spec_CourtOk.mono _ _ _ _ _)
   | (with_reducible exact spec_l7Copy.mono _ _ _ _ _)
   | (with_reducible exact spec_l7Next.mono _ _ _ _ _ _)
   | (with_reducible exact LeO.refl _)
   | (with_reducible exact LeO.none _)
   | (with_reducible refine LeO.ite ?_ ?_)
   | (with_reducible refine LeO.bind ?_ (fun _ => ?_))
   | exact ih0 _ _ _ _ _
   | exact spec_CourtOk.mono _ _ _ _ _
   | exact spec_l7Copy.mono _ _ _ _ _
   | exact spec_l7Next.mono _ _ _ _ _ _
   | exact LeO.none _
   | refine LeO.ite ?_ ?_
   | refine LeO.bind ?_ (fun _ => ?_)
def spec_FilledCourt.T8 : Bool × List (List Nat × List Nat) := (true, [([], []), ([0], [0]), ([], []), ([], []), ([], []), ([3, 4], [3, 4]), ([1, 2, 0, 1, 2, 3, 4, 5], [1, 2]), ([6, 5, 5, 0, 1, 2, 3, 4, 5], [5, 6])])
def spec_FilledCourt.B8 : List Nat := [0, 1, 0, 0, 0, 24, 63, 127]
theorem spec_FilledCourt.tab8 : rtab .any (opsOf Try.f36 8) = spec_FilledCourt.T8 := by kernel_rfl
theorem spec_FilledCourt.bits8 : waitsOk spec_FilledCourt.T8.2 spec_FilledCourt.B8 = true := by kernel_rfl
set_option maxHeartbeats 8000000 in
set_option maxRecDepth 100000 in
theorem spec_FilledCourt.calls (k : Nat) (a0_0 : Int) (A0_1 : Option Addr) (c0_1 : Nat) (l0_1 : List (List Int)) (A0_2 : Option Addr) (c0_2 : Nat) (l0_2 : List Int) (a0_3 : Int) (r1 : Int) (r2 : List (List Int)) (r3 : List Int) (r4 : Int) (w : World) (hr0_1 : Kd.C (Kd.slice 3 (Kd.int .i64)) w A0_1 l0_1.length l0_1) (hc0_1 : l0_1.length ≤ c0_1) (hr0_2 : Kd.C (Kd.int .i64) w A0_2 l0_2.length l0_2) (hc0_2 : l0_2.length ≤ c0_2) (h : spec_FilledCourt.f k a0_0 l0_1 l0_2 a0_3 = some (r1, r2, r3, r4)) :
  Calls Try.prog 36 #[.agg #[.int .i64 a0_0, .slice A0_1 l0_1.length c0_1, .slice A0_2 l0_2.length c0_2, .int .i64 a0_3]] w fun e w' => ∃ v1_ v2_ : Value, e = .returned (.agg #[.int .i64 r1, v1_, v2_, .int .i64 r4]) ∧ Kd.S (Kd.slice 3 (Kd.int .i64)) 23 w' w.heap.size (fun k_ => some k_ ≠ (v2_ : Value).ownBlock) v1_ r2 ∧ Kd.R (Kd.int .i64) 3 w' w.heap.size (fun _ => True) v2_ r3 ∧ Below w.heap.size w w' := by
 have hu28 := Try.underlying28
 have HR0_1 := Aside0.mk hr0_1
 have HC0_1 := Aside0.mk hc0_1
 clear hr0_1 hc0_1
 have HR0_2 := Aside0.mk hr0_2
 have HC0_2 := Aside0.mk hc0_2
 clear hr0_2 hc0_2
 have HB := Aside0.mk (Below.refl w.heap.size w)
 have H : ((spec_CourtOk.f k a0_0 l0_1 l0_2 a0_3).bind fun t282 => (if t282 = true then ((spec_l7Copy.f k a0_0 l0_1 l0_2 a0_3).bind fun bt283 => (spec_FilledCourt.l0 k 0 bt283.1 bt283.2.1 bt283.2.2.1 bt283.2.2.2)) else (some (0, ([] : List (List Int)), ([] : List Int), 0)))) = some (r1, r2, r3, r4) := h
 clear h
 replace H := Option.bind_eq_some_iff.mp H
 obtain ⟨t282, A20, H⟩ := H
 replace H : (if t282 = true then ((spec_l7Copy.f k a0_0 l0_1 l0_2 a0_3).bind fun bt283 => (spec_FilledCourt.l0 k 0 bt283.1 bt283.2.1 bt283.2.2.1 bt283.2.2.2)) else (some (0, ([] : List (List Int)), ([] : List Int), 0))) = some (r1, r2, r3, r4) := H
 have A2 := Aside0.mk A20
 clear A20
 by_cases c3 : t282 = true
 ·subst c3
  have H1 : ((spec_l7Copy.f k a0_0 l0_1 l0_2 a0_3).bind fun bt283 => (spec_FilledCourt.l0 k 0 bt283.1 bt283.2.1 bt283.2.2.1 bt283.2.2.2)) = some (r1, r2, r3, r4) := by rw [if_pos rfl] at H; exact H
  clear H
  have H := H1
  clear H1
  replace H := Option.bind_eq_some_iff.mp H
  obtain ⟨⟨t283, t284, t287, t290⟩, A40, H⟩ := H
  replace H : (spec_FilledCourt.l0 k 0 t283 t284 t287 t290) = some (r1, r2, r3, r4) := H
  have A4 := Aside0.mk A40
  clear A40
  have H' := Aside0.mk H
  clear H
  go_enter Try.func36, Try.ntmps36
  go_wp2_with (first | ((with_reducible refine gate_dst (N := 1) rfl ?_); refine box_event ?hg (N := 1) ?hd (cs := #[.int .i64 a0_0, .slice A0_1 l0_1.length c0_1, .slice A0_2 l0_2.length c0_2, .int .i64 a0_3]) (t := 28) ?hr ?_; (case hd => rfl); (case hg => rfl); (case hr => first | (go_simp; done) | (go_simp; rfl)); intro gb280 hg w5 hbox hb; have n0_ := Aside0.mk (below_step bh hb); have n1_ := Aside0.mk (hbox); have n2_ := Aside0.mk ((gs (W0 := w) hg bh)); have n3_ := Aside0.mk ((gs (W0 := w) hg bh)); clear HB; have HB := n0_; have BK280 := n1_; have GW280 := n2_; have GE280 := n3_; clear n0_ n1_ n2_ n3_ hb hbox hg) | ((with_reducible refine gate_dst (N := 2) rfl ?_); refine box_event ?hg (N := 2) ?hd (cs := #[.int .i64 0, .slice none 0 0, .slice none 0 0, .int .i64 0]) (t := 28) ?hr ?_; (case hd => rfl); (case hg => rfl); (case hr => first | (go_simp; done) | (go_simp; rfl)); intro gb281 hg w6 hbox hb; have n0_ := Aside0.mk (blk_below (bz BK280) hb); have n1_ := Aside0.mk (below_step bh hb); have n2_ := Aside0.mk (hbox); have n3_ := Aside0.mk ((gs (W0 := w) hg bh)); have n4_ := Aside0.mk ((gs (W0 := w) hg bh)); have n5_ := Aside0.mk ((gn hg (bz BK280))); have n6_ := Aside0.mk ((gm hg (bz BK280))); clear BK280 HB; have BK280 := n0_; have HB := n1_; have BK281 := n2_; have GW281 := n3_; have GE281 := n4_; have NB280_281 := n5_; have NB281_280 := n6_; clear n0_ n1_ n2_ n3_ n4_ n5_ n6_ hb hbox hg; have hnb7 := NB280_281.out; have hnc7 := NB281_280.out; have hcz8_0 := cz0 BK280; have hcz8_1 := cz1 BK280; have hcz8_2 := cz2 BK280; have hcz8_3 := cz3 BK280; have hfz8_0 := blk_frozen BK280.out 0; have hfz8_1 := blk_frozen BK280.out 1; have hfz8_2 := blk_frozen BK280.out 2; have hfz8_3 := blk_frozen BK280.out 3) | ((with_reducible refine gate_callee (f := 17) rfl ?_); refine goesL_ (some 6) rfl rfl Try.func17 kr rfl #[.agg #[.int .i64 a0_0, .slice A0_1 l0_1.length c0_1, .slice A0_2 l0_2.length c0_2, .int .i64 a0_3]] rfl lm ?_; (with_reducible refine (spec_CourtOk.calls k a0_0 _ _ l0_1 _ _ l0_2 a0_3 true _ ?side1 ?side2 ?side3 ?side4 A2.out).mono ?_); (case side1 => repeat (first | exact (Kd.C_below HR0_1.out HB.out) | (with_reducible refine Kd.C_alloc ?_ _) | (with_reducible refine Kd.C_drewN ?_ _) | (with_reducible refine Kd.C_drew ?_))); (case side2 => exact HC0_1.out); (case side3 => repeat (first | exact (Kd.C_below HR0_2.out HB.out) | (with_reducible refine Kd.C_alloc ?_ _) | (with_reducible refine Kd.C_drewN ?_ _) | (with_reducible refine Kd.C_drew ?_))); (case side4 => exact HC0_2.out); rintro e w9 ⟨rfl, hb⟩; refine ⟨_, rfl, ?_⟩; have n0_ := Aside0.mk (blk_below (bz BK280) hb); have n1_ := Aside0.mk (blk_below (bz BK281) hb); have n2_ := Aside0.mk (below_step bh hb); clear BK280 BK281 HB; have BK280 := n0_; have BK281 := n1_; have HB := n2_; clear n0_ n1_ n2_; (try clear hb); (try clear hb2); (try clear hk); (try clear hi); have hcz10_0 := cz0 BK280; have hcz10_1 := cz1 BK280; have hcz10_2 := cz2 BK280; have hcz10_3 := cz3 BK280; have hfz10_0 := blk_frozen BK280.out 0; have hfz10_1 := blk_frozen BK280.out 1; have hfz10_2 := blk_frozen BK280.out 2; have hfz10_3 := blk_frozen BK280.out 3) | ((with_reducible refine gate_callee (f := 67) rfl ?_); refine goesL_ (some 10) rfl rfl Try.func67 kr rfl #[.agg #[.int .i64 a0_0, .slice A0_1 l0_1.length c0_1, .slice A0_2 l0_2.length c0_2, .int .i64 a0_3]] rfl lm ?_; (with_reducible refine (spec_l7Copy.calls k a0_0 _ _ l0_1 _ _ l0_2 a0_3 t283 t284 t287 t290 _ ?side1 ?side2 ?side3 ?side4 A4.out).mono ?_); (case side1 => repeat (first | exact (Kd.C_below HR0_1.out HB.out) | (with_reducible refine Kd.C_alloc ?_ _) | (with_reducible refine Kd.C_drewN ?_ _) | (with_reducible refine Kd.C_drew ?_))); (case side2 => exact HC0_1.out); (case side3 => repeat (first | exact (Kd.C_below HR0_2.out HB.out) | (with_reducible refine Kd.C_alloc ?_ _) | (with_reducible refine Kd.C_drewN ?_ _) | (with_reducible refine Kd.C_drew ?_))); (case side4 => exact HC0_2.out); rintro e w11 ⟨v285, v288, rfl, ho0, ho1, hb⟩; refine ⟨_, rfl, ?_⟩; have n0_ := Aside0.mk (Kd.S_lower ho0 (below_size bh)); have n1_ := Aside0.mk (Kd.R_lower ho1 (below_size bh)); have n2_ := Aside0.mk (blk_below (bz BK280) hb); have n3_ := Aside0.mk (blk_below (bz BK281) hb); have n4_ := Aside0.mk (below_step bh hb); clear BK280 BK281 HB; have HO286 := n0_; have HO289 := n1_; have BK280 := n2_; have BK281 := n3_; have HB := n4_; clear n0_ n1_ n2_ n3_ n4_; (try clear hb); (try clear hb2); (try clear hk); (try clear hi); (try clear ho0); (try clear ho1)) | ((with_reducible refine gate_dst (N := 3) rfl ?_); refine box_event ?hg (N := 3) ?hd (cs := #[.int .i64 0, .slice none 0 0, .slice none 0 0, .int .i64 0]) (t := 28) ?hr ?_; (case hd => rfl); (case hg => rfl); (case hr => first | (go_simp; done) | (go_simp; rfl)); intro gb291 hg w12 hbox hb; have n0_ := Aside0.mk (Kd.S_below (sz HO286) hb); have n1_ := Aside0.mk (Kd.R_below (rz HO289) hb); have n2_ := Aside0.mk (blk_below (bz BK280) hb); have n3_ := Aside0.mk (blk_below (bz BK281) hb); have n4_ := Aside0.mk (below_step bh hb); have n5_ := Aside0.mk (hbox); have n6_ := Aside0.mk ((gs (W0 := w) hg bh)); have n7_ := Aside0.mk ((gs (W0 := w) hg bh)); have n8_ := Aside0.mk ((gn hg (bz BK280))); have n9_ := Aside0.mk ((gm hg (bz BK280))); have n10_ := Aside0.mk ((gn hg (bz BK281))); have n11_ := Aside0.mk ((gm hg (bz BK281))); clear HO286 HO289 BK280 BK281 HB; have HO286 := n0_; have HO289 := n1_; have BK280 := n2_; have BK281 := n3_; have HB := n4_; have BK291 := n5_; have GW291 := n6_; have GE291 := n7_; have NB280_291 := n8_; have NB291_280 := n9_; have NB281_291 := n10_; have NB291_281 := n11_; clear n0_ n1_ n2_ n3_ n4_ n5_ n6_ n7_ n8_ n9_ n10_ n11_ hb hbox hg; have hnb13 := NB291_280.out; have hnc13 := NB280_291.out; have hnb14 := NB291_281.out; have hnc14 := NB281_291.out; have hcz15_0 := cz0 BK291; have hcz15_1 := cz1 BK291; have hcz15_2 := cz2 BK291; have hcz15_3 := cz3 BK291; have hfz15_0 := blk_frozen BK291.out 0; have hfz15_1 := blk_frozen BK291.out 1; have hfz15_2 := blk_frozen BK291.out 2; have hfz15_3 := blk_frozen BK291.out 3; obtain ⟨Ao16, co16, eo16⟩ := Kd.S_slice HO286.out; subst eo16; obtain ⟨Ao17, co17, eo17⟩ := Kd.R_slice HO289.out; subst eo17))
  go_loopg [4] k (fun kq v4 w' => ∃ (x4_1 : Int) (x292002_1 : List Int) (u292002 : Value), v4 = .int .i64 x4_1 ∧ Aside0 (spec_FilledCourt.l0 kq x4_1 t283 t284 x292002_1 t290 = some (r1, r2, r3, r4)) ∧ Aside0 (kq ≤ k) ∧ Aside0 (Kd.S (Kd.slice 3 (Kd.int .i64)) 23 w' w.heap.size (fun k_ => some k_ ≠ (u292002 : Value).ownBlock) (.slice Ao16 t284.length co16) t284) ∧ Aside0 (Kd.R (Kd.int .i64) 3 w' w.heap.size (fun _ => True) u292002 x292002_1) ∧ Aside0 (w'.heap[gb280]? = some (.cells #[.int .i64 a0_0, (.slice A0_1 l0_1.length c0_1), (.slice A0_2 l0_2.length c0_2), .int .i64 a0_3] 28 (0, 0))) ∧ Aside0 (w'.heap[gb281]? = some (.cells #[.int .i64 0, (.slice none 0 0), (.slice none 0 0), .int .i64 0] 28 (0, 0))) ∧ Aside0 (w'.heap[gb291]? = some (.cells #[.int .i64 t283, (.slice Ao16 t284.length co16), u292002, .int .i64 t290] 28 (0, 0))) ∧ Aside0 (Below w.heap.size w w'))
  case atStart => exact ⟨(0), (t287), (.slice Ao17 t287.length co17), (by first | rfl | (simp; done) | (simp [*]; done)), H', ⟨Nat.le_refl _⟩, ⟨gS HO286 BK291⟩, ⟨gR HO289 BK291⟩, ⟨bf NB280_291 BK280⟩, ⟨bf NB281_291 BK281⟩, ⟨bp BK291⟩, ⟨by exact bh⟩⟩
  case round =>
   clear H'
   try clear c1
   try clear p2
   try clear c3
   try clear c6
   try clear c7
   try clear c13
   try clear c14
   try clear c17
   try clear hcz10_0
   try clear hcz10_1
   try clear hcz10_2
   try clear hcz10_3
   try clear hcz15_0
   try clear hcz15_1
   try clear hcz15_2
   try clear hcz15_3
   try clear hcz8_0
   try clear hcz8_1
   try clear hcz8_2
   try clear hcz8_3
   try clear hfz10_0
   try clear hfz10_1
   try clear hfz10_2
   try clear hfz10_3
   try clear hfz15_0
   try clear hfz15_1
   try clear hfz15_2
   try clear hfz15_3
   try clear hfz8_0
   try clear hfz8_1
   try clear hfz8_2
   try clear hfz8_3
   obtain ⟨x4_1, x292002_1, u292002, rfl, HA, HK1, HO_292001, HO_292002, BK280, BK281, BK291, HB⟩ := hrel
   cases gk with
   | zero => exact absurd HA.out (by simp [spec_FilledCourt.l0])
   | succ k1 =>
    have H := HA.out
    clear HA
    simp only [spec_FilledCourt.l0] at H
    by_cases c18 : x4_1 < (x292002_1.length : Int)
    ·rw [if_pos c18] at H
     have c18b0 : decide (x4_1 < (x292002_1.length : Int)) = true := decide_eq_true c18
     clear c18
     by_cases c19 : 0 ≤ x4_1
     ·rw [if_pos c19] at H
      have c19b0 : decide (0 ≤ x4_1) = true := decide_eq_true c19
      clear c19
      by_cases c20 : (rd x292002_1 x4_1) = (-1)
      ·rw [if_pos c20] at H
       have c20b0 : ((rd x292002_1 x4_1) == (-1)) = true := beq_iff_eq.mpr c20
       have c20b1 : ((rd x292002_1 x4_1) != (-1)) = false := bne_eq_false_iff_eq.mpr c20
       clear c20
       replace H := Option.bind_eq_some_iff.mp H
       obtain ⟨t293, A210, H⟩ := H
       replace H : (spec_FilledCourt.l0 k1 (wrap64 (x4_1 + 1)) t283 t284 (x292002_1.set (x4_1 : Int).toNat t293) t290) = some (r1, r2, r3, r4) := H
       have A21 := Aside0.mk A210
       clear A210
       obtain ⟨y294, hy294⟩ : ∃ y_ : List Int, y_ = (x292002_1.set (x4_1 : Int).toNat t293) := ⟨_, rfl⟩
       replace H : (spec_FilledCourt.l0 k1 (wrap64 (x4_1 + 1)) t283 t284 y294 t290) = some (r1, r2, r3, r4) := by first | (rw [hy294]; with_reducible exact H) | (have H2_ := (Option.bind_some _ _).symm.trans H; rw [hy294]; with_reducible exact H2_) | (have H2_ := (Option.bind_some _ _).symm.trans H; with_reducible exact H2_) | with_reducible exact H | (rw [hy294]; exact H) | exact H
       have Ny294 := Aside0.mk hy294
       clear hy294
       have H' := Aside0.mk H
       clear H
       have hnb23 := NB291_280.out
       have hnc23 := NB280_291.out
       have hnb24 := NB291_281.out
       have hnc24 := NB281_291.out
       have hcz25_0 := cz0 BK291
       have hcz25_1 := cz1 BK291
       have hcz25_2 := cz2 BK291
       have hcz25_3 := cz3 BK291
       have hfz25_0 := blk_frozen BK291.out 0
       have hfz25_1 := blk_frozen BK291.out 1
       have hfz25_2 := blk_frozen BK291.out 2
       have hfz25_3 := blk_frozen BK291.out 3
       obtain ⟨Ao26, co26, eo26⟩ := Kd.R_slice HO_292002.out
       subst eo26
       have p292 : 0 ≤ (x4_1 : Int) := oda
       have q292 : x4_1 < (x292002_1.length : Int) := oda
       obtain ⟨ad292, e292, hx292_0⟩ := Kd.at_int (Kd.R_reads' HO_292002.out).2.2 x4_1 p292 q292
       cases e292
       replace p292 := eq_true p292
       replace q292 := eq_true q292
       try go_wp2
       have n0_ := Aside0.mk (Kd.S_drew HO_292001.out)
       have n1_ := Aside0.mk (Kd.R_drew HO_292002.out)
       have n2_ := Aside0.mk (blk_drew BK280.out)
       have n3_ := Aside0.mk (blk_drew BK281.out)
       have n4_ := Aside0.mk (blk_drew BK291.out)
       have n5_ := Aside0.mk (below_drew1 HB.out)
       clear HO_292001 HO_292002 BK280 BK281 BK291 HB
       have HO_292001 := n0_
       have HO_292002 := n1_
       have BK280 := n2_
       have BK281 := n3_
       have BK291 := n4_
       have HB := n5_
       clear n0_ n1_ n2_ n3_ n4_ n5_
       refine start_ (n := 8) (S := fun w' => w'.cell? ⟨gb291, 0, none⟩ = some (.int .i64 t283) ∧ w'.cell? ⟨gb291, 1, none⟩ = some (.slice Ao16 t284.length co16) ∧ w'.cell? ⟨gb291, 2, none⟩ = some (.slice (some ad292) x292002_1.length co26) ∧ w'.cell? ⟨gb291, 3, none⟩ = some (.int .i64 t290)) (ds := [7]) #[F,F,F,F,F,F,F,F] kr rfl rfl ⟨cz0 BK291, cz1 BK291, cz2 BK291, cz3 BK291⟩ (fun hHeld => ?_); refine with_tabW spec_FilledCourt.tab8 spec_FilledCourt.bits8 (fun HT_ HW_ => ?_)
       generalize wr.drew = w27 at HO_292001 HO_292002 BK280 BK281 BK291 HB hHeld ⊢
       refine pu 0 (some 24) #[T,F,F,F,F,F,F,F] (any_of HT_.out kr) ?_
       refine pu 2 (some 26) #[T,F,T,F,F,F,F,F] (any_of HT_.out kr) ?_
       refine pu 4 (some 28) #[T,F,T,F,T,F,F,F] (any_of HT_.out kr) ?_
       refine tk4 1 (some 25) #[T,T,T,F,T,F,F,F] (take_ofW HT_.out HW_.out kr) ?_
       refine tk4 3 (some 27) #[T,T,T,T,T,F,F,F] (take_ofW HT_.out HW_.out kr) ?_
       refine one_ (i := 5) (N := some 29) #[T,T,T,T,T,T,F,F] rfl rfl (one_of HT_.out kr) (by decide) (fun K hK => ?_)
       refine goes_ Try.func59 kr rfl #[.agg #[.int .i64 t283, .slice Ao16 t284.length co16, .slice (some ad292) x292002_1.length co26, .int .i64 t290], .int .i64 x4_1] (by rfl) rfl rfl lm ?_
       with_reducible refine (spec_l7Next.calls k1 t283 _ _ t284 _ _ x292002_1 t290 x4_1 t293 _ ?side1 ?side2 ?side3 ?side4 A21.out).mono ?_
       (case side1 => repeat (first | exact (Kd.S_reads' HO_292001.out).2.2 | (with_reducible refine Kd.C_alloc ?_ _) | (with_reducible refine Kd.C_drewN ?_ _) | (with_reducible refine Kd.C_drew ?_)))
       (case side2 => exact (Kd.S_reads' HO_292001.out).2.1)
       (case side3 => repeat (first | exact (Kd.R_reads' HO_292002.out).2.2 | (with_reducible refine Kd.C_alloc ?_ _) | (with_reducible refine Kd.C_drewN ?_ _) | (with_reducible refine Kd.C_drew ?_)))
       (case side4 => exact (Kd.R_reads' HO_292002.out).2.1)
       rintro e w28 ⟨rfl, hb⟩
       refine ⟨_, rfl, ?_⟩
       have n0_ := Aside0.mk (Kd.S_below (sz HO_292001) hb)
       have n1_ := Aside0.mk (Kd.R_below (rz HO_292002) hb)
       have n2_ := Aside0.mk (blk_below (bz BK280) hb)
       have n3_ := Aside0.mk (blk_below (bz BK281) hb)
       have n4_ := Aside0.mk (blk_below (bz BK291) hb)
       have n5_ := Aside0.mk (below_step bh hb)
       clear HO_292001 HO_292002 BK280 BK281 BK291 HB
       have HO_292001 := n0_
       have HO_292002 := n1_
       have BK280 := n2_
       have BK281 := n3_
       have BK291 := n4_
       have HB := n5_
       clear n0_ n1_ n2_ n3_ n4_ n5_
       (try clear hb)
       (try clear hb2)
       (try clear hk)
       (try clear hi)
       have p22 : 0 ≤ (x4_1 : Int) := oda
       have q22 : (x4_1 : Int) < ((x292002_1.length : Int) : Int) := oda
       obtain ⟨go22, co22, eo22, gb22, gl22, cl22, HG22⟩ := Kd.R_form HO_292002.out (by omega)
       (first | cases eo22 | (injection eo22 with ea_ en_ ec_; (first | subst ea_ | (injection ea_ with ea_; subst ea_)); subst ec_; clear en_))
       have GB22 := Aside0.mk gb22
       have GG22 := Aside0.mk HG22
       clear gb22 gl22 HG22
       (first | simp only [add_plain] at hx292_0 | skip)
       obtain ⟨hx22_0, hf22_0⟩ := Kd.R_celln 0 HO_292002.out (x4_1 : Int) p22 q22
       replace p22 := eq_true p22
       replace q22 := eq_true q22
       have HP29 := Kd.R_putn HO_292002.out (x4_1 : Int) t293
       rw [← Ny294.out] at HP29
       have HQ29 := Aside0.mk HP29
       clear HP29
       refine hK.out _ _ ⟨cz0 BK291, cz1 BK291, cz2 BK291, cz3 BK291⟩ (fun hHeld => ?_)
       clear hK K
       refine norm_ (a' := ?_) ?_ ?_
       rotate_left
       ·show Act.put _ (some 29) _ = _
        simp only [Act.put, List.setIfInBounds_toArray, List.set_cons_zero, List.set_cons_succ, i64_w, i32_w]
        rfl
       refine pu 6 (some 30) #[T,T,T,T,T,T,T,F] (any_of HT_.out kr) ?_
       refine last_ (i := 7) (N := none) #[T,T,T,T,T,T,T,T] rfl rfl (one_of HT_.out kr) (by decide) (fun K hK => ?_)
       refine skip_ (w1 := ?_) (by rfl) rfl ?_ ?_
       rotate_left
       ·go_simp
        rfl
       refine hK.out _ _ ?_
       clear hK K
       refine done_ (done_of HT_.out kr) ?_
       try go_wp2
       go_roundg k1
       case measure => have := HK1.out; omega
       case rel => exact ⟨(wrap64 (x4_1 + 1)), (y294), (.slice (some ⟨go22, 0, none⟩) x292002_1.length co26), (by first | rfl | (simp; done) | (simp [*]; done)), H', ⟨by have := HK1.out; omega⟩, ⟨by (with_reducible repeat (first | apply Kd.S_alloc | apply Kd.S_drewN | apply Kd.S_drew)); exact Kd.S_mono (Kd.S_far (p := ⟨go22, (x4_1 : Int).toNat, none⟩) (Kd.S_mono HO_292001.out (fun k_ hk => (⟨hk, fun e_ => hk (by rw [e_]; rfl)⟩ : _ ∧ k_ ≠ go22))) (fun _ hk => hk.2) (.int .i64 t293)) (fun _ hk => hk.1)⟩, ⟨rz HQ29⟩, ⟨by (with_reducible repeat (first | refine blk_drewN ?_ _ | refine blk_drew ?_ | refine blk_alloc ?_ _)); refine blk_far ?_ (by have h_ := Kd.R_ne HO_292002.out BK280.out (by decide); intro e_; exact h_ (by rw [e_]; rfl)) _; (with_reducible repeat (first | refine blk_drewN ?_ _ | refine blk_drew ?_ | refine blk_alloc ?_ _)); exact BK280.out⟩, ⟨by (with_reducible repeat (first | refine blk_drewN ?_ _ | refine blk_drew ?_ | refine blk_alloc ?_ _)); refine blk_far ?_ (by have h_ := Kd.R_ne HO_292002.out BK281.out (by decide); intro e_; exact h_ (by rw [e_]; rfl)) _; (with_reducible repeat (first | refine blk_drewN ?_ _ | refine blk_drew ?_ | refine blk_alloc ?_ _)); exact BK281.out⟩, ⟨by (with_reducible repeat (first | refine blk_drewN ?_ _ | refine blk_drew ?_ | refine blk_alloc ?_ _)); refine blk_far ?_ (by have h_ := Kd.R_ne HO_292002.out BK291.out (by decide); intro e_; exact h_ (by rw [e_]; rfl)) _; (with_reducible repeat (first | refine blk_drewN ?_ _ | refine blk_drew ?_ | refine blk_alloc ?_ _)); exact BK291.out⟩, ⟨by repeat (first | (with_reducible first | exact HB.out | apply below_alloc | apply pw_below_drewN | apply below_drew1 | refine below_set ?_ GB22.out | refine below_set ?_ GE280.out | refine below_set ?_ GE281.out | refine below_set ?_ GE291.out) | exact HB.out)⟩⟩
      ·rw [if_neg c20] at H
       have c20b0 : ((rd x292002_1 x4_1) == (-1)) = false := beq_eq_false_iff_ne.mpr c20
       have c20b1 : ((rd x292002_1 x4_1) != (-1)) = true := bne_iff_ne.mpr c20
       have H' := Aside0.mk H
       clear H
       have hnb30 := NB291_280.out
       have hnc30 := NB280_291.out
       have hnb31 := NB291_281.out
       have hnc31 := NB281_291.out
       have hcz32_0 := cz0 BK291
       have hcz32_1 := cz1 BK291
       have hcz32_2 := cz2 BK291
       have hcz32_3 := cz3 BK291
       have hfz32_0 := blk_frozen BK291.out 0
       have hfz32_1 := blk_frozen BK291.out 1
       have hfz32_2 := blk_frozen BK291.out 2
       have hfz32_3 := blk_frozen BK291.out 3
       obtain ⟨Ao33, co33, eo33⟩ := Kd.R_slice HO_292002.out
       subst eo33
       have p292 : 0 ≤ (x4_1 : Int) := oda
       have q292 : x4_1 < (x292002_1.length : Int) := oda
       obtain ⟨ad292, e292, hx292_0⟩ := Kd.at_int (Kd.R_reads' HO_292002.out).2.2 x4_1 p292 q292
       cases e292
       replace p292 := eq_true p292
       replace q292 := eq_true q292
       go_wp2
       go_roundg k1
       case measure => have := HK1.out; omega
       case rel => exact ⟨(wrap64 (x4_1 + 1)), (x292002_1), (.slice (some ad292) x292002_1.length co33), (by first | rfl | (simp; done) | (simp [*]; done)), H', ⟨by have := HK1.out; omega⟩, ⟨sz HO_292001⟩, ⟨rz HO_292002⟩, ⟨bz BK280⟩, ⟨bz BK281⟩, ⟨bz BK291⟩, ⟨by exact bh⟩⟩
     ·rw [if_neg c19] at H
      exact absurd H (by simp)
    ·rw [if_neg c18] at H
     have c18b0 : decide (x4_1 < (x292002_1.length : Int)) = false := decide_eq_false c18
     clear c18
     simp only [Option.some.injEq, Prod.mk.injEq] at H
     obtain ⟨rfl, rfl, rfl, rfl⟩ := H
     have hnb34 := NB291_280.out
     have hnc34 := NB280_291.out
     have hnb35 := NB291_281.out
     have hnc35 := NB281_291.out
     have hcz36_0 := cz0 BK291
     have hcz36_1 := cz1 BK291
     have hcz36_2 := cz2 BK291
     have hcz36_3 := cz3 BK291
     have hfz36_0 := blk_frozen BK291.out 0
     have hfz36_1 := blk_frozen BK291.out 1
     have hfz36_2 := blk_frozen BK291.out 2
     have hfz36_3 := blk_frozen BK291.out 3
     obtain ⟨Ao37, co37, eo37⟩ := Kd.R_slice HO_292002.out
     subst eo37
     have hnb38 := NB281_280.out
     have hnc38 := NB280_281.out
     have hcz39_0 := cz0 BK281
     have hcz39_1 := cz1 BK281
     have hcz39_2 := cz2 BK281
     have hcz39_3 := cz3 BK281
     have hfz39_0 := blk_frozen BK281.out 0
     have hfz39_1 := blk_frozen BK281.out 1
     have hfz39_2 := blk_frozen BK281.out 2
     have hfz39_3 := blk_frozen BK281.out 3
     go_wp2
     refine bodyPost_ret (results_cell_row rfl _ _ gb281 28 #[.int .i64 t283, .slice Ao16 t284.length co16, .slice Ao37 x292002_1.length co37, .int .i64 t290] (0, 0) _ rfl (bp BK281) Try.underlying28 rfl kr) rfl ?_
     exact ⟨_, _, by first | rfl | (simp [errW_none, errW_some] <;> rfl) | (simp [*, errW_none, errW_some] <;> rfl), by (with_reducible repeat (first | apply Kd.S_alloc | apply Kd.S_drewN | apply Kd.S_drew)); exact Kd.S_mono (Kd.S_far (p := ⟨gb281, 3, none⟩) (Kd.S_far (p := ⟨gb281, 2, none⟩) (Kd.S_far (p := ⟨gb281, 1, none⟩) (Kd.S_far (p := ⟨gb281, 0, none⟩) (Kd.S_types HO_292001.out BK281.out (by decide)) (fun _ hk => hk.2) (.int .i64 t283)) (fun _ hk => hk.2) (.slice Ao16 t284.length co16)) (fun _ hk => hk.2) (.slice Ao37 x292002_1.length co37)) (fun _ hk => hk.2) (.int .i64 t290)) (fun _ hk => hk.1), by (with_reducible repeat (first | apply Kd.R_alloc | apply Kd.R_drewN | apply Kd.R_drew)); exact Kd.R_mono (Kd.R_far (p := ⟨gb281, 3, none⟩) (Kd.R_far (p := ⟨gb281, 2, none⟩) (Kd.R_far (p := ⟨gb281, 1, none⟩) (Kd.R_far (p := ⟨gb281, 0, none⟩) (Kd.R_types HO_292002.out BK281.out (by decide)) (fun _ hk => hk.2) (.int .i64 t283)) (fun _ hk => hk.2) (.slice Ao16 t284.length co16)) (fun _ hk => hk.2) (.slice Ao37 x292002_1.length co37)) (fun _ hk => hk.2) (.int .i64 t290)) (fun _ hk => trivial), by exact bh⟩
 ·replace c3 := Bool.eq_false_iff.mpr c3
  subst c3
  have H1 : (some (0, ([] : List (List Int)), ([] : List Int), 0)) = some (r1, r2, r3, r4) := by rw [if_neg (show ¬ (false = true) by decide)] at H; exact H
  clear H
  have H := H1
  clear H1
  simp only [Option.some.injEq, Prod.mk.injEq] at H
  obtain ⟨rfl, rfl, rfl, rfl⟩ := H
  go_enter Try.func36, Try.ntmps36
  go_wp2_with (first | ((with_reducible refine gate_dst (N := 1) rfl ?_); refine box_event ?hg (N := 1) ?hd (cs := #[.int .i64 a0_0, .slice A0_1 l0_1.length c0_1, .slice A0_2 l0_2.length c0_2, .int .i64 a0_3]) (t := 28) ?hr ?_; (case hd => rfl); (case hg => rfl); (case hr => first | (go_simp; done) | (go_simp; rfl)); intro gb280 hg w40 hbox hb; have n0_ := Aside0.mk (below_step bh hb); have n1_ := Aside0.mk (hbox); have n2_ := Aside0.mk ((gs (W0 := w) hg bh)); have n3_ := Aside0.mk ((gs (W0 := w) hg bh)); clear HB; have HB := n0_; have BK280 := n1_; have GW280 := n2_; have GE280 := n3_; clear n0_ n1_ n2_ n3_ hb hbox hg) | ((with_reducible refine gate_dst (N := 2) rfl ?_); refine box_event ?hg (N := 2) ?hd (cs := #[.int .i64 0, .slice none 0 0, .slice none 0 0, .int .i64 0]) (t := 28) ?hr ?_; (case hd => rfl); (case hg => rfl); (case hr => first | (go_simp; done) | (go_simp; rfl)); intro gb281 hg w41 hbox hb; have n0_ := Aside0.mk (blk_below (bz BK280) hb); have n1_ := Aside0.mk (below_step bh hb); have n2_ := Aside0.mk (hbox); have n3_ := Aside0.mk ((gs (W0 := w) hg bh)); have n4_ := Aside0.mk ((gs (W0 := w) hg bh)); have n5_ := Aside0.mk ((gn hg (bz BK280))); have n6_ := Aside0.mk ((gm hg (bz BK280))); clear BK280 HB; have BK280 := n0_; have HB := n1_; have BK281 := n2_; have GW281 := n3_; have GE281 := n4_; have NB280_281 := n5_; have NB281_280 := n6_; clear n0_ n1_ n2_ n3_ n4_ n5_ n6_ hb hbox hg; have hnb42 := NB280_281.out; have hnc42 := NB281_280.out; have hcz43_0 := cz0 BK280; have hcz43_1 := cz1 BK280; have hcz43_2 := cz2 BK280; have hcz43_3 := cz3 BK280; have hfz43_0 := blk_frozen BK280.out 0; have hfz43_1 := blk_frozen BK280.out 1; have hfz43_2 := blk_frozen BK280.out 2; have hfz43_3 := blk_frozen BK280.out 3) | ((with_reducible refine gate_callee (f := 17) rfl ?_); refine goesL_ (some 6) rfl rfl Try.func17 kr rfl #[.agg #[.int .i64 a0_0, .slice A0_1 l0_1.length c0_1, .slice A0_2 l0_2.length c0_2, .int .i64 a0_3]] rfl lm ?_; (with_reducible refine (spec_CourtOk.calls k a0_0 _ _ l0_1 _ _ l0_2 a0_3 false _ ?side1 ?side2 ?side3 ?side4 A2.out).mono ?_); (case side1 => repeat (first | exact (Kd.C_below HR0_1.out HB.out) | (with_reducible refine Kd.C_alloc ?_ _) | (with_reducible refine Kd.C_drewN ?_ _) | (with_reducible refine Kd.C_drew ?_))); (case side2 => exact HC0_1.out); (case side3 => repeat (first | exact (Kd.C_below HR0_2.out HB.out) | (with_reducible refine Kd.C_alloc ?_ _) | (with_reducible refine Kd.C_drewN ?_ _) | (with_reducible refine Kd.C_drew ?_))); (case side4 => exact HC0_2.out); rintro e w44 ⟨rfl, hb⟩; refine ⟨_, rfl, ?_⟩; have n0_ := Aside0.mk (blk_below (bz BK280) hb); have n1_ := Aside0.mk (blk_below (bz BK281) hb); have n2_ := Aside0.mk (below_step bh hb); clear BK280 BK281 HB; have BK280 := n0_; have BK281 := n1_; have HB := n2_; clear n0_ n1_ n2_; (try clear hb); (try clear hb2); (try clear hk); (try clear hi); have hcz45_0 := cz0 BK281; have hcz45_1 := cz1 BK281; have hcz45_2 := cz2 BK281; have hcz45_3 := cz3 BK281; have hfz45_0 := blk_frozen BK281.out 0; have hfz45_1 := blk_frozen BK281.out 1; have hfz45_2 := blk_frozen BK281.out 2; have hfz45_3 := blk_frozen BK281.out 3))
  refine bodyPost_ret (results_cell_row rfl _ _ gb281 28 #[.int .i64 0, .slice none 0 0, .slice none 0 0, .int .i64 0] (0, 0) _ rfl (bp BK281) Try.underlying28 rfl kr) rfl ?_
  exact ⟨_, _, by first | rfl | (simp [errW_none, errW_some] <;> rfl) | (simp [*, errW_none, errW_some] <;> rfl), by first | exact Kd.S_nil _ _ _ _ _ | exact Kd.N_nil _ _ _ _ _ | exact Kd.V_nil _ _ _ _ _ | exact Kd.Q_nil _ _ _ _ _ | exact Kd.R_nil _ _ _ _ _, by first | exact Kd.R_nil _ _ _ _ _ | exact Kd.N_nil _ _ _ _ _ | exact Kd.V_nil _ _ _ _ _ | exact Kd.Q_nil _ _ _ _ _ | exact Kd.S_nil _ _ _ _ _, by exact bh⟩

end Go.Proofs.Ytlpjkeejflogjaa.QFnExactAfterDeaths
