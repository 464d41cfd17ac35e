-- Printed for this claim by a turned copy of the print (wip/myprint). Lean checks it. Squeezed. Worded. Tightened.
import Derived.Test.YtnpjlpkbefdnlaaQFnTwoHousesx0
import Derived.Test.YtnpjlpkbefdnlaaQFnTwoHousesx2
import Derived.Test.YtnpjlpkbefdnlaaQFnTwoHousesx4
import Derived.Test.YtnpjlpkbefdnlaaQFnTwoHousesx5
import Derived.Test.YtnpjlpkbefdnlaaQFnTwoHousesx7
import Derived.Test.YtnpjlpkbefdnlaaQFnTwoHousesx10
namespace Go.Proofs.Ytnpjlpkbefdnlaa.QFnTwoHouses
open Go.RowKit Go.Proofs.YtnpjlpkbefdnlaaW.PrintWords Go.Proofs.YtnpjlpkbefdnlaaW.PrintLast Go.Proofs.YtnpjlpkbefdnlaaW.PrintMore
attribute [local go_sem] max2_int min2_int max_two min_two max_three min_three max_four min_four Opens.cell_twice   -- for this text's walks alone
set_option linter.unusedVariables false
set_option linter.unusedSimpArgs false

/-! ### impl_isSound: function 66 -/
mutual
def impl_isSound.l0 : Nat → List (S41) → List (S41) → Int → Int → Int → List Int → Option (Bool)
 | 0, _, _, _, _, _, _ => none
 | k + 1, x1, x8, x9, x10, x383000, x383001 => if x10 < x9 then (if 0 ≤ x10 then (if x10 < (x8.length : Int) then (if 0 ≤ x383000 then (impl_isSound.l1 k x1 x8 x9 x10 (shl .i64 1 x383000) 0 x383000 x383001 ((rd_T41 x8 x10).f0) ((rd_T41 x8 x10).f1) ((rd_T41 x8 x10).f2)) else (none)) else (none)) else (none)) else (some true)
def impl_isSound.l1 : Nat → List (S41) → List (S41) → Int → Int → Int → Int → Int → List Int → List (S78) → Int → Int → Option (Bool)
 | 0, _, _, _, _, _, _, _, _, _, _, _ => none
 | k + 1, x1, x8, x9, x10, x16, x17, x383000, x383001, x385000, x385001, x385002 => if x17 < x16 then ((impl_lawFrom.f k x383000 x383001 x1 x385002 x17).bind fun t385 => (if t385 = true then ((impl_lawFrom.f k x383000 x383001 x1 x385001 x17).bind fun t386 => (if t386 = true then (impl_isSound.l1 k x1 x8 x9 x10 x16 (wrap64 (x17 + 1)) x383000 x383001 x385000 x385001 x385002) else (some false))) else (impl_isSound.l1 k x1 x8 x9 x10 x16 (wrap64 (x17 + 1)) x383000 x383001 x385000 x385001 x385002))) else (impl_isSound.l0 k x1 x8 x9 (wrap64 (x10 + 1)) x383000 x383001)
end
def impl_isSound.f (k : Nat) (a0_0 : Int) (l0_1 : List Int) (l1 : List (S41)) : Option (Bool) := impl_isSound.l0 k l1 l1 (l1.length : Int) 0 a0_0 l0_1
theorem impl_isSound.mono_l : ∀ k, (∀ y0 y1 y2 y3 y4 y5, LeO (impl_isSound.l0 k y0 y1 y2 y3 y4 y5) (impl_isSound.l0 (k + 1) y0 y1 y2 y3 y4 y5)) ∧ (∀ y0 y1 y2 y3 y4 y5 y6 y7 y8 y9 y10, LeO (impl_isSound.l1 k y0 y1 y2 y3 y4 y5 y6 y7 y8 y9 y10) (impl_isSound.l1 (k + 1) y0 y1 y2 y3 y4 y5 y6 y7 y8 y9 y10))
 | 0 => ⟨fun _ _ _ _ _ _ r h => by simp [impl_isSound.l0] at h, fun _ _ _ _ _ _ _ _ _ _ _ r h => by simp [impl_isSound.l1] at h⟩
 | k + 1 => by
  obtain ⟨ih0, ih1⟩ := impl_isSound.mono_l k
  refine ⟨?_, ?_⟩
  ·intro y0 y1 y2 y3 y4 y5
   unfold impl_isSound.l0
   repeat' first
   | (with_reducible exact ih0 _ _ _ _ _ _)
   | (with_reducible exact ih1 _ _ _ _ _ _ _ _ _ _ _)
   | (with_reducible exact impl_lawFrom.mono _ _ _ _ _ _)
   | (with_reducible exact LeO.refl _)
   | (with_reducible exact LeO.none _)
   | (with_reducible refine LeO.ite ?_ ?_)
   | (with_reducible refine LeO.bind ?_ (fun _ => ?_))
   | exact ih0 _ _ _ _ _ _
   | exact ih1 _ _ _ _ _ _ _ _ _ _ _
   | exact impl_lawFrom.mono _ _ _ _ _ _
   | exact LeO.none _
   | refine LeO.ite ?_ ?_
   | refine LeO.bind ?_ (fun _ => ?_)
  ·intro y0 y1 y2 y3 y4 y5 y6 y7 y8 y9 y10
   unfold impl_isSound.l1
   repeat' first
   | (with_reducible exact ih0 _ _ _ _ _ _)
   | (with_reducible exact ih1 _ _ _ _ _ _ _ _ _ _ _)
   | (with_reducible exact impl_lawFrom.mono _ _ _ _ _ _)
   | (with_reducible exact LeO.refl _)
   | (with_reducible exact LeO.none _)
   | (with_reducible refine LeO.ite ?_ ?_)
   | (with_reducible refine LeO.bind ?_ (fun _ => ?_))
   | exact ih0 _ _ _ _ _ _
   | exact ih1 _ _ _ _ _ _ _ _ _ _ _
   | exact impl_lawFrom.mono _ _ _ _ _ _
   | exact LeO.none _
   | refine LeO.ite ?_ ?_
   | refine LeO.bind ?_ (fun _ => ?_)
theorem impl_isSound.mono : ∀ a0 a1 a2 k, LeO (impl_isSound.f k a0 a1 a2) (impl_isSound.f (k + 1) a0 a1 a2) := by
 intro a0 a1 a2 k
 obtain ⟨ih0, ih1⟩ := impl_isSound.mono_l k
 unfold impl_isSound.f
 repeat' first
   | (with_reducible exact ih0 _ _ _ _ _ _)
   | (with_reducible exact ih1 _ _ _ _ _ _ _ _ _ _ _)
   | (with_reducible exact impl_lawFrom.mono _ _ _ _ _ _)
   | (with_reducible exact LeO.refl _)
   | (with_reducible exact LeO.none _)
   | (with_reducible refine LeO.ite ?_ ?_)
   | (with_reducible refine LeO.bind ?_ (fun _ => ?_))
   | exact ih0 _ _ _ _ _ _
   | exact ih1 _ _ _ _ _ _ _ _ _ _ _
   | exact impl_lawFrom.mono _ _ _ _ _ _
   | exact LeO.none _
   | refine LeO.ite ?_ ?_
   | refine LeO.bind ?_ (fun _ => ?_)
set_option maxHeartbeats 8000000 in
set_option maxRecDepth 100000 in
theorem impl_isSound.calls (k : Nat) (a0_0 : Int) (A0_1 : Option Addr) (c0_1 : Nat) (l0_1 : List Int) (A1 : Option Addr) (c1 : Nat) (l1 : List (S41)) (r : Bool) (w : World) (hr0_1 : Kd.C (Kd.int .i64) w A0_1 l0_1.length l0_1) (hc0_1 : l0_1.length ≤ c0_1) (hr1 : Kd.C k41 w A1 l1.length l1) (hc1 : l1.length ≤ c1) (h : impl_isSound.f k a0_0 l0_1 l1 = some r) :
  Calls Try.prog 66 #[.agg #[.int .i64 a0_0, .slice A0_1 l0_1.length c0_1], .slice A1 l1.length c1] w fun e w' => e = .returned (.bool r) ∧ Below w.heap.size w w' := by
 have hu25 := Try.underlying25
 have hu41 := Try.underlying41
 have HR0_1 := Aside0.mk hr0_1
 have HC0_1 := Aside0.mk hc0_1
 clear hr0_1 hc0_1
 have HR1 := Aside0.mk hr1
 have HC1 := Aside0.mk hc1
 clear hr1 hc1
 have HB := Aside0.mk (Below.refl w.heap.size w)
 have H : (impl_isSound.l0 k l1 l1 (l1.length : Int) 0 a0_0 l0_1) = some r := h
 clear h
 have H' := Aside0.mk H
 clear H
 go_enter Try.func66, Try.ntmps66
 go_wp2_with (first | ((with_reducible refine gate_dst (N := 2) rfl ?_); refine box_event ?hg (N := 2) ?hd (cs := #[.int .i64 a0_0, .slice A0_1 l0_1.length c0_1]) (t := 25) ?hr ?_; (case hd => rfl); (case hg => rfl); (case hr => first | (go_simp; done) | (go_simp; rfl)); intro gb382 hg w3 hbox hb; have n0_ := Aside0.mk (below_step bh hb); have n1_ := Aside0.mk (hbox); have n2_ := Aside0.mk ((gs (W0 := w) hg bh)); have n3_ := Aside0.mk ((gs (W0 := w) hg bh)); clear HB; have HB := n0_; have BK382 := n1_; have GW382 := n2_; have GE382 := n3_; clear n0_ n1_ n2_ n3_ hb hbox hg))
 go_loopg [10] k (fun kq v10 w' => ∃ (x10_1 : Int), v10 = .int .i64 x10_1 ∧ Aside0 (impl_isSound.l0 kq l1 l1 (l1.length : Int) x10_1 a0_0 l0_1 = some r) ∧ Aside0 (kq ≤ k) ∧ Aside0 (w'.heap[gb382]? = some (.cells #[.int .i64 a0_0, (.slice A0_1 l0_1.length c0_1)] 25 (0, 0))) ∧ Aside0 (Below w.heap.size w w'))
 case atStart => exact ⟨(0), (by first | rfl | (simp; done) | (simp [*]; done)), H', ⟨Nat.le_refl _⟩, ⟨bz BK382⟩, ⟨by exact bh⟩⟩
 case round =>
  clear H'
  try clear c1
  try clear p2
  obtain ⟨x10_1, rfl, HA, HK1, BK382, HB⟩ := hrel
  cases gk with
  | zero => exact absurd HA.out (by simp [impl_isSound.l0])
  | succ k1 =>
   have H := HA.out
   clear HA
   simp only [impl_isSound.l0] at H
   by_cases c4 : x10_1 < (l1.length : Int)
   ·rw [if_pos c4] at H
    have c4b0 : decide (x10_1 < (l1.length : Int)) = true := decide_eq_true c4
    clear c4
    by_cases c5 : 0 ≤ x10_1
    ·rw [if_pos c5] at H
     have c5b0 : decide (0 ≤ x10_1) = true := decide_eq_true c5
     clear c5
     by_cases c6 : x10_1 < (l1.length : Int)
     ·rw [if_pos c6] at H
      have c6b0 : decide (x10_1 < (l1.length : Int)) = true := decide_eq_true c6
      clear c6
      by_cases c7 : 0 ≤ a0_0
      ·rw [if_pos c7] at H
       have c7b0 := eq_true c7
       have c7b1 : decide (0 ≤ a0_0) = true := decide_eq_true c7
       clear c7
       obtain ⟨ji8, hji8⟩ : ∃ j_ : Int, (shl .i64 1 a0_0) = j_ := ⟨_, rfl⟩
       replace H : (impl_isSound.l1 k1 l1 l1 (l1.length : Int) x10_1 ji8 0 a0_0 l0_1 ((rd_T41 l1 x10_1).f0) ((rd_T41 l1 x10_1).f1) ((rd_T41 l1 x10_1).f2)) = some r := by first | (rw [hji8] at H; exact H) | (simp only [hji8] at H ⊢; exact H)
       have hji8_ : (IntKind.i64.wrap (1 * 2 ^ min a0_0.toNat 64)) = ji8 := hji8
       have hji8z : a0_0 ≤ 64 → (IntKind.i64.wrap (1 * 2 ^ a0_0.toNat)) = ji8 := shl_small hji8
       have hji8u : (IntKind.i64.wrap (2 ^ min a0_0.toNat 64)) = ji8 := by have h_ := hji8_; rw [Int.one_mul] at h_; exact h_
       have hji8v : a0_0 ≤ 64 → (IntKind.i64.wrap (2 ^ a0_0.toNat)) = ji8 := fun hle_ => by have h_ := hji8z hle_; rw [Int.one_mul] at h_; exact h_
       have hji8y : (wrap64 (1 * 2 ^ min a0_0.toNat 64)) = ji8 := (i64_w _).symm.trans hji8_
       have hji8x : a0_0 ≤ 64 → (wrap64 (1 * 2 ^ a0_0.toNat)) = ji8 := fun h_ => (i64_w _).symm.trans (hji8z h_)
       have H' := Aside0.mk H
       clear H
       have p383 : 0 ≤ (x10_1 : Int) := oda
       have q383 : x10_1 < (l1.length : Int) := oda
       obtain ⟨ad383, A383_0, c383_0, e383, hx383_0, hx383_1, hx383_2, hl383_0, hi383_0⟩ := at_T41 HR1.out x10_1 p383 q383
       cases e383
       replace hx383_0 := (HB.out.cell (World.block_lt_of_cell? w _ hx383_0)).trans hx383_0
       replace hx383_1 := (HB.out.cell (World.block_lt_of_cell? w _ hx383_1)).trans hx383_1
       replace hx383_2 := (HB.out.cell (World.block_lt_of_cell? w _ hx383_2)).trans hx383_2
       have HR383_0 := Aside0.mk hi383_0
       have HC383_0 := Aside0.mk hl383_0
       clear hi383_0 hl383_0
       replace p383 := eq_true p383
       replace q383 := eq_true q383
       go_wp2_with (first | ((with_reducible refine gate_dst (N := 6) rfl ?_); refine box_event ?hg (N := 6) ?hd (cs := #[.slice none 0 0, .int .i64 0, .int .i64 0]) (t := 41) ?hr ?_; (case hd => rfl); (case hg => rfl); (case hr => first | (go_simp; done) | (go_simp; rfl)); intro gb384 hg w9 hbox hb; have n0_ := Aside0.mk (blk_below (bz BK382) hb); have n1_ := Aside0.mk (below_step bh hb); have n2_ := Aside0.mk (hbox); have n3_ := Aside0.mk ((gs (W0 := w) hg bh)); have n4_ := Aside0.mk ((gs (W0 := w) hg bh)); have n5_ := Aside0.mk ((gn hg (bz BK382))); have n6_ := Aside0.mk ((gm hg (bz BK382))); clear BK382 HB; have BK382 := n0_; have HB := n1_; have BK384 := n2_; have GW384 := n3_; have GE384 := n4_; have NB382_384 := n5_; have NB384_382 := n6_; clear n0_ n1_ n2_ n3_ n4_ n5_ n6_ hb hbox hg; have hnb10 := NB384_382.out; have hnc10 := NB382_384.out; have hcz11_0 := cz0 BK384; have hcz11_1 := cz1 BK384; have hcz11_2 := cz2 BK384; have hfz11_0 := blk_frozen BK384.out 0; have hfz11_1 := blk_frozen BK384.out 1; have hfz11_2 := blk_frozen BK384.out 2; have hcz12_0 := cz0 BK382; have hcz12_1 := cz1 BK382; have hfz12_0 := blk_frozen BK382.out 0; have hfz12_1 := blk_frozen BK382.out 1))
       go_loopg [17] k1 (fun kq v17 w' => ∃ (x17_2 : Int), v17 = .int .i64 x17_2 ∧ Aside0 (impl_isSound.l1 kq l1 l1 (l1.length : Int) x10_1 ji8 x17_2 a0_0 l0_1 ((rd_T41 l1 x10_1).f0) ((rd_T41 l1 x10_1).f1) ((rd_T41 l1 x10_1).f2) = some r) ∧ Aside0 (kq ≤ k1) ∧ Aside0 (w'.heap[gb382]? = some (.cells #[.int .i64 a0_0, (.slice A0_1 l0_1.length c0_1)] 25 (0, 0))) ∧ Aside0 (w'.heap[gb384]? = some (.cells #[(.slice A383_0 ((rd_T41 l1 x10_1).f0).length c383_0), .int .i64 ((rd_T41 l1 x10_1).f1), .int .i64 ((rd_T41 l1 x10_1).f2)] 41 (0, 0))) ∧ Aside0 (Below w.heap.size w w'))
       case atStart => exact ⟨(0), (by first | rfl | (simp; done) | (simp [*]; done)), H', ⟨Nat.le_refl _⟩, ⟨bf NB382_384 BK382⟩, ⟨bp BK384⟩, ⟨by exact bh⟩⟩
       case round =>
        clear H'
        try clear c1
        try clear p2
        try clear c3
        try clear p3
        try clear q3
        try clear hx3
        try clear c4
        try clear c4b0
        try clear c5
        try clear c5b0
        try clear c6
        try clear c6b0
        try clear p6
        try clear c7
        try clear c7b0
        try clear c7b1
        try clear c10
        try clear hcz11_0
        try clear hcz11_1
        try clear hcz11_2
        try clear hcz12_0
        try clear hcz12_1
        try clear hfz11_0
        try clear hfz11_1
        try clear hfz11_2
        try clear hfz12_0
        try clear hfz12_1
        try clear hx383_0
        try clear hx383_1
        try clear hx383_2
        try clear p2
        try clear p383
        try clear q383
        obtain ⟨x17_2, rfl, HA, HK2, BK382, BK384, HB⟩ := hrel
        cases gk with
        | zero => exact absurd HA.out (by simp [impl_isSound.l1])
        | succ k2 =>
         have H := HA.out
         clear HA
         simp only [impl_isSound.l1] at H
         by_cases c13 : x17_2 < ji8
         ·rw [if_pos c13] at H
          have c13b0 : decide (x17_2 < ji8) = true := decide_eq_true c13
          clear c13
          replace H := Option.bind_eq_some_iff.mp H
          obtain ⟨t385, A140, H⟩ := H
          replace H : (if t385 = true then ((impl_lawFrom.f k2 a0_0 l0_1 l1 ((rd_T41 l1 x10_1).f1) x17_2).bind fun t386 => (if t386 = true then (impl_isSound.l1 k2 l1 l1 (l1.length : Int) x10_1 ji8 (wrap64 (x17_2 + 1)) a0_0 l0_1 ((rd_T41 l1 x10_1).f0) ((rd_T41 l1 x10_1).f1) ((rd_T41 l1 x10_1).f2)) else (some false))) else (impl_isSound.l1 k2 l1 l1 (l1.length : Int) x10_1 ji8 (wrap64 (x17_2 + 1)) a0_0 l0_1 ((rd_T41 l1 x10_1).f0) ((rd_T41 l1 x10_1).f1) ((rd_T41 l1 x10_1).f2))) = some r := H
          have A14 := Aside0.mk A140
          clear A140
          by_cases c15 : t385 = true
          ·subst c15
           have H1 : ((impl_lawFrom.f k2 a0_0 l0_1 l1 ((rd_T41 l1 x10_1).f1) x17_2).bind fun t386 => (if t386 = true then (impl_isSound.l1 k2 l1 l1 (l1.length : Int) x10_1 ji8 (wrap64 (x17_2 + 1)) a0_0 l0_1 ((rd_T41 l1 x10_1).f0) ((rd_T41 l1 x10_1).f1) ((rd_T41 l1 x10_1).f2)) else (some false))) = some r := by rw [if_pos rfl] at H; exact H
           clear H
           have H := H1
           clear H1
           replace H := Option.bind_eq_some_iff.mp H
           obtain ⟨t386, A160, H⟩ := H
           replace H : (if t386 = true then (impl_isSound.l1 k2 l1 l1 (l1.length : Int) x10_1 ji8 (wrap64 (x17_2 + 1)) a0_0 l0_1 ((rd_T41 l1 x10_1).f0) ((rd_T41 l1 x10_1).f1) ((rd_T41 l1 x10_1).f2)) else (some false)) = some r := H
           have A16 := Aside0.mk A160
           clear A160
           by_cases c17 : t386 = true
           ·subst c17
            have H1 : (impl_isSound.l1 k2 l1 l1 (l1.length : Int) x10_1 ji8 (wrap64 (x17_2 + 1)) a0_0 l0_1 ((rd_T41 l1 x10_1).f0) ((rd_T41 l1 x10_1).f1) ((rd_T41 l1 x10_1).f2)) = some r := by rw [if_pos rfl] at H; exact H
            clear H
            have H := H1
            clear H1
            have H' := Aside0.mk H
            clear H
            have hnb18 := NB382_384.out
            have hnc18 := NB384_382.out
            have hcz19_0 := cz0 BK382
            have hcz19_1 := cz1 BK382
            have hfz19_0 := blk_frozen BK382.out 0
            have hfz19_1 := blk_frozen BK382.out 1
            have hcz20_0 : wr.cell? ⟨gb384, 0, none⟩ = some (.slice A383_0 ((rd_T41 l1 x10_1).f0).length c383_0) := (blk_cell BK384.out 0).trans rfl
            have hcz20_1 : wr.cell? ⟨gb384, 1, none⟩ = some (.int .i64 ((rd_T41 l1 x10_1).f1)) := (blk_cell BK384.out 1).trans rfl
            have hcz20_2 : wr.cell? ⟨gb384, 2, none⟩ = some (.int .i64 ((rd_T41 l1 x10_1).f2)) := (blk_cell BK384.out 2).trans rfl
            have hfz20_0 := blk_frozen BK384.out 0
            have hfz20_1 := blk_frozen BK384.out 1
            have hfz20_2 := blk_frozen BK384.out 2
            go_wp2_with (first | ((with_reducible refine gate_callee (f := 65) rfl ?_); refine goesL_ (some 25) rfl rfl Try.func65 kr rfl #[.agg #[.int .i64 a0_0, .slice A0_1 l0_1.length c0_1], .slice (some ad383) l1.length c1, .int .i64 ((rd_T41 l1 x10_1).f2), .int .i64 x17_2] rfl lm ?_; (with_reducible refine (impl_lawFrom.calls k2 a0_0 _ _ l0_1 _ _ l1 ((rd_T41 l1 x10_1).f2) x17_2 true _ ?side1 ?side2 ?side3 ?side4 A14.out).mono ?_); (case side1 => repeat (first | exact (Kd.C_below HR0_1.out HB.out) | (with_reducible refine Kd.C_alloc ?_ _) | (with_reducible refine Kd.C_drewN ?_ _) | (with_reducible refine Kd.C_drew ?_))); (case side2 => exact HC0_1.out); (case side3 => repeat (first | exact (Kd.C_below HR1.out HB.out) | (with_reducible refine Kd.C_alloc ?_ _) | (with_reducible refine Kd.C_drewN ?_ _) | (with_reducible refine Kd.C_drew ?_))); (case side4 => exact HC1.out); rintro e w21 ⟨rfl, hb⟩; refine ⟨_, rfl, ?_⟩; have n0_ := Aside0.mk (blk_below (bz BK382) hb); have n1_ := Aside0.mk (blk_below (bz BK384) hb); have n2_ := Aside0.mk (below_step bh hb); clear BK382 BK384 HB; have BK382 := n0_; have BK384 := n1_; have HB := n2_; clear n0_ n1_ n2_; (try clear hb); (try clear hb2); (try clear hk); (try clear hi); have hcz22_0 := cz0 BK382; have hcz22_1 := cz1 BK382; have hfz22_0 := blk_frozen BK382.out 0; have hfz22_1 := blk_frozen BK382.out 1; have hcz23_0 : w21.cell? ⟨gb384, 0, none⟩ = some (.slice A383_0 ((rd_T41 l1 x10_1).f0).length c383_0) := (blk_cell BK384.out 0).trans rfl; have hcz23_1 : w21.cell? ⟨gb384, 1, none⟩ = some (.int .i64 ((rd_T41 l1 x10_1).f1)) := (blk_cell BK384.out 1).trans rfl; have hcz23_2 : w21.cell? ⟨gb384, 2, none⟩ = some (.int .i64 ((rd_T41 l1 x10_1).f2)) := (blk_cell BK384.out 2).trans rfl; have hfz23_0 := blk_frozen BK384.out 0; have hfz23_1 := blk_frozen BK384.out 1; have hfz23_2 := blk_frozen BK384.out 2) | (go_at_call 65; (with_reducible refine (impl_lawFrom.calls k2 a0_0 _ _ l0_1 _ _ l1 ((rd_T41 l1 x10_1).f1) x17_2 true _ ?side1 ?side2 ?side3 ?side4 A16.out).mono ?_); (case side1 => repeat (first | exact (Kd.C_below HR0_1.out HB.out) | (with_reducible refine Kd.C_alloc ?_ _) | (with_reducible refine Kd.C_drewN ?_ _) | (with_reducible refine Kd.C_drew ?_))); (case side2 => exact HC0_1.out); (case side3 => repeat (first | exact (Kd.C_below HR1.out HB.out) | (with_reducible refine Kd.C_alloc ?_ _) | (with_reducible refine Kd.C_drewN ?_ _) | (with_reducible refine Kd.C_drew ?_))); (case side4 => exact HC1.out); rintro e w24 ⟨rfl, hb⟩; have n0_ := Aside0.mk (blk_below (bz BK382) hb); have n1_ := Aside0.mk (blk_below (bz BK384) hb); have n2_ := Aside0.mk (below_step bh hb); clear BK382 BK384 HB; have BK382 := n0_; have BK384 := n1_; have HB := n2_; clear n0_ n1_ n2_; (try clear hb); (try clear hb2); (try clear hk); (try clear hi)))
            go_roundg k2
            case measure => have := HK1.out; have := HK2.out; omega
            case rel => exact ⟨(wrap64 (x17_2 + 1)), (by first | rfl | (simp; done) | (simp [*]; done)), H', ⟨by have := HK1.out; have := HK2.out; omega⟩, ⟨bz BK382⟩, ⟨bz BK384⟩, ⟨by exact bh⟩⟩
           ·replace c17 := Bool.eq_false_iff.mpr c17
            subst c17
            have H1 : (some false) = some r := by rw [if_neg (show ¬ (false = true) by decide)] at H; exact H
            clear H
            have H := H1
            clear H1
            obtain rfl := Option.some.inj H
            have hnb25 := NB382_384.out
            have hnc25 := NB384_382.out
            have hcz26_0 := cz0 BK382
            have hcz26_1 := cz1 BK382
            have hfz26_0 := blk_frozen BK382.out 0
            have hfz26_1 := blk_frozen BK382.out 1
            have hcz27_0 : wr.cell? ⟨gb384, 0, none⟩ = some (.slice A383_0 ((rd_T41 l1 x10_1).f0).length c383_0) := (blk_cell BK384.out 0).trans rfl
            have hcz27_1 : wr.cell? ⟨gb384, 1, none⟩ = some (.int .i64 ((rd_T41 l1 x10_1).f1)) := (blk_cell BK384.out 1).trans rfl
            have hcz27_2 : wr.cell? ⟨gb384, 2, none⟩ = some (.int .i64 ((rd_T41 l1 x10_1).f2)) := (blk_cell BK384.out 2).trans rfl
            have hfz27_0 := blk_frozen BK384.out 0
            have hfz27_1 := blk_frozen BK384.out 1
            have hfz27_2 := blk_frozen BK384.out 2
            go_wp2_with (first | ((with_reducible refine gate_callee (f := 65) rfl ?_); refine goesL_ (some 25) rfl rfl Try.func65 kr rfl #[.agg #[.int .i64 a0_0, .slice A0_1 l0_1.length c0_1], .slice (some ad383) l1.length c1, .int .i64 ((rd_T41 l1 x10_1).f2), .int .i64 x17_2] rfl lm ?_; (with_reducible refine (impl_lawFrom.calls k2 a0_0 _ _ l0_1 _ _ l1 ((rd_T41 l1 x10_1).f2) x17_2 true _ ?side1 ?side2 ?side3 ?side4 A14.out).mono ?_); (case side1 => repeat (first | exact (Kd.C_below HR0_1.out HB.out) | (with_reducible refine Kd.C_alloc ?_ _) | (with_reducible refine Kd.C_drewN ?_ _) | (with_reducible refine Kd.C_drew ?_))); (case side2 => exact HC0_1.out); (case side3 => repeat (first | exact (Kd.C_below HR1.out HB.out) | (with_reducible refine Kd.C_alloc ?_ _) | (with_reducible refine Kd.C_drewN ?_ _) | (with_reducible refine Kd.C_drew ?_))); (case side4 => exact HC1.out); rintro e w28 ⟨rfl, hb⟩; refine ⟨_, rfl, ?_⟩; have n0_ := Aside0.mk (blk_below (bz BK382) hb); have n1_ := Aside0.mk (blk_below (bz BK384) hb); have n2_ := Aside0.mk (below_step bh hb); clear BK382 BK384 HB; have BK382 := n0_; have BK384 := n1_; have HB := n2_; clear n0_ n1_ n2_; (try clear hb); (try clear hb2); (try clear hk); (try clear hi); have hcz29_0 := cz0 BK382; have hcz29_1 := cz1 BK382; have hfz29_0 := blk_frozen BK382.out 0; have hfz29_1 := blk_frozen BK382.out 1; have hcz30_0 : w28.cell? ⟨gb384, 0, none⟩ = some (.slice A383_0 ((rd_T41 l1 x10_1).f0).length c383_0) := (blk_cell BK384.out 0).trans rfl; have hcz30_1 : w28.cell? ⟨gb384, 1, none⟩ = some (.int .i64 ((rd_T41 l1 x10_1).f1)) := (blk_cell BK384.out 1).trans rfl; have hcz30_2 : w28.cell? ⟨gb384, 2, none⟩ = some (.int .i64 ((rd_T41 l1 x10_1).f2)) := (blk_cell BK384.out 2).trans rfl; have hfz30_0 := blk_frozen BK384.out 0; have hfz30_1 := blk_frozen BK384.out 1; have hfz30_2 := blk_frozen BK384.out 2) | (go_at_call 65; (with_reducible refine (impl_lawFrom.calls k2 a0_0 _ _ l0_1 _ _ l1 ((rd_T41 l1 x10_1).f1) x17_2 false _ ?side1 ?side2 ?side3 ?side4 A16.out).mono ?_); (case side1 => repeat (first | exact (Kd.C_below HR0_1.out HB.out) | (with_reducible refine Kd.C_alloc ?_ _) | (with_reducible refine Kd.C_drewN ?_ _) | (with_reducible refine Kd.C_drew ?_))); (case side2 => exact HC0_1.out); (case side3 => repeat (first | exact (Kd.C_below HR1.out HB.out) | (with_reducible refine Kd.C_alloc ?_ _) | (with_reducible refine Kd.C_drewN ?_ _) | (with_reducible refine Kd.C_drew ?_))); (case side4 => exact HC1.out); rintro e w31 ⟨rfl, hb⟩; have n0_ := Aside0.mk (blk_below (bz BK382) hb); have n1_ := Aside0.mk (blk_below (bz BK384) hb); have n2_ := Aside0.mk (below_step bh hb); clear BK382 BK384 HB; have BK382 := n0_; have BK384 := n1_; have HB := n2_; clear n0_ n1_ n2_; (try clear hb); (try clear hb2); (try clear hk); (try clear hi)))
            go_ret
            exact ⟨by first | rfl | (simp [errW_none, errW_some] <;> rfl) | (simp only [← hji8]; first | rfl | (simp [errW_none, errW_some] <;> rfl)) | (simp [*, errW_none, errW_some] <;> rfl), by exact bh⟩
          ·replace c15 := Bool.eq_false_iff.mpr c15
           subst c15
           have H1 : (impl_isSound.l1 k2 l1 l1 (l1.length : Int) x10_1 ji8 (wrap64 (x17_2 + 1)) a0_0 l0_1 ((rd_T41 l1 x10_1).f0) ((rd_T41 l1 x10_1).f1) ((rd_T41 l1 x10_1).f2)) = some r := by rw [if_neg (show ¬ (false = true) by decide)] at H; exact H
           clear H
           have H := H1
           clear H1
           have H' := Aside0.mk H
           clear H
           have hnb32 := NB382_384.out
           have hnc32 := NB384_382.out
           have hcz33_0 := cz0 BK382
           have hcz33_1 := cz1 BK382
           have hfz33_0 := blk_frozen BK382.out 0
           have hfz33_1 := blk_frozen BK382.out 1
           have hcz34_0 : wr.cell? ⟨gb384, 0, none⟩ = some (.slice A383_0 ((rd_T41 l1 x10_1).f0).length c383_0) := (blk_cell BK384.out 0).trans rfl
           have hcz34_1 : wr.cell? ⟨gb384, 1, none⟩ = some (.int .i64 ((rd_T41 l1 x10_1).f1)) := (blk_cell BK384.out 1).trans rfl
           have hcz34_2 : wr.cell? ⟨gb384, 2, none⟩ = some (.int .i64 ((rd_T41 l1 x10_1).f2)) := (blk_cell BK384.out 2).trans rfl
           have hfz34_0 := blk_frozen BK384.out 0
           have hfz34_1 := blk_frozen BK384.out 1
           have hfz34_2 := blk_frozen BK384.out 2
           go_wp2_with (first | ((with_reducible refine gate_callee (f := 65) rfl ?_); refine goesL_ (some 25) rfl rfl Try.func65 kr rfl #[.agg #[.int .i64 a0_0, .slice A0_1 l0_1.length c0_1], .slice (some ad383) l1.length c1, .int .i64 ((rd_T41 l1 x10_1).f2), .int .i64 x17_2] rfl lm ?_; (with_reducible refine (impl_lawFrom.calls k2 a0_0 _ _ l0_1 _ _ l1 ((rd_T41 l1 x10_1).f2) x17_2 false _ ?side1 ?side2 ?side3 ?side4 A14.out).mono ?_); (case side1 => repeat (first | exact (Kd.C_below HR0_1.out HB.out) | (with_reducible refine Kd.C_alloc ?_ _) | (with_reducible refine Kd.C_drewN ?_ _) | (with_reducible refine Kd.C_drew ?_))); (case side2 => exact HC0_1.out); (case side3 => repeat (first | exact (Kd.C_below HR1.out HB.out) | (with_reducible refine Kd.C_alloc ?_ _) | (with_reducible refine Kd.C_drewN ?_ _) | (with_reducible refine Kd.C_drew ?_))); (case side4 => exact HC1.out); rintro e w35 ⟨rfl, hb⟩; refine ⟨_, rfl, ?_⟩; have n0_ := Aside0.mk (blk_below (bz BK382) hb); have n1_ := Aside0.mk (blk_below (bz BK384) hb); have n2_ := Aside0.mk (below_step bh hb); clear BK382 BK384 HB; have BK382 := n0_; have BK384 := n1_; have HB := n2_; clear n0_ n1_ n2_; (try clear hb); (try clear hb2); (try clear hk); (try clear hi)))
           go_roundg k2
           case measure => have := HK1.out; have := HK2.out; omega
           case rel => exact ⟨(wrap64 (x17_2 + 1)), (by first | rfl | (simp; done) | (simp [*]; done)), H', ⟨by have := HK1.out; have := HK2.out; omega⟩, ⟨bz BK382⟩, ⟨bz BK384⟩, ⟨by exact bh⟩⟩
         ·rw [if_neg c13] at H
          have c13b0 : decide (x17_2 < ji8) = false := decide_eq_false c13
          clear c13
          have H' := Aside0.mk H
          clear H
          go_wp2
          go_roundg k2
          case measure => have := HK1.out; have := HK2.out; omega
          case rel => exact ⟨(wrap64 (x10_1 + 1)), (by first | rfl | (simp; done) | (simp [*]; done)), H', ⟨by have := HK1.out; have := HK2.out; omega⟩, ⟨bz BK382⟩, ⟨by exact bh⟩⟩
      ·rw [if_neg c7] at H
       exact absurd H (by simp)
     ·rw [if_neg c6] at H
      exact absurd H (by simp)
    ·rw [if_neg c5] at H
     exact absurd H (by simp)
   ·rw [if_neg c4] at H
    have c4b0 : decide (x10_1 < (l1.length : Int)) = false := decide_eq_false c4
    clear c4
    obtain rfl := Option.some.inj H
    go_wp2
    go_ret
    exact ⟨by first | rfl | (simp [errW_none, errW_some] <;> rfl) | (simp [*, errW_none, errW_some] <;> rfl), by exact bh⟩

/-! ### impl_SoundOk: function 25 -/
def impl_SoundOk.f (k : Nat) (a0_0 : Int) (l0_1 : List Int) (l1 : List (S41)) : Option (Bool) := (impl_isProcess.f k a0_0 l0_1 l1).bind fun t388 => (if t388 = true then ((impl_isSound.f k a0_0 l0_1 l1).bind fun t389 => (some t389)) else (some false))
theorem impl_SoundOk.mono : ∀ a0 a1 a2 k, LeO (impl_SoundOk.f k a0 a1 a2) (impl_SoundOk.f (k + 1) a0 a1 a2) := by
 intro a0 a1 a2 k
 unfold impl_SoundOk.f
 repeat' first
   | (with_reducible exact impl_isProcess.mono _ _ _ _)
   | (with_reducible exact impl_isSound.mono _ _ _ _)
   | (with_reducible exact LeO.refl _)
   | (with_reducible exact LeO.none _)
   | (with_reducible refine LeO.ite ?_ ?_)
   | (with_reducible refine LeO.bind ?_ (fun _ => ?_))
   | exact impl_isProcess.mono _ _ _ _
   | exact impl_isSound.mono _ _ _ _
   | exact LeO.none _
   | refine LeO.ite ?_ ?_
   | refine LeO.bind ?_ (fun _ => ?_)
set_option maxHeartbeats 8000000 in
set_option maxRecDepth 100000 in
theorem impl_SoundOk.calls (k : Nat) (a0_0 : Int) (A0_1 : Option Addr) (c0_1 : Nat) (l0_1 : List Int) (A1 : Option Addr) (c1 : Nat) (l1 : List (S41)) (r : Bool) (w : World) (hr0_1 : Kd.C (Kd.int .i64) w A0_1 l0_1.length l0_1) (hc0_1 : l0_1.length ≤ c0_1) (hr1 : Kd.C k41 w A1 l1.length l1) (hc1 : l1.length ≤ c1) (h : impl_SoundOk.f k a0_0 l0_1 l1 = some r) :
  Calls Try.prog 25 #[.agg #[.int .i64 a0_0, .slice A0_1 l0_1.length c0_1], .slice A1 l1.length c1] w fun e w' => e = .returned (.bool r) ∧ Below w.heap.size w w' := by
 have hu25 := Try.underlying25
 have HR0_1 := Aside0.mk hr0_1
 have HC0_1 := Aside0.mk hc0_1
 clear hr0_1 hc0_1
 have HR1 := Aside0.mk hr1
 have HC1 := Aside0.mk hc1
 clear hr1 hc1
 have HB := Aside0.mk (Below.refl w.heap.size w)
 have H : ((impl_isProcess.f k a0_0 l0_1 l1).bind fun t388 => (if t388 = true then ((impl_isSound.f k a0_0 l0_1 l1).bind fun t389 => (some t389)) else (some false))) = some r := h
 clear h
 replace H := Option.bind_eq_some_iff.mp H
 obtain ⟨t388, A30, H⟩ := H
 replace H : (if t388 = true then ((impl_isSound.f k a0_0 l0_1 l1).bind fun t389 => (some t389)) else (some false)) = some r := H
 have A3 := Aside0.mk A30
 clear A30
 by_cases c4 : t388 = true
 ·subst c4
  have H1 : ((impl_isSound.f k a0_0 l0_1 l1).bind fun t389 => (some t389)) = some r := by rw [if_pos rfl] at H; exact H
  clear H
  have H := H1
  clear H1
  replace H := Option.bind_eq_some_iff.mp H
  obtain ⟨t389, A50, H⟩ := H
  replace H : (some t389) = some r := H
  have A5 := Aside0.mk A50
  clear A50
  obtain rfl := Option.some.inj H
  go_enter Try.func25, Try.ntmps25
  go_wp2_with (first | ((with_reducible refine gate_dst (N := 2) rfl ?_); refine box_event ?hg (N := 2) ?hd (cs := #[.int .i64 a0_0, .slice A0_1 l0_1.length c0_1]) (t := 25) ?hr ?_; (case hd => rfl); (case hg => rfl); (case hr => first | (go_simp; done) | (go_simp; rfl)); intro gb387 hg w6 hbox hb; have n0_ := Aside0.mk (below_step bh hb); have n1_ := Aside0.mk (hbox); have n2_ := Aside0.mk ((gs (W0 := w) hg bh)); have n3_ := Aside0.mk ((gs (W0 := w) hg bh)); clear HB; have HB := n0_; have BK387 := n1_; have GW387 := n2_; have GE387 := n3_; clear n0_ n1_ n2_ n3_ hb hbox hg; have hcz7_0 := cz0 BK387; have hcz7_1 := cz1 BK387; have hfz7_0 := blk_frozen BK387.out 0; have hfz7_1 := blk_frozen BK387.out 1) | ((with_reducible refine gate_callee (f := 53) rfl ?_); refine goesL_ (some 7) rfl rfl Try.func53 kr rfl #[.agg #[.int .i64 a0_0, .slice A0_1 l0_1.length c0_1], .slice A1 l1.length c1] rfl lm ?_; (with_reducible refine (impl_isProcess.calls k a0_0 _ _ l0_1 _ _ l1 true _ ?side1 ?side2 ?side3 ?side4 A3.out).mono ?_); (case side1 => repeat (first | exact (Kd.C_below HR0_1.out HB.out) | (with_reducible refine Kd.C_alloc ?_ _) | (with_reducible refine Kd.C_drewN ?_ _) | (with_reducible refine Kd.C_drew ?_))); (case side2 => exact HC0_1.out); (case side3 => repeat (first | exact (Kd.C_below HR1.out HB.out) | (with_reducible refine Kd.C_alloc ?_ _) | (with_reducible refine Kd.C_drewN ?_ _) | (with_reducible refine Kd.C_drew ?_))); (case side4 => exact HC1.out); rintro e w8 ⟨rfl, hb⟩; refine ⟨_, rfl, ?_⟩; have n0_ := Aside0.mk (blk_below (bz BK387) hb); have n1_ := Aside0.mk (below_step bh hb); clear BK387 HB; have BK387 := n0_; have HB := n1_; clear n0_ n1_; (try clear hb); (try clear hb2); (try clear hk); (try clear hi); have hcz9_0 := cz0 BK387; have hcz9_1 := cz1 BK387; have hfz9_0 := blk_frozen BK387.out 0; have hfz9_1 := blk_frozen BK387.out 1) | (go_at_call 66; (with_reducible refine (impl_isSound.calls k a0_0 _ _ l0_1 _ _ l1 t389 _ ?side1 ?side2 ?side3 ?side4 A5.out).mono ?_); (case side1 => repeat (first | exact (Kd.C_below HR0_1.out HB.out) | (with_reducible refine Kd.C_alloc ?_ _) | (with_reducible refine Kd.C_drewN ?_ _) | (with_reducible refine Kd.C_drew ?_))); (case side2 => exact HC0_1.out); (case side3 => repeat (first | exact (Kd.C_below HR1.out HB.out) | (with_reducible refine Kd.C_alloc ?_ _) | (with_reducible refine Kd.C_drewN ?_ _) | (with_reducible refine Kd.C_drew ?_))); (case side4 => exact HC1.out); rintro e w10 ⟨rfl, hb⟩; have n0_ := Aside0.mk (blk_below (bz BK387) hb); have n1_ := Aside0.mk (below_step bh hb); clear BK387 HB; have BK387 := n0_; have HB := n1_; clear n0_ n1_; (try clear hb); (try clear hb2); (try clear hk); (try clear hi)))
  go_ret
  exact ⟨by first | rfl | (simp [errW_none, errW_some] <;> rfl) | (simp [*, errW_none, errW_some] <;> rfl), by exact bh⟩
 ·replace c4 := Bool.eq_false_iff.mpr c4
  subst c4
  have H1 : (some false) = some r := by rw [if_neg (show ¬ (false = true) by decide)] at H; exact H
  clear H
  have H := H1
  clear H1
  obtain rfl := Option.some.inj H
  go_enter Try.func25, Try.ntmps25
  go_wp2_with (first | ((with_reducible refine gate_dst (N := 2) rfl ?_); refine box_event ?hg (N := 2) ?hd (cs := #[.int .i64 a0_0, .slice A0_1 l0_1.length c0_1]) (t := 25) ?hr ?_; (case hd => rfl); (case hg => rfl); (case hr => first | (go_simp; done) | (go_simp; rfl)); intro gb387 hg w11 hbox hb; have n0_ := Aside0.mk (below_step bh hb); have n1_ := Aside0.mk (hbox); have n2_ := Aside0.mk ((gs (W0 := w) hg bh)); have n3_ := Aside0.mk ((gs (W0 := w) hg bh)); clear HB; have HB := n0_; have BK387 := n1_; have GW387 := n2_; have GE387 := n3_; clear n0_ n1_ n2_ n3_ hb hbox hg; have hcz12_0 := cz0 BK387; have hcz12_1 := cz1 BK387; have hfz12_0 := blk_frozen BK387.out 0; have hfz12_1 := blk_frozen BK387.out 1) | ((with_reducible refine gate_callee (f := 53) rfl ?_); refine goesL_ (some 7) rfl rfl Try.func53 kr rfl #[.agg #[.int .i64 a0_0, .slice A0_1 l0_1.length c0_1], .slice A1 l1.length c1] rfl lm ?_; (with_reducible refine (impl_isProcess.calls k a0_0 _ _ l0_1 _ _ l1 false _ ?side1 ?side2 ?side3 ?side4 A3.out).mono ?_); (case side1 => repeat (first | exact (Kd.C_below HR0_1.out HB.out) | (with_reducible refine Kd.C_alloc ?_ _) | (with_reducible refine Kd.C_drewN ?_ _) | (with_reducible refine Kd.C_drew ?_))); (case side2 => exact HC0_1.out); (case side3 => repeat (first | exact (Kd.C_below HR1.out HB.out) | (with_reducible refine Kd.C_alloc ?_ _) | (with_reducible refine Kd.C_drewN ?_ _) | (with_reducible refine Kd.C_drew ?_))); (case side4 => exact HC1.out); rintro e w13 ⟨rfl, hb⟩; refine ⟨_, rfl, ?_⟩; have n0_ := Aside0.mk (blk_below (bz BK387) hb); have n1_ := Aside0.mk (below_step bh hb); clear BK387 HB; have BK387 := n0_; have HB := n1_; clear n0_ n1_; (try clear hb); (try clear hb2); (try clear hk); (try clear hi)))
  go_ret
  exact ⟨by first | rfl | (simp [errW_none, errW_some] <;> rfl) | (simp [*, errW_none, errW_some] <;> rfl), by exact bh⟩

/-! ### laws_FnTwoHouses: function 4 -/
def laws_FnTwoHouses.j0 : Nat → List (S78) → List (S78) → Int → Bool → Int → List Int → Option (Bool)
 | 0, _, _, _, _, _, _ => none
 | k + 1, x4, x5, x8, x45, x401000, x401001 => if x45 = true then ((laws_alive.f).bind fun t413 => (some t413)) else ((some (([(⟨x4, 1, 11⟩ : S41), (⟨x5, 10, 11⟩ : S41)] : List (S41)) : List (S41))).bind fun y415 => ((some (([(⟨x4, 10, 1⟩ : S41), (⟨x5, 10, 11⟩ : S41)] : List (S41)) : List (S41))).bind fun y418 => ((impl_ConsentOk.f k x401000 x401001 x4 x8).bind fun t421 => ((impl_ConsentOk.f k x401000 x401001 x5 x8).bind fun t422 => ((laws_alive.f).bind fun t423 => (if t423 = true then ((impl_LawBy.f k x401000 x401001 y415 x8).bind fun t424 => (if t421 = true then (if (t424 == t422) = true then ((impl_LawBy.f k x401000 x401001 y418 x8).bind fun t425 => (if (t425 == true) = true then ((impl_SoundOk.f k x401000 x401001 y415).bind fun t426 => (if t426 = true then ((impl_SoundOk.f k x401000 x401001 y418).bind fun t427 => (some t427)) else (none))) else (none))) else (none)) else (if (t424 == false) = true then ((impl_LawBy.f k x401000 x401001 y418 x8).bind fun t428 => (if (t428 == t422) = true then ((impl_SoundOk.f k x401000 x401001 y415).bind fun t429 => (if t429 = true then ((impl_SoundOk.f k x401000 x401001 y418).bind fun t430 => (some t430)) else (none))) else (none))) else (none)))) else (none)))))))
def laws_FnTwoHouses.f (k : Nat) (l0 : List Int) : Option (Bool) := if (l0.length : Int) > 1048576 then (some true) else ((spec_DrawSameConsents.f k l0).bind fun bt390 => ((spec_DrawConsentOk.f k l0).bind fun bt401 => ((spec_TermOk.f k bt390.1 bt390.2.1 bt390.2.2.1).bind fun t410 => (if t410 = true then ((spec_TermOk.f k bt390.1 bt390.2.1 bt390.2.2.2).bind fun t411 => (if t411 = true then ((spec_CrowdOk.f bt390.1 bt401.2.2.2).bind fun t412 => (laws_FnTwoHouses.j0 k bt390.2.2.1 bt390.2.2.2 bt401.2.2.2 (!t412) bt390.1 bt390.2.1)) else (laws_FnTwoHouses.j0 k bt390.2.2.1 bt390.2.2.2 bt401.2.2.2 true bt390.1 bt390.2.1))) else (laws_FnTwoHouses.j0 k bt390.2.2.1 bt390.2.2.2 bt401.2.2.2 true bt390.1 bt390.2.1)))))
theorem laws_FnTwoHouses.mono_l : ∀ k, (∀ y0 y1 y2 y3 y4 y5, LeO (laws_FnTwoHouses.j0 k y0 y1 y2 y3 y4 y5) (laws_FnTwoHouses.j0 (k + 1) y0 y1 y2 y3 y4 y5))
 | 0 => fun _ _ _ _ _ _ r h => by simp [laws_FnTwoHouses.j0] at h
 | k + 1 => by
  have ih0 := laws_FnTwoHouses.mono_l k
  ·intro y0 y1 y2 y3 y4 y5
   unfold laws_FnTwoHouses.j0
   repeat' first
   | (with_reducible exact ih0 _ _ _ _ _ _)
   | (with_reducible exact impl_ConsentOk.mono _ _ _ _ _)
   | (with_reducible exact impl_LawBy.mono _ _ _ _ _)
   | (with_reducible exact impl_SoundOk.mono _ _ _ _)
   | (with_reducible exact spec_DrawConsentOk.mono _ _)
   | (with_reducible exact spec_DrawSameConsents.mono _ _)
   | (with_reducible exact spec_TermOk.mono _ _ _ _)
   | (with_reducible exact LeO.refl _)
   | (with_reducible exact LeO.none _)
   | (with_reducible refine LeO.ite ?_ ?_)
   | (with_reducible refine LeO.bind ?_ (fun _ => ?_))
   | exact ih0 _ _ _ _ _ _
   | exact impl_ConsentOk.mono _ _ _ _ _
   | exact impl_LawBy.mono _ _ _ _ _
   | exact impl_SoundOk.mono _ _ _ _
   | exact spec_DrawConsentOk.mono _ _
   | exact spec_DrawSameConsents.mono _ _
   | exact spec_TermOk.mono _ _ _ _
   | exact LeO.none _
   | refine LeO.ite ?_ ?_
   | refine LeO.bind ?_ (fun _ => ?_)
theorem laws_FnTwoHouses.mono : ∀ a0 k, LeO (laws_FnTwoHouses.f k a0) (laws_FnTwoHouses.f (k + 1) a0) := by
 intro a0 k
 have ih0 := laws_FnTwoHouses.mono_l k
 unfold laws_FnTwoHouses.f
 repeat' first
   | (with_reducible exact ih0 _ _ _ _ _ _)
   | (with_reducible exact impl_ConsentOk.mono _ _ _ _ _)
   | (with_reducible exact impl_LawBy.mono _ _ _ _ _)
   | (with_reducible exact impl_SoundOk.mono _ _ _ _)
   | (with_reducible exact spec_DrawConsentOk.mono _ _)
   | (with_reducible exact spec_DrawSameConsents.mono _ _)
   | (with_reducible exact spec_TermOk.mono _ _ _ _)
   | (with_reducible exact LeO.refl _)
   | (with_reducible exact LeO.none _)
   | (with_reducible refine LeO.ite ?_ ?_)
   | (with_reducible refine LeO.bind ?_ (fun _ => ?_))
   | exact ih0 _ _ _ _ _ _
   | exact impl_ConsentOk.mono _ _ _ _ _
   | exact impl_LawBy.mono _ _ _ _ _
   | exact impl_SoundOk.mono _ _ _ _
   | exact spec_DrawConsentOk.mono _ _
   | exact spec_DrawSameConsents.mono _ _
   | exact spec_TermOk.mono _ _ _ _
   | exact LeO.none _
   | refine LeO.ite ?_ ?_
   | refine LeO.bind ?_ (fun _ => ?_)
set_option maxHeartbeats 8000000 in
set_option maxRecDepth 100000 in
theorem laws_FnTwoHouses.calls (k : Nat) (A0 : Option Addr) (c0 : Nat) (l0 : List Int) (r : Bool) (w : World) (hr0 : Kd.C (Kd.int .u8) w A0 l0.length l0) (hc0 : l0.length ≤ c0) (h : laws_FnTwoHouses.f k l0 = some r) :
  Calls Try.prog 4 #[.slice A0 l0.length c0] w fun e w' => e = .returned (.bool r) ∧ Below w.heap.size w w' := by
 have hu25 := Try.underlying25
 have hu41 := Try.underlying41
 have HR0 := Aside0.mk hr0
 have HC0 := Aside0.mk hc0
 clear hr0 hc0
 have HB := Aside0.mk (Below.refl w.heap.size w)
 have H : (if (l0.length : Int) > 1048576 then (some true) else ((spec_DrawSameConsents.f k l0).bind fun bt390 => ((spec_DrawConsentOk.f k l0).bind fun bt401 => ((spec_TermOk.f k bt390.1 bt390.2.1 bt390.2.2.1).bind fun t410 => (if t410 = true then ((spec_TermOk.f k bt390.1 bt390.2.1 bt390.2.2.2).bind fun t411 => (if t411 = true then ((spec_CrowdOk.f bt390.1 bt401.2.2.2).bind fun t412 => (laws_FnTwoHouses.j0 k bt390.2.2.1 bt390.2.2.2 bt401.2.2.2 (!t412) bt390.1 bt390.2.1)) else (laws_FnTwoHouses.j0 k bt390.2.2.1 bt390.2.2.2 bt401.2.2.2 true bt390.1 bt390.2.1))) else (laws_FnTwoHouses.j0 k bt390.2.2.1 bt390.2.2.2 bt401.2.2.2 true bt390.1 bt390.2.1)))))) = some r := h
 clear h
 by_cases c2 : (l0.length : Int) > 1048576
 ·rw [if_pos c2] at H
  have c2b0 : decide (1048576 < (l0.length : Int)) = true := decide_eq_true c2
  have c2b1 : decide (1048576 < l0.length) = true := decide_eq_true (by omega)
  clear c2
  obtain rfl := Option.some.inj H
  go_enter Try.func4, Try.ntmps4
  go_wp2
  go_ret
  exact ⟨by first | rfl | (simp [errW_none, errW_some] <;> rfl) | (simp [*, errW_none, errW_some] <;> rfl), by exact bh⟩
 ·rw [if_neg c2] at H
  have c2b0 : decide (1048576 < (l0.length : Int)) = false := decide_eq_false c2
  have c2b1 : decide (1048576 < l0.length) = false := decide_eq_false (by omega)
  clear c2
  replace H := Option.bind_eq_some_iff.mp H
  obtain ⟨⟨t390, t391, t394, t397⟩, A30, H⟩ := H
  replace H : ((spec_DrawConsentOk.f k l0).bind fun bt401 => ((spec_TermOk.f k t390 t391 t394).bind fun t410 => (if t410 = true then ((spec_TermOk.f k t390 t391 t397).bind fun t411 => (if t411 = true then ((spec_CrowdOk.f t390 bt401.2.2.2).bind fun t412 => (laws_FnTwoHouses.j0 k t394 t397 bt401.2.2.2 (!t412) t390 t391)) else (laws_FnTwoHouses.j0 k t394 t397 bt401.2.2.2 true t390 t391))) else (laws_FnTwoHouses.j0 k t394 t397 bt401.2.2.2 true t390 t391)))) = some r := H
  have A3 := Aside0.mk A30
  clear A30
  replace H := Option.bind_eq_some_iff.mp H
  obtain ⟨⟨t401, t402, t405, t408⟩, A40, H⟩ := H
  replace H : ((spec_TermOk.f k t390 t391 t394).bind fun t410 => (if t410 = true then ((spec_TermOk.f k t390 t391 t397).bind fun t411 => (if t411 = true then ((spec_CrowdOk.f t390 t408).bind fun t412 => (laws_FnTwoHouses.j0 k t394 t397 t408 (!t412) t390 t391)) else (laws_FnTwoHouses.j0 k t394 t397 t408 true t390 t391))) else (laws_FnTwoHouses.j0 k t394 t397 t408 true t390 t391))) = some r := H
  have A4 := Aside0.mk A40
  clear A40
  have HC5 := Aside0.mk H
  clear H
  go_enter Try.func4, Try.ntmps4
  go_upto_region 5 with (first | ((with_reducible refine gate_callee (f := 19) rfl ?_); refine goesL_ (some 19) rfl rfl Try.func19 kr rfl #[.slice A0 l0.length c0] rfl lm ?_; (with_reducible refine (spec_DrawSameConsents.calls k _ _ l0 t390 t391 t394 t397 _ ?side1 ?side2 A3.out).mono ?_); (case side1 => repeat (first | exact HR0.out | (with_reducible refine Kd.C_alloc ?_ _) | (with_reducible refine Kd.C_drewN ?_ _) | (with_reducible refine Kd.C_drew ?_))); (case side2 => exact HC0.out); rintro e w6 ⟨v392, v395, v398, rfl, ho0, ho1, ho2, hb⟩; refine ⟨_, rfl, ?_⟩; have n0_ := Aside0.mk (Kd.R_lower (Kd.R_mono (ok' := fun k_ => True) ho0 (fun _ hk_ => trivial)) (below_size bh)); have n1_ := Aside0.mk (Kd.V_lower (Kd.V_mono (ok' := fun k_ => some k_ ≠ (v392 : Value).ownBlock) ho1 (fun k_ hk_ => hk_.2)) (below_size bh)); have n2_ := Aside0.mk (Kd.V_lower (Kd.V_mono (ok' := fun k_ => some k_ ≠ (v392 : Value).ownBlock) ho2 (fun k_ hk_ => hk_.2)) (below_size bh)); have n3_ := Aside0.mk (below_step bh hb); clear HB; have HO393 := n0_; have HO396 := n1_; have HO399 := n2_; have HB := n3_; clear n0_ n1_ n2_ n3_; (try clear hb); (try clear hb2); (try clear hk); (try clear hi); (try clear ho0); (try clear ho1); (try clear ho2)) | ((with_reducible refine gate_dst (N := 3) rfl ?_); refine box_event ?hg (N := 3) ?hd (cs := #[.int .i64 0, .slice none 0 0]) (t := 25) ?hr ?_; (case hd => rfl); (case hg => rfl); (case hr => first | (go_simp; done) | (go_simp; rfl)); intro gb400 hg w7 hbox hb; have n0_ := Aside0.mk (Kd.R_below (rz HO393) hb); have n1_ := Aside0.mk (Kd.V_below (Kd.V_elderB (vz HO396) gb400 (Nat.le_of_eq hg.symm)) hb); have n2_ := Aside0.mk (Kd.V_below (Kd.V_elderB (vz HO399) gb400 (Nat.le_of_eq hg.symm)) hb); have n3_ := Aside0.mk (below_step bh hb); have n4_ := Aside0.mk (hbox); have n5_ := Aside0.mk ((gs (W0 := w) hg bh)); have n6_ := Aside0.mk ((gs (W0 := w) hg bh)); clear HO393 HO396 HO399 HB; have HO393 := n0_; have HO396 := n1_; have HO399 := n2_; have HB := n3_; have BK400 := n4_; have GW400 := n5_; have GE400 := n6_; clear n0_ n1_ n2_ n3_ n4_ n5_ n6_ hb hbox hg; have hcz8_0 := cz0 BK400; have hcz8_1 := cz1 BK400; have hfz8_0 := blk_frozen BK400.out 0; have hfz8_1 := blk_frozen BK400.out 1; obtain ⟨Ao9, co9, eo9⟩ := Kd.R_slice HO393.out; subst eo9) | ((with_reducible refine gate_callee (f := 20) rfl ?_); refine goesL_ (some 25) rfl rfl Try.func20 kr rfl #[.slice A0 l0.length c0] rfl lm ?_; (with_reducible refine (spec_DrawConsentOk.calls k _ _ l0 t401 t402 t405 t408 _ ?side1 ?side2 A4.out).mono ?_); (case side1 => exact Kd.C_below HR0.out bh); (case side2 => exact HC0.out); rintro e w10 ⟨v403, v406, rfl, ho0, ho1, hb⟩; refine ⟨_, rfl, ?_⟩; have n0_ := Aside0.mk (Kd.R_elder' (fR HO393 BK400) (Kd.R_base ho0) hb); have n1_ := Aside0.mk (Kd.V_elder' (uV HO396 (fun _ hk => hk.2)) (Kd.R_base ho0) hb); have n2_ := Aside0.mk (Kd.V_elder' (uV HO399 (fun _ hk => hk.2)) (Kd.R_base ho0) hb); have n3_ := Aside0.mk (Kd.R_lower (Kd.R_new' (Kd.R_mono (ok' := fun k_ => True) ho0 (fun _ hk_ => trivial)) (Kd.R_lt (fR HO393 BK400))) (below_size bh)); have n4_ := Aside0.mk (Kd.V_lower (Kd.V_mono (ok' := fun k_ => some k_ ≠ (v403 : Value).ownBlock ∧ some k_ ≠ (.slice Ao9 t391.length co9 : Value).ownBlock ∧ k_ ≠ gb400) ho1 (fun k_ hk_ => ⟨hk_.2, (Kd.fresh' (Kd.R_lt (fR HO393 BK400)) k_ hk_.1), (Kd.freshB (g := gb400) (o := .cells #[.int .i64 t390, .slice Ao9 t391.length co9] 25 (0, 0)) (bp BK400) k_ hk_.1)⟩)) (below_size bh)); have n5_ := Aside0.mk (blk_below (g := gb400) (o := .cells #[.int .i64 t390, .slice Ao9 t391.length co9] 25 (0, 0)) (bp BK400) hb); have n6_ := Aside0.mk (below_step bh hb); clear HO393 HO396 HO399 BK400 HB; have HO393 := n0_; have HO396 := n1_; have HO399 := n2_; have HO404 := n3_; have HO407 := n4_; have BK400 := n5_; have HB := n6_; clear n0_ n1_ n2_ n3_ n4_ n5_ n6_; (try clear hb); (try clear hb2); (try clear hk); (try clear hi); (try clear ho0); (try clear ho1)) | ((with_reducible refine gate_dst (N := 6) rfl ?_); refine box_event ?hg (N := 6) ?hd (cs := #[.int .i64 0, .slice none 0 0]) (t := 25) ?hr ?_; (case hd => rfl); (case hg => rfl); (case hr => first | (go_simp; done) | (go_simp; rfl)); intro gb409 hg w11 hbox hb; have n0_ := Aside0.mk (Kd.R_below (rz HO393) hb); have n1_ := Aside0.mk (Kd.V_below (Kd.V_elderB (vz HO396) gb409 (Nat.le_of_eq hg.symm)) hb); have n2_ := Aside0.mk (Kd.V_below (Kd.V_elderB (vz HO399) gb409 (Nat.le_of_eq hg.symm)) hb); have n3_ := Aside0.mk (Kd.R_below (rz HO404) hb); have n4_ := Aside0.mk (Kd.V_below (Kd.V_elderB (vz HO407) gb409 (Nat.le_of_eq hg.symm)) hb); have n5_ := Aside0.mk (blk_below (bz BK400) hb); have n6_ := Aside0.mk (below_step bh hb); have n7_ := Aside0.mk (hbox); have n8_ := Aside0.mk ((gs (W0 := w) hg bh)); have n9_ := Aside0.mk ((gs (W0 := w) hg bh)); have n10_ := Aside0.mk ((gn hg (bz BK400))); have n11_ := Aside0.mk ((gm hg (bz BK400))); clear HO393 HO396 HO399 HO404 HO407 BK400 HB; have HO393 := n0_; have HO396 := n1_; have HO399 := n2_; have HO404 := n3_; have HO407 := n4_; have BK400 := n5_; have HB := n6_; have BK409 := n7_; have GW409 := n8_; have GE409 := n9_; have NB400_409 := n10_; have NB409_400 := n11_; clear n0_ n1_ n2_ n3_ n4_ n5_ n6_ n7_ n8_ n9_ n10_ n11_ hb hbox hg; have hnb12 := NB409_400.out; have hnc12 := NB400_409.out; have hcz13_0 := cz0 BK409; have hcz13_1 := cz1 BK409; have hfz13_0 := blk_frozen BK409.out 0; have hfz13_1 := blk_frozen BK409.out 1; obtain ⟨Ao14, co14, eo14⟩ := Kd.R_slice HO404.out; subst eo14))
  (try simp only [Act.put, List.setIfInBounds_toArray, List.set_cons_zero, List.set_cons_succ])
  go_cut [45] (fun v45 wc => ∃ (kq : Nat) (x45_4 : Bool), v45 = .bool x45_4 ∧ Aside0 (laws_FnTwoHouses.j0 kq t394 t397 t408 x45_4 t390 t391 = some r) ∧ Aside0 (kq ≤ k) ∧ Aside0 (Kd.V k78 78 wc w.heap.size (fun k_ => some k_ ≠ ((.slice Ao9 t391.length co9) : Value).ownBlock ∧ some k_ ≠ ((.slice Ao14 t402.length co14) : Value).ownBlock ∧ k_ ≠ gb400 ∧ k_ ≠ gb409) v395 t394) ∧ Aside0 (Kd.V k78 78 wc w.heap.size (fun k_ => some k_ ≠ ((.slice Ao9 t391.length co9) : Value).ownBlock ∧ some k_ ≠ ((.slice Ao14 t402.length co14) : Value).ownBlock ∧ k_ ≠ gb400 ∧ k_ ≠ gb409) v398 t397) ∧ Aside0 (Kd.R (Kd.int .i64) 3 wc w.heap.size (fun k_ => some k_ ≠ ((.slice Ao14 t402.length co14) : Value).ownBlock) (.slice Ao9 t391.length co9) t391) ∧ Aside0 (Kd.R (Kd.int .i64) 3 wc w.heap.size (fun k_ => some k_ ≠ ((.slice Ao9 t391.length co9) : Value).ownBlock) (.slice Ao14 t402.length co14) t402) ∧ Aside0 (wc.heap[gb400]? = some (.cells #[.int .i64 t390, (.slice Ao9 t391.length co9)] 25 (0, 0))) ∧ Aside0 (wc.heap[gb409]? = some (.cells #[.int .i64 t401, (.slice Ao14 t402.length co14)] 25 (0, 0))) ∧ Aside0 (Below w.heap.size w wc))
  case first =>
   have H := HC5.out
   clear HC5
   replace H := Option.bind_eq_some_iff.mp H
   obtain ⟨t410, A150, H⟩ := H
   replace H : (if t410 = true then ((spec_TermOk.f k t390 t391 t397).bind fun t411 => (if t411 = true then ((spec_CrowdOk.f t390 t408).bind fun t412 => (laws_FnTwoHouses.j0 k t394 t397 t408 (!t412) t390 t391)) else (laws_FnTwoHouses.j0 k t394 t397 t408 true t390 t391))) else (laws_FnTwoHouses.j0 k t394 t397 t408 true t390 t391)) = some r := H
   have A15 := Aside0.mk A150
   clear A150
   by_cases c16 : t410 = true
   ·subst c16
    have H1 : ((spec_TermOk.f k t390 t391 t397).bind fun t411 => (if t411 = true then ((spec_CrowdOk.f t390 t408).bind fun t412 => (laws_FnTwoHouses.j0 k t394 t397 t408 (!t412) t390 t391)) else (laws_FnTwoHouses.j0 k t394 t397 t408 true t390 t391))) = some r := by rw [if_pos rfl] at H; exact H
    clear H
    have H := H1
    clear H1
    replace H := Option.bind_eq_some_iff.mp H
    obtain ⟨t411, A170, H⟩ := H
    replace H : (if t411 = true then ((spec_CrowdOk.f t390 t408).bind fun t412 => (laws_FnTwoHouses.j0 k t394 t397 t408 (!t412) t390 t391)) else (laws_FnTwoHouses.j0 k t394 t397 t408 true t390 t391)) = some r := H
    have A17 := Aside0.mk A170
    clear A170
    by_cases c18 : t411 = true
    ·subst c18
     have H1 : ((spec_CrowdOk.f t390 t408).bind fun t412 => (laws_FnTwoHouses.j0 k t394 t397 t408 (!t412) t390 t391)) = some r := by rw [if_pos rfl] at H; exact H
     clear H
     have H := H1
     clear H1
     replace H := Option.bind_eq_some_iff.mp H
     obtain ⟨t412, A190, H⟩ := H
     replace H : (laws_FnTwoHouses.j0 k t394 t397 t408 (!t412) t390 t391) = some r := H
     have A19 := Aside0.mk A190
     clear A190
     have H' := Aside0.mk H
     clear H
     have hnb20 := NB400_409.out
     have hnc20 := NB409_400.out
     have hcz21_0 := cz0 BK400
     have hcz21_1 := cz1 BK400
     have hfz21_0 := blk_frozen BK400.out 0
     have hfz21_1 := blk_frozen BK400.out 1
     obtain ⟨Ao22, co22, eo22⟩ := Kd.V_slice HO396.out
     subst eo22
     go_wp2_with (first | ((with_reducible refine gate_callee (f := 21) rfl ?_); refine goesL_ (some 31) rfl rfl Try.func21 kr rfl #[.agg #[.int .i64 t390, .slice Ao9 t391.length co9], .slice Ao22 t394.length co22] rfl lm ?_; (with_reducible refine (spec_TermOk.calls k t390 _ _ t391 _ _ t394 true _ ?side1 ?side2 ?side3 ?side4 A15.out).mono ?_); (case side1 => refine (Kd.R_reads' (e := 3) (base := w.heap.size) (ok := fun k_ => (True ∧ some k_ ≠ (.slice Ao14 t402.length co14 : Value).ownBlock)) (n := t391.length) (c := co9) ?_).2.2; exact (fR HO393 BK409)); (case side2 => exact (Kd.R_reads' HO393.out).2.1); (case side3 => refine (Kd.V_reads' (e := 78) (base := w.heap.size) (ok := fun k_ => (((some k_ ≠ (.slice Ao9 t391.length co9 : Value).ownBlock ∧ k_ ≠ gb400) ∧ some k_ ≠ (.slice Ao14 t402.length co14 : Value).ownBlock) ∧ k_ ≠ gb409)) (n := t394.length) (c := co22) ?_).2.2; exact (uV HO396 (fun _ hk => hk.2))); (case side4 => exact (Kd.V_reads' HO396.out).2.1); rintro e w23 ⟨rfl, hb⟩; refine ⟨_, rfl, ?_⟩; have n0_ := Aside0.mk (Kd.R_below (fR HO393 BK409) hb); have n1_ := Aside0.mk (Kd.V_below (uV HO396 (fun _ hk => hk.2)) hb); have n2_ := Aside0.mk (Kd.V_below (uV HO399 (fun _ hk => hk.2)) hb); have n3_ := Aside0.mk (Kd.R_below (fR HO404 BK409) hb); have n4_ := Aside0.mk (Kd.V_below (uV HO407 (fun _ hk => hk.2)) hb); have n5_ := Aside0.mk (blk_below (g := gb400) (o := .cells #[.int .i64 t390, .slice Ao9 t391.length co9] 25 (0, 0)) (bf NB400_409 BK400) hb); have n6_ := Aside0.mk (blk_below (g := gb409) (o := .cells #[.int .i64 t401, .slice Ao14 t402.length co14] 25 (0, 0)) (bp BK409) hb); have n7_ := Aside0.mk (below_step bh hb); clear HO393 HO396 HO399 HO404 HO407 BK400 BK409 HB; have HO393 := n0_; have HO396 := n1_; have HO399 := n2_; have HO404 := n3_; have HO407 := n4_; have BK400 := n5_; have BK409 := n6_; have HB := n7_; clear n0_ n1_ n2_ n3_ n4_ n5_ n6_ n7_; (try clear hb); (try clear hb2); (try clear hk); (try clear hi); have hcz24_0 := cz0 BK400; have hcz24_1 := cz1 BK400; have hfz24_0 := blk_frozen BK400.out 0; have hfz24_1 := blk_frozen BK400.out 1; obtain ⟨Ao25, co25, eo25⟩ := Kd.V_slice HO399.out; subst eo25) | (go_at_call 21; (with_reducible refine (spec_TermOk.calls k t390 _ _ t391 _ _ t397 true _ ?side1 ?side2 ?side3 ?side4 A17.out).mono ?_); (case side1 => repeat (first | exact (Kd.R_reads' HO393.out).2.2 | (with_reducible refine Kd.C_alloc ?_ _) | (with_reducible refine Kd.C_drewN ?_ _) | (with_reducible refine Kd.C_drew ?_))); (case side2 => exact (Kd.R_reads' HO393.out).2.1); (case side3 => repeat (first | exact (Kd.V_reads' HO399.out).2.2 | (with_reducible refine Kd.C_alloc ?_ _) | (with_reducible refine Kd.C_drewN ?_ _) | (with_reducible refine Kd.C_drew ?_))); (case side4 => exact (Kd.V_reads' HO399.out).2.1); rintro e w26 ⟨rfl, hb⟩; have n0_ := Aside0.mk (Kd.R_below (rz HO393) hb); have n1_ := Aside0.mk (Kd.V_below (vz HO396) hb); have n2_ := Aside0.mk (Kd.V_below (vz HO399) hb); have n3_ := Aside0.mk (Kd.R_below (rz HO404) hb); have n4_ := Aside0.mk (Kd.V_below (vz HO407) hb); have n5_ := Aside0.mk (blk_below (bz BK400) hb); have n6_ := Aside0.mk (blk_below (bz BK409) hb); have n7_ := Aside0.mk (below_step bh hb); clear HO393 HO396 HO399 HO404 HO407 BK400 BK409 HB; have HO393 := n0_; have HO396 := n1_; have HO399 := n2_; have HO404 := n3_; have HO407 := n4_; have BK400 := n5_; have BK409 := n6_; have HB := n7_; clear n0_ n1_ n2_ n3_ n4_ n5_ n6_ n7_; (try clear hb); (try clear hb2); (try clear hk); (try clear hi); have hcz27_0 := cz0 BK400; have hcz27_1 := cz1 BK400; have hfz27_0 := blk_frozen BK400.out 0; have hfz27_1 := blk_frozen BK400.out 1) | (go_at_call 22; (with_reducible refine (spec_CrowdOk.calls t390 t408 t412 _ A19.out).mono ?_); rintro e w' ⟨rfl, ⟨nd, rfl⟩⟩))
     go_meet
     case rel => exact ⟨_, (!t412), (by first | rfl | (simp; done) | (simp [*]; done)), H', ⟨by first | omega | exact Nat.le_refl _⟩, ⟨mV HO396⟩, ⟨mV HO399⟩, ⟨mR HO393⟩, ⟨mR HO404⟩, ⟨bz BK400⟩, ⟨bz BK409⟩, ⟨by exact bh⟩⟩
    ·replace c18 := Bool.eq_false_iff.mpr c18
     subst c18
     have H1 : (laws_FnTwoHouses.j0 k t394 t397 t408 true t390 t391) = some r := by rw [if_neg (show ¬ (false = true) by decide)] at H; exact H
     clear H
     have H := H1
     clear H1
     have H' := Aside0.mk H
     clear H
     have hnb28 := NB400_409.out
     have hnc28 := NB409_400.out
     have hcz29_0 := cz0 BK400
     have hcz29_1 := cz1 BK400
     have hfz29_0 := blk_frozen BK400.out 0
     have hfz29_1 := blk_frozen BK400.out 1
     obtain ⟨Ao30, co30, eo30⟩ := Kd.V_slice HO396.out
     subst eo30
     go_wp2_with (first | ((with_reducible refine gate_callee (f := 21) rfl ?_); refine goesL_ (some 31) rfl rfl Try.func21 kr rfl #[.agg #[.int .i64 t390, .slice Ao9 t391.length co9], .slice Ao30 t394.length co30] rfl lm ?_; (with_reducible refine (spec_TermOk.calls k t390 _ _ t391 _ _ t394 true _ ?side1 ?side2 ?side3 ?side4 A15.out).mono ?_); (case side1 => refine (Kd.R_reads' (e := 3) (base := w.heap.size) (ok := fun k_ => (True ∧ some k_ ≠ (.slice Ao14 t402.length co14 : Value).ownBlock)) (n := t391.length) (c := co9) ?_).2.2; exact (fR HO393 BK409)); (case side2 => exact (Kd.R_reads' HO393.out).2.1); (case side3 => refine (Kd.V_reads' (e := 78) (base := w.heap.size) (ok := fun k_ => (((some k_ ≠ (.slice Ao9 t391.length co9 : Value).ownBlock ∧ k_ ≠ gb400) ∧ some k_ ≠ (.slice Ao14 t402.length co14 : Value).ownBlock) ∧ k_ ≠ gb409)) (n := t394.length) (c := co30) ?_).2.2; exact (uV HO396 (fun _ hk => hk.2))); (case side4 => exact (Kd.V_reads' HO396.out).2.1); rintro e w31 ⟨rfl, hb⟩; refine ⟨_, rfl, ?_⟩; have n0_ := Aside0.mk (Kd.R_below (fR HO393 BK409) hb); have n1_ := Aside0.mk (Kd.V_below (uV HO396 (fun _ hk => hk.2)) hb); have n2_ := Aside0.mk (Kd.V_below (uV HO399 (fun _ hk => hk.2)) hb); have n3_ := Aside0.mk (Kd.R_below (fR HO404 BK409) hb); have n4_ := Aside0.mk (Kd.V_below (uV HO407 (fun _ hk => hk.2)) hb); have n5_ := Aside0.mk (blk_below (g := gb400) (o := .cells #[.int .i64 t390, .slice Ao9 t391.length co9] 25 (0, 0)) (bf NB400_409 BK400) hb); have n6_ := Aside0.mk (blk_below (g := gb409) (o := .cells #[.int .i64 t401, .slice Ao14 t402.length co14] 25 (0, 0)) (bp BK409) hb); have n7_ := Aside0.mk (below_step bh hb); clear HO393 HO396 HO399 HO404 HO407 BK400 BK409 HB; have HO393 := n0_; have HO396 := n1_; have HO399 := n2_; have HO404 := n3_; have HO407 := n4_; have BK400 := n5_; have BK409 := n6_; have HB := n7_; clear n0_ n1_ n2_ n3_ n4_ n5_ n6_ n7_; (try clear hb); (try clear hb2); (try clear hk); (try clear hi); have hcz32_0 := cz0 BK400; have hcz32_1 := cz1 BK400; have hfz32_0 := blk_frozen BK400.out 0; have hfz32_1 := blk_frozen BK400.out 1; obtain ⟨Ao33, co33, eo33⟩ := Kd.V_slice HO399.out; subst eo33) | (go_at_call 21; (with_reducible refine (spec_TermOk.calls k t390 _ _ t391 _ _ t397 false _ ?side1 ?side2 ?side3 ?side4 A17.out).mono ?_); (case side1 => repeat (first | exact (Kd.R_reads' HO393.out).2.2 | (with_reducible refine Kd.C_alloc ?_ _) | (with_reducible refine Kd.C_drewN ?_ _) | (with_reducible refine Kd.C_drew ?_))); (case side2 => exact (Kd.R_reads' HO393.out).2.1); (case side3 => repeat (first | exact (Kd.V_reads' HO399.out).2.2 | (with_reducible refine Kd.C_alloc ?_ _) | (with_reducible refine Kd.C_drewN ?_ _) | (with_reducible refine Kd.C_drew ?_))); (case side4 => exact (Kd.V_reads' HO399.out).2.1); rintro e w34 ⟨rfl, hb⟩; have n0_ := Aside0.mk (Kd.R_below (rz HO393) hb); have n1_ := Aside0.mk (Kd.V_below (vz HO396) hb); have n2_ := Aside0.mk (Kd.V_below (vz HO399) hb); have n3_ := Aside0.mk (Kd.R_below (rz HO404) hb); have n4_ := Aside0.mk (Kd.V_below (vz HO407) hb); have n5_ := Aside0.mk (blk_below (bz BK400) hb); have n6_ := Aside0.mk (blk_below (bz BK409) hb); have n7_ := Aside0.mk (below_step bh hb); clear HO393 HO396 HO399 HO404 HO407 BK400 BK409 HB; have HO393 := n0_; have HO396 := n1_; have HO399 := n2_; have HO404 := n3_; have HO407 := n4_; have BK400 := n5_; have BK409 := n6_; have HB := n7_; clear n0_ n1_ n2_ n3_ n4_ n5_ n6_ n7_; (try clear hb); (try clear hb2); (try clear hk); (try clear hi)))
     go_meet
     case rel => exact ⟨_, (true), (by first | rfl | (simp; done) | (simp [*]; done)), H', ⟨by first | omega | exact Nat.le_refl _⟩, ⟨mV HO396⟩, ⟨mV HO399⟩, ⟨mR HO393⟩, ⟨mR HO404⟩, ⟨bz BK400⟩, ⟨bz BK409⟩, ⟨by exact bh⟩⟩
   ·replace c16 := Bool.eq_false_iff.mpr c16
    subst c16
    have H1 : (laws_FnTwoHouses.j0 k t394 t397 t408 true t390 t391) = some r := by rw [if_neg (show ¬ (false = true) by decide)] at H; exact H
    clear H
    have H := H1
    clear H1
    have H' := Aside0.mk H
    clear H
    have hnb35 := NB400_409.out
    have hnc35 := NB409_400.out
    have hcz36_0 := cz0 BK400
    have hcz36_1 := cz1 BK400
    have hfz36_0 := blk_frozen BK400.out 0
    have hfz36_1 := blk_frozen BK400.out 1
    obtain ⟨Ao37, co37, eo37⟩ := Kd.V_slice HO396.out
    subst eo37
    go_wp2_with (first | ((with_reducible refine gate_callee (f := 21) rfl ?_); refine goesL_ (some 31) rfl rfl Try.func21 kr rfl #[.agg #[.int .i64 t390, .slice Ao9 t391.length co9], .slice Ao37 t394.length co37] rfl lm ?_; (with_reducible refine (spec_TermOk.calls k t390 _ _ t391 _ _ t394 false _ ?side1 ?side2 ?side3 ?side4 A15.out).mono ?_); (case side1 => refine (Kd.R_reads' (e := 3) (base := w.heap.size) (ok := fun k_ => (True ∧ some k_ ≠ (.slice Ao14 t402.length co14 : Value).ownBlock)) (n := t391.length) (c := co9) ?_).2.2; exact (fR HO393 BK409)); (case side2 => exact (Kd.R_reads' HO393.out).2.1); (case side3 => refine (Kd.V_reads' (e := 78) (base := w.heap.size) (ok := fun k_ => (((some k_ ≠ (.slice Ao9 t391.length co9 : Value).ownBlock ∧ k_ ≠ gb400) ∧ some k_ ≠ (.slice Ao14 t402.length co14 : Value).ownBlock) ∧ k_ ≠ gb409)) (n := t394.length) (c := co37) ?_).2.2; exact (uV HO396 (fun _ hk => hk.2))); (case side4 => exact (Kd.V_reads' HO396.out).2.1); rintro e w38 ⟨rfl, hb⟩; refine ⟨_, rfl, ?_⟩; have n0_ := Aside0.mk (Kd.R_below (fR HO393 BK409) hb); have n1_ := Aside0.mk (Kd.V_below (uV HO396 (fun _ hk => hk.2)) hb); have n2_ := Aside0.mk (Kd.V_below (uV HO399 (fun _ hk => hk.2)) hb); have n3_ := Aside0.mk (Kd.R_below (fR HO404 BK409) hb); have n4_ := Aside0.mk (Kd.V_below (uV HO407 (fun _ hk => hk.2)) hb); have n5_ := Aside0.mk (blk_below (g := gb400) (o := .cells #[.int .i64 t390, .slice Ao9 t391.length co9] 25 (0, 0)) (bf NB400_409 BK400) hb); have n6_ := Aside0.mk (blk_below (g := gb409) (o := .cells #[.int .i64 t401, .slice Ao14 t402.length co14] 25 (0, 0)) (bp BK409) hb); have n7_ := Aside0.mk (below_step bh hb); clear HO393 HO396 HO399 HO404 HO407 BK400 BK409 HB; have HO393 := n0_; have HO396 := n1_; have HO399 := n2_; have HO404 := n3_; have HO407 := n4_; have BK400 := n5_; have BK409 := n6_; have HB := n7_; clear n0_ n1_ n2_ n3_ n4_ n5_ n6_ n7_; (try clear hb); (try clear hb2); (try clear hk); (try clear hi)))
    go_meet
    case rel => exact ⟨_, (true), (by first | rfl | (simp; done) | (simp [*]; done)), H', ⟨by first | omega | exact Nat.le_refl _⟩, ⟨mV HO396⟩, ⟨mV HO399⟩, ⟨mR HO393⟩, ⟨mR HO404⟩, ⟨bz BK400⟩, ⟨bz BK409⟩, ⟨by exact bh⟩⟩
  case rest =>
   clear HC5
   try clear c1
   try clear c2
   try clear c2b0
   try clear c2b1
   try clear p2
   try clear c3
   try clear c4
   try clear c12
   try clear c16
   try clear c18
   try clear c19
   try clear c20
   try clear c21
   try clear c28
   try clear c35
   try clear hcz13_0
   try clear hcz13_1
   try clear hcz21_0
   try clear hcz21_1
   try clear hcz24_0
   try clear hcz24_1
   try clear hcz27_0
   try clear hcz27_1
   try clear hcz29_0
   try clear hcz29_1
   try clear hcz32_0
   try clear hcz32_1
   try clear hcz36_0
   try clear hcz36_1
   try clear hcz8_0
   try clear hcz8_1
   try clear hfz13_0
   try clear hfz13_1
   try clear hfz21_0
   try clear hfz21_1
   try clear hfz24_0
   try clear hfz24_1
   try clear hfz27_0
   try clear hfz27_1
   try clear hfz29_0
   try clear hfz29_1
   try clear hfz32_0
   try clear hfz32_1
   try clear hfz36_0
   try clear hfz36_1
   try clear hfz8_0
   try clear hfz8_1
   obtain ⟨kq, x45_4, rfl, HA, HJ4, HO_4, HO_5, HO_401001, HO_410001, BK400, BK409, HB⟩ := hcut
   cases kq with
   | zero => exact absurd HA.out (by simp [laws_FnTwoHouses.j0])
   | succ kj4 =>
    have H := HA.out
    clear HA
    simp only [laws_FnTwoHouses.j0] at H
    by_cases c39 : x45_4 = true
    ·subst c39
     have H1 : ((laws_alive.f).bind fun t413 => (some t413)) = some r := by rw [if_pos rfl] at H; exact H
     clear H
     have H := H1
     clear H1
     replace H := Option.bind_eq_some_iff.mp H
     obtain ⟨t413, A400, H⟩ := H
     replace H : (some t413) = some r := H
     have A40 := Aside0.mk A400
     clear A400
     obtain rfl := Option.some.inj H
     go_wp2_with (first | ((with_reducible refine gate_callee (f := 18) rfl ?_); refine goesL_ (some 46) rfl rfl Try.func18 kr rfl #[] rfl lm ?_; (with_reducible refine (laws_alive.calls  t413 _ A40.out).mono ?_); rintro e w' ⟨rfl, ⟨nd, rfl⟩⟩; refine ⟨_, rfl, ?_⟩))
     go_ret
     exact ⟨by first | rfl | (simp [errW_none, errW_some] <;> rfl) | (simp [*, errW_none, errW_some] <;> rfl), by exact bh⟩
    ·replace c39 := Bool.eq_false_iff.mpr c39
     subst c39
     have H1 : ((some (([(⟨t394, 1, 11⟩ : S41), (⟨t397, 10, 11⟩ : S41)] : List (S41)) : List (S41))).bind fun y415 => ((some (([(⟨t394, 10, 1⟩ : S41), (⟨t397, 10, 11⟩ : S41)] : List (S41)) : List (S41))).bind fun y418 => ((impl_ConsentOk.f kj4 t390 t391 t394 t408).bind fun t421 => ((impl_ConsentOk.f kj4 t390 t391 t397 t408).bind fun t422 => ((laws_alive.f).bind fun t423 => (if t423 = true then ((impl_LawBy.f kj4 t390 t391 y415 t408).bind fun t424 => (if t421 = true then (if (t424 == t422) = true then ((impl_LawBy.f kj4 t390 t391 y418 t408).bind fun t425 => (if (t425 == true) = true then ((impl_SoundOk.f kj4 t390 t391 y415).bind fun t426 => (if t426 = true then ((impl_SoundOk.f kj4 t390 t391 y418).bind fun t427 => (some t427)) else (none))) else (none))) else (none)) else (if (t424 == false) = true then ((impl_LawBy.f kj4 t390 t391 y418 t408).bind fun t428 => (if (t428 == t422) = true then ((impl_SoundOk.f kj4 t390 t391 y415).bind fun t429 => (if t429 = true then ((impl_SoundOk.f kj4 t390 t391 y418).bind fun t430 => (some t430)) else (none))) else (none))) else (none)))) else (none))))))) = some r := by rw [if_neg (show ¬ (false = true) by decide)] at H; exact H
     clear H
     have H := H1
     clear H1
     obtain ⟨y415, hy415⟩ : ∃ y_ : List (S41), y_ = (([(⟨t394, 1, 11⟩ : S41), (⟨t397, 10, 11⟩ : S41)] : List (S41))) := ⟨_, rfl⟩
     replace H : ((some (([(⟨t394, 10, 1⟩ : S41), (⟨t397, 10, 11⟩ : S41)] : List (S41)) : List (S41))).bind fun y418 => ((impl_ConsentOk.f kj4 t390 t391 t394 t408).bind fun t421 => ((impl_ConsentOk.f kj4 t390 t391 t397 t408).bind fun t422 => ((laws_alive.f).bind fun t423 => (if t423 = true then ((impl_LawBy.f kj4 t390 t391 y415 t408).bind fun t424 => (if t421 = true then (if (t424 == t422) = true then ((impl_LawBy.f kj4 t390 t391 y418 t408).bind fun t425 => (if (t425 == true) = true then ((impl_SoundOk.f kj4 t390 t391 y415).bind fun t426 => (if t426 = true then ((impl_SoundOk.f kj4 t390 t391 y418).bind fun t427 => (some t427)) else (none))) else (none))) else (none)) else (if (t424 == false) = true then ((impl_LawBy.f kj4 t390 t391 y418 t408).bind fun t428 => (if (t428 == t422) = true then ((impl_SoundOk.f kj4 t390 t391 y415).bind fun t429 => (if t429 = true then ((impl_SoundOk.f kj4 t390 t391 y418).bind fun t430 => (some t430)) else (none))) else (none))) else (none)))) else (none)))))) = some r := by first | (rw [hy415]; with_reducible exact H) | (have H2_ := (Option.bind_some _ _).symm.trans H; rw [hy415]; with_reducible exact H2_) | (have H2_ := (Option.bind_some _ _).symm.trans H; with_reducible exact H2_) | with_reducible exact H | (rw [hy415]; exact H) | exact H
     have Ny415 := Aside0.mk hy415
     clear hy415
     obtain ⟨y418, hy418⟩ : ∃ y_ : List (S41), y_ = (([(⟨t394, 10, 1⟩ : S41), (⟨t397, 10, 11⟩ : S41)] : List (S41))) := ⟨_, rfl⟩
     replace H : ((impl_ConsentOk.f kj4 t390 t391 t394 t408).bind fun t421 => ((impl_ConsentOk.f kj4 t390 t391 t397 t408).bind fun t422 => ((laws_alive.f).bind fun t423 => (if t423 = true then ((impl_LawBy.f kj4 t390 t391 y415 t408).bind fun t424 => (if t421 = true then (if (t424 == t422) = true then ((impl_LawBy.f kj4 t390 t391 y418 t408).bind fun t425 => (if (t425 == true) = true then ((impl_SoundOk.f kj4 t390 t391 y415).bind fun t426 => (if t426 = true then ((impl_SoundOk.f kj4 t390 t391 y418).bind fun t427 => (some t427)) else (none))) else (none))) else (none)) else (if (t424 == false) = true then ((impl_LawBy.f kj4 t390 t391 y418 t408).bind fun t428 => (if (t428 == t422) = true then ((impl_SoundOk.f kj4 t390 t391 y415).bind fun t429 => (if t429 = true then ((impl_SoundOk.f kj4 t390 t391 y418).bind fun t430 => (some t430)) else (none))) else (none))) else (none)))) else (none))))) = some r := by first | (rw [hy418]; with_reducible exact H) | (have H2_ := (Option.bind_some _ _).symm.trans H; rw [hy418]; with_reducible exact H2_) | (have H2_ := (Option.bind_some _ _).symm.trans H; with_reducible exact H2_) | with_reducible exact H | (rw [hy418]; exact H) | exact H
     have Ny418 := Aside0.mk hy418
     clear hy418
     replace H := Option.bind_eq_some_iff.mp H
     obtain ⟨t421, A410, H⟩ := H
     replace H : ((impl_ConsentOk.f kj4 t390 t391 t397 t408).bind fun t422 => ((laws_alive.f).bind fun t423 => (if t423 = true then ((impl_LawBy.f kj4 t390 t391 y415 t408).bind fun t424 => (if t421 = true then (if (t424 == t422) = true then ((impl_LawBy.f kj4 t390 t391 y418 t408).bind fun t425 => (if (t425 == true) = true then ((impl_SoundOk.f kj4 t390 t391 y415).bind fun t426 => (if t426 = true then ((impl_SoundOk.f kj4 t390 t391 y418).bind fun t427 => (some t427)) else (none))) else (none))) else (none)) else (if (t424 == false) = true then ((impl_LawBy.f kj4 t390 t391 y418 t408).bind fun t428 => (if (t428 == t422) = true then ((impl_SoundOk.f kj4 t390 t391 y415).bind fun t429 => (if t429 = true then ((impl_SoundOk.f kj4 t390 t391 y418).bind fun t430 => (some t430)) else (none))) else (none))) else (none)))) else (none)))) = some r := H
     have A41 := Aside0.mk A410
     clear A410
     replace H := Option.bind_eq_some_iff.mp H
     obtain ⟨t422, A420, H⟩ := H
     replace H : ((laws_alive.f).bind fun t423 => (if t423 = true then ((impl_LawBy.f kj4 t390 t391 y415 t408).bind fun t424 => (if t421 = true then (if (t424 == t422) = true then ((impl_LawBy.f kj4 t390 t391 y418 t408).bind fun t425 => (if (t425 == true) = true then ((impl_SoundOk.f kj4 t390 t391 y415).bind fun t426 => (if t426 = true then ((impl_SoundOk.f kj4 t390 t391 y418).bind fun t427 => (some t427)) else (none))) else (none))) else (none)) else (if (t424 == false) = true then ((impl_LawBy.f kj4 t390 t391 y418 t408).bind fun t428 => (if (t428 == t422) = true then ((impl_SoundOk.f kj4 t390 t391 y415).bind fun t429 => (if t429 = true then ((impl_SoundOk.f kj4 t390 t391 y418).bind fun t430 => (some t430)) else (none))) else (none))) else (none)))) else (none))) = some r := H
     have A42 := Aside0.mk A420
     clear A420
     replace H := Option.bind_eq_some_iff.mp H
     obtain ⟨t423, A430, H⟩ := H
     replace H : (if t423 = true then ((impl_LawBy.f kj4 t390 t391 y415 t408).bind fun t424 => (if t421 = true then (if (t424 == t422) = true then ((impl_LawBy.f kj4 t390 t391 y418 t408).bind fun t425 => (if (t425 == true) = true then ((impl_SoundOk.f kj4 t390 t391 y415).bind fun t426 => (if t426 = true then ((impl_SoundOk.f kj4 t390 t391 y418).bind fun t427 => (some t427)) else (none))) else (none))) else (none)) else (if (t424 == false) = true then ((impl_LawBy.f kj4 t390 t391 y418 t408).bind fun t428 => (if (t428 == t422) = true then ((impl_SoundOk.f kj4 t390 t391 y415).bind fun t429 => (if t429 = true then ((impl_SoundOk.f kj4 t390 t391 y418).bind fun t430 => (some t430)) else (none))) else (none))) else (none)))) else (none)) = some r := H
     have A43 := Aside0.mk A430
     clear A430
     by_cases c44 : t423 = true
     ·subst c44
      have H1 : ((impl_LawBy.f kj4 t390 t391 y415 t408).bind fun t424 => (if t421 = true then (if (t424 == t422) = true then ((impl_LawBy.f kj4 t390 t391 y418 t408).bind fun t425 => (if (t425 == true) = true then ((impl_SoundOk.f kj4 t390 t391 y415).bind fun t426 => (if t426 = true then ((impl_SoundOk.f kj4 t390 t391 y418).bind fun t427 => (some t427)) else (none))) else (none))) else (none)) else (if (t424 == false) = true then ((impl_LawBy.f kj4 t390 t391 y418 t408).bind fun t428 => (if (t428 == t422) = true then ((impl_SoundOk.f kj4 t390 t391 y415).bind fun t429 => (if t429 = true then ((impl_SoundOk.f kj4 t390 t391 y418).bind fun t430 => (some t430)) else (none))) else (none))) else (none)))) = some r := by rw [if_pos rfl] at H; exact H
      clear H
      have H := H1
      clear H1
      replace H := Option.bind_eq_some_iff.mp H
      obtain ⟨t424, A450, H⟩ := H
      replace H : (if t421 = true then (if (t424 == t422) = true then ((impl_LawBy.f kj4 t390 t391 y418 t408).bind fun t425 => (if (t425 == true) = true then ((impl_SoundOk.f kj4 t390 t391 y415).bind fun t426 => (if t426 = true then ((impl_SoundOk.f kj4 t390 t391 y418).bind fun t427 => (some t427)) else (none))) else (none))) else (none)) else (if (t424 == false) = true then ((impl_LawBy.f kj4 t390 t391 y418 t408).bind fun t428 => (if (t428 == t422) = true then ((impl_SoundOk.f kj4 t390 t391 y415).bind fun t429 => (if t429 = true then ((impl_SoundOk.f kj4 t390 t391 y418).bind fun t430 => (some t430)) else (none))) else (none))) else (none))) = some r := H
      have A45 := Aside0.mk A450
      clear A450
      by_cases c46 : t421 = true
      ·subst c46
       have H1 : (if (t424 == t422) = true then ((impl_LawBy.f kj4 t390 t391 y418 t408).bind fun t425 => (if (t425 == true) = true then ((impl_SoundOk.f kj4 t390 t391 y415).bind fun t426 => (if t426 = true then ((impl_SoundOk.f kj4 t390 t391 y418).bind fun t427 => (some t427)) else (none))) else (none))) else (none)) = some r := by rw [if_pos rfl] at H; exact H
       clear H
       have H := H1
       clear H1
       by_cases c47 : (t424 == t422) = true
       ·rw [if_pos c47] at H
        have c47b0 : (t424 == t422) = true := c47
        (try (have c47b1 : decide (t424 = t422) = true := by simpa using c47))
        (try (have c47b2 : (t424 == t422) = true := by simpa using c47))
        clear c47
        replace H := Option.bind_eq_some_iff.mp H
        obtain ⟨t425, A480, H⟩ := H
        replace H : (if (t425 == true) = true then ((impl_SoundOk.f kj4 t390 t391 y415).bind fun t426 => (if t426 = true then ((impl_SoundOk.f kj4 t390 t391 y418).bind fun t427 => (some t427)) else (none))) else (none)) = some r := H
        have A48 := Aside0.mk A480
        clear A480
        by_cases c49 : (t425 == true) = true
        ·rw [if_pos c49] at H
         have c49b0 : (t425 == true) = true := c49
         (try (have c49b1 : decide (t425 = true) = true := by simpa using c49))
         (try (have c49b2 : (t425 == true) = true := by simpa using c49))
         clear c49
         replace H := Option.bind_eq_some_iff.mp H
         obtain ⟨t426, A500, H⟩ := H
         replace H : (if t426 = true then ((impl_SoundOk.f kj4 t390 t391 y418).bind fun t427 => (some t427)) else (none)) = some r := H
         have A50 := Aside0.mk A500
         clear A500
         by_cases c51 : t426 = true
         ·subst c51
          have H1 : ((impl_SoundOk.f kj4 t390 t391 y418).bind fun t427 => (some t427)) = some r := by rw [if_pos rfl] at H; exact H
          clear H
          have H := H1
          clear H1
          replace H := Option.bind_eq_some_iff.mp H
          obtain ⟨t427, A520, H⟩ := H
          replace H : (some t427) = some r := H
          have A52 := Aside0.mk A520
          clear A520
          obtain rfl := Option.some.inj H
          obtain ⟨Ao53, co53, eo53⟩ := Kd.V_slice HO_5.out
          subst eo53
          go_wp2_with (first | ((with_reducible refine gate_dst (N := 9) rfl ?_); refine box_event ?hg (N := 9) ?hd (cs := #[.slice none 0 0, .int .i64 0, .int .i64 0]) (t := 41) ?hr ?_; (case hd => rfl); (case hg => rfl); (case hr => first | (go_simp; done) | (go_simp; rfl)); intro gb414 hg w54 hbox hb; have n0_ := Aside0.mk (Kd.V_below (Kd.V_elderB (vz HO_4) gb414 (Nat.le_of_eq hg.symm)) hb); have n1_ := Aside0.mk (Kd.V_below (Kd.V_elderB (vz HO_5) gb414 (Nat.le_of_eq hg.symm)) hb); have n2_ := Aside0.mk (Kd.R_below (rz HO_401001) hb); have n3_ := Aside0.mk (Kd.R_below (rz HO_410001) hb); have n4_ := Aside0.mk (blk_below (bz BK400) hb); have n5_ := Aside0.mk (blk_below (bz BK409) hb); have n6_ := Aside0.mk (below_step bh hb); have n7_ := Aside0.mk (hbox); have n8_ := Aside0.mk ((gs (W0 := w) hg bh)); have n9_ := Aside0.mk ((gs (W0 := w) hg bh)); have n10_ := Aside0.mk ((gn hg (bz BK400))); have n11_ := Aside0.mk ((gm hg (bz BK400))); have n12_ := Aside0.mk ((gn hg (bz BK409))); have n13_ := Aside0.mk ((gm hg (bz BK409))); clear HO_4 HO_5 HO_401001 HO_410001 BK400 BK409 HB; have HO_4 := n0_; have HO_5 := n1_; have HO_401001 := n2_; have HO_410001 := n3_; have BK400 := n4_; have BK409 := n5_; have HB := n6_; have BK414 := n7_; have GW414 := n8_; have GE414 := n9_; have NB400_414 := n10_; have NB414_400 := n11_; have NB409_414 := n12_; have NB414_409 := n13_; clear n0_ n1_ n2_ n3_ n4_ n5_ n6_ n7_ n8_ n9_ n10_ n11_ n12_ n13_ hb hbox hg; have hnb55 := NB414_400.out; have hnc55 := NB400_414.out; have hnb56 := NB414_409.out; have hnc56 := NB409_414.out; have hcz57_0 := cz0 BK414; have hcz57_1 := cz1 BK414; have hcz57_2 := cz2 BK414; have hfz57_0 := blk_frozen BK414.out 0; have hfz57_1 := blk_frozen BK414.out 1; have hfz57_2 := blk_frozen BK414.out 2) | ((with_reducible refine gate_store (t := 41) (p := 9) rfl ?_); refine store_event (t := 41) (p := 9) (v := ?vo_w58) (w1 := (((w54.setCell ⟨gb414, 0, none⟩ (.slice Ao53 t397.length co53)).setCell ⟨gb414, 1, none⟩ (.int .i64 10)).setCell ⟨gb414, 2, none⟩ (.int .i64 11))) ?hg ?ho ?hn ?hr ?_; (case ho => rfl); (case hg => rfl); (case hn => rfl); (case hr => first | (go_simp; done) | (go_simp; rfl)); intro w58 hw; have n0_ : Aside0 (Kd.V k78 78 w58 w.heap.size (fun k_ => some k_ ≠ (.slice Ao9 t391.length co9 : Value).ownBlock ∧ some k_ ≠ (.slice Ao14 t402.length co14 : Value).ownBlock ∧ k_ ≠ gb400 ∧ k_ ≠ gb409 ∧ k_ ≠ gb414) v395 t394) := ⟨(by rw [hw]; exact (vV HO_4 (fun _ hk => hk.2)))⟩; have n1_ : Aside0 (Kd.V k78 78 w58 w.heap.size (fun k_ => some k_ ≠ (.slice Ao9 t391.length co9 : Value).ownBlock ∧ some k_ ≠ (.slice Ao14 t402.length co14 : Value).ownBlock ∧ k_ ≠ gb400 ∧ k_ ≠ gb409 ∧ k_ ≠ gb414) (.slice Ao53 t397.length co53) t397) := ⟨(by rw [hw]; exact (vV HO_5 (fun _ hk => hk.2)))⟩; have n2_ : Aside0 (Kd.R (Kd.int .i64) 3 w58 w.heap.size (fun k_ => some k_ ≠ (.slice Ao14 t402.length co14 : Value).ownBlock) (.slice Ao9 t391.length co9) t391) := ⟨(by rw [hw]; exact (gR HO_401001 BK414))⟩; have n3_ : Aside0 (Kd.R (Kd.int .i64) 3 w58 w.heap.size (fun k_ => some k_ ≠ (.slice Ao9 t391.length co9 : Value).ownBlock) (.slice Ao14 t402.length co14) t402) := ⟨(by rw [hw]; exact (gR HO_410001 BK414))⟩; have n4_ : Aside0 (w58.heap[gb400]? = some (.cells #[.int .i64 t390, .slice Ao9 t391.length co9] 25 (0, 0))) := ⟨(by rw [hw]; exact (bf NB400_414 BK400))⟩; have n5_ : Aside0 (w58.heap[gb409]? = some (.cells #[.int .i64 t401, .slice Ao14 t402.length co14] 25 (0, 0))) := ⟨(by rw [hw]; exact (bf NB409_414 BK409))⟩; have n6_ : Aside0 (w58.heap[gb414]? = some (.cells #[.slice Ao53 t397.length co53, .int .i64 10, .int .i64 11] 41 (0, 0))) := ⟨(by rw [hw]; exact (bp BK414))⟩; have n7_ : Aside0 (Below w.heap.size w w58) := ⟨(by rw [hw]; exact bh)⟩; clear hw HO_4 HO_5 HO_401001 HO_410001 BK400 BK409 BK414 HB; have HO_4 := n0_; have HO_5 := n1_; have HO_401001 := n2_; have HO_410001 := n3_; have BK400 := n4_; have BK409 := n5_; have BK414 := n6_; have HB := n7_; clear n0_ n1_ n2_ n3_ n4_ n5_ n6_ n7_; obtain ⟨Ao59, co59, eo59⟩ := Kd.V_slice HO_4.out; subst eo59; have hcz60_0 := cz0 BK414; have hcz60_1 := cz1 BK414; have hcz60_2 := cz2 BK414; have hfz60_0 := blk_frozen BK414.out 0; have hfz60_1 := blk_frozen BK414.out 1; have hfz60_2 := blk_frozen BK414.out 2) | ((with_reducible refine gate_dst (N := 52) rfl ?_); refine Kd.N_lit k41 _ 41 ?hg (N' := 52) ?hd (xs := ([(⟨t394, 1, 11⟩ : S41), (⟨t397, 10, 11⟩ : S41)] : List (S41))) (inner := [.slice Ao59 t394.length co59, .int .i64 1, .int .i64 11, .slice Ao53 t397.length co53, .int .i64 10, .int .i64 11]) (ok := (fun k_ => some k_ ≠ (.slice Ao9 t391.length co9 : Value).ownBlock ∧ some k_ ≠ (.slice Ao14 t402.length co14 : Value).ownBlock ∧ k_ ≠ gb400 ∧ k_ ≠ gb409 ∧ k_ ≠ gb414)) (okp := (fun k_ => some k_ ≠ (.slice Ao9 t391.length co9 : Value).ownBlock ∧ some k_ ≠ (.slice Ao14 t402.length co14 : Value).ownBlock ∧ k_ ≠ gb400 ∧ k_ ≠ gb409 ∧ k_ ≠ gb414)) ?hr ?hp (fun _ hk => hk) ((show ∀ k_, w58.heap.size ≤ k_ → (fun k_ => some k_ ≠ (.slice Ao9 t391.length co9 : Value).ownBlock ∧ some k_ ≠ (.slice Ao14 t402.length co14 : Value).ownBlock ∧ k_ ≠ gb400 ∧ k_ ≠ gb409 ∧ k_ ≠ gb414) k_ from fun k_ hk => ⟨Kd.fresh' (Kd.R_lt (rz HO_401001)) k_ hk, Kd.fresh' (Kd.R_lt (rz HO_410001)) k_ hk, Kd.freshB (bz BK400) k_ hk, Kd.freshB (bz BK409) k_ hk, Kd.freshB (bz BK414) k_ hk⟩) _ (Nat.le_refl _)) (Below.refl _ _) (Nat.le_refl _) (by simp) ?_; (case hd => rfl); (case hg => rfl); (case hr => first | (go_simp; done) | (go_simp; rfl)); (case hp => exact (Reps.c3 (show Kd.FK k41 _ _ (⟨t394, 1, 11⟩ : S41) [.slice Ao59 t394.length co59, .int .i64 1, .int .i64 11] from (k41_mkF _ _ (⟨t394, 1, 11⟩ : S41) (Kd.V_reads' (Kd.V_mono (ok' := (fun k_ => some k_ ≠ (.slice Ao9 t391.length co9 : Value).ownBlock ∧ some k_ ≠ (.slice Ao14 t402.length co14 : Value).ownBlock ∧ k_ ≠ gb400 ∧ k_ ≠ gb409 ∧ k_ ≠ gb414)) (HO_4.out) (fun k_ hk => ⟨hk.1, ⟨hk.2.1, ⟨hk.2.2.1, ⟨hk.2.2.2.1, hk.2.2.2.2⟩⟩⟩⟩))).2.1 (Kd.V_F (Kd.V_mono (ok' := (fun k_ => some k_ ≠ (.slice Ao9 t391.length co9 : Value).ownBlock ∧ some k_ ≠ (.slice Ao14 t402.length co14 : Value).ownBlock ∧ k_ ≠ gb400 ∧ k_ ≠ gb409 ∧ k_ ≠ gb414)) (HO_4.out) (fun k_ hk => ⟨hk.1, ⟨hk.2.1, ⟨hk.2.2.1, ⟨hk.2.2.2.1, hk.2.2.2.2⟩⟩⟩⟩))))) (Reps.c3 (show Kd.FK k41 _ _ (⟨t397, 10, 11⟩ : S41) [.slice Ao53 t397.length co53, .int .i64 10, .int .i64 11] from (k41_mkF _ _ (⟨t397, 10, 11⟩ : S41) (Kd.V_reads' (Kd.V_mono (ok' := (fun k_ => some k_ ≠ (.slice Ao9 t391.length co9 : Value).ownBlock ∧ some k_ ≠ (.slice Ao14 t402.length co14 : Value).ownBlock ∧ k_ ≠ gb400 ∧ k_ ≠ gb409 ∧ k_ ≠ gb414)) (HO_5.out) (fun k_ hk => ⟨hk.1, ⟨hk.2.1, ⟨hk.2.2.1, ⟨hk.2.2.2.1, hk.2.2.2.2⟩⟩⟩⟩))).2.1 (Kd.V_F (Kd.V_mono (ok' := (fun k_ => some k_ ≠ (.slice Ao9 t391.length co9 : Value).ownBlock ∧ some k_ ≠ (.slice Ao14 t402.length co14 : Value).ownBlock ∧ k_ ≠ gb400 ∧ k_ ≠ gb409 ∧ k_ ≠ gb414)) (HO_5.out) (fun k_ hk => ⟨hk.1, ⟨hk.2.1, ⟨hk.2.2.1, ⟨hk.2.2.2.1, hk.2.2.2.2⟩⟩⟩⟩))))) (Reps.none _ _)))); intro v416 w61 ho62 hb hg_ hnew_; clear hg_ hnew_; (first | rw [← Ny415.out] at ho62 | (simp only [Int.reduceToNat] at ho62; rw [← Ny415.out] at ho62)); have n0_ := Aside0.mk (Kd.V_elder' (vz HO_4) (Kd.N_base ho62) hb); have n1_ := Aside0.mk (Kd.V_elder' (vz HO_5) (Kd.N_base ho62) hb); have n2_ := Aside0.mk (Kd.R_below (rz HO_401001) hb); have n3_ := Aside0.mk (Kd.R_below (rz HO_410001) hb); have n4_ := Aside0.mk (Kd.N_lower ho62 (below_size bh)); have n5_ := Aside0.mk (blk_below (bz BK400) hb); have n6_ := Aside0.mk (blk_below (bz BK409) hb); have n7_ := Aside0.mk (blk_below (bz BK414) hb); have n8_ := Aside0.mk (below_step bh hb); clear HO_4 HO_5 HO_401001 HO_410001 BK400 BK409 BK414 HB; have HO_4 := n0_; have HO_5 := n1_; have HO_401001 := n2_; have HO_410001 := n3_; have HO417 := n4_; have BK400 := n5_; have BK409 := n6_; have BK414 := n7_; have HB := n8_; clear n0_ n1_ n2_ n3_ n4_ n5_ n6_ n7_ n8_ hb ho62; have hcz63_0 := cz0 BK414; have hcz63_1 := cz1 BK414; have hcz63_2 := cz2 BK414; have hfz63_0 := blk_frozen BK414.out 0; have hfz63_1 := blk_frozen BK414.out 1; have hfz63_2 := blk_frozen BK414.out 2) | ((with_reducible refine gate_dst (N := 56) rfl ?_); refine Kd.N_lit k41 _ 41 ?hg (N' := 56) ?hd (xs := ([(⟨t394, 10, 1⟩ : S41), (⟨t397, 10, 11⟩ : S41)] : List (S41))) (inner := [.slice Ao59 t394.length co59, .int .i64 10, .int .i64 1, .slice Ao53 t397.length co53, .int .i64 10, .int .i64 11]) (ok := (fun k_ => some k_ ≠ (.slice Ao9 t391.length co9 : Value).ownBlock ∧ some k_ ≠ (.slice Ao14 t402.length co14 : Value).ownBlock ∧ some k_ ≠ (v416 : Value).ownBlock ∧ k_ ≠ gb400 ∧ k_ ≠ gb409 ∧ k_ ≠ gb414)) (okp := (fun k_ => some k_ ≠ (.slice Ao9 t391.length co9 : Value).ownBlock ∧ some k_ ≠ (.slice Ao14 t402.length co14 : Value).ownBlock ∧ some k_ ≠ (v416 : Value).ownBlock ∧ k_ ≠ gb400 ∧ k_ ≠ gb409 ∧ k_ ≠ gb414)) ?hr ?hp (fun _ hk => hk) ((show ∀ k_, w61.heap.size ≤ k_ → (fun k_ => some k_ ≠ (.slice Ao9 t391.length co9 : Value).ownBlock ∧ some k_ ≠ (.slice Ao14 t402.length co14 : Value).ownBlock ∧ some k_ ≠ (v416 : Value).ownBlock ∧ k_ ≠ gb400 ∧ k_ ≠ gb409 ∧ k_ ≠ gb414) k_ from fun k_ hk => ⟨Kd.fresh' (Kd.R_lt (rz HO_401001)) k_ hk, Kd.fresh' (Kd.R_lt (rz HO_410001)) k_ hk, Kd.fresh' (Kd.N_lt (nz HO417)) k_ hk, Kd.freshB (bz BK400) k_ hk, Kd.freshB (bz BK409) k_ hk, Kd.freshB (bz BK414) k_ hk⟩) _ (Nat.le_refl _)) (Below.refl _ _) (Nat.le_refl _) (by simp) ?_; (case hd => rfl); (case hg => rfl); (case hr => first | (go_simp; done) | (go_simp; rfl)); (case hp => exact (Reps.c3 (show Kd.FK k41 _ _ (⟨t394, 10, 1⟩ : S41) [.slice Ao59 t394.length co59, .int .i64 10, .int .i64 1] from (k41_mkF _ _ (⟨t394, 10, 1⟩ : S41) (Kd.V_reads' (Kd.V_mono (ok' := (fun k_ => some k_ ≠ (.slice Ao9 t391.length co9 : Value).ownBlock ∧ some k_ ≠ (.slice Ao14 t402.length co14 : Value).ownBlock ∧ some k_ ≠ (v416 : Value).ownBlock ∧ k_ ≠ gb400 ∧ k_ ≠ gb409 ∧ k_ ≠ gb414)) (HO_4.out) (fun k_ hk => ⟨hk.1.1, ⟨hk.1.2.1, ⟨hk.2, ⟨hk.1.2.2.1, ⟨hk.1.2.2.2.1, hk.1.2.2.2.2⟩⟩⟩⟩⟩))).2.1 (Kd.V_F (Kd.V_mono (ok' := (fun k_ => some k_ ≠ (.slice Ao9 t391.length co9 : Value).ownBlock ∧ some k_ ≠ (.slice Ao14 t402.length co14 : Value).ownBlock ∧ some k_ ≠ (v416 : Value).ownBlock ∧ k_ ≠ gb400 ∧ k_ ≠ gb409 ∧ k_ ≠ gb414)) (HO_4.out) (fun k_ hk => ⟨hk.1.1, ⟨hk.1.2.1, ⟨hk.2, ⟨hk.1.2.2.1, ⟨hk.1.2.2.2.1, hk.1.2.2.2.2⟩⟩⟩⟩⟩))))) (Reps.c3 (show Kd.FK k41 _ _ (⟨t397, 10, 11⟩ : S41) [.slice Ao53 t397.length co53, .int .i64 10, .int .i64 11] from (k41_mkF _ _ (⟨t397, 10, 11⟩ : S41) (Kd.V_reads' (Kd.V_mono (ok' := (fun k_ => some k_ ≠ (.slice Ao9 t391.length co9 : Value).ownBlock ∧ some k_ ≠ (.slice Ao14 t402.length co14 : Value).ownBlock ∧ some k_ ≠ (v416 : Value).ownBlock ∧ k_ ≠ gb400 ∧ k_ ≠ gb409 ∧ k_ ≠ gb414)) (HO_5.out) (fun k_ hk => ⟨hk.1.1, ⟨hk.1.2.1, ⟨hk.2, ⟨hk.1.2.2.1, ⟨hk.1.2.2.2.1, hk.1.2.2.2.2⟩⟩⟩⟩⟩))).2.1 (Kd.V_F (Kd.V_mono (ok' := (fun k_ => some k_ ≠ (.slice Ao9 t391.length co9 : Value).ownBlock ∧ some k_ ≠ (.slice Ao14 t402.length co14 : Value).ownBlock ∧ some k_ ≠ (v416 : Value).ownBlock ∧ k_ ≠ gb400 ∧ k_ ≠ gb409 ∧ k_ ≠ gb414)) (HO_5.out) (fun k_ hk => ⟨hk.1.1, ⟨hk.1.2.1, ⟨hk.2, ⟨hk.1.2.2.1, ⟨hk.1.2.2.2.1, hk.1.2.2.2.2⟩⟩⟩⟩⟩))))) (Reps.none _ _)))); intro v419 w64 ho65 hb hg_ hnew_; clear hg_ hnew_; (first | rw [← Ny418.out] at ho65 | (simp only [Int.reduceToNat] at ho65; rw [← Ny418.out] at ho65)); have n0_ := Aside0.mk (Kd.V_elder' (vz HO_4) (Kd.N_base ho65) hb); have n1_ := Aside0.mk (Kd.V_elder' (vz HO_5) (Kd.N_base ho65) hb); have n2_ := Aside0.mk (Kd.R_below (rz HO_401001) hb); have n3_ := Aside0.mk (Kd.R_below (rz HO_410001) hb); have n4_ := Aside0.mk (Kd.N_elder' (nz HO417) (Kd.N_base ho65) hb); have n5_ := Aside0.mk (Kd.N_lower ho65 (below_size bh)); have n6_ := Aside0.mk (blk_below (bz BK400) hb); have n7_ := Aside0.mk (blk_below (bz BK409) hb); have n8_ := Aside0.mk (blk_below (bz BK414) hb); have n9_ := Aside0.mk (below_step bh hb); clear HO_4 HO_5 HO_401001 HO_410001 HO417 BK400 BK409 BK414 HB; have HO_4 := n0_; have HO_5 := n1_; have HO_401001 := n2_; have HO_410001 := n3_; have HO417 := n4_; have HO420 := n5_; have BK400 := n6_; have BK409 := n7_; have BK414 := n8_; have HB := n9_; clear n0_ n1_ n2_ n3_ n4_ n5_ n6_ n7_ n8_ n9_ hb ho65; have hnb66 := NB400_409.out; have hnc66 := NB409_400.out; have hcz67_0 := cz0 BK400; have hcz67_1 := cz1 BK400; have hfz67_0 := blk_frozen BK400.out 0; have hfz67_1 := blk_frozen BK400.out 1) | ((with_reducible refine gate_callee (f := 23) rfl ?_); refine goesL_ (some 60) rfl rfl Try.func23 kr rfl #[.agg #[.int .i64 t390, .slice Ao9 t391.length co9], .slice Ao59 t394.length co59, .int .i64 t408] rfl lm ?_; (with_reducible refine (impl_ConsentOk.calls kj4 t390 _ _ t391 _ _ t394 t408 true _ ?side1 ?side2 ?side3 ?side4 A41.out).mono ?_); (case side1 => repeat (first | exact (Kd.R_reads' HO_401001.out).2.2 | (with_reducible refine Kd.C_alloc ?_ _) | (with_reducible refine Kd.C_drewN ?_ _) | (with_reducible refine Kd.C_drew ?_))); (case side2 => exact (Kd.R_reads' HO_401001.out).2.1); (case side3 => repeat (first | exact (Kd.V_reads' HO_4.out).2.2 | (with_reducible refine Kd.C_alloc ?_ _) | (with_reducible refine Kd.C_drewN ?_ _) | (with_reducible refine Kd.C_drew ?_))); (case side4 => exact (Kd.V_reads' HO_4.out).2.1); rintro e w68 ⟨rfl, hb⟩; refine ⟨_, rfl, ?_⟩; have n0_ := Aside0.mk (Kd.V_below (vz HO_4) hb); have n1_ := Aside0.mk (Kd.V_below (vz HO_5) hb); have n2_ := Aside0.mk (Kd.R_below (rz HO_401001) hb); have n3_ := Aside0.mk (Kd.R_below (rz HO_410001) hb); have n4_ := Aside0.mk (Kd.N_below (nz HO417) hb); have n5_ := Aside0.mk (Kd.N_below (nz HO420) hb); have n6_ := Aside0.mk (blk_below (bz BK400) hb); have n7_ := Aside0.mk (blk_below (bz BK409) hb); have n8_ := Aside0.mk (blk_below (bz BK414) hb); have n9_ := Aside0.mk (below_step bh hb); clear HO_4 HO_5 HO_401001 HO_410001 HO417 HO420 BK400 BK409 BK414 HB; have HO_4 := n0_; have HO_5 := n1_; have HO_401001 := n2_; have HO_410001 := n3_; have HO417 := n4_; have HO420 := n5_; have BK400 := n6_; have BK409 := n7_; have BK414 := n8_; have HB := n9_; clear n0_ n1_ n2_ n3_ n4_ n5_ n6_ n7_ n8_ n9_; (try clear hb); (try clear hb2); (try clear hk); (try clear hi); have hcz69_0 := cz0 BK400; have hcz69_1 := cz1 BK400; have hfz69_0 := blk_frozen BK400.out 0; have hfz69_1 := blk_frozen BK400.out 1) | ((with_reducible refine gate_callee (f := 23) rfl ?_); refine goesL_ (some 64) rfl rfl Try.func23 kr rfl #[.agg #[.int .i64 t390, .slice Ao9 t391.length co9], .slice Ao53 t397.length co53, .int .i64 t408] rfl lm ?_; (with_reducible refine (impl_ConsentOk.calls kj4 t390 _ _ t391 _ _ t397 t408 t422 _ ?side1 ?side2 ?side3 ?side4 A42.out).mono ?_); (case side1 => repeat (first | exact (Kd.R_reads' HO_401001.out).2.2 | (with_reducible refine Kd.C_alloc ?_ _) | (with_reducible refine Kd.C_drewN ?_ _) | (with_reducible refine Kd.C_drew ?_))); (case side2 => exact (Kd.R_reads' HO_401001.out).2.1); (case side3 => repeat (first | exact (Kd.V_reads' HO_5.out).2.2 | (with_reducible refine Kd.C_alloc ?_ _) | (with_reducible refine Kd.C_drewN ?_ _) | (with_reducible refine Kd.C_drew ?_))); (case side4 => exact (Kd.V_reads' HO_5.out).2.1); rintro e w70 ⟨rfl, hb⟩; refine ⟨_, rfl, ?_⟩; have n0_ := Aside0.mk (Kd.V_below (vz HO_4) hb); have n1_ := Aside0.mk (Kd.V_below (vz HO_5) hb); have n2_ := Aside0.mk (Kd.R_below (rz HO_401001) hb); have n3_ := Aside0.mk (Kd.R_below (rz HO_410001) hb); have n4_ := Aside0.mk (Kd.N_below (nz HO417) hb); have n5_ := Aside0.mk (Kd.N_below (nz HO420) hb); have n6_ := Aside0.mk (blk_below (bz BK400) hb); have n7_ := Aside0.mk (blk_below (bz BK409) hb); have n8_ := Aside0.mk (blk_below (bz BK414) hb); have n9_ := Aside0.mk (below_step bh hb); clear HO_4 HO_5 HO_401001 HO_410001 HO417 HO420 BK400 BK409 BK414 HB; have HO_4 := n0_; have HO_5 := n1_; have HO_401001 := n2_; have HO_410001 := n3_; have HO417 := n4_; have HO420 := n5_; have BK400 := n6_; have BK409 := n7_; have BK414 := n8_; have HB := n9_; clear n0_ n1_ n2_ n3_ n4_ n5_ n6_ n7_ n8_ n9_; (try clear hb); (try clear hb2); (try clear hk); (try clear hi)) | ((with_reducible refine gate_callee (f := 18) rfl ?_); refine goesL_ (some 65) rfl rfl Try.func18 kr rfl #[] rfl lm ?_; (with_reducible refine (laws_alive.calls  true _ A43.out).mono ?_); rintro e w' ⟨rfl, ⟨nd, rfl⟩⟩; refine ⟨_, rfl, ?_⟩; have hcz71_0 := cz0 BK400; have hcz71_1 := cz1 BK400; have hfz71_0 := blk_frozen BK400.out 0; have hfz71_1 := blk_frozen BK400.out 1; obtain ⟨Ao72, co72, eo72⟩ := Kd.N_slice HO417.out; subst eo72) | (go_at_call 24; (with_reducible refine (impl_LawBy.calls kj4 t390 _ _ t391 _ _ y415 t408 t424 _ ?side1 ?side2 ?side3 ?side4 A45.out).mono ?_); (case side1 => repeat (first | exact (Kd.R_reads' HO_401001.out).2.2 | (with_reducible refine Kd.C_alloc ?_ _) | (with_reducible refine Kd.C_drewN ?_ _) | (with_reducible refine Kd.C_drew ?_))); (case side2 => exact (Kd.R_reads' HO_401001.out).2.1); (case side3 => repeat (first | exact (Kd.N_reads' HO417.out).2.2 | (with_reducible refine Kd.C_alloc ?_ _) | (with_reducible refine Kd.C_drewN ?_ _) | (with_reducible refine Kd.C_drew ?_))); (case side4 => exact (Kd.N_reads' HO417.out).2.1); rintro e w73 ⟨rfl, hb⟩; have n0_ := Aside0.mk (Kd.V_below (vz HO_4) hb); have n1_ := Aside0.mk (Kd.V_below (vz HO_5) hb); have n2_ := Aside0.mk (Kd.R_below (rz HO_401001) hb); have n3_ := Aside0.mk (Kd.R_below (rz HO_410001) hb); have n4_ := Aside0.mk (Kd.N_below (nz HO417) hb); have n5_ := Aside0.mk (Kd.N_below (nz HO420) hb); have n6_ := Aside0.mk (blk_below (bz BK400) hb); have n7_ := Aside0.mk (blk_below (bz BK409) hb); have n8_ := Aside0.mk (blk_below (bz BK414) hb); have n9_ := Aside0.mk (below_step bh hb); clear HO_4 HO_5 HO_401001 HO_410001 HO417 HO420 BK400 BK409 BK414 HB; have HO_4 := n0_; have HO_5 := n1_; have HO_401001 := n2_; have HO_410001 := n3_; have HO417 := n4_; have HO420 := n5_; have BK400 := n6_; have BK409 := n7_; have BK414 := n8_; have HB := n9_; clear n0_ n1_ n2_ n3_ n4_ n5_ n6_ n7_ n8_ n9_; (try clear hb); (try clear hb2); (try clear hk); (try clear hi); have hcz74_0 := cz0 BK400; have hcz74_1 := cz1 BK400; have hfz74_0 := blk_frozen BK400.out 0; have hfz74_1 := blk_frozen BK400.out 1; obtain ⟨Ao75, co75, eo75⟩ := Kd.N_slice HO420.out; subst eo75) | (go_at_call 24; (with_reducible refine (impl_LawBy.calls kj4 t390 _ _ t391 _ _ y418 t408 t425 _ ?side1 ?side2 ?side3 ?side4 A48.out).mono ?_); (case side1 => repeat (first | exact (Kd.R_reads' HO_401001.out).2.2 | (with_reducible refine Kd.C_alloc ?_ _) | (with_reducible refine Kd.C_drewN ?_ _) | (with_reducible refine Kd.C_drew ?_))); (case side2 => exact (Kd.R_reads' HO_401001.out).2.1); (case side3 => repeat (first | exact (Kd.N_reads' HO420.out).2.2 | (with_reducible refine Kd.C_alloc ?_ _) | (with_reducible refine Kd.C_drewN ?_ _) | (with_reducible refine Kd.C_drew ?_))); (case side4 => exact (Kd.N_reads' HO420.out).2.1); rintro e w76 ⟨rfl, hb⟩; have n0_ := Aside0.mk (Kd.V_below (vz HO_4) hb); have n1_ := Aside0.mk (Kd.V_below (vz HO_5) hb); have n2_ := Aside0.mk (Kd.R_below (rz HO_401001) hb); have n3_ := Aside0.mk (Kd.R_below (rz HO_410001) hb); have n4_ := Aside0.mk (Kd.N_below (nz HO417) hb); have n5_ := Aside0.mk (Kd.N_below (nz HO420) hb); have n6_ := Aside0.mk (blk_below (bz BK400) hb); have n7_ := Aside0.mk (blk_below (bz BK409) hb); have n8_ := Aside0.mk (blk_below (bz BK414) hb); have n9_ := Aside0.mk (below_step bh hb); clear HO_4 HO_5 HO_401001 HO_410001 HO417 HO420 BK400 BK409 BK414 HB; have HO_4 := n0_; have HO_5 := n1_; have HO_401001 := n2_; have HO_410001 := n3_; have HO417 := n4_; have HO420 := n5_; have BK400 := n6_; have BK409 := n7_; have BK414 := n8_; have HB := n9_; clear n0_ n1_ n2_ n3_ n4_ n5_ n6_ n7_ n8_ n9_; (try clear hb); (try clear hb2); (try clear hk); (try clear hi); have hcz77_0 := cz0 BK400; have hcz77_1 := cz1 BK400; have hfz77_0 := blk_frozen BK400.out 0; have hfz77_1 := blk_frozen BK400.out 1) | (go_at_call 25; (with_reducible refine (impl_SoundOk.calls kj4 t390 _ _ t391 _ _ y415 true _ ?side1 ?side2 ?side3 ?side4 A50.out).mono ?_); (case side1 => repeat (first | exact (Kd.R_reads' HO_401001.out).2.2 | (with_reducible refine Kd.C_alloc ?_ _) | (with_reducible refine Kd.C_drewN ?_ _) | (with_reducible refine Kd.C_drew ?_))); (case side2 => exact (Kd.R_reads' HO_401001.out).2.1); (case side3 => repeat (first | exact (Kd.N_reads' HO417.out).2.2 | (with_reducible refine Kd.C_alloc ?_ _) | (with_reducible refine Kd.C_drewN ?_ _) | (with_reducible refine Kd.C_drew ?_))); (case side4 => exact (Kd.N_reads' HO417.out).2.1); rintro e w78 ⟨rfl, hb⟩; have n0_ := Aside0.mk (Kd.V_below (vz HO_4) hb); have n1_ := Aside0.mk (Kd.V_below (vz HO_5) hb); have n2_ := Aside0.mk (Kd.R_below (rz HO_401001) hb); have n3_ := Aside0.mk (Kd.R_below (rz HO_410001) hb); have n4_ := Aside0.mk (Kd.N_below (nz HO417) hb); have n5_ := Aside0.mk (Kd.N_below (nz HO420) hb); have n6_ := Aside0.mk (blk_below (bz BK400) hb); have n7_ := Aside0.mk (blk_below (bz BK409) hb); have n8_ := Aside0.mk (blk_below (bz BK414) hb); have n9_ := Aside0.mk (below_step bh hb); clear HO_4 HO_5 HO_401001 HO_410001 HO417 HO420 BK400 BK409 BK414 HB; have HO_4 := n0_; have HO_5 := n1_; have HO_401001 := n2_; have HO_410001 := n3_; have HO417 := n4_; have HO420 := n5_; have BK400 := n6_; have BK409 := n7_; have BK414 := n8_; have HB := n9_; clear n0_ n1_ n2_ n3_ n4_ n5_ n6_ n7_ n8_ n9_; (try clear hb); (try clear hb2); (try clear hk); (try clear hi); have hcz79_0 := cz0 BK400; have hcz79_1 := cz1 BK400; have hfz79_0 := blk_frozen BK400.out 0; have hfz79_1 := blk_frozen BK400.out 1) | (go_at_call 25; (with_reducible refine (impl_SoundOk.calls kj4 t390 _ _ t391 _ _ y418 t427 _ ?side1 ?side2 ?side3 ?side4 A52.out).mono ?_); (case side1 => repeat (first | exact (Kd.R_reads' HO_401001.out).2.2 | (with_reducible refine Kd.C_alloc ?_ _) | (with_reducible refine Kd.C_drewN ?_ _) | (with_reducible refine Kd.C_drew ?_))); (case side2 => exact (Kd.R_reads' HO_401001.out).2.1); (case side3 => repeat (first | exact (Kd.N_reads' HO420.out).2.2 | (with_reducible refine Kd.C_alloc ?_ _) | (with_reducible refine Kd.C_drewN ?_ _) | (with_reducible refine Kd.C_drew ?_))); (case side4 => exact (Kd.N_reads' HO420.out).2.1); rintro e w80 ⟨rfl, hb⟩; have n0_ := Aside0.mk (Kd.V_below (vz HO_4) hb); have n1_ := Aside0.mk (Kd.V_below (vz HO_5) hb); have n2_ := Aside0.mk (Kd.R_below (rz HO_401001) hb); have n3_ := Aside0.mk (Kd.R_below (rz HO_410001) hb); have n4_ := Aside0.mk (Kd.N_below (nz HO417) hb); have n5_ := Aside0.mk (Kd.N_below (nz HO420) hb); have n6_ := Aside0.mk (blk_below (bz BK400) hb); have n7_ := Aside0.mk (blk_below (bz BK409) hb); have n8_ := Aside0.mk (blk_below (bz BK414) hb); have n9_ := Aside0.mk (below_step bh hb); clear HO_4 HO_5 HO_401001 HO_410001 HO417 HO420 BK400 BK409 BK414 HB; have HO_4 := n0_; have HO_5 := n1_; have HO_401001 := n2_; have HO_410001 := n3_; have HO417 := n4_; have HO420 := n5_; have BK400 := n6_; have BK409 := n7_; have BK414 := n8_; have HB := n9_; clear n0_ n1_ n2_ n3_ n4_ n5_ n6_ n7_ n8_ n9_; (try clear hb); (try clear hb2); (try clear hk); (try clear hi)))
          go_ret
          exact ⟨by first | rfl | (simp [errW_none, errW_some] <;> rfl) | (simp [*, errW_none, errW_some] <;> rfl), by exact bh⟩
         ·replace c51 := Bool.eq_false_iff.mpr c51
          subst c51
          have H1 : (none) = some r := by rw [if_neg (show ¬ (false = true) by decide)] at H; exact H
          clear H
          have H := H1
          clear H1
          exact absurd H (by simp)
        ·rw [if_neg c49] at H
         exact absurd H (by simp)
       ·rw [if_neg c47] at H
        exact absurd H (by simp)
      ·replace c46 := Bool.eq_false_iff.mpr c46
       subst c46
       have H1 : (if (t424 == false) = true then ((impl_LawBy.f kj4 t390 t391 y418 t408).bind fun t428 => (if (t428 == t422) = true then ((impl_SoundOk.f kj4 t390 t391 y415).bind fun t429 => (if t429 = true then ((impl_SoundOk.f kj4 t390 t391 y418).bind fun t430 => (some t430)) else (none))) else (none))) else (none)) = some r := by rw [if_neg (show ¬ (false = true) by decide)] at H; exact H
       clear H
       have H := H1
       clear H1
       by_cases c81 : (t424 == false) = true
       ·rw [if_pos c81] at H
        have c81b0 : (t424 == false) = true := c81
        (try (have c81b1 : decide (t424 = false) = true := by simpa using c81))
        (try (have c81b2 : (t424 == false) = true := by simpa using c81))
        clear c81
        replace H := Option.bind_eq_some_iff.mp H
        obtain ⟨t428, A820, H⟩ := H
        replace H : (if (t428 == t422) = true then ((impl_SoundOk.f kj4 t390 t391 y415).bind fun t429 => (if t429 = true then ((impl_SoundOk.f kj4 t390 t391 y418).bind fun t430 => (some t430)) else (none))) else (none)) = some r := H
        have A82 := Aside0.mk A820
        clear A820
        by_cases c83 : (t428 == t422) = true
        ·rw [if_pos c83] at H
         have c83b0 : (t428 == t422) = true := c83
         (try (have c83b1 : decide (t428 = t422) = true := by simpa using c83))
         (try (have c83b2 : (t428 == t422) = true := by simpa using c83))
         clear c83
         replace H := Option.bind_eq_some_iff.mp H
         obtain ⟨t429, A840, H⟩ := H
         replace H : (if t429 = true then ((impl_SoundOk.f kj4 t390 t391 y418).bind fun t430 => (some t430)) else (none)) = some r := H
         have A84 := Aside0.mk A840
         clear A840
         by_cases c85 : t429 = true
         ·subst c85
          have H1 : ((impl_SoundOk.f kj4 t390 t391 y418).bind fun t430 => (some t430)) = some r := by rw [if_pos rfl] at H; exact H
          clear H
          have H := H1
          clear H1
          replace H := Option.bind_eq_some_iff.mp H
          obtain ⟨t430, A860, H⟩ := H
          replace H : (some t430) = some r := H
          have A86 := Aside0.mk A860
          clear A860
          obtain rfl := Option.some.inj H
          obtain ⟨Ao87, co87, eo87⟩ := Kd.V_slice HO_5.out
          subst eo87
          go_wp2_with (first | ((with_reducible refine gate_dst (N := 9) rfl ?_); refine box_event ?hg (N := 9) ?hd (cs := #[.slice none 0 0, .int .i64 0, .int .i64 0]) (t := 41) ?hr ?_; (case hd => rfl); (case hg => rfl); (case hr => first | (go_simp; done) | (go_simp; rfl)); intro gb414 hg w88 hbox hb; have n0_ := Aside0.mk (Kd.V_below (Kd.V_elderB (vz HO_4) gb414 (Nat.le_of_eq hg.symm)) hb); have n1_ := Aside0.mk (Kd.V_below (Kd.V_elderB (vz HO_5) gb414 (Nat.le_of_eq hg.symm)) hb); have n2_ := Aside0.mk (Kd.R_below (rz HO_401001) hb); have n3_ := Aside0.mk (Kd.R_below (rz HO_410001) hb); have n4_ := Aside0.mk (blk_below (bz BK400) hb); have n5_ := Aside0.mk (blk_below (bz BK409) hb); have n6_ := Aside0.mk (below_step bh hb); have n7_ := Aside0.mk (hbox); have n8_ := Aside0.mk ((gs (W0 := w) hg bh)); have n9_ := Aside0.mk ((gs (W0 := w) hg bh)); have n10_ := Aside0.mk ((gn hg (bz BK400))); have n11_ := Aside0.mk ((gm hg (bz BK400))); have n12_ := Aside0.mk ((gn hg (bz BK409))); have n13_ := Aside0.mk ((gm hg (bz BK409))); clear HO_4 HO_5 HO_401001 HO_410001 BK400 BK409 HB; have HO_4 := n0_; have HO_5 := n1_; have HO_401001 := n2_; have HO_410001 := n3_; have BK400 := n4_; have BK409 := n5_; have HB := n6_; have BK414 := n7_; have GW414 := n8_; have GE414 := n9_; have NB400_414 := n10_; have NB414_400 := n11_; have NB409_414 := n12_; have NB414_409 := n13_; clear n0_ n1_ n2_ n3_ n4_ n5_ n6_ n7_ n8_ n9_ n10_ n11_ n12_ n13_ hb hbox hg; have hnb89 := NB414_400.out; have hnc89 := NB400_414.out; have hnb90 := NB414_409.out; have hnc90 := NB409_414.out; have hcz91_0 := cz0 BK414; have hcz91_1 := cz1 BK414; have hcz91_2 := cz2 BK414; have hfz91_0 := blk_frozen BK414.out 0; have hfz91_1 := blk_frozen BK414.out 1; have hfz91_2 := blk_frozen BK414.out 2) | ((with_reducible refine gate_store (t := 41) (p := 9) rfl ?_); refine store_event (t := 41) (p := 9) (v := ?vo_w92) (w1 := (((w88.setCell ⟨gb414, 0, none⟩ (.slice Ao87 t397.length co87)).setCell ⟨gb414, 1, none⟩ (.int .i64 10)).setCell ⟨gb414, 2, none⟩ (.int .i64 11))) ?hg ?ho ?hn ?hr ?_; (case ho => rfl); (case hg => rfl); (case hn => rfl); (case hr => first | (go_simp; done) | (go_simp; rfl)); intro w92 hw; have n0_ : Aside0 (Kd.V k78 78 w92 w.heap.size (fun k_ => some k_ ≠ (.slice Ao9 t391.length co9 : Value).ownBlock ∧ some k_ ≠ (.slice Ao14 t402.length co14 : Value).ownBlock ∧ k_ ≠ gb400 ∧ k_ ≠ gb409 ∧ k_ ≠ gb414) v395 t394) := ⟨(by rw [hw]; exact (vV HO_4 (fun _ hk => hk.2)))⟩; have n1_ : Aside0 (Kd.V k78 78 w92 w.heap.size (fun k_ => some k_ ≠ (.slice Ao9 t391.length co9 : Value).ownBlock ∧ some k_ ≠ (.slice Ao14 t402.length co14 : Value).ownBlock ∧ k_ ≠ gb400 ∧ k_ ≠ gb409 ∧ k_ ≠ gb414) (.slice Ao87 t397.length co87) t397) := ⟨(by rw [hw]; exact (vV HO_5 (fun _ hk => hk.2)))⟩; have n2_ : Aside0 (Kd.R (Kd.int .i64) 3 w92 w.heap.size (fun k_ => some k_ ≠ (.slice Ao14 t402.length co14 : Value).ownBlock) (.slice Ao9 t391.length co9) t391) := ⟨(by rw [hw]; exact (gR HO_401001 BK414))⟩; have n3_ : Aside0 (Kd.R (Kd.int .i64) 3 w92 w.heap.size (fun k_ => some k_ ≠ (.slice Ao9 t391.length co9 : Value).ownBlock) (.slice Ao14 t402.length co14) t402) := ⟨(by rw [hw]; exact (gR HO_410001 BK414))⟩; have n4_ : Aside0 (w92.heap[gb400]? = some (.cells #[.int .i64 t390, .slice Ao9 t391.length co9] 25 (0, 0))) := ⟨(by rw [hw]; exact (bf NB400_414 BK400))⟩; have n5_ : Aside0 (w92.heap[gb409]? = some (.cells #[.int .i64 t401, .slice Ao14 t402.length co14] 25 (0, 0))) := ⟨(by rw [hw]; exact (bf NB409_414 BK409))⟩; have n6_ : Aside0 (w92.heap[gb414]? = some (.cells #[.slice Ao87 t397.length co87, .int .i64 10, .int .i64 11] 41 (0, 0))) := ⟨(by rw [hw]; exact (bp BK414))⟩; have n7_ : Aside0 (Below w.heap.size w w92) := ⟨(by rw [hw]; exact bh)⟩; clear hw HO_4 HO_5 HO_401001 HO_410001 BK400 BK409 BK414 HB; have HO_4 := n0_; have HO_5 := n1_; have HO_401001 := n2_; have HO_410001 := n3_; have BK400 := n4_; have BK409 := n5_; have BK414 := n6_; have HB := n7_; clear n0_ n1_ n2_ n3_ n4_ n5_ n6_ n7_; obtain ⟨Ao93, co93, eo93⟩ := Kd.V_slice HO_4.out; subst eo93; have hcz94_0 := cz0 BK414; have hcz94_1 := cz1 BK414; have hcz94_2 := cz2 BK414; have hfz94_0 := blk_frozen BK414.out 0; have hfz94_1 := blk_frozen BK414.out 1; have hfz94_2 := blk_frozen BK414.out 2) | ((with_reducible refine gate_dst (N := 52) rfl ?_); refine Kd.N_lit k41 _ 41 ?hg (N' := 52) ?hd (xs := ([(⟨t394, 1, 11⟩ : S41), (⟨t397, 10, 11⟩ : S41)] : List (S41))) (inner := [.slice Ao93 t394.length co93, .int .i64 1, .int .i64 11, .slice Ao87 t397.length co87, .int .i64 10, .int .i64 11]) (ok := (fun k_ => some k_ ≠ (.slice Ao9 t391.length co9 : Value).ownBlock ∧ some k_ ≠ (.slice Ao14 t402.length co14 : Value).ownBlock ∧ k_ ≠ gb400 ∧ k_ ≠ gb409 ∧ k_ ≠ gb414)) (okp := (fun k_ => some k_ ≠ (.slice Ao9 t391.length co9 : Value).ownBlock ∧ some k_ ≠ (.slice Ao14 t402.length co14 : Value).ownBlock ∧ k_ ≠ gb400 ∧ k_ ≠ gb409 ∧ k_ ≠ gb414)) ?hr ?hp (fun _ hk => hk) ((show ∀ k_, w92.heap.size ≤ k_ → (fun k_ => some k_ ≠ (.slice Ao9 t391.length co9 : Value).ownBlock ∧ some k_ ≠ (.slice Ao14 t402.length co14 : Value).ownBlock ∧ k_ ≠ gb400 ∧ k_ ≠ gb409 ∧ k_ ≠ gb414) k_ from fun k_ hk => ⟨Kd.fresh' (Kd.R_lt (rz HO_401001)) k_ hk, Kd.fresh' (Kd.R_lt (rz HO_410001)) k_ hk, Kd.freshB (bz BK400) k_ hk, Kd.freshB (bz BK409) k_ hk, Kd.freshB (bz BK414) k_ hk⟩) _ (Nat.le_refl _)) (Below.refl _ _) (Nat.le_refl _) (by simp) ?_; (case hd => rfl); (case hg => rfl); (case hr => first | (go_simp; done) | (go_simp; rfl)); (case hp => exact (Reps.c3 (show Kd.FK k41 _ _ (⟨t394, 1, 11⟩ : S41) [.slice Ao93 t394.length co93, .int .i64 1, .int .i64 11] from (k41_mkF _ _ (⟨t394, 1, 11⟩ : S41) (Kd.V_reads' (Kd.V_mono (ok' := (fun k_ => some k_ ≠ (.slice Ao9 t391.length co9 : Value).ownBlock ∧ some k_ ≠ (.slice Ao14 t402.length co14 : Value).ownBlock ∧ k_ ≠ gb400 ∧ k_ ≠ gb409 ∧ k_ ≠ gb414)) (HO_4.out) (fun k_ hk => ⟨hk.1, ⟨hk.2.1, ⟨hk.2.2.1, ⟨hk.2.2.2.1, hk.2.2.2.2⟩⟩⟩⟩))).2.1 (Kd.V_F (Kd.V_mono (ok' := (fun k_ => some k_ ≠ (.slice Ao9 t391.length co9 : Value).ownBlock ∧ some k_ ≠ (.slice Ao14 t402.length co14 : Value).ownBlock ∧ k_ ≠ gb400 ∧ k_ ≠ gb409 ∧ k_ ≠ gb414)) (HO_4.out) (fun k_ hk => ⟨hk.1, ⟨hk.2.1, ⟨hk.2.2.1, ⟨hk.2.2.2.1, hk.2.2.2.2⟩⟩⟩⟩))))) (Reps.c3 (show Kd.FK k41 _ _ (⟨t397, 10, 11⟩ : S41) [.slice Ao87 t397.length co87, .int .i64 10, .int .i64 11] from (k41_mkF _ _ (⟨t397, 10, 11⟩ : S41) (Kd.V_reads' (Kd.V_mono (ok' := (fun k_ => some k_ ≠ (.slice Ao9 t391.length co9 : Value).ownBlock ∧ some k_ ≠ (.slice Ao14 t402.length co14 : Value).ownBlock ∧ k_ ≠ gb400 ∧ k_ ≠ gb409 ∧ k_ ≠ gb414)) (HO_5.out) (fun k_ hk => ⟨hk.1, ⟨hk.2.1, ⟨hk.2.2.1, ⟨hk.2.2.2.1, hk.2.2.2.2⟩⟩⟩⟩))).2.1 (Kd.V_F (Kd.V_mono (ok' := (fun k_ => some k_ ≠ (.slice Ao9 t391.length co9 : Value).ownBlock ∧ some k_ ≠ (.slice Ao14 t402.length co14 : Value).ownBlock ∧ k_ ≠ gb400 ∧ k_ ≠ gb409 ∧ k_ ≠ gb414)) (HO_5.out) (fun k_ hk => ⟨hk.1, ⟨hk.2.1, ⟨hk.2.2.1, ⟨hk.2.2.2.1, hk.2.2.2.2⟩⟩⟩⟩))))) (Reps.none _ _)))); intro v416 w95 ho96 hb hg_ hnew_; clear hg_ hnew_; (first | rw [← Ny415.out] at ho96 | (simp only [Int.reduceToNat] at ho96; rw [← Ny415.out] at ho96)); have n0_ := Aside0.mk (Kd.V_elder' (vz HO_4) (Kd.N_base ho96) hb); have n1_ := Aside0.mk (Kd.V_elder' (vz HO_5) (Kd.N_base ho96) hb); have n2_ := Aside0.mk (Kd.R_below (rz HO_401001) hb); have n3_ := Aside0.mk (Kd.R_below (rz HO_410001) hb); have n4_ := Aside0.mk (Kd.N_lower ho96 (below_size bh)); have n5_ := Aside0.mk (blk_below (bz BK400) hb); have n6_ := Aside0.mk (blk_below (bz BK409) hb); have n7_ := Aside0.mk (blk_below (bz BK414) hb); have n8_ := Aside0.mk (below_step bh hb); clear HO_4 HO_5 HO_401001 HO_410001 BK400 BK409 BK414 HB; have HO_4 := n0_; have HO_5 := n1_; have HO_401001 := n2_; have HO_410001 := n3_; have HO417 := n4_; have BK400 := n5_; have BK409 := n6_; have BK414 := n7_; have HB := n8_; clear n0_ n1_ n2_ n3_ n4_ n5_ n6_ n7_ n8_ hb ho96; have hcz97_0 := cz0 BK414; have hcz97_1 := cz1 BK414; have hcz97_2 := cz2 BK414; have hfz97_0 := blk_frozen BK414.out 0; have hfz97_1 := blk_frozen BK414.out 1; have hfz97_2 := blk_frozen BK414.out 2) | ((with_reducible refine gate_dst (N := 56) rfl ?_); refine Kd.N_lit k41 _ 41 ?hg (N' := 56) ?hd (xs := ([(⟨t394, 10, 1⟩ : S41), (⟨t397, 10, 11⟩ : S41)] : List (S41))) (inner := [.slice Ao93 t394.length co93, .int .i64 10, .int .i64 1, .slice Ao87 t397.length co87, .int .i64 10, .int .i64 11]) (ok := (fun k_ => some k_ ≠ (.slice Ao9 t391.length co9 : Value).ownBlock ∧ some k_ ≠ (.slice Ao14 t402.length co14 : Value).ownBlock ∧ some k_ ≠ (v416 : Value).ownBlock ∧ k_ ≠ gb400 ∧ k_ ≠ gb409 ∧ k_ ≠ gb414)) (okp := (fun k_ => some k_ ≠ (.slice Ao9 t391.length co9 : Value).ownBlock ∧ some k_ ≠ (.slice Ao14 t402.length co14 : Value).ownBlock ∧ some k_ ≠ (v416 : Value).ownBlock ∧ k_ ≠ gb400 ∧ k_ ≠ gb409 ∧ k_ ≠ gb414)) ?hr ?hp (fun _ hk => hk) ((show ∀ k_, w95.heap.size ≤ k_ → (fun k_ => some k_ ≠ (.slice Ao9 t391.length co9 : Value).ownBlock ∧ some k_ ≠ (.slice Ao14 t402.length co14 : Value).ownBlock ∧ some k_ ≠ (v416 : Value).ownBlock ∧ k_ ≠ gb400 ∧ k_ ≠ gb409 ∧ k_ ≠ gb414) k_ from fun k_ hk => ⟨Kd.fresh' (Kd.R_lt (rz HO_401001)) k_ hk, Kd.fresh' (Kd.R_lt (rz HO_410001)) k_ hk, Kd.fresh' (Kd.N_lt (nz HO417)) k_ hk, Kd.freshB (bz BK400) k_ hk, Kd.freshB (bz BK409) k_ hk, Kd.freshB (bz BK414) k_ hk⟩) _ (Nat.le_refl _)) (Below.refl _ _) (Nat.le_refl _) (by simp) ?_; (case hd => rfl); (case hg => rfl); (case hr => first | (go_simp; done) | (go_simp; rfl)); (case hp => exact (Reps.c3 (show Kd.FK k41 _ _ (⟨t394, 10, 1⟩ : S41) [.slice Ao93 t394.length co93, .int .i64 10, .int .i64 1] from (k41_mkF _ _ (⟨t394, 10, 1⟩ : S41) (Kd.V_reads' (Kd.V_mono (ok' := (fun k_ => some k_ ≠ (.slice Ao9 t391.length co9 : Value).ownBlock ∧ some k_ ≠ (.slice Ao14 t402.length co14 : Value).ownBlock ∧ some k_ ≠ (v416 : Value).ownBlock ∧ k_ ≠ gb400 ∧ k_ ≠ gb409 ∧ k_ ≠ gb414)) (HO_4.out) (fun k_ hk => ⟨hk.1.1, ⟨hk.1.2.1, ⟨hk.2, ⟨hk.1.2.2.1, ⟨hk.1.2.2.2.1, hk.1.2.2.2.2⟩⟩⟩⟩⟩))).2.1 (Kd.V_F (Kd.V_mono (ok' := (fun k_ => some k_ ≠ (.slice Ao9 t391.length co9 : Value).ownBlock ∧ some k_ ≠ (.slice Ao14 t402.length co14 : Value).ownBlock ∧ some k_ ≠ (v416 : Value).ownBlock ∧ k_ ≠ gb400 ∧ k_ ≠ gb409 ∧ k_ ≠ gb414)) (HO_4.out) (fun k_ hk => ⟨hk.1.1, ⟨hk.1.2.1, ⟨hk.2, ⟨hk.1.2.2.1, ⟨hk.1.2.2.2.1, hk.1.2.2.2.2⟩⟩⟩⟩⟩))))) (Reps.c3 (show Kd.FK k41 _ _ (⟨t397, 10, 11⟩ : S41) [.slice Ao87 t397.length co87, .int .i64 10, .int .i64 11] from (k41_mkF _ _ (⟨t397, 10, 11⟩ : S41) (Kd.V_reads' (Kd.V_mono (ok' := (fun k_ => some k_ ≠ (.slice Ao9 t391.length co9 : Value).ownBlock ∧ some k_ ≠ (.slice Ao14 t402.length co14 : Value).ownBlock ∧ some k_ ≠ (v416 : Value).ownBlock ∧ k_ ≠ gb400 ∧ k_ ≠ gb409 ∧ k_ ≠ gb414)) (HO_5.out) (fun k_ hk => ⟨hk.1.1, ⟨hk.1.2.1, ⟨hk.2, ⟨hk.1.2.2.1, ⟨hk.1.2.2.2.1, hk.1.2.2.2.2⟩⟩⟩⟩⟩))).2.1 (Kd.V_F (Kd.V_mono (ok' := (fun k_ => some k_ ≠ (.slice Ao9 t391.length co9 : Value).ownBlock ∧ some k_ ≠ (.slice Ao14 t402.length co14 : Value).ownBlock ∧ some k_ ≠ (v416 : Value).ownBlock ∧ k_ ≠ gb400 ∧ k_ ≠ gb409 ∧ k_ ≠ gb414)) (HO_5.out) (fun k_ hk => ⟨hk.1.1, ⟨hk.1.2.1, ⟨hk.2, ⟨hk.1.2.2.1, ⟨hk.1.2.2.2.1, hk.1.2.2.2.2⟩⟩⟩⟩⟩))))) (Reps.none _ _)))); intro v419 w98 ho99 hb hg_ hnew_; clear hg_ hnew_; (first | rw [← Ny418.out] at ho99 | (simp only [Int.reduceToNat] at ho99; rw [← Ny418.out] at ho99)); have n0_ := Aside0.mk (Kd.V_elder' (vz HO_4) (Kd.N_base ho99) hb); have n1_ := Aside0.mk (Kd.V_elder' (vz HO_5) (Kd.N_base ho99) hb); have n2_ := Aside0.mk (Kd.R_below (rz HO_401001) hb); have n3_ := Aside0.mk (Kd.R_below (rz HO_410001) hb); have n4_ := Aside0.mk (Kd.N_elder' (nz HO417) (Kd.N_base ho99) hb); have n5_ := Aside0.mk (Kd.N_lower ho99 (below_size bh)); have n6_ := Aside0.mk (blk_below (bz BK400) hb); have n7_ := Aside0.mk (blk_below (bz BK409) hb); have n8_ := Aside0.mk (blk_below (bz BK414) hb); have n9_ := Aside0.mk (below_step bh hb); clear HO_4 HO_5 HO_401001 HO_410001 HO417 BK400 BK409 BK414 HB; have HO_4 := n0_; have HO_5 := n1_; have HO_401001 := n2_; have HO_410001 := n3_; have HO417 := n4_; have HO420 := n5_; have BK400 := n6_; have BK409 := n7_; have BK414 := n8_; have HB := n9_; clear n0_ n1_ n2_ n3_ n4_ n5_ n6_ n7_ n8_ n9_ hb ho99; have hnb100 := NB400_409.out; have hnc100 := NB409_400.out; have hcz101_0 := cz0 BK400; have hcz101_1 := cz1 BK400; have hfz101_0 := blk_frozen BK400.out 0; have hfz101_1 := blk_frozen BK400.out 1) | ((with_reducible refine gate_callee (f := 23) rfl ?_); refine goesL_ (some 60) rfl rfl Try.func23 kr rfl #[.agg #[.int .i64 t390, .slice Ao9 t391.length co9], .slice Ao93 t394.length co93, .int .i64 t408] rfl lm ?_; (with_reducible refine (impl_ConsentOk.calls kj4 t390 _ _ t391 _ _ t394 t408 false _ ?side1 ?side2 ?side3 ?side4 A41.out).mono ?_); (case side1 => repeat (first | exact (Kd.R_reads' HO_401001.out).2.2 | (with_reducible refine Kd.C_alloc ?_ _) | (with_reducible refine Kd.C_drewN ?_ _) | (with_reducible refine Kd.C_drew ?_))); (case side2 => exact (Kd.R_reads' HO_401001.out).2.1); (case side3 => repeat (first | exact (Kd.V_reads' HO_4.out).2.2 | (with_reducible refine Kd.C_alloc ?_ _) | (with_reducible refine Kd.C_drewN ?_ _) | (with_reducible refine Kd.C_drew ?_))); (case side4 => exact (Kd.V_reads' HO_4.out).2.1); rintro e w102 ⟨rfl, hb⟩; refine ⟨_, rfl, ?_⟩; have n0_ := Aside0.mk (Kd.V_below (vz HO_4) hb); have n1_ := Aside0.mk (Kd.V_below (vz HO_5) hb); have n2_ := Aside0.mk (Kd.R_below (rz HO_401001) hb); have n3_ := Aside0.mk (Kd.R_below (rz HO_410001) hb); have n4_ := Aside0.mk (Kd.N_below (nz HO417) hb); have n5_ := Aside0.mk (Kd.N_below (nz HO420) hb); have n6_ := Aside0.mk (blk_below (bz BK400) hb); have n7_ := Aside0.mk (blk_below (bz BK409) hb); have n8_ := Aside0.mk (blk_below (bz BK414) hb); have n9_ := Aside0.mk (below_step bh hb); clear HO_4 HO_5 HO_401001 HO_410001 HO417 HO420 BK400 BK409 BK414 HB; have HO_4 := n0_; have HO_5 := n1_; have HO_401001 := n2_; have HO_410001 := n3_; have HO417 := n4_; have HO420 := n5_; have BK400 := n6_; have BK409 := n7_; have BK414 := n8_; have HB := n9_; clear n0_ n1_ n2_ n3_ n4_ n5_ n6_ n7_ n8_ n9_; (try clear hb); (try clear hb2); (try clear hk); (try clear hi); have hcz103_0 := cz0 BK400; have hcz103_1 := cz1 BK400; have hfz103_0 := blk_frozen BK400.out 0; have hfz103_1 := blk_frozen BK400.out 1) | ((with_reducible refine gate_callee (f := 23) rfl ?_); refine goesL_ (some 64) rfl rfl Try.func23 kr rfl #[.agg #[.int .i64 t390, .slice Ao9 t391.length co9], .slice Ao87 t397.length co87, .int .i64 t408] rfl lm ?_; (with_reducible refine (impl_ConsentOk.calls kj4 t390 _ _ t391 _ _ t397 t408 t422 _ ?side1 ?side2 ?side3 ?side4 A42.out).mono ?_); (case side1 => repeat (first | exact (Kd.R_reads' HO_401001.out).2.2 | (with_reducible refine Kd.C_alloc ?_ _) | (with_reducible refine Kd.C_drewN ?_ _) | (with_reducible refine Kd.C_drew ?_))); (case side2 => exact (Kd.R_reads' HO_401001.out).2.1); (case side3 => repeat (first | exact (Kd.V_reads' HO_5.out).2.2 | (with_reducible refine Kd.C_alloc ?_ _) | (with_reducible refine Kd.C_drewN ?_ _) | (with_reducible refine Kd.C_drew ?_))); (case side4 => exact (Kd.V_reads' HO_5.out).2.1); rintro e w104 ⟨rfl, hb⟩; refine ⟨_, rfl, ?_⟩; have n0_ := Aside0.mk (Kd.V_below (vz HO_4) hb); have n1_ := Aside0.mk (Kd.V_below (vz HO_5) hb); have n2_ := Aside0.mk (Kd.R_below (rz HO_401001) hb); have n3_ := Aside0.mk (Kd.R_below (rz HO_410001) hb); have n4_ := Aside0.mk (Kd.N_below (nz HO417) hb); have n5_ := Aside0.mk (Kd.N_below (nz HO420) hb); have n6_ := Aside0.mk (blk_below (bz BK400) hb); have n7_ := Aside0.mk (blk_below (bz BK409) hb); have n8_ := Aside0.mk (blk_below (bz BK414) hb); have n9_ := Aside0.mk (below_step bh hb); clear HO_4 HO_5 HO_401001 HO_410001 HO417 HO420 BK400 BK409 BK414 HB; have HO_4 := n0_; have HO_5 := n1_; have HO_401001 := n2_; have HO_410001 := n3_; have HO417 := n4_; have HO420 := n5_; have BK400 := n6_; have BK409 := n7_; have BK414 := n8_; have HB := n9_; clear n0_ n1_ n2_ n3_ n4_ n5_ n6_ n7_ n8_ n9_; (try clear hb); (try clear hb2); (try clear hk); (try clear hi)) | ((with_reducible refine gate_callee (f := 18) rfl ?_); refine goesL_ (some 65) rfl rfl Try.func18 kr rfl #[] rfl lm ?_; (with_reducible refine (laws_alive.calls  true _ A43.out).mono ?_); rintro e w' ⟨rfl, ⟨nd, rfl⟩⟩; refine ⟨_, rfl, ?_⟩; have hcz105_0 := cz0 BK400; have hcz105_1 := cz1 BK400; have hfz105_0 := blk_frozen BK400.out 0; have hfz105_1 := blk_frozen BK400.out 1; obtain ⟨Ao106, co106, eo106⟩ := Kd.N_slice HO417.out; subst eo106) | (go_at_call 24; (with_reducible refine (impl_LawBy.calls kj4 t390 _ _ t391 _ _ y415 t408 t424 _ ?side1 ?side2 ?side3 ?side4 A45.out).mono ?_); (case side1 => repeat (first | exact (Kd.R_reads' HO_401001.out).2.2 | (with_reducible refine Kd.C_alloc ?_ _) | (with_reducible refine Kd.C_drewN ?_ _) | (with_reducible refine Kd.C_drew ?_))); (case side2 => exact (Kd.R_reads' HO_401001.out).2.1); (case side3 => repeat (first | exact (Kd.N_reads' HO417.out).2.2 | (with_reducible refine Kd.C_alloc ?_ _) | (with_reducible refine Kd.C_drewN ?_ _) | (with_reducible refine Kd.C_drew ?_))); (case side4 => exact (Kd.N_reads' HO417.out).2.1); rintro e w107 ⟨rfl, hb⟩; have n0_ := Aside0.mk (Kd.V_below (vz HO_4) hb); have n1_ := Aside0.mk (Kd.V_below (vz HO_5) hb); have n2_ := Aside0.mk (Kd.R_below (rz HO_401001) hb); have n3_ := Aside0.mk (Kd.R_below (rz HO_410001) hb); have n4_ := Aside0.mk (Kd.N_below (nz HO417) hb); have n5_ := Aside0.mk (Kd.N_below (nz HO420) hb); have n6_ := Aside0.mk (blk_below (bz BK400) hb); have n7_ := Aside0.mk (blk_below (bz BK409) hb); have n8_ := Aside0.mk (blk_below (bz BK414) hb); have n9_ := Aside0.mk (below_step bh hb); clear HO_4 HO_5 HO_401001 HO_410001 HO417 HO420 BK400 BK409 BK414 HB; have HO_4 := n0_; have HO_5 := n1_; have HO_401001 := n2_; have HO_410001 := n3_; have HO417 := n4_; have HO420 := n5_; have BK400 := n6_; have BK409 := n7_; have BK414 := n8_; have HB := n9_; clear n0_ n1_ n2_ n3_ n4_ n5_ n6_ n7_ n8_ n9_; (try clear hb); (try clear hb2); (try clear hk); (try clear hi); have hcz108_0 := cz0 BK400; have hcz108_1 := cz1 BK400; have hfz108_0 := blk_frozen BK400.out 0; have hfz108_1 := blk_frozen BK400.out 1; obtain ⟨Ao109, co109, eo109⟩ := Kd.N_slice HO420.out; subst eo109) | (go_at_call 24; (with_reducible refine (impl_LawBy.calls kj4 t390 _ _ t391 _ _ y418 t408 t428 _ ?side1 ?side2 ?side3 ?side4 A82.out).mono ?_); (case side1 => repeat (first | exact (Kd.R_reads' HO_401001.out).2.2 | (with_reducible refine Kd.C_alloc ?_ _) | (with_reducible refine Kd.C_drewN ?_ _) | (with_reducible refine Kd.C_drew ?_))); (case side2 => exact (Kd.R_reads' HO_401001.out).2.1); (case side3 => repeat (first | exact (Kd.N_reads' HO420.out).2.2 | (with_reducible refine Kd.C_alloc ?_ _) | (with_reducible refine Kd.C_drewN ?_ _) | (with_reducible refine Kd.C_drew ?_))); (case side4 => exact (Kd.N_reads' HO420.out).2.1); rintro e w110 ⟨rfl, hb⟩; have n0_ := Aside0.mk (Kd.V_below (vz HO_4) hb); have n1_ := Aside0.mk (Kd.V_below (vz HO_5) hb); have n2_ := Aside0.mk (Kd.R_below (rz HO_401001) hb); have n3_ := Aside0.mk (Kd.R_below (rz HO_410001) hb); have n4_ := Aside0.mk (Kd.N_below (nz HO417) hb); have n5_ := Aside0.mk (Kd.N_below (nz HO420) hb); have n6_ := Aside0.mk (blk_below (bz BK400) hb); have n7_ := Aside0.mk (blk_below (bz BK409) hb); have n8_ := Aside0.mk (blk_below (bz BK414) hb); have n9_ := Aside0.mk (below_step bh hb); clear HO_4 HO_5 HO_401001 HO_410001 HO417 HO420 BK400 BK409 BK414 HB; have HO_4 := n0_; have HO_5 := n1_; have HO_401001 := n2_; have HO_410001 := n3_; have HO417 := n4_; have HO420 := n5_; have BK400 := n6_; have BK409 := n7_; have BK414 := n8_; have HB := n9_; clear n0_ n1_ n2_ n3_ n4_ n5_ n6_ n7_ n8_ n9_; (try clear hb); (try clear hb2); (try clear hk); (try clear hi); have hcz111_0 := cz0 BK400; have hcz111_1 := cz1 BK400; have hfz111_0 := blk_frozen BK400.out 0; have hfz111_1 := blk_frozen BK400.out 1) | (go_at_call 25; (with_reducible refine (impl_SoundOk.calls kj4 t390 _ _ t391 _ _ y415 true _ ?side1 ?side2 ?side3 ?side4 A84.out).mono ?_); (case side1 => repeat (first | exact (Kd.R_reads' HO_401001.out).2.2 | (with_reducible refine Kd.C_alloc ?_ _) | (with_reducible refine Kd.C_drewN ?_ _) | (with_reducible refine Kd.C_drew ?_))); (case side2 => exact (Kd.R_reads' HO_401001.out).2.1); (case side3 => repeat (first | exact (Kd.N_reads' HO417.out).2.2 | (with_reducible refine Kd.C_alloc ?_ _) | (with_reducible refine Kd.C_drewN ?_ _) | (with_reducible refine Kd.C_drew ?_))); (case side4 => exact (Kd.N_reads' HO417.out).2.1); rintro e w112 ⟨rfl, hb⟩; have n0_ := Aside0.mk (Kd.V_below (vz HO_4) hb); have n1_ := Aside0.mk (Kd.V_below (vz HO_5) hb); have n2_ := Aside0.mk (Kd.R_below (rz HO_401001) hb); have n3_ := Aside0.mk (Kd.R_below (rz HO_410001) hb); have n4_ := Aside0.mk (Kd.N_below (nz HO417) hb); have n5_ := Aside0.mk (Kd.N_below (nz HO420) hb); have n6_ := Aside0.mk (blk_below (bz BK400) hb); have n7_ := Aside0.mk (blk_below (bz BK409) hb); have n8_ := Aside0.mk (blk_below (bz BK414) hb); have n9_ := Aside0.mk (below_step bh hb); clear HO_4 HO_5 HO_401001 HO_410001 HO417 HO420 BK400 BK409 BK414 HB; have HO_4 := n0_; have HO_5 := n1_; have HO_401001 := n2_; have HO_410001 := n3_; have HO417 := n4_; have HO420 := n5_; have BK400 := n6_; have BK409 := n7_; have BK414 := n8_; have HB := n9_; clear n0_ n1_ n2_ n3_ n4_ n5_ n6_ n7_ n8_ n9_; (try clear hb); (try clear hb2); (try clear hk); (try clear hi); have hcz113_0 := cz0 BK400; have hcz113_1 := cz1 BK400; have hfz113_0 := blk_frozen BK400.out 0; have hfz113_1 := blk_frozen BK400.out 1) | (go_at_call 25; (with_reducible refine (impl_SoundOk.calls kj4 t390 _ _ t391 _ _ y418 t430 _ ?side1 ?side2 ?side3 ?side4 A86.out).mono ?_); (case side1 => repeat (first | exact (Kd.R_reads' HO_401001.out).2.2 | (with_reducible refine Kd.C_alloc ?_ _) | (with_reducible refine Kd.C_drewN ?_ _) | (with_reducible refine Kd.C_drew ?_))); (case side2 => exact (Kd.R_reads' HO_401001.out).2.1); (case side3 => repeat (first | exact (Kd.N_reads' HO420.out).2.2 | (with_reducible refine Kd.C_alloc ?_ _) | (with_reducible refine Kd.C_drewN ?_ _) | (with_reducible refine Kd.C_drew ?_))); (case side4 => exact (Kd.N_reads' HO420.out).2.1); rintro e w114 ⟨rfl, hb⟩; have n0_ := Aside0.mk (Kd.V_below (vz HO_4) hb); have n1_ := Aside0.mk (Kd.V_below (vz HO_5) hb); have n2_ := Aside0.mk (Kd.R_below (rz HO_401001) hb); have n3_ := Aside0.mk (Kd.R_below (rz HO_410001) hb); have n4_ := Aside0.mk (Kd.N_below (nz HO417) hb); have n5_ := Aside0.mk (Kd.N_below (nz HO420) hb); have n6_ := Aside0.mk (blk_below (bz BK400) hb); have n7_ := Aside0.mk (blk_below (bz BK409) hb); have n8_ := Aside0.mk (blk_below (bz BK414) hb); have n9_ := Aside0.mk (below_step bh hb); clear HO_4 HO_5 HO_401001 HO_410001 HO417 HO420 BK400 BK409 BK414 HB; have HO_4 := n0_; have HO_5 := n1_; have HO_401001 := n2_; have HO_410001 := n3_; have HO417 := n4_; have HO420 := n5_; have BK400 := n6_; have BK409 := n7_; have BK414 := n8_; have HB := n9_; clear n0_ n1_ n2_ n3_ n4_ n5_ n6_ n7_ n8_ n9_; (try clear hb); (try clear hb2); (try clear hk); (try clear hi)))
          go_ret
          exact ⟨by first | rfl | (simp [errW_none, errW_some] <;> rfl) | (simp [*, errW_none, errW_some] <;> rfl), by exact bh⟩
         ·replace c85 := Bool.eq_false_iff.mpr c85
          subst c85
          have H1 : (none) = some r := by rw [if_neg (show ¬ (false = true) by decide)] at H; exact H
          clear H
          have H := H1
          clear H1
          exact absurd H (by simp)
        ·rw [if_neg c83] at H
         exact absurd H (by simp)
       ·rw [if_neg c81] at H
        exact absurd H (by simp)
     ·replace c44 := Bool.eq_false_iff.mpr c44
      subst c44
      have H1 : (none) = some r := by rw [if_neg (show ¬ (false = true) by decide)] at H; exact H
      clear H
      have H := H1
      clear H1
      exact absurd H (by simp)

/-- THE ONE PURE STATEMENT of laws_FnTwoHouses: yours. -/
def laws_FnTwoHouses.Pure : Prop := ∀ (l0 : List Int), l0.length ≤ maxLen → l0.length * 1 ≤ 140737488351232 → (∀ x ∈ l0, (Lit.int .u8 x).wf = true) → ∃ k, laws_FnTwoHouses.f k l0 = some true
theorem laws_FnTwoHouses.walk (P : laws_FnTwoHouses.Pure) (a0 : Option Addr) (len0 cap0 : Nat) (z0 : List Int) (w : World) (w0 : (a0 = none ∧ len0 = 0 ∧ cap0 = 0 ∧ z0 = []) ∨ ∃ x, a0 = some x ∧ len0 ≤ cap0 ∧ cap0 ≤ maxLen ∧ z0.length = cap0 ∧ (∀ i, i < z0.length → w.cell? (x.add i) = some (.int .u8 (z0.getD i 0))) ∧ ∀ n ∈ z0, (Lit.int .u8 n).wf = true) (y0 : len0 * 1 ≤ 140737488351232) :
  Calls Try.prog 4 #[.slice a0 len0 cap0] w fun e w' => e = .returned (.bool true) ∧ Below w.heap.size w w' := by
 obtain ⟨l0, rfl, hr0, hm0, hw0, hc0⟩ := ReadsInt.ofRowC w0
 obtain ⟨k, h⟩ := P l0 hm0 y0 hw0
 refine (laws_FnTwoHouses.calls k _ _ l0 true w (Kd.C_of_reads (d := (0 : Int)) (h1 := fun _ => rfl) hr0) hc0 h).mono ?_
 rintro e w' ⟨rfl, hd⟩
 exact ⟨rfl, hd⟩

end Go.Proofs.Ytnpjlpkbefdnlaa.QFnTwoHouses
