-- Printed for this claim by a turned copy of the print (wip/myprint). Lean checks it. Squeezed. Worded. Tightened.
import Derived.Test.YtlpjkeejflogjaaQFnExactAfterDeathsx0
namespace Go.Proofs.Ytlpjkeejflogjaa.QFnExactAfterDeaths
open Go.RowKit Go.Proofs.YtlpjkeejflogjaaW.PrintWords Go.Proofs.YtlpjkeejflogjaaW.PrintLast Go.Proofs.YtlpjkeejflogjaaW.PrintMore
attribute [local go_sem] max2_int min2_int max_two min_two max_three min_three max_four min_four Opens.cell_twice   -- for this text's walks alone
set_option linter.unusedVariables false
set_option linter.unusedSimpArgs false

/-! ### spec_l7Next: function 59 -/
mutual
def spec_l7Next.l0 : Nat → Int → Int → Int → List (List Int) → List Int → Int → Option (Int)
 | 0, _, _, _, _, _, _ => none
 | k + 1, x1, x5, x257000, x257001, x257002, x257003 => if 0 ≤ x1 then (if x1 < (x257001.length : Int) then (if x5 < ((rd_L1 x257001 x1).length : Int) then (if 0 ≤ x5 then (if 0 ≤ (rd (rd_L1 x257001 x1) x5) then (spec_l7Next.l1 k x1 x5 (rd (rd_L1 x257001 x1) x5) ((Int.tmod (shr .i64 x257003 (rd (rd_L1 x257001 x1) x5)) 2) == 1) 0 x257000 x257001 x257002 x257003) else (none)) else (none)) else (some (-1))) else (none)) else (none)
def spec_l7Next.l1 : Nat → Int → Int → Int → Bool → Int → Int → List (List Int) → List Int → Int → Option (Int)
 | 0, _, _, _, _, _, _, _, _, _ => none
 | k + 1, x1, x5, x6, x7, x8, x257000, x257001, x257002, x257003 => if x8 < (x257002.length : Int) then (if x7 = true then (if 0 ≤ x8 then (spec_l7Next.l1 k x1 x5 x6 ((rd x257002 x8) != x6) (wrap64 (x8 + 1)) x257000 x257001 x257002 x257003) else (none)) else (spec_l7Next.l1 k x1 x5 x6 false (wrap64 (x8 + 1)) x257000 x257001 x257002 x257003)) else (if x7 = true then (some x6) else (spec_l7Next.l0 k x1 (wrap64 (x5 + 1)) x257000 x257001 x257002 x257003))
end
def spec_l7Next.f (k : Nat) (a0_0 : Int) (l0_1 : List (List Int)) (l0_2 : List Int) (a0_3 : Int) (a1 : Int) : Option (Int) := spec_l7Next.l0 k a1 0 a0_0 l0_1 l0_2 a0_3
theorem spec_l7Next.mono_l : ∀ k, (∀ y0 y1 y2 y3 y4 y5, LeO (spec_l7Next.l0 k y0 y1 y2 y3 y4 y5) (spec_l7Next.l0 (k + 1) y0 y1 y2 y3 y4 y5)) ∧ (∀ y0 y1 y2 y3 y4 y5 y6 y7 y8, LeO (spec_l7Next.l1 k y0 y1 y2 y3 y4 y5 y6 y7 y8) (spec_l7Next.l1 (k + 1) y0 y1 y2 y3 y4 y5 y6 y7 y8))
 | 0 => ⟨fun _ _ _ _ _ _ r h => by simp [spec_l7Next.l0] at h, fun _ _ _ _ _ _ _ _ _ r h => by simp [spec_l7Next.l1] at h⟩
 | k + 1 => by
  obtain ⟨ih0, ih1⟩ := spec_l7Next.mono_l k
  refine ⟨?_, ?_⟩
  ·intro y0 y1 y2 y3 y4 y5
   unfold spec_l7Next.l0
   repeat' first
   | (with_reducible exact ih0 _ _ _ _ _ _)
   | (with_reducible exact ih1 _ _ _ _ _ _ _ _ _)
   | (with_reducible exact LeO.refl _)
   | (with_reducible exact LeO.none _)
   | (with_reducible refine LeO.ite ?_ ?_)
   | (with_reducible refine LeO.bind ?_ (fun _ => ?_))
   | exact ih0 _ _ _ _ _ _
   | exact ih1 _ _ _ _ _ _ _ _ _
   | exact LeO.none _
   | refine LeO.ite ?_ ?_
   | refine LeO.bind ?_ (fun _ => ?_)
  ·intro y0 y1 y2 y3 y4 y5 y6 y7 y8
   unfold spec_l7Next.l1
   repeat' first
   | (with_reducible exact ih0 _ _ _ _ _ _)
   | (with_reducible exact ih1 _ _ _ _ _ _ _ _ _)
   | (with_reducible exact LeO.refl _)
   | (with_reducible exact LeO.none _)
   | (with_reducible refine LeO.ite ?_ ?_)
   | (with_reducible refine LeO.bind ?_ (fun _ => ?_))
   | exact ih0 _ _ _ _ _ _
   | exact ih1 _ _ _ _ _ _ _ _ _
   | exact LeO.none _
   | refine LeO.ite ?_ ?_
   | refine LeO.bind ?_ (fun _ => ?_)
theorem spec_l7Next.mono : ∀ a0 a1 a2 a3 a4 k, LeO (spec_l7Next.f k a0 a1 a2 a3 a4) (spec_l7Next.f (k + 1) a0 a1 a2 a3 a4) := by
 intro a0 a1 a2 a3 a4 k
 obtain ⟨ih0, ih1⟩ := spec_l7Next.mono_l k
 unfold spec_l7Next.f
 repeat' first
   | (with_reducible exact ih0 _ _ _ _ _ _)
   | (with_reducible exact ih1 _ _ _ _ _ _ _ _ _)
   | (with_reducible exact LeO.refl _)
   | (with_reducible exact LeO.none _)
   | (with_reducible refine LeO.ite ?_ ?_)
   | (with_reducible refine LeO.bind ?_ (fun _ => ?_))
   | exact ih0 _ _ _ _ _ _
   | exact ih1 _ _ _ _ _ _ _ _ _
   | exact LeO.none _
   | refine LeO.ite ?_ ?_
   | refine LeO.bind ?_ (fun _ => ?_)
set_option maxHeartbeats 8000000 in
set_option maxRecDepth 100000 in
theorem spec_l7Next.calls (k : Nat) (a0_0 : Int) (A0_1 : Option Addr) (c0_1 : Nat) (l0_1 : List (List Int)) (A0_2 : Option Addr) (c0_2 : Nat) (l0_2 : List Int) (a0_3 : Int) (a1 : Int) (r : Int) (w : World) (hr0_1 : Kd.C (Kd.slice 3 (Kd.int .i64)) w A0_1 l0_1.length l0_1) (hc0_1 : l0_1.length ≤ c0_1) (hr0_2 : Kd.C (Kd.int .i64) w A0_2 l0_2.length l0_2) (hc0_2 : l0_2.length ≤ c0_2) (h : spec_l7Next.f k a0_0 l0_1 l0_2 a0_3 a1 = some r) :
  Calls Try.prog 59 #[.agg #[.int .i64 a0_0, .slice A0_1 l0_1.length c0_1, .slice A0_2 l0_2.length c0_2, .int .i64 a0_3], .int .i64 a1] w fun e w' => e = .returned (.int .i64 r) ∧ Below w.heap.size w w' := by
 have hu28 := Try.underlying28
 have HR0_1 := Aside0.mk hr0_1
 have HC0_1 := Aside0.mk hc0_1
 clear hr0_1 hc0_1
 have HR0_2 := Aside0.mk hr0_2
 have HC0_2 := Aside0.mk hc0_2
 clear hr0_2 hc0_2
 have HB := Aside0.mk (Below.refl w.heap.size w)
 have H : (spec_l7Next.l0 k a1 0 a0_0 l0_1 l0_2 a0_3) = some r := h
 clear h
 have H' := Aside0.mk H
 clear H
 go_enter Try.func59, Try.ntmps59
 go_wp2_with (first | ((with_reducible refine gate_dst (N := 2) rfl ?_); refine box_event ?hg (N := 2) ?hd (cs := #[.int .i64 a0_0, .slice A0_1 l0_1.length c0_1, .slice A0_2 l0_2.length c0_2, .int .i64 a0_3]) (t := 28) ?hr ?_; (case hd => rfl); (case hg => rfl); (case hr => first | (go_simp; done) | (go_simp; rfl)); intro gb256 hg w3 hbox hb; have n0_ := Aside0.mk (below_step bh hb); have n1_ := Aside0.mk (hbox); have n2_ := Aside0.mk ((gs (W0 := w) hg bh)); have n3_ := Aside0.mk ((gs (W0 := w) hg bh)); clear HB; have HB := n0_; have BK256 := n1_; have GW256 := n2_; have GE256 := n3_; clear n0_ n1_ n2_ n3_ hb hbox hg))
 go_loopg [5] k (fun kq v5 w' => ∃ (x5_1 : Int), v5 = .int .i64 x5_1 ∧ Aside0 (spec_l7Next.l0 kq a1 x5_1 a0_0 l0_1 l0_2 a0_3 = some r) ∧ Aside0 (kq ≤ k) ∧ Aside0 (w'.heap[gb256]? = some (.cells #[.int .i64 a0_0, (.slice A0_1 l0_1.length c0_1), (.slice A0_2 l0_2.length c0_2), .int .i64 a0_3] 28 (0, 0))) ∧ Aside0 (Below w.heap.size w w'))
 case atStart => exact ⟨(0), (by first | rfl | (simp; done) | (simp [*]; done)), H', ⟨Nat.le_refl _⟩, ⟨bz BK256⟩, ⟨by exact bh⟩⟩
 case round =>
  clear H'
  try clear p2
  obtain ⟨x5_1, rfl, HA, HK1, BK256, HB⟩ := hrel
  cases gk with
  | zero => exact absurd HA.out (by simp [spec_l7Next.l0])
  | succ k1 =>
   have H := HA.out
   clear HA
   simp only [spec_l7Next.l0] at H
   by_cases c4 : 0 ≤ a1
   ·rw [if_pos c4] at H
    have c4b0 : decide (0 ≤ a1) = true := decide_eq_true c4
    clear c4
    by_cases c5 : a1 < (l0_1.length : Int)
    ·rw [if_pos c5] at H
     have c5b0 : decide (a1 < (l0_1.length : Int)) = true := decide_eq_true c5
     clear c5
     by_cases c6 : x5_1 < ((rd_L1 l0_1 a1).length : Int)
     ·rw [if_pos c6] at H
      have c6b0 : decide (x5_1 < ((rd_L1 l0_1 a1).length : Int)) = true := decide_eq_true c6
      clear c6
      by_cases c7 : 0 ≤ x5_1
      ·rw [if_pos c7] at H
       have c7b0 : decide (0 ≤ x5_1) = true := decide_eq_true c7
       clear c7
       by_cases c8 : 0 ≤ (rd (rd_L1 l0_1 a1) x5_1)
       ·rw [if_pos c8] at H
        have c8b0 := eq_true c8
        have c8b1 : decide (0 ≤ (rd (rd_L1 l0_1 a1) x5_1)) = true := decide_eq_true c8
        clear c8
        obtain ⟨ji9, hji9⟩ : ∃ j_ : Int, (shr .i64 a0_3 (rd (rd_L1 l0_1 a1) x5_1)) = j_ := ⟨_, rfl⟩
        replace H : (spec_l7Next.l1 k1 a1 x5_1 (rd (rd_L1 l0_1 a1) x5_1) ((Int.tmod (ji9) 2) == 1) 0 a0_0 l0_1 l0_2 a0_3) = some r := by first | (rw [hji9] at H; exact H) | (simp only [hji9] at H ⊢; exact H)
        have hji9_ : (a0_3 / 2 ^ min (rd (rd_L1 l0_1 a1) x5_1).toNat 64) = ji9 := hji9
        have hji9z : (rd (rd_L1 l0_1 a1) x5_1) ≤ 64 → (a0_3 / 2 ^ (rd (rd_L1 l0_1 a1) x5_1).toNat) = ji9 := shr_small hji9
        have H' := Aside0.mk H
        clear H
        have hcz10_0 := cz0 BK256
        have hcz10_1 := cz1 BK256
        have hcz10_2 := cz2 BK256
        have hcz10_3 := cz3 BK256
        have hfz10_0 := blk_frozen BK256.out 0
        have hfz10_1 := blk_frozen BK256.out 1
        have hfz10_2 := blk_frozen BK256.out 2
        have hfz10_3 := blk_frozen BK256.out 3
        have p257 : 0 ≤ (a1 : Int) := oda
        have q257 : a1 < (l0_1.length : Int) := oda
        obtain ⟨ad257, A257_0, c257_0, e257, hx257_0, hl257_0, hi257_0⟩ := at_L1 HR0_1.out a1 p257 q257
        cases e257
        replace hx257_0 := (HB.out.cell (World.block_lt_of_cell? w _ hx257_0)).trans hx257_0
        have HR257_0 := Aside0.mk hi257_0
        have HC257_0 := Aside0.mk hl257_0
        clear hi257_0 hl257_0
        replace p257 := eq_true p257
        replace q257 := eq_true q257
        have p258 : 0 ≤ (a1 : Int) := oda
        have q258 : a1 < (l0_1.length : Int) := oda
        obtain ⟨ad258, A258_0, c258_0, e258, hx258_0, hl258_0, hi258_0⟩ := at_L1 HR0_1.out a1 p258 q258
        obtain rfl : ad257 = ad258 := (by injection e258)
        replace hx258_0 := (HB.out.cell (World.block_lt_of_cell? w _ hx258_0)).trans hx258_0
        have HR258_0 := Aside0.mk hi258_0
        have HC258_0 := Aside0.mk hl258_0
        clear hi258_0 hl258_0
        replace p258 := eq_true p258
        replace q258 := eq_true q258
        have ea_ := Option.some.inj (hx257_0.symm.trans hx258_0)
        injection ea_ with ea_ en_ ec_
        subst ea_
        subst ec_
        clear en_
        have p259 : 0 ≤ (x5_1 : Int) := oda
        have q259 : x5_1 < ((rd_L1 l0_1 a1).length : Int) := oda
        obtain ⟨ad259, e259, hx259_0⟩ := Kd.at_int HR258_0.out x5_1 p259 q259
        cases e259
        replace hx259_0 := (HB.out.cell (World.block_lt_of_cell? w _ hx259_0)).trans hx259_0
        replace p259 := eq_true p259
        replace q259 := eq_true q259
        go_wp2
        go_loopg [7, 8] k1 (fun kq v7 v8 w' => ∃ (x7_2 : Bool) (x8_2 : Int), v7 = .bool x7_2 ∧ v8 = .int .i64 x8_2 ∧ Aside0 (spec_l7Next.l1 kq a1 x5_1 (rd (rd_L1 l0_1 a1) x5_1) x7_2 x8_2 a0_0 l0_1 l0_2 a0_3 = some r) ∧ Aside0 (kq ≤ k1) ∧ Aside0 (w'.heap[gb256]? = some (.cells #[.int .i64 a0_0, (.slice (some ad257) l0_1.length c0_1), (.slice A0_2 l0_2.length c0_2), .int .i64 a0_3] 28 (0, 0))) ∧ Aside0 (Below w.heap.size w w'))
        case atStart => exact ⟨(((Int.tmod (ji9) 2) == 1)), (0), (by first | rfl | (simp; done) | (simp only [← hji9] <;> (first | rfl | simp)) | (simp [*]; done)), (by first | rfl | (simp; done) | (simp [*]; done)), H', ⟨Nat.le_refl _⟩, ⟨bz BK256⟩, ⟨by exact bh⟩⟩
        case round =>
         clear H'
         try clear c2
         try clear p2
         try clear q2
         try clear hx2
         try clear c4
         try clear c4b0
         try clear c5
         try clear c5b0
         try clear c6
         try clear c6b0
         try clear c7
         try clear c7b0
         try clear c8
         try clear c8b0
         try clear c8b1
         try clear hcz10_0
         try clear hcz10_1
         try clear hcz10_2
         try clear hcz10_3
         try clear hfz10_0
         try clear hfz10_1
         try clear hfz10_2
         try clear hfz10_3
         try clear hx257_0
         try clear hx258_0
         try clear hx259_0
         try clear p2
         try clear p257
         try clear p258
         try clear p259
         try clear q257
         try clear q258
         try clear q259
         obtain ⟨x7_2, x8_2, rfl, rfl, HA, HK2, BK256, HB⟩ := hrel
         cases gk with
         | zero => exact absurd HA.out (by simp [spec_l7Next.l1])
         | succ k2 =>
          have H := HA.out
          clear HA
          simp only [spec_l7Next.l1] at H
          by_cases c11 : x8_2 < (l0_2.length : Int)
          ·rw [if_pos c11] at H
           have c11b0 : decide (x8_2 < (l0_2.length : Int)) = true := decide_eq_true c11
           clear c11
           by_cases c12 : x7_2 = true
           ·subst c12
            have H1 : (if 0 ≤ x8_2 then (spec_l7Next.l1 k2 a1 x5_1 (rd (rd_L1 l0_1 a1) x5_1) ((rd l0_2 x8_2) != (rd (rd_L1 l0_1 a1) x5_1)) (wrap64 (x8_2 + 1)) a0_0 l0_1 l0_2 a0_3) else (none)) = some r := by rw [if_pos rfl] at H; exact H
            clear H
            have H := H1
            clear H1
            by_cases c13 : 0 ≤ x8_2
            ·rw [if_pos c13] at H
             have c13b0 : decide (0 ≤ x8_2) = true := decide_eq_true c13
             clear c13
             have H' := Aside0.mk H
             clear H
             have hcz14_0 := cz0 BK256
             have hcz14_1 := cz1 BK256
             have hcz14_2 := cz2 BK256
             have hcz14_3 := cz3 BK256
             have hfz14_0 := blk_frozen BK256.out 0
             have hfz14_1 := blk_frozen BK256.out 1
             have hfz14_2 := blk_frozen BK256.out 2
             have hfz14_3 := blk_frozen BK256.out 3
             have p260 : 0 ≤ (x8_2 : Int) := oda
             have q260 : x8_2 < (l0_2.length : Int) := oda
             obtain ⟨ad260, e260, hx260_0⟩ := Kd.at_int HR0_2.out x8_2 p260 q260
             cases e260
             replace hx260_0 := (HB.out.cell (World.block_lt_of_cell? w _ hx260_0)).trans hx260_0
             replace p260 := eq_true p260
             replace q260 := eq_true q260
             go_wp2
             go_roundg k2
             case measure => have := HK1.out; have := HK2.out; omega
             case rel => exact ⟨(((rd l0_2 x8_2) != (rd (rd_L1 l0_1 a1) x5_1))), (wrap64 (x8_2 + 1)), (by first | rfl | (simp; done) | (simp [*]; done)), (by first | rfl | (simp; done) | (simp [*]; done)), H', ⟨by have := HK1.out; have := HK2.out; omega⟩, ⟨bz BK256⟩, ⟨by exact bh⟩⟩
            ·rw [if_neg c13] at H
             exact absurd H (by simp)
           ·replace c12 := Bool.eq_false_iff.mpr c12
            subst c12
            have H1 : (spec_l7Next.l1 k2 a1 x5_1 (rd (rd_L1 l0_1 a1) x5_1) false (wrap64 (x8_2 + 1)) a0_0 l0_1 l0_2 a0_3) = some r := by rw [if_neg (show ¬ (false = true) by decide)] at H; exact H
            clear H
            have H := H1
            clear H1
            have H' := Aside0.mk H
            clear H
            have hcz15_0 := cz0 BK256
            have hcz15_1 := cz1 BK256
            have hcz15_2 := cz2 BK256
            have hcz15_3 := cz3 BK256
            have hfz15_0 := blk_frozen BK256.out 0
            have hfz15_1 := blk_frozen BK256.out 1
            have hfz15_2 := blk_frozen BK256.out 2
            have hfz15_3 := blk_frozen BK256.out 3
            go_wp2
            go_roundg k2
            case measure => have := HK1.out; have := HK2.out; omega
            case rel => exact ⟨(false), (wrap64 (x8_2 + 1)), (by first | rfl | (simp; done) | (simp [*]; done)), (by first | rfl | (simp; done) | (simp [*]; done)), H', ⟨by have := HK1.out; have := HK2.out; omega⟩, ⟨bz BK256⟩, ⟨by exact bh⟩⟩
          ·rw [if_neg c11] at H
           have c11b0 : decide (x8_2 < (l0_2.length : Int)) = false := decide_eq_false c11
           clear c11
           by_cases c16 : x7_2 = true
           ·subst c16
            have H1 : (some (rd (rd_L1 l0_1 a1) x5_1)) = some r := by rw [if_pos rfl] at H; exact H
            clear H
            have H := H1
            clear H1
            obtain rfl := Option.some.inj H
            have hcz17_0 := cz0 BK256
            have hcz17_1 := cz1 BK256
            have hcz17_2 := cz2 BK256
            have hcz17_3 := cz3 BK256
            have hfz17_0 := blk_frozen BK256.out 0
            have hfz17_1 := blk_frozen BK256.out 1
            have hfz17_2 := blk_frozen BK256.out 2
            have hfz17_3 := blk_frozen BK256.out 3
            go_wp2
            go_ret
            exact ⟨by first | rfl | (simp [errW_none, errW_some] <;> rfl) | (simp only [← hji9]; first | rfl | (simp [errW_none, errW_some] <;> rfl)) | (simp [*, errW_none, errW_some] <;> rfl), by exact bh⟩
           ·replace c16 := Bool.eq_false_iff.mpr c16
            subst c16
            have H1 : (spec_l7Next.l0 k2 a1 (wrap64 (x5_1 + 1)) a0_0 l0_1 l0_2 a0_3) = some r := by rw [if_neg (show ¬ (false = true) by decide)] at H; exact H
            clear H
            have H := H1
            clear H1
            have H' := Aside0.mk H
            clear H
            have hcz18_0 := cz0 BK256
            have hcz18_1 := cz1 BK256
            have hcz18_2 := cz2 BK256
            have hcz18_3 := cz3 BK256
            have hfz18_0 := blk_frozen BK256.out 0
            have hfz18_1 := blk_frozen BK256.out 1
            have hfz18_2 := blk_frozen BK256.out 2
            have hfz18_3 := blk_frozen BK256.out 3
            go_wp2
            go_roundg k2
            case measure => have := HK1.out; have := HK2.out; omega
            case rel => exact ⟨(wrap64 (x5_1 + 1)), (by first | rfl | (simp; done) | (simp [*]; done)), H', ⟨by have := HK1.out; have := HK2.out; omega⟩, ⟨bz BK256⟩, ⟨by exact bh⟩⟩
       ·rw [if_neg c8] at H
        exact absurd H (by simp)
      ·rw [if_neg c7] at H
       exact absurd H (by simp)
     ·rw [if_neg c6] at H
      have c6b0 : decide (x5_1 < ((rd_L1 l0_1 a1).length : Int)) = false := decide_eq_false c6
      clear c6
      obtain rfl := Option.some.inj H
      have hcz19_0 := cz0 BK256
      have hcz19_1 := cz1 BK256
      have hcz19_2 := cz2 BK256
      have hcz19_3 := cz3 BK256
      have hfz19_0 := blk_frozen BK256.out 0
      have hfz19_1 := blk_frozen BK256.out 1
      have hfz19_2 := blk_frozen BK256.out 2
      have hfz19_3 := blk_frozen BK256.out 3
      have p257 : 0 ≤ (a1 : Int) := oda
      have q257 : a1 < (l0_1.length : Int) := oda
      obtain ⟨ad257, A257_0, c257_0, e257, hx257_0, hl257_0, hi257_0⟩ := at_L1 HR0_1.out a1 p257 q257
      cases e257
      replace hx257_0 := (HB.out.cell (World.block_lt_of_cell? w _ hx257_0)).trans hx257_0
      have HR257_0 := Aside0.mk hi257_0
      have HC257_0 := Aside0.mk hl257_0
      clear hi257_0 hl257_0
      replace p257 := eq_true p257
      replace q257 := eq_true q257
      go_wp2
      go_ret
      exact ⟨by first | rfl | (simp [errW_none, errW_some] <;> rfl) | (simp [*, errW_none, errW_some] <;> rfl), by exact bh⟩
    ·rw [if_neg c5] at H
     exact absurd H (by simp)
   ·rw [if_neg c4] at H
    exact absurd H (by simp)

end Go.Proofs.Ytlpjkeejflogjaa.QFnExactAfterDeaths
