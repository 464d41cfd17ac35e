-- Printed for this claim by a turned copy of the print (wip/myprint). Lean checks it. Squeezed. Worded. Tightened.
import Derived.Test.YtlpjkeejflogjaaQFnExactAfterDeathsx0
import Derived.Test.YtlpjkeejflogjaaQFnExactAfterDeathsx2
import Derived.Test.YtlpjkeejflogjaaQFnExactAfterDeathsx4
namespace Go.Proofs.Ytlpjkeejflogjaa.QFnExactAfterDeaths
open Go.RowKit Go.Proofs.YtlpjkeejflogjaaW.PrintWords Go.Proofs.YtlpjkeejflogjaaW.PrintLast Go.Proofs.YtlpjkeejflogjaaW.PrintMore
attribute [local go_sem] max2_int min2_int max_two min_two max_three min_three max_four min_four Opens.cell_twice   -- for this text's walks alone
set_option linter.unusedVariables false
set_option linter.unusedSimpArgs false

/-! ### impl_follower: function 60 -/
def impl_follower.l0 : Nat → List Int → Int → Int → Int → List (List Int) → List Int → Int → Option (Int)
 | 0, _, _, _, _, _, _, _ => none
 | k + 1, x11, x12, x13, x172000, x172001, x172002, x172003 => if x13 < x12 then (if 0 ≤ x13 then (if x13 < (x11.length : Int) then ((impl_lives.f x172000 x172001 x172002 x172003 (rd x11 x13)).bind fun t174 => (if t174 = true then ((slices_Contains_int_int.f k x172002 (rd x11 x13)).bind fun t175 => (if t175 = true then (impl_follower.l0 k x11 x12 (wrap64 (x13 + 1)) x172000 x172001 x172002 x172003) else (some (rd x11 x13)))) else (impl_follower.l0 k x11 x12 (wrap64 (x13 + 1)) x172000 x172001 x172002 x172003))) else (none)) else (none)) else (some (-1))
def impl_follower.f (k : Nat) (a0_0 : Int) (l0_1 : List (List Int)) (l0_2 : List Int) (a0_3 : Int) (a1 : Int) : Option (Int) := if 0 ≤ a1 then (if a1 < (l0_1.length : Int) then (impl_follower.l0 k (rd_L1 l0_1 a1) ((rd_L1 l0_1 a1).length : Int) 0 a0_0 l0_1 l0_2 a0_3) else (none)) else (none)
theorem impl_follower.mono_l : ∀ k, (∀ y0 y1 y2 y3 y4 y5 y6, LeO (impl_follower.l0 k y0 y1 y2 y3 y4 y5 y6) (impl_follower.l0 (k + 1) y0 y1 y2 y3 y4 y5 y6))
 | 0 => fun _ _ _ _ _ _ _ r h => by simp [impl_follower.l0] at h
 | k + 1 => by
  have ih0 := impl_follower.mono_l k
  ·intro y0 y1 y2 y3 y4 y5 y6
   unfold impl_follower.l0
   repeat' first
   | (with_reducible exact ih0 _ _ _ _ _ _ _)
   | (with_reducible exact slices_Contains_int_int.mono _ _ _)
   | (with_reducible exact LeO.refl _)
   | (with_reducible exact LeO.none _)
   | (with_reducible refine LeO.ite ?_ ?_)
   | (with_reducible refine LeO.bind ?_ (fun _ => ?_))
   | exact ih0 _ _ _ _ _ _ _
   | exact slices_Contains_int_int.mono _ _ _
   | exact LeO.none _
   | refine LeO.ite ?_ ?_
   | refine LeO.bind ?_ (fun _ => ?_)
theorem impl_follower.mono : ∀ a0 a1 a2 a3 a4 k, LeO (impl_follower.f k a0 a1 a2 a3 a4) (impl_follower.f (k + 1) a0 a1 a2 a3 a4) := by
 intro a0 a1 a2 a3 a4 k
 have ih0 := impl_follower.mono_l k
 unfold impl_follower.f
 repeat' first
   | (with_reducible exact ih0 _ _ _ _ _ _ _)
   | (with_reducible exact slices_Contains_int_int.mono _ _ _)
   | (with_reducible exact LeO.refl _)
   | (with_reducible exact LeO.none _)
   | (with_reducible refine LeO.ite ?_ ?_)
   | (with_reducible refine LeO.bind ?_ (fun _ => ?_))
   | exact ih0 _ _ _ _ _ _ _
   | exact slices_Contains_int_int.mono _ _ _
   | exact LeO.none _
   | refine LeO.ite ?_ ?_
   | refine LeO.bind ?_ (fun _ => ?_)
set_option maxHeartbeats 8000000 in
set_option maxRecDepth 100000 in
theorem impl_follower.calls (k : Nat) (a0_0 : Int) (A0_1 : Option Addr) (c0_1 : Nat) (l0_1 : List (List Int)) (A0_2 : Option Addr) (c0_2 : Nat) (l0_2 : List Int) (a0_3 : Int) (a1 : Int) (r : Int) (w : World) (hr0_1 : Kd.C (Kd.slice 3 (Kd.int .i64)) w A0_1 l0_1.length l0_1) (hc0_1 : l0_1.length ≤ c0_1) (hr0_2 : Kd.C (Kd.int .i64) w A0_2 l0_2.length l0_2) (hc0_2 : l0_2.length ≤ c0_2) (h : impl_follower.f k a0_0 l0_1 l0_2 a0_3 a1 = some r) :
  Calls Try.prog 60 #[.agg #[.int .i64 a0_0, .slice A0_1 l0_1.length c0_1, .slice A0_2 l0_2.length c0_2, .int .i64 a0_3], .int .i64 a1] w fun e w' => e = .returned (.int .i64 r) ∧ Below w.heap.size w w' := by
 have hu28 := Try.underlying28
 have HR0_1 := Aside0.mk hr0_1
 have HC0_1 := Aside0.mk hc0_1
 clear hr0_1 hc0_1
 have HR0_2 := Aside0.mk hr0_2
 have HC0_2 := Aside0.mk hc0_2
 clear hr0_2 hc0_2
 have HB := Aside0.mk (Below.refl w.heap.size w)
 have H : (if 0 ≤ a1 then (if a1 < (l0_1.length : Int) then (impl_follower.l0 k (rd_L1 l0_1 a1) ((rd_L1 l0_1 a1).length : Int) 0 a0_0 l0_1 l0_2 a0_3) else (none)) else (none)) = some r := h
 clear h
 by_cases c3 : 0 ≤ a1
 ·rw [if_pos c3] at H
  have c3b0 : decide (0 ≤ a1) = true := decide_eq_true c3
  clear c3
  by_cases c4 : a1 < (l0_1.length : Int)
  ·rw [if_pos c4] at H
   have c4b0 : decide (a1 < (l0_1.length : Int)) = true := decide_eq_true c4
   clear c4
   have H' := Aside0.mk H
   clear H
   go_enter Try.func60, Try.ntmps60
   go_wp2_with (first | ((with_reducible refine gate_dst (N := 2) rfl ?_); refine box_event ?hg (N := 2) ?hd (cs := #[.int .i64 a0_0, .slice A0_1 l0_1.length c0_1, .slice A0_2 l0_2.length c0_2, .int .i64 a0_3]) (t := 28) ?hr ?_; (case hd => rfl); (case hg => rfl); (case hr => first | (go_simp; done) | (go_simp; rfl)); intro gb171 hg w5 hbox hb; have n0_ := Aside0.mk (below_step bh hb); have n1_ := Aside0.mk (hbox); have n2_ := Aside0.mk ((gs (W0 := w) hg bh)); have n3_ := Aside0.mk ((gs (W0 := w) hg bh)); clear HB; have HB := n0_; have BK171 := n1_; have GW171 := n2_; have GE171 := n3_; clear n0_ n1_ n2_ n3_ hb hbox hg; have hcz6_0 := cz0 BK171; have hcz6_1 := cz1 BK171; have hcz6_2 := cz2 BK171; have hcz6_3 := cz3 BK171; have hfz6_0 := blk_frozen BK171.out 0; have hfz6_1 := blk_frozen BK171.out 1; have hfz6_2 := blk_frozen BK171.out 2; have hfz6_3 := blk_frozen BK171.out 3; have p172 : 0 ≤ (a1 : Int) := oda; have q172 : a1 < (l0_1.length : Int) := oda; obtain ⟨ad172, A172_0, c172_0, e172, hx172_0, hl172_0, hi172_0⟩ := at_L1 HR0_1.out a1 p172 q172; cases e172; replace hx172_0 := (HB.out.cell (World.block_lt_of_cell? w _ hx172_0)).trans hx172_0; have HR172_0 := Aside0.mk hi172_0; have HC172_0 := Aside0.mk hl172_0; clear hi172_0 hl172_0; replace p172 := eq_true p172; replace q172 := eq_true q172))
   go_loopg [13] k (fun kq v13 w' => ∃ (x13_1 : Int), v13 = .int .i64 x13_1 ∧ Aside0 (impl_follower.l0 kq (rd_L1 l0_1 a1) ((rd_L1 l0_1 a1).length : Int) x13_1 a0_0 l0_1 l0_2 a0_3 = some r) ∧ Aside0 (kq ≤ k) ∧ Aside0 (w'.heap[gb171]? = some (.cells #[.int .i64 a0_0, (.slice (some ad172) l0_1.length c0_1), (.slice A0_2 l0_2.length c0_2), .int .i64 a0_3] 28 (0, 0))) ∧ Aside0 (Below w.heap.size w w'))
   case atStart => exact ⟨(0), (by first | rfl | (simp; done) | (simp [*]; done)), H', ⟨Nat.le_refl _⟩, ⟨bz BK171⟩, ⟨by exact bh⟩⟩
   case round =>
    clear H'
    try clear c1
    try clear p1
    try clear q1
    try clear hx1
    try clear p2
    try clear c3
    try clear c3b0
    try clear c4
    try clear c4b0
    try clear c6
    try clear hcz6_0
    try clear hcz6_1
    try clear hcz6_2
    try clear hcz6_3
    try clear hfz6_0
    try clear hfz6_1
    try clear hfz6_2
    try clear hfz6_3
    try clear hx172_0
    try clear p172
    try clear q172
    obtain ⟨x13_1, rfl, HA, HK1, BK171, HB⟩ := hrel
    cases gk with
    | zero => exact absurd HA.out (by simp [impl_follower.l0])
    | succ k1 =>
     have H := HA.out
     clear HA
     simp only [impl_follower.l0] at H
     by_cases c7 : x13_1 < ((rd_L1 l0_1 a1).length : Int)
     ·rw [if_pos c7] at H
      have c7b0 : decide (x13_1 < ((rd_L1 l0_1 a1).length : Int)) = true := decide_eq_true c7
      clear c7
      by_cases c8 : 0 ≤ x13_1
      ·rw [if_pos c8] at H
       have c8b0 : decide (0 ≤ x13_1) = true := decide_eq_true c8
       clear c8
       by_cases c9 : x13_1 < ((rd_L1 l0_1 a1).length : Int)
       ·rw [if_pos c9] at H
        have c9b0 : decide (x13_1 < ((rd_L1 l0_1 a1).length : Int)) = true := decide_eq_true c9
        clear c9
        replace H := Option.bind_eq_some_iff.mp H
        obtain ⟨t174, A100, H⟩ := H
        replace H : (if t174 = true then ((slices_Contains_int_int.f k1 l0_2 (rd (rd_L1 l0_1 a1) x13_1)).bind fun t175 => (if t175 = true then (impl_follower.l0 k1 (rd_L1 l0_1 a1) ((rd_L1 l0_1 a1).length : Int) (wrap64 (x13_1 + 1)) a0_0 l0_1 l0_2 a0_3) else (some (rd (rd_L1 l0_1 a1) x13_1)))) else (impl_follower.l0 k1 (rd_L1 l0_1 a1) ((rd_L1 l0_1 a1).length : Int) (wrap64 (x13_1 + 1)) a0_0 l0_1 l0_2 a0_3)) = some r := H
        have A10 := Aside0.mk A100
        clear A100
        by_cases c11 : t174 = true
        ·subst c11
         have H1 : ((slices_Contains_int_int.f k1 l0_2 (rd (rd_L1 l0_1 a1) x13_1)).bind fun t175 => (if t175 = true then (impl_follower.l0 k1 (rd_L1 l0_1 a1) ((rd_L1 l0_1 a1).length : Int) (wrap64 (x13_1 + 1)) a0_0 l0_1 l0_2 a0_3) else (some (rd (rd_L1 l0_1 a1) x13_1)))) = some r := by rw [if_pos rfl] at H; exact H
         clear H
         have H := H1
         clear H1
         replace H := Option.bind_eq_some_iff.mp H
         obtain ⟨t175, A120, H⟩ := H
         replace H : (if t175 = true then (impl_follower.l0 k1 (rd_L1 l0_1 a1) ((rd_L1 l0_1 a1).length : Int) (wrap64 (x13_1 + 1)) a0_0 l0_1 l0_2 a0_3) else (some (rd (rd_L1 l0_1 a1) x13_1))) = some r := H
         have A12 := Aside0.mk A120
         clear A120
         by_cases c13 : t175 = true
         ·subst c13
          have H1 : (impl_follower.l0 k1 (rd_L1 l0_1 a1) ((rd_L1 l0_1 a1).length : Int) (wrap64 (x13_1 + 1)) a0_0 l0_1 l0_2 a0_3) = some r := by rw [if_pos rfl] at H; exact H
          clear H
          have H := H1
          clear H1
          have H' := Aside0.mk H
          clear H
          have p173 : 0 ≤ (x13_1 : Int) := oda
          have q173 : x13_1 < ((rd_L1 l0_1 a1).length : Int) := oda
          obtain ⟨ad173, e173, hx173_0⟩ := Kd.at_int HR172_0.out x13_1 p173 q173
          cases e173
          replace hx173_0 := (HB.out.cell (World.block_lt_of_cell? w _ hx173_0)).trans hx173_0
          replace p173 := eq_true p173
          replace q173 := eq_true q173
          have hcz14_0 := cz0 BK171
          have hcz14_1 := cz1 BK171
          have hcz14_2 := cz2 BK171
          have hcz14_3 := cz3 BK171
          have hfz14_0 := blk_frozen BK171.out 0
          have hfz14_1 := blk_frozen BK171.out 1
          have hfz14_2 := blk_frozen BK171.out 2
          have hfz14_3 := blk_frozen BK171.out 3
          go_wp2_with (first | ((with_reducible refine gate_callee (f := 64) rfl ?_); refine goesL_ (some 19) rfl rfl Try.func64 kr rfl #[.agg #[.int .i64 a0_0, .slice (some ad172) l0_1.length c0_1, .slice A0_2 l0_2.length c0_2, .int .i64 a0_3], .int .i64 (rd (rd_L1 l0_1 a1) x13_1)] rfl lm ?_; (with_reducible refine (impl_lives.calls a0_0 _ _ l0_1 _ _ l0_2 a0_3 (rd (rd_L1 l0_1 a1) x13_1) true _ ?side1 ?side2 ?side3 ?side4 A10.out).mono ?_); (case side1 => repeat (first | exact (Kd.C_below HR0_1.out HB.out) | (with_reducible refine Kd.C_alloc ?_ _) | (with_reducible refine Kd.C_drewN ?_ _) | (with_reducible refine Kd.C_drew ?_))); (case side2 => exact HC0_1.out); (case side3 => repeat (first | exact (Kd.C_below HR0_2.out HB.out) | (with_reducible refine Kd.C_alloc ?_ _) | (with_reducible refine Kd.C_drewN ?_ _) | (with_reducible refine Kd.C_drew ?_))); (case side4 => exact HC0_2.out); rintro e w15 ⟨rfl, hb⟩; refine ⟨_, rfl, ?_⟩; have n0_ := Aside0.mk (blk_below (bz BK171) hb); have n1_ := Aside0.mk (below_step bh hb); clear BK171 HB; have BK171 := n0_; have HB := n1_; clear n0_ n1_; (try clear hb); (try clear hb2); (try clear hk); (try clear hi); have hcz16_0 := cz0 BK171; have hcz16_1 := cz1 BK171; have hcz16_2 := cz2 BK171; have hcz16_3 := cz3 BK171; have hfz16_0 := blk_frozen BK171.out 0; have hfz16_1 := blk_frozen BK171.out 1; have hfz16_2 := blk_frozen BK171.out 2; have hfz16_3 := blk_frozen BK171.out 3) | (go_at_call 71; (with_reducible refine (slices_Contains_int_int.calls k1 _ _ l0_2 (rd (rd_L1 l0_1 a1) x13_1) true _ ?side1 ?side2 A12.out).mono ?_); (case side1 => repeat (first | exact (Kd.C_below HR0_2.out HB.out) | (with_reducible refine Kd.C_alloc ?_ _) | (with_reducible refine Kd.C_drewN ?_ _) | (with_reducible refine Kd.C_drew ?_))); (case side2 => exact HC0_2.out); rintro e w' ⟨rfl, ⟨nd, rfl⟩⟩))
          go_roundg k1
          case measure => have := HK1.out; omega
          case rel => exact ⟨(wrap64 (x13_1 + 1)), (by first | rfl | (simp; done) | (simp [*]; done)), H', ⟨by have := HK1.out; omega⟩, ⟨bz BK171⟩, ⟨by exact bh⟩⟩
         ·replace c13 := Bool.eq_false_iff.mpr c13
          subst c13
          have H1 : (some (rd (rd_L1 l0_1 a1) x13_1)) = some r := by rw [if_neg (show ¬ (false = true) by decide)] at H; exact H
          clear H
          have H := H1
          clear H1
          obtain rfl := Option.some.inj H
          have p173 : 0 ≤ (x13_1 : Int) := oda
          have q173 : x13_1 < ((rd_L1 l0_1 a1).length : Int) := oda
          obtain ⟨ad173, e173, hx173_0⟩ := Kd.at_int HR172_0.out x13_1 p173 q173
          cases e173
          replace hx173_0 := (HB.out.cell (World.block_lt_of_cell? w _ hx173_0)).trans hx173_0
          replace p173 := eq_true p173
          replace q173 := eq_true q173
          have hcz17_0 := cz0 BK171
          have hcz17_1 := cz1 BK171
          have hcz17_2 := cz2 BK171
          have hcz17_3 := cz3 BK171
          have hfz17_0 := blk_frozen BK171.out 0
          have hfz17_1 := blk_frozen BK171.out 1
          have hfz17_2 := blk_frozen BK171.out 2
          have hfz17_3 := blk_frozen BK171.out 3
          go_wp2_with (first | ((with_reducible refine gate_callee (f := 64) rfl ?_); refine goesL_ (some 19) rfl rfl Try.func64 kr rfl #[.agg #[.int .i64 a0_0, .slice (some ad172) l0_1.length c0_1, .slice A0_2 l0_2.length c0_2, .int .i64 a0_3], .int .i64 (rd (rd_L1 l0_1 a1) x13_1)] rfl lm ?_; (with_reducible refine (impl_lives.calls a0_0 _ _ l0_1 _ _ l0_2 a0_3 (rd (rd_L1 l0_1 a1) x13_1) true _ ?side1 ?side2 ?side3 ?side4 A10.out).mono ?_); (case side1 => repeat (first | exact (Kd.C_below HR0_1.out HB.out) | (with_reducible refine Kd.C_alloc ?_ _) | (with_reducible refine Kd.C_drewN ?_ _) | (with_reducible refine Kd.C_drew ?_))); (case side2 => exact HC0_1.out); (case side3 => repeat (first | exact (Kd.C_below HR0_2.out HB.out) | (with_reducible refine Kd.C_alloc ?_ _) | (with_reducible refine Kd.C_drewN ?_ _) | (with_reducible refine Kd.C_drew ?_))); (case side4 => exact HC0_2.out); rintro e w18 ⟨rfl, hb⟩; refine ⟨_, rfl, ?_⟩; have n0_ := Aside0.mk (blk_below (bz BK171) hb); have n1_ := Aside0.mk (below_step bh hb); clear BK171 HB; have BK171 := n0_; have HB := n1_; clear n0_ n1_; (try clear hb); (try clear hb2); (try clear hk); (try clear hi); have hcz19_0 := cz0 BK171; have hcz19_1 := cz1 BK171; have hcz19_2 := cz2 BK171; have hcz19_3 := cz3 BK171; have hfz19_0 := blk_frozen BK171.out 0; have hfz19_1 := blk_frozen BK171.out 1; have hfz19_2 := blk_frozen BK171.out 2; have hfz19_3 := blk_frozen BK171.out 3) | (go_at_call 71; (with_reducible refine (slices_Contains_int_int.calls k1 _ _ l0_2 (rd (rd_L1 l0_1 a1) x13_1) false _ ?side1 ?side2 A12.out).mono ?_); (case side1 => repeat (first | exact (Kd.C_below HR0_2.out HB.out) | (with_reducible refine Kd.C_alloc ?_ _) | (with_reducible refine Kd.C_drewN ?_ _) | (with_reducible refine Kd.C_drew ?_))); (case side2 => exact HC0_2.out); rintro e w' ⟨rfl, ⟨nd, rfl⟩⟩))
          go_ret
          exact ⟨by first | rfl | (simp [errW_none, errW_some] <;> rfl) | (simp [*, errW_none, errW_some] <;> rfl), by exact bh⟩
        ·replace c11 := Bool.eq_false_iff.mpr c11
         subst c11
         have H1 : (impl_follower.l0 k1 (rd_L1 l0_1 a1) ((rd_L1 l0_1 a1).length : Int) (wrap64 (x13_1 + 1)) a0_0 l0_1 l0_2 a0_3) = some r := by rw [if_neg (show ¬ (false = true) by decide)] at H; exact H
         clear H
         have H := H1
         clear H1
         have H' := Aside0.mk H
         clear H
         have p173 : 0 ≤ (x13_1 : Int) := oda
         have q173 : x13_1 < ((rd_L1 l0_1 a1).length : Int) := oda
         obtain ⟨ad173, e173, hx173_0⟩ := Kd.at_int HR172_0.out x13_1 p173 q173
         cases e173
         replace hx173_0 := (HB.out.cell (World.block_lt_of_cell? w _ hx173_0)).trans hx173_0
         replace p173 := eq_true p173
         replace q173 := eq_true q173
         have hcz20_0 := cz0 BK171
         have hcz20_1 := cz1 BK171
         have hcz20_2 := cz2 BK171
         have hcz20_3 := cz3 BK171
         have hfz20_0 := blk_frozen BK171.out 0
         have hfz20_1 := blk_frozen BK171.out 1
         have hfz20_2 := blk_frozen BK171.out 2
         have hfz20_3 := blk_frozen BK171.out 3
         go_wp2_with (first | ((with_reducible refine gate_callee (f := 64) rfl ?_); refine goesL_ (some 19) rfl rfl Try.func64 kr rfl #[.agg #[.int .i64 a0_0, .slice (some ad172) l0_1.length c0_1, .slice A0_2 l0_2.length c0_2, .int .i64 a0_3], .int .i64 (rd (rd_L1 l0_1 a1) x13_1)] rfl lm ?_; (with_reducible refine (impl_lives.calls a0_0 _ _ l0_1 _ _ l0_2 a0_3 (rd (rd_L1 l0_1 a1) x13_1) false _ ?side1 ?side2 ?side3 ?side4 A10.out).mono ?_); (case side1 => repeat (first | exact (Kd.C_below HR0_1.out HB.out) | (with_reducible refine Kd.C_alloc ?_ _) | (with_reducible refine Kd.C_drewN ?_ _) | (with_reducible refine Kd.C_drew ?_))); (case side2 => exact HC0_1.out); (case side3 => repeat (first | exact (Kd.C_below HR0_2.out HB.out) | (with_reducible refine Kd.C_alloc ?_ _) | (with_reducible refine Kd.C_drewN ?_ _) | (with_reducible refine Kd.C_drew ?_))); (case side4 => exact HC0_2.out); rintro e w21 ⟨rfl, hb⟩; refine ⟨_, rfl, ?_⟩; have n0_ := Aside0.mk (blk_below (bz BK171) hb); have n1_ := Aside0.mk (below_step bh hb); clear BK171 HB; have BK171 := n0_; have HB := n1_; clear n0_ n1_; (try clear hb); (try clear hb2); (try clear hk); (try clear hi)))
         go_roundg k1
         case measure => have := HK1.out; omega
         case rel => exact ⟨(wrap64 (x13_1 + 1)), (by first | rfl | (simp; done) | (simp [*]; done)), H', ⟨by have := HK1.out; omega⟩, ⟨bz BK171⟩, ⟨by exact bh⟩⟩
       ·rw [if_neg c9] at H
        exact absurd H (by simp)
      ·rw [if_neg c8] at H
       exact absurd H (by simp)
     ·rw [if_neg c7] at H
      have c7b0 : decide (x13_1 < ((rd_L1 l0_1 a1).length : Int)) = false := decide_eq_false c7
      clear c7
      obtain rfl := Option.some.inj H
      go_wp2
      go_ret
      exact ⟨by first | rfl | (simp [errW_none, errW_some] <;> rfl) | (simp [*, errW_none, errW_some] <;> rfl), by exact bh⟩
  ·rw [if_neg c4] at H
   exact absurd H (by simp)
 ·rw [if_neg c3] at H
  exact absurd H (by simp)

/-! ### impl_filled: function 66 -/
def impl_filled.l0 : Nat → Int → Int → Int → List (List Int) → List Int → Int → Option (Int × (List (List Int)) × List Int × Int)
 | 0, _, _, _, _, _, _ => none
 | k + 1, x7, x8, x177000, x177001, x177002, x177003 => if x8 < x7 then (if 0 ≤ x8 then (if x8 < (x177002.length : Int) then (if (rd x177002 x8) = (-1) then ((impl_follower.f k x177000 x177001 x177002 x177003 x8).bind fun t179 => (impl_filled.l0 k x7 (wrap64 (x8 + 1)) x177000 x177001 (x177002.set (x8 : Int).toNat t179) x177003)) else (impl_filled.l0 k x7 (wrap64 (x8 + 1)) x177000 x177001 x177002 x177003)) else (none)) else (none)) else (some (x177000, x177001, x177002, x177003))
def impl_filled.f (k : Nat) (a0_0 : Int) (l0_1 : List (List Int)) (l0_2 : List Int) (a0_3 : Int) : Option (Int × (List (List Int)) × List Int × Int) := impl_filled.l0 k (l0_2.length : Int) 0 a0_0 l0_1 l0_2 a0_3
theorem impl_filled.mono_l : ∀ k, (∀ y0 y1 y2 y3 y4 y5, LeO (impl_filled.l0 k y0 y1 y2 y3 y4 y5) (impl_filled.l0 (k + 1) y0 y1 y2 y3 y4 y5))
 | 0 => fun _ _ _ _ _ _ r h => by simp [impl_filled.l0] at h
 | k + 1 => by
  have ih0 := impl_filled.mono_l k
  ·intro y0 y1 y2 y3 y4 y5
   unfold impl_filled.l0
   repeat' first
   | (with_reducible exact ih0 _ _ _ _ _ _)
   | (with_reducible exact impl_follower.mono _ _ _ _ _ _)
   | (with_reducible exact LeO.refl _)
   | (with_reducible exact LeO.none _)
   | (with_reducible refine LeO.ite ?_ ?_)
   | (with_reducible refine LeO.bind ?_ (fun _ => ?_))
   | exact ih0 _ _ _ _ _ _
   | exact impl_follower.mono _ _ _ _ _ _
   | exact LeO.none _
   | refine LeO.ite ?_ ?_
   | refine LeO.bind ?_ (fun _ => ?_)
theorem impl_filled.mono : ∀ a0 a1 a2 a3 k, LeO (impl_filled.f k a0 a1 a2 a3) (impl_filled.f (k + 1) a0 a1 a2 a3) := by
 intro a0 a1 a2 a3 k
 have ih0 := impl_filled.mono_l k
 unfold impl_filled.f
 repeat' first
   | (with_reducible exact ih0 _ _ _ _ _ _)
   | (with_reducible exact impl_follower.mono _ _ _ _ _ _)
   | (with_reducible exact LeO.refl _)
   | (with_reducible exact LeO.none _)
   | (with_reducible refine LeO.ite ?_ ?_)
   | (with_reducible refine LeO.bind ?_ (fun _ => ?_))
   | exact ih0 _ _ _ _ _ _
   | exact impl_follower.mono _ _ _ _ _ _
   | exact LeO.none _
   | refine LeO.ite ?_ ?_
   | refine LeO.bind ?_ (fun _ => ?_)
def impl_filled.T5 : Bool × List (List Nat × List Nat) := (true, [([], []), ([0], [0]), ([], []), ([], []), ([], []), ([3, 4], [3, 4]), ([1, 2, 0, 1, 2, 3, 4, 5], [1, 2]), ([6, 5, 5, 0, 1, 2, 3, 4, 5], [5, 6])])
def impl_filled.B5 : List Nat := [0, 1, 0, 0, 0, 24, 63, 127]
theorem impl_filled.tab5 : rtab .any (opsOf Try.f66 5) = impl_filled.T5 := by kernel_rfl
theorem impl_filled.bits5 : waitsOk impl_filled.T5.2 impl_filled.B5 = true := by kernel_rfl
set_option maxHeartbeats 8000000 in
set_option maxRecDepth 100000 in
theorem impl_filled.calls (k : Nat) (a0_0 : Int) (P0_1_ : Nat → Prop) (A0_1 : Option Addr) (c0_1 : Nat) (l0_1 : List (List Int)) (P0_2_ : Nat → Prop) (u9000_ : Value) (l0_2 : List Int) (a0_3 : Int) (r1 : Int) (r2 : List (List Int)) (r3 : List Int) (r4 : Int) (w0 w : World) (hB : Below w0.heap.size w0 w) (hs0_1 : Kd.V (Kd.slice 3 (Kd.int .i64)) 23 w w0.heap.size (fun k_ => P0_1_ k_ ∧ some k_ ≠ (u9000_ : Value).ownBlock) (.slice A0_1 l0_1.length c0_1) l0_1) (ho0_2 : Kd.R (Kd.int .i64) 3 w w0.heap.size P0_2_ u9000_ l0_2) (h : impl_filled.f k a0_0 l0_1 l0_2 a0_3 = some (r1, r2, r3, r4)) :
  Calls Try.prog 66 #[.agg #[.int .i64 a0_0, .slice A0_1 l0_1.length c0_1, u9000_, .int .i64 a0_3]] w fun e w' => ∃ v1_ v2_ : Value, e = .returned (.agg #[.int .i64 r1, v1_, v2_, .int .i64 r4]) ∧ Kd.V (Kd.slice 3 (Kd.int .i64)) 23 w' w0.heap.size (fun k_ => ((P0_2_ k_ ∨ P0_1_ k_) ∨ w.heap.size ≤ k_) ∧ some k_ ≠ (v2_ : Value).ownBlock) v1_ r2 ∧ Kd.R (Kd.int .i64) 3 w' w0.heap.size (fun k_ => (P0_2_ k_ ∨ w.heap.size ≤ k_)) v2_ r3 ∧ Below w0.heap.size w0 w' ∧ Kept w w' (fun k_ => P0_2_ k_) ∧ v1_ = (.slice A0_1 l0_1.length c0_1 : Value) ∧ r2 = l0_1 := by
 have hu28 := Try.underlying28
 have HO0_1 := Aside0.mk (show Kd.V (Kd.slice 3 (Kd.int .i64)) 23 w w0.heap.size (fun k_ => ((P0_2_ k_ ∨ P0_1_ k_) ∨ w.heap.size ≤ k_) ∧ some k_ ≠ (u9000_ : Value).ownBlock) (.slice A0_1 l0_1.length c0_1) l0_1 from Kd.V_mono hs0_1 (fun k_ hk => ⟨.inl (.inr hk.1), hk.2⟩))
 have HO0_2 := Aside0.mk (show Kd.R (Kd.int .i64) 3 w w0.heap.size (fun k_ => (P0_2_ k_ ∨ w.heap.size ≤ k_)) u9000_ l0_2 from Kd.R_mono ho0_2 (fun k_ hk => (.inl hk)))
 have HK := Aside0.mk (Kept.refl w (fun k_ => P0_2_ k_))
 have HW0 := Aside0.mk hB.size
 have HB := Aside0.mk hB
 clear hB
 have H : (impl_filled.l0 k (l0_2.length : Int) 0 a0_0 l0_1 l0_2 a0_3) = some (r1, r2, r3, r4) := h
 clear h
 have H' := Aside0.mk H
 clear H
 obtain ⟨Ao2, co2, eo2⟩ := Kd.R_slice HO0_2.out
 subst eo2
 go_enter Try.func66, Try.ntmps66
 go_wp2_with (first | ((with_reducible refine gate_dst (N := 1) rfl ?_); refine box_event ?hg (N := 1) ?hd (cs := #[.int .i64 a0_0, .slice A0_1 l0_1.length c0_1, .slice Ao2 l0_2.length co2, .int .i64 a0_3]) (t := 28) ?hr ?_; (case hd => rfl); (case hg => rfl); (case hr => first | (go_simp; done) | (go_simp; rfl)); intro gb176 hg w3 hbox hb; have n0_ := Aside0.mk (Kd.R_below (rz HO0_2) hb); have n1_ := Aside0.mk (Kd.V_below (Kd.V_elderB (vz HO0_1) gb176 (Nat.le_of_eq hg.symm)) hb); have n2_ := Aside0.mk (Kept.below (S := (fun k_ => P0_2_ k_)) (by repeat (first | (with_reducible first | exact HK.out | apply Kept.alloc | apply Kept.drewN | apply Kept.drew) | exact HK.out)) hb); have n3_ := Aside0.mk (below_step bh hb); have n4_ := Aside0.mk (hbox); have n5_ := Aside0.mk ((by rw [hg]; exact (by first | exact HK.out.1 | exact (show Kept w _ (fun k_ => P0_2_ k_) from by repeat (first | (with_reducible first | exact HK.out | apply Kept.alloc | apply Kept.drewN | apply Kept.drew) | exact HK.out)).1) : w.heap.size ≤ gb176)); have n6_ := Aside0.mk ((by rw [hg]; exact (below_size bh) : w0.heap.size ≤ gb176)); clear HO0_2 HO0_1 HK HB; have HO0_2 := n0_; have HO0_1 := n1_; have HK := n2_; have HB := n3_; have BK176 := n4_; have GW176 := n5_; have GE176 := n6_; clear n0_ n1_ n2_ n3_ n4_ n5_ n6_ hb hbox hg) | ((with_reducible refine gate_dst (N := 2) rfl ?_); refine box_event ?hg (N := 2) ?hd (cs := #[.int .i64 0, .slice none 0 0, .slice none 0 0, .int .i64 0]) (t := 28) ?hr ?_; (case hd => rfl); (case hg => rfl); (case hr => first | (go_simp; done) | (go_simp; rfl)); intro gb177 hg w4 hbox hb; have n0_ := Aside0.mk (Kd.R_below (rz HO0_2) hb); have n1_ := Aside0.mk (Kd.V_below (Kd.V_elderB (vz HO0_1) gb177 (Nat.le_of_eq hg.symm)) hb); have n2_ := Aside0.mk (blk_below (bz BK176) hb); have n3_ := Aside0.mk (Kept.below (S := (fun k_ => P0_2_ k_)) (by repeat (first | (with_reducible first | exact HK.out | apply Kept.alloc | apply Kept.drewN | apply Kept.drew | refine Kept.setCell ?_ (.inr GW176.out) _) | exact HK.out)) hb); have n4_ := Aside0.mk (below_step bh hb); have n5_ := Aside0.mk (hbox); have n6_ := Aside0.mk ((by rw [hg]; exact (by first | exact HK.out.1 | exact (show Kept w _ (fun k_ => P0_2_ k_) from by repeat (first | (with_reducible first | exact HK.out | apply Kept.alloc | apply Kept.drewN | apply Kept.drew | refine Kept.setCell ?_ (.inr GW176.out) _) | exact HK.out)).1) : w.heap.size ≤ gb177)); have n7_ := Aside0.mk ((by rw [hg]; exact (below_size bh) : w0.heap.size ≤ gb177)); have n8_ := Aside0.mk ((gn hg (bz BK176))); have n9_ := Aside0.mk ((gm hg (bz BK176))); clear HO0_2 HO0_1 BK176 HK HB; have HO0_2 := n0_; have HO0_1 := n1_; have BK176 := n2_; have HK := n3_; have HB := n4_; have BK177 := n5_; have GW177 := n6_; have GE177 := n7_; have NB176_177 := n8_; have NB177_176 := n9_; clear n0_ n1_ n2_ n3_ n4_ n5_ n6_ n7_ n8_ n9_ hb hbox hg; have hnb5 := NB176_177.out; have hnc5 := NB177_176.out; have hcz6_0 := cz0 BK176; have hcz6_1 := cz1 BK176; have hcz6_2 := cz2 BK176; have hcz6_3 := cz3 BK176; have hfz6_0 := blk_frozen BK176.out 0; have hfz6_1 := blk_frozen BK176.out 1; have hfz6_2 := blk_frozen BK176.out 2; have hfz6_3 := blk_frozen BK176.out 3))
 go_loopg [8] k (fun kq v8 w' => ∃ (x8_1 : Int) (x177002_1 : List Int), v8 = .int .i64 x8_1 ∧ Aside0 (impl_filled.l0 kq (l0_2.length : Int) x8_1 a0_0 l0_1 x177002_1 a0_3 = some (r1, r2, r3, r4)) ∧ Aside0 (kq ≤ k) ∧ Aside0 (Kd.V (Kd.slice 3 (Kd.int .i64)) 23 w' w0.heap.size (fun k_ => ((P0_2_ k_ ∨ P0_1_ k_) ∨ w.heap.size ≤ k_) ∧ some k_ ≠ ((.slice Ao2 l0_2.length co2) : Value).ownBlock ∧ k_ ≠ gb176 ∧ k_ ≠ gb177) (.slice A0_1 l0_1.length c0_1) l0_1) ∧ Aside0 (Kd.R (Kd.int .i64) 3 w' w0.heap.size (fun k_ => (P0_2_ k_ ∨ w.heap.size ≤ k_)) (.slice Ao2 l0_2.length co2) x177002_1) ∧ Aside0 (w'.heap[gb176]? = some (.cells #[.int .i64 a0_0, (.slice A0_1 l0_1.length c0_1), (.slice Ao2 l0_2.length co2), .int .i64 a0_3] 28 (0, 0))) ∧ Aside0 (w'.heap[gb177]? = some (.cells #[.int .i64 0, (.slice none 0 0), (.slice none 0 0), .int .i64 0] 28 (0, 0))) ∧ Aside0 (Kept w w' (fun k_ => P0_2_ k_)) ∧ Aside0 (Below w0.heap.size w0 w'))
 case atStart => exact ⟨(0), (l0_2), (by first | rfl | (simp; done) | (simp [*]; done)), H', ⟨Nat.le_refl _⟩, ⟨mV HO0_1⟩, ⟨rz HO0_2⟩, ⟨bz BK176⟩, ⟨bz BK177⟩, ⟨by repeat (first | (with_reducible first | exact HK.out | apply Kept.alloc | apply Kept.drewN | apply Kept.drew | refine Kept.setCell ?_ (.inr GW176.out) _ | refine Kept.setCell ?_ (.inr GW177.out) _) | exact HK.out)⟩, ⟨by exact bh⟩⟩
 case round =>
  clear H'
  try clear p2
  try clear c5
  try clear c6
  try clear hcz6_0
  try clear hcz6_1
  try clear hcz6_2
  try clear hcz6_3
  try clear hfz6_0
  try clear hfz6_1
  try clear hfz6_2
  try clear hfz6_3
  obtain ⟨x8_1, x177002_1, rfl, HA, HK1, HO_177001, HO_177002, BK176, BK177, HK, HB⟩ := hrel
  have hl177002_1 := (Kd.R_reads' HO_177002.out).1
  rw [hl177002_1] at HO_177002
  (try simp only [hl177002_1])
  (try simp only [hl177002_1] at BK176)
  (try simp only [hl177002_1] at BK177)
  (try simp only [hl177002_1] at HO_177001)
  cases gk with
  | zero => exact absurd HA.out (by simp [impl_filled.l0])
  | succ k1 =>
   have H := HA.out
   clear HA
   simp only [impl_filled.l0] at H
   by_cases c7 : x8_1 < (l0_2.length : Int)
   ·rw [if_pos c7] at H
    have c7b0 : decide (x8_1 < (l0_2.length : Int)) = true := decide_eq_true c7
    (try (have c7z0 := c7b0; simp only [hl177002_1] at c7z0))
    (try (have c7z1 := c7b1; simp only [hl177002_1] at c7z1))
    clear c7
    by_cases c8 : 0 ≤ x8_1
    ·rw [if_pos c8] at H
     have c8b0 : decide (0 ≤ x8_1) = true := decide_eq_true c8
     (try (have c8z0 := c8b0; simp only [hl177002_1] at c8z0))
     (try (have c8z1 := c8b1; simp only [hl177002_1] at c8z1))
     clear c8
     by_cases c9 : x8_1 < (x177002_1.length : Int)
     ·rw [if_pos c9] at H
      have c9b0 : decide (x8_1 < (x177002_1.length : Int)) = true := decide_eq_true c9
      (try (have c9z0 := c9b0; simp only [hl177002_1] at c9z0))
      (try (have c9z1 := c9b1; simp only [hl177002_1] at c9z1))
      clear c9
      by_cases c10 : (rd x177002_1 x8_1) = (-1)
      ·rw [if_pos c10] at H
       have c10b0 : ((rd x177002_1 x8_1) == (-1)) = true := beq_iff_eq.mpr c10
       have c10b1 : ((rd x177002_1 x8_1) != (-1)) = false := bne_eq_false_iff_eq.mpr c10
       (try (have c10z0 := c10b0; simp only [hl177002_1] at c10z0))
       (try (have c10z1 := c10b1; simp only [hl177002_1] at c10z1))
       clear c10
       replace H := Option.bind_eq_some_iff.mp H
       obtain ⟨t179, A110, H⟩ := H
       replace H : (impl_filled.l0 k1 (l0_2.length : Int) (wrap64 (x8_1 + 1)) a0_0 l0_1 (x177002_1.set (x8_1 : Int).toNat t179) a0_3) = some (r1, r2, r3, r4) := H
       have A11 := Aside0.mk A110
       clear A110
       obtain ⟨y180, hy180⟩ : ∃ y_ : List Int, y_ = (x177002_1.set (x8_1 : Int).toNat t179) := ⟨_, rfl⟩
       replace H : (impl_filled.l0 k1 (l0_2.length : Int) (wrap64 (x8_1 + 1)) a0_0 l0_1 y180 a0_3) = some (r1, r2, r3, r4) := by first | (rw [hy180]; with_reducible exact H) | (have H2_ := (Option.bind_some _ _).symm.trans H; rw [hy180]; with_reducible exact H2_) | (have H2_ := (Option.bind_some _ _).symm.trans H; with_reducible exact H2_) | with_reducible exact H | (rw [hy180]; exact H) | exact H
       have Ny180 := Aside0.mk hy180
       clear hy180
       have H' := Aside0.mk H
       clear H
       have p178 : 0 ≤ (x8_1 : Int) := oda
       have q178 : x8_1 < (x177002_1.length : Int) := oda
       obtain ⟨ad178, e178, hx178_0⟩ := Kd.at_int (Kd.R_reads' HO_177002.out).2.2 x8_1 p178 q178
       cases e178
       replace p178 := eq_true p178
       replace q178 := eq_true q178
       try go_wp2
       have n0_ := Aside0.mk (Kd.V_drew HO_177001.out)
       have n1_ := Aside0.mk (Kd.R_drew HO_177002.out)
       have n2_ := Aside0.mk (blk_drew BK176.out)
       have n3_ := Aside0.mk (blk_drew BK177.out)
       have n4_ := Aside0.mk (Kept.drew HK.out)
       have n5_ := Aside0.mk (below_drew1 HB.out)
       clear HO_177001 HO_177002 BK176 BK177 HK HB
       have HO_177001 := n0_
       have HO_177002 := n1_
       have BK176 := n2_
       have BK177 := n3_
       have HK := n4_
       have HB := n5_
       clear n0_ n1_ n2_ n3_ n4_ n5_
       refine start_ (n := 8) (S := fun w' => w'.cell? ⟨gb176, 0, none⟩ = some (.int .i64 a0_0) ∧ w'.cell? ⟨gb176, 1, none⟩ = some (.slice A0_1 l0_1.length c0_1) ∧ w'.cell? ⟨gb176, 2, none⟩ = some (.slice (some ad178) x177002_1.length co2) ∧ w'.cell? ⟨gb176, 3, none⟩ = some (.int .i64 a0_3)) (ds := [7]) #[F,F,F,F,F,F,F,F] kr rfl rfl ⟨cz0 BK176, cz1 BK176, cz2 BK176, cz3 BK176⟩ (fun hHeld => ?_); refine with_tabW impl_filled.tab5 impl_filled.bits5 (fun HT_ HW_ => ?_)
       generalize wr.drew = w13 at HO_177001 HO_177002 BK176 BK177 HK HB hHeld ⊢
       refine pu 0 (some 15) #[T,F,F,F,F,F,F,F] (any_of HT_.out kr) ?_
       refine pu 2 (some 17) #[T,F,T,F,F,F,F,F] (any_of HT_.out kr) ?_
       refine pu 4 (some 19) #[T,F,T,F,T,F,F,F] (any_of HT_.out kr) ?_
       refine tk4 1 (some 16) #[T,T,T,F,T,F,F,F] (take_ofW HT_.out HW_.out kr) ?_
       refine tk4 3 (some 18) #[T,T,T,T,T,F,F,F] (take_ofW HT_.out HW_.out kr) ?_
       refine one_ (i := 5) (N := some 20) #[T,T,T,T,T,T,F,F] rfl rfl (one_of HT_.out kr) (by decide) (fun K hK => ?_)
       refine goes_ Try.func60 kr rfl #[.agg #[.int .i64 a0_0, .slice A0_1 l0_1.length c0_1, .slice (some ad178) x177002_1.length co2, .int .i64 a0_3], .int .i64 x8_1] (by rfl) rfl rfl lm ?_
       with_reducible refine (impl_follower.calls k1 a0_0 _ _ l0_1 _ _ x177002_1 a0_3 x8_1 t179 _ ?side1 ?side2 ?side3 ?side4 A11.out).mono ?_
       (case side1 => repeat (first | exact (Kd.V_reads' HO_177001.out).2.2 | (with_reducible refine Kd.C_alloc ?_ _) | (with_reducible refine Kd.C_drewN ?_ _) | (with_reducible refine Kd.C_drew ?_)))
       (case side2 => exact (Kd.V_reads' HO_177001.out).2.1)
       (case side3 => repeat (first | exact (Kd.R_reads' HO_177002.out).2.2 | (with_reducible refine Kd.C_alloc ?_ _) | (with_reducible refine Kd.C_drewN ?_ _) | (with_reducible refine Kd.C_drew ?_)))
       (case side4 => exact (Kd.R_reads' HO_177002.out).2.1)
       rintro e w14 ⟨rfl, hb⟩
       refine ⟨_, rfl, ?_⟩
       have n0_ := Aside0.mk (Kd.V_below (vz HO_177001) hb)
       have n1_ := Aside0.mk (Kd.R_below (rz HO_177002) hb)
       have n2_ := Aside0.mk (blk_below (bz BK176) hb)
       have n3_ := Aside0.mk (blk_below (bz BK177) hb)
       have n4_ := Aside0.mk (Kept.below (S := (fun k_ => P0_2_ k_)) (by repeat (first | (with_reducible first | exact HK.out | apply Kept.alloc | apply Kept.drewN | apply Kept.drew | refine Kept.setCell ?_ (.inr GW176.out) _ | refine Kept.setCell ?_ (.inr GW177.out) _) | exact HK.out)) hb)
       have n5_ := Aside0.mk (below_step bh hb)
       clear HO_177001 HO_177002 BK176 BK177 HK HB
       have HO_177001 := n0_
       have HO_177002 := n1_
       have BK176 := n2_
       have BK177 := n3_
       have HK := n4_
       have HB := n5_
       clear n0_ n1_ n2_ n3_ n4_ n5_
       (try clear hb)
       (try clear hb2)
       (try clear hk)
       (try clear hi)
       have p12 : 0 ≤ (x8_1 : Int) := oda
       have q12 : (x8_1 : Int) < ((x177002_1.length : Int) : Int) := oda
       obtain ⟨go12, co12, eo12, gb12, gl12, cl12, HG12⟩ := Kd.R_form HO_177002.out (by omega)
       (first | cases eo12 | (injection eo12 with ea_ en_ ec_; (first | subst ea_ | (injection ea_ with ea_; subst ea_)); subst ec_; clear en_))
       have GB12 := Aside0.mk gb12
       have GG12 := Aside0.mk HG12
       clear gb12 gl12 HG12
       have HMgo12 := Aside0.mk (show (P0_2_ go12 ∨ w.heap.size ≤ go12) from (HO_177002.out.1 _ rfl))
       (first | simp only [add_plain] at hx178_0 | skip)
       obtain ⟨hx12_0, hf12_0⟩ := Kd.R_celln 0 HO_177002.out (x8_1 : Int) p12 q12
       replace p12 := eq_true p12
       replace q12 := eq_true q12
       have HP15 := Kd.R_putn HO_177002.out (x8_1 : Int) t179
       rw [← Ny180.out] at HP15
       have HQ15 := Aside0.mk HP15
       clear HP15
       refine hK.out _ _ ⟨cz0 BK176, cz1 BK176, cz2 BK176, cz3 BK176⟩ (fun hHeld => ?_)
       clear hK K
       refine norm_ (a' := ?_) ?_ ?_
       rotate_left
       ·show Act.put _ (some 20) _ = _
        simp only [Act.put, List.setIfInBounds_toArray, List.set_cons_zero, List.set_cons_succ, i64_w, i32_w]
        rfl
       refine pu 6 (some 21) #[T,T,T,T,T,T,T,F] (any_of HT_.out kr) ?_
       refine last_ (i := 7) (N := none) #[T,T,T,T,T,T,T,T] rfl rfl (one_of HT_.out kr) (by decide) (fun K hK => ?_)
       refine skip_ (w1 := ?_) (by rfl) rfl ?_ ?_
       rotate_left
       ·go_simp
        rfl
       refine hK.out _ _ ?_
       clear hK K
       refine done_ (done_of HT_.out kr) ?_
       try go_wp2
       (try simp only [← hl177002_1])
       go_roundg k1
       case measure => have := HK1.out; omega
       case rel => exact ⟨(wrap64 (x8_1 + 1)), (y180), (by first | rfl | (simp; done) | (simp [*]; done)), H', ⟨by have := HK1.out; omega⟩, ⟨by (try simp only [hl177002_1]); (with_reducible repeat (first | apply Kd.V_alloc | apply Kd.V_drewN | apply Kd.V_drew)); exact Kd.V_mono (Kd.V_far (p := ⟨go12, (x8_1 : Int).toNat, none⟩) (Kd.V_mono HO_177001.out (fun k_ hk => (⟨hk, fun e_ => hk.2.1 (by rw [e_]; rfl)⟩ : _ ∧ k_ ≠ go12))) (fun _ hk => hk.2) (.int .i64 t179)) (fun _ hk => ⟨hk.1.1, ⟨hk.1.2.1, ⟨hk.1.2.2.1, hk.1.2.2.2⟩⟩⟩)⟩, ⟨by (try simp only [hl177002_1]); (with_reducible repeat (first | apply Kd.R_alloc | apply Kd.R_drewN | apply Kd.R_drew)); exact HQ15.out⟩, ⟨by (try simp only [hl177002_1]); (with_reducible repeat (first | refine blk_drewN ?_ _ | refine blk_drew ?_ | refine blk_alloc ?_ _)); refine blk_far ?_ (by have h_ := Kd.R_ne HO_177002.out BK176.out (by decide); intro e_; exact h_ (by rw [e_]; rfl)) _; (with_reducible repeat (first | refine blk_drewN ?_ _ | refine blk_drew ?_ | refine blk_alloc ?_ _)); exact BK176.out⟩, ⟨by (try simp only [hl177002_1]); (with_reducible repeat (first | refine blk_drewN ?_ _ | refine blk_drew ?_ | refine blk_alloc ?_ _)); refine blk_far ?_ (by have h_ := Kd.R_ne HO_177002.out BK177.out (by decide); intro e_; exact h_ (by rw [e_]; rfl)) _; (with_reducible repeat (first | refine blk_drewN ?_ _ | refine blk_drew ?_ | refine blk_alloc ?_ _)); exact BK177.out⟩, ⟨by repeat (first | (with_reducible first | exact HK.out | apply Kept.alloc | apply Kept.drewN | apply Kept.drew | refine Kept.setCell ?_ HMgo12.out _ | refine Kept.setCell ?_ (.inr GW176.out) _ | refine Kept.setCell ?_ (.inr GW177.out) _) | exact HK.out)⟩, ⟨by repeat (first | (with_reducible first | exact HB.out | apply below_alloc | apply pw_below_drewN | apply below_drew1 | refine below_set ?_ GB12.out | refine below_set ?_ GE176.out | refine below_set ?_ GE177.out) | exact HB.out)⟩⟩
      ·rw [if_neg c10] at H
       have c10b0 : ((rd x177002_1 x8_1) == (-1)) = false := beq_eq_false_iff_ne.mpr c10
       have c10b1 : ((rd x177002_1 x8_1) != (-1)) = true := bne_iff_ne.mpr c10
       (try (have c10z0 := c10b0; simp only [hl177002_1] at c10z0))
       (try (have c10z1 := c10b1; simp only [hl177002_1] at c10z1))
       have H' := Aside0.mk H
       clear H
       have p178 : 0 ≤ (x8_1 : Int) := oda
       have q178 : x8_1 < (x177002_1.length : Int) := oda
       obtain ⟨ad178, e178, hx178_0⟩ := Kd.at_int (Kd.R_reads' HO_177002.out).2.2 x8_1 p178 q178
       cases e178
       replace p178 := eq_true p178
       replace q178 := eq_true q178
       go_wp2
       (try simp only [← hl177002_1])
       go_roundg k1
       case measure => have := HK1.out; omega
       case rel => exact ⟨(wrap64 (x8_1 + 1)), (x177002_1), (by first | rfl | (simp; done) | (simp [*]; done)), H', ⟨by have := HK1.out; omega⟩, ⟨by (try simp only [hl177002_1]); (with_reducible repeat (first | apply Kd.V_alloc | apply Kd.V_drewN | apply Kd.V_drew)); exact HO_177001.out⟩, ⟨by (try simp only [hl177002_1]); (with_reducible repeat (first | apply Kd.R_alloc | apply Kd.R_drewN | apply Kd.R_drew)); exact HO_177002.out⟩, ⟨by (try simp only [hl177002_1]); (with_reducible repeat (first | refine blk_drewN ?_ _ | refine blk_drew ?_ | refine blk_alloc ?_ _)); exact BK176.out⟩, ⟨by (try simp only [hl177002_1]); (with_reducible repeat (first | refine blk_drewN ?_ _ | refine blk_drew ?_ | refine blk_alloc ?_ _)); exact BK177.out⟩, ⟨by repeat (first | (with_reducible first | exact HK.out | apply Kept.alloc | apply Kept.drewN | apply Kept.drew | refine Kept.setCell ?_ (.inr GW176.out) _ | refine Kept.setCell ?_ (.inr GW177.out) _) | exact HK.out)⟩, ⟨by exact bh⟩⟩
     ·rw [if_neg c9] at H
      exact absurd H (by simp)
    ·rw [if_neg c8] at H
     exact absurd H (by simp)
   ·rw [if_neg c7] at H
    have c7b0 : decide (x8_1 < (l0_2.length : Int)) = false := decide_eq_false c7
    (try (have c7z0 := c7b0; simp only [hl177002_1] at c7z0))
    (try (have c7z1 := c7b1; simp only [hl177002_1] at c7z1))
    clear c7
    simp only [Option.some.injEq, Prod.mk.injEq] at H
    obtain ⟨rfl, rfl, rfl, rfl⟩ := H
    have hnb16 := NB176_177.out
    have hnc16 := NB177_176.out
    have hcz17_0 := cz0 BK176
    have hcz17_1 := cz1 BK176
    have hcz17_2 := cz2 BK176
    have hcz17_3 := cz3 BK176
    have hfz17_0 := blk_frozen BK176.out 0
    have hfz17_1 := blk_frozen BK176.out 1
    have hfz17_2 := blk_frozen BK176.out 2
    have hfz17_3 := blk_frozen BK176.out 3
    have hcz18_0 := cz0 BK177
    have hcz18_1 := cz1 BK177
    have hcz18_2 := cz2 BK177
    have hcz18_3 := cz3 BK177
    have hfz18_0 := blk_frozen BK177.out 0
    have hfz18_1 := blk_frozen BK177.out 1
    have hfz18_2 := blk_frozen BK177.out 2
    have hfz18_3 := blk_frozen BK177.out 3
    go_wp2
    refine bodyPost_ret (results_cell_row rfl _ _ gb177 28 #[.int .i64 a0_0, .slice A0_1 l0_1.length c0_1, .slice Ao2 x177002_1.length co2, .int .i64 a0_3] (0, 0) _ rfl (bp BK177) Try.underlying28 rfl kr) rfl ?_
    exact ⟨_, _, by first | rfl | (simp [errW_none, errW_some] <;> rfl) | (simp [*, errW_none, errW_some] <;> rfl), by (with_reducible repeat (first | apply Kd.V_alloc | apply Kd.V_drewN | apply Kd.V_drew)); exact Kd.V_mono (Kd.V_far (p := ⟨gb177, 3, none⟩) (Kd.V_far (p := ⟨gb177, 2, none⟩) (Kd.V_far (p := ⟨gb177, 1, none⟩) (Kd.V_far (p := ⟨gb177, 0, none⟩) (Kd.V_mono HO_177001.out (fun k_ hk => (⟨hk, hk.2.2.2⟩ : _ ∧ k_ ≠ gb177))) (fun _ hk => hk.2) (.int .i64 a0_0)) (fun _ hk => hk.2) (.slice A0_1 l0_1.length c0_1)) (fun _ hk => hk.2) (.slice Ao2 x177002_1.length co2)) (fun _ hk => hk.2) (.int .i64 a0_3)) (fun _ hk => ⟨hk.1.1, hk.1.2.1⟩), by (with_reducible repeat (first | apply Kd.R_alloc | apply Kd.R_drewN | apply Kd.R_drew)); exact Kd.R_mono (Kd.R_far (p := ⟨gb177, 3, none⟩) (Kd.R_far (p := ⟨gb177, 2, none⟩) (Kd.R_far (p := ⟨gb177, 1, none⟩) (Kd.R_far (p := ⟨gb177, 0, none⟩) (Kd.R_types HO_177002.out BK177.out (by decide)) (fun _ hk => hk.2) (.int .i64 a0_0)) (fun _ hk => hk.2) (.slice A0_1 l0_1.length c0_1)) (fun _ hk => hk.2) (.slice Ao2 x177002_1.length co2)) (fun _ hk => hk.2) (.int .i64 a0_3)) (fun _ hk => hk.1), by repeat (first | (with_reducible first | exact HB.out | apply below_alloc | apply pw_below_drewN | apply below_drew1 | refine below_set ?_ GE176.out | refine below_set ?_ GE177.out) | exact HB.out), by repeat (first | (with_reducible first | exact HK.out | apply Kept.alloc | apply Kept.drewN | apply Kept.drew | refine Kept.setCell ?_ (.inr GW176.out) _ | refine Kept.setCell ?_ (.inr GW177.out) _) | exact HK.out), by first | exact ⟨rfl, rfl⟩ | rfl⟩

/-! ### impl_afterDeath: function 65 -/
def impl_afterDeath.f (k : Nat) (a0_0 : Int) (l0_1 : List (List Int)) (l0_2 : List Int) (a0_3 : Int) (a1 : Int) : Option (Int × (List (List Int)) × List Int × Int) := (impl_copyCourt.f k a0_0 l0_1 l0_2 a0_3).bind fun bt183 => (if 0 ≤ a1 then ((slices_Index_int_int.f k bt183.2.2.1 a1).bind fun t191 => (if t191 ≥ 0 then (if 0 ≤ t191 then (if t191 < (bt183.2.2.1.length : Int) then ((impl_filled.f k bt183.1 bt183.2.1 (bt183.2.2.1.set (t191 : Int).toNat (-1)) (Go.bits .xor .i64 bt183.2.2.2 (shl .i64 1 a1))).bind fun bt193 => (some (bt193.1, bt193.2.1, bt193.2.2.1, bt193.2.2.2))) else (none)) else (none)) else ((impl_filled.f k bt183.1 bt183.2.1 bt183.2.2.1 (Go.bits .xor .i64 bt183.2.2.2 (shl .i64 1 a1))).bind fun bt201 => (some (bt201.1, bt201.2.1, bt201.2.2.1, bt201.2.2.2))))) else (none))
theorem impl_afterDeath.mono : ∀ a0 a1 a2 a3 a4 k, LeO (impl_afterDeath.f k a0 a1 a2 a3 a4) (impl_afterDeath.f (k + 1) a0 a1 a2 a3 a4) := by
 intro a0 a1 a2 a3 a4 k
 unfold impl_afterDeath.f
 repeat' first
   | (with_reducible exact impl_copyCourt.mono _ _ _ _ _)
   | (with_reducible exact impl_filled.mono _ _ _ _ _)
   | (with_reducible exact slices_Index_int_int.mono _ _ _)
   | (with_reducible exact LeO.refl _)
   | (with_reducible exact LeO.none _)
   | (with_reducible refine LeO.ite ?_ ?_)
   | (with_reducible refine LeO.bind ?_ (fun _ => ?_))
   | exact impl_copyCourt.mono _ _ _ _ _
   | exact impl_filled.mono _ _ _ _ _
   | exact slices_Index_int_int.mono _ _ _
   | exact LeO.none _
   | refine LeO.ite ?_ ?_
   | refine LeO.bind ?_ (fun _ => ?_)
set_option maxHeartbeats 8000000 in
set_option maxRecDepth 100000 in
theorem impl_afterDeath.calls (k : Nat) (a0_0 : Int) (A0_1 : Option Addr) (c0_1 : Nat) (l0_1 : List (List Int)) (A0_2 : Option Addr) (c0_2 : Nat) (l0_2 : List Int) (a0_3 : Int) (a1 : Int) (r1 : Int) (r2 : List (List Int)) (r3 : List Int) (r4 : Int) (w : World) (hr0_1 : Kd.C (Kd.slice 3 (Kd.int .i64)) w A0_1 l0_1.length l0_1) (hc0_1 : l0_1.length ≤ c0_1) (hr0_2 : Kd.C (Kd.int .i64) w A0_2 l0_2.length l0_2) (hc0_2 : l0_2.length ≤ c0_2) (h : impl_afterDeath.f k a0_0 l0_1 l0_2 a0_3 a1 = some (r1, r2, r3, r4)) :
  Calls Try.prog 65 #[.agg #[.int .i64 a0_0, .slice A0_1 l0_1.length c0_1, .slice A0_2 l0_2.length c0_2, .int .i64 a0_3], .int .i64 a1] w fun e w' => ∃ v1_ v2_ : Value, e = .returned (.agg #[.int .i64 r1, v1_, v2_, .int .i64 r4]) ∧ Kd.S (Kd.slice 3 (Kd.int .i64)) 23 w' w.heap.size (fun k_ => some k_ ≠ (v2_ : Value).ownBlock) v1_ r2 ∧ Kd.R (Kd.int .i64) 3 w' w.heap.size (fun _ => True) v2_ r3 ∧ Below w.heap.size w w' := by
 have hu28 := Try.underlying28
 have HR0_1 := Aside0.mk hr0_1
 have HC0_1 := Aside0.mk hc0_1
 clear hr0_1 hc0_1
 have HR0_2 := Aside0.mk hr0_2
 have HC0_2 := Aside0.mk hc0_2
 clear hr0_2 hc0_2
 have HB := Aside0.mk (Below.refl w.heap.size w)
 have H : ((impl_copyCourt.f k a0_0 l0_1 l0_2 a0_3).bind fun bt183 => (if 0 ≤ a1 then ((slices_Index_int_int.f k bt183.2.2.1 a1).bind fun t191 => (if t191 ≥ 0 then (if 0 ≤ t191 then (if t191 < (bt183.2.2.1.length : Int) then ((impl_filled.f k bt183.1 bt183.2.1 (bt183.2.2.1.set (t191 : Int).toNat (-1)) (Go.bits .xor .i64 bt183.2.2.2 (shl .i64 1 a1))).bind fun bt193 => (some (bt193.1, bt193.2.1, bt193.2.2.1, bt193.2.2.2))) else (none)) else (none)) else ((impl_filled.f k bt183.1 bt183.2.1 bt183.2.2.1 (Go.bits .xor .i64 bt183.2.2.2 (shl .i64 1 a1))).bind fun bt201 => (some (bt201.1, bt201.2.1, bt201.2.2.1, bt201.2.2.2))))) else (none))) = some (r1, r2, r3, r4) := h
 clear h
 replace H := Option.bind_eq_some_iff.mp H
 obtain ⟨⟨t183, t184, t187, t190⟩, A30, H⟩ := H
 replace H : (if 0 ≤ a1 then ((slices_Index_int_int.f k t187 a1).bind fun t191 => (if t191 ≥ 0 then (if 0 ≤ t191 then (if t191 < (t187.length : Int) then ((impl_filled.f k t183 t184 (t187.set (t191 : Int).toNat (-1)) (Go.bits .xor .i64 t190 (shl .i64 1 a1))).bind fun bt193 => (some (bt193.1, bt193.2.1, bt193.2.2.1, bt193.2.2.2))) else (none)) else (none)) else ((impl_filled.f k t183 t184 t187 (Go.bits .xor .i64 t190 (shl .i64 1 a1))).bind fun bt201 => (some (bt201.1, bt201.2.1, bt201.2.2.1, bt201.2.2.2))))) else (none)) = some (r1, r2, r3, r4) := H
 have A3 := Aside0.mk A30
 clear A30
 by_cases c4 : 0 ≤ a1
 ·rw [if_pos c4] at H
  have c4b0 := eq_true c4
  have c4b1 : decide (0 ≤ a1) = true := decide_eq_true c4
  clear c4
  obtain ⟨ji5, hji5⟩ : ∃ j_ : Int, (shl .i64 1 a1) = j_ := ⟨_, rfl⟩
  replace H : ((slices_Index_int_int.f k t187 a1).bind fun t191 => (if t191 ≥ 0 then (if 0 ≤ t191 then (if t191 < (t187.length : Int) then ((impl_filled.f k t183 t184 (t187.set (t191 : Int).toNat (-1)) (Go.bits .xor .i64 t190 (ji5))).bind fun bt193 => (some (bt193.1, bt193.2.1, bt193.2.2.1, bt193.2.2.2))) else (none)) else (none)) else ((impl_filled.f k t183 t184 t187 (Go.bits .xor .i64 t190 (ji5))).bind fun bt201 => (some (bt201.1, bt201.2.1, bt201.2.2.1, bt201.2.2.2))))) = some (r1, r2, r3, r4) := by first | (rw [hji5] at H; exact H) | (simp only [hji5] at H ⊢; exact H)
  (try rw [hji5] at A3)
  have hji5_ : (IntKind.i64.wrap (1 * 2 ^ min a1.toNat 64)) = ji5 := hji5
  have hji5z : a1 ≤ 64 → (IntKind.i64.wrap (1 * 2 ^ a1.toNat)) = ji5 := shl_small hji5
  have hji5u : (IntKind.i64.wrap (2 ^ min a1.toNat 64)) = ji5 := by have h_ := hji5_; rw [Int.one_mul] at h_; exact h_
  have hji5v : a1 ≤ 64 → (IntKind.i64.wrap (2 ^ a1.toNat)) = ji5 := fun hle_ => by have h_ := hji5z hle_; rw [Int.one_mul] at h_; exact h_
  have hji5y : (wrap64 (1 * 2 ^ min a1.toNat 64)) = ji5 := (i64_w _).symm.trans hji5_
  have hji5x : a1 ≤ 64 → (wrap64 (1 * 2 ^ a1.toNat)) = ji5 := fun h_ => (i64_w _).symm.trans (hji5z h_)
  replace H := Option.bind_eq_some_iff.mp H
  obtain ⟨t191, A60, H⟩ := H
  replace H : (if t191 ≥ 0 then (if 0 ≤ t191 then (if t191 < (t187.length : Int) then ((impl_filled.f k t183 t184 (t187.set (t191 : Int).toNat (-1)) (Go.bits .xor .i64 t190 (ji5))).bind fun bt193 => (some (bt193.1, bt193.2.1, bt193.2.2.1, bt193.2.2.2))) else (none)) else (none)) else ((impl_filled.f k t183 t184 t187 (Go.bits .xor .i64 t190 (ji5))).bind fun bt201 => (some (bt201.1, bt201.2.1, bt201.2.2.1, bt201.2.2.2)))) = some (r1, r2, r3, r4) := H
  have A6 := Aside0.mk A60
  clear A60
  by_cases c7 : t191 ≥ 0
  ·rw [if_pos c7] at H
   have c7b0 : decide (0 ≤ t191) = true := decide_eq_true c7
   clear c7
   by_cases c8 : 0 ≤ t191
   ·rw [if_pos c8] at H
    have c8b0 : decide (0 ≤ t191) = true := decide_eq_true c8
    clear c8
    by_cases c9 : t191 < (t187.length : Int)
    ·rw [if_pos c9] at H
     have c9b0 : decide (t191 < (t187.length : Int)) = true := decide_eq_true c9
     clear c9
     obtain ⟨y192, hy192⟩ : ∃ y_ : List Int, y_ = (t187.set (t191 : Int).toNat (-1)) := ⟨_, rfl⟩
     replace H : ((impl_filled.f k t183 t184 y192 (Go.bits .xor .i64 t190 (ji5))).bind fun bt193 => (some (bt193.1, bt193.2.1, bt193.2.2.1, bt193.2.2.2))) = some (r1, r2, r3, r4) := by first | (rw [hy192]; with_reducible exact H) | (have H2_ := (Option.bind_some _ _).symm.trans H; rw [hy192]; with_reducible exact H2_) | (have H2_ := (Option.bind_some _ _).symm.trans H; with_reducible exact H2_) | with_reducible exact H | (rw [hy192]; exact H) | exact H
     have Ny192 := Aside0.mk hy192
     clear hy192
     replace H := Option.bind_eq_some_iff.mp H
     obtain ⟨⟨t193, t194, t197, t200⟩, A110, H⟩ := H
     replace H : (some (t193, t194, t197, t200)) = some (r1, r2, r3, r4) := H
     have A11 := Aside0.mk A110
     clear A110
     simp only [Option.some.injEq, Prod.mk.injEq] at H
     obtain ⟨rfl, rfl, rfl, rfl⟩ := H
     go_enter Try.func65, Try.ntmps65
     try go_wp2_with (first | ((with_reducible refine gate_dst (N := 2) rfl ?_); refine box_event ?hg (N := 2) ?hd (cs := #[.int .i64 a0_0, .slice A0_1 l0_1.length c0_1, .slice A0_2 l0_2.length c0_2, .int .i64 a0_3]) (t := 28) ?hr ?_; (case hd => rfl); (case hg => rfl); (case hr => first | (go_simp; done) | (go_simp; rfl)); intro gb181 hg w12 hbox hb; have n0_ := Aside0.mk (below_step bh hb); have n1_ := Aside0.mk (hbox); have n2_ := Aside0.mk ((gs (W0 := w) hg bh)); have n3_ := Aside0.mk ((gs (W0 := w) hg bh)); clear HB; have HB := n0_; have BK181 := n1_; have GW181 := n2_; have GE181 := n3_; clear n0_ n1_ n2_ n3_ hb hbox hg) | ((with_reducible refine gate_dst (N := 4) rfl ?_); refine box_event ?hg (N := 4) ?hd (cs := #[.int .i64 0, .slice none 0 0, .slice none 0 0, .int .i64 0]) (t := 28) ?hr ?_; (case hd => rfl); (case hg => rfl); (case hr => first | (go_simp; done) | (go_simp; rfl)); intro gb182 hg w13 hbox hb; have n0_ := Aside0.mk (blk_below (bz BK181) hb); have n1_ := Aside0.mk (below_step bh hb); have n2_ := Aside0.mk (hbox); have n3_ := Aside0.mk ((gs (W0 := w) hg bh)); have n4_ := Aside0.mk ((gs (W0 := w) hg bh)); have n5_ := Aside0.mk ((gn hg (bz BK181))); have n6_ := Aside0.mk ((gm hg (bz BK181))); clear BK181 HB; have BK181 := n0_; have HB := n1_; have BK182 := n2_; have GW182 := n3_; have GE182 := n4_; have NB181_182 := n5_; have NB182_181 := n6_; clear n0_ n1_ n2_ n3_ n4_ n5_ n6_ hb hbox hg; have hnb14 := NB181_182.out; have hnc14 := NB182_181.out; have hcz15_0 := cz0 BK181; have hcz15_1 := cz1 BK181; have hcz15_2 := cz2 BK181; have hcz15_3 := cz3 BK181; have hfz15_0 := blk_frozen BK181.out 0; have hfz15_1 := blk_frozen BK181.out 1; have hfz15_2 := blk_frozen BK181.out 2; have hfz15_3 := blk_frozen BK181.out 3) | ((with_reducible refine gate_callee (f := 63) rfl ?_); refine goesL_ (some 7) rfl rfl Try.func63 kr rfl #[.agg #[.int .i64 a0_0, .slice A0_1 l0_1.length c0_1, .slice A0_2 l0_2.length c0_2, .int .i64 a0_3]] rfl lm ?_; (with_reducible refine (impl_copyCourt.calls k a0_0 _ _ l0_1 _ _ l0_2 a0_3 t183 t184 t187 t190 _ ?side1 ?side2 ?side3 ?side4 A3.out).mono ?_); (case side1 => repeat (first | exact (Kd.C_below HR0_1.out HB.out) | (with_reducible refine Kd.C_alloc ?_ _) | (with_reducible refine Kd.C_drewN ?_ _) | (with_reducible refine Kd.C_drew ?_))); (case side2 => exact HC0_1.out); (case side3 => repeat (first | exact (Kd.C_below HR0_2.out HB.out) | (with_reducible refine Kd.C_alloc ?_ _) | (with_reducible refine Kd.C_drewN ?_ _) | (with_reducible refine Kd.C_drew ?_))); (case side4 => exact HC0_2.out); rintro e w16 ⟨v185, v188, rfl, ho0, ho1, hb⟩; refine ⟨_, rfl, ?_⟩; have n0_ := Aside0.mk (Kd.S_lower (Kd.S_newM (M := fun k_ => (w.heap.size ≤ k_)) ho0 (below_size bh) (fun k_ h_ => h_)) (below_size bh)); have n1_ := Aside0.mk (Kd.R_lower (Kd.R_newM (M := fun k_ => (w.heap.size ≤ k_)) ho1 (below_size bh) (fun k_ h_ => h_)) (below_size bh)); have n2_ := Aside0.mk (blk_below (bz BK181) hb); have n3_ := Aside0.mk (blk_below (bz BK182) hb); have n4_ := Aside0.mk (below_step bh hb); clear BK181 BK182 HB; have HO186 := n0_; have HO189 := n1_; have BK181 := n2_; have BK182 := n3_; have HB := n4_; clear n0_ n1_ n2_ n3_ n4_; (try clear hb); (try clear hb2); (try clear hk); (try clear hi); (try clear ho0); (try clear ho1); have hcz17_0 := cz0 BK181; have hcz17_1 := cz1 BK181; have hcz17_2 := cz2 BK181; have hcz17_3 := cz3 BK181; have hfz17_0 := blk_frozen BK181.out 0; have hfz17_1 := blk_frozen BK181.out 1; have hfz17_2 := blk_frozen BK181.out 2; have hfz17_3 := blk_frozen BK181.out 3; obtain ⟨Ao18, co18, eo18⟩ := Kd.S_slice HO186.out; subst eo18; obtain ⟨Ao19, co19, eo19⟩ := Kd.R_slice HO189.out; subst eo19))
     generalize hW_ : ((((w16.setCell ⟨gb181, 0, none⟩ (.int .i64 t183)).setCell ⟨gb181, 1, none⟩ (.slice Ao18 t184.length co18)).setCell ⟨gb181, 2, none⟩ (.slice Ao19 t187.length co19)).setCell ⟨gb181, 3, none⟩ (.int .i64 t190)) = w20
     have n0_ : Aside0 (Kd.S (Kd.slice 3 (Kd.int .i64)) 23 w20 w.heap.size (fun k_ => (w.heap.size ≤ k_) ∧ some k_ ≠ (.slice Ao19 t187.length co19 : Value).ownBlock) (.slice Ao18 t184.length co18) t184) := ⟨by subst hW_; (with_reducible repeat (first | apply Kd.S_alloc | apply Kd.S_drewN | apply Kd.S_drew)); exact Kd.S_mono (Kd.S_far (p := ⟨gb181, 3, none⟩) (Kd.S_far (p := ⟨gb181, 2, none⟩) (Kd.S_far (p := ⟨gb181, 1, none⟩) (Kd.S_far (p := ⟨gb181, 0, none⟩) (Kd.S_types HO186.out BK181.out (by decide)) (fun _ hk => hk.2) (.int .i64 t183)) (fun _ hk => hk.2) (.slice Ao18 t184.length co18)) (fun _ hk => hk.2) (.slice Ao19 t187.length co19)) (fun _ hk => hk.2) (.int .i64 t190)) (fun _ hk => ⟨hk.1.1, hk.1.2⟩)⟩
     have n1_ : Aside0 (Kd.R (Kd.int .i64) 3 w20 w.heap.size (fun k_ => (w.heap.size ≤ k_)) (.slice Ao19 t187.length co19) t187) := ⟨by subst hW_; (with_reducible repeat (first | apply Kd.R_alloc | apply Kd.R_drewN | apply Kd.R_drew)); exact Kd.R_mono (Kd.R_far (p := ⟨gb181, 3, none⟩) (Kd.R_far (p := ⟨gb181, 2, none⟩) (Kd.R_far (p := ⟨gb181, 1, none⟩) (Kd.R_far (p := ⟨gb181, 0, none⟩) (Kd.R_types HO189.out BK181.out (by decide)) (fun _ hk => hk.2) (.int .i64 t183)) (fun _ hk => hk.2) (.slice Ao18 t184.length co18)) (fun _ hk => hk.2) (.slice Ao19 t187.length co19)) (fun _ hk => hk.2) (.int .i64 t190)) (fun _ hk => hk.1.1)⟩
     have n2_ : Aside0 (w20.heap[gb181]? = some (.cells #[.int .i64 t183, .slice Ao18 t184.length co18, .slice Ao19 t187.length co19, .int .i64 t190] 28 (0, 0))) := ⟨by subst hW_; (with_reducible repeat (first | refine blk_drewN ?_ _ | refine blk_drew ?_ | refine blk_alloc ?_ _)); refine blk_put (cs := #[.int .i64 t183, .slice Ao18 t184.length co18, .slice Ao19 t187.length co19, .int .i64 a0_3]) ?_ 3 _ rfl; (with_reducible repeat (first | refine blk_drewN ?_ _ | refine blk_drew ?_ | refine blk_alloc ?_ _)); refine blk_put (cs := #[.int .i64 t183, .slice Ao18 t184.length co18, .slice A0_2 l0_2.length c0_2, .int .i64 a0_3]) ?_ 2 _ rfl; (with_reducible repeat (first | refine blk_drewN ?_ _ | refine blk_drew ?_ | refine blk_alloc ?_ _)); refine blk_put (cs := #[.int .i64 t183, .slice A0_1 l0_1.length c0_1, .slice A0_2 l0_2.length c0_2, .int .i64 a0_3]) ?_ 1 _ rfl; (with_reducible repeat (first | refine blk_drewN ?_ _ | refine blk_drew ?_ | refine blk_alloc ?_ _)); refine blk_put (cs := #[.int .i64 a0_0, .slice A0_1 l0_1.length c0_1, .slice A0_2 l0_2.length c0_2, .int .i64 a0_3]) ?_ 0 _ rfl; (with_reducible repeat (first | refine blk_drewN ?_ _ | refine blk_drew ?_ | refine blk_alloc ?_ _)); exact BK181.out⟩
     have n3_ : Aside0 (w20.heap[gb182]? = some (.cells #[.int .i64 0, .slice none 0 0, .slice none 0 0, .int .i64 0] 28 (0, 0))) := ⟨by subst hW_; (with_reducible repeat (first | refine blk_drewN ?_ _ | refine blk_drew ?_ | refine blk_alloc ?_ _)); refine blk_far ?_ NB182_181.out _; (with_reducible repeat (first | refine blk_drewN ?_ _ | refine blk_drew ?_ | refine blk_alloc ?_ _)); refine blk_far ?_ NB182_181.out _; (with_reducible repeat (first | refine blk_drewN ?_ _ | refine blk_drew ?_ | refine blk_alloc ?_ _)); refine blk_far ?_ NB182_181.out _; (with_reducible repeat (first | refine blk_drewN ?_ _ | refine blk_drew ?_ | refine blk_alloc ?_ _)); refine blk_far ?_ NB182_181.out _; (with_reducible repeat (first | refine blk_drewN ?_ _ | refine blk_drew ?_ | refine blk_alloc ?_ _)); exact BK182.out⟩
     have n4_ : Aside0 (Below w.heap.size w w20) := ⟨by subst hW_; exact bh⟩
     clear hW_
     (try clear HO186)
     (try clear HO189)
     (try clear BK181)
     (try clear BK182)
     (try clear HB)
     have HO186 := n0_
     have HO189 := n1_
     have BK181 := n2_
     have BK182 := n3_
     have HB := n4_
     clear n0_ n1_ n2_ n3_ n4_
     have n0_ := Aside0.mk (Kd.S_drew HO186.out)
     have n1_ := Aside0.mk (Kd.R_drew HO189.out)
     have n2_ := Aside0.mk (blk_drew BK181.out)
     have n3_ := Aside0.mk (blk_drew BK182.out)
     have n4_ := Aside0.mk (below_drew1 HB.out)
     clear HO186 HO189 BK181 BK182 HB
     have HO186 := n0_
     have HO189 := n1_
     have BK181 := n2_
     have BK182 := n3_
     have HB := n4_
     clear n0_ n1_ n2_ n3_ n4_
     refine start_ (n := 7) (S := fun w' => w'.cell? ⟨gb181, 0, none⟩ = some (.int .i64 t183) ∧ w'.cell? ⟨gb181, 1, none⟩ = some (.slice Ao18 t184.length co18) ∧ w'.cell? ⟨gb181, 2, none⟩ = some (.slice Ao19 t187.length co19) ∧ w'.cell? ⟨gb181, 3, none⟩ = some (.int .i64 t190)) (ds := [6]) #[F,F,F,F,F,F,F] kr rfl rfl ⟨cz0 BK181, cz1 BK181, cz2 BK181, cz3 BK181⟩ (fun hHeld => ?_)
     generalize w20.drew = w21 at HO186 HO189 BK181 BK182 HB hHeld ⊢
     refine pu 0 (some 8) #[T,F,F,F,F,F,F] kr ?_
     refine pu 2 (some 10) #[T,F,T,F,F,F,F] kr ?_
     refine pu 3 (some 11) #[T,F,T,T,F,F,F] kr ?_
     refine tk4 1 (some 9) #[T,T,T,T,F,F,F] kr ?_
     refine pu 4 (some 12) #[T,T,T,T,T,F,F] kr ?_
     refine pu 5 (some 13) #[T,T,T,T,T,T,F] kr ?_
     refine last_ (i := 6) (N := none) #[T,T,T,T,T,T,T] rfl rfl kr (by decide) (fun K hK => ?_)
     have hs22 := cz3 BK181
     have hfs22 := blk_frozen BK181.out 3
     have hns22_1 := NB182_181.out
     have hms22_1 := NB181_182.out
     refine skip_ (w1 := ?_) (by rfl) rfl ?_ ?_
     rotate_left
     ·go_simp
      rfl
     refine hK.out _ _ ?_
     clear hK K
     refine done_ kr ?_
     generalize hW_ : (w21.setCell ⟨gb181, 3, none⟩ (.int .i64 (Go.bits .xor .i64 t190 (ji5)))) = w23
     have n0_ : Aside0 (Kd.S (Kd.slice 3 (Kd.int .i64)) 23 w23 w.heap.size (fun k_ => (w.heap.size ≤ k_) ∧ some k_ ≠ (.slice Ao19 t187.length co19 : Value).ownBlock) (.slice Ao18 t184.length co18) t184) := ⟨by subst hW_; (with_reducible repeat (first | apply Kd.S_alloc | apply Kd.S_drewN | apply Kd.S_drew)); exact Kd.S_mono (Kd.S_far (p := ⟨gb181, 3, none⟩) (Kd.S_types HO186.out BK181.out (by decide)) (fun _ hk => hk.2) (.int .i64 (Go.bits .xor .i64 t190 (ji5)))) (fun _ hk => ⟨hk.1.1, hk.1.2⟩)⟩
     have n1_ : Aside0 (Kd.R (Kd.int .i64) 3 w23 w.heap.size (fun k_ => (w.heap.size ≤ k_)) (.slice Ao19 t187.length co19) t187) := ⟨by subst hW_; (with_reducible repeat (first | apply Kd.R_alloc | apply Kd.R_drewN | apply Kd.R_drew)); exact Kd.R_mono (Kd.R_far (p := ⟨gb181, 3, none⟩) (Kd.R_types HO189.out BK181.out (by decide)) (fun _ hk => hk.2) (.int .i64 (Go.bits .xor .i64 t190 (ji5)))) (fun _ hk => hk.1)⟩
     have n2_ : Aside0 (w23.heap[gb181]? = some (.cells #[.int .i64 t183, .slice Ao18 t184.length co18, .slice Ao19 t187.length co19, .int .i64 (Go.bits .xor .i64 t190 (ji5))] 28 (0, 0))) := ⟨by subst hW_; (with_reducible repeat (first | refine blk_drewN ?_ _ | refine blk_drew ?_ | refine blk_alloc ?_ _)); refine blk_put (cs := #[.int .i64 t183, .slice Ao18 t184.length co18, .slice Ao19 t187.length co19, .int .i64 t190]) ?_ 3 _ rfl; (with_reducible repeat (first | refine blk_drewN ?_ _ | refine blk_drew ?_ | refine blk_alloc ?_ _)); exact BK181.out⟩
     have n3_ : Aside0 (w23.heap[gb182]? = some (.cells #[.int .i64 0, .slice none 0 0, .slice none 0 0, .int .i64 0] 28 (0, 0))) := ⟨by subst hW_; (with_reducible repeat (first | refine blk_drewN ?_ _ | refine blk_drew ?_ | refine blk_alloc ?_ _)); refine blk_far ?_ NB182_181.out _; (with_reducible repeat (first | refine blk_drewN ?_ _ | refine blk_drew ?_ | refine blk_alloc ?_ _)); exact BK182.out⟩
     have n4_ : Aside0 (Below w.heap.size w w23) := ⟨by subst hW_; exact bh⟩
     clear hW_
     (try clear HO186)
     (try clear HO189)
     (try clear BK181)
     (try clear BK182)
     (try clear HB)
     have HO186 := n0_
     have HO189 := n1_
     have BK181 := n2_
     have BK182 := n3_
     have HB := n4_
     clear n0_ n1_ n2_ n3_ n4_
     have hcz24_0 := cz0 BK181
     have hcz24_1 := cz1 BK181
     have hcz24_2 := cz2 BK181
     have hcz24_3 : w23.cell? ⟨gb181, 3, none⟩ = some (.int .i64 (Go.bits .xor .i64 t190 (ji5))) := (blk_cell BK181.out 3).trans rfl
     have hfz24_0 := blk_frozen BK181.out 0
     have hfz24_1 := blk_frozen BK181.out 1
     have hfz24_2 := blk_frozen BK181.out 2
     have hfz24_3 := blk_frozen BK181.out 3
     try go_wp2_with (first | ((with_reducible refine gate_callee (f := 73) rfl ?_); refine goesL_ (some 17) rfl rfl Try.func73 kr rfl #[.slice Ao19 t187.length co19, .int .i64 a1] rfl lm ?_; (with_reducible refine (slices_Index_int_int.calls k _ _ t187 a1 t191 _ ?side1 ?side2 A6.out).mono ?_); (case side1 => repeat (first | exact (Kd.R_reads' HO189.out).2.2 | (with_reducible refine Kd.C_alloc ?_ _) | (with_reducible refine Kd.C_drewN ?_ _) | (with_reducible refine Kd.C_drew ?_))); (case side2 => exact (Kd.R_reads' HO189.out).2.1); rintro e w' ⟨rfl, ⟨nd, rfl⟩⟩; refine ⟨_, rfl, ?_⟩; (try (rw [drewN_self w23]; generalize hq_ : World.drewN w23 _ = w23; have n0_ : Aside0 (Kd.S (Kd.slice 3 (Kd.int .i64)) 23 w23 w.heap.size (fun k_ => (w.heap.size ≤ k_) ∧ some k_ ≠ (.slice Ao19 t187.length co19 : Value).ownBlock) (.slice Ao18 t184.length co18) t184) := ⟨by rw [← hq_]; exact (sz HO186)⟩; have n1_ : Aside0 (Kd.R (Kd.int .i64) 3 w23 w.heap.size (fun k_ => (w.heap.size ≤ k_)) (.slice Ao19 t187.length co19) t187) := ⟨by rw [← hq_]; exact (rz HO189)⟩; have n2_ : Aside0 (w23.heap[gb181]? = some (.cells #[.int .i64 t183, .slice Ao18 t184.length co18, .slice Ao19 t187.length co19, .int .i64 (Go.bits .xor .i64 t190 (ji5))] 28 (0, 0))) := ⟨by rw [← hq_]; exact (bz BK181)⟩; have n3_ : Aside0 (w23.heap[gb182]? = some (.cells #[.int .i64 0, .slice none 0 0, .slice none 0 0, .int .i64 0] 28 (0, 0))) := ⟨by rw [← hq_]; exact (bz BK182)⟩; have n4_ : Aside0 (Below w.heap.size w w23) := ⟨by rw [← hq_]; exact bh⟩; clear HO186 HO189 BK181 BK182 HB hq_; have HO186 := n0_; have HO189 := n1_; have BK181 := n2_; have BK182 := n3_; have HB := n4_; clear n0_ n1_ n2_ n3_ n4_)); (try (have hcz24_0 := cz0 BK181; have hcz24_1 := cz1 BK181; have hcz24_2 := cz2 BK181; have hcz24_3 : w23.cell? ⟨gb181, 3, none⟩ = some (.int .i64 (Go.bits .xor .i64 t190 (ji5))) := (blk_cell BK181.out 3).trans rfl; have hfz24_0 := blk_frozen BK181.out 0; have hfz24_1 := blk_frozen BK181.out 1; have hfz24_2 := blk_frozen BK181.out 2; have hfz24_3 := blk_frozen BK181.out 3)); have p10 : 0 ≤ (t191 : Int) := oda; have q10 : (t191 : Int) < ((t187.length : Int) : Int) := oda; obtain ⟨go10, co10, eo10, gb10, gl10, cl10, HG10⟩ := Kd.R_form HO189.out (by omega); (first | cases eo10 | (injection eo10 with ea_ en_ ec_; (first | subst ea_ | (injection ea_ with ea_; subst ea_)); subst ec_; clear en_)); have GB10 := Aside0.mk gb10; have GG10 := Aside0.mk HG10; clear gb10 gl10 HG10; obtain ⟨hx10_0, hf10_0⟩ := Kd.R_celln 0 HO189.out (t191 : Int) p10 q10; replace p10 := eq_true p10; replace q10 := eq_true q10; obtain ⟨hy25_, hz25_⟩ := Kd.R_celln 0 HO189.out (t191 : Int) oda oda; have HP25 := Kd.R_putg HO189.out (t191 : Int) (-1)) | ((with_reducible refine gate_store (t := 3) (p := 23) rfl ?_); refine store_event (t := 3) (p := 23) (v := ?vo_w26) (w1 := (w23.setCell ⟨go10, (t191 : Int).toNat, none⟩ (.int .i64 (-1)))) ?hg ?ho ?hn ?hr ?_; (case ho => rfl); (case hg => rfl); (case hn => rfl); (case hr => first | (go_simp; done) | (go_simp; rfl)); intro w26 hw; have hg : w23.grownBy w26 (some go10) := (by rw [hw]; exact HP25.2); have hp_ : Kd.R (Kd.int .i64) 3 w26 w.heap.size (fun k_ => (w.heap.size ≤ k_)) (.slice (some ⟨go10, 0, none⟩) t187.length co19) y192 := (by rw [hw, Ny192.out]; exact HP25.1); clear HP25; have n0_ := Aside0.mk (blk_grown (bz BK181) hg (Kd.R_ne HO189.out BK181.out (by decide))); have n1_ := Aside0.mk (blk_grown (bz BK182) hg (Kd.R_ne HO189.out BK182.out (by decide))); have n2_ := Aside0.mk (Kd.S_after (v := (.slice (some ⟨go10, 0, none⟩) t187.length co19)) (v1 := (.slice (some ⟨go10, 0, none⟩) t187.length co19)) (ok := (fun k_ => (w.heap.size ≤ k_))) (sz HO186) hg (.inl rfl)); have n3_ := Aside0.mk (hp_); have n4_ := Aside0.mk ((by rw [hw]; exact below_set (HB.out) GB10.out : Below w.heap.size w w26)); clear BK181 BK182 HO186 HO189 HB; have BK181 := n0_; have BK182 := n1_; have HO186 := n2_; have HO189 := n3_; have HB := n4_; clear n0_ n1_ n2_ n3_ n4_ hg hw hp_; have hcz27_0 := cz0 BK181; have hcz27_1 := cz1 BK181; have hcz27_2 := cz2 BK181; have hcz27_3 : w26.cell? ⟨gb181, 3, none⟩ = some (.int .i64 (Go.bits .xor .i64 t190 (ji5))) := (blk_cell BK181.out 3).trans rfl; have hfz27_0 := blk_frozen BK181.out 0; have hfz27_1 := blk_frozen BK181.out 1; have hfz27_2 := blk_frozen BK181.out 2; have hfz27_3 := blk_frozen BK181.out 3) | ((with_reducible refine gate_callee (f := 66) rfl ?_); refine goesL_ (some 25) rfl rfl Try.func66 kr rfl #[.agg #[.int .i64 t183, .slice Ao18 t184.length co18, .slice (some ⟨go10, 0, none⟩) t187.length co19, .int .i64 (Go.bits .xor .i64 t190 (ji5))]] rfl (by (try simp only [List.map_toArray, List.map_cons, List.map_nil]); first | done | (simp only [hji5]; rfl) | rfl | (simp only [List.length_drop, List.length_take]; rfl)) ?_; (with_reducible refine (impl_filled.calls k t183 (fun k_ => ((((w.heap.size ≤ k_) ∧ some k_ ≠ (.slice (some ⟨go10, 0, none⟩) t187.length co19 : Value).ownBlock) ∧ k_ ≠ gb181) ∧ k_ ≠ gb182)) _ _ t184 (fun k_ => some k_ = (.slice (some ⟨go10, 0, none⟩) t187.length co19 : Value).ownBlock) (.slice (some ⟨go10, 0, none⟩) t187.length co19) y192 (Go.bits .xor .i64 t190 (ji5)) t193 t194 t197 t200 w _ ?side1 ?side2 ?side3 A11.out).mono ?_); (case side1 => repeat (first | (with_reducible first | exact HB.out | apply below_alloc | apply pw_below_drewN | apply below_drew1 | refine below_set ?_ GE181.out | refine below_set ?_ GE182.out) | exact HB.out)); (case side2 => exact Kd.V_mono (Kd.S_V (Kd.S_types (Kd.S_types (HO186.out) BK181.out (by decide)) BK182.out (by decide))) (fun k_ hk_ => ⟨hk_, hk_.1.1.2⟩)); (case side3 => exact Kd.R_tight rfl HO189.out); rintro e w28 ⟨v195, v198, rfl, ho0, ho1, hb, hkp, hv_, hr_⟩; refine ⟨_, rfl, ?_⟩; have n0_ := Aside0.mk (blk_kept (bz BK181) hkp (fun hs_ => (fun e_ => (Kd.R_ne HO189.out BK181.out (by decide)) e_) hs_)); have n1_ := Aside0.mk (blk_kept (bz BK182) hkp (fun hs_ => (fun e_ => (Kd.R_ne HO189.out BK182.out (by decide)) e_) hs_)); have n2_ := Aside0.mk (Kd.S_mono (ok' := fun k_ => (w.heap.size ≤ k_) ∧ some k_ ≠ (v198 : Value).ownBlock) (Kd.S_keptB (HO186.out) hkp (fun k_ hk_ hs_ => (hk_.2) hs_)) (fun k_ hk_ => ⟨hk_.1.1, fun e_ => Or.elim (ho1.1 k_ e_.symm) (fun hs_ => hk_.2.1 hs_) (fun hn_ => Nat.not_le.2 hk_.2.2 hn_)⟩)); have n3_ := Aside0.mk (S_same n2_.out hv_ hr_); have n4_ := Aside0.mk (Kd.R_mono (ok' := fun k_ => (w.heap.size ≤ k_)) ho1 (fun k_ hk_ => Or.elim hk_ (fun hs_ => (HO189.out.1 k_ (hs_).symm)) (fun hn_ => (Nat.le_trans (below_size bh) hn_)))); have n5_ := Aside0.mk (hb); clear BK181 BK182 HO186 HB HO189; have BK181 := n0_; have BK182 := n1_; have HO186 := n2_; have HO196 := n3_; have HO199 := n4_; have HB := n5_; clear n0_ n1_ n2_ n3_ n4_ n5_; (try clear hb); (try clear hkp); (try clear hv_); (try clear hr_); (try clear ho0); (try clear ho1); have hcz29_0 := cz0 BK182; have hcz29_1 := cz1 BK182; have hcz29_2 := cz2 BK182; have hcz29_3 := cz3 BK182; have hfz29_0 := blk_frozen BK182.out 0; have hfz29_1 := blk_frozen BK182.out 1; have hfz29_2 := blk_frozen BK182.out 2; have hfz29_3 := blk_frozen BK182.out 3; obtain ⟨Ao30, co30, eo30⟩ := Kd.S_slice HO196.out; subst eo30; obtain ⟨Ao31, co31, eo31⟩ := Kd.R_slice HO199.out; subst eo31))
     refine bodyPost_ret (results_cell_row rfl _ _ gb182 28 #[.int .i64 t193, .slice Ao30 t194.length co30, .slice Ao31 t197.length co31, .int .i64 t200] (0, 0) _ rfl (bp BK182) Try.underlying28 rfl kr) rfl ?_
     exact ⟨_, _, by first | rfl | (simp [errW_none, errW_some] <;> rfl) | (simp only [← hji5]; first | rfl | (simp [errW_none, errW_some] <;> rfl)) | (simp [*, errW_none, errW_some] <;> rfl), by (with_reducible repeat (first | apply Kd.S_alloc | apply Kd.S_drewN | apply Kd.S_drew)); exact Kd.S_mono (Kd.S_far (p := ⟨gb182, 3, none⟩) (Kd.S_far (p := ⟨gb182, 2, none⟩) (Kd.S_far (p := ⟨gb182, 1, none⟩) (Kd.S_far (p := ⟨gb182, 0, none⟩) (Kd.S_types HO196.out BK182.out (by decide)) (fun _ hk => hk.2) (.int .i64 t193)) (fun _ hk => hk.2) (.slice Ao30 t194.length co30)) (fun _ hk => hk.2) (.slice Ao31 t197.length co31)) (fun _ hk => hk.2) (.int .i64 t200)) (fun _ hk => hk.1.2), by (with_reducible repeat (first | apply Kd.R_alloc | apply Kd.R_drewN | apply Kd.R_drew)); exact Kd.R_mono (Kd.R_far (p := ⟨gb182, 3, none⟩) (Kd.R_far (p := ⟨gb182, 2, none⟩) (Kd.R_far (p := ⟨gb182, 1, none⟩) (Kd.R_far (p := ⟨gb182, 0, none⟩) (Kd.R_types HO199.out BK182.out (by decide)) (fun _ hk => hk.2) (.int .i64 t193)) (fun _ hk => hk.2) (.slice Ao30 t194.length co30)) (fun _ hk => hk.2) (.slice Ao31 t197.length co31)) (fun _ hk => hk.2) (.int .i64 t200)) (fun _ _ => trivial), by exact bh⟩
    ·rw [if_neg c9] at H
     exact absurd H (by simp)
   ·rw [if_neg c8] at H
    exact absurd H (by simp)
  ·rw [if_neg c7] at H
   have c7b0 : decide (0 ≤ t191) = false := decide_eq_false c7
   clear c7
   replace H := Option.bind_eq_some_iff.mp H
   obtain ⟨⟨t201, t202, t205, t208⟩, A320, H⟩ := H
   replace H : (some (t201, t202, t205, t208)) = some (r1, r2, r3, r4) := H
   have A32 := Aside0.mk A320
   clear A320
   simp only [Option.some.injEq, Prod.mk.injEq] at H
   obtain ⟨rfl, rfl, rfl, rfl⟩ := H
   go_enter Try.func65, Try.ntmps65
   try go_wp2_with (first | ((with_reducible refine gate_dst (N := 2) rfl ?_); refine box_event ?hg (N := 2) ?hd (cs := #[.int .i64 a0_0, .slice A0_1 l0_1.length c0_1, .slice A0_2 l0_2.length c0_2, .int .i64 a0_3]) (t := 28) ?hr ?_; (case hd => rfl); (case hg => rfl); (case hr => first | (go_simp; done) | (go_simp; rfl)); intro gb181 hg w33 hbox hb; have n0_ := Aside0.mk (below_step bh hb); have n1_ := Aside0.mk (hbox); have n2_ := Aside0.mk ((gs (W0 := w) hg bh)); have n3_ := Aside0.mk ((gs (W0 := w) hg bh)); clear HB; have HB := n0_; have BK181 := n1_; have GW181 := n2_; have GE181 := n3_; clear n0_ n1_ n2_ n3_ hb hbox hg) | ((with_reducible refine gate_dst (N := 4) rfl ?_); refine box_event ?hg (N := 4) ?hd (cs := #[.int .i64 0, .slice none 0 0, .slice none 0 0, .int .i64 0]) (t := 28) ?hr ?_; (case hd => rfl); (case hg => rfl); (case hr => first | (go_simp; done) | (go_simp; rfl)); intro gb182 hg w34 hbox hb; have n0_ := Aside0.mk (blk_below (bz BK181) hb); have n1_ := Aside0.mk (below_step bh hb); have n2_ := Aside0.mk (hbox); have n3_ := Aside0.mk ((gs (W0 := w) hg bh)); have n4_ := Aside0.mk ((gs (W0 := w) hg bh)); have n5_ := Aside0.mk ((gn hg (bz BK181))); have n6_ := Aside0.mk ((gm hg (bz BK181))); clear BK181 HB; have BK181 := n0_; have HB := n1_; have BK182 := n2_; have GW182 := n3_; have GE182 := n4_; have NB181_182 := n5_; have NB182_181 := n6_; clear n0_ n1_ n2_ n3_ n4_ n5_ n6_ hb hbox hg; have hnb35 := NB181_182.out; have hnc35 := NB182_181.out; have hcz36_0 := cz0 BK181; have hcz36_1 := cz1 BK181; have hcz36_2 := cz2 BK181; have hcz36_3 := cz3 BK181; have hfz36_0 := blk_frozen BK181.out 0; have hfz36_1 := blk_frozen BK181.out 1; have hfz36_2 := blk_frozen BK181.out 2; have hfz36_3 := blk_frozen BK181.out 3) | ((with_reducible refine gate_callee (f := 63) rfl ?_); refine goesL_ (some 7) rfl rfl Try.func63 kr rfl #[.agg #[.int .i64 a0_0, .slice A0_1 l0_1.length c0_1, .slice A0_2 l0_2.length c0_2, .int .i64 a0_3]] rfl lm ?_; (with_reducible refine (impl_copyCourt.calls k a0_0 _ _ l0_1 _ _ l0_2 a0_3 t183 t184 t187 t190 _ ?side1 ?side2 ?side3 ?side4 A3.out).mono ?_); (case side1 => repeat (first | exact (Kd.C_below HR0_1.out HB.out) | (with_reducible refine Kd.C_alloc ?_ _) | (with_reducible refine Kd.C_drewN ?_ _) | (with_reducible refine Kd.C_drew ?_))); (case side2 => exact HC0_1.out); (case side3 => repeat (first | exact (Kd.C_below HR0_2.out HB.out) | (with_reducible refine Kd.C_alloc ?_ _) | (with_reducible refine Kd.C_drewN ?_ _) | (with_reducible refine Kd.C_drew ?_))); (case side4 => exact HC0_2.out); rintro e w37 ⟨v185, v188, rfl, ho0, ho1, hb⟩; refine ⟨_, rfl, ?_⟩; have n0_ := Aside0.mk (Kd.S_lower (Kd.S_newM (M := fun k_ => (w.heap.size ≤ k_)) ho0 (below_size bh) (fun k_ h_ => h_)) (below_size bh)); have n1_ := Aside0.mk (Kd.R_lower (Kd.R_newM (M := fun k_ => (w.heap.size ≤ k_)) ho1 (below_size bh) (fun k_ h_ => h_)) (below_size bh)); have n2_ := Aside0.mk (blk_below (bz BK181) hb); have n3_ := Aside0.mk (blk_below (bz BK182) hb); have n4_ := Aside0.mk (below_step bh hb); clear BK181 BK182 HB; have HO186 := n0_; have HO189 := n1_; have BK181 := n2_; have BK182 := n3_; have HB := n4_; clear n0_ n1_ n2_ n3_ n4_; (try clear hb); (try clear hb2); (try clear hk); (try clear hi); (try clear ho0); (try clear ho1); have hcz38_0 := cz0 BK181; have hcz38_1 := cz1 BK181; have hcz38_2 := cz2 BK181; have hcz38_3 := cz3 BK181; have hfz38_0 := blk_frozen BK181.out 0; have hfz38_1 := blk_frozen BK181.out 1; have hfz38_2 := blk_frozen BK181.out 2; have hfz38_3 := blk_frozen BK181.out 3; obtain ⟨Ao39, co39, eo39⟩ := Kd.S_slice HO186.out; subst eo39; obtain ⟨Ao40, co40, eo40⟩ := Kd.R_slice HO189.out; subst eo40))
   generalize hW_ : ((((w37.setCell ⟨gb181, 0, none⟩ (.int .i64 t183)).setCell ⟨gb181, 1, none⟩ (.slice Ao39 t184.length co39)).setCell ⟨gb181, 2, none⟩ (.slice Ao40 t187.length co40)).setCell ⟨gb181, 3, none⟩ (.int .i64 t190)) = w41
   have n0_ : Aside0 (Kd.S (Kd.slice 3 (Kd.int .i64)) 23 w41 w.heap.size (fun k_ => (w.heap.size ≤ k_) ∧ some k_ ≠ (.slice Ao40 t187.length co40 : Value).ownBlock) (.slice Ao39 t184.length co39) t184) := ⟨by subst hW_; (with_reducible repeat (first | apply Kd.S_alloc | apply Kd.S_drewN | apply Kd.S_drew)); exact Kd.S_mono (Kd.S_far (p := ⟨gb181, 3, none⟩) (Kd.S_far (p := ⟨gb181, 2, none⟩) (Kd.S_far (p := ⟨gb181, 1, none⟩) (Kd.S_far (p := ⟨gb181, 0, none⟩) (Kd.S_types HO186.out BK181.out (by decide)) (fun _ hk => hk.2) (.int .i64 t183)) (fun _ hk => hk.2) (.slice Ao39 t184.length co39)) (fun _ hk => hk.2) (.slice Ao40 t187.length co40)) (fun _ hk => hk.2) (.int .i64 t190)) (fun _ hk => ⟨hk.1.1, hk.1.2⟩)⟩
   have n1_ : Aside0 (Kd.R (Kd.int .i64) 3 w41 w.heap.size (fun k_ => (w.heap.size ≤ k_)) (.slice Ao40 t187.length co40) t187) := ⟨by subst hW_; (with_reducible repeat (first | apply Kd.R_alloc | apply Kd.R_drewN | apply Kd.R_drew)); exact Kd.R_mono (Kd.R_far (p := ⟨gb181, 3, none⟩) (Kd.R_far (p := ⟨gb181, 2, none⟩) (Kd.R_far (p := ⟨gb181, 1, none⟩) (Kd.R_far (p := ⟨gb181, 0, none⟩) (Kd.R_types HO189.out BK181.out (by decide)) (fun _ hk => hk.2) (.int .i64 t183)) (fun _ hk => hk.2) (.slice Ao39 t184.length co39)) (fun _ hk => hk.2) (.slice Ao40 t187.length co40)) (fun _ hk => hk.2) (.int .i64 t190)) (fun _ hk => hk.1.1)⟩
   have n2_ : Aside0 (w41.heap[gb181]? = some (.cells #[.int .i64 t183, .slice Ao39 t184.length co39, .slice Ao40 t187.length co40, .int .i64 t190] 28 (0, 0))) := ⟨by subst hW_; (with_reducible repeat (first | refine blk_drewN ?_ _ | refine blk_drew ?_ | refine blk_alloc ?_ _)); refine blk_put (cs := #[.int .i64 t183, .slice Ao39 t184.length co39, .slice Ao40 t187.length co40, .int .i64 a0_3]) ?_ 3 _ rfl; (with_reducible repeat (first | refine blk_drewN ?_ _ | refine blk_drew ?_ | refine blk_alloc ?_ _)); refine blk_put (cs := #[.int .i64 t183, .slice Ao39 t184.length co39, .slice A0_2 l0_2.length c0_2, .int .i64 a0_3]) ?_ 2 _ rfl; (with_reducible repeat (first | refine blk_drewN ?_ _ | refine blk_drew ?_ | refine blk_alloc ?_ _)); refine blk_put (cs := #[.int .i64 t183, .slice A0_1 l0_1.length c0_1, .slice A0_2 l0_2.length c0_2, .int .i64 a0_3]) ?_ 1 _ rfl; (with_reducible repeat (first | refine blk_drewN ?_ _ | refine blk_drew ?_ | refine blk_alloc ?_ _)); refine blk_put (cs := #[.int .i64 a0_0, .slice A0_1 l0_1.length c0_1, .slice A0_2 l0_2.length c0_2, .int .i64 a0_3]) ?_ 0 _ rfl; (with_reducible repeat (first | refine blk_drewN ?_ _ | refine blk_drew ?_ | refine blk_alloc ?_ _)); exact BK181.out⟩
   have n3_ : Aside0 (w41.heap[gb182]? = some (.cells #[.int .i64 0, .slice none 0 0, .slice none 0 0, .int .i64 0] 28 (0, 0))) := ⟨by subst hW_; (with_reducible repeat (first | refine blk_drewN ?_ _ | refine blk_drew ?_ | refine blk_alloc ?_ _)); refine blk_far ?_ NB182_181.out _; (with_reducible repeat (first | refine blk_drewN ?_ _ | refine blk_drew ?_ | refine blk_alloc ?_ _)); refine blk_far ?_ NB182_181.out _; (with_reducible repeat (first | refine blk_drewN ?_ _ | refine blk_drew ?_ | refine blk_alloc ?_ _)); refine blk_far ?_ NB182_181.out _; (with_reducible repeat (first | refine blk_drewN ?_ _ | refine blk_drew ?_ | refine blk_alloc ?_ _)); refine blk_far ?_ NB182_181.out _; (with_reducible repeat (first | refine blk_drewN ?_ _ | refine blk_drew ?_ | refine blk_alloc ?_ _)); exact BK182.out⟩
   have n4_ : Aside0 (Below w.heap.size w w41) := ⟨by subst hW_; exact bh⟩
   clear hW_
   (try clear HO186)
   (try clear HO189)
   (try clear BK181)
   (try clear BK182)
   (try clear HB)
   have HO186 := n0_
   have HO189 := n1_
   have BK181 := n2_
   have BK182 := n3_
   have HB := n4_
   clear n0_ n1_ n2_ n3_ n4_
   have n0_ := Aside0.mk (Kd.S_drew HO186.out)
   have n1_ := Aside0.mk (Kd.R_drew HO189.out)
   have n2_ := Aside0.mk (blk_drew BK181.out)
   have n3_ := Aside0.mk (blk_drew BK182.out)
   have n4_ := Aside0.mk (below_drew1 HB.out)
   clear HO186 HO189 BK181 BK182 HB
   have HO186 := n0_
   have HO189 := n1_
   have BK181 := n2_
   have BK182 := n3_
   have HB := n4_
   clear n0_ n1_ n2_ n3_ n4_
   refine start_ (n := 7) (S := fun w' => w'.cell? ⟨gb181, 0, none⟩ = some (.int .i64 t183) ∧ w'.cell? ⟨gb181, 1, none⟩ = some (.slice Ao39 t184.length co39) ∧ w'.cell? ⟨gb181, 2, none⟩ = some (.slice Ao40 t187.length co40) ∧ w'.cell? ⟨gb181, 3, none⟩ = some (.int .i64 t190)) (ds := [6]) #[F,F,F,F,F,F,F] kr rfl rfl ⟨cz0 BK181, cz1 BK181, cz2 BK181, cz3 BK181⟩ (fun hHeld => ?_)
   generalize w41.drew = w42 at HO186 HO189 BK181 BK182 HB hHeld ⊢
   refine pu 0 (some 8) #[T,F,F,F,F,F,F] kr ?_
   refine pu 2 (some 10) #[T,F,T,F,F,F,F] kr ?_
   refine pu 3 (some 11) #[T,F,T,T,F,F,F] kr ?_
   refine tk4 1 (some 9) #[T,T,T,T,F,F,F] kr ?_
   refine pu 4 (some 12) #[T,T,T,T,T,F,F] kr ?_
   refine pu 5 (some 13) #[T,T,T,T,T,T,F] kr ?_
   refine last_ (i := 6) (N := none) #[T,T,T,T,T,T,T] rfl rfl kr (by decide) (fun K hK => ?_)
   have hs43 := cz3 BK181
   have hfs43 := blk_frozen BK181.out 3
   have hns43_1 := NB182_181.out
   have hms43_1 := NB181_182.out
   refine skip_ (w1 := ?_) (by rfl) rfl ?_ ?_
   rotate_left
   ·go_simp
    rfl
   refine hK.out _ _ ?_
   clear hK K
   refine done_ kr ?_
   generalize hW_ : (w42.setCell ⟨gb181, 3, none⟩ (.int .i64 (Go.bits .xor .i64 t190 (ji5)))) = w44
   have n0_ : Aside0 (Kd.S (Kd.slice 3 (Kd.int .i64)) 23 w44 w.heap.size (fun k_ => (w.heap.size ≤ k_) ∧ some k_ ≠ (.slice Ao40 t187.length co40 : Value).ownBlock) (.slice Ao39 t184.length co39) t184) := ⟨by subst hW_; (with_reducible repeat (first | apply Kd.S_alloc | apply Kd.S_drewN | apply Kd.S_drew)); exact Kd.S_mono (Kd.S_far (p := ⟨gb181, 3, none⟩) (Kd.S_types HO186.out BK181.out (by decide)) (fun _ hk => hk.2) (.int .i64 (Go.bits .xor .i64 t190 (ji5)))) (fun _ hk => ⟨hk.1.1, hk.1.2⟩)⟩
   have n1_ : Aside0 (Kd.R (Kd.int .i64) 3 w44 w.heap.size (fun k_ => (w.heap.size ≤ k_)) (.slice Ao40 t187.length co40) t187) := ⟨by subst hW_; (with_reducible repeat (first | apply Kd.R_alloc | apply Kd.R_drewN | apply Kd.R_drew)); exact Kd.R_mono (Kd.R_far (p := ⟨gb181, 3, none⟩) (Kd.R_types HO189.out BK181.out (by decide)) (fun _ hk => hk.2) (.int .i64 (Go.bits .xor .i64 t190 (ji5)))) (fun _ hk => hk.1)⟩
   have n2_ : Aside0 (w44.heap[gb181]? = some (.cells #[.int .i64 t183, .slice Ao39 t184.length co39, .slice Ao40 t187.length co40, .int .i64 (Go.bits .xor .i64 t190 (ji5))] 28 (0, 0))) := ⟨by subst hW_; (with_reducible repeat (first | refine blk_drewN ?_ _ | refine blk_drew ?_ | refine blk_alloc ?_ _)); refine blk_put (cs := #[.int .i64 t183, .slice Ao39 t184.length co39, .slice Ao40 t187.length co40, .int .i64 t190]) ?_ 3 _ rfl; (with_reducible repeat (first | refine blk_drewN ?_ _ | refine blk_drew ?_ | refine blk_alloc ?_ _)); exact BK181.out⟩
   have n3_ : Aside0 (w44.heap[gb182]? = some (.cells #[.int .i64 0, .slice none 0 0, .slice none 0 0, .int .i64 0] 28 (0, 0))) := ⟨by subst hW_; (with_reducible repeat (first | refine blk_drewN ?_ _ | refine blk_drew ?_ | refine blk_alloc ?_ _)); refine blk_far ?_ NB182_181.out _; (with_reducible repeat (first | refine blk_drewN ?_ _ | refine blk_drew ?_ | refine blk_alloc ?_ _)); exact BK182.out⟩
   have n4_ : Aside0 (Below w.heap.size w w44) := ⟨by subst hW_; exact bh⟩
   clear hW_
   (try clear HO186)
   (try clear HO189)
   (try clear BK181)
   (try clear BK182)
   (try clear HB)
   have HO186 := n0_
   have HO189 := n1_
   have BK181 := n2_
   have BK182 := n3_
   have HB := n4_
   clear n0_ n1_ n2_ n3_ n4_
   have hcz45_0 := cz0 BK181
   have hcz45_1 := cz1 BK181
   have hcz45_2 := cz2 BK181
   have hcz45_3 : w44.cell? ⟨gb181, 3, none⟩ = some (.int .i64 (Go.bits .xor .i64 t190 (ji5))) := (blk_cell BK181.out 3).trans rfl
   have hfz45_0 := blk_frozen BK181.out 0
   have hfz45_1 := blk_frozen BK181.out 1
   have hfz45_2 := blk_frozen BK181.out 2
   have hfz45_3 := blk_frozen BK181.out 3
   try go_wp2_with (first | ((with_reducible refine gate_callee (f := 73) rfl ?_); refine goesL_ (some 17) rfl rfl Try.func73 kr rfl #[.slice Ao40 t187.length co40, .int .i64 a1] rfl lm ?_; (with_reducible refine (slices_Index_int_int.calls k _ _ t187 a1 t191 _ ?side1 ?side2 A6.out).mono ?_); (case side1 => repeat (first | exact (Kd.R_reads' HO189.out).2.2 | (with_reducible refine Kd.C_alloc ?_ _) | (with_reducible refine Kd.C_drewN ?_ _) | (with_reducible refine Kd.C_drew ?_))); (case side2 => exact (Kd.R_reads' HO189.out).2.1); rintro e w' ⟨rfl, ⟨nd, rfl⟩⟩; refine ⟨_, rfl, ?_⟩; (try (rw [drewN_self w44]; generalize hq_ : World.drewN w44 _ = w44; have n0_ : Aside0 (Kd.S (Kd.slice 3 (Kd.int .i64)) 23 w44 w.heap.size (fun k_ => (w.heap.size ≤ k_) ∧ some k_ ≠ (.slice Ao40 t187.length co40 : Value).ownBlock) (.slice Ao39 t184.length co39) t184) := ⟨by rw [← hq_]; exact (sz HO186)⟩; have n1_ : Aside0 (Kd.R (Kd.int .i64) 3 w44 w.heap.size (fun k_ => (w.heap.size ≤ k_)) (.slice Ao40 t187.length co40) t187) := ⟨by rw [← hq_]; exact (rz HO189)⟩; have n2_ : Aside0 (w44.heap[gb181]? = some (.cells #[.int .i64 t183, .slice Ao39 t184.length co39, .slice Ao40 t187.length co40, .int .i64 (Go.bits .xor .i64 t190 (ji5))] 28 (0, 0))) := ⟨by rw [← hq_]; exact (bz BK181)⟩; have n3_ : Aside0 (w44.heap[gb182]? = some (.cells #[.int .i64 0, .slice none 0 0, .slice none 0 0, .int .i64 0] 28 (0, 0))) := ⟨by rw [← hq_]; exact (bz BK182)⟩; have n4_ : Aside0 (Below w.heap.size w w44) := ⟨by rw [← hq_]; exact bh⟩; clear HO186 HO189 BK181 BK182 HB hq_; have HO186 := n0_; have HO189 := n1_; have BK181 := n2_; have BK182 := n3_; have HB := n4_; clear n0_ n1_ n2_ n3_ n4_)); (try (have hcz45_0 := cz0 BK181; have hcz45_1 := cz1 BK181; have hcz45_2 := cz2 BK181; have hcz45_3 : w44.cell? ⟨gb181, 3, none⟩ = some (.int .i64 (Go.bits .xor .i64 t190 (ji5))) := (blk_cell BK181.out 3).trans rfl; have hfz45_0 := blk_frozen BK181.out 0; have hfz45_1 := blk_frozen BK181.out 1; have hfz45_2 := blk_frozen BK181.out 2; have hfz45_3 := blk_frozen BK181.out 3))) | ((with_reducible refine gate_callee (f := 66) rfl ?_); refine goesL_ (some 25) rfl rfl Try.func66 kr rfl #[.agg #[.int .i64 t183, .slice Ao39 t184.length co39, .slice Ao40 t187.length co40, .int .i64 (Go.bits .xor .i64 t190 (ji5))]] rfl (by (try simp only [List.map_toArray, List.map_cons, List.map_nil]); first | done | (simp only [hji5]; rfl) | rfl | (simp only [List.length_drop, List.length_take]; rfl)) ?_; (with_reducible refine (impl_filled.calls k t183 (fun k_ => ((((w.heap.size ≤ k_) ∧ some k_ ≠ (.slice Ao40 t187.length co40 : Value).ownBlock) ∧ k_ ≠ gb181) ∧ k_ ≠ gb182)) _ _ t184 (fun k_ => some k_ = (.slice Ao40 t187.length co40 : Value).ownBlock) (.slice Ao40 t187.length co40) t187 (Go.bits .xor .i64 t190 (ji5)) t201 t202 t205 t208 w _ ?side1 ?side2 ?side3 A32.out).mono ?_); (case side1 => repeat (first | (with_reducible first | exact HB.out | apply below_alloc | apply pw_below_drewN | apply below_drew1 | refine below_set ?_ GE181.out | refine below_set ?_ GE182.out) | exact HB.out)); (case side2 => exact Kd.V_mono (Kd.S_V (Kd.S_types (Kd.S_types (HO186.out) BK181.out (by decide)) BK182.out (by decide))) (fun k_ hk_ => ⟨hk_, hk_.1.1.2⟩)); (case side3 => exact Kd.R_tight rfl HO189.out); rintro e w46 ⟨v203, v206, rfl, ho0, ho1, hb, hkp, hv_, hr_⟩; refine ⟨_, rfl, ?_⟩; have n0_ := Aside0.mk (blk_kept (bz BK181) hkp (fun hs_ => (fun e_ => (Kd.R_ne HO189.out BK181.out (by decide)) e_) hs_)); have n1_ := Aside0.mk (blk_kept (bz BK182) hkp (fun hs_ => (fun e_ => (Kd.R_ne HO189.out BK182.out (by decide)) e_) hs_)); have n2_ := Aside0.mk (Kd.S_mono (ok' := fun k_ => (w.heap.size ≤ k_) ∧ some k_ ≠ (v206 : Value).ownBlock) (Kd.S_keptB (HO186.out) hkp (fun k_ hk_ hs_ => (hk_.2) hs_)) (fun k_ hk_ => ⟨hk_.1.1, fun e_ => Or.elim (ho1.1 k_ e_.symm) (fun hs_ => hk_.2.1 hs_) (fun hn_ => Nat.not_le.2 hk_.2.2 hn_)⟩)); have n3_ := Aside0.mk (S_same n2_.out hv_ hr_); have n4_ := Aside0.mk (Kd.R_mono (ok' := fun k_ => (w.heap.size ≤ k_)) ho1 (fun k_ hk_ => Or.elim hk_ (fun hs_ => (HO189.out.1 k_ (hs_).symm)) (fun hn_ => (Nat.le_trans (below_size bh) hn_)))); have n5_ := Aside0.mk (hb); clear BK181 BK182 HO186 HB HO189; have BK181 := n0_; have BK182 := n1_; have HO186 := n2_; have HO204 := n3_; have HO207 := n4_; have HB := n5_; clear n0_ n1_ n2_ n3_ n4_ n5_; (try clear hb); (try clear hkp); (try clear hv_); (try clear hr_); (try clear ho0); (try clear ho1); have hcz47_0 := cz0 BK182; have hcz47_1 := cz1 BK182; have hcz47_2 := cz2 BK182; have hcz47_3 := cz3 BK182; have hfz47_0 := blk_frozen BK182.out 0; have hfz47_1 := blk_frozen BK182.out 1; have hfz47_2 := blk_frozen BK182.out 2; have hfz47_3 := blk_frozen BK182.out 3; obtain ⟨Ao48, co48, eo48⟩ := Kd.S_slice HO204.out; subst eo48; obtain ⟨Ao49, co49, eo49⟩ := Kd.R_slice HO207.out; subst eo49))
   refine bodyPost_ret (results_cell_row rfl _ _ gb182 28 #[.int .i64 t201, .slice Ao48 t202.length co48, .slice Ao49 t205.length co49, .int .i64 t208] (0, 0) _ rfl (bp BK182) Try.underlying28 rfl kr) rfl ?_
   exact ⟨_, _, by first | rfl | (simp [errW_none, errW_some] <;> rfl) | (simp only [← hji5]; first | rfl | (simp [errW_none, errW_some] <;> rfl)) | (simp [*, errW_none, errW_some] <;> rfl), by (with_reducible repeat (first | apply Kd.S_alloc | apply Kd.S_drewN | apply Kd.S_drew)); exact Kd.S_mono (Kd.S_far (p := ⟨gb182, 3, none⟩) (Kd.S_far (p := ⟨gb182, 2, none⟩) (Kd.S_far (p := ⟨gb182, 1, none⟩) (Kd.S_far (p := ⟨gb182, 0, none⟩) (Kd.S_types HO204.out BK182.out (by decide)) (fun _ hk => hk.2) (.int .i64 t201)) (fun _ hk => hk.2) (.slice Ao48 t202.length co48)) (fun _ hk => hk.2) (.slice Ao49 t205.length co49)) (fun _ hk => hk.2) (.int .i64 t208)) (fun _ hk => hk.1.2), by (with_reducible repeat (first | apply Kd.R_alloc | apply Kd.R_drewN | apply Kd.R_drew)); exact Kd.R_mono (Kd.R_far (p := ⟨gb182, 3, none⟩) (Kd.R_far (p := ⟨gb182, 2, none⟩) (Kd.R_far (p := ⟨gb182, 1, none⟩) (Kd.R_far (p := ⟨gb182, 0, none⟩) (Kd.R_types HO207.out BK182.out (by decide)) (fun _ hk => hk.2) (.int .i64 t201)) (fun _ hk => hk.2) (.slice Ao48 t202.length co48)) (fun _ hk => hk.2) (.slice Ao49 t205.length co49)) (fun _ hk => hk.2) (.int .i64 t208)) (fun _ _ => trivial), by exact bh⟩
 ·rw [if_neg c4] at H
  exact absurd H (by simp)

end Go.Proofs.Ytlpjkeejflogjaa.QFnExactAfterDeaths
