-- Printed for this claim by a turned copy of the print (wip/myprint). Lean checks it. Squeezed. Worded. Tightened.
import Derived.Test.YtnandbgcejkonaaQFnExactIdleLawsx0
import Derived.Test.YtnandbgcejkonaaQFnExactIdleLawsx6
import Derived.Test.YtnandbgcejkonaaQFnExactIdleLawsx7
namespace Go.Proofs.Ytnandbgcejkonaa.QFnExactIdleLaws
open Go.RowKit Go.Proofs.YtnandbgcejkonaaW.PrintWords Go.Proofs.YtnandbgcejkonaaW.PrintLast Go.Proofs.YtnandbgcejkonaaW.PrintMore
attribute [local go_sem] max2_int min2_int max_two min_two max_three min_three max_four min_four Opens.cell_twice   -- for this text's walks alone
set_option linter.unusedVariables false
set_option linter.unusedSimpArgs false

/-! ### impl_unbeaten: function 35 -/
mutual
def impl_unbeaten.l0 : Nat → List (S46) → Int → Int → List (S46) → List (S46) → Int → Int → Option (List Int)
 | 0, _, _, _, _, _, _, _ => none
 | k + 1, x0, x1, x2, x7, x14, x15, x16 => if x16 < x15 then (if 0 ≤ x16 then (if x16 < (x14.length : Int) then (if ((rd_T46 x14 x16).f0) = x1 then (if (Go.bits .andNot .i64 ((rd_T46 x14 x16).f1) x2) = 0 then (if x7.length < 3518437208883 then (impl_unbeaten.l0 k x0 x1 x2 (x7 ++ [(⟨(rd_T46 x14 x16).f0, (rd_T46 x14 x16).f1, (rd_T46 x14 x16).f2, (rd_T46 x14 x16).f3, (rd_T46 x14 x16).f4⟩ : S46)]) x14 x15 (wrap64 (x16 + 1))) else (none)) else (impl_unbeaten.l0 k x0 x1 x2 x7 x14 x15 (wrap64 (x16 + 1)))) else (impl_unbeaten.l0 k x0 x1 x2 x7 x14 x15 (wrap64 (x16 + 1)))) else (none)) else (none)) else (impl_unbeaten.l1 k x7 (([] : List Int)) x0 (x0.length : Int) 0)
def impl_unbeaten.l1 : Nat → List (S46) → List Int → List (S46) → Int → Int → Option (List Int)
 | 0, _, _, _, _, _ => none
 | k + 1, x7, x10, x37, x38, x39 => if x39 < x38 then (if 0 ≤ x39 then (if x39 < (x37.length : Int) then ((impl_Law_48.f k x7 ((rd_T46 x37 x39).f0) ((rd_T46 x37 x39).f1) ((rd_T46 x37 x39).f2) ((rd_T46 x37 x39).f3) ((rd_T46 x37 x39).f4)).bind fun t237 => (if t237 = true then ((slices_ContainsFunc_w49.f k x7 [(⟨(rd_T46 x37 x39).f0, (rd_T46 x37 x39).f1, (rd_T46 x37 x39).f2, (rd_T46 x37 x39).f3, (rd_T46 x37 x39).f4⟩ : S46)]).bind fun t238 => (if t238 = true then (impl_unbeaten.l1 k x7 x10 x37 x38 (wrap64 (x39 + 1))) else (if x10.length < 17592186044416 then (impl_unbeaten.l1 k x7 (x10 ++ [x39]) x37 x38 (wrap64 (x39 + 1))) else (none)))) else (impl_unbeaten.l1 k x7 x10 x37 x38 (wrap64 (x39 + 1))))) else (none)) else (none)) else (some x10)
end
def impl_unbeaten.f (k : Nat) (l0 : List (S46)) (a1 : Int) (a2 : Int) : Option (List Int) := impl_unbeaten.l0 k l0 a1 a2 (([] : List (S46))) l0 (l0.length : Int) 0
theorem impl_unbeaten.mono_l : ∀ k, (∀ y0 y1 y2 y3 y4 y5 y6, LeO (impl_unbeaten.l0 k y0 y1 y2 y3 y4 y5 y6) (impl_unbeaten.l0 (k + 1) y0 y1 y2 y3 y4 y5 y6)) ∧ (∀ y0 y1 y2 y3 y4, LeO (impl_unbeaten.l1 k y0 y1 y2 y3 y4) (impl_unbeaten.l1 (k + 1) y0 y1 y2 y3 y4))
 | 0 => ⟨fun _ _ _ _ _ _ _ r h => by simp [impl_unbeaten.l0] at h, fun _ _ _ _ _ r h => by simp [impl_unbeaten.l1] at h⟩
 | k + 1 => by
  obtain ⟨ih0, ih1⟩ := impl_unbeaten.mono_l k
  refine ⟨?_, ?_⟩
  ·intro y0 y1 y2 y3 y4 y5 y6
   unfold impl_unbeaten.l0
   repeat' first
   | (with_reducible exact ih0 _ _ _ _ _ _ _)
   | (with_reducible exact ih1 _ _ _ _ _)
   | (with_reducible exact impl_Law_48.mono _ _ _ _ _ _ _)
   | (with_reducible exact slices_ContainsFunc_w49.mono _ _ _)
   | (with_reducible exact LeO.refl _)
   | (with_reducible exact LeO.none _)
   | (with_reducible refine LeO.ite ?_ ?_)
   | (with_reducible refine LeO.bind ?_ (fun _ => ?_))
   | exact ih0 _ _ _ _ _ _ _
   | exact ih1 _ _ _ _ _
   | exact impl_Law_48.mono _ _ _ _ _ _ _
   | exact slices_ContainsFunc_w49.mono _ _ _
   | exact LeO.none _
   | refine LeO.ite ?_ ?_
   | refine LeO.bind ?_ (fun _ => ?_)
  ·intro y0 y1 y2 y3 y4
   unfold impl_unbeaten.l1
   repeat' first
   | (with_reducible exact ih0 _ _ _ _ _ _ _)
   | (with_reducible exact ih1 _ _ _ _ _)
   | (with_reducible exact impl_Law_48.mono _ _ _ _ _ _ _)
   | (with_reducible exact slices_ContainsFunc_w49.mono _ _ _)
   | (with_reducible exact LeO.refl _)
   | (with_reducible exact LeO.none _)
   | (with_reducible refine LeO.ite ?_ ?_)
   | (with_reducible refine LeO.bind ?_ (fun _ => ?_))
   | exact ih0 _ _ _ _ _ _ _
   | exact ih1 _ _ _ _ _
   | exact impl_Law_48.mono _ _ _ _ _ _ _
   | exact slices_ContainsFunc_w49.mono _ _ _
   | exact LeO.none _
   | refine LeO.ite ?_ ?_
   | refine LeO.bind ?_ (fun _ => ?_)
theorem impl_unbeaten.mono : ∀ a0 a1 a2 k, LeO (impl_unbeaten.f k a0 a1 a2) (impl_unbeaten.f (k + 1) a0 a1 a2) := by
 intro a0 a1 a2 k
 obtain ⟨ih0, ih1⟩ := impl_unbeaten.mono_l k
 unfold impl_unbeaten.f
 repeat' first
   | (with_reducible exact ih0 _ _ _ _ _ _ _)
   | (with_reducible exact ih1 _ _ _ _ _)
   | (with_reducible exact impl_Law_48.mono _ _ _ _ _ _ _)
   | (with_reducible exact slices_ContainsFunc_w49.mono _ _ _)
   | (with_reducible exact LeO.refl _)
   | (with_reducible exact LeO.none _)
   | (with_reducible refine LeO.ite ?_ ?_)
   | (with_reducible refine LeO.bind ?_ (fun _ => ?_))
   | exact ih0 _ _ _ _ _ _ _
   | exact ih1 _ _ _ _ _
   | exact impl_Law_48.mono _ _ _ _ _ _ _
   | exact slices_ContainsFunc_w49.mono _ _ _
   | exact LeO.none _
   | refine LeO.ite ?_ ?_
   | refine LeO.bind ?_ (fun _ => ?_)
set_option maxHeartbeats 8000000 in
set_option maxRecDepth 100000 in
theorem impl_unbeaten.calls (k : Nat) (A0 : Option Addr) (c0 : Nat) (l0 : List (S46)) (a1 : Int) (a2 : Int) (r : List Int) (w : World) (hr0 : Kd.C k46 w A0 l0.length l0) (hc0 : l0.length ≤ c0) (h : impl_unbeaten.f k l0 a1 a2 = some r) :
  Calls Try.prog 35 #[.slice A0 l0.length c0, .int .i64 a1, .int .i64 a2] w fun e w' => ∃ v0_ : Value, e = .returned (v0_) ∧ Kd.R (Kd.int .i64) 3 w' w.heap.size (fun _ => True) v0_ r ∧ Below w.heap.size w w' := by
 have hu46 := Try.underlying46
 have hmf_ : ∀ (fn_ : Fn) (first_ cap_ : Array Value) (w_ : World), (Instr.makeFunc fn_ first_ cap_).run Try.prog w_ = .ok (.func fn_ first_ cap_) w_ := fun _ _ _ _ => rfl
 have HR0 := Aside0.mk hr0
 have HC0 := Aside0.mk hc0
 clear hr0 hc0
 have HB := Aside0.mk (Below.refl w.heap.size w)
 have H : (impl_unbeaten.l0 k l0 a1 a2 (([] : List (S46))) l0 (l0.length : Int) 0) = some r := h
 clear h
 obtain ⟨y224, hy224⟩ : ∃ y_ : List (S46), y_ = (([] : List (S46))) := ⟨_, rfl⟩
 replace H : (impl_unbeaten.l0 k l0 a1 a2 y224 l0 (l0.length : Int) 0) = some r := by first | (rw [hy224]; with_reducible exact H) | (have H2_ := (Option.bind_some _ _).symm.trans H; rw [hy224]; with_reducible exact H2_) | (have H2_ := (Option.bind_some _ _).symm.trans H; with_reducible exact H2_) | with_reducible exact H | (rw [hy224]; exact H) | exact H
 have Ny224 := Aside0.mk hy224
 clear hy224
 have H' := Aside0.mk H
 clear H
 go_enter Try.func35, Try.ntmps35
 go_wp2_with (first | ((with_reducible refine gate_dst (N := 13) rfl ?_); refine Kd.R_lit k46 _ 46 ?hg (N := 13) ?hd (xs := ([] : List (S46))) (inner := []) (ok := fun _ => True) (okp := fun _ => True) ?hr ?hp (fun _ hk => hk) trivial (Below.refl _ _) (Nat.le_refl _) (by simp) ?_; (case hd => rfl); (case hg => rfl); (case hr => first | (go_simp; done) | (go_simp; rfl)); (case hp => exact (Reps.none _ _)); intro v225 w4 ho5 hb hg_ hnew_; clear hg_ hnew_; (first | rw [← Ny224.out] at ho5 | (simp only [Int.reduceToNat] at ho5; rw [← Ny224.out] at ho5)); have n0_ := Aside0.mk (Kd.R_lower ho5 (below_size bh)); have n1_ := Aside0.mk (below_step bh hb); clear HB; have HO226 := n0_; have HB := n1_; clear n0_ n1_ hb ho5))
 go_loopg [7, 16] k (fun kq v7 v16 w' => ∃ (x7_1 : List (S46)) (x16_1 : Int), v16 = .int .i64 x16_1 ∧ Aside0 (impl_unbeaten.l0 kq l0 a1 a2 x7_1 l0 (l0.length : Int) x16_1 = some r) ∧ Aside0 (kq ≤ k) ∧ Aside0 (Kd.R k46 46 w' w.heap.size (fun _ => True) v7 x7_1) ∧ Aside0 (Below w.heap.size w w'))
 case atStart => exact ⟨(y224), (0), (by first | rfl | (simp; done) | (simp [*]; done)), H', ⟨Nat.le_refl _⟩, ⟨rz HO226⟩, ⟨by exact bh⟩⟩
 case round =>
  clear H'
  try clear p2
  try clear c3
  obtain ⟨x7_1, x16_1, rfl, HA, HK1, HO_7, HB⟩ := hrel
  cases gk with
  | zero => exact absurd HA.out (by simp [impl_unbeaten.l0])
  | succ k1 =>
   have H := HA.out
   clear HA
   simp only [impl_unbeaten.l0] at H
   by_cases c6 : x16_1 < (l0.length : Int)
   ·rw [if_pos c6] at H
    have c6b0 : decide (x16_1 < (l0.length : Int)) = true := decide_eq_true c6
    clear c6
    by_cases c7 : 0 ≤ x16_1
    ·rw [if_pos c7] at H
     have c7b0 : decide (0 ≤ x16_1) = true := decide_eq_true c7
     clear c7
     by_cases c8 : x16_1 < (l0.length : Int)
     ·rw [if_pos c8] at H
      have c8b0 : decide (x16_1 < (l0.length : Int)) = true := decide_eq_true c8
      clear c8
      by_cases c9 : ((rd_T46 l0 x16_1).f0) = a1
      ·rw [if_pos c9] at H
       have c9b0 : (((rd_T46 l0 x16_1).f0) == a1) = true := beq_iff_eq.mpr c9
       have c9b1 : (((rd_T46 l0 x16_1).f0) != a1) = false := bne_eq_false_iff_eq.mpr c9
       clear c9
       by_cases c10 : (Go.bits .andNot .i64 ((rd_T46 l0 x16_1).f1) a2) = 0
       ·rw [if_pos c10] at H
        have c10b0 : ((Go.bits .andNot .i64 ((rd_T46 l0 x16_1).f1) a2) == 0) = true := beq_iff_eq.mpr c10
        have c10b1 : ((Go.bits .andNot .i64 ((rd_T46 l0 x16_1).f1) a2) != 0) = false := bne_eq_false_iff_eq.mpr c10
        clear c10
        by_cases c11 : x7_1.length < 3518437208883
        ·rw [if_pos c11] at H
         have LMc11 := Aside0.mk c11
         clear c11
         obtain ⟨y229, hy229⟩ : ∃ y_ : List (S46), y_ = (x7_1 ++ [(⟨(rd_T46 l0 x16_1).f0, (rd_T46 l0 x16_1).f1, (rd_T46 l0 x16_1).f2, (rd_T46 l0 x16_1).f3, (rd_T46 l0 x16_1).f4⟩ : S46)]) := ⟨_, rfl⟩
         replace H : (impl_unbeaten.l0 k1 l0 a1 a2 y229 l0 (l0.length : Int) (wrap64 (x16_1 + 1))) = some r := by first | (rw [hy229]; with_reducible exact H) | (have H2_ := (Option.bind_some _ _).symm.trans H; rw [hy229]; with_reducible exact H2_) | (have H2_ := (Option.bind_some _ _).symm.trans H; with_reducible exact H2_) | with_reducible exact H | (rw [hy229]; exact H) | exact H
         have Ny229 := Aside0.mk hy229
         clear hy229
         have H' := Aside0.mk H
         clear H
         have p227 : 0 ≤ (x16_1 : Int) := oda
         have q227 : x16_1 < (l0.length : Int) := oda
         obtain ⟨ad227, e227, hx227_0, hx227_1, hx227_2, hx227_3, hx227_4⟩ := at_T46 HR0.out x16_1 p227 q227
         cases e227
         replace hx227_0 := (HB.out.cell (World.block_lt_of_cell? w _ hx227_0)).trans hx227_0
         replace hx227_1 := (HB.out.cell (World.block_lt_of_cell? w _ hx227_1)).trans hx227_1
         replace hx227_2 := (HB.out.cell (World.block_lt_of_cell? w _ hx227_2)).trans hx227_2
         replace hx227_3 := (HB.out.cell (World.block_lt_of_cell? w _ hx227_3)).trans hx227_3
         replace hx227_4 := (HB.out.cell (World.block_lt_of_cell? w _ hx227_4)).trans hx227_4
         replace p227 := eq_true p227
         replace q227 := eq_true q227
         go_wp2_with (first | ((with_reducible refine gate_dst (N := 9) rfl ?_); refine box_event ?hg (N := 9) ?hd (cs := #[.int .i64 0, .int .i64 0, .int .i64 0, .int .i64 0, .bool false]) (t := 46) ?hr ?_; (case hd => rfl); (case hg => rfl); (case hr => first | (go_simp; done) | (go_simp; rfl)); intro gb228 hg w12 hbox hb; have n0_ := Aside0.mk (Kd.R_below (Kd.R_elderB (rz HO_7) gb228 (Nat.le_of_eq hg.symm)) hb); have n1_ := Aside0.mk (below_step bh hb); have n2_ := Aside0.mk (hbox); have n3_ := Aside0.mk ((gs (W0 := w) hg bh)); have n4_ := Aside0.mk ((gs (W0 := w) hg bh)); clear HO_7 HB; have HO_7 := n0_; have HB := n1_; have BK228 := n2_; have GW228 := n3_; have GE228 := n4_; clear n0_ n1_ n2_ n3_ n4_ hb hbox hg; have hcz13_0 := cz0 BK228; have hcz13_1 := cz1 BK228; have hcz13_2 := cz2 BK228; have hcz13_3 := cz3 BK228; have hcz13_4 := cz4 BK228; have hfz13_0 := blk_frozen BK228.out 0; have hfz13_1 := blk_frozen BK228.out 1; have hfz13_2 := blk_frozen BK228.out 2; have hfz13_3 := blk_frozen BK228.out 3; have hfz13_4 := blk_frozen BK228.out 4) | ((with_reducible refine gate_builtin (b := .append) (xs := #[.tmp 31, .tmp 33]) rfl ?_); at_builtin; refine Kd.R_append k46 (w0 := w) w.heap.size rfl (.tmp 31) (.tmp 33) 23 46 (.agg #[(.int .i64 0), (.int .i64 0), (.int .i64 0), (.int .i64 0), (.bool false)]) 40 rfl Try.underlying23 info46 rfl (by decide) (by omega) u7 x7_1 (⟨(rd_T46 l0 x16_1).f0, (rd_T46 l0 x16_1).f1, (rd_T46 l0 x16_1).f2, (rd_T46 l0 x16_1).f3, (rd_T46 l0 x16_1).f4⟩ : S46) [.int .i64 ((rd_T46 l0 x16_1).f0), .int .i64 ((rd_T46 l0 x16_1).f1), .int .i64 ((rd_T46 l0 x16_1).f2), .int .i64 ((rd_T46 l0 x16_1).f3), .bool ((rd_T46 l0 x16_1).f4)] (fun k_ => k_ ≠ gb228) (fun _ => False) rfl (by first | (go_simp; done) | (go_simp; rfl)) ?aP (fun _ hk => hk.elim) ?aF ?aO ?aB ?aS ?aL ?_; (case aP => exact k46_mkM _ _ _ (⟨(rd_T46 l0 x16_1).f0, (rd_T46 l0 x16_1).f1, (rd_T46 l0 x16_1).f2, (rd_T46 l0 x16_1).f3, (rd_T46 l0 x16_1).f4⟩ : S46)); (case aB => exact bh); (case aF => exact (fun k_ hk => Kd.freshB (g := gb228) (o := .cells #[.int .i64 ((rd_T46 l0 x16_1).f0), .int .i64 ((rd_T46 l0 x16_1).f1), .int .i64 ((rd_T46 l0 x16_1).f2), .int .i64 ((rd_T46 l0 x16_1).f3), .bool ((rd_T46 l0 x16_1).f4)] 46 (0, 0)) (bp BK228) k_ hk)); (case aO => exact (vR HO_7 (fun _ hk => hk.2))); (case aS => exact (below_size bh)); (case aL => have := LMc11.out; omega); intro v230 w14 ho hb hg hat; rw [← Ny229.out] at ho; have n0_ := Aside0.mk (blk_grown (g := gb228) (o := .cells #[.int .i64 ((rd_T46 l0 x16_1).f0), .int .i64 ((rd_T46 l0 x16_1).f1), .int .i64 ((rd_T46 l0 x16_1).f2), .int .i64 ((rd_T46 l0 x16_1).f3), .bool ((rd_T46 l0 x16_1).f4)] 46 (0, 0)) (bp BK228) hg (Kd.R_away HO_7.out (fun _ hk => hk.2))); have n1_ := Aside0.mk (hb); have n2_ := Aside0.mk (ho); clear BK228 HB HO_7; have BK228 := n0_; have HB := n1_; have HO231 := n2_; clear n0_ n1_ n2_ ho hb hg hat))
         go_roundg k1
         case measure => have := HK1.out; omega
         case rel => exact ⟨(y229), (wrap64 (x16_1 + 1)), (by first | rfl | (simp; done) | (simp [*]; done)), H', ⟨by have := HK1.out; omega⟩, ⟨mR HO231⟩, ⟨by exact bh⟩⟩
        ·rw [if_neg c11] at H
         exact absurd H (by simp)
       ·rw [if_neg c10] at H
        have c10b0 : ((Go.bits .andNot .i64 ((rd_T46 l0 x16_1).f1) a2) == 0) = false := beq_eq_false_iff_ne.mpr c10
        have c10b1 : ((Go.bits .andNot .i64 ((rd_T46 l0 x16_1).f1) a2) != 0) = true := bne_iff_ne.mpr c10
        have H' := Aside0.mk H
        clear H
        have p227 : 0 ≤ (x16_1 : Int) := oda
        have q227 : x16_1 < (l0.length : Int) := oda
        obtain ⟨ad227, e227, hx227_0, hx227_1, hx227_2, hx227_3, hx227_4⟩ := at_T46 HR0.out x16_1 p227 q227
        cases e227
        replace hx227_0 := (HB.out.cell (World.block_lt_of_cell? w _ hx227_0)).trans hx227_0
        replace hx227_1 := (HB.out.cell (World.block_lt_of_cell? w _ hx227_1)).trans hx227_1
        replace hx227_2 := (HB.out.cell (World.block_lt_of_cell? w _ hx227_2)).trans hx227_2
        replace hx227_3 := (HB.out.cell (World.block_lt_of_cell? w _ hx227_3)).trans hx227_3
        replace hx227_4 := (HB.out.cell (World.block_lt_of_cell? w _ hx227_4)).trans hx227_4
        replace p227 := eq_true p227
        replace q227 := eq_true q227
        go_wp2_with (first | ((with_reducible refine gate_dst (N := 9) rfl ?_); refine box_event ?hg (N := 9) ?hd (cs := #[.int .i64 0, .int .i64 0, .int .i64 0, .int .i64 0, .bool false]) (t := 46) ?hr ?_; (case hd => rfl); (case hg => rfl); (case hr => first | (go_simp; done) | (go_simp; rfl)); intro gb228 hg w15 hbox hb; have n0_ := Aside0.mk (Kd.R_below (Kd.R_elderB (rz HO_7) gb228 (Nat.le_of_eq hg.symm)) hb); have n1_ := Aside0.mk (below_step bh hb); have n2_ := Aside0.mk (hbox); have n3_ := Aside0.mk ((gs (W0 := w) hg bh)); have n4_ := Aside0.mk ((gs (W0 := w) hg bh)); clear HO_7 HB; have HO_7 := n0_; have HB := n1_; have BK228 := n2_; have GW228 := n3_; have GE228 := n4_; clear n0_ n1_ n2_ n3_ n4_ hb hbox hg; have hcz16_0 := cz0 BK228; have hcz16_1 := cz1 BK228; have hcz16_2 := cz2 BK228; have hcz16_3 := cz3 BK228; have hcz16_4 := cz4 BK228; have hfz16_0 := blk_frozen BK228.out 0; have hfz16_1 := blk_frozen BK228.out 1; have hfz16_2 := blk_frozen BK228.out 2; have hfz16_3 := blk_frozen BK228.out 3; have hfz16_4 := blk_frozen BK228.out 4))
        go_roundg k1
        case measure => have := HK1.out; omega
        case rel => exact ⟨(x7_1), (wrap64 (x16_1 + 1)), (by first | rfl | (simp; done) | (simp [*]; done)), H', ⟨by have := HK1.out; omega⟩, ⟨vR HO_7 (fun _ hk => hk.2)⟩, ⟨by exact bh⟩⟩
      ·rw [if_neg c9] at H
       have c9b0 : (((rd_T46 l0 x16_1).f0) == a1) = false := beq_eq_false_iff_ne.mpr c9
       have c9b1 : (((rd_T46 l0 x16_1).f0) != a1) = true := bne_iff_ne.mpr c9
       have H' := Aside0.mk H
       clear H
       have p227 : 0 ≤ (x16_1 : Int) := oda
       have q227 : x16_1 < (l0.length : Int) := oda
       obtain ⟨ad227, e227, hx227_0, hx227_1, hx227_2, hx227_3, hx227_4⟩ := at_T46 HR0.out x16_1 p227 q227
       cases e227
       replace hx227_0 := (HB.out.cell (World.block_lt_of_cell? w _ hx227_0)).trans hx227_0
       replace hx227_1 := (HB.out.cell (World.block_lt_of_cell? w _ hx227_1)).trans hx227_1
       replace hx227_2 := (HB.out.cell (World.block_lt_of_cell? w _ hx227_2)).trans hx227_2
       replace hx227_3 := (HB.out.cell (World.block_lt_of_cell? w _ hx227_3)).trans hx227_3
       replace hx227_4 := (HB.out.cell (World.block_lt_of_cell? w _ hx227_4)).trans hx227_4
       replace p227 := eq_true p227
       replace q227 := eq_true q227
       go_wp2_with (first | ((with_reducible refine gate_dst (N := 9) rfl ?_); refine box_event ?hg (N := 9) ?hd (cs := #[.int .i64 0, .int .i64 0, .int .i64 0, .int .i64 0, .bool false]) (t := 46) ?hr ?_; (case hd => rfl); (case hg => rfl); (case hr => first | (go_simp; done) | (go_simp; rfl)); intro gb228 hg w17 hbox hb; have n0_ := Aside0.mk (Kd.R_below (Kd.R_elderB (rz HO_7) gb228 (Nat.le_of_eq hg.symm)) hb); have n1_ := Aside0.mk (below_step bh hb); have n2_ := Aside0.mk (hbox); have n3_ := Aside0.mk ((gs (W0 := w) hg bh)); have n4_ := Aside0.mk ((gs (W0 := w) hg bh)); clear HO_7 HB; have HO_7 := n0_; have HB := n1_; have BK228 := n2_; have GW228 := n3_; have GE228 := n4_; clear n0_ n1_ n2_ n3_ n4_ hb hbox hg; have hcz18_0 := cz0 BK228; have hcz18_1 := cz1 BK228; have hcz18_2 := cz2 BK228; have hcz18_3 := cz3 BK228; have hcz18_4 := cz4 BK228; have hfz18_0 := blk_frozen BK228.out 0; have hfz18_1 := blk_frozen BK228.out 1; have hfz18_2 := blk_frozen BK228.out 2; have hfz18_3 := blk_frozen BK228.out 3; have hfz18_4 := blk_frozen BK228.out 4))
       go_roundg k1
       case measure => have := HK1.out; omega
       case rel => exact ⟨(x7_1), (wrap64 (x16_1 + 1)), (by first | rfl | (simp; done) | (simp [*]; done)), H', ⟨by have := HK1.out; omega⟩, ⟨vR HO_7 (fun _ hk => hk.2)⟩, ⟨by exact bh⟩⟩
     ·rw [if_neg c8] at H
      exact absurd H (by simp)
    ·rw [if_neg c7] at H
     exact absurd H (by simp)
   ·rw [if_neg c6] at H
    have c6b0 : decide (x16_1 < (l0.length : Int)) = false := decide_eq_false c6
    clear c6
    obtain ⟨y232, hy232⟩ : ∃ y_ : List Int, y_ = (([] : List Int)) := ⟨_, rfl⟩
    replace H : (impl_unbeaten.l1 k1 x7_1 y232 l0 (l0.length : Int) 0) = some r := by first | (rw [hy232]; with_reducible exact H) | (have H2_ := (Option.bind_some _ _).symm.trans H; rw [hy232]; with_reducible exact H2_) | (have H2_ := (Option.bind_some _ _).symm.trans H; with_reducible exact H2_) | with_reducible exact H | (rw [hy232]; exact H) | exact H
    have Ny232 := Aside0.mk hy232
    clear hy232
    have H' := Aside0.mk H
    clear H
    go_wp2_with (first | ((with_reducible refine gate_dst (N := 36) rfl ?_); refine Kd.R_lit (Kd.int .i64) _ 3 ?hg (N := 36) ?hd (xs := ([] : List Int)) (inner := []) (ok := fun _ => True) (okp := fun _ => True) ?hr ?hp (fun _ hk => hk) trivial (Below.refl _ _) (Nat.le_refl _) (by simp) ?_; (case hd => rfl); (case hg => rfl); (case hr => first | (go_simp; done) | (go_simp; rfl)); (case hp => exact (Reps.none _ _)); intro v233 w19 ho20 hb hg_ hnew_; clear hg_ hnew_; (first | rw [← Ny232.out] at ho20 | (simp only [Int.reduceToNat] at ho20; rw [← Ny232.out] at ho20)); have n0_ := Aside0.mk (Kd.R_below (rz HO_7) hb); have n1_ := Aside0.mk (Kd.R_lower ho20 (below_size bh)); have n2_ := Aside0.mk (below_step bh hb); clear HO_7 HB; have HO_7 := n0_; have HO234 := n1_; have HB := n2_; clear n0_ n1_ n2_ hb ho20))
    go_loopg [10, 39] k1 (fun kq v10 v39 w' => ∃ (x10_2 : List Int) (x39_2 : Int), v39 = .int .i64 x39_2 ∧ Aside0 (impl_unbeaten.l1 kq x7_1 x10_2 l0 (l0.length : Int) x39_2 = some r) ∧ Aside0 (kq ≤ k1) ∧ Aside0 (Kd.R k46 46 w' w.heap.size (fun _ => True) u7 x7_1) ∧ Aside0 (Kd.R (Kd.int .i64) 3 w' w.heap.size (fun _ => True) v10 x10_2) ∧ Aside0 (Below w.heap.size w w'))
    case atStart => exact ⟨(y232), (0), (by first | rfl | (simp; done) | (simp [*]; done)), H', ⟨Nat.le_refl _⟩, ⟨rz HO_7⟩, ⟨rz HO234⟩, ⟨by exact bh⟩⟩
    case round =>
     clear H'
     try clear c1
     try clear p2
     try clear q2
     try clear hx2
     try clear c3
     try clear c6
     try clear c6b0
     try clear p6
     try clear c7
     try clear c7b0
     try clear c8
     try clear c8b0
     try clear c9
     try clear c9b0
     try clear c9b1
     try clear c10
     try clear c10b0
     try clear c10b1
     try clear c11
     try clear hcz13_0
     try clear hcz13_1
     try clear hcz13_2
     try clear hcz13_3
     try clear hcz13_4
     try clear hcz16_0
     try clear hcz16_1
     try clear hcz16_2
     try clear hcz16_3
     try clear hcz16_4
     try clear hcz18_0
     try clear hcz18_1
     try clear hcz18_2
     try clear hcz18_3
     try clear hcz18_4
     try clear hfz13_0
     try clear hfz13_1
     try clear hfz13_2
     try clear hfz13_3
     try clear hfz13_4
     try clear hfz16_0
     try clear hfz16_1
     try clear hfz16_2
     try clear hfz16_3
     try clear hfz16_4
     try clear hfz18_0
     try clear hfz18_1
     try clear hfz18_2
     try clear hfz18_3
     try clear hfz18_4
     try clear hx227_0
     try clear hx227_1
     try clear hx227_2
     try clear hx227_3
     try clear hx227_4
     try clear p2
     try clear p227
     try clear q227
     obtain ⟨x10_2, x39_2, rfl, HA, HK2, HO_7, HO_10, HB⟩ := hrel
     cases gk with
     | zero => exact absurd HA.out (by simp [impl_unbeaten.l1])
     | succ k2 =>
      have H := HA.out
      clear HA
      simp only [impl_unbeaten.l1] at H
      by_cases c21 : x39_2 < (l0.length : Int)
      ·rw [if_pos c21] at H
       have c21b0 : decide (x39_2 < (l0.length : Int)) = true := decide_eq_true c21
       clear c21
       by_cases c22 : 0 ≤ x39_2
       ·rw [if_pos c22] at H
        have c22b0 : decide (0 ≤ x39_2) = true := decide_eq_true c22
        clear c22
        by_cases c23 : x39_2 < (l0.length : Int)
        ·rw [if_pos c23] at H
         have c23b0 : decide (x39_2 < (l0.length : Int)) = true := decide_eq_true c23
         clear c23
         replace H := Option.bind_eq_some_iff.mp H
         obtain ⟨t237, A240, H⟩ := H
         replace H : (if t237 = true then ((slices_ContainsFunc_w49.f k2 x7_1 [(⟨(rd_T46 l0 x39_2).f0, (rd_T46 l0 x39_2).f1, (rd_T46 l0 x39_2).f2, (rd_T46 l0 x39_2).f3, (rd_T46 l0 x39_2).f4⟩ : S46)]).bind fun t238 => (if t238 = true then (impl_unbeaten.l1 k2 x7_1 x10_2 l0 (l0.length : Int) (wrap64 (x39_2 + 1))) else (if x10_2.length < 17592186044416 then (impl_unbeaten.l1 k2 x7_1 (x10_2 ++ [x39_2]) l0 (l0.length : Int) (wrap64 (x39_2 + 1))) else (none)))) else (impl_unbeaten.l1 k2 x7_1 x10_2 l0 (l0.length : Int) (wrap64 (x39_2 + 1)))) = some r := H
         have A24 := Aside0.mk A240
         clear A240
         by_cases c25 : t237 = true
         ·subst c25
          have H1 : ((slices_ContainsFunc_w49.f k2 x7_1 [(⟨(rd_T46 l0 x39_2).f0, (rd_T46 l0 x39_2).f1, (rd_T46 l0 x39_2).f2, (rd_T46 l0 x39_2).f3, (rd_T46 l0 x39_2).f4⟩ : S46)]).bind fun t238 => (if t238 = true then (impl_unbeaten.l1 k2 x7_1 x10_2 l0 (l0.length : Int) (wrap64 (x39_2 + 1))) else (if x10_2.length < 17592186044416 then (impl_unbeaten.l1 k2 x7_1 (x10_2 ++ [x39_2]) l0 (l0.length : Int) (wrap64 (x39_2 + 1))) else (none)))) = some r := by rw [if_pos rfl] at H; exact H
          clear H
          have H := H1
          clear H1
          replace H := Option.bind_eq_some_iff.mp H
          obtain ⟨t238, A260, H⟩ := H
          replace H : (if t238 = true then (impl_unbeaten.l1 k2 x7_1 x10_2 l0 (l0.length : Int) (wrap64 (x39_2 + 1))) else (if x10_2.length < 17592186044416 then (impl_unbeaten.l1 k2 x7_1 (x10_2 ++ [x39_2]) l0 (l0.length : Int) (wrap64 (x39_2 + 1))) else (none))) = some r := H
          have A26 := Aside0.mk A260
          clear A260
          by_cases c27 : t238 = true
          ·subst c27
           have H1 : (impl_unbeaten.l1 k2 x7_1 x10_2 l0 (l0.length : Int) (wrap64 (x39_2 + 1))) = some r := by rw [if_pos rfl] at H; exact H
           clear H
           have H := H1
           clear H1
           have H' := Aside0.mk H
           clear H
           have p235 : 0 ≤ (x39_2 : Int) := oda
           have q235 : x39_2 < (l0.length : Int) := oda
           obtain ⟨ad235, e235, hx235_0, hx235_1, hx235_2, hx235_3, hx235_4⟩ := at_T46 HR0.out x39_2 p235 q235
           cases e235
           replace hx235_0 := (HB.out.cell (World.block_lt_of_cell? w _ hx235_0)).trans hx235_0
           replace hx235_1 := (HB.out.cell (World.block_lt_of_cell? w _ hx235_1)).trans hx235_1
           replace hx235_2 := (HB.out.cell (World.block_lt_of_cell? w _ hx235_2)).trans hx235_2
           replace hx235_3 := (HB.out.cell (World.block_lt_of_cell? w _ hx235_3)).trans hx235_3
           replace hx235_4 := (HB.out.cell (World.block_lt_of_cell? w _ hx235_4)).trans hx235_4
           replace p235 := eq_true p235
           replace q235 := eq_true q235
           go_wp2_with (first | ((with_reducible refine gate_dst (N := 12) rfl ?_); refine box_event ?hg (N := 12) ?hd (cs := #[.int .i64 0, .int .i64 0, .int .i64 0, .int .i64 0, .bool false]) (t := 46) ?hr ?_; (case hd => rfl); (case hg => rfl); (case hr => first | (go_simp; done) | (go_simp; rfl)); intro gb236 hg w28 hbox hb; have n0_ := Aside0.mk (Kd.R_below (Kd.R_elderB (rz HO_7) gb236 (Nat.le_of_eq hg.symm)) hb); have n1_ := Aside0.mk (Kd.R_below (rz HO_10) hb); have n2_ := Aside0.mk (below_step bh hb); have n3_ := Aside0.mk (hbox); have n4_ := Aside0.mk ((gs (W0 := w) hg bh)); have n5_ := Aside0.mk ((gs (W0 := w) hg bh)); clear HO_7 HO_10 HB; have HO_7 := n0_; have HO_10 := n1_; have HB := n2_; have BK236 := n3_; have GW236 := n4_; have GE236 := n5_; clear n0_ n1_ n2_ n3_ n4_ n5_ hb hbox hg; have hcz29_0 := cz0 BK236; have hcz29_1 := cz1 BK236; have hcz29_2 := cz2 BK236; have hcz29_3 := cz3 BK236; have hcz29_4 := cz4 BK236; have hfz29_0 := blk_frozen BK236.out 0; have hfz29_1 := blk_frozen BK236.out 1; have hfz29_2 := blk_frozen BK236.out 2; have hfz29_3 := blk_frozen BK236.out 3; have hfz29_4 := blk_frozen BK236.out 4; obtain ⟨Ao30, co30, eo30⟩ := Kd.R_slice HO_7.out; subst eo30) | ((with_reducible refine gate_callee (f := 48) rfl ?_); refine goesL_ (some 46) rfl rfl Try.func48 kr rfl #[.slice Ao30 x7_1.length co30, .agg #[.int .i64 ((rd_T46 l0 x39_2).f0), .int .i64 ((rd_T46 l0 x39_2).f1), .int .i64 ((rd_T46 l0 x39_2).f2), .int .i64 ((rd_T46 l0 x39_2).f3), .bool ((rd_T46 l0 x39_2).f4)]] rfl lm ?_; (with_reducible refine (impl_Law_48.calls k2 _ _ x7_1 ((rd_T46 l0 x39_2).f0) ((rd_T46 l0 x39_2).f1) ((rd_T46 l0 x39_2).f2) ((rd_T46 l0 x39_2).f3) ((rd_T46 l0 x39_2).f4) true _ ?side1 ?side2 A24.out).mono ?_); (case side1 => refine (Kd.R_reads' (e := 46) (base := w.heap.size) (ok := fun k_ => (True ∧ k_ ≠ gb236)) (n := x7_1.length) (c := co30) ?_).2.2; exact (uR HO_7 (fun _ hk => hk.2))); (case side2 => exact (Kd.R_reads' HO_7.out).2.1); rintro e w31 ⟨rfl, hb⟩; refine ⟨_, rfl, ?_⟩; have n0_ := Aside0.mk (Kd.R_below (uR HO_7 (fun _ hk => hk.2)) hb); have n1_ := Aside0.mk (Kd.R_below (fR HO_10 BK236) hb); have n2_ := Aside0.mk (blk_below (g := gb236) (o := .cells #[.int .i64 ((rd_T46 l0 x39_2).f0), .int .i64 ((rd_T46 l0 x39_2).f1), .int .i64 ((rd_T46 l0 x39_2).f2), .int .i64 ((rd_T46 l0 x39_2).f3), .bool ((rd_T46 l0 x39_2).f4)] 46 (0, 0)) (bp BK236) hb); have n3_ := Aside0.mk (below_step bh hb); clear HO_7 HO_10 BK236 HB; have HO_7 := n0_; have HO_10 := n1_; have BK236 := n2_; have HB := n3_; clear n0_ n1_ n2_ n3_; (try clear hb); (try clear hb2); (try clear hk); (try clear hi); have hcz32_0 : w31.cell? ⟨gb236, 0, none⟩ = some (.int .i64 ((rd_T46 l0 x39_2).f0)) := (blk_cell BK236.out 0).trans rfl; have hcz32_1 : w31.cell? ⟨gb236, 1, none⟩ = some (.int .i64 ((rd_T46 l0 x39_2).f1)) := (blk_cell BK236.out 1).trans rfl; have hcz32_2 : w31.cell? ⟨gb236, 2, none⟩ = some (.int .i64 ((rd_T46 l0 x39_2).f2)) := (blk_cell BK236.out 2).trans rfl; have hcz32_3 : w31.cell? ⟨gb236, 3, none⟩ = some (.int .i64 ((rd_T46 l0 x39_2).f3)) := (blk_cell BK236.out 3).trans rfl; have hcz32_4 : w31.cell? ⟨gb236, 4, none⟩ = some (.bool ((rd_T46 l0 x39_2).f4)) := (blk_cell BK236.out 4).trans rfl; have hfz32_0 := blk_frozen BK236.out 0; have hfz32_1 := blk_frozen BK236.out 1; have hfz32_2 := blk_frozen BK236.out 2; have hfz32_3 := blk_frozen BK236.out 3; have hfz32_4 := blk_frozen BK236.out 4) | (go_at_call 44; (with_reducible refine (slices_ContainsFunc_w49.calls k2 _ _ x7_1 (some ⟨gb236, 0, none⟩) [(⟨(rd_T46 l0 x39_2).f0, (rd_T46 l0 x39_2).f1, (rd_T46 l0 x39_2).f2, (rd_T46 l0 x39_2).f3, (rd_T46 l0 x39_2).f4⟩ : S46)].length [(⟨(rd_T46 l0 x39_2).f0, (rd_T46 l0 x39_2).f1, (rd_T46 l0 x39_2).f2, (rd_T46 l0 x39_2).f3, (rd_T46 l0 x39_2).f4⟩ : S46)] true _ ?side1 ?side2 ?side3 ?side4 A26.out).mono ?_); (case side1 => repeat (first | exact (Kd.R_reads' HO_7.out).2.2 | (with_reducible refine Kd.C_alloc ?_ _) | (with_reducible refine Kd.C_drewN ?_ _) | (with_reducible refine Kd.C_drew ?_))); (case side2 => exact (Kd.R_reads' HO_7.out).2.1); (case side3 => exact Opens.C_box (bz BK236) (k46_mk _ (⟨(rd_T46 l0 x39_2).f0, (rd_T46 l0 x39_2).f1, (rd_T46 l0 x39_2).f2, (rd_T46 l0 x39_2).f3, (rd_T46 l0 x39_2).f4⟩ : S46))); (case side4 => exact Nat.le_refl _); rintro e w33 ⟨rfl, hb⟩; have n0_ := Aside0.mk (Kd.R_below (rz HO_7) hb); have n1_ := Aside0.mk (Kd.R_below (rz HO_10) hb); have n2_ := Aside0.mk (blk_below (bz BK236) hb); have n3_ := Aside0.mk (below_step bh hb); clear HO_7 HO_10 BK236 HB; have HO_7 := n0_; have HO_10 := n1_; have BK236 := n2_; have HB := n3_; clear n0_ n1_ n2_ n3_; (try clear hb); (try clear hb2); (try clear hk); (try clear hi)))
           go_roundg k2
           case measure => have := HK1.out; have := HK2.out; omega
           case rel => exact ⟨(x10_2), (wrap64 (x39_2 + 1)), (by first | rfl | (simp; done) | (simp [*]; done)), H', ⟨by have := HK1.out; have := HK2.out; omega⟩, ⟨mR HO_7⟩, ⟨rz HO_10⟩, ⟨by exact bh⟩⟩
          ·replace c27 := Bool.eq_false_iff.mpr c27
           subst c27
           have H1 : (if x10_2.length < 17592186044416 then (impl_unbeaten.l1 k2 x7_1 (x10_2 ++ [x39_2]) l0 (l0.length : Int) (wrap64 (x39_2 + 1))) else (none)) = some r := by rw [if_neg (show ¬ (false = true) by decide)] at H; exact H
           clear H
           have H := H1
           clear H1
           by_cases c34 : x10_2.length < 17592186044416
           ·rw [if_pos c34] at H
            have LMc34 := Aside0.mk c34
            clear c34
            obtain ⟨y239, hy239⟩ : ∃ y_ : List Int, y_ = (x10_2 ++ [x39_2]) := ⟨_, rfl⟩
            replace H : (impl_unbeaten.l1 k2 x7_1 y239 l0 (l0.length : Int) (wrap64 (x39_2 + 1))) = some r := by first | (rw [hy239]; with_reducible exact H) | (have H2_ := (Option.bind_some _ _).symm.trans H; rw [hy239]; with_reducible exact H2_) | (have H2_ := (Option.bind_some _ _).symm.trans H; with_reducible exact H2_) | with_reducible exact H | (rw [hy239]; exact H) | exact H
            have Ny239 := Aside0.mk hy239
            clear hy239
            have H' := Aside0.mk H
            clear H
            have p235 : 0 ≤ (x39_2 : Int) := oda
            have q235 : x39_2 < (l0.length : Int) := oda
            obtain ⟨ad235, e235, hx235_0, hx235_1, hx235_2, hx235_3, hx235_4⟩ := at_T46 HR0.out x39_2 p235 q235
            cases e235
            replace hx235_0 := (HB.out.cell (World.block_lt_of_cell? w _ hx235_0)).trans hx235_0
            replace hx235_1 := (HB.out.cell (World.block_lt_of_cell? w _ hx235_1)).trans hx235_1
            replace hx235_2 := (HB.out.cell (World.block_lt_of_cell? w _ hx235_2)).trans hx235_2
            replace hx235_3 := (HB.out.cell (World.block_lt_of_cell? w _ hx235_3)).trans hx235_3
            replace hx235_4 := (HB.out.cell (World.block_lt_of_cell? w _ hx235_4)).trans hx235_4
            replace p235 := eq_true p235
            replace q235 := eq_true q235
            go_wp2_with (first | ((with_reducible refine gate_dst (N := 12) rfl ?_); refine box_event ?hg (N := 12) ?hd (cs := #[.int .i64 0, .int .i64 0, .int .i64 0, .int .i64 0, .bool false]) (t := 46) ?hr ?_; (case hd => rfl); (case hg => rfl); (case hr => first | (go_simp; done) | (go_simp; rfl)); intro gb236 hg w35 hbox hb; have n0_ := Aside0.mk (Kd.R_below (Kd.R_elderB (rz HO_7) gb236 (Nat.le_of_eq hg.symm)) hb); have n1_ := Aside0.mk (Kd.R_below (rz HO_10) hb); have n2_ := Aside0.mk (below_step bh hb); have n3_ := Aside0.mk (hbox); have n4_ := Aside0.mk ((gs (W0 := w) hg bh)); have n5_ := Aside0.mk ((gs (W0 := w) hg bh)); clear HO_7 HO_10 HB; have HO_7 := n0_; have HO_10 := n1_; have HB := n2_; have BK236 := n3_; have GW236 := n4_; have GE236 := n5_; clear n0_ n1_ n2_ n3_ n4_ n5_ hb hbox hg; have hcz36_0 := cz0 BK236; have hcz36_1 := cz1 BK236; have hcz36_2 := cz2 BK236; have hcz36_3 := cz3 BK236; have hcz36_4 := cz4 BK236; have hfz36_0 := blk_frozen BK236.out 0; have hfz36_1 := blk_frozen BK236.out 1; have hfz36_2 := blk_frozen BK236.out 2; have hfz36_3 := blk_frozen BK236.out 3; have hfz36_4 := blk_frozen BK236.out 4; obtain ⟨Ao37, co37, eo37⟩ := Kd.R_slice HO_7.out; subst eo37) | ((with_reducible refine gate_callee (f := 48) rfl ?_); refine goesL_ (some 46) rfl rfl Try.func48 kr rfl #[.slice Ao37 x7_1.length co37, .agg #[.int .i64 ((rd_T46 l0 x39_2).f0), .int .i64 ((rd_T46 l0 x39_2).f1), .int .i64 ((rd_T46 l0 x39_2).f2), .int .i64 ((rd_T46 l0 x39_2).f3), .bool ((rd_T46 l0 x39_2).f4)]] rfl lm ?_; (with_reducible refine (impl_Law_48.calls k2 _ _ x7_1 ((rd_T46 l0 x39_2).f0) ((rd_T46 l0 x39_2).f1) ((rd_T46 l0 x39_2).f2) ((rd_T46 l0 x39_2).f3) ((rd_T46 l0 x39_2).f4) true _ ?side1 ?side2 A24.out).mono ?_); (case side1 => refine (Kd.R_reads' (e := 46) (base := w.heap.size) (ok := fun k_ => (True ∧ k_ ≠ gb236)) (n := x7_1.length) (c := co37) ?_).2.2; exact (uR HO_7 (fun _ hk => hk.2))); (case side2 => exact (Kd.R_reads' HO_7.out).2.1); rintro e w38 ⟨rfl, hb⟩; refine ⟨_, rfl, ?_⟩; have n0_ := Aside0.mk (Kd.R_below (uR HO_7 (fun _ hk => hk.2)) hb); have n1_ := Aside0.mk (Kd.R_below (fR HO_10 BK236) hb); have n2_ := Aside0.mk (blk_below (g := gb236) (o := .cells #[.int .i64 ((rd_T46 l0 x39_2).f0), .int .i64 ((rd_T46 l0 x39_2).f1), .int .i64 ((rd_T46 l0 x39_2).f2), .int .i64 ((rd_T46 l0 x39_2).f3), .bool ((rd_T46 l0 x39_2).f4)] 46 (0, 0)) (bp BK236) hb); have n3_ := Aside0.mk (below_step bh hb); clear HO_7 HO_10 BK236 HB; have HO_7 := n0_; have HO_10 := n1_; have BK236 := n2_; have HB := n3_; clear n0_ n1_ n2_ n3_; (try clear hb); (try clear hb2); (try clear hk); (try clear hi); have hcz39_0 : w38.cell? ⟨gb236, 0, none⟩ = some (.int .i64 ((rd_T46 l0 x39_2).f0)) := (blk_cell BK236.out 0).trans rfl; have hcz39_1 : w38.cell? ⟨gb236, 1, none⟩ = some (.int .i64 ((rd_T46 l0 x39_2).f1)) := (blk_cell BK236.out 1).trans rfl; have hcz39_2 : w38.cell? ⟨gb236, 2, none⟩ = some (.int .i64 ((rd_T46 l0 x39_2).f2)) := (blk_cell BK236.out 2).trans rfl; have hcz39_3 : w38.cell? ⟨gb236, 3, none⟩ = some (.int .i64 ((rd_T46 l0 x39_2).f3)) := (blk_cell BK236.out 3).trans rfl; have hcz39_4 : w38.cell? ⟨gb236, 4, none⟩ = some (.bool ((rd_T46 l0 x39_2).f4)) := (blk_cell BK236.out 4).trans rfl; have hfz39_0 := blk_frozen BK236.out 0; have hfz39_1 := blk_frozen BK236.out 1; have hfz39_2 := blk_frozen BK236.out 2; have hfz39_3 := blk_frozen BK236.out 3; have hfz39_4 := blk_frozen BK236.out 4) | (go_at_call 44; (with_reducible refine (slices_ContainsFunc_w49.calls k2 _ _ x7_1 (some ⟨gb236, 0, none⟩) [(⟨(rd_T46 l0 x39_2).f0, (rd_T46 l0 x39_2).f1, (rd_T46 l0 x39_2).f2, (rd_T46 l0 x39_2).f3, (rd_T46 l0 x39_2).f4⟩ : S46)].length [(⟨(rd_T46 l0 x39_2).f0, (rd_T46 l0 x39_2).f1, (rd_T46 l0 x39_2).f2, (rd_T46 l0 x39_2).f3, (rd_T46 l0 x39_2).f4⟩ : S46)] false _ ?side1 ?side2 ?side3 ?side4 A26.out).mono ?_); (case side1 => repeat (first | exact (Kd.R_reads' HO_7.out).2.2 | (with_reducible refine Kd.C_alloc ?_ _) | (with_reducible refine Kd.C_drewN ?_ _) | (with_reducible refine Kd.C_drew ?_))); (case side2 => exact (Kd.R_reads' HO_7.out).2.1); (case side3 => exact Opens.C_box (bz BK236) (k46_mk _ (⟨(rd_T46 l0 x39_2).f0, (rd_T46 l0 x39_2).f1, (rd_T46 l0 x39_2).f2, (rd_T46 l0 x39_2).f3, (rd_T46 l0 x39_2).f4⟩ : S46))); (case side4 => exact Nat.le_refl _); rintro e w40 ⟨rfl, hb⟩; have n0_ := Aside0.mk (Kd.R_below (rz HO_7) hb); have n1_ := Aside0.mk (Kd.R_below (rz HO_10) hb); have n2_ := Aside0.mk (blk_below (bz BK236) hb); have n3_ := Aside0.mk (below_step bh hb); clear HO_7 HO_10 BK236 HB; have HO_7 := n0_; have HO_10 := n1_; have BK236 := n2_; have HB := n3_; clear n0_ n1_ n2_ n3_; (try clear hb); (try clear hb2); (try clear hk); (try clear hi)) | ((with_reducible refine gate_builtin (b := .append) (xs := #[.tmp 53, .tmp 55]) rfl ?_); at_builtin; refine Kd.R_append (Kd.int .i64) (w0 := w) w.heap.size rfl (.tmp 53) (.tmp 55) 31 3 (.int .i64 0) 8 rfl Try.underlying31 info3 rfl (by decide) (by omega) u10 x10_2 x39_2 [.int .i64 x39_2] (fun _ => True) (fun _ => False) rfl rfl ?aP (fun _ hk => hk.elim) ?aF ?aO ?aB ?aS ?aL ?_; (case aP => exact rfl); (case aB => exact bh); (case aF => exact (fun _ _ => trivial)); (case aO => exact (rz HO_10)); (case aS => exact (below_size bh)); (case aL => have := LMc34.out; omega); intro v240 w41 ho hb hg hat; rw [← Ny239.out] at ho; have n0_ := Aside0.mk (Kd.R_over' (rz HO_7) (Kd.R_typed (rz HO_10)) (by decide) hg); have n1_ := Aside0.mk (blk_grown (bz BK236) hg (Kd.R_ne HO_10.out BK236.out (by decide))); have n2_ := Aside0.mk (hb); have n3_ := Aside0.mk (ho); clear HO_7 BK236 HB HO_10; have HO_7 := n0_; have BK236 := n1_; have HB := n2_; have HO241 := n3_; clear n0_ n1_ n2_ n3_ ho hb hg hat))
            go_roundg k2
            case measure => have := HK1.out; have := HK2.out; omega
            case rel => exact ⟨(y239), (wrap64 (x39_2 + 1)), (by first | rfl | (simp; done) | (simp [*]; done)), H', ⟨by have := HK1.out; have := HK2.out; omega⟩, ⟨mR HO_7⟩, ⟨rz HO241⟩, ⟨by exact bh⟩⟩
           ·rw [if_neg c34] at H
            exact absurd H (by simp)
         ·replace c25 := Bool.eq_false_iff.mpr c25
          subst c25
          have H1 : (impl_unbeaten.l1 k2 x7_1 x10_2 l0 (l0.length : Int) (wrap64 (x39_2 + 1))) = some r := by rw [if_neg (show ¬ (false = true) by decide)] at H; exact H
          clear H
          have H := H1
          clear H1
          have H' := Aside0.mk H
          clear H
          have p235 : 0 ≤ (x39_2 : Int) := oda
          have q235 : x39_2 < (l0.length : Int) := oda
          obtain ⟨ad235, e235, hx235_0, hx235_1, hx235_2, hx235_3, hx235_4⟩ := at_T46 HR0.out x39_2 p235 q235
          cases e235
          replace hx235_0 := (HB.out.cell (World.block_lt_of_cell? w _ hx235_0)).trans hx235_0
          replace hx235_1 := (HB.out.cell (World.block_lt_of_cell? w _ hx235_1)).trans hx235_1
          replace hx235_2 := (HB.out.cell (World.block_lt_of_cell? w _ hx235_2)).trans hx235_2
          replace hx235_3 := (HB.out.cell (World.block_lt_of_cell? w _ hx235_3)).trans hx235_3
          replace hx235_4 := (HB.out.cell (World.block_lt_of_cell? w _ hx235_4)).trans hx235_4
          replace p235 := eq_true p235
          replace q235 := eq_true q235
          go_wp2_with (first | ((with_reducible refine gate_dst (N := 12) rfl ?_); refine box_event ?hg (N := 12) ?hd (cs := #[.int .i64 0, .int .i64 0, .int .i64 0, .int .i64 0, .bool false]) (t := 46) ?hr ?_; (case hd => rfl); (case hg => rfl); (case hr => first | (go_simp; done) | (go_simp; rfl)); intro gb236 hg w42 hbox hb; have n0_ := Aside0.mk (Kd.R_below (Kd.R_elderB (rz HO_7) gb236 (Nat.le_of_eq hg.symm)) hb); have n1_ := Aside0.mk (Kd.R_below (rz HO_10) hb); have n2_ := Aside0.mk (below_step bh hb); have n3_ := Aside0.mk (hbox); have n4_ := Aside0.mk ((gs (W0 := w) hg bh)); have n5_ := Aside0.mk ((gs (W0 := w) hg bh)); clear HO_7 HO_10 HB; have HO_7 := n0_; have HO_10 := n1_; have HB := n2_; have BK236 := n3_; have GW236 := n4_; have GE236 := n5_; clear n0_ n1_ n2_ n3_ n4_ n5_ hb hbox hg; have hcz43_0 := cz0 BK236; have hcz43_1 := cz1 BK236; have hcz43_2 := cz2 BK236; have hcz43_3 := cz3 BK236; have hcz43_4 := cz4 BK236; have hfz43_0 := blk_frozen BK236.out 0; have hfz43_1 := blk_frozen BK236.out 1; have hfz43_2 := blk_frozen BK236.out 2; have hfz43_3 := blk_frozen BK236.out 3; have hfz43_4 := blk_frozen BK236.out 4; obtain ⟨Ao44, co44, eo44⟩ := Kd.R_slice HO_7.out; subst eo44) | ((with_reducible refine gate_callee (f := 48) rfl ?_); refine goesL_ (some 46) rfl rfl Try.func48 kr rfl #[.slice Ao44 x7_1.length co44, .agg #[.int .i64 ((rd_T46 l0 x39_2).f0), .int .i64 ((rd_T46 l0 x39_2).f1), .int .i64 ((rd_T46 l0 x39_2).f2), .int .i64 ((rd_T46 l0 x39_2).f3), .bool ((rd_T46 l0 x39_2).f4)]] rfl lm ?_; (with_reducible refine (impl_Law_48.calls k2 _ _ x7_1 ((rd_T46 l0 x39_2).f0) ((rd_T46 l0 x39_2).f1) ((rd_T46 l0 x39_2).f2) ((rd_T46 l0 x39_2).f3) ((rd_T46 l0 x39_2).f4) false _ ?side1 ?side2 A24.out).mono ?_); (case side1 => refine (Kd.R_reads' (e := 46) (base := w.heap.size) (ok := fun k_ => (True ∧ k_ ≠ gb236)) (n := x7_1.length) (c := co44) ?_).2.2; exact (uR HO_7 (fun _ hk => hk.2))); (case side2 => exact (Kd.R_reads' HO_7.out).2.1); rintro e w45 ⟨rfl, hb⟩; refine ⟨_, rfl, ?_⟩; have n0_ := Aside0.mk (Kd.R_below (uR HO_7 (fun _ hk => hk.2)) hb); have n1_ := Aside0.mk (Kd.R_below (fR HO_10 BK236) hb); have n2_ := Aside0.mk (blk_below (g := gb236) (o := .cells #[.int .i64 ((rd_T46 l0 x39_2).f0), .int .i64 ((rd_T46 l0 x39_2).f1), .int .i64 ((rd_T46 l0 x39_2).f2), .int .i64 ((rd_T46 l0 x39_2).f3), .bool ((rd_T46 l0 x39_2).f4)] 46 (0, 0)) (bp BK236) hb); have n3_ := Aside0.mk (below_step bh hb); clear HO_7 HO_10 BK236 HB; have HO_7 := n0_; have HO_10 := n1_; have BK236 := n2_; have HB := n3_; clear n0_ n1_ n2_ n3_; (try clear hb); (try clear hb2); (try clear hk); (try clear hi)))
          go_roundg k2
          case measure => have := HK1.out; have := HK2.out; omega
          case rel => exact ⟨(x10_2), (wrap64 (x39_2 + 1)), (by first | rfl | (simp; done) | (simp [*]; done)), H', ⟨by have := HK1.out; have := HK2.out; omega⟩, ⟨mR HO_7⟩, ⟨rz HO_10⟩, ⟨by exact bh⟩⟩
        ·rw [if_neg c23] at H
         exact absurd H (by simp)
       ·rw [if_neg c22] at H
        exact absurd H (by simp)
      ·rw [if_neg c21] at H
       have c21b0 : decide (x39_2 < (l0.length : Int)) = false := decide_eq_false c21
       clear c21
       obtain rfl := Option.some.inj H
       go_wp2
       go_ret
       exact ⟨_, by first | rfl | (simp [errW_none, errW_some] <;> rfl) | (simp [*, errW_none, errW_some] <;> rfl), by (with_reducible repeat (first | apply Kd.R_alloc | apply Kd.R_drewN | apply Kd.R_drew)); exact HO_10.out, by exact bh⟩

/-! ### impl_says: function 36 -/
mutual
def impl_says.l0 : Nat → List (S46) → Bool → Bool → List Int → Int → Int → Option (Int)
 | 0, _, _, _, _, _, _ => none
 | k + 1, x0, x7, x8, x14, x15, x16 => if x16 < x15 then (if 0 ≤ x16 then (if x16 < (x14.length : Int) then (if x7 = true then (if x8 = true then (impl_says.l0 k x0 true true x14 x15 (wrap64 (x16 + 1))) else (if 0 ≤ (rd x14 x16) then (if (rd x14 x16) < (x0.length : Int) then (impl_says.l0 k x0 true (!((rd_T46 x0 (rd x14 x16)).f4)) x14 x15 (wrap64 (x16 + 1))) else (none)) else (none))) else (if 0 ≤ (rd x14 x16) then (if (rd x14 x16) < (x0.length : Int) then (if x8 = true then (impl_says.l0 k x0 ((rd_T46 x0 (rd x14 x16)).f4) true x14 x15 (wrap64 (x16 + 1))) else (impl_says.l0 k x0 ((rd_T46 x0 (rd x14 x16)).f4) (!((rd_T46 x0 (rd x14 x16)).f4)) x14 x15 (wrap64 (x16 + 1)))) else (none)) else (none))) else (none)) else (none)) else (if x7 = true then (impl_says.j1 k x7 x8 x8) else (impl_says.j1 k x7 x8 false))
def impl_says.j1 : Nat → Bool → Bool → Bool → Option (Int)
 | 0, _, _, _ => none
 | k + 1, x7, x8, x38 => if x38 = true then (some 2) else (if x7 = true then (some 1) else (if x8 = true then (some 0) else (some 3)))
end
def impl_says.f (k : Nat) (l0 : List (S46)) (a1 : Int) (a2 : Int) : Option (Int) := (impl_unbeaten.f k l0 a1 a2).bind fun t242 => (impl_says.l0 k l0 false false t242 (t242.length : Int) 0)
theorem impl_says.mono_l : ∀ k, (∀ y0 y1 y2 y3 y4 y5, LeO (impl_says.l0 k y0 y1 y2 y3 y4 y5) (impl_says.l0 (k + 1) y0 y1 y2 y3 y4 y5)) ∧ (∀ y0 y1 y2, LeO (impl_says.j1 k y0 y1 y2) (impl_says.j1 (k + 1) y0 y1 y2))
 | 0 => ⟨fun _ _ _ _ _ _ r h => by simp [impl_says.l0] at h, fun _ _ _ r h => by simp [impl_says.j1] at h⟩
 | k + 1 => by
  obtain ⟨ih0, ih1⟩ := impl_says.mono_l k
  refine ⟨?_, ?_⟩
  ·intro y0 y1 y2 y3 y4 y5
   unfold impl_says.l0
   repeat' first
   | (with_reducible exact ih0 _ _ _ _ _ _)
   | (with_reducible exact ih1 _ _ _)
   | (with_reducible exact impl_unbeaten.mono _ _ _ _)
   | (with_reducible exact LeO.refl _)
   | (with_reducible exact LeO.none _)
   | (with_reducible refine LeO.ite ?_ ?_)
   | (with_reducible refine LeO.bind ?_ (fun _ => ?_))
   | exact ih0 _ _ _ _ _ _
   | exact ih1 _ _ _
   | exact impl_unbeaten.mono _ _ _ _
   | exact LeO.none _
   | refine LeO.ite ?_ ?_
   | refine LeO.bind ?_ (fun _ => ?_)
  ·intro y0 y1 y2
   unfold impl_says.j1
   repeat' first
   | (with_reducible exact ih0 _ _ _ _ _ _)
   | (with_reducible exact ih1 _ _ _)
   | (with_reducible exact impl_unbeaten.mono _ _ _ _)
   | (with_reducible exact LeO.refl _)
   | (with_reducible exact LeO.none _)
   | (with_reducible refine LeO.ite ?_ ?_)
   | (with_reducible refine LeO.bind ?_ (fun _ => ?_))
   | exact ih0 _ _ _ _ _ _
   | exact ih1 _ _ _
   | exact impl_unbeaten.mono _ _ _ _
   | exact LeO.none _
   | refine LeO.ite ?_ ?_
   | refine LeO.bind ?_ (fun _ => ?_)
theorem impl_says.mono : ∀ a0 a1 a2 k, LeO (impl_says.f k a0 a1 a2) (impl_says.f (k + 1) a0 a1 a2) := by
 intro a0 a1 a2 k
 obtain ⟨ih0, ih1⟩ := impl_says.mono_l k
 unfold impl_says.f
 repeat' first
   | (with_reducible exact ih0 _ _ _ _ _ _)
   | (with_reducible exact ih1 _ _ _)
   | (with_reducible exact impl_unbeaten.mono _ _ _ _)
   | (with_reducible exact LeO.refl _)
   | (with_reducible exact LeO.none _)
   | (with_reducible refine LeO.ite ?_ ?_)
   | (with_reducible refine LeO.bind ?_ (fun _ => ?_))
   | exact ih0 _ _ _ _ _ _
   | exact ih1 _ _ _
   | exact impl_unbeaten.mono _ _ _ _
   | exact LeO.none _
   | refine LeO.ite ?_ ?_
   | refine LeO.bind ?_ (fun _ => ?_)
set_option maxHeartbeats 8000000 in
set_option maxRecDepth 100000 in
theorem impl_says.calls (k : Nat) (A0 : Option Addr) (c0 : Nat) (l0 : List (S46)) (a1 : Int) (a2 : Int) (r : Int) (w : World) (hr0 : Kd.C k46 w A0 l0.length l0) (hc0 : l0.length ≤ c0) (h : impl_says.f k l0 a1 a2 = some r) :
  Calls Try.prog 36 #[.slice A0 l0.length c0, .int .i64 a1, .int .i64 a2] w fun e w' => e = .returned (.int .i64 r) ∧ Below w.heap.size w w' := by
 have HR0 := Aside0.mk hr0
 have HC0 := Aside0.mk hc0
 clear hr0 hc0
 have HB := Aside0.mk (Below.refl w.heap.size w)
 have H : ((impl_unbeaten.f k l0 a1 a2).bind fun t242 => (impl_says.l0 k l0 false false t242 (t242.length : Int) 0)) = some r := h
 clear h
 replace H := Option.bind_eq_some_iff.mp H
 obtain ⟨t242, A40, H⟩ := H
 replace H : (impl_says.l0 k l0 false false t242 (t242.length : Int) 0) = some r := H
 have A4 := Aside0.mk A40
 clear A40
 have H' := Aside0.mk H
 clear H
 go_enter Try.func36, Try.ntmps36
 go_wp2_with (first | ((with_reducible refine gate_callee (f := 35) rfl ?_); refine goesL_ (some 14) rfl rfl Try.func35 kr rfl #[.slice A0 l0.length c0, .int .i64 a1, .int .i64 a2] rfl lm ?_; (with_reducible refine (impl_unbeaten.calls k _ _ l0 a1 a2 t242 _ ?side1 ?side2 A4.out).mono ?_); (case side1 => repeat (first | exact HR0.out | (with_reducible refine Kd.C_alloc ?_ _) | (with_reducible refine Kd.C_drewN ?_ _) | (with_reducible refine Kd.C_drew ?_))); (case side2 => exact HC0.out); rintro e w5 ⟨v243, rfl, ho0, hb⟩; refine ⟨_, rfl, ?_⟩; have n0_ := Aside0.mk (Kd.R_lower ho0 (below_size bh)); have n1_ := Aside0.mk (below_step bh hb); clear HB; have HO244 := n0_; have HB := n1_; clear n0_ n1_; (try clear hb); (try clear hb2); (try clear hk); (try clear hi); (try clear ho0); obtain ⟨Ao6, co6, eo6⟩ := Kd.R_slice HO244.out; subst eo6))
 go_loopg [7, 8, 16] k (fun kq v7 v8 v16 w' => ∃ (x7_1 : Bool) (x8_1 : Bool) (x16_1 : Int), v7 = .bool x7_1 ∧ v8 = .bool x8_1 ∧ v16 = .int .i64 x16_1 ∧ Aside0 (impl_says.l0 kq l0 x7_1 x8_1 t242 (t242.length : Int) x16_1 = some r) ∧ Aside0 (kq ≤ k) ∧ Aside0 (Kd.R (Kd.int .i64) 3 w' w.heap.size (fun _ => True) (.slice Ao6 t242.length co6) t242) ∧ Aside0 (Below w.heap.size w w'))
 case atStart => exact ⟨(false), (false), (0), (by first | rfl | (simp; done) | (simp [*]; done)), (by first | rfl | (simp; done) | (simp [*]; done)), (by first | rfl | (simp; done) | (simp [*]; done)), H', ⟨Nat.le_refl _⟩, ⟨rz HO244⟩, ⟨by exact bh⟩⟩
 case round =>
  clear H'
  try clear p2
  try clear c3
  obtain ⟨x7_1, x8_1, x16_1, rfl, rfl, rfl, HA, HK1, HO_14, HB⟩ := hrel
  cases gk with
  | zero => exact absurd HA.out (by simp [impl_says.l0])
  | succ k1 =>
   have H := HA.out
   clear HA
   simp only [impl_says.l0] at H
   by_cases c7 : x16_1 < (t242.length : Int)
   ·rw [if_pos c7] at H
    have c7b0 : decide (x16_1 < (t242.length : Int)) = true := decide_eq_true c7
    clear c7
    by_cases c8 : 0 ≤ x16_1
    ·rw [if_pos c8] at H
     have c8b0 : decide (0 ≤ x16_1) = true := decide_eq_true c8
     clear c8
     by_cases c9 : x16_1 < (t242.length : Int)
     ·rw [if_pos c9] at H
      have c9b0 : decide (x16_1 < (t242.length : Int)) = true := decide_eq_true c9
      clear c9
      by_cases c10 : x7_1 = true
      ·subst c10
       have H1 : (if x8_1 = true then (impl_says.l0 k1 l0 true true t242 (t242.length : Int) (wrap64 (x16_1 + 1))) else (if 0 ≤ (rd t242 x16_1) then (if (rd t242 x16_1) < (l0.length : Int) then (impl_says.l0 k1 l0 true (!((rd_T46 l0 (rd t242 x16_1)).f4)) t242 (t242.length : Int) (wrap64 (x16_1 + 1))) else (none)) else (none))) = some r := by rw [if_pos rfl] at H; exact H
       clear H
       have H := H1
       clear H1
       by_cases c11 : x8_1 = true
       ·subst c11
        have H1 : (impl_says.l0 k1 l0 true true t242 (t242.length : Int) (wrap64 (x16_1 + 1))) = some r := by rw [if_pos rfl] at H; exact H
        clear H
        have H := H1
        clear H1
        have H' := Aside0.mk H
        clear H
        have p245 : 0 ≤ (x16_1 : Int) := oda
        have q245 : x16_1 < (t242.length : Int) := oda
        obtain ⟨ad245, e245, hx245_0⟩ := Kd.at_int (Kd.R_reads' HO_14.out).2.2 x16_1 p245 q245
        cases e245
        replace p245 := eq_true p245
        replace q245 := eq_true q245
        go_wp2
        go_roundg k1
        case measure => have := HK1.out; omega
        case rel => exact ⟨(true), (true), (wrap64 (x16_1 + 1)), (by first | rfl | (simp; done) | (simp [*]; done)), (by first | rfl | (simp; done) | (simp [*]; done)), (by first | rfl | (simp; done) | (simp [*]; done)), H', ⟨by have := HK1.out; omega⟩, ⟨rz HO_14⟩, ⟨by exact bh⟩⟩
       ·replace c11 := Bool.eq_false_iff.mpr c11
        subst c11
        have H1 : (if 0 ≤ (rd t242 x16_1) then (if (rd t242 x16_1) < (l0.length : Int) then (impl_says.l0 k1 l0 true (!((rd_T46 l0 (rd t242 x16_1)).f4)) t242 (t242.length : Int) (wrap64 (x16_1 + 1))) else (none)) else (none)) = some r := by rw [if_neg (show ¬ (false = true) by decide)] at H; exact H
        clear H
        have H := H1
        clear H1
        by_cases c12 : 0 ≤ (rd t242 x16_1)
        ·rw [if_pos c12] at H
         have c12b0 : decide (0 ≤ (rd t242 x16_1)) = true := decide_eq_true c12
         clear c12
         by_cases c13 : (rd t242 x16_1) < (l0.length : Int)
         ·rw [if_pos c13] at H
          have c13b0 : decide ((rd t242 x16_1) < (l0.length : Int)) = true := decide_eq_true c13
          clear c13
          have H' := Aside0.mk H
          clear H
          have p245 : 0 ≤ (x16_1 : Int) := oda
          have q245 : x16_1 < (t242.length : Int) := oda
          obtain ⟨ad245, e245, hx245_0⟩ := Kd.at_int (Kd.R_reads' HO_14.out).2.2 x16_1 p245 q245
          cases e245
          replace p245 := eq_true p245
          replace q245 := eq_true q245
          have p246 : 0 ≤ ((rd t242 x16_1) : Int) := oda
          have q246 : (rd t242 x16_1) < (l0.length : Int) := oda
          obtain ⟨ad246, e246, hx246_0, hx246_1, hx246_2, hx246_3, hx246_4⟩ := at_T46 HR0.out (rd t242 x16_1) p246 q246
          cases e246
          replace hx246_0 := (HB.out.cell (World.block_lt_of_cell? w _ hx246_0)).trans hx246_0
          replace hx246_1 := (HB.out.cell (World.block_lt_of_cell? w _ hx246_1)).trans hx246_1
          replace hx246_2 := (HB.out.cell (World.block_lt_of_cell? w _ hx246_2)).trans hx246_2
          replace hx246_3 := (HB.out.cell (World.block_lt_of_cell? w _ hx246_3)).trans hx246_3
          replace hx246_4 := (HB.out.cell (World.block_lt_of_cell? w _ hx246_4)).trans hx246_4
          replace p246 := eq_true p246
          replace q246 := eq_true q246
          go_wp2
          go_roundg k1
          case measure => have := HK1.out; omega
          case rel => exact ⟨(true), (!((rd_T46 l0 (rd t242 x16_1)).f4)), (wrap64 (x16_1 + 1)), (by first | rfl | (simp; done) | (simp [*]; done)), (by first | rfl | (simp; done) | (simp [*]; done)), (by first | rfl | (simp; done) | (simp [*]; done)), H', ⟨by have := HK1.out; omega⟩, ⟨rz HO_14⟩, ⟨by exact bh⟩⟩
         ·rw [if_neg c13] at H
          exact absurd H (by simp)
        ·rw [if_neg c12] at H
         exact absurd H (by simp)
      ·replace c10 := Bool.eq_false_iff.mpr c10
       subst c10
       have H1 : (if 0 ≤ (rd t242 x16_1) then (if (rd t242 x16_1) < (l0.length : Int) then (if x8_1 = true then (impl_says.l0 k1 l0 ((rd_T46 l0 (rd t242 x16_1)).f4) true t242 (t242.length : Int) (wrap64 (x16_1 + 1))) else (impl_says.l0 k1 l0 ((rd_T46 l0 (rd t242 x16_1)).f4) (!((rd_T46 l0 (rd t242 x16_1)).f4)) t242 (t242.length : Int) (wrap64 (x16_1 + 1)))) else (none)) else (none)) = some r := by rw [if_neg (show ¬ (false = true) by decide)] at H; exact H
       clear H
       have H := H1
       clear H1
       by_cases c14 : 0 ≤ (rd t242 x16_1)
       ·rw [if_pos c14] at H
        have c14b0 : decide (0 ≤ (rd t242 x16_1)) = true := decide_eq_true c14
        clear c14
        by_cases c15 : (rd t242 x16_1) < (l0.length : Int)
        ·rw [if_pos c15] at H
         have c15b0 : decide ((rd t242 x16_1) < (l0.length : Int)) = true := decide_eq_true c15
         clear c15
         by_cases c16 : x8_1 = true
         ·subst c16
          have H1 : (impl_says.l0 k1 l0 ((rd_T46 l0 (rd t242 x16_1)).f4) true t242 (t242.length : Int) (wrap64 (x16_1 + 1))) = some r := by rw [if_pos rfl] at H; exact H
          clear H
          have H := H1
          clear H1
          have H' := Aside0.mk H
          clear H
          have p245 : 0 ≤ (x16_1 : Int) := oda
          have q245 : x16_1 < (t242.length : Int) := oda
          obtain ⟨ad245, e245, hx245_0⟩ := Kd.at_int (Kd.R_reads' HO_14.out).2.2 x16_1 p245 q245
          cases e245
          replace p245 := eq_true p245
          replace q245 := eq_true q245
          have p247 : 0 ≤ ((rd t242 x16_1) : Int) := oda
          have q247 : (rd t242 x16_1) < (l0.length : Int) := oda
          obtain ⟨ad247, e247, hx247_0, hx247_1, hx247_2, hx247_3, hx247_4⟩ := at_T46 HR0.out (rd t242 x16_1) p247 q247
          cases e247
          replace hx247_0 := (HB.out.cell (World.block_lt_of_cell? w _ hx247_0)).trans hx247_0
          replace hx247_1 := (HB.out.cell (World.block_lt_of_cell? w _ hx247_1)).trans hx247_1
          replace hx247_2 := (HB.out.cell (World.block_lt_of_cell? w _ hx247_2)).trans hx247_2
          replace hx247_3 := (HB.out.cell (World.block_lt_of_cell? w _ hx247_3)).trans hx247_3
          replace hx247_4 := (HB.out.cell (World.block_lt_of_cell? w _ hx247_4)).trans hx247_4
          replace p247 := eq_true p247
          replace q247 := eq_true q247
          go_wp2
          go_roundg k1
          case measure => have := HK1.out; omega
          case rel => exact ⟨((rd_T46 l0 (rd t242 x16_1)).f4), (true), (wrap64 (x16_1 + 1)), (by first | rfl | (simp; done) | (simp [*]; done)), (by first | rfl | (simp; done) | (simp [*]; done)), (by first | rfl | (simp; done) | (simp [*]; done)), H', ⟨by have := HK1.out; omega⟩, ⟨rz HO_14⟩, ⟨by exact bh⟩⟩
         ·replace c16 := Bool.eq_false_iff.mpr c16
          subst c16
          have H1 : (impl_says.l0 k1 l0 ((rd_T46 l0 (rd t242 x16_1)).f4) (!((rd_T46 l0 (rd t242 x16_1)).f4)) t242 (t242.length : Int) (wrap64 (x16_1 + 1))) = some r := by rw [if_neg (show ¬ (false = true) by decide)] at H; exact H
          clear H
          have H := H1
          clear H1
          have H' := Aside0.mk H
          clear H
          have p245 : 0 ≤ (x16_1 : Int) := oda
          have q245 : x16_1 < (t242.length : Int) := oda
          obtain ⟨ad245, e245, hx245_0⟩ := Kd.at_int (Kd.R_reads' HO_14.out).2.2 x16_1 p245 q245
          cases e245
          replace p245 := eq_true p245
          replace q245 := eq_true q245
          have p247 : 0 ≤ ((rd t242 x16_1) : Int) := oda
          have q247 : (rd t242 x16_1) < (l0.length : Int) := oda
          obtain ⟨ad247, e247, hx247_0, hx247_1, hx247_2, hx247_3, hx247_4⟩ := at_T46 HR0.out (rd t242 x16_1) p247 q247
          cases e247
          replace hx247_0 := (HB.out.cell (World.block_lt_of_cell? w _ hx247_0)).trans hx247_0
          replace hx247_1 := (HB.out.cell (World.block_lt_of_cell? w _ hx247_1)).trans hx247_1
          replace hx247_2 := (HB.out.cell (World.block_lt_of_cell? w _ hx247_2)).trans hx247_2
          replace hx247_3 := (HB.out.cell (World.block_lt_of_cell? w _ hx247_3)).trans hx247_3
          replace hx247_4 := (HB.out.cell (World.block_lt_of_cell? w _ hx247_4)).trans hx247_4
          replace p247 := eq_true p247
          replace q247 := eq_true q247
          have p248 : 0 ≤ ((rd t242 x16_1) : Int) := oda
          have q248 : (rd t242 x16_1) < (l0.length : Int) := oda
          obtain ⟨ad248, e248, hx248_0, hx248_1, hx248_2, hx248_3, hx248_4⟩ := at_T46 HR0.out (rd t242 x16_1) p248 q248
          obtain rfl : ad247 = ad248 := (by injection e248)
          replace hx248_0 := (HB.out.cell (World.block_lt_of_cell? w _ hx248_0)).trans hx248_0
          replace hx248_1 := (HB.out.cell (World.block_lt_of_cell? w _ hx248_1)).trans hx248_1
          replace hx248_2 := (HB.out.cell (World.block_lt_of_cell? w _ hx248_2)).trans hx248_2
          replace hx248_3 := (HB.out.cell (World.block_lt_of_cell? w _ hx248_3)).trans hx248_3
          replace hx248_4 := (HB.out.cell (World.block_lt_of_cell? w _ hx248_4)).trans hx248_4
          replace p248 := eq_true p248
          replace q248 := eq_true q248
          go_wp2
          go_roundg k1
          case measure => have := HK1.out; omega
          case rel => exact ⟨((rd_T46 l0 (rd t242 x16_1)).f4), (!((rd_T46 l0 (rd t242 x16_1)).f4)), (wrap64 (x16_1 + 1)), (by first | rfl | (simp; done) | (simp [*]; done)), (by first | rfl | (simp; done) | (simp [*]; done)), (by first | rfl | (simp; done) | (simp [*]; done)), H', ⟨by have := HK1.out; omega⟩, ⟨rz HO_14⟩, ⟨by exact bh⟩⟩
        ·rw [if_neg c15] at H
         exact absurd H (by simp)
       ·rw [if_neg c14] at H
        exact absurd H (by simp)
     ·rw [if_neg c9] at H
      exact absurd H (by simp)
    ·rw [if_neg c8] at H
     exact absurd H (by simp)
   ·rw [if_neg c7] at H
    have c7b0 : decide (x16_1 < (t242.length : Int)) = false := decide_eq_false c7
    clear c7
    have HC17 := Aside0.mk H
    clear H
    go_upto_region 8 with (fail)
    go_cut [38] (fun v38 wc => ∃ (kq : Nat) (x38_16 : Bool), v38 = .bool x38_16 ∧ Aside0 (impl_says.j1 kq x7_1 x8_1 x38_16 = some r) ∧ Aside0 (kq ≤ k1) ∧ Aside0 (Below w.heap.size w wc))
    case first =>
     have H := HC17.out
     clear HC17
     by_cases c18 : x7_1 = true
     ·subst c18
      have H1 : (impl_says.j1 k1 true x8_1 x8_1) = some r := by rw [if_pos rfl] at H; exact H
      clear H
      have H := H1
      clear H1
      have H' := Aside0.mk H
      clear H
      go_wp2
      go_meet
      case rel => exact ⟨_, (x8_1), (by first | rfl | (simp; done) | (simp [*]; done)), H', ⟨by have := HK1.out; first | omega | exact Nat.le_refl _⟩, ⟨by exact bh⟩⟩
     ·replace c18 := Bool.eq_false_iff.mpr c18
      subst c18
      have H1 : (impl_says.j1 k1 false x8_1 false) = some r := by rw [if_neg (show ¬ (false = true) by decide)] at H; exact H
      clear H
      have H := H1
      clear H1
      have H' := Aside0.mk H
      clear H
      go_wp2
      go_meet
      case rel => exact ⟨_, (false), (by first | rfl | (simp; done) | (simp [*]; done)), H', ⟨by have := HK1.out; first | omega | exact Nat.le_refl _⟩, ⟨by exact bh⟩⟩
    case rest =>
     clear HC17
     try clear c1
     try clear p2
     try clear q2
     try clear hx2
     try clear c3
     try clear p6
     try clear c7
     try clear c7b0
     try clear c8
     try clear c8b0
     try clear c9
     try clear c9b0
     try clear c10
     try clear c11
     try clear c12
     try clear c12b0
     try clear c13
     try clear c13b0
     try clear c14
     try clear c14b0
     try clear c15
     try clear c15b0
     try clear c16
     try clear c18
     try clear hx245_0
     try clear hx246_0
     try clear hx246_1
     try clear hx246_2
     try clear hx246_3
     try clear hx246_4
     try clear hx247_0
     try clear hx247_1
     try clear hx247_2
     try clear hx247_3
     try clear hx247_4
     try clear hx248_0
     try clear hx248_1
     try clear hx248_2
     try clear hx248_3
     try clear hx248_4
     try clear p2
     try clear p245
     try clear p246
     try clear p247
     try clear p248
     try clear q245
     try clear q246
     try clear q247
     try clear q248
     obtain ⟨kq, x38_16, rfl, HA, HJ16, HB⟩ := hcut
     cases kq with
     | zero => exact absurd HA.out (by simp [impl_says.j1])
     | succ kj16 =>
      have H := HA.out
      clear HA
      simp only [impl_says.j1] at H
      by_cases c19 : x38_16 = true
      ·subst c19
       have H1 : (some 2) = some r := by rw [if_pos rfl] at H; exact H
       clear H
       have H := H1
       clear H1
       obtain rfl := Option.some.inj H
       go_wp2
       go_ret
       exact ⟨by first | rfl | (simp [errW_none, errW_some] <;> rfl) | (simp [*, errW_none, errW_some] <;> rfl), by exact bh⟩
      ·replace c19 := Bool.eq_false_iff.mpr c19
       subst c19
       have H1 : (if x7_1 = true then (some 1) else (if x8_1 = true then (some 0) else (some 3))) = some r := by rw [if_neg (show ¬ (false = true) by decide)] at H; exact H
       clear H
       have H := H1
       clear H1
       by_cases c20 : x7_1 = true
       ·subst c20
        have H1 : (some 1) = some r := by rw [if_pos rfl] at H; exact H
        clear H
        have H := H1
        clear H1
        obtain rfl := Option.some.inj H
        go_wp2
        go_ret
        exact ⟨by first | rfl | (simp [errW_none, errW_some] <;> rfl) | (simp [*, errW_none, errW_some] <;> rfl), by exact bh⟩
       ·replace c20 := Bool.eq_false_iff.mpr c20
        subst c20
        have H1 : (if x8_1 = true then (some 0) else (some 3)) = some r := by rw [if_neg (show ¬ (false = true) by decide)] at H; exact H
        clear H
        have H := H1
        clear H1
        by_cases c21 : x8_1 = true
        ·subst c21
         have H1 : (some 0) = some r := by rw [if_pos rfl] at H; exact H
         clear H
         have H := H1
         clear H1
         obtain rfl := Option.some.inj H
         go_wp2
         go_ret
         exact ⟨by first | rfl | (simp [errW_none, errW_some] <;> rfl) | (simp [*, errW_none, errW_some] <;> rfl), by exact bh⟩
        ·replace c21 := Bool.eq_false_iff.mpr c21
         subst c21
         have H1 : (some 3) = some r := by rw [if_neg (show ¬ (false = true) by decide)] at H; exact H
         clear H
         have H := H1
         clear H1
         obtain rfl := Option.some.inj H
         go_wp2
         go_ret
         exact ⟨by first | rfl | (simp [errW_none, errW_some] <;> rfl) | (simp [*, errW_none, errW_some] <;> rfl), by exact bh⟩

end Go.Proofs.Ytnandbgcejkonaa.QFnExactIdleLaws
