-- Printed for this claim by a turned copy of the print (wip/myprint). Lean checks it. Squeezed. Worded. Tightened.
import Derived.Test.YtnpjlpkbefdnlaaQFnTwoHousesx0
import Derived.Test.YtnpjlpkbefdnlaaQFnTwoHousesx2
import Derived.Test.YtnpjlpkbefdnlaaQFnTwoHousesx5
namespace Go.Proofs.Ytnpjlpkbefdnlaa.QFnTwoHouses
open Go.RowKit Go.Proofs.YtnpjlpkbefdnlaaW.PrintWords Go.Proofs.YtnpjlpkbefdnlaaW.PrintLast Go.Proofs.YtnpjlpkbefdnlaaW.PrintMore
attribute [local go_sem] max2_int min2_int max_two min_two max_three min_three max_four min_four Opens.cell_twice   -- for this text's walks alone
set_option linter.unusedVariables false
set_option linter.unusedSimpArgs false

/-! ### spec_DualTerm: function 58 -/
mutual
def spec_DualTerm.l0 : Nat → List (S78) → List (S78) → Int → Int → List Int → Option ((List (S78)))
 | 0, _, _, _, _, _ => none
 | k + 1, x1, x5, x6, x252000, x252001 => if x6 < (x1.length : Int) then ((spec_TermOk.f k x252000 x252001 x1).bind fun t255 => (spec_DualTerm.j1 k x1 x5 x6 t255 x252000 x252001)) else (spec_DualTerm.j1 k x1 x5 x6 false x252000 x252001)
def spec_DualTerm.j1 : Nat → List (S78) → List (S78) → Int → Bool → Int → List Int → Option ((List (S78)))
 | 0, _, _, _, _, _, _ => none
 | k + 1, x1, x5, x6, x16, x252000, x252001 => if x16 = true then (if 0 ≤ x6 then (if x6 < (x1.length : Int) then (if ((rd_T78 x1 x6).f0) = 1 then (if x5.length < 5864062014805 then (spec_DualTerm.l0 k x1 (x5 ++ [(⟨2, 0, 0⟩ : S78)]) (wrap64 (x6 + 1)) x252000 x252001) else (none)) else (if ((rd_T78 x1 x6).f0) = 2 then (if x5.length < 5864062014805 then (spec_DualTerm.l0 k x1 (x5 ++ [(⟨1, 0, 0⟩ : S78)]) (wrap64 (x6 + 1)) x252000 x252001) else (none)) else (if 0 ≤ ((rd_T78 x1 x6).f1) then (if ((rd_T78 x1 x6).f1) < (x252001.length : Int) then ((spec_l1Heads.f k (rd x252001 ((rd_T78 x1 x6).f1))).bind fun t266 => (if x5.length < 5864062014805 then (spec_DualTerm.l0 k x1 (x5 ++ [(⟨0, (rd_T78 x1 x6).f1, wrap64 ((wrap64 (t266 + 1)) - ((rd_T78 x1 x6).f2))⟩ : S78)]) (wrap64 (x6 + 1)) x252000 x252001) else (none))) else (none)) else (none)))) else (none)) else (none)) else (some x5)
end
def spec_DualTerm.f (k : Nat) (a0_0 : Int) (l0_1 : List Int) (l1 : List (S78)) : Option ((List (S78))) := spec_DualTerm.l0 k l1 (([] : List (S78))) 0 a0_0 l0_1
theorem spec_DualTerm.mono_l : ∀ k, (∀ y0 y1 y2 y3 y4, LeO (spec_DualTerm.l0 k y0 y1 y2 y3 y4) (spec_DualTerm.l0 (k + 1) y0 y1 y2 y3 y4)) ∧ (∀ y0 y1 y2 y3 y4 y5, LeO (spec_DualTerm.j1 k y0 y1 y2 y3 y4 y5) (spec_DualTerm.j1 (k + 1) y0 y1 y2 y3 y4 y5))
 | 0 => ⟨fun _ _ _ _ _ r h => by simp [spec_DualTerm.l0] at h, fun _ _ _ _ _ _ r h => by simp [spec_DualTerm.j1] at h⟩
 | k + 1 => by
  obtain ⟨ih0, ih1⟩ := spec_DualTerm.mono_l k
  refine ⟨?_, ?_⟩
  ·intro y0 y1 y2 y3 y4
   unfold spec_DualTerm.l0
   repeat' first
   | (with_reducible exact ih0 _ _ _ _ _)
   | (with_reducible exact ih1 _ _ _ _ _ _)
   | (with_reducible exact spec_TermOk.mono _ _ _ _)
   | (with_reducible exact spec_l1Heads.mono _ _)
   | (with_reducible exact LeO.refl _)
   | (with_reducible exact LeO.none _)
   | (with_reducible refine LeO.ite ?_ ?_)
   | (with_reducible refine LeO.bind ?_ (fun _ => ?_))
   | exact ih0 _ _ _ _ _
   | exact ih1 _ _ _ _ _ _
   | exact spec_TermOk.mono _ _ _ _
   | exact spec_l1Heads.mono _ _
   | exact LeO.none _
   | refine LeO.ite ?_ ?_
   | refine LeO.bind ?_ (fun _ => ?_)
  ·intro y0 y1 y2 y3 y4 y5
   unfold spec_DualTerm.j1
   repeat' first
   | (with_reducible exact ih0 _ _ _ _ _)
   | (with_reducible exact ih1 _ _ _ _ _ _)
   | (with_reducible exact spec_TermOk.mono _ _ _ _)
   | (with_reducible exact spec_l1Heads.mono _ _)
   | (with_reducible exact LeO.refl _)
   | (with_reducible exact LeO.none _)
   | (with_reducible refine LeO.ite ?_ ?_)
   | (with_reducible refine LeO.bind ?_ (fun _ => ?_))
   | exact ih0 _ _ _ _ _
   | exact ih1 _ _ _ _ _ _
   | exact spec_TermOk.mono _ _ _ _
   | exact spec_l1Heads.mono _ _
   | exact LeO.none _
   | refine LeO.ite ?_ ?_
   | refine LeO.bind ?_ (fun _ => ?_)
theorem spec_DualTerm.mono : ∀ a0 a1 a2 k, LeO (spec_DualTerm.f k a0 a1 a2) (spec_DualTerm.f (k + 1) a0 a1 a2) := by
 intro a0 a1 a2 k
 obtain ⟨ih0, ih1⟩ := spec_DualTerm.mono_l k
 unfold spec_DualTerm.f
 repeat' first
   | (with_reducible exact ih0 _ _ _ _ _)
   | (with_reducible exact ih1 _ _ _ _ _ _)
   | (with_reducible exact spec_TermOk.mono _ _ _ _)
   | (with_reducible exact spec_l1Heads.mono _ _)
   | (with_reducible exact LeO.refl _)
   | (with_reducible exact LeO.none _)
   | (with_reducible refine LeO.ite ?_ ?_)
   | (with_reducible refine LeO.bind ?_ (fun _ => ?_))
   | exact ih0 _ _ _ _ _
   | exact ih1 _ _ _ _ _ _
   | exact spec_TermOk.mono _ _ _ _
   | exact spec_l1Heads.mono _ _
   | exact LeO.none _
   | refine LeO.ite ?_ ?_
   | refine LeO.bind ?_ (fun _ => ?_)
def spec_DualTerm.T6 : Bool × List (List Nat × List Nat) := (true, [([], []), ([], []), ([], []), ([1, 2], [1, 2]), ([3], [3]), ([4], [4]), ([], []), ([6], [6]), ([], []), ([], []), ([8, 9], [8, 9]), ([10], [10]), ([11], [11]), ([7, 12], [7, 12]), ([13], [13]), ([14], [14]), ([15], [15]), ([], []), ([], []), ([17, 18], [17, 18]), ([19], [19]), ([20], [20]), ([16, 21], [16, 21]), ([5, 22], [5, 22]), ([23], [23]), ([0, 24, 15], [0, 24]), ([25, 25, 0, 1, 2, 3, 4, 5, 6, 7, 8, 9, 10, 11, 12, 13, 14, 15, 16, 17, 18, 19, 20, 21, 22, 23, 24, 25], [0, 25])])
def spec_DualTerm.B6 : List Nat := [0, 0, 0, 6, 14, 30, 0, 64, 0, 0, 768, 1792, 3840, 8128, 16320, 32704, 65472, 0, 0, 393216, 917504, 1966080, 4194240, 8388606, 16777214, 33554431, 67108863]
theorem spec_DualTerm.tab6 : rtab .any (opsOf Try.f58 6) = spec_DualTerm.T6 := by kernel_rfl
theorem spec_DualTerm.bits6 : waitsOk spec_DualTerm.T6.2 spec_DualTerm.B6 = true := by kernel_rfl
set_option maxHeartbeats 8000000 in
set_option maxRecDepth 100000 in
theorem spec_DualTerm.calls (k : Nat) (a0_0 : Int) (A0_1 : Option Addr) (c0_1 : Nat) (l0_1 : List Int) (A1 : Option Addr) (c1 : Nat) (l1 : List (S78)) (r : List (S78)) (w : World) (hr0_1 : Kd.C (Kd.int .i64) w A0_1 l0_1.length l0_1) (hc0_1 : l0_1.length ≤ c0_1) (hr1 : Kd.C k78 w A1 l1.length l1) (hc1 : l1.length ≤ c1) (h : spec_DualTerm.f k a0_0 l0_1 l1 = some r) :
  Calls Try.prog 58 #[.agg #[.int .i64 a0_0, .slice A0_1 l0_1.length c0_1], .slice A1 l1.length c1] w fun e w' => ∃ v0_ : Value, e = .returned (v0_) ∧ Kd.R k78 78 w' w.heap.size (fun _ => True) v0_ r ∧ Below w.heap.size w w' := by
 have hu25 := Try.underlying25
 have hu78 := Try.underlying78
 have HR0_1 := Aside0.mk hr0_1
 have HC0_1 := Aside0.mk hc0_1
 clear hr0_1 hc0_1
 have HR1 := Aside0.mk hr1
 have HC1 := Aside0.mk hc1
 clear hr1 hc1
 have HB := Aside0.mk (Below.refl w.heap.size w)
 have H : (spec_DualTerm.l0 k l1 (([] : List (S78))) 0 a0_0 l0_1) = some r := h
 clear h
 obtain ⟨y252, hy252⟩ : ∃ y_ : List (S78), y_ = (([] : List (S78))) := ⟨_, rfl⟩
 replace H : (spec_DualTerm.l0 k l1 y252 0 a0_0 l0_1) = some r := by first | (rw [hy252]; with_reducible exact H) | (have H2_ := (Option.bind_some _ _).symm.trans H; rw [hy252]; with_reducible exact H2_) | (have H2_ := (Option.bind_some _ _).symm.trans H; with_reducible exact H2_) | with_reducible exact H | (rw [hy252]; exact H) | exact H
 have Ny252 := Aside0.mk hy252
 clear hy252
 have H' := Aside0.mk H
 clear H
 go_enter Try.func58, Try.ntmps58
 go_wp2_with (first | ((with_reducible refine gate_dst (N := 2) rfl ?_); refine box_event ?hg (N := 2) ?hd (cs := #[.int .i64 a0_0, .slice A0_1 l0_1.length c0_1]) (t := 25) ?hr ?_; (case hd => rfl); (case hg => rfl); (case hr => first | (go_simp; done) | (go_simp; rfl)); intro gb251 hg w3 hbox hb; have n0_ := Aside0.mk (below_step bh hb); have n1_ := Aside0.mk (hbox); have n2_ := Aside0.mk ((gs (W0 := w) hg bh)); have n3_ := Aside0.mk ((gs (W0 := w) hg bh)); clear HB; have HB := n0_; have BK251 := n1_; have GW251 := n2_; have GE251 := n3_; clear n0_ n1_ n2_ n3_ hb hbox hg) | ((with_reducible refine gate_dst (N := 7) rfl ?_); refine Kd.R_lit k78 _ 78 ?hg (N := 7) ?hd (xs := ([] : List (S78))) (inner := []) (ok := fun _ => True) (okp := fun _ => True) ?hr ?hp (fun _ hk => hk) trivial (Below.refl _ _) (Nat.le_refl _) (by simp) ?_; (case hd => rfl); (case hg => rfl); (case hr => first | (go_simp; done) | (go_simp; rfl)); (case hp => exact (Reps.none _ _)); intro v253 w4 ho5 hb hg_ hnew_; clear hg_ hnew_; (first | rw [← Ny252.out] at ho5 | (simp only [Int.reduceToNat] at ho5; rw [← Ny252.out] at ho5)); have n0_ := Aside0.mk (Kd.R_lower ho5 (below_size bh)); have n1_ := Aside0.mk (blk_below (bz BK251) hb); have n2_ := Aside0.mk (below_step bh hb); clear BK251 HB; have HO254 := n0_; have BK251 := n1_; have HB := n2_; clear n0_ n1_ n2_ hb ho5))
 go_loopg [5, 6] k (fun kq v5 v6 w' => ∃ (x5_1 : List (S78)) (x6_1 : Int), v6 = .int .i64 x6_1 ∧ Aside0 (spec_DualTerm.l0 kq l1 x5_1 x6_1 a0_0 l0_1 = some r) ∧ Aside0 (kq ≤ k) ∧ Aside0 (Kd.R k78 78 w' w.heap.size (fun _ => True) v5 x5_1) ∧ Aside0 (w'.heap[gb251]? = some (.cells #[.int .i64 a0_0, (.slice A0_1 l0_1.length c0_1)] 25 (0, 0))) ∧ Aside0 (Below w.heap.size w w'))
 case atStart => exact ⟨(y252), (0), (by first | rfl | (simp; done) | (simp [*]; done)), H', ⟨Nat.le_refl _⟩, ⟨rz HO254⟩, ⟨bz BK251⟩, ⟨by exact bh⟩⟩
 case round =>
  clear H'
  try clear c1
  try clear p2
  try clear c5
  obtain ⟨x5_1, x6_1, rfl, HA, HK1, HO_5, BK251, HB⟩ := hrel
  cases gk with
  | zero => exact absurd HA.out (by simp [spec_DualTerm.l0])
  | succ k1 =>
   have H := HA.out
   clear HA
   simp only [spec_DualTerm.l0] at H
   have HC6 := Aside0.mk H
   clear H
   go_upto_region 3 with (fail)
   go_cut [16] (fun v16 wc => ∃ (kq : Nat) (x16_5 : Bool), v16 = .bool x16_5 ∧ Aside0 (spec_DualTerm.j1 kq l1 x5_1 x6_1 x16_5 a0_0 l0_1 = some r) ∧ Aside0 (kq ≤ k1) ∧ Aside0 (Kd.R k78 78 wc w.heap.size (fun _ => True) u5 x5_1) ∧ Aside0 (wc.heap[gb251]? = some (.cells #[.int .i64 a0_0, (.slice A0_1 l0_1.length c0_1)] 25 (0, 0))) ∧ Aside0 (Below w.heap.size w wc))
   case first =>
    have H := HC6.out
    clear HC6
    by_cases c7 : x6_1 < (l1.length : Int)
    ·rw [if_pos c7] at H
     have c7b0 : decide (x6_1 < (l1.length : Int)) = true := decide_eq_true c7
     clear c7
     (first | rw [c7b0] | (simp only [i64_w, i32_w]; rw [c7b0]) | skip)
     replace H := Option.bind_eq_some_iff.mp H
     obtain ⟨t255, A80, H⟩ := H
     replace H : (spec_DualTerm.j1 k1 l1 x5_1 x6_1 t255 a0_0 l0_1) = some r := H
     have A8 := Aside0.mk A80
     clear A80
     have H' := Aside0.mk H
     clear H
     have hcz9_0 := cz0 BK251
     have hcz9_1 := cz1 BK251
     have hfz9_0 := blk_frozen BK251.out 0
     have hfz9_1 := blk_frozen BK251.out 1
     go_wp2_with (first | (go_at_call 21; (with_reducible refine (spec_TermOk.calls k1 a0_0 _ _ l0_1 _ _ l1 t255 _ ?side1 ?side2 ?side3 ?side4 A8.out).mono ?_); (case side1 => repeat (first | exact (Kd.C_below HR0_1.out HB.out) | (with_reducible refine Kd.C_alloc ?_ _) | (with_reducible refine Kd.C_drewN ?_ _) | (with_reducible refine Kd.C_drew ?_))); (case side2 => exact HC0_1.out); (case side3 => repeat (first | exact (Kd.C_below HR1.out HB.out) | (with_reducible refine Kd.C_alloc ?_ _) | (with_reducible refine Kd.C_drewN ?_ _) | (with_reducible refine Kd.C_drew ?_))); (case side4 => exact HC1.out); rintro e w10 ⟨rfl, hb⟩; have n0_ := Aside0.mk (Kd.R_below (rz HO_5) hb); have n1_ := Aside0.mk (blk_below (bz BK251) hb); have n2_ := Aside0.mk (below_step bh hb); clear HO_5 BK251 HB; have HO_5 := n0_; have BK251 := n1_; have HB := n2_; clear n0_ n1_ n2_; (try clear hb); (try clear hb2); (try clear hk); (try clear hi)))
     go_meet
     case rel => exact ⟨_, (t255), (by first | rfl | (simp; done) | (simp [*]; done)), H', ⟨by have := HK1.out; first | omega | exact Nat.le_refl _⟩, ⟨rz HO_5⟩, ⟨bz BK251⟩, ⟨by exact bh⟩⟩
    ·rw [if_neg c7] at H
     have c7b0 : decide (x6_1 < (l1.length : Int)) = false := decide_eq_false c7
     clear c7
     (first | rw [c7b0] | (simp only [i64_w, i32_w]; rw [c7b0]) | skip)
     have H' := Aside0.mk H
     clear H
     go_wp2
     go_meet
     case rel => exact ⟨_, (false), (by first | rfl | (simp; done) | (simp [*]; done)), H', ⟨by have := HK1.out; first | omega | exact Nat.le_refl _⟩, ⟨rz HO_5⟩, ⟨bz BK251⟩, ⟨by exact bh⟩⟩
   case rest =>
    clear HC6
    try clear c1
    try clear p2
    try clear c5
    try clear c7
    try clear c7b0
    try clear hcz9_0
    try clear hcz9_1
    try clear hfz9_0
    try clear hfz9_1
    try clear p2
    obtain ⟨kq, x16_5, rfl, HA, HJ5, HO_5, BK251, HB⟩ := hcut
    cases kq with
    | zero => exact absurd HA.out (by simp [spec_DualTerm.j1])
    | succ kj5 =>
     have H := HA.out
     clear HA
     simp only [spec_DualTerm.j1] at H
     by_cases c11 : x16_5 = true
     ·subst c11
      have H1 : (if 0 ≤ x6_1 then (if x6_1 < (l1.length : Int) then (if ((rd_T78 l1 x6_1).f0) = 1 then (if x5_1.length < 5864062014805 then (spec_DualTerm.l0 kj5 l1 (x5_1 ++ [(⟨2, 0, 0⟩ : S78)]) (wrap64 (x6_1 + 1)) a0_0 l0_1) else (none)) else (if ((rd_T78 l1 x6_1).f0) = 2 then (if x5_1.length < 5864062014805 then (spec_DualTerm.l0 kj5 l1 (x5_1 ++ [(⟨1, 0, 0⟩ : S78)]) (wrap64 (x6_1 + 1)) a0_0 l0_1) else (none)) else (if 0 ≤ ((rd_T78 l1 x6_1).f1) then (if ((rd_T78 l1 x6_1).f1) < (l0_1.length : Int) then ((spec_l1Heads.f kj5 (rd l0_1 ((rd_T78 l1 x6_1).f1))).bind fun t266 => (if x5_1.length < 5864062014805 then (spec_DualTerm.l0 kj5 l1 (x5_1 ++ [(⟨0, (rd_T78 l1 x6_1).f1, wrap64 ((wrap64 (t266 + 1)) - ((rd_T78 l1 x6_1).f2))⟩ : S78)]) (wrap64 (x6_1 + 1)) a0_0 l0_1) else (none))) else (none)) else (none)))) else (none)) else (none)) = some r := by rw [if_pos rfl] at H; exact H
      clear H
      have H := H1
      clear H1
      by_cases c12 : 0 ≤ x6_1
      ·rw [if_pos c12] at H
       have c12b0 : decide (0 ≤ x6_1) = true := decide_eq_true c12
       clear c12
       by_cases c13 : x6_1 < (l1.length : Int)
       ·rw [if_pos c13] at H
        have c13b0 : decide (x6_1 < (l1.length : Int)) = true := decide_eq_true c13
        clear c13
        by_cases c14 : ((rd_T78 l1 x6_1).f0) = 1
        ·rw [if_pos c14] at H
         have c14b0 : (((rd_T78 l1 x6_1).f0) == 1) = true := beq_iff_eq.mpr c14
         have c14b1 : (((rd_T78 l1 x6_1).f0) != 1) = false := bne_eq_false_iff_eq.mpr c14
         clear c14
         by_cases c15 : x5_1.length < 5864062014805
         ·rw [if_pos c15] at H
          have LMc15 := Aside0.mk c15
          clear c15
          obtain ⟨y257, hy257⟩ : ∃ y_ : List (S78), y_ = (x5_1 ++ [(⟨2, 0, 0⟩ : S78)]) := ⟨_, rfl⟩
          replace H : (spec_DualTerm.l0 kj5 l1 y257 (wrap64 (x6_1 + 1)) a0_0 l0_1) = some r := by first | (rw [hy257]; with_reducible exact H) | (have H2_ := (Option.bind_some _ _).symm.trans H; rw [hy257]; with_reducible exact H2_) | (have H2_ := (Option.bind_some _ _).symm.trans H; with_reducible exact H2_) | with_reducible exact H | (rw [hy257]; exact H) | exact H
          have Ny257 := Aside0.mk hy257
          clear hy257
          have H' := Aside0.mk H
          clear H
          have p256 : 0 ≤ (x6_1 : Int) := oda
          have q256 : x6_1 < (l1.length : Int) := oda
          obtain ⟨ad256, e256, hx256_0, hx256_1, hx256_2⟩ := at_T78 HR1.out x6_1 p256 q256
          cases e256
          replace hx256_0 := (HB.out.cell (World.block_lt_of_cell? w _ hx256_0)).trans hx256_0
          replace hx256_1 := (HB.out.cell (World.block_lt_of_cell? w _ hx256_1)).trans hx256_1
          replace hx256_2 := (HB.out.cell (World.block_lt_of_cell? w _ hx256_2)).trans hx256_2
          replace p256 := eq_true p256
          replace q256 := eq_true q256
          go_wp2_with (first | ((with_reducible refine gate_builtin (b := .append) (xs := #[.tmp 52, .tmp 54]) rfl ?_); at_builtin; refine Kd.R_append k78 (w0 := w) w.heap.size rfl (.tmp 52) (.tmp 54) 33 78 (.agg #[(.int .i64 0), (.int .i64 0), (.int .i64 0)]) 24 rfl Try.underlying33 info78 rfl (by decide) (by omega) u5 x5_1 (⟨2, 0, 0⟩ : S78) [.int .i64 2, .int .i64 0, .int .i64 0] (fun _ => True) (fun _ => False) rfl rfl ?aP (fun _ hk => hk.elim) ?aF ?aO ?aB ?aS ?aL ?_; (case aP => exact k78_mkM _ _ _ (⟨2, 0, 0⟩ : S78)); (case aB => exact bh); (case aF => exact (fun _ _ => trivial)); (case aO => exact (rz HO_5)); (case aS => exact (below_size bh)); (case aL => have := LMc15.out; omega); intro v258 w16 ho hb hg hat; rw [← Ny257.out] at ho; have n0_ := Aside0.mk (blk_grown (bz BK251) hg (Kd.R_ne HO_5.out BK251.out (by decide))); have n1_ := Aside0.mk (hb); have n2_ := Aside0.mk (ho); clear BK251 HB HO_5; have BK251 := n0_; have HB := n1_; have HO259 := n2_; clear n0_ n1_ n2_ ho hb hg hat))
          go_roundg kj5
          case measure => have := HK1.out; have := HJ5.out; omega
          case rel => exact ⟨(y257), (wrap64 (x6_1 + 1)), (by first | rfl | (simp; done) | (simp [*]; done)), H', ⟨by have := HK1.out; have := HJ5.out; omega⟩, ⟨rz HO259⟩, ⟨bz BK251⟩, ⟨by exact bh⟩⟩
         ·rw [if_neg c15] at H
          exact absurd H (by simp)
        ·rw [if_neg c14] at H
         have c14b0 : (((rd_T78 l1 x6_1).f0) == 1) = false := beq_eq_false_iff_ne.mpr c14
         have c14b1 : (((rd_T78 l1 x6_1).f0) != 1) = true := bne_iff_ne.mpr c14
         by_cases c17 : ((rd_T78 l1 x6_1).f0) = 2
         ·rw [if_pos c17] at H
          have c17b0 : (((rd_T78 l1 x6_1).f0) == 2) = true := beq_iff_eq.mpr c17
          have c17b1 : (((rd_T78 l1 x6_1).f0) != 2) = false := bne_eq_false_iff_eq.mpr c17
          clear c17
          by_cases c18 : x5_1.length < 5864062014805
          ·rw [if_pos c18] at H
           have LMc18 := Aside0.mk c18
           clear c18
           obtain ⟨y260, hy260⟩ : ∃ y_ : List (S78), y_ = (x5_1 ++ [(⟨1, 0, 0⟩ : S78)]) := ⟨_, rfl⟩
           replace H : (spec_DualTerm.l0 kj5 l1 y260 (wrap64 (x6_1 + 1)) a0_0 l0_1) = some r := by first | (rw [hy260]; with_reducible exact H) | (have H2_ := (Option.bind_some _ _).symm.trans H; rw [hy260]; with_reducible exact H2_) | (have H2_ := (Option.bind_some _ _).symm.trans H; with_reducible exact H2_) | with_reducible exact H | (rw [hy260]; exact H) | exact H
           have Ny260 := Aside0.mk hy260
           clear hy260
           have H' := Aside0.mk H
           clear H
           have p256 : 0 ≤ (x6_1 : Int) := oda
           have q256 : x6_1 < (l1.length : Int) := oda
           obtain ⟨ad256, e256, hx256_0, hx256_1, hx256_2⟩ := at_T78 HR1.out x6_1 p256 q256
           cases e256
           replace hx256_0 := (HB.out.cell (World.block_lt_of_cell? w _ hx256_0)).trans hx256_0
           replace hx256_1 := (HB.out.cell (World.block_lt_of_cell? w _ hx256_1)).trans hx256_1
           replace hx256_2 := (HB.out.cell (World.block_lt_of_cell? w _ hx256_2)).trans hx256_2
           replace p256 := eq_true p256
           replace q256 := eq_true q256
           go_wp2_with (first | ((with_reducible refine gate_builtin (b := .append) (xs := #[.tmp 58, .tmp 60]) rfl ?_); at_builtin; refine Kd.R_append k78 (w0 := w) w.heap.size rfl (.tmp 58) (.tmp 60) 33 78 (.agg #[(.int .i64 0), (.int .i64 0), (.int .i64 0)]) 24 rfl Try.underlying33 info78 rfl (by decide) (by omega) u5 x5_1 (⟨1, 0, 0⟩ : S78) [.int .i64 1, .int .i64 0, .int .i64 0] (fun _ => True) (fun _ => False) rfl rfl ?aP (fun _ hk => hk.elim) ?aF ?aO ?aB ?aS ?aL ?_; (case aP => exact k78_mkM _ _ _ (⟨1, 0, 0⟩ : S78)); (case aB => exact bh); (case aF => exact (fun _ _ => trivial)); (case aO => exact (rz HO_5)); (case aS => exact (below_size bh)); (case aL => have := LMc18.out; omega); intro v261 w19 ho hb hg hat; rw [← Ny260.out] at ho; have n0_ := Aside0.mk (blk_grown (bz BK251) hg (Kd.R_ne HO_5.out BK251.out (by decide))); have n1_ := Aside0.mk (hb); have n2_ := Aside0.mk (ho); clear BK251 HB HO_5; have BK251 := n0_; have HB := n1_; have HO262 := n2_; clear n0_ n1_ n2_ ho hb hg hat))
           go_roundg kj5
           case measure => have := HK1.out; have := HJ5.out; omega
           case rel => exact ⟨(y260), (wrap64 (x6_1 + 1)), (by first | rfl | (simp; done) | (simp [*]; done)), H', ⟨by have := HK1.out; have := HJ5.out; omega⟩, ⟨rz HO262⟩, ⟨bz BK251⟩, ⟨by exact bh⟩⟩
          ·rw [if_neg c18] at H
           exact absurd H (by simp)
         ·rw [if_neg c17] at H
          have c17b0 : (((rd_T78 l1 x6_1).f0) == 2) = false := beq_eq_false_iff_ne.mpr c17
          have c17b1 : (((rd_T78 l1 x6_1).f0) != 2) = true := bne_iff_ne.mpr c17
          by_cases c20 : 0 ≤ ((rd_T78 l1 x6_1).f1)
          ·rw [if_pos c20] at H
           have c20b0 : decide (0 ≤ ((rd_T78 l1 x6_1).f1)) = true := decide_eq_true c20
           clear c20
           by_cases c21 : ((rd_T78 l1 x6_1).f1) < (l0_1.length : Int)
           ·rw [if_pos c21] at H
            have c21b0 : decide (((rd_T78 l1 x6_1).f1) < (l0_1.length : Int)) = true := decide_eq_true c21
            clear c21
            replace H := Option.bind_eq_some_iff.mp H
            obtain ⟨t266, A220, H⟩ := H
            replace H : (if x5_1.length < 5864062014805 then (spec_DualTerm.l0 kj5 l1 (x5_1 ++ [(⟨0, (rd_T78 l1 x6_1).f1, wrap64 ((wrap64 (t266 + 1)) - ((rd_T78 l1 x6_1).f2))⟩ : S78)]) (wrap64 (x6_1 + 1)) a0_0 l0_1) else (none)) = some r := H
            have A22 := Aside0.mk A220
            clear A220
            by_cases c23 : x5_1.length < 5864062014805
            ·rw [if_pos c23] at H
             have LMc23 := Aside0.mk c23
             clear c23
             obtain ⟨y268, hy268⟩ : ∃ y_ : List (S78), y_ = (x5_1 ++ [(⟨0, (rd_T78 l1 x6_1).f1, wrap64 ((wrap64 (t266 + 1)) - ((rd_T78 l1 x6_1).f2))⟩ : S78)]) := ⟨_, rfl⟩
             replace H : (spec_DualTerm.l0 kj5 l1 y268 (wrap64 (x6_1 + 1)) a0_0 l0_1) = some r := by first | (rw [hy268]; with_reducible exact H) | (have H2_ := (Option.bind_some _ _).symm.trans H; rw [hy268]; with_reducible exact H2_) | (have H2_ := (Option.bind_some _ _).symm.trans H; with_reducible exact H2_) | with_reducible exact H | (rw [hy268]; exact H) | exact H
             have Ny268 := Aside0.mk hy268
             clear hy268
             have H' := Aside0.mk H
             clear H
             have p256 : 0 ≤ (x6_1 : Int) := oda
             have q256 : x6_1 < (l1.length : Int) := oda
             obtain ⟨ad256, e256, hx256_0, hx256_1, hx256_2⟩ := at_T78 HR1.out x6_1 p256 q256
             cases e256
             replace hx256_0 := (HB.out.cell (World.block_lt_of_cell? w _ hx256_0)).trans hx256_0
             replace hx256_1 := (HB.out.cell (World.block_lt_of_cell? w _ hx256_1)).trans hx256_1
             replace hx256_2 := (HB.out.cell (World.block_lt_of_cell? w _ hx256_2)).trans hx256_2
             replace p256 := eq_true p256
             replace q256 := eq_true q256
             try go_wp2
             have n0_ := Aside0.mk (Kd.R_drew HO_5.out)
             have n1_ := Aside0.mk (blk_drew BK251.out)
             have n2_ := Aside0.mk (below_drew1 HB.out)
             clear HO_5 BK251 HB
             have HO_5 := n0_
             have BK251 := n1_
             have HB := n2_
             clear n0_ n1_ n2_
             have p263 : 0 ≤ (x6_1 : Int) := oda
             have q263 : x6_1 < (l1.length : Int) := oda
             obtain ⟨ad263, e263, hx263_0, hx263_1, hx263_2⟩ := at_T78 HR1.out x6_1 p263 q263
             have hw263_2 := hx263_2
             have hw263_1 := hx263_1
             have hw263_0 := hx263_0
             obtain rfl : ad256 = ad263 := (by injection e263)
             replace hx263_0 := (HB.out.cell (World.block_lt_of_cell? w _ hx263_0)).trans hx263_0
             replace hx263_1 := (HB.out.cell (World.block_lt_of_cell? w _ hx263_1)).trans hx263_1
             replace hx263_2 := (HB.out.cell (World.block_lt_of_cell? w _ hx263_2)).trans hx263_2
             replace p263 := eq_true p263
             replace q263 := eq_true q263
             have p264 : 0 ≤ (x6_1 : Int) := oda
             have q264 : x6_1 < (l1.length : Int) := oda
             obtain ⟨ad264, e264, hx264_0, hx264_1, hx264_2⟩ := at_T78 HR1.out x6_1 p264 q264
             have hw264_2 := hx264_2
             have hw264_1 := hx264_1
             have hw264_0 := hx264_0
             obtain rfl : ad256 = ad264 := (by injection e264)
             replace hx264_0 := (HB.out.cell (World.block_lt_of_cell? w _ hx264_0)).trans hx264_0
             replace hx264_1 := (HB.out.cell (World.block_lt_of_cell? w _ hx264_1)).trans hx264_1
             replace hx264_2 := (HB.out.cell (World.block_lt_of_cell? w _ hx264_2)).trans hx264_2
             replace p264 := eq_true p264
             replace q264 := eq_true q264
             have p265 : 0 ≤ (((rd_T78 l1 x6_1).f1) : Int) := oda
             have q265 : ((rd_T78 l1 x6_1).f1) < (l0_1.length : Int) := oda
             obtain ⟨ad265, e265, hx265_0⟩ := Kd.at_int HR0_1.out ((rd_T78 l1 x6_1).f1) p265 q265
             have hw265_0 := hx265_0
             cases e265
             replace hx265_0 := (HB.out.cell (World.block_lt_of_cell? w _ hx265_0)).trans hx265_0
             replace p265 := eq_true p265
             replace q265 := eq_true q265
             have p267 : 0 ≤ (x6_1 : Int) := oda
             have q267 : x6_1 < (l1.length : Int) := oda
             obtain ⟨ad267, e267, hx267_0, hx267_1, hx267_2⟩ := at_T78 HR1.out x6_1 p267 q267
             have hw267_2 := hx267_2
             have hw267_1 := hx267_1
             have hw267_0 := hx267_0
             obtain rfl : ad256 = ad267 := (by injection e267)
             replace hx267_0 := (HB.out.cell (World.block_lt_of_cell? w _ hx267_0)).trans hx267_0
             replace hx267_1 := (HB.out.cell (World.block_lt_of_cell? w _ hx267_1)).trans hx267_1
             replace hx267_2 := (HB.out.cell (World.block_lt_of_cell? w _ hx267_2)).trans hx267_2
             replace p267 := eq_true p267
             replace q267 := eq_true q267
             refine start_ (n := 27) (S := fun w' => w'.cell? ⟨gb251, 0, none⟩ = some (.int .i64 a0_0) ∧ w'.cell? ⟨gb251, 1, none⟩ = some (.slice (some ad265) l0_1.length c0_1) ∧ w'.cell? (ad256.add ((x6_1).toNat * 3)) = some (.int .i64 ((rd_T78 l1 x6_1).f0)) ∧ w'.cell? ⟨(ad256.add ((x6_1).toNat * 3)).block, (ad256.add ((x6_1).toNat * 3)).off + 1, none⟩ = some (.int .i64 ((rd_T78 l1 x6_1).f1)) ∧ w'.cell? ⟨(ad256.add ((x6_1).toNat * 3)).block, (ad256.add ((x6_1).toNat * 3)).off + 2, none⟩ = some (.int .i64 ((rd_T78 l1 x6_1).f2)) ∧ w'.cell? (ad256.add ((x6_1).toNat * 3)) = some (.int .i64 ((rd_T78 l1 x6_1).f0)) ∧ w'.cell? ⟨(ad256.add ((x6_1).toNat * 3)).block, (ad256.add ((x6_1).toNat * 3)).off + 1, none⟩ = some (.int .i64 ((rd_T78 l1 x6_1).f1)) ∧ w'.cell? ⟨(ad256.add ((x6_1).toNat * 3)).block, (ad256.add ((x6_1).toNat * 3)).off + 2, none⟩ = some (.int .i64 ((rd_T78 l1 x6_1).f2)) ∧ w'.cell? (ad265.add (((rd_T78 l1 x6_1).f1)).toNat) = some (.int .i64 (rd l0_1 ((rd_T78 l1 x6_1).f1))) ∧ w'.cell? (ad256.add ((x6_1).toNat * 3)) = some (.int .i64 ((rd_T78 l1 x6_1).f0)) ∧ w'.cell? ⟨(ad256.add ((x6_1).toNat * 3)).block, (ad256.add ((x6_1).toNat * 3)).off + 1, none⟩ = some (.int .i64 ((rd_T78 l1 x6_1).f1)) ∧ w'.cell? ⟨(ad256.add ((x6_1).toNat * 3)).block, (ad256.add ((x6_1).toNat * 3)).off + 2, none⟩ = some (.int .i64 ((rd_T78 l1 x6_1).f2))) (ds := []) #[F,F,F,F,F,F,F,F,F,F,F,F,F,F,F,F,F,F,F,F,F,F,F,F,F,F,F] kr rfl rfl ⟨cz0 BK251, cz1 BK251, ((HB.out.cell (World.block_lt_of_cell? w _ hw263_0)).trans hw263_0), ((HB.out.cell (World.block_lt_of_cell? w _ hw263_1)).trans hw263_1), ((HB.out.cell (World.block_lt_of_cell? w _ hw263_2)).trans hw263_2), ((HB.out.cell (World.block_lt_of_cell? w _ hw264_0)).trans hw264_0), ((HB.out.cell (World.block_lt_of_cell? w _ hw264_1)).trans hw264_1), ((HB.out.cell (World.block_lt_of_cell? w _ hw264_2)).trans hw264_2), ((HB.out.cell (World.block_lt_of_cell? w _ hw265_0)).trans hw265_0), ((HB.out.cell (World.block_lt_of_cell? w _ hw267_0)).trans hw267_0), ((HB.out.cell (World.block_lt_of_cell? w _ hw267_1)).trans hw267_1), ((HB.out.cell (World.block_lt_of_cell? w _ hw267_2)).trans hw267_2)⟩ (fun hHeld => ?_); refine with_tabW spec_DualTerm.tab6 spec_DualTerm.bits6 (fun HT_ HW_ => ?_)
             generalize wc.drew = w24 at HO_5 BK251 HB hx263_0 hx263_1 hx263_2 hx264_0 hx264_1 hx264_2 hx265_0 hx267_0 hx267_1 hx267_2 hHeld ⊢
             refine pu 0 (some 24) #[T,F,F,F,F,F,F,F,F,F,F,F,F,F,F,F,F,F,F,F,F,F,F,F,F,F,F] (any_of HT_.out kr) ?_
             refine pu 1 (some 25) #[T,T,F,F,F,F,F,F,F,F,F,F,F,F,F,F,F,F,F,F,F,F,F,F,F,F,F] (any_of HT_.out kr) ?_
             refine pu 2 (some 26) #[T,T,T,F,F,F,F,F,F,F,F,F,F,F,F,F,F,F,F,F,F,F,F,F,F,F,F] (any_of HT_.out kr) ?_
             refine pu 3 (some 27) #[T,T,T,T,F,F,F,F,F,F,F,F,F,F,F,F,F,F,F,F,F,F,F,F,F,F,F] (any_of HT_.out kr) ?_
             refine pu 4 (some 28) #[T,T,T,T,T,F,F,F,F,F,F,F,F,F,F,F,F,F,F,F,F,F,F,F,F,F,F] (any_of HT_.out kr) ?_
             refine pu 6 (some 30) #[T,T,T,T,T,F,T,F,F,F,F,F,F,F,F,F,F,F,F,F,F,F,F,F,F,F,F] (any_of HT_.out kr) ?_
             refine pu 8 (some 32) #[T,T,T,T,T,F,T,F,T,F,F,F,F,F,F,F,F,F,F,F,F,F,F,F,F,F,F] (any_of HT_.out kr) ?_
             refine pu 9 (some 33) #[T,T,T,T,T,F,T,F,T,T,F,F,F,F,F,F,F,F,F,F,F,F,F,F,F,F,F] (any_of HT_.out kr) ?_
             refine pu 10 (some 34) #[T,T,T,T,T,F,T,F,T,T,T,F,F,F,F,F,F,F,F,F,F,F,F,F,F,F,F] (any_of HT_.out kr) ?_
             refine pu 11 (some 35) #[T,T,T,T,T,F,T,F,T,T,T,T,F,F,F,F,F,F,F,F,F,F,F,F,F,F,F] (any_of HT_.out kr) ?_
             refine pu 17 (some 41) #[T,T,T,T,T,F,T,F,T,T,T,T,F,F,F,F,F,T,F,F,F,F,F,F,F,F,F] (any_of HT_.out kr) ?_
             refine pu 18 (some 42) #[T,T,T,T,T,F,T,F,T,T,T,T,F,F,F,F,F,T,T,F,F,F,F,F,F,F,F] (any_of HT_.out kr) ?_
             refine pu 19 (some 43) #[T,T,T,T,T,F,T,F,T,T,T,T,F,F,F,F,F,T,T,T,F,F,F,F,F,F,F] (any_of HT_.out kr) ?_
             refine pu 20 (some 44) #[T,T,T,T,T,F,T,F,T,T,T,T,F,F,F,F,F,T,T,T,T,F,F,F,F,F,F] (any_of HT_.out kr) ?_
             refine tk12 5 (some 29) #[T,T,T,T,T,T,T,F,T,T,T,T,F,F,F,F,F,T,T,T,T,F,F,F,F,F,F] (take_ofW HT_.out HW_.out kr) ?_
             refine tk12 7 (some 31) #[T,T,T,T,T,T,T,T,T,T,T,T,F,F,F,F,F,T,T,T,T,F,F,F,F,F,F] (take_ofW HT_.out HW_.out kr) ?_
             refine tk12 12 (some 36) #[T,T,T,T,T,T,T,T,T,T,T,T,T,F,F,F,F,T,T,T,T,F,F,F,F,F,F] (take_ofW HT_.out HW_.out kr) ?_
             refine pu 13 (some 37) #[T,T,T,T,T,T,T,T,T,T,T,T,T,T,F,F,F,T,T,T,T,F,F,F,F,F,F] (any_of HT_.out kr) ?_
             refine tk12 14 (some 38) #[T,T,T,T,T,T,T,T,T,T,T,T,T,T,T,F,F,T,T,T,T,F,F,F,F,F,F] (take_ofW HT_.out HW_.out kr) ?_
             refine tk12 21 (some 45) #[T,T,T,T,T,T,T,T,T,T,T,T,T,T,T,F,F,T,T,T,T,T,F,F,F,F,F] (take_ofW HT_.out HW_.out kr) ?_
             refine one_ (i := 15) (N := some 39) #[T,T,T,T,T,T,T,T,T,T,T,T,T,T,T,T,F,T,T,T,T,T,F,F,F,F,F] rfl rfl (one_of HT_.out kr) (by decide) (fun K hK => ?_)
             refine goes_ Try.func60 kr rfl #[.int .i64 (rd l0_1 ((rd_T78 l1 x6_1).f1))] (by rfl) rfl rfl lm ?_
             with_reducible refine (spec_l1Heads.calls kj5 (rd l0_1 ((rd_T78 l1 x6_1).f1)) t266 _ A22.out).mono ?_
             rintro e w' ⟨rfl, ⟨nd, rfl⟩⟩
             refine ⟨_, rfl, ?_⟩
             refine hK.out _ _ ⟨cz0 BK251, cz1 BK251, ((HB.out.cell (World.block_lt_of_cell? w _ hw263_0)).trans hw263_0), ((HB.out.cell (World.block_lt_of_cell? w _ hw263_1)).trans hw263_1), ((HB.out.cell (World.block_lt_of_cell? w _ hw263_2)).trans hw263_2), ((HB.out.cell (World.block_lt_of_cell? w _ hw264_0)).trans hw264_0), ((HB.out.cell (World.block_lt_of_cell? w _ hw264_1)).trans hw264_1), ((HB.out.cell (World.block_lt_of_cell? w _ hw264_2)).trans hw264_2), ((HB.out.cell (World.block_lt_of_cell? w _ hw265_0)).trans hw265_0), ((HB.out.cell (World.block_lt_of_cell? w _ hw267_0)).trans hw267_0), ((HB.out.cell (World.block_lt_of_cell? w _ hw267_1)).trans hw267_1), ((HB.out.cell (World.block_lt_of_cell? w _ hw267_2)).trans hw267_2)⟩ (fun hHeld => ?_)
             clear hK K
             refine norm_ (a' := ?_) ?_ ?_
             rotate_left
             ·show Act.put _ (some 39) _ = _
              simp only [Act.put, List.setIfInBounds_toArray, List.set_cons_zero, List.set_cons_succ, i64_w, i32_w]
              rfl
             refine pu 16 (some 40) #[T,T,T,T,T,T,T,T,T,T,T,T,T,T,T,T,T,T,T,T,T,T,F,F,F,F,F] (any_of HT_.out kr) ?_
             refine pu 22 (some 46) #[T,T,T,T,T,T,T,T,T,T,T,T,T,T,T,T,T,T,T,T,T,T,T,F,F,F,F] (any_of HT_.out kr) ?_
             refine pu 23 (some 47) #[T,T,T,T,T,T,T,T,T,T,T,T,T,T,T,T,T,T,T,T,T,T,T,T,F,F,F] (any_of HT_.out kr) ?_
             refine one_ (i := 24) (N := some 48) #[T,T,T,T,T,T,T,T,T,T,T,T,T,T,T,T,T,T,T,T,T,T,T,T,T,F,F] rfl rfl (one_of HT_.out kr) (by decide) (fun K hK => ?_)
             refine value_ (w1 := ?_) (v := ?_) (by rfl) rfl ?_ ?_
             rotate_left 2
             ·go_simp
              constructor
              ·rfl
              ·rfl
             refine hK.out _ _ ⟨(blk_cell (blk_alloc BK251.out _) 0).trans rfl, (blk_cell (blk_alloc BK251.out _) 1).trans rfl, (World.cell?_alloc_lt _ _ _ (World.block_lt_of_cell? _ _ (((HB.out.cell (World.block_lt_of_cell? w _ hw263_0)).trans hw263_0)))).trans (((HB.out.cell (World.block_lt_of_cell? w _ hw263_0)).trans hw263_0)), (World.cell?_alloc_lt _ _ _ (World.block_lt_of_cell? _ _ (((HB.out.cell (World.block_lt_of_cell? w _ hw263_1)).trans hw263_1)))).trans (((HB.out.cell (World.block_lt_of_cell? w _ hw263_1)).trans hw263_1)), (World.cell?_alloc_lt _ _ _ (World.block_lt_of_cell? _ _ (((HB.out.cell (World.block_lt_of_cell? w _ hw263_2)).trans hw263_2)))).trans (((HB.out.cell (World.block_lt_of_cell? w _ hw263_2)).trans hw263_2)), (World.cell?_alloc_lt _ _ _ (World.block_lt_of_cell? _ _ (((HB.out.cell (World.block_lt_of_cell? w _ hw264_0)).trans hw264_0)))).trans (((HB.out.cell (World.block_lt_of_cell? w _ hw264_0)).trans hw264_0)), (World.cell?_alloc_lt _ _ _ (World.block_lt_of_cell? _ _ (((HB.out.cell (World.block_lt_of_cell? w _ hw264_1)).trans hw264_1)))).trans (((HB.out.cell (World.block_lt_of_cell? w _ hw264_1)).trans hw264_1)), (World.cell?_alloc_lt _ _ _ (World.block_lt_of_cell? _ _ (((HB.out.cell (World.block_lt_of_cell? w _ hw264_2)).trans hw264_2)))).trans (((HB.out.cell (World.block_lt_of_cell? w _ hw264_2)).trans hw264_2)), (World.cell?_alloc_lt _ _ _ (World.block_lt_of_cell? _ _ (((HB.out.cell (World.block_lt_of_cell? w _ hw265_0)).trans hw265_0)))).trans (((HB.out.cell (World.block_lt_of_cell? w _ hw265_0)).trans hw265_0)), (World.cell?_alloc_lt _ _ _ (World.block_lt_of_cell? _ _ (((HB.out.cell (World.block_lt_of_cell? w _ hw267_0)).trans hw267_0)))).trans (((HB.out.cell (World.block_lt_of_cell? w _ hw267_0)).trans hw267_0)), (World.cell?_alloc_lt _ _ _ (World.block_lt_of_cell? _ _ (((HB.out.cell (World.block_lt_of_cell? w _ hw267_1)).trans hw267_1)))).trans (((HB.out.cell (World.block_lt_of_cell? w _ hw267_1)).trans hw267_1)), (World.cell?_alloc_lt _ _ _ (World.block_lt_of_cell? _ _ (((HB.out.cell (World.block_lt_of_cell? w _ hw267_2)).trans hw267_2)))).trans (((HB.out.cell (World.block_lt_of_cell? w _ hw267_2)).trans hw267_2))⟩ (fun hHeld => ?_)
             clear hK K
             refine norm_ (a' := ?_) ?_ ?_
             rotate_left
             ·show Act.put _ (some 48) _ = _
              simp only [Act.put, List.setIfInBounds_toArray, List.set_cons_zero, List.set_cons_succ, i64_w, i32_w]
              rfl
             refine one_ (i := 25) (N := some 49) #[T,T,T,T,T,T,T,T,T,T,T,T,T,T,T,T,T,T,T,T,T,T,T,T,T,T,F] rfl rfl (one_of HT_.out kr) (by decide) (fun K hK => ?_)
             refine Kd.R_append_step k78 (w0 := w) w.heap.size (by rfl) (.tmp 24) (.tmp 48) 33 78 (.agg #[(.int .i64 0), (.int .i64 0), (.int .i64 0)]) 24 rfl Try.underlying33 info78 rfl (by decide) (by omega) u5 x5_1 (⟨0, (rd_T78 l1 x6_1).f1, wrap64 ((wrap64 (t266 + 1)) - ((rd_T78 l1 x6_1).f2))⟩ : S78) [.int .i64 0, .int .i64 ((rd_T78 l1 x6_1).f1), .int .i64 (wrap64 ((wrap64 (t266 + 1)) - ((rd_T78 l1 x6_1).f2)))] (fun _ => True) (fun _ => False) rfl rfl ?aP (fun _ hk => hk.elim) ?aF ?aO ?aB ?aS ?aL ?_
             (case aP => exact k78_mkM _ _ _ (⟨0, (rd_T78 l1 x6_1).f1, wrap64 ((wrap64 (t266 + 1)) - ((rd_T78 l1 x6_1).f2))⟩ : S78))
             (case aB => exact bh)
             (case aF => exact (fun _ _ => trivial))
             (case aO => exact (rz HO_5))
             (case aS => exact (below_size bh))
             (case aL => have := LMc23.out; omega)
             intro v269 w25 ho hb hg hat
             rw [← Ny268.out] at ho
             have n0_ := Aside0.mk (blk_grown (bz BK251) hg (Kd.R_ne HO_5.out BK251.out (by decide)))
             have n1_ := Aside0.mk (hb)
             have n2_ := Aside0.mk (ho)
             clear BK251 HB HO_5
             have BK251 := n0_
             have HB := n1_
             have HO270 := n2_
             clear n0_ n1_ n2_ ho hb hg hat
             refine hK.out _ _ ⟨cz0 BK251, cz1 BK251, ((HB.out.cell (World.block_lt_of_cell? w _ hw263_0)).trans hw263_0), ((HB.out.cell (World.block_lt_of_cell? w _ hw263_1)).trans hw263_1), ((HB.out.cell (World.block_lt_of_cell? w _ hw263_2)).trans hw263_2), ((HB.out.cell (World.block_lt_of_cell? w _ hw264_0)).trans hw264_0), ((HB.out.cell (World.block_lt_of_cell? w _ hw264_1)).trans hw264_1), ((HB.out.cell (World.block_lt_of_cell? w _ hw264_2)).trans hw264_2), ((HB.out.cell (World.block_lt_of_cell? w _ hw265_0)).trans hw265_0), ((HB.out.cell (World.block_lt_of_cell? w _ hw267_0)).trans hw267_0), ((HB.out.cell (World.block_lt_of_cell? w _ hw267_1)).trans hw267_1), ((HB.out.cell (World.block_lt_of_cell? w _ hw267_2)).trans hw267_2)⟩ (fun hHeld => ?_)
             clear hK K
             refine norm_ (a' := ?_) ?_ ?_
             rotate_left
             ·show Act.put _ (some 49) _ = _
              simp only [Act.put, List.setIfInBounds_toArray, List.set_cons_zero, List.set_cons_succ, i64_w, i32_w]
              rfl
             refine pu 26 (some 5) #[T,T,T,T,T,T,T,T,T,T,T,T,T,T,T,T,T,T,T,T,T,T,T,T,T,T,T] (any_of HT_.out kr) ?_
             refine done_ (done_of HT_.out kr) ?_
             try go_wp2
             go_roundg kj5
             case measure => have := HK1.out; have := HJ5.out; omega
             case rel => exact ⟨(y268), (wrap64 (x6_1 + 1)), (by first | rfl | (simp; done) | (simp [*]; done)), H', ⟨by have := HK1.out; have := HJ5.out; omega⟩, ⟨rz HO270⟩, ⟨bz BK251⟩, ⟨by exact bh⟩⟩
            ·rw [if_neg c23] at H
             exact absurd H (by simp)
           ·rw [if_neg c21] at H
            exact absurd H (by simp)
          ·rw [if_neg c20] at H
           exact absurd H (by simp)
       ·rw [if_neg c13] at H
        exact absurd H (by simp)
      ·rw [if_neg c12] at H
       exact absurd H (by simp)
     ·replace c11 := Bool.eq_false_iff.mpr c11
      subst c11
      have H1 : (some x5_1) = some r := by rw [if_neg (show ¬ (false = true) by decide)] at H; exact H
      clear H
      have H := H1
      clear H1
      obtain rfl := Option.some.inj H
      go_wp2
      go_ret
      exact ⟨_, by first | rfl | (simp [errW_none, errW_some] <;> rfl) | (simp [*, errW_none, errW_some] <;> rfl), by (with_reducible repeat (first | apply Kd.R_alloc | apply Kd.R_drewN | apply Kd.R_drew)); exact HO_5.out, by exact bh⟩

end Go.Proofs.Ytnpjlpkbefdnlaa.QFnTwoHouses
