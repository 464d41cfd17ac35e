-- Printed for this claim by a turned copy of the print (wip/myprint). Lean checks it. Squeezed. Worded. Tightened.
import Derived.Test.YtaddlahbahedeaaQFnSameConsentsx0
import Derived.Test.YtaddlahbahedeaaQFnSameConsentsx2
import Derived.Test.YtaddlahbahedeaaQFnSameConsentsx5
namespace Go.Proofs.Ytaddlahbahedeaa.QFnSameConsents
open Go.RowKit Go.Proofs.YtaddlahbahedeaaW.PrintWords Go.Proofs.YtaddlahbahedeaaW.PrintLast Go.Proofs.YtaddlahbahedeaaW.PrintMore
attribute [local go_sem] max2_int min2_int max_two min_two max_three min_three max_four min_four Opens.cell_twice   -- for this text's walks alone
set_option linter.unusedVariables false
set_option linter.unusedSimpArgs false

/-! ### spec_DualTerm: function 47 -/
mutual
def spec_DualTerm.l0 : Nat → List (S61) → List (S61) → Int → Int → List Int → Option ((List (S61)))
 | 0, _, _, _, _, _ => none
 | k + 1, x1, x5, x6, x248000, x248001 => if x6 < (x1.length : Int) then ((spec_TermOk.f k x248000 x248001 x1).bind fun t251 => (spec_DualTerm.j1 k x1 x5 x6 t251 x248000 x248001)) else (spec_DualTerm.j1 k x1 x5 x6 false x248000 x248001)
def spec_DualTerm.j1 : Nat → List (S61) → List (S61) → Int → Bool → Int → List Int → Option ((List (S61)))
 | 0, _, _, _, _, _, _ => none
 | k + 1, x1, x5, x6, x16, x248000, x248001 => if x16 = true then (if 0 ≤ x6 then (if x6 < (x1.length : Int) then (if ((rd_T61 x1 x6).f0) = 1 then (if x5.length < 5864062014805 then (spec_DualTerm.l0 k x1 (x5 ++ [(⟨2, 0, 0⟩ : S61)]) (wrap64 (x6 + 1)) x248000 x248001) else (none)) else (if ((rd_T61 x1 x6).f0) = 2 then (if x5.length < 5864062014805 then (spec_DualTerm.l0 k x1 (x5 ++ [(⟨1, 0, 0⟩ : S61)]) (wrap64 (x6 + 1)) x248000 x248001) else (none)) else (if 0 ≤ ((rd_T61 x1 x6).f1) then (if ((rd_T61 x1 x6).f1) < (x248001.length : Int) then ((spec_l1Heads.f k (rd x248001 ((rd_T61 x1 x6).f1))).bind fun t262 => (if x5.length < 5864062014805 then (spec_DualTerm.l0 k x1 (x5 ++ [(⟨0, (rd_T61 x1 x6).f1, wrap64 ((wrap64 (t262 + 1)) - ((rd_T61 x1 x6).f2))⟩ : S61)]) (wrap64 (x6 + 1)) x248000 x248001) else (none))) else (none)) else (none)))) else (none)) else (none)) else (some x5)
end
def spec_DualTerm.f (k : Nat) (a0_0 : Int) (l0_1 : List Int) (l1 : List (S61)) : Option ((List (S61))) := spec_DualTerm.l0 k l1 (([] : List (S61))) 0 a0_0 l0_1
theorem spec_DualTerm.mono_l : ∀ k, (∀ y0 y1 y2 y3 y4, LeO (spec_DualTerm.l0 k y0 y1 y2 y3 y4) (spec_DualTerm.l0 (k + 1) y0 y1 y2 y3 y4)) ∧ (∀ y0 y1 y2 y3 y4 y5, LeO (spec_DualTerm.j1 k y0 y1 y2 y3 y4 y5) (spec_DualTerm.j1 (k + 1) y0 y1 y2 y3 y4 y5))
 | 0 => ⟨fun _ _ _ _ _ r h => by simp [spec_DualTerm.l0] at h, fun _ _ _ _ _ _ r h => by simp [spec_DualTerm.j1] at h⟩
 | k + 1 => by
  obtain ⟨ih0, ih1⟩ := spec_DualTerm.mono_l k
  refine ⟨?_, ?_⟩
  ·intro y0 y1 y2 y3 y4
   unfold spec_DualTerm.l0
   repeat' first
   | (with_reducible exact ih0 _ _ _ _ _)
   | (with_reducible exact ih1 _ _ _ _ _ _)
   | (with_reducible exact spec_TermOk.mono _ _ _ _)
   | (with_reducible exact spec_l1Heads.mono _ _)
   | (with_reducible exact LeO.refl _)
   | (with_reducible exact LeO.none _)
   | (with_reducible refine LeO.ite ?_ ?_)
   | (with_reducible refine LeO.bind ?_ (fun _ => ?_))
   | exact ih0 _ _ _ _ _
   | exact ih1 _ _ _ _ _ _
   | exact spec_TermOk.mono _ _ _ _
   | exact spec_l1Heads.mono _ _
   | exact LeO.none _
   | refine LeO.ite ?_ ?_
   | refine LeO.bind ?_ (fun _ => ?_)
  ·intro y0 y1 y2 y3 y4 y5
   unfold spec_DualTerm.j1
   repeat' first
   | (with_reducible exact ih0 _ _ _ _ _)
   | (with_reducible exact ih1 _ _ _ _ _ _)
   | (with_reducible exact spec_TermOk.mono _ _ _ _)
   | (with_reducible exact spec_l1Heads.mono _ _)
   | (with_reducible exact LeO.refl _)
   | (with_reducible exact LeO.none _)
   | (with_reducible refine LeO.ite ?_ ?_)
   | (with_reducible refine LeO.bind ?_ (fun _ => ?_))
   | exact ih0 _ _ _ _ _
   | exact ih1 _ _ _ _ _ _
   | exact spec_TermOk.mono _ _ _ _
   | exact spec_l1Heads.mono _ _
   | exact LeO.none _
   | refine LeO.ite ?_ ?_
   | refine LeO.bind ?_ (fun _ => ?_)
theorem spec_DualTerm.mono : ∀ a0 a1 a2 k, LeO (spec_DualTerm.f k a0 a1 a2) (spec_DualTerm.f (k + 1) a0 a1 a2) := by
 intro a0 a1 a2 k
 obtain ⟨ih0, ih1⟩ := spec_DualTerm.mono_l k
 unfold spec_DualTerm.f
 repeat' first
   | (with_reducible exact ih0 _ _ _ _ _)
   | (with_reducible exact ih1 _ _ _ _ _ _)
   | (with_reducible exact spec_TermOk.mono _ _ _ _)
   | (with_reducible exact spec_l1Heads.mono _ _)
   | (with_reducible exact LeO.refl _)
   | (with_reducible exact LeO.none _)
   | (with_reducible refine LeO.ite ?_ ?_)
   | (with_reducible refine LeO.bind ?_ (fun _ => ?_))
   | exact ih0 _ _ _ _ _
   | exact ih1 _ _ _ _ _ _
   | exact spec_TermOk.mono _ _ _ _
   | exact spec_l1Heads.mono _ _
   | exact LeO.none _
   | refine LeO.ite ?_ ?_
   | refine LeO.bind ?_ (fun _ => ?_)
def spec_DualTerm.T6 : Bool × List (List Nat × List Nat) := (true, [([], []), ([], []), ([], []), ([1, 2], [1, 2]), ([3], [3]), ([4], [4]), ([], []), ([6], [6]), ([], []), ([], []), ([8, 9], [8, 9]), ([10], [10]), ([11], [11]), ([7, 12], [7, 12]), ([13], [13]), ([14], [14]), ([15], [15]), ([], []), ([], []), ([17, 18], [17, 18]), ([19], [19]), ([20], [20]), ([16, 21], [16, 21]), ([5, 22], [5, 22]), ([23], [23]), ([0, 24, 15], [0, 24]), ([25, 25, 0, 1, 2, 3, 4, 5, 6, 7, 8, 9, 10, 11, 12, 13, 14, 15, 16, 17, 18, 19, 20, 21, 22, 23, 24, 25], [0, 25])])
def spec_DualTerm.B6 : List Nat := [0, 0, 0, 6, 14, 30, 0, 64, 0, 0, 768, 1792, 3840, 8128, 16320, 32704, 65472, 0, 0, 393216, 917504, 1966080, 4194240, 8388606, 16777214, 33554431, 67108863]
theorem spec_DualTerm.tab6 : rtab .any (opsOf Try.f47 6) = spec_DualTerm.T6 := by kernel_rfl
theorem spec_DualTerm.bits6 : waitsOk spec_DualTerm.T6.2 spec_DualTerm.B6 = true := by kernel_rfl
set_option maxHeartbeats 8000000 in
set_option maxRecDepth 100000 in
theorem spec_DualTerm.calls (k : Nat) (a0_0 : Int) (A0_1 : Option Addr) (c0_1 : Nat) (l0_1 : List Int) (A1 : Option Addr) (c1 : Nat) (l1 : List (S61)) (r : List (S61)) (w : World) (hr0_1 : Kd.C (Kd.int .i64) w A0_1 l0_1.length l0_1) (hc0_1 : l0_1.length ≤ c0_1) (hr1 : Kd.C k61 w A1 l1.length l1) (hc1 : l1.length ≤ c1) (h : spec_DualTerm.f k a0_0 l0_1 l1 = some r) :
  Calls Try.prog 47 #[.agg #[.int .i64 a0_0, .slice A0_1 l0_1.length c0_1], .slice A1 l1.length c1] w fun e w' => ∃ v0_ : Value, e = .returned (v0_) ∧ Kd.R k61 61 w' w.heap.size (fun _ => True) v0_ r ∧ Below w.heap.size w w' := by
 have hu25 := Try.underlying25
 have hu61 := Try.underlying61
 have HR0_1 := Aside0.mk hr0_1
 have HC0_1 := Aside0.mk hc0_1
 clear hr0_1 hc0_1
 have HR1 := Aside0.mk hr1
 have HC1 := Aside0.mk hc1
 clear hr1 hc1
 have HB := Aside0.mk (Below.refl w.heap.size w)
 have H : (spec_DualTerm.l0 k l1 (([] : List (S61))) 0 a0_0 l0_1) = some r := h
 clear h
 obtain ⟨y248, hy248⟩ : ∃ y_ : List (S61), y_ = (([] : List (S61))) := ⟨_, rfl⟩
 replace H : (spec_DualTerm.l0 k l1 y248 0 a0_0 l0_1) = some r := by first | (rw [hy248]; with_reducible exact H) | (have H2_ := (Option.bind_some _ _).symm.trans H; rw [hy248]; with_reducible exact H2_) | (have H2_ := (Option.bind_some _ _).symm.trans H; with_reducible exact H2_) | with_reducible exact H | (rw [hy248]; exact H) | exact H
 have Ny248 := Aside0.mk hy248
 clear hy248
 have H' := Aside0.mk H
 clear H
 go_enter Try.func47, Try.ntmps47
 go_wp2_with (first | ((with_reducible refine gate_dst (N := 2) rfl ?_); refine box_event ?hg (N := 2) ?hd (cs := #[.int .i64 a0_0, .slice A0_1 l0_1.length c0_1]) (t := 25) ?hr ?_; (case hd => rfl); (case hg => rfl); (case hr => first | (go_simp; done) | (go_simp; rfl)); intro gb247 hg w3 hbox hb; have n0_ := Aside0.mk (below_step bh hb); have n1_ := Aside0.mk (hbox); have n2_ := Aside0.mk ((gs (W0 := w) hg bh)); have n3_ := Aside0.mk ((gs (W0 := w) hg bh)); clear HB; have HB := n0_; have BK247 := n1_; have GW247 := n2_; have GE247 := n3_; clear n0_ n1_ n2_ n3_ hb hbox hg) | ((with_reducible refine gate_dst (N := 7) rfl ?_); refine Kd.R_lit k61 _ 61 ?hg (N := 7) ?hd (xs := ([] : List (S61))) (inner := []) (ok := fun _ => True) (okp := fun _ => True) ?hr ?hp (fun _ hk => hk) trivial (Below.refl _ _) (Nat.le_refl _) (by simp) ?_; (case hd => rfl); (case hg => rfl); (case hr => first | (go_simp; done) | (go_simp; rfl)); (case hp => exact (Reps.none _ _)); intro v249 w4 ho5 hb hg_ hnew_; clear hg_ hnew_; (first | rw [← Ny248.out] at ho5 | (simp only [Int.reduceToNat] at ho5; rw [← Ny248.out] at ho5)); have n0_ := Aside0.mk (Kd.R_lower ho5 (below_size bh)); have n1_ := Aside0.mk (blk_below (bz BK247) hb); have n2_ := Aside0.mk (below_step bh hb); clear BK247 HB; have HO250 := n0_; have BK247 := n1_; have HB := n2_; clear n0_ n1_ n2_ hb ho5))
 go_loopg [5, 6] k (fun kq v5 v6 w' => ∃ (x5_1 : List (S61)) (x6_1 : Int), v6 = .int .i64 x6_1 ∧ Aside0 (spec_DualTerm.l0 kq l1 x5_1 x6_1 a0_0 l0_1 = some r) ∧ Aside0 (kq ≤ k) ∧ Aside0 (Kd.R k61 61 w' w.heap.size (fun _ => True) v5 x5_1) ∧ Aside0 (w'.heap[gb247]? = some (.cells #[.int .i64 a0_0, (.slice A0_1 l0_1.length c0_1)] 25 (0, 0))) ∧ Aside0 (Below w.heap.size w w'))
 case atStart => exact ⟨(y248), (0), (by first | rfl | (simp; done) | (simp [*]; done)), H', ⟨Nat.le_refl _⟩, ⟨rz HO250⟩, ⟨bz BK247⟩, ⟨by exact bh⟩⟩
 case round =>
  clear H'
  try clear c1
  try clear p2
  try clear c4
  obtain ⟨x5_1, x6_1, rfl, HA, HK1, HO_5, BK247, HB⟩ := hrel
  cases gk with
  | zero => exact absurd HA.out (by simp [spec_DualTerm.l0])
  | succ k1 =>
   have H := HA.out
   clear HA
   simp only [spec_DualTerm.l0] at H
   have HC6 := Aside0.mk H
   clear H
   go_upto_region 3 with (fail)
   go_cut [16] (fun v16 wc => ∃ (kq : Nat) (x16_5 : Bool), v16 = .bool x16_5 ∧ Aside0 (spec_DualTerm.j1 kq l1 x5_1 x6_1 x16_5 a0_0 l0_1 = some r) ∧ Aside0 (kq ≤ k1) ∧ Aside0 (Kd.R k61 61 wc w.heap.size (fun _ => True) u5 x5_1) ∧ Aside0 (wc.heap[gb247]? = some (.cells #[.int .i64 a0_0, (.slice A0_1 l0_1.length c0_1)] 25 (0, 0))) ∧ Aside0 (Below w.heap.size w wc))
   case first =>
    have H := HC6.out
    clear HC6
    by_cases c7 : x6_1 < (l1.length : Int)
    ·rw [if_pos c7] at H
     have c7b0 : decide (x6_1 < (l1.length : Int)) = true := decide_eq_true c7
     clear c7
     (first | rw [c7b0] | (simp only [i64_w, i32_w]; rw [c7b0]) | skip)
     replace H := Option.bind_eq_some_iff.mp H
     obtain ⟨t251, A80, H⟩ := H
     replace H : (spec_DualTerm.j1 k1 l1 x5_1 x6_1 t251 a0_0 l0_1) = some r := H
     have A8 := Aside0.mk A80
     clear A80
     have H' := Aside0.mk H
     clear H
     have hcz9_0 := cz0 BK247
     have hcz9_1 := cz1 BK247
     have hfz9_0 := blk_frozen BK247.out 0
     have hfz9_1 := blk_frozen BK247.out 1
     go_wp2_with (first | (go_at_call 12; (with_reducible refine (spec_TermOk.calls k1 a0_0 _ _ l0_1 _ _ l1 t251 _ ?side1 ?side2 ?side3 ?side4 A8.out).mono ?_); (case side1 => repeat (first | exact (Kd.C_below HR0_1.out HB.out) | (with_reducible refine Kd.C_alloc ?_ _) | (with_reducible refine Kd.C_drewN ?_ _) | (with_reducible refine Kd.C_drew ?_))); (case side2 => exact HC0_1.out); (case side3 => repeat (first | exact (Kd.C_below HR1.out HB.out) | (with_reducible refine Kd.C_alloc ?_ _) | (with_reducible refine Kd.C_drewN ?_ _) | (with_reducible refine Kd.C_drew ?_))); (case side4 => exact HC1.out); rintro e w10 ⟨rfl, hb⟩; have n0_ := Aside0.mk (Kd.R_below (rz HO_5) hb); have n1_ := Aside0.mk (blk_below (bz BK247) hb); have n2_ := Aside0.mk (below_step bh hb); clear HO_5 BK247 HB; have HO_5 := n0_; have BK247 := n1_; have HB := n2_; clear n0_ n1_ n2_; (try clear hb); (try clear hb2); (try clear hk); (try clear hi)))
     go_meet
     case rel => exact ⟨_, (t251), (by first | rfl | (simp; done) | (simp [*]; done)), H', ⟨by have := HK1.out; first | omega | exact Nat.le_refl _⟩, ⟨rz HO_5⟩, ⟨bz BK247⟩, ⟨by exact bh⟩⟩
    ·rw [if_neg c7] at H
     have c7b0 : decide (x6_1 < (l1.length : Int)) = false := decide_eq_false c7
     clear c7
     (first | rw [c7b0] | (simp only [i64_w, i32_w]; rw [c7b0]) | skip)
     have H' := Aside0.mk H
     clear H
     go_wp2
     go_meet
     case rel => exact ⟨_, (false), (by first | rfl | (simp; done) | (simp [*]; done)), H', ⟨by have := HK1.out; first | omega | exact Nat.le_refl _⟩, ⟨rz HO_5⟩, ⟨bz BK247⟩, ⟨by exact bh⟩⟩
   case rest =>
    clear HC6
    try clear c1
    try clear p2
    try clear c4
    try clear c7
    try clear c7b0
    try clear hcz9_0
    try clear hcz9_1
    try clear hfz9_0
    try clear hfz9_1
    try clear p2
    obtain ⟨kq, x16_5, rfl, HA, HJ5, HO_5, BK247, HB⟩ := hcut
    cases kq with
    | zero => exact absurd HA.out (by simp [spec_DualTerm.j1])
    | succ kj5 =>
     have H := HA.out
     clear HA
     simp only [spec_DualTerm.j1] at H
     by_cases c11 : x16_5 = true
     ·subst c11
      have H1 : (if 0 ≤ x6_1 then (if x6_1 < (l1.length : Int) then (if ((rd_T61 l1 x6_1).f0) = 1 then (if x5_1.length < 5864062014805 then (spec_DualTerm.l0 kj5 l1 (x5_1 ++ [(⟨2, 0, 0⟩ : S61)]) (wrap64 (x6_1 + 1)) a0_0 l0_1) else (none)) else (if ((rd_T61 l1 x6_1).f0) = 2 then (if x5_1.length < 5864062014805 then (spec_DualTerm.l0 kj5 l1 (x5_1 ++ [(⟨1, 0, 0⟩ : S61)]) (wrap64 (x6_1 + 1)) a0_0 l0_1) else (none)) else (if 0 ≤ ((rd_T61 l1 x6_1).f1) then (if ((rd_T61 l1 x6_1).f1) < (l0_1.length : Int) then ((spec_l1Heads.f kj5 (rd l0_1 ((rd_T61 l1 x6_1).f1))).bind fun t262 => (if x5_1.length < 5864062014805 then (spec_DualTerm.l0 kj5 l1 (x5_1 ++ [(⟨0, (rd_T61 l1 x6_1).f1, wrap64 ((wrap64 (t262 + 1)) - ((rd_T61 l1 x6_1).f2))⟩ : S61)]) (wrap64 (x6_1 + 1)) a0_0 l0_1) else (none))) else (none)) else (none)))) else (none)) else (none)) = some r := by rw [if_pos rfl] at H; exact H
      clear H
      have H := H1
      clear H1
      by_cases c12 : 0 ≤ x6_1
      ·rw [if_pos c12] at H
       have c12b0 : decide (0 ≤ x6_1) = true := decide_eq_true c12
       clear c12
       by_cases c13 : x6_1 < (l1.length : Int)
       ·rw [if_pos c13] at H
        have c13b0 : decide (x6_1 < (l1.length : Int)) = true := decide_eq_true c13
        clear c13
        by_cases c14 : ((rd_T61 l1 x6_1).f0) = 1
        ·rw [if_pos c14] at H
         have c14b0 : (((rd_T61 l1 x6_1).f0) == 1) = true := beq_iff_eq.mpr c14
         have c14b1 : (((rd_T61 l1 x6_1).f0) != 1) = false := bne_eq_false_iff_eq.mpr c14
         clear c14
         by_cases c15 : x5_1.length < 5864062014805
         ·rw [if_pos c15] at H
          have LMc15 := Aside0.mk c15
          clear c15
          obtain ⟨y253, hy253⟩ : ∃ y_ : List (S61), y_ = (x5_1 ++ [(⟨2, 0, 0⟩ : S61)]) := ⟨_, rfl⟩
          replace H : (spec_DualTerm.l0 kj5 l1 y253 (wrap64 (x6_1 + 1)) a0_0 l0_1) = some r := by first | (rw [hy253]; with_reducible exact H) | (have H2_ := (Option.bind_some _ _).symm.trans H; rw [hy253]; with_reducible exact H2_) | (have H2_ := (Option.bind_some _ _).symm.trans H; with_reducible exact H2_) | with_reducible exact H | (rw [hy253]; exact H) | exact H
          have Ny253 := Aside0.mk hy253
          clear hy253
          have H' := Aside0.mk H
          clear H
          have p252 : 0 ≤ (x6_1 : Int) := oda
          have q252 : x6_1 < (l1.length : Int) := oda
          obtain ⟨ad252, e252, hx252_0, hx252_1, hx252_2⟩ := at_T61 HR1.out x6_1 p252 q252
          cases e252
          replace hx252_0 := (HB.out.cell (World.block_lt_of_cell? w _ hx252_0)).trans hx252_0
          replace hx252_1 := (HB.out.cell (World.block_lt_of_cell? w _ hx252_1)).trans hx252_1
          replace hx252_2 := (HB.out.cell (World.block_lt_of_cell? w _ hx252_2)).trans hx252_2
          replace p252 := eq_true p252
          replace q252 := eq_true q252
          go_wp2_with (first | ((with_reducible refine gate_builtin (b := .append) (xs := #[.tmp 52, .tmp 54]) rfl ?_); at_builtin; refine Kd.R_append k61 (w0 := w) w.heap.size rfl (.tmp 52) (.tmp 54) 26 61 (.agg #[(.int .i64 0), (.int .i64 0), (.int .i64 0)]) 24 rfl Try.underlying26 info61 rfl (by decide) (by omega) u5 x5_1 (⟨2, 0, 0⟩ : S61) [.int .i64 2, .int .i64 0, .int .i64 0] (fun _ => True) (fun _ => False) rfl rfl ?aP (fun _ hk => hk.elim) ?aF ?aO ?aB ?aS ?aL ?_; (case aP => exact k61_mkM _ _ _ (⟨2, 0, 0⟩ : S61)); (case aB => exact bh); (case aF => exact (fun _ _ => trivial)); (case aO => exact (rz HO_5)); (case aS => exact (below_size bh)); (case aL => have := LMc15.out; omega); intro v254 w16 ho hb hg hat; rw [← Ny253.out] at ho; have n0_ := Aside0.mk (blk_grown (bz BK247) hg (Kd.R_ne HO_5.out BK247.out (by decide))); have n1_ := Aside0.mk (hb); have n2_ := Aside0.mk (ho); clear BK247 HB HO_5; have BK247 := n0_; have HB := n1_; have HO255 := n2_; clear n0_ n1_ n2_ ho hb hg hat))
          go_roundg kj5
          case measure => have := HK1.out; have := HJ5.out; omega
          case rel => exact ⟨(y253), (wrap64 (x6_1 + 1)), (by first | rfl | (simp; done) | (simp [*]; done)), H', ⟨by have := HK1.out; have := HJ5.out; omega⟩, ⟨rz HO255⟩, ⟨bz BK247⟩, ⟨by exact bh⟩⟩
         ·rw [if_neg c15] at H
          exact absurd H (by simp)
        ·rw [if_neg c14] at H
         have c14b0 : (((rd_T61 l1 x6_1).f0) == 1) = false := beq_eq_false_iff_ne.mpr c14
         have c14b1 : (((rd_T61 l1 x6_1).f0) != 1) = true := bne_iff_ne.mpr c14
         by_cases c17 : ((rd_T61 l1 x6_1).f0) = 2
         ·rw [if_pos c17] at H
          have c17b0 : (((rd_T61 l1 x6_1).f0) == 2) = true := beq_iff_eq.mpr c17
          have c17b1 : (((rd_T61 l1 x6_1).f0) != 2) = false := bne_eq_false_iff_eq.mpr c17
          clear c17
          by_cases c18 : x5_1.length < 5864062014805
          ·rw [if_pos c18] at H
           have LMc18 := Aside0.mk c18
           clear c18
           obtain ⟨y256, hy256⟩ : ∃ y_ : List (S61), y_ = (x5_1 ++ [(⟨1, 0, 0⟩ : S61)]) := ⟨_, rfl⟩
           replace H : (spec_DualTerm.l0 kj5 l1 y256 (wrap64 (x6_1 + 1)) a0_0 l0_1) = some r := by first | (rw [hy256]; with_reducible exact H) | (have H2_ := (Option.bind_some _ _).symm.trans H; rw [hy256]; with_reducible exact H2_) | (have H2_ := (Option.bind_some _ _).symm.trans H; with_reducible exact H2_) | with_reducible exact H | (rw [hy256]; exact H) | exact H
           have Ny256 := Aside0.mk hy256
           clear hy256
           have H' := Aside0.mk H
           clear H
           have p252 : 0 ≤ (x6_1 : Int) := oda
           have q252 : x6_1 < (l1.length : Int) := oda
           obtain ⟨ad252, e252, hx252_0, hx252_1, hx252_2⟩ := at_T61 HR1.out x6_1 p252 q252
           cases e252
           replace hx252_0 := (HB.out.cell (World.block_lt_of_cell? w _ hx252_0)).trans hx252_0
           replace hx252_1 := (HB.out.cell (World.block_lt_of_cell? w _ hx252_1)).trans hx252_1
           replace hx252_2 := (HB.out.cell (World.block_lt_of_cell? w _ hx252_2)).trans hx252_2
           replace p252 := eq_true p252
           replace q252 := eq_true q252
           go_wp2_with (first | ((with_reducible refine gate_builtin (b := .append) (xs := #[.tmp 58, .tmp 60]) rfl ?_); at_builtin; refine Kd.R_append k61 (w0 := w) w.heap.size rfl (.tmp 58) (.tmp 60) 26 61 (.agg #[(.int .i64 0), (.int .i64 0), (.int .i64 0)]) 24 rfl Try.underlying26 info61 rfl (by decide) (by omega) u5 x5_1 (⟨1, 0, 0⟩ : S61) [.int .i64 1, .int .i64 0, .int .i64 0] (fun _ => True) (fun _ => False) rfl rfl ?aP (fun _ hk => hk.elim) ?aF ?aO ?aB ?aS ?aL ?_; (case aP => exact k61_mkM _ _ _ (⟨1, 0, 0⟩ : S61)); (case aB => exact bh); (case aF => exact (fun _ _ => trivial)); (case aO => exact (rz HO_5)); (case aS => exact (below_size bh)); (case aL => have := LMc18.out; omega); intro v257 w19 ho hb hg hat; rw [← Ny256.out] at ho; have n0_ := Aside0.mk (blk_grown (bz BK247) hg (Kd.R_ne HO_5.out BK247.out (by decide))); have n1_ := Aside0.mk (hb); have n2_ := Aside0.mk (ho); clear BK247 HB HO_5; have BK247 := n0_; have HB := n1_; have HO258 := n2_; clear n0_ n1_ n2_ ho hb hg hat))
           go_roundg kj5
           case measure => have := HK1.out; have := HJ5.out; omega
           case rel => exact ⟨(y256), (wrap64 (x6_1 + 1)), (by first | rfl | (simp; done) | (simp [*]; done)), H', ⟨by have := HK1.out; have := HJ5.out; omega⟩, ⟨rz HO258⟩, ⟨bz BK247⟩, ⟨by exact bh⟩⟩
          ·rw [if_neg c18] at H
           exact absurd H (by simp)
         ·rw [if_neg c17] at H
          have c17b0 : (((rd_T61 l1 x6_1).f0) == 2) = false := beq_eq_false_iff_ne.mpr c17
          have c17b1 : (((rd_T61 l1 x6_1).f0) != 2) = true := bne_iff_ne.mpr c17
          by_cases c20 : 0 ≤ ((rd_T61 l1 x6_1).f1)
          ·rw [if_pos c20] at H
           have c20b0 : decide (0 ≤ ((rd_T61 l1 x6_1).f1)) = true := decide_eq_true c20
           clear c20
           by_cases c21 : ((rd_T61 l1 x6_1).f1) < (l0_1.length : Int)
           ·rw [if_pos c21] at H
            have c21b0 : decide (((rd_T61 l1 x6_1).f1) < (l0_1.length : Int)) = true := decide_eq_true c21
            clear c21
            replace H := Option.bind_eq_some_iff.mp H
            obtain ⟨t262, A220, H⟩ := H
            replace H : (if x5_1.length < 5864062014805 then (spec_DualTerm.l0 kj5 l1 (x5_1 ++ [(⟨0, (rd_T61 l1 x6_1).f1, wrap64 ((wrap64 (t262 + 1)) - ((rd_T61 l1 x6_1).f2))⟩ : S61)]) (wrap64 (x6_1 + 1)) a0_0 l0_1) else (none)) = some r := H
            have A22 := Aside0.mk A220
            clear A220
            by_cases c23 : x5_1.length < 5864062014805
            ·rw [if_pos c23] at H
             have LMc23 := Aside0.mk c23
             clear c23
             obtain ⟨y264, hy264⟩ : ∃ y_ : List (S61), y_ = (x5_1 ++ [(⟨0, (rd_T61 l1 x6_1).f1, wrap64 ((wrap64 (t262 + 1)) - ((rd_T61 l1 x6_1).f2))⟩ : S61)]) := ⟨_, rfl⟩
             replace H : (spec_DualTerm.l0 kj5 l1 y264 (wrap64 (x6_1 + 1)) a0_0 l0_1) = some r := by first | (rw [hy264]; with_reducible exact H) | (have H2_ := (Option.bind_some _ _).symm.trans H; rw [hy264]; with_reducible exact H2_) | (have H2_ := (Option.bind_some _ _).symm.trans H; with_reducible exact H2_) | with_reducible exact H | (rw [hy264]; exact H) | exact H
             have Ny264 := Aside0.mk hy264
             clear hy264
             have H' := Aside0.mk H
             clear H
             have p252 : 0 ≤ (x6_1 : Int) := oda
             have q252 : x6_1 < (l1.length : Int) := oda
             obtain ⟨ad252, e252, hx252_0, hx252_1, hx252_2⟩ := at_T61 HR1.out x6_1 p252 q252
             cases e252
             replace hx252_0 := (HB.out.cell (World.block_lt_of_cell? w _ hx252_0)).trans hx252_0
             replace hx252_1 := (HB.out.cell (World.block_lt_of_cell? w _ hx252_1)).trans hx252_1
             replace hx252_2 := (HB.out.cell (World.block_lt_of_cell? w _ hx252_2)).trans hx252_2
             replace p252 := eq_true p252
             replace q252 := eq_true q252
             try go_wp2
             have n0_ := Aside0.mk (Kd.R_drew HO_5.out)
             have n1_ := Aside0.mk (blk_drew BK247.out)
             have n2_ := Aside0.mk (below_drew1 HB.out)
             clear HO_5 BK247 HB
             have HO_5 := n0_
             have BK247 := n1_
             have HB := n2_
             clear n0_ n1_ n2_
             have p259 : 0 ≤ (x6_1 : Int) := oda
             have q259 : x6_1 < (l1.length : Int) := oda
             obtain ⟨ad259, e259, hx259_0, hx259_1, hx259_2⟩ := at_T61 HR1.out x6_1 p259 q259
             have hw259_2 := hx259_2
             have hw259_1 := hx259_1
             have hw259_0 := hx259_0
             obtain rfl : ad252 = ad259 := (by injection e259)
             replace hx259_0 := (HB.out.cell (World.block_lt_of_cell? w _ hx259_0)).trans hx259_0
             replace hx259_1 := (HB.out.cell (World.block_lt_of_cell? w _ hx259_1)).trans hx259_1
             replace hx259_2 := (HB.out.cell (World.block_lt_of_cell? w _ hx259_2)).trans hx259_2
             replace p259 := eq_true p259
             replace q259 := eq_true q259
             have p260 : 0 ≤ (x6_1 : Int) := oda
             have q260 : x6_1 < (l1.length : Int) := oda
             obtain ⟨ad260, e260, hx260_0, hx260_1, hx260_2⟩ := at_T61 HR1.out x6_1 p260 q260
             have hw260_2 := hx260_2
             have hw260_1 := hx260_1
             have hw260_0 := hx260_0
             obtain rfl : ad252 = ad260 := (by injection e260)
             replace hx260_0 := (HB.out.cell (World.block_lt_of_cell? w _ hx260_0)).trans hx260_0
             replace hx260_1 := (HB.out.cell (World.block_lt_of_cell? w _ hx260_1)).trans hx260_1
             replace hx260_2 := (HB.out.cell (World.block_lt_of_cell? w _ hx260_2)).trans hx260_2
             replace p260 := eq_true p260
             replace q260 := eq_true q260
             have p261 : 0 ≤ (((rd_T61 l1 x6_1).f1) : Int) := oda
             have q261 : ((rd_T61 l1 x6_1).f1) < (l0_1.length : Int) := oda
             obtain ⟨ad261, e261, hx261_0⟩ := Kd.at_int HR0_1.out ((rd_T61 l1 x6_1).f1) p261 q261
             have hw261_0 := hx261_0
             cases e261
             replace hx261_0 := (HB.out.cell (World.block_lt_of_cell? w _ hx261_0)).trans hx261_0
             replace p261 := eq_true p261
             replace q261 := eq_true q261
             have p263 : 0 ≤ (x6_1 : Int) := oda
             have q263 : x6_1 < (l1.length : Int) := oda
             obtain ⟨ad263, e263, hx263_0, hx263_1, hx263_2⟩ := at_T61 HR1.out x6_1 p263 q263
             have hw263_2 := hx263_2
             have hw263_1 := hx263_1
             have hw263_0 := hx263_0
             obtain rfl : ad252 = ad263 := (by injection e263)
             replace hx263_0 := (HB.out.cell (World.block_lt_of_cell? w _ hx263_0)).trans hx263_0
             replace hx263_1 := (HB.out.cell (World.block_lt_of_cell? w _ hx263_1)).trans hx263_1
             replace hx263_2 := (HB.out.cell (World.block_lt_of_cell? w _ hx263_2)).trans hx263_2
             replace p263 := eq_true p263
             replace q263 := eq_true q263
             refine start_ (n := 27) (S := fun w' => w'.cell? ⟨gb247, 0, none⟩ = some (.int .i64 a0_0) ∧ w'.cell? ⟨gb247, 1, none⟩ = some (.slice (some ad261) l0_1.length c0_1) ∧ w'.cell? (ad252.add ((x6_1).toNat * 3)) = some (.int .i64 ((rd_T61 l1 x6_1).f0)) ∧ w'.cell? ⟨(ad252.add ((x6_1).toNat * 3)).block, (ad252.add ((x6_1).toNat * 3)).off + 1, none⟩ = some (.int .i64 ((rd_T61 l1 x6_1).f1)) ∧ w'.cell? ⟨(ad252.add ((x6_1).toNat * 3)).block, (ad252.add ((x6_1).toNat * 3)).off + 2, none⟩ = some (.int .i64 ((rd_T61 l1 x6_1).f2)) ∧ w'.cell? (ad252.add ((x6_1).toNat * 3)) = some (.int .i64 ((rd_T61 l1 x6_1).f0)) ∧ w'.cell? ⟨(ad252.add ((x6_1).toNat * 3)).block, (ad252.add ((x6_1).toNat * 3)).off + 1, none⟩ = some (.int .i64 ((rd_T61 l1 x6_1).f1)) ∧ w'.cell? ⟨(ad252.add ((x6_1).toNat * 3)).block, (ad252.add ((x6_1).toNat * 3)).off + 2, none⟩ = some (.int .i64 ((rd_T61 l1 x6_1).f2)) ∧ w'.cell? (ad261.add (((rd_T61 l1 x6_1).f1)).toNat) = some (.int .i64 (rd l0_1 ((rd_T61 l1 x6_1).f1))) ∧ w'.cell? (ad252.add ((x6_1).toNat * 3)) = some (.int .i64 ((rd_T61 l1 x6_1).f0)) ∧ w'.cell? ⟨(ad252.add ((x6_1).toNat * 3)).block, (ad252.add ((x6_1).toNat * 3)).off + 1, none⟩ = some (.int .i64 ((rd_T61 l1 x6_1).f1)) ∧ w'.cell? ⟨(ad252.add ((x6_1).toNat * 3)).block, (ad252.add ((x6_1).toNat * 3)).off + 2, none⟩ = some (.int .i64 ((rd_T61 l1 x6_1).f2))) (ds := []) #[F,F,F,F,F,F,F,F,F,F,F,F,F,F,F,F,F,F,F,F,F,F,F,F,F,F,F] kr rfl rfl ⟨cz0 BK247, cz1 BK247, ((HB.out.cell (World.block_lt_of_cell? w _ hw259_0)).trans hw259_0), ((HB.out.cell (World.block_lt_of_cell? w _ hw259_1)).trans hw259_1), ((HB.out.cell (World.block_lt_of_cell? w _ hw259_2)).trans hw259_2), ((HB.out.cell (World.block_lt_of_cell? w _ hw260_0)).trans hw260_0), ((HB.out.cell (World.block_lt_of_cell? w _ hw260_1)).trans hw260_1), ((HB.out.cell (World.block_lt_of_cell? w _ hw260_2)).trans hw260_2), ((HB.out.cell (World.block_lt_of_cell? w _ hw261_0)).trans hw261_0), ((HB.out.cell (World.block_lt_of_cell? w _ hw263_0)).trans hw263_0), ((HB.out.cell (World.block_lt_of_cell? w _ hw263_1)).trans hw263_1), ((HB.out.cell (World.block_lt_of_cell? w _ hw263_2)).trans hw263_2)⟩ (fun hHeld => ?_); refine with_tabW spec_DualTerm.tab6 spec_DualTerm.bits6 (fun HT_ HW_ => ?_)
             generalize wc.drew = w24 at HO_5 BK247 HB hx259_0 hx259_1 hx259_2 hx260_0 hx260_1 hx260_2 hx261_0 hx263_0 hx263_1 hx263_2 hHeld ⊢
             refine pu 0 (some 24) #[T,F,F,F,F,F,F,F,F,F,F,F,F,F,F,F,F,F,F,F,F,F,F,F,F,F,F] (any_of HT_.out kr) ?_
             refine pu 1 (some 25) #[T,T,F,F,F,F,F,F,F,F,F,F,F,F,F,F,F,F,F,F,F,F,F,F,F,F,F] (any_of HT_.out kr) ?_
             refine pu 2 (some 26) #[T,T,T,F,F,F,F,F,F,F,F,F,F,F,F,F,F,F,F,F,F,F,F,F,F,F,F] (any_of HT_.out kr) ?_
             refine pu 3 (some 27) #[T,T,T,T,F,F,F,F,F,F,F,F,F,F,F,F,F,F,F,F,F,F,F,F,F,F,F] (any_of HT_.out kr) ?_
             refine pu 4 (some 28) #[T,T,T,T,T,F,F,F,F,F,F,F,F,F,F,F,F,F,F,F,F,F,F,F,F,F,F] (any_of HT_.out kr) ?_
             refine pu 6 (some 30) #[T,T,T,T,T,F,T,F,F,F,F,F,F,F,F,F,F,F,F,F,F,F,F,F,F,F,F] (any_of HT_.out kr) ?_
             refine pu 8 (some 32) #[T,T,T,T,T,F,T,F,T,F,F,F,F,F,F,F,F,F,F,F,F,F,F,F,F,F,F] (any_of HT_.out kr) ?_
             refine pu 9 (some 33) #[T,T,T,T,T,F,T,F,T,T,F,F,F,F,F,F,F,F,F,F,F,F,F,F,F,F,F] (any_of HT_.out kr) ?_
             refine pu 10 (some 34) #[T,T,T,T,T,F,T,F,T,T,T,F,F,F,F,F,F,F,F,F,F,F,F,F,F,F,F] (any_of HT_.out kr) ?_
             refine pu 11 (some 35) #[T,T,T,T,T,F,T,F,T,T,T,T,F,F,F,F,F,F,F,F,F,F,F,F,F,F,F] (any_of HT_.out kr) ?_
             refine pu 17 (some 41) #[T,T,T,T,T,F,T,F,T,T,T,T,F,F,F,F,F,T,F,F,F,F,F,F,F,F,F] (any_of HT_.out kr) ?_
             refine pu 18 (some 42) #[T,T,T,T,T,F,T,F,T,T,T,T,F,F,F,F,F,T,T,F,F,F,F,F,F,F,F] (any_of HT_.out kr) ?_
             refine pu 19 (some 43) #[T,T,T,T,T,F,T,F,T,T,T,T,F,F,F,F,F,T,T,T,F,F,F,F,F,F,F] (any_of HT_.out kr) ?_
             refine pu 20 (some 44) #[T,T,T,T,T,F,T,F,T,T,T,T,F,F,F,F,F,T,T,T,T,F,F,F,F,F,F] (any_of HT_.out kr) ?_
             refine tk12 5 (some 29) #[T,T,T,T,T,T,T,F,T,T,T,T,F,F,F,F,F,T,T,T,T,F,F,F,F,F,F] (take_ofW HT_.out HW_.out kr) ?_
             refine tk12 7 (some 31) #[T,T,T,T,T,T,T,T,T,T,T,T,F,F,F,F,F,T,T,T,T,F,F,F,F,F,F] (take_ofW HT_.out HW_.out kr) ?_
             refine tk12 12 (some 36) #[T,T,T,T,T,T,T,T,T,T,T,T,T,F,F,F,F,T,T,T,T,F,F,F,F,F,F] (take_ofW HT_.out HW_.out kr) ?_
             refine pu 13 (some 37) #[T,T,T,T,T,T,T,T,T,T,T,T,T,T,F,F,F,T,T,T,T,F,F,F,F,F,F] (any_of HT_.out kr) ?_
             refine tk12 14 (some 38) #[T,T,T,T,T,T,T,T,T,T,T,T,T,T,T,F,F,T,T,T,T,F,F,F,F,F,F] (take_ofW HT_.out HW_.out kr) ?_
             refine tk12 21 (some 45) #[T,T,T,T,T,T,T,T,T,T,T,T,T,T,T,F,F,T,T,T,T,T,F,F,F,F,F] (take_ofW HT_.out HW_.out kr) ?_
             refine one_ (i := 15) (N := some 39) #[T,T,T,T,T,T,T,T,T,T,T,T,T,T,T,T,F,T,T,T,T,T,F,F,F,F,F] rfl rfl (one_of HT_.out kr) (by decide) (fun K hK => ?_)
             refine goes_ Try.func53 kr rfl #[.int .i64 (rd l0_1 ((rd_T61 l1 x6_1).f1))] (by rfl) rfl rfl lm ?_
             with_reducible refine (spec_l1Heads.calls kj5 (rd l0_1 ((rd_T61 l1 x6_1).f1)) t262 _ A22.out).mono ?_
             rintro e w' ⟨rfl, ⟨nd, rfl⟩⟩
             refine ⟨_, rfl, ?_⟩
             refine hK.out _ _ ⟨cz0 BK247, cz1 BK247, ((HB.out.cell (World.block_lt_of_cell? w _ hw259_0)).trans hw259_0), ((HB.out.cell (World.block_lt_of_cell? w _ hw259_1)).trans hw259_1), ((HB.out.cell (World.block_lt_of_cell? w _ hw259_2)).trans hw259_2), ((HB.out.cell (World.block_lt_of_cell? w _ hw260_0)).trans hw260_0), ((HB.out.cell (World.block_lt_of_cell? w _ hw260_1)).trans hw260_1), ((HB.out.cell (World.block_lt_of_cell? w _ hw260_2)).trans hw260_2), ((HB.out.cell (World.block_lt_of_cell? w _ hw261_0)).trans hw261_0), ((HB.out.cell (World.block_lt_of_cell? w _ hw263_0)).trans hw263_0), ((HB.out.cell (World.block_lt_of_cell? w _ hw263_1)).trans hw263_1), ((HB.out.cell (World.block_lt_of_cell? w _ hw263_2)).trans hw263_2)⟩ (fun hHeld => ?_)
             clear hK K
             refine norm_ (a' := ?_) ?_ ?_
             rotate_left
             ·show Act.put _ (some 39) _ = _
              simp only [Act.put, List.setIfInBounds_toArray, List.set_cons_zero, List.set_cons_succ, i64_w, i32_w]
              rfl
             refine pu 16 (some 40) #[T,T,T,T,T,T,T,T,T,T,T,T,T,T,T,T,T,T,T,T,T,T,F,F,F,F,F] (any_of HT_.out kr) ?_
             refine pu 22 (some 46) #[T,T,T,T,T,T,T,T,T,T,T,T,T,T,T,T,T,T,T,T,T,T,T,F,F,F,F] (any_of HT_.out kr) ?_
             refine pu 23 (some 47) #[T,T,T,T,T,T,T,T,T,T,T,T,T,T,T,T,T,T,T,T,T,T,T,T,F,F,F] (any_of HT_.out kr) ?_
             refine one_ (i := 24) (N := some 48) #[T,T,T,T,T,T,T,T,T,T,T,T,T,T,T,T,T,T,T,T,T,T,T,T,T,F,F] rfl rfl (one_of HT_.out kr) (by decide) (fun K hK => ?_)
             refine value_ (w1 := ?_) (v := ?_) (by rfl) rfl ?_ ?_
             rotate_left 2
             ·go_simp
              constructor
              ·rfl
              ·rfl
             refine hK.out _ _ ⟨(blk_cell (blk_alloc BK247.out _) 0).trans rfl, (blk_cell (blk_alloc BK247.out _) 1).trans rfl, (World.cell?_alloc_lt _ _ _ (World.block_lt_of_cell? _ _ (((HB.out.cell (World.block_lt_of_cell? w _ hw259_0)).trans hw259_0)))).trans (((HB.out.cell (World.block_lt_of_cell? w _ hw259_0)).trans hw259_0)), (World.cell?_alloc_lt _ _ _ (World.block_lt_of_cell? _ _ (((HB.out.cell (World.block_lt_of_cell? w _ hw259_1)).trans hw259_1)))).trans (((HB.out.cell (World.block_lt_of_cell? w _ hw259_1)).trans hw259_1)), (World.cell?_alloc_lt _ _ _ (World.block_lt_of_cell? _ _ (((HB.out.cell (World.block_lt_of_cell? w _ hw259_2)).trans hw259_2)))).trans (((HB.out.cell (World.block_lt_of_cell? w _ hw259_2)).trans hw259_2)), (World.cell?_alloc_lt _ _ _ (World.block_lt_of_cell? _ _ (((HB.out.cell (World.block_lt_of_cell? w _ hw260_0)).trans hw260_0)))).trans (((HB.out.cell (World.block_lt_of_cell? w _ hw260_0)).trans hw260_0)), (World.cell?_alloc_lt _ _ _ (World.block_lt_of_cell? _ _ (((HB.out.cell (World.block_lt_of_cell? w _ hw260_1)).trans hw260_1)))).trans (((HB.out.cell (World.block_lt_of_cell? w _ hw260_1)).trans hw260_1)), (World.cell?_alloc_lt _ _ _ (World.block_lt_of_cell? _ _ (((HB.out.cell (World.block_lt_of_cell? w _ hw260_2)).trans hw260_2)))).trans (((HB.out.cell (World.block_lt_of_cell? w _ hw260_2)).trans hw260_2)), (World.cell?_alloc_lt _ _ _ (World.block_lt_of_cell? _ _ (((HB.out.cell (World.block_lt_of_cell? w _ hw261_0)).trans hw261_0)))).trans (((HB.out.cell (World.block_lt_of_cell? w _ hw261_0)).trans hw261_0)), (World.cell?_alloc_lt _ _ _ (World.block_lt_of_cell? _ _ (((HB.out.cell (World.block_lt_of_cell? w _ hw263_0)).trans hw263_0)))).trans (((HB.out.cell (World.block_lt_of_cell? w _ hw263_0)).trans hw263_0)), (World.cell?_alloc_lt _ _ _ (World.block_lt_of_cell? _ _ (((HB.out.cell (World.block_lt_of_cell? w _ hw263_1)).trans hw263_1)))).trans (((HB.out.cell (World.block_lt_of_cell? w _ hw263_1)).trans hw263_1)), (World.cell?_alloc_lt _ _ _ (World.block_lt_of_cell? _ _ (((HB.out.cell (World.block_lt_of_cell? w _ hw263_2)).trans hw263_2)))).trans (((HB.out.cell (World.block_lt_of_cell? w _ hw263_2)).trans hw263_2))⟩ (fun hHeld => ?_)
             clear hK K
             refine norm_ (a' := ?_) ?_ ?_
             rotate_left
             ·show Act.put _ (some 48) _ = _
              simp only [Act.put, List.setIfInBounds_toArray, List.set_cons_zero, List.set_cons_succ, i64_w, i32_w]
              rfl
             refine one_ (i := 25) (N := some 49) #[T,T,T,T,T,T,T,T,T,T,T,T,T,T,T,T,T,T,T,T,T,T,T,T,T,T,F] rfl rfl (one_of HT_.out kr) (by decide) (fun K hK => ?_)
             refine Kd.R_append_step k61 (w0 := w) w.heap.size (by rfl) (.tmp 24) (.tmp 48) 26 61 (.agg #[(.int .i64 0), (.int .i64 0), (.int .i64 0)]) 24 rfl Try.underlying26 info61 rfl (by decide) (by omega) u5 x5_1 (⟨0, (rd_T61 l1 x6_1).f1, wrap64 ((wrap64 (t262 + 1)) - ((rd_T61 l1 x6_1).f2))⟩ : S61) [.int .i64 0, .int .i64 ((rd_T61 l1 x6_1).f1), .int .i64 (wrap64 ((wrap64 (t262 + 1)) - ((rd_T61 l1 x6_1).f2)))] (fun _ => True) (fun _ => False) rfl rfl ?aP (fun _ hk => hk.elim) ?aF ?aO ?aB ?aS ?aL ?_
             (case aP => exact k61_mkM _ _ _ (⟨0, (rd_T61 l1 x6_1).f1, wrap64 ((wrap64 (t262 + 1)) - ((rd_T61 l1 x6_1).f2))⟩ : S61))
             (case aB => exact bh)
             (case aF => exact (fun _ _ => trivial))
             (case aO => exact (rz HO_5))
             (case aS => exact (below_size bh))
             (case aL => have := LMc23.out; omega)
             intro v265 w25 ho hb hg hat
             rw [← Ny264.out] at ho
             have n0_ := Aside0.mk (blk_grown (bz BK247) hg (Kd.R_ne HO_5.out BK247.out (by decide)))
             have n1_ := Aside0.mk (hb)
             have n2_ := Aside0.mk (ho)
             clear BK247 HB HO_5
             have BK247 := n0_
             have HB := n1_
             have HO266 := n2_
             clear n0_ n1_ n2_ ho hb hg hat
             refine hK.out _ _ ⟨cz0 BK247, cz1 BK247, ((HB.out.cell (World.block_lt_of_cell? w _ hw259_0)).trans hw259_0), ((HB.out.cell (World.block_lt_of_cell? w _ hw259_1)).trans hw259_1), ((HB.out.cell (World.block_lt_of_cell? w _ hw259_2)).trans hw259_2), ((HB.out.cell (World.block_lt_of_cell? w _ hw260_0)).trans hw260_0), ((HB.out.cell (World.block_lt_of_cell? w _ hw260_1)).trans hw260_1), ((HB.out.cell (World.block_lt_of_cell? w _ hw260_2)).trans hw260_2), ((HB.out.cell (World.block_lt_of_cell? w _ hw261_0)).trans hw261_0), ((HB.out.cell (World.block_lt_of_cell? w _ hw263_0)).trans hw263_0), ((HB.out.cell (World.block_lt_of_cell? w _ hw263_1)).trans hw263_1), ((HB.out.cell (World.block_lt_of_cell? w _ hw263_2)).trans hw263_2)⟩ (fun hHeld => ?_)
             clear hK K
             refine norm_ (a' := ?_) ?_ ?_
             rotate_left
             ·show Act.put _ (some 49) _ = _
              simp only [Act.put, List.setIfInBounds_toArray, List.set_cons_zero, List.set_cons_succ, i64_w, i32_w]
              rfl
             refine pu 26 (some 5) #[T,T,T,T,T,T,T,T,T,T,T,T,T,T,T,T,T,T,T,T,T,T,T,T,T,T,T] (any_of HT_.out kr) ?_
             refine done_ (done_of HT_.out kr) ?_
             try go_wp2
             go_roundg kj5
             case measure => have := HK1.out; have := HJ5.out; omega
             case rel => exact ⟨(y264), (wrap64 (x6_1 + 1)), (by first | rfl | (simp; done) | (simp [*]; done)), H', ⟨by have := HK1.out; have := HJ5.out; omega⟩, ⟨rz HO266⟩, ⟨bz BK247⟩, ⟨by exact bh⟩⟩
            ·rw [if_neg c23] at H
             exact absurd H (by simp)
           ·rw [if_neg c21] at H
            exact absurd H (by simp)
          ·rw [if_neg c20] at H
           exact absurd H (by simp)
       ·rw [if_neg c13] at H
        exact absurd H (by simp)
      ·rw [if_neg c12] at H
       exact absurd H (by simp)
     ·replace c11 := Bool.eq_false_iff.mpr c11
      subst c11
      have H1 : (some x5_1) = some r := by rw [if_neg (show ¬ (false = true) by decide)] at H; exact H
      clear H
      have H := H1
      clear H1
      obtain rfl := Option.some.inj H
      go_wp2
      go_ret
      exact ⟨_, by first | rfl | (simp [errW_none, errW_some] <;> rfl) | (simp [*, errW_none, errW_some] <;> rfl), by (with_reducible repeat (first | apply Kd.R_alloc | apply Kd.R_drewN | apply Kd.R_drew)); exact HO_5.out, by exact bh⟩

end Go.Proofs.Ytaddlahbahedeaa.QFnSameConsents
