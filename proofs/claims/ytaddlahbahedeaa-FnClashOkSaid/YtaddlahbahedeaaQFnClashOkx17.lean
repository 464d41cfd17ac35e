-- Printed for this claim by a turned copy of the print (wip/myprint). Lean checks it. Squeezed. Worded. Tightened.
import Derived.Test.YtaddlahbahedeaaQFnClashOkx0
import Derived.Test.YtaddlahbahedeaaQFnClashOkx3
import Derived.Test.YtaddlahbahedeaaQFnClashOkx16
namespace Go.Proofs.Ytaddlahbahedeaa.QFnClashOk
open Go.RowKit Go.Proofs.YtaddlahbahedeaaW.PrintWords Go.Proofs.YtaddlahbahedeaaW.PrintLast Go.Proofs.YtaddlahbahedeaaW.PrintMore
attribute [local go_sem] max2_int min2_int max_two min_two max_three min_three max_four min_four Opens.cell_twice   -- for this text's walks alone
set_option linter.unusedVariables false
set_option linter.unusedSimpArgs false

/-! ### spec_ClashOk: function 36 -/
mutual
def spec_ClashOk.l0 : Nat → List (S61) → Int → Int → List Int → Option (Bool)
 | 0, _, _, _, _ => none
 | k + 1, x1, x5, x439000, x439001 => (spec_TermOk.f k x439000 x439001 x1).bind fun t439 => (if t439 = true then (if 0 ≤ x439000 then (spec_ClashOk.j1 k x1 x5 (decide (x5 < (shl .i64 1 x439000))) x439000 x439001) else (none)) else (spec_ClashOk.j1 k x1 x5 false x439000 x439001))
def spec_ClashOk.j1 : Nat → List (S61) → Int → Bool → Int → List Int → Option (Bool)
 | 0, _, _, _, _, _ => none
 | k + 1, x1, x5, x15, x439000, x439001 => if x15 = true then ((spec_l4Says.f k x439000 x439001 x1 x5).bind fun t440 => (if t440 = true then (if 0 ≤ x439000 then ((spec_l4Says.f k x439000 x439001 x1 (wrap64 ((wrap64 ((shl .i64 1 x439000) - 1)) - x5))).bind fun t441 => (if t441 = true then (some true) else (spec_ClashOk.l0 k x1 (wrap64 (x5 + 1)) x439000 x439001))) else (none)) else (spec_ClashOk.l0 k x1 (wrap64 (x5 + 1)) x439000 x439001))) else (some false)
end
def spec_ClashOk.f (k : Nat) (a0_0 : Int) (l0_1 : List Int) (l1 : List (S61)) : Option (Bool) := spec_ClashOk.l0 k l1 0 a0_0 l0_1
theorem spec_ClashOk.mono_l : ∀ k, (∀ y0 y1 y2 y3, LeO (spec_ClashOk.l0 k y0 y1 y2 y3) (spec_ClashOk.l0 (k + 1) y0 y1 y2 y3)) ∧ (∀ y0 y1 y2 y3 y4, LeO (spec_ClashOk.j1 k y0 y1 y2 y3 y4) (spec_ClashOk.j1 (k + 1) y0 y1 y2 y3 y4))
 | 0 => ⟨fun _ _ _ _ r h => by simp [spec_ClashOk.l0] at h, fun _ _ _ _ _ r h => by simp [spec_ClashOk.j1] at h⟩
 | k + 1 => by
  obtain ⟨ih0, ih1⟩ := spec_ClashOk.mono_l k
  refine ⟨?_, ?_⟩
  ·intro y0 y1 y2 y3
   unfold spec_ClashOk.l0
   repeat' first
   | (with_reducible exact ih0 _ _ _ _)
   | (with_reducible exact ih1 _ _ _ _ _)
   | (with_reducible exact spec_TermOk.mono _ _ _ _)
   | (with_reducible exact spec_l4Says.mono _ _ _ _ _)
   | (with_reducible exact LeO.refl _)
   | (with_reducible exact LeO.none _)
   | (with_reducible refine LeO.ite ?_ ?_)
   | (with_reducible refine LeO.bind ?_ (fun _ => ?_))
   | exact ih0 _ _ _ _
   | exact ih1 _ _ _ _ _
   | exact spec_TermOk.mono _ _ _ _
   | exact spec_l4Says.mono _ _ _ _ _
   | exact LeO.none _
   | refine LeO.ite ?_ ?_
   | refine LeO.bind ?_ (fun _ => ?_)
  ·intro y0 y1 y2 y3 y4
   unfold spec_ClashOk.j1
   repeat' first
   | (with_reducible exact ih0 _ _ _ _)
   | (with_reducible exact ih1 _ _ _ _ _)
   | (with_reducible exact spec_TermOk.mono _ _ _ _)
   | (with_reducible exact spec_l4Says.mono _ _ _ _ _)
   | (with_reducible exact LeO.refl _)
   | (with_reducible exact LeO.none _)
   | (with_reducible refine LeO.ite ?_ ?_)
   | (with_reducible refine LeO.bind ?_ (fun _ => ?_))
   | exact ih0 _ _ _ _
   | exact ih1 _ _ _ _ _
   | exact spec_TermOk.mono _ _ _ _
   | exact spec_l4Says.mono _ _ _ _ _
   | exact LeO.none _
   | refine LeO.ite ?_ ?_
   | refine LeO.bind ?_ (fun _ => ?_)
theorem spec_ClashOk.mono : ∀ a0 a1 a2 k, LeO (spec_ClashOk.f k a0 a1 a2) (spec_ClashOk.f (k + 1) a0 a1 a2) := by
 intro a0 a1 a2 k
 obtain ⟨ih0, ih1⟩ := spec_ClashOk.mono_l k
 unfold spec_ClashOk.f
 repeat' first
   | (with_reducible exact ih0 _ _ _ _)
   | (with_reducible exact ih1 _ _ _ _ _)
   | (with_reducible exact spec_TermOk.mono _ _ _ _)
   | (with_reducible exact spec_l4Says.mono _ _ _ _ _)
   | (with_reducible exact LeO.refl _)
   | (with_reducible exact LeO.none _)
   | (with_reducible refine LeO.ite ?_ ?_)
   | (with_reducible refine LeO.bind ?_ (fun _ => ?_))
   | exact ih0 _ _ _ _
   | exact ih1 _ _ _ _ _
   | exact spec_TermOk.mono _ _ _ _
   | exact spec_l4Says.mono _ _ _ _ _
   | exact LeO.none _
   | refine LeO.ite ?_ ?_
   | refine LeO.bind ?_ (fun _ => ?_)
def spec_ClashOk.T4 : Bool × List (List Nat × List Nat) := (true, [([], []), ([], []), ([], []), ([0, 1, 2], [0, 1, 2]), ([3, 3], [3]), ([4], [4]), ([4], [4]), ([4], [4]), ([7, 4], [4, 7]), ([8, 4], [4, 8]), ([9, 4], [4, 9]), ([4], [4]), ([10, 11, 4], [4, 10, 11]), ([5, 6, 12, 4, 4], [4, 5, 6, 12]), ([4, 13], [4, 13])])
def spec_ClashOk.B4 : List Nat := [0, 0, 0, 7, 15, 31, 31, 31, 159, 415, 927, 31, 3999, 8191, 16383]
theorem spec_ClashOk.tab4 : rtab .any (opsOf Try.f36 4) = spec_ClashOk.T4 := by kernel_rfl
theorem spec_ClashOk.bits4 : waitsOk spec_ClashOk.T4.2 spec_ClashOk.B4 = true := by kernel_rfl
set_option maxHeartbeats 8000000 in
set_option maxRecDepth 100000 in
theorem spec_ClashOk.calls (k : Nat) (a0_0 : Int) (A0_1 : Option Addr) (c0_1 : Nat) (l0_1 : List Int) (A1 : Option Addr) (c1 : Nat) (l1 : List (S61)) (r : Bool) (w : World) (hr0_1 : Kd.C (Kd.int .i64) w A0_1 l0_1.length l0_1) (hc0_1 : l0_1.length ≤ c0_1) (hr1 : Kd.C k61 w A1 l1.length l1) (hc1 : l1.length ≤ c1) (h : spec_ClashOk.f k a0_0 l0_1 l1 = some r) :
  Calls Try.prog 36 #[.agg #[.int .i64 a0_0, .slice A0_1 l0_1.length c0_1], .slice A1 l1.length c1] w fun e w' => e = .returned (.bool r) ∧ Below w.heap.size w w' := by
 have hu25 := Try.underlying25
 have HR0_1 := Aside0.mk hr0_1
 have HC0_1 := Aside0.mk hc0_1
 clear hr0_1 hc0_1
 have HR1 := Aside0.mk hr1
 have HC1 := Aside0.mk hc1
 clear hr1 hc1
 have HB := Aside0.mk (Below.refl w.heap.size w)
 have H : (spec_ClashOk.l0 k l1 0 a0_0 l0_1) = some r := h
 clear h
 have H' := Aside0.mk H
 clear H
 go_enter Try.func36, Try.ntmps36
 go_wp2_with (first | ((with_reducible refine gate_dst (N := 2) rfl ?_); refine box_event ?hg (N := 2) ?hd (cs := #[.int .i64 a0_0, .slice A0_1 l0_1.length c0_1]) (t := 25) ?hr ?_; (case hd => rfl); (case hg => rfl); (case hr => first | (go_simp; done) | (go_simp; rfl)); intro gb438 hg w3 hbox hb; have n0_ := Aside0.mk (below_step bh hb); have n1_ := Aside0.mk (hbox); have n2_ := Aside0.mk ((gs (W0 := w) hg bh)); have n3_ := Aside0.mk ((gs (W0 := w) hg bh)); clear HB; have HB := n0_; have BK438 := n1_; have GW438 := n2_; have GE438 := n3_; clear n0_ n1_ n2_ n3_ hb hbox hg))
 go_loopg [5] k (fun kq v5 w' => ∃ (x5_1 : Int), v5 = .int .i64 x5_1 ∧ Aside0 (spec_ClashOk.l0 kq l1 x5_1 a0_0 l0_1 = some r) ∧ Aside0 (kq ≤ k) ∧ Aside0 (w'.heap[gb438]? = some (.cells #[.int .i64 a0_0, (.slice A0_1 l0_1.length c0_1)] 25 (0, 0))) ∧ Aside0 (Below w.heap.size w w'))
 case atStart => exact ⟨(0), (by first | rfl | (simp; done) | (simp [*]; done)), H', ⟨Nat.le_refl _⟩, ⟨bz BK438⟩, ⟨by exact bh⟩⟩
 case round =>
  clear H'
  try clear c1
  try clear p2
  try clear c3
  obtain ⟨x5_1, rfl, HA, HK1, BK438, HB⟩ := hrel
  cases gk with
  | zero => exact absurd HA.out (by simp [spec_ClashOk.l0])
  | succ k1 =>
   have H := HA.out
   clear HA
   simp only [spec_ClashOk.l0] at H
   have HC4 := Aside0.mk H
   clear H
   go_upto_region 2 with (fail)
   go_cut [15] (fun v15 wc => ∃ (kq : Nat) (x15_3 : Bool), v15 = .bool x15_3 ∧ Aside0 (spec_ClashOk.j1 kq l1 x5_1 x15_3 a0_0 l0_1 = some r) ∧ Aside0 (kq ≤ k1) ∧ Aside0 (wc.heap[gb438]? = some (.cells #[.int .i64 a0_0, (.slice A0_1 l0_1.length c0_1)] 25 (0, 0))) ∧ Aside0 (Below w.heap.size w wc))
   case first =>
    have H := HC4.out
    clear HC4
    replace H := Option.bind_eq_some_iff.mp H
    obtain ⟨t439, A50, H⟩ := H
    replace H : (if t439 = true then (if 0 ≤ a0_0 then (spec_ClashOk.j1 k1 l1 x5_1 (decide (x5_1 < (shl .i64 1 a0_0))) a0_0 l0_1) else (none)) else (spec_ClashOk.j1 k1 l1 x5_1 false a0_0 l0_1)) = some r := H
    have A5 := Aside0.mk A50
    clear A50
    by_cases c6 : t439 = true
    ·subst c6
     have H1 : (if 0 ≤ a0_0 then (spec_ClashOk.j1 k1 l1 x5_1 (decide (x5_1 < (shl .i64 1 a0_0))) a0_0 l0_1) else (none)) = some r := by rw [if_pos rfl] at H; exact H
     clear H
     have H := H1
     clear H1
     by_cases c7 : 0 ≤ a0_0
     ·rw [if_pos c7] at H
      have c7b0 := eq_true c7
      have c7b1 : decide (0 ≤ a0_0) = true := decide_eq_true c7
      clear c7
      obtain ⟨ji8, hji8⟩ : ∃ j_ : Int, (shl .i64 1 a0_0) = j_ := ⟨_, rfl⟩
      replace H : (spec_ClashOk.j1 k1 l1 x5_1 (decide (x5_1 < (ji8))) a0_0 l0_1) = some r := by first | (rw [hji8] at H; exact H) | (simp only [hji8] at H ⊢; exact H)
      (try rw [hji8] at A5)
      have hji8_ : (IntKind.i64.wrap (1 * 2 ^ min a0_0.toNat 64)) = ji8 := hji8
      have hji8z : a0_0 ≤ 64 → (IntKind.i64.wrap (1 * 2 ^ a0_0.toNat)) = ji8 := shl_small hji8
      have hji8u : (IntKind.i64.wrap (2 ^ min a0_0.toNat 64)) = ji8 := by have h_ := hji8_; rw [Int.one_mul] at h_; exact h_
      have hji8v : a0_0 ≤ 64 → (IntKind.i64.wrap (2 ^ a0_0.toNat)) = ji8 := fun hle_ => by have h_ := hji8z hle_; rw [Int.one_mul] at h_; exact h_
      have hji8y : (wrap64 (1 * 2 ^ min a0_0.toNat 64)) = ji8 := (i64_w _).symm.trans hji8_
      have hji8x : a0_0 ≤ 64 → (wrap64 (1 * 2 ^ a0_0.toNat)) = ji8 := fun h_ => (i64_w _).symm.trans (hji8z h_)
      have H' := Aside0.mk H
      clear H
      have hcz9_0 := cz0 BK438
      have hcz9_1 := cz1 BK438
      have hfz9_0 := blk_frozen BK438.out 0
      have hfz9_1 := blk_frozen BK438.out 1
      go_wp2_with (first | ((with_reducible refine gate_callee (f := 12) rfl ?_); refine goesL_ (some 8) rfl rfl Try.func12 kr rfl #[.agg #[.int .i64 a0_0, .slice A0_1 l0_1.length c0_1], .slice A1 l1.length c1] rfl lm ?_; (with_reducible refine (spec_TermOk.calls k1 a0_0 _ _ l0_1 _ _ l1 true _ ?side1 ?side2 ?side3 ?side4 A5.out).mono ?_); (case side1 => repeat (first | exact (Kd.C_below HR0_1.out HB.out) | (with_reducible refine Kd.C_alloc ?_ _) | (with_reducible refine Kd.C_drewN ?_ _) | (with_reducible refine Kd.C_drew ?_))); (case side2 => exact HC0_1.out); (case side3 => repeat (first | exact (Kd.C_below HR1.out HB.out) | (with_reducible refine Kd.C_alloc ?_ _) | (with_reducible refine Kd.C_drewN ?_ _) | (with_reducible refine Kd.C_drew ?_))); (case side4 => exact HC1.out); rintro e w10 ⟨rfl, hb⟩; refine ⟨_, rfl, ?_⟩; have n0_ := Aside0.mk (blk_below (bz BK438) hb); have n1_ := Aside0.mk (below_step bh hb); clear BK438 HB; have BK438 := n0_; have HB := n1_; clear n0_ n1_; (try clear hb); (try clear hb2); (try clear hk); (try clear hi); have hcz11_0 := cz0 BK438; have hcz11_1 := cz1 BK438; have hfz11_0 := blk_frozen BK438.out 0; have hfz11_1 := blk_frozen BK438.out 1))
      go_meet
      case rel => exact ⟨_, (decide (x5_1 < (ji8))), (by first | rfl | (simp; done) | (simp only [← hji8] <;> (first | rfl | simp)) | (simp [*]; done)), H', ⟨by have := HK1.out; first | omega | exact Nat.le_refl _⟩, ⟨bz BK438⟩, ⟨by exact bh⟩⟩
     ·rw [if_neg c7] at H
      exact absurd H (by simp)
    ·replace c6 := Bool.eq_false_iff.mpr c6
     subst c6
     have H1 : (spec_ClashOk.j1 k1 l1 x5_1 false a0_0 l0_1) = some r := by rw [if_neg (show ¬ (false = true) by decide)] at H; exact H
     clear H
     have H := H1
     clear H1
     have H' := Aside0.mk H
     clear H
     have hcz12_0 := cz0 BK438
     have hcz12_1 := cz1 BK438
     have hfz12_0 := blk_frozen BK438.out 0
     have hfz12_1 := blk_frozen BK438.out 1
     go_wp2_with (first | ((with_reducible refine gate_callee (f := 12) rfl ?_); refine goesL_ (some 8) rfl rfl Try.func12 kr rfl #[.agg #[.int .i64 a0_0, .slice A0_1 l0_1.length c0_1], .slice A1 l1.length c1] rfl lm ?_; (with_reducible refine (spec_TermOk.calls k1 a0_0 _ _ l0_1 _ _ l1 false _ ?side1 ?side2 ?side3 ?side4 A5.out).mono ?_); (case side1 => repeat (first | exact (Kd.C_below HR0_1.out HB.out) | (with_reducible refine Kd.C_alloc ?_ _) | (with_reducible refine Kd.C_drewN ?_ _) | (with_reducible refine Kd.C_drew ?_))); (case side2 => exact HC0_1.out); (case side3 => repeat (first | exact (Kd.C_below HR1.out HB.out) | (with_reducible refine Kd.C_alloc ?_ _) | (with_reducible refine Kd.C_drewN ?_ _) | (with_reducible refine Kd.C_drew ?_))); (case side4 => exact HC1.out); rintro e w13 ⟨rfl, hb⟩; refine ⟨_, rfl, ?_⟩; have n0_ := Aside0.mk (blk_below (bz BK438) hb); have n1_ := Aside0.mk (below_step bh hb); clear BK438 HB; have BK438 := n0_; have HB := n1_; clear n0_ n1_; (try clear hb); (try clear hb2); (try clear hk); (try clear hi)))
     go_meet
     case rel => exact ⟨_, (false), (by first | rfl | (simp; done) | (simp [*]; done)), H', ⟨by have := HK1.out; first | omega | exact Nat.le_refl _⟩, ⟨bz BK438⟩, ⟨by exact bh⟩⟩
   case rest =>
    clear HC4
    try clear c1
    try clear p2
    try clear c3
    try clear c6
    try clear p6
    try clear c7
    try clear c7b0
    try clear c7b1
    try clear c12
    try clear hcz11_0
    try clear hcz11_1
    try clear hcz12_0
    try clear hcz12_1
    try clear hcz9_0
    try clear hcz9_1
    try clear hfz11_0
    try clear hfz11_1
    try clear hfz12_0
    try clear hfz12_1
    try clear hfz9_0
    try clear hfz9_1
    try clear p2
    obtain ⟨kq, x15_3, rfl, HA, HJ3, BK438, HB⟩ := hcut
    cases kq with
    | zero => exact absurd HA.out (by simp [spec_ClashOk.j1])
    | succ kj3 =>
     have H := HA.out
     clear HA
     simp only [spec_ClashOk.j1] at H
     by_cases c14 : x15_3 = true
     ·subst c14
      have H1 : ((spec_l4Says.f kj3 a0_0 l0_1 l1 x5_1).bind fun t440 => (if t440 = true then (if 0 ≤ a0_0 then ((spec_l4Says.f kj3 a0_0 l0_1 l1 (wrap64 ((wrap64 ((shl .i64 1 a0_0) - 1)) - x5_1))).bind fun t441 => (if t441 = true then (some true) else (spec_ClashOk.l0 kj3 l1 (wrap64 (x5_1 + 1)) a0_0 l0_1))) else (none)) else (spec_ClashOk.l0 kj3 l1 (wrap64 (x5_1 + 1)) a0_0 l0_1))) = some r := by rw [if_pos rfl] at H; exact H
      clear H
      have H := H1
      clear H1
      replace H := Option.bind_eq_some_iff.mp H
      obtain ⟨t440, A150, H⟩ := H
      replace H : (if t440 = true then (if 0 ≤ a0_0 then ((spec_l4Says.f kj3 a0_0 l0_1 l1 (wrap64 ((wrap64 ((shl .i64 1 a0_0) - 1)) - x5_1))).bind fun t441 => (if t441 = true then (some true) else (spec_ClashOk.l0 kj3 l1 (wrap64 (x5_1 + 1)) a0_0 l0_1))) else (none)) else (spec_ClashOk.l0 kj3 l1 (wrap64 (x5_1 + 1)) a0_0 l0_1)) = some r := H
      have A15 := Aside0.mk A150
      clear A150
      by_cases c16 : t440 = true
      ·subst c16
       have H1 : (if 0 ≤ a0_0 then ((spec_l4Says.f kj3 a0_0 l0_1 l1 (wrap64 ((wrap64 ((shl .i64 1 a0_0) - 1)) - x5_1))).bind fun t441 => (if t441 = true then (some true) else (spec_ClashOk.l0 kj3 l1 (wrap64 (x5_1 + 1)) a0_0 l0_1))) else (none)) = some r := by rw [if_pos rfl] at H; exact H
       clear H
       have H := H1
       clear H1
       by_cases c17 : 0 ≤ a0_0
       ·rw [if_pos c17] at H
        have c17b0 := eq_true c17
        have c17b1 : decide (0 ≤ a0_0) = true := decide_eq_true c17
        clear c17
        obtain ⟨ji18, hji18⟩ : ∃ j_ : Int, (shl .i64 1 a0_0) = j_ := ⟨_, rfl⟩
        replace H : ((spec_l4Says.f kj3 a0_0 l0_1 l1 (wrap64 ((wrap64 ((ji18) - 1)) - x5_1))).bind fun t441 => (if t441 = true then (some true) else (spec_ClashOk.l0 kj3 l1 (wrap64 (x5_1 + 1)) a0_0 l0_1))) = some r := by first | (rw [hji18] at H; exact H) | (simp only [hji18] at H ⊢; exact H)
        (try rw [hji18] at A15)
        have hji18_ : (IntKind.i64.wrap (1 * 2 ^ min a0_0.toNat 64)) = ji18 := hji18
        have hji18z : a0_0 ≤ 64 → (IntKind.i64.wrap (1 * 2 ^ a0_0.toNat)) = ji18 := shl_small hji18
        have hji18u : (IntKind.i64.wrap (2 ^ min a0_0.toNat 64)) = ji18 := by have h_ := hji18_; rw [Int.one_mul] at h_; exact h_
        have hji18v : a0_0 ≤ 64 → (IntKind.i64.wrap (2 ^ a0_0.toNat)) = ji18 := fun hle_ => by have h_ := hji18z hle_; rw [Int.one_mul] at h_; exact h_
        have hji18y : (wrap64 (1 * 2 ^ min a0_0.toNat 64)) = ji18 := (i64_w _).symm.trans hji18_
        have hji18x : a0_0 ≤ 64 → (wrap64 (1 * 2 ^ a0_0.toNat)) = ji18 := fun h_ => (i64_w _).symm.trans (hji18z h_)
        replace H := Option.bind_eq_some_iff.mp H
        obtain ⟨t441, A190, H⟩ := H
        replace H : (if t441 = true then (some true) else (spec_ClashOk.l0 kj3 l1 (wrap64 (x5_1 + 1)) a0_0 l0_1)) = some r := H
        have A19 := Aside0.mk A190
        clear A190
        by_cases c20 : t441 = true
        ·subst c20
         have H1 : (some true) = some r := by rw [if_pos rfl] at H; exact H
         clear H
         have H := H1
         clear H1
         obtain rfl := Option.some.inj H
         try go_wp2
         have n0_ := Aside0.mk (blk_drew BK438.out)
         have n1_ := Aside0.mk (below_drew1 HB.out)
         clear BK438 HB
         have BK438 := n0_
         have HB := n1_
         clear n0_ n1_
         refine start_ (n := 15) (S := fun w' => w'.cell? ⟨gb438, 0, none⟩ = some (.int .i64 a0_0) ∧ w'.cell? ⟨gb438, 1, none⟩ = some (.slice A0_1 l0_1.length c0_1)) (ds := []) #[F,F,F,F,F,F,F,F,F,F,F,F,F,F,F] kr rfl rfl ⟨cz0 BK438, cz1 BK438⟩ (fun hHeld => ?_); refine with_tabW spec_ClashOk.tab4 spec_ClashOk.bits4 (fun HT_ HW_ => ?_)
         generalize wc.drew = w21 at BK438 HB hHeld ⊢
         refine pu 1 (some 19) #[F,T,F,F,F,F,F,F,F,F,F,F,F,F,F] (any_of HT_.out kr) ?_
         refine pu 2 (some 20) #[F,T,T,F,F,F,F,F,F,F,F,F,F,F,F] (any_of HT_.out kr) ?_
         refine tk2 0 (some 18) #[T,T,T,F,F,F,F,F,F,F,F,F,F,F,F] (take_ofW HT_.out HW_.out kr) ?_
         refine one_ (i := 3) (N := some 21) #[T,T,T,T,F,F,F,F,F,F,F,F,F,F,F] rfl rfl (one_of HT_.out kr) (by decide) (fun K hK => ?_)
         refine goes_ Try.func51 kr rfl #[.agg #[.int .i64 a0_0, .slice A0_1 l0_1.length c0_1], .slice A1 l1.length c1, .int .i64 x5_1] (by rfl) rfl rfl lm ?_
         with_reducible refine (spec_l4Says.calls kj3 a0_0 _ _ l0_1 _ _ l1 x5_1 true _ ?side1 ?side2 ?side3 ?side4 A15.out).mono ?_
         (case side1 => repeat (first | exact (Kd.C_below HR0_1.out HB.out) | (with_reducible refine Kd.C_alloc ?_ _) | (with_reducible refine Kd.C_drewN ?_ _) | (with_reducible refine Kd.C_drew ?_)))
         (case side2 => exact HC0_1.out)
         (case side3 => repeat (first | exact (Kd.C_below HR1.out HB.out) | (with_reducible refine Kd.C_alloc ?_ _) | (with_reducible refine Kd.C_drewN ?_ _) | (with_reducible refine Kd.C_drew ?_)))
         (case side4 => exact HC1.out)
         rintro e w22 ⟨rfl, hb⟩
         refine ⟨_, rfl, ?_⟩
         have n0_ := Aside0.mk (blk_below (bz BK438) hb)
         have n1_ := Aside0.mk (below_step bh hb)
         clear BK438 HB
         have BK438 := n0_
         have HB := n1_
         clear n0_ n1_
         (try clear hb)
         (try clear hb2)
         (try clear hk)
         (try clear hi)
         refine hK.out _ _ ⟨cz0 BK438, cz1 BK438⟩ (fun hHeld => ?_)
         clear hK K
         refine norm_ (a' := ?_) ?_ ?_
         rotate_left
         ·show Act.put _ (some 21) _ = _
          simp only [Act.put, List.setIfInBounds_toArray, List.set_cons_zero, List.set_cons_succ, i64_w, i32_w]
          rfl
         refine pu 4 (some 22) #[T,T,T,T,T,F,F,F,F,F,F,F,F,F,F] (any_of HT_.out kr) ?_
         refine pu 6 (some 24) #[T,T,T,T,T,F,T,F,F,F,F,F,F,F,F] (any_of HT_.out kr) ?_
         refine pu 7 (some 25) #[T,T,T,T,T,F,T,T,F,F,F,F,F,F,F] (any_of HT_.out kr) ?_
         refine pu 11 (some 29) #[T,T,T,T,T,F,T,T,F,F,F,T,F,F,F] (any_of HT_.out kr) ?_
         refine tk2 5 (some 23) #[T,T,T,T,T,T,T,T,F,F,F,T,F,F,F] (take_ofW HT_.out HW_.out kr) ?_
         refine tk2 8 (some 26) #[T,T,T,T,T,T,T,T,T,F,F,T,F,F,F] (take_ofW HT_.out HW_.out kr) ?_
         refine pu 9 (some 27) #[T,T,T,T,T,T,T,T,T,T,F,T,F,F,F] (any_of HT_.out kr) ?_
         refine pu 10 (some 28) #[T,T,T,T,T,T,T,T,T,T,T,T,F,F,F] (any_of HT_.out kr) ?_
         refine pu 12 (some 30) #[T,T,T,T,T,T,T,T,T,T,T,T,T,F,F] (any_of HT_.out kr) ?_
         refine one_ (i := 13) (N := some 31) #[T,T,T,T,T,T,T,T,T,T,T,T,T,T,F] rfl rfl (one_of HT_.out kr) (by decide) (fun K hK => ?_)
         refine goes_ Try.func51 kr rfl #[.agg #[.int .i64 a0_0, .slice A0_1 l0_1.length c0_1], .slice A1 l1.length c1, .int .i64 (wrap64 ((wrap64 ((ji18) - 1)) - x5_1))] (by rfl) rfl rfl (by (try simp only [List.map_toArray, List.map_cons, List.map_nil]); first | done | (simp only [hji18]; rfl) | rfl | (simp only [List.length_drop, List.length_take]; rfl)) ?_
         with_reducible refine (spec_l4Says.calls kj3 a0_0 _ _ l0_1 _ _ l1 (wrap64 ((wrap64 ((ji18) - 1)) - x5_1)) true _ ?side1 ?side2 ?side3 ?side4 A19.out).mono ?_
         (case side1 => repeat (first | exact (Kd.C_below HR0_1.out HB.out) | (with_reducible refine Kd.C_alloc ?_ _) | (with_reducible refine Kd.C_drewN ?_ _) | (with_reducible refine Kd.C_drew ?_)))
         (case side2 => exact HC0_1.out)
         (case side3 => repeat (first | exact (Kd.C_below HR1.out HB.out) | (with_reducible refine Kd.C_alloc ?_ _) | (with_reducible refine Kd.C_drewN ?_ _) | (with_reducible refine Kd.C_drew ?_)))
         (case side4 => exact HC1.out)
         rintro e w23 ⟨rfl, hb⟩
         refine ⟨_, rfl, ?_⟩
         have n0_ := Aside0.mk (blk_below (bz BK438) hb)
         have n1_ := Aside0.mk (below_step bh hb)
         clear BK438 HB
         have BK438 := n0_
         have HB := n1_
         clear n0_ n1_
         (try clear hb)
         (try clear hb2)
         (try clear hk)
         (try clear hi)
         refine hK.out _ _ ⟨cz0 BK438, cz1 BK438⟩ (fun hHeld => ?_)
         clear hK K
         refine norm_ (a' := ?_) ?_ ?_
         rotate_left
         ·show Act.put _ (some 31) _ = _
          simp only [Act.put, List.setIfInBounds_toArray, List.set_cons_zero, List.set_cons_succ, i64_w, i32_w]
          rfl
         refine pu 14 (some 32) #[T,T,T,T,T,T,T,T,T,T,T,T,T,T,T] (any_of HT_.out kr) ?_
         refine done_ (done_of HT_.out kr) ?_
         try go_wp2
         go_ret
         exact ⟨by first | rfl | (simp [errW_none, errW_some] <;> rfl) | (simp only [← hji18]; first | rfl | (simp [errW_none, errW_some] <;> rfl)) | (simp [*, errW_none, errW_some] <;> rfl), by exact bh⟩
        ·replace c20 := Bool.eq_false_iff.mpr c20
         subst c20
         have H1 : (spec_ClashOk.l0 kj3 l1 (wrap64 (x5_1 + 1)) a0_0 l0_1) = some r := by rw [if_neg (show ¬ (false = true) by decide)] at H; exact H
         clear H
         have H := H1
         clear H1
         have H' := Aside0.mk H
         clear H
         try go_wp2
         have n0_ := Aside0.mk (blk_drew BK438.out)
         have n1_ := Aside0.mk (below_drew1 HB.out)
         clear BK438 HB
         have BK438 := n0_
         have HB := n1_
         clear n0_ n1_
         refine start_ (n := 15) (S := fun w' => w'.cell? ⟨gb438, 0, none⟩ = some (.int .i64 a0_0) ∧ w'.cell? ⟨gb438, 1, none⟩ = some (.slice A0_1 l0_1.length c0_1)) (ds := []) #[F,F,F,F,F,F,F,F,F,F,F,F,F,F,F] kr rfl rfl ⟨cz0 BK438, cz1 BK438⟩ (fun hHeld => ?_); refine with_tabW spec_ClashOk.tab4 spec_ClashOk.bits4 (fun HT_ HW_ => ?_)
         generalize wc.drew = w24 at BK438 HB hHeld ⊢
         refine pu 1 (some 19) #[F,T,F,F,F,F,F,F,F,F,F,F,F,F,F] (any_of HT_.out kr) ?_
         refine pu 2 (some 20) #[F,T,T,F,F,F,F,F,F,F,F,F,F,F,F] (any_of HT_.out kr) ?_
         refine tk2 0 (some 18) #[T,T,T,F,F,F,F,F,F,F,F,F,F,F,F] (take_ofW HT_.out HW_.out kr) ?_
         refine one_ (i := 3) (N := some 21) #[T,T,T,T,F,F,F,F,F,F,F,F,F,F,F] rfl rfl (one_of HT_.out kr) (by decide) (fun K hK => ?_)
         refine goes_ Try.func51 kr rfl #[.agg #[.int .i64 a0_0, .slice A0_1 l0_1.length c0_1], .slice A1 l1.length c1, .int .i64 x5_1] (by rfl) rfl rfl lm ?_
         with_reducible refine (spec_l4Says.calls kj3 a0_0 _ _ l0_1 _ _ l1 x5_1 true _ ?side1 ?side2 ?side3 ?side4 A15.out).mono ?_
         (case side1 => repeat (first | exact (Kd.C_below HR0_1.out HB.out) | (with_reducible refine Kd.C_alloc ?_ _) | (with_reducible refine Kd.C_drewN ?_ _) | (with_reducible refine Kd.C_drew ?_)))
         (case side2 => exact HC0_1.out)
         (case side3 => repeat (first | exact (Kd.C_below HR1.out HB.out) | (with_reducible refine Kd.C_alloc ?_ _) | (with_reducible refine Kd.C_drewN ?_ _) | (with_reducible refine Kd.C_drew ?_)))
         (case side4 => exact HC1.out)
         rintro e w25 ⟨rfl, hb⟩
         refine ⟨_, rfl, ?_⟩
         have n0_ := Aside0.mk (blk_below (bz BK438) hb)
         have n1_ := Aside0.mk (below_step bh hb)
         clear BK438 HB
         have BK438 := n0_
         have HB := n1_
         clear n0_ n1_
         (try clear hb)
         (try clear hb2)
         (try clear hk)
         (try clear hi)
         refine hK.out _ _ ⟨cz0 BK438, cz1 BK438⟩ (fun hHeld => ?_)
         clear hK K
         refine norm_ (a' := ?_) ?_ ?_
         rotate_left
         ·show Act.put _ (some 21) _ = _
          simp only [Act.put, List.setIfInBounds_toArray, List.set_cons_zero, List.set_cons_succ, i64_w, i32_w]
          rfl
         refine pu 4 (some 22) #[T,T,T,T,T,F,F,F,F,F,F,F,F,F,F] (any_of HT_.out kr) ?_
         refine pu 6 (some 24) #[T,T,T,T,T,F,T,F,F,F,F,F,F,F,F] (any_of HT_.out kr) ?_
         refine pu 7 (some 25) #[T,T,T,T,T,F,T,T,F,F,F,F,F,F,F] (any_of HT_.out kr) ?_
         refine pu 11 (some 29) #[T,T,T,T,T,F,T,T,F,F,F,T,F,F,F] (any_of HT_.out kr) ?_
         refine tk2 5 (some 23) #[T,T,T,T,T,T,T,T,F,F,F,T,F,F,F] (take_ofW HT_.out HW_.out kr) ?_
         refine tk2 8 (some 26) #[T,T,T,T,T,T,T,T,T,F,F,T,F,F,F] (take_ofW HT_.out HW_.out kr) ?_
         refine pu 9 (some 27) #[T,T,T,T,T,T,T,T,T,T,F,T,F,F,F] (any_of HT_.out kr) ?_
         refine pu 10 (some 28) #[T,T,T,T,T,T,T,T,T,T,T,T,F,F,F] (any_of HT_.out kr) ?_
         refine pu 12 (some 30) #[T,T,T,T,T,T,T,T,T,T,T,T,T,F,F] (any_of HT_.out kr) ?_
         refine one_ (i := 13) (N := some 31) #[T,T,T,T,T,T,T,T,T,T,T,T,T,T,F] rfl rfl (one_of HT_.out kr) (by decide) (fun K hK => ?_)
         refine goes_ Try.func51 kr rfl #[.agg #[.int .i64 a0_0, .slice A0_1 l0_1.length c0_1], .slice A1 l1.length c1, .int .i64 (wrap64 ((wrap64 ((ji18) - 1)) - x5_1))] (by rfl) rfl rfl (by (try simp only [List.map_toArray, List.map_cons, List.map_nil]); first | done | (simp only [hji18]; rfl) | rfl | (simp only [List.length_drop, List.length_take]; rfl)) ?_
         with_reducible refine (spec_l4Says.calls kj3 a0_0 _ _ l0_1 _ _ l1 (wrap64 ((wrap64 ((ji18) - 1)) - x5_1)) false _ ?side1 ?side2 ?side3 ?side4 A19.out).mono ?_
         (case side1 => repeat (first | exact (Kd.C_below HR0_1.out HB.out) | (with_reducible refine Kd.C_alloc ?_ _) | (with_reducible refine Kd.C_drewN ?_ _) | (with_reducible refine Kd.C_drew ?_)))
         (case side2 => exact HC0_1.out)
         (case side3 => repeat (first | exact (Kd.C_below HR1.out HB.out) | (with_reducible refine Kd.C_alloc ?_ _) | (with_reducible refine Kd.C_drewN ?_ _) | (with_reducible refine Kd.C_drew ?_)))
         (case side4 => exact HC1.out)
         rintro e w26 ⟨rfl, hb⟩
         refine ⟨_, rfl, ?_⟩
         have n0_ := Aside0.mk (blk_below (bz BK438) hb)
         have n1_ := Aside0.mk (below_step bh hb)
         clear BK438 HB
         have BK438 := n0_
         have HB := n1_
         clear n0_ n1_
         (try clear hb)
         (try clear hb2)
         (try clear hk)
         (try clear hi)
         refine hK.out _ _ ⟨cz0 BK438, cz1 BK438⟩ (fun hHeld => ?_)
         clear hK K
         refine norm_ (a' := ?_) ?_ ?_
         rotate_left
         ·show Act.put _ (some 31) _ = _
          simp only [Act.put, List.setIfInBounds_toArray, List.set_cons_zero, List.set_cons_succ, i64_w, i32_w]
          rfl
         refine pu 14 (some 32) #[T,T,T,T,T,T,T,T,T,T,T,T,T,T,T] (any_of HT_.out kr) ?_
         refine done_ (done_of HT_.out kr) ?_
         try go_wp2
         go_roundg kj3
         case measure => have := HK1.out; have := HJ3.out; omega
         case rel => exact ⟨(wrap64 (x5_1 + 1)), (by first | rfl | (simp; done) | (simp [*]; done)), H', ⟨by have := HK1.out; have := HJ3.out; omega⟩, ⟨bz BK438⟩, ⟨by exact bh⟩⟩
       ·rw [if_neg c17] at H
        exact absurd H (by simp)
      ·replace c16 := Bool.eq_false_iff.mpr c16
       subst c16
       have H1 : (spec_ClashOk.l0 kj3 l1 (wrap64 (x5_1 + 1)) a0_0 l0_1) = some r := by rw [if_neg (show ¬ (false = true) by decide)] at H; exact H
       clear H
       have H := H1
       clear H1
       have H' := Aside0.mk H
       clear H
       try go_wp2
       have n0_ := Aside0.mk (blk_drew BK438.out)
       have n1_ := Aside0.mk (below_drew1 HB.out)
       clear BK438 HB
       have BK438 := n0_
       have HB := n1_
       clear n0_ n1_
       refine start_ (n := 15) (S := fun w' => w'.cell? ⟨gb438, 0, none⟩ = some (.int .i64 a0_0) ∧ w'.cell? ⟨gb438, 1, none⟩ = some (.slice A0_1 l0_1.length c0_1)) (ds := []) #[F,F,F,F,F,F,F,F,F,F,F,F,F,F,F] kr rfl rfl ⟨cz0 BK438, cz1 BK438⟩ (fun hHeld => ?_); refine with_tabW spec_ClashOk.tab4 spec_ClashOk.bits4 (fun HT_ HW_ => ?_)
       generalize wc.drew = w27 at BK438 HB hHeld ⊢
       refine pu 1 (some 19) #[F,T,F,F,F,F,F,F,F,F,F,F,F,F,F] (any_of HT_.out kr) ?_
       refine pu 2 (some 20) #[F,T,T,F,F,F,F,F,F,F,F,F,F,F,F] (any_of HT_.out kr) ?_
       refine tk2 0 (some 18) #[T,T,T,F,F,F,F,F,F,F,F,F,F,F,F] (take_ofW HT_.out HW_.out kr) ?_
       refine one_ (i := 3) (N := some 21) #[T,T,T,T,F,F,F,F,F,F,F,F,F,F,F] rfl rfl (one_of HT_.out kr) (by decide) (fun K hK => ?_)
       refine goes_ Try.func51 kr rfl #[.agg #[.int .i64 a0_0, .slice A0_1 l0_1.length c0_1], .slice A1 l1.length c1, .int .i64 x5_1] (by rfl) rfl rfl lm ?_
       with_reducible refine (spec_l4Says.calls kj3 a0_0 _ _ l0_1 _ _ l1 x5_1 false _ ?side1 ?side2 ?side3 ?side4 A15.out).mono ?_
       (case side1 => repeat (first | exact (Kd.C_below HR0_1.out HB.out) | (with_reducible refine Kd.C_alloc ?_ _) | (with_reducible refine Kd.C_drewN ?_ _) | (with_reducible refine Kd.C_drew ?_)))
       (case side2 => exact HC0_1.out)
       (case side3 => repeat (first | exact (Kd.C_below HR1.out HB.out) | (with_reducible refine Kd.C_alloc ?_ _) | (with_reducible refine Kd.C_drewN ?_ _) | (with_reducible refine Kd.C_drew ?_)))
       (case side4 => exact HC1.out)
       rintro e w28 ⟨rfl, hb⟩
       refine ⟨_, rfl, ?_⟩
       have n0_ := Aside0.mk (blk_below (bz BK438) hb)
       have n1_ := Aside0.mk (below_step bh hb)
       clear BK438 HB
       have BK438 := n0_
       have HB := n1_
       clear n0_ n1_
       (try clear hb)
       (try clear hb2)
       (try clear hk)
       (try clear hi)
       refine hK.out _ _ ⟨cz0 BK438, cz1 BK438⟩ (fun hHeld => ?_)
       clear hK K
       refine norm_ (a' := ?_) ?_ ?_
       rotate_left
       ·show Act.put _ (some 21) _ = _
        simp only [Act.put, List.setIfInBounds_toArray, List.set_cons_zero, List.set_cons_succ, i64_w, i32_w]
        rfl
       refine pu 4 (some 22) #[T,T,T,T,T,F,F,F,F,F,F,F,F,F,F] (any_of HT_.out kr) ?_
       refine pure_ (i := 5) (N := some 23) (v := undef) (a' := ?_) #[T,T,T,T,T,T,F,F,F,F,F,F,F,F,F] rfl rfl (any_of HT_.out kr) (fun _ _ _ h => h) (Or.inr ⟨by rfl, rfl⟩) ?_ ?_
       rotate_left
       ·simp only [Act.put, List.setIfInBounds_toArray, List.set_cons_zero, List.set_cons_succ, i64_w, i32_w]
        rfl
       refine pure_ (i := 6) (N := some 24) (v := undef) (a' := ?_) #[T,T,T,T,T,T,T,F,F,F,F,F,F,F,F] rfl rfl (any_of HT_.out kr) (fun _ _ _ h => h) (Or.inr ⟨by rfl, rfl⟩) ?_ ?_
       rotate_left
       ·simp only [Act.put, List.setIfInBounds_toArray, List.set_cons_zero, List.set_cons_succ, i64_w, i32_w]
        rfl
       refine pure_ (i := 7) (N := some 25) (v := undef) (a' := ?_) #[T,T,T,T,T,T,T,T,F,F,F,F,F,F,F] rfl rfl (any_of HT_.out kr) (fun _ _ _ h => h) (Or.inr ⟨by rfl, rfl⟩) ?_ ?_
       rotate_left
       ·simp only [Act.put, List.setIfInBounds_toArray, List.set_cons_zero, List.set_cons_succ, i64_w, i32_w]
        rfl
       refine pure_ (i := 8) (N := some 26) (v := undef) (a' := ?_) #[T,T,T,T,T,T,T,T,T,F,F,F,F,F,F] rfl rfl (any_of HT_.out kr) (fun _ _ _ h => h) (Or.inr ⟨by rfl, rfl⟩) ?_ ?_
       rotate_left
       ·simp only [Act.put, List.setIfInBounds_toArray, List.set_cons_zero, List.set_cons_succ, i64_w, i32_w]
        rfl
       refine pure_ (i := 9) (N := some 27) (v := undef) (a' := ?_) #[T,T,T,T,T,T,T,T,T,T,F,F,F,F,F] rfl rfl (any_of HT_.out kr) (fun _ _ _ h => h) (Or.inr ⟨by rfl, rfl⟩) ?_ ?_
       rotate_left
       ·simp only [Act.put, List.setIfInBounds_toArray, List.set_cons_zero, List.set_cons_succ, i64_w, i32_w]
        rfl
       refine pure_ (i := 10) (N := some 28) (v := undef) (a' := ?_) #[T,T,T,T,T,T,T,T,T,T,T,F,F,F,F] rfl rfl (any_of HT_.out kr) (fun _ _ _ h => h) (Or.inr ⟨by rfl, rfl⟩) ?_ ?_
       rotate_left
       ·simp only [Act.put, List.setIfInBounds_toArray, List.set_cons_zero, List.set_cons_succ, i64_w, i32_w]
        rfl
       refine pure_ (i := 11) (N := some 29) (v := undef) (a' := ?_) #[T,T,T,T,T,T,T,T,T,T,T,T,F,F,F] rfl rfl (any_of HT_.out kr) (fun _ _ _ h => h) (Or.inr ⟨by rfl, rfl⟩) ?_ ?_
       rotate_left
       ·simp only [Act.put, List.setIfInBounds_toArray, List.set_cons_zero, List.set_cons_succ, i64_w, i32_w]
        rfl
       refine pure_ (i := 12) (N := some 30) (v := undef) (a' := ?_) #[T,T,T,T,T,T,T,T,T,T,T,T,T,F,F] rfl rfl (any_of HT_.out kr) (fun _ _ _ h => h) (Or.inr ⟨by rfl, rfl⟩) ?_ ?_
       rotate_left
       ·simp only [Act.put, List.setIfInBounds_toArray, List.set_cons_zero, List.set_cons_succ, i64_w, i32_w]
        rfl
       refine pure_ (i := 13) (N := some 31) (v := undef) (a' := ?_) #[T,T,T,T,T,T,T,T,T,T,T,T,T,T,F] rfl rfl (any_of HT_.out kr) (fun _ _ _ h => h) (Or.inr ⟨by rfl, rfl⟩) ?_ ?_
       rotate_left
       ·simp only [Act.put, List.setIfInBounds_toArray, List.set_cons_zero, List.set_cons_succ, i64_w, i32_w]
        rfl
       refine pu 14 (some 32) #[T,T,T,T,T,T,T,T,T,T,T,T,T,T,T] (any_of HT_.out kr) ?_
       refine done_ (done_of HT_.out kr) ?_
       try go_wp2
       go_roundg kj3
       case measure => have := HK1.out; have := HJ3.out; omega
       case rel => exact ⟨(wrap64 (x5_1 + 1)), (by first | rfl | (simp; done) | (simp [*]; done)), H', ⟨by have := HK1.out; have := HJ3.out; omega⟩, ⟨bz BK438⟩, ⟨by exact bh⟩⟩
     ·replace c14 := Bool.eq_false_iff.mpr c14
      subst c14
      have H1 : (some false) = some r := by rw [if_neg (show ¬ (false = true) by decide)] at H; exact H
      clear H
      have H := H1
      clear H1
      obtain rfl := Option.some.inj H
      go_wp2
      go_ret
      exact ⟨by first | rfl | (simp [errW_none, errW_some] <;> rfl) | (simp [*, errW_none, errW_some] <;> rfl), by exact bh⟩

end Go.Proofs.Ytaddlahbahedeaa.QFnClashOk
