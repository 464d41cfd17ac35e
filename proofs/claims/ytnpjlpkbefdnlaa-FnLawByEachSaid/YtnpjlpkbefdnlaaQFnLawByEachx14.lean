-- Printed for this claim by a turned copy of the print (wip/myprint). Lean checks it. Squeezed. Worded. Tightened.
import Derived.Test.YtnpjlpkbefdnlaaQFnLawByEachx0
import Derived.Test.YtnpjlpkbefdnlaaQFnLawByEachx9
import Derived.Test.YtnpjlpkbefdnlaaQFnLawByEachx12
import Derived.Test.YtnpjlpkbefdnlaaQFnLawByEachx13
namespace Go.Proofs.Ytnpjlpkbefdnlaa.QFnLawByEach
open Go.RowKit Go.Proofs.YtnpjlpkbefdnlaaW.PrintWords Go.Proofs.YtnpjlpkbefdnlaaW.PrintLast Go.Proofs.YtnpjlpkbefdnlaaW.PrintMore
attribute [local go_sem] max2_int min2_int max_two min_two max_three min_three max_four min_four Opens.cell_twice   -- for this text's walks alone
set_option linter.unusedVariables false
set_option linter.unusedSimpArgs false

/-! ### spec_LawByEach: function 36 -/
mutual
def spec_LawByEach.j0 : Nat → List (S41) → List Int → Bool → Int → List Int → Option (Bool × Int)
 | 0, _, _, _, _, _ => none
 | k + 1, x1, x2, x21, x380000, x380001 => if x21 = true then (some (false, (-1))) else (spec_LawByEach.l0 k x1 x2 0 x380000 x380001)
def spec_LawByEach.l0 : Nat → List (S41) → List Int → Int → Int → List Int → Option (Bool × Int)
 | 0, _, _, _, _, _ => none
 | k + 1, x1, x2, x8, x380000, x380001 => if x8 < (x2.length : Int) then (if 0 ≤ x8 then ((spec_CrowdOk.f x380000 (rd x2 x8)).bind fun t382 => (if t382 = true then (spec_LawByEach.l0 k x1 x2 (wrap64 (x8 + 1)) x380000 x380001) else (some (false, (-1))))) else (none)) else (spec_LawByEach.l1 k x1 x2 0 0 x380000 x380001)
def spec_LawByEach.l1 : Nat → List (S41) → List Int → Int → Int → Int → List Int → Option (Bool × Int)
 | 0, _, _, _, _, _, _ => none
 | k + 1, x1, x2, x9, x10, x380000, x380001 => if x9 < 10 then (if 0 ≤ x9 then (if x9 < (x1.length : Int) then (if x9 < (x2.length : Int) then ((spec_l4Says.f k x380000 x380001 ((rd_T41 x1 x9).f0) (rd x2 x9)).bind fun t385 => (if t385 = true then (spec_LawByEach.l1 k x1 x2 ((rd_T41 x1 x9).f1) (wrap64 (x10 + 1)) x380000 x380001) else (spec_LawByEach.l1 k x1 x2 ((rd_T41 x1 x9).f2) (wrap64 (x10 + 1)) x380000 x380001))) else (none)) else (none)) else (none)) else (some ((x9 == 10), x10))
end
def spec_LawByEach.f (k : Nat) (a0_0 : Int) (l0_1 : List Int) (l1 : List (S41)) (l2 : List Int) : Option (Bool × Int) := (spec_ProcessOk.f k a0_0 l0_1 l1).bind fun t380 => (if t380 = true then (spec_LawByEach.j0 k l1 l2 ((l2.length : Int) != (l1.length : Int)) a0_0 l0_1) else (spec_LawByEach.j0 k l1 l2 true a0_0 l0_1))
theorem spec_LawByEach.mono_l : ∀ k, (∀ y0 y1 y2 y3 y4, LeO (spec_LawByEach.j0 k y0 y1 y2 y3 y4) (spec_LawByEach.j0 (k + 1) y0 y1 y2 y3 y4)) ∧ (∀ y0 y1 y2 y3 y4, LeO (spec_LawByEach.l0 k y0 y1 y2 y3 y4) (spec_LawByEach.l0 (k + 1) y0 y1 y2 y3 y4)) ∧ (∀ y0 y1 y2 y3 y4 y5, LeO (spec_LawByEach.l1 k y0 y1 y2 y3 y4 y5) (spec_LawByEach.l1 (k + 1) y0 y1 y2 y3 y4 y5))
 | 0 => ⟨fun _ _ _ _ _ r h => by simp [spec_LawByEach.j0] at h, fun _ _ _ _ _ r h => by simp [spec_LawByEach.l0] at h, fun _ _ _ _ _ _ r h => by simp [spec_LawByEach.l1] at h⟩
 | k + 1 => by
  obtain ⟨ih0, ih1, ih2⟩ := spec_LawByEach.mono_l k
  refine ⟨?_, ?_, ?_⟩
  ·intro y0 y1 y2 y3 y4
   unfold spec_LawByEach.j0
   repeat' first
   | (with_reducible exact ih0 _ _ _ _ _)
   | (with_reducible exact ih1 _ _ _ _ _)
   | (with_reducible exact ih2 _ _ _ _ _ _)
   | (with_reducible exact spec_ProcessOk.mono _ _ _ _)
   | (with_reducible exact spec_l4Says.mono _ _ _ _ _)
   | (with_reducible exact LeO.refl _)
   | (with_reducible exact LeO.none _)
   | (with_reducible refine LeO.ite ?_ ?_)
   | (with_reducible refine LeO.bind ?_ (fun _ => ?_))
   | exact ih0 _ _ _ _ _
   | exact ih1 _ _ _ _ _
   | exact ih2 _ _ _ _ _ _
   | exact spec_ProcessOk.mono _ _ _ _
   | exact spec_l4Says.mono _ _ _ _ _
   | exact LeO.none _
   | refine LeO.ite ?_ ?_
   | refine LeO.bind ?_ (fun _ => ?_)
  ·intro y0 y1 y2 y3 y4
   unfold spec_LawByEach.l0
   repeat' first
   | (with_reducible exact ih0 _ _ _ _ _)
   | (with_reducible exact ih1 _ _ _ _ _)
   | (with_reducible exact ih2 _ _ _ _ _ _)
   | (with_reducible exact spec_ProcessOk.mono _ _ _ _)
   | (with_reducible exact spec_l4Says.mono _ _ _ _ _)
   | (with_reducible exact LeO.refl _)
   | (with_reducible exact LeO.none _)
   | (with_reducible refine LeO.ite ?_ ?_)
   | (with_reducible refine LeO.bind ?_ (fun _ => ?_))
   | exact ih0 _ _ _ _ _
   | exact ih1 _ _ _ _ _
   | exact ih2 _ _ _ _ _ _
   | exact spec_ProcessOk.mono _ _ _ _
   | exact spec_l4Says.mono _ _ _ _ _
   | exact LeO.none _
   | refine LeO.ite ?_ ?_
   | refine LeO.bind ?_ (fun _ => ?_)
  ·intro y0 y1 y2 y3 y4 y5
   unfold spec_LawByEach.l1
   repeat' first
   | (with_reducible exact ih0 _ _ _ _ _)
   | (with_reducible exact ih1 _ _ _ _ _)
   | (with_reducible exact ih2 _ _ _ _ _ _)
   | (with_reducible exact spec_ProcessOk.mono _ _ _ _)
   | (with_reducible exact spec_l4Says.mono _ _ _ _ _)
   | (with_reducible exact LeO.refl _)
   | (with_reducible exact LeO.none _)
   | (with_reducible refine LeO.ite ?_ ?_)
   | (with_reducible refine LeO.bind ?_ (fun _ => ?_))
   | exact ih0 _ _ _ _ _
   | exact ih1 _ _ _ _ _
   | exact ih2 _ _ _ _ _ _
   | exact spec_ProcessOk.mono _ _ _ _
   | exact spec_l4Says.mono _ _ _ _ _
   | exact LeO.none _
   | refine LeO.ite ?_ ?_
   | refine LeO.bind ?_ (fun _ => ?_)
theorem spec_LawByEach.mono : ∀ a0 a1 a2 a3 k, LeO (spec_LawByEach.f k a0 a1 a2 a3) (spec_LawByEach.f (k + 1) a0 a1 a2 a3) := by
 intro a0 a1 a2 a3 k
 obtain ⟨ih0, ih1, ih2⟩ := spec_LawByEach.mono_l k
 unfold spec_LawByEach.f
 repeat' first
   | (with_reducible exact ih0 _ _ _ _ _)
   | (with_reducible exact ih1 _ _ _ _ _)
   | (with_reducible exact ih2 _ _ _ _ _ _)
   | (with_reducible exact spec_ProcessOk.mono _ _ _ _)
   | (with_reducible exact spec_l4Says.mono _ _ _ _ _)
   | (with_reducible exact LeO.refl _)
   | (with_reducible exact LeO.none _)
   | (with_reducible refine LeO.ite ?_ ?_)
   | (with_reducible refine LeO.bind ?_ (fun _ => ?_))
   | exact ih0 _ _ _ _ _
   | exact ih1 _ _ _ _ _
   | exact ih2 _ _ _ _ _ _
   | exact spec_ProcessOk.mono _ _ _ _
   | exact spec_l4Says.mono _ _ _ _ _
   | exact LeO.none _
   | refine LeO.ite ?_ ?_
   | refine LeO.bind ?_ (fun _ => ?_)
def spec_LawByEach.T6 : Bool × List (List Nat × List Nat) := (true, [([], []), ([0], [0]), ([], []), ([], []), ([2, 3], [2, 3]), ([4], [4]), ([1, 5], [1, 5]), ([6], [6])])
def spec_LawByEach.B6 : List Nat := [0, 1, 0, 0, 12, 28, 63, 127]
theorem spec_LawByEach.tab6 : rtab .any (opsOf Try.f36 6) = spec_LawByEach.T6 := by kernel_rfl
theorem spec_LawByEach.bits6 : waitsOk spec_LawByEach.T6.2 spec_LawByEach.B6 = true := by kernel_rfl
def spec_LawByEach.T12 : Bool × List (List Nat × List Nat) := (true, [([], []), ([], []), ([], []), ([1, 2], [1, 2]), ([3], [3]), ([4], [4]), ([], []), ([], []), ([6, 7], [6, 7]), ([8], [8]), ([0, 5, 9], [0, 5, 9])])
def spec_LawByEach.B12 : List Nat := [0, 0, 0, 6, 14, 30, 0, 0, 192, 448, 1023]
theorem spec_LawByEach.tab12 : rtab .any (opsOf Try.f36 12) = spec_LawByEach.T12 := by kernel_rfl
theorem spec_LawByEach.bits12 : waitsOk spec_LawByEach.T12.2 spec_LawByEach.B12 = true := by kernel_rfl
set_option maxHeartbeats 8000000 in
set_option maxRecDepth 100000 in
theorem spec_LawByEach.calls (k : Nat) (a0_0 : Int) (A0_1 : Option Addr) (c0_1 : Nat) (l0_1 : List Int) (A1 : Option Addr) (c1 : Nat) (l1 : List (S41)) (A2 : Option Addr) (c2 : Nat) (l2 : List Int) (r1 : Bool) (r2 : Int) (w : World) (hr0_1 : Kd.C (Kd.int .i64) w A0_1 l0_1.length l0_1) (hc0_1 : l0_1.length ≤ c0_1) (hr1 : Kd.C k41 w A1 l1.length l1) (hc1 : l1.length ≤ c1) (hr2 : Kd.C (Kd.int .i64) w A2 l2.length l2) (hc2 : l2.length ≤ c2) (h : spec_LawByEach.f k a0_0 l0_1 l1 l2 = some (r1, r2)) :
  Calls Try.prog 36 #[.agg #[.int .i64 a0_0, .slice A0_1 l0_1.length c0_1], .slice A1 l1.length c1, .slice A2 l2.length c2] w fun e w' => e = .returned (.tuple #[.bool r1, .int .i64 r2]) ∧ Below w.heap.size w w' := by
 have hu25 := Try.underlying25
 have HR0_1 := Aside0.mk hr0_1
 have HC0_1 := Aside0.mk hc0_1
 clear hr0_1 hc0_1
 have HR1 := Aside0.mk hr1
 have HC1 := Aside0.mk hc1
 clear hr1 hc1
 have HR2 := Aside0.mk hr2
 have HC2 := Aside0.mk hc2
 clear hr2 hc2
 have HB := Aside0.mk (Below.refl w.heap.size w)
 have H : ((spec_ProcessOk.f k a0_0 l0_1 l1).bind fun t380 => (if t380 = true then (spec_LawByEach.j0 k l1 l2 ((l2.length : Int) != (l1.length : Int)) a0_0 l0_1) else (spec_LawByEach.j0 k l1 l2 true a0_0 l0_1))) = some (r1, r2) := h
 clear h
 have HC4 := Aside0.mk H
 clear H
 go_enter Try.func36, Try.ntmps36
 go_upto_region 1 with (first | ((with_reducible refine gate_dst (N := 3) rfl ?_); (try (refine gate_guard (by rfl) ?_; dsimp only)); refine box_event ?hg (N := 3) ?hd (cs := #[.int .i64 a0_0, .slice A0_1 l0_1.length c0_1]) (t := 25) ?hr ?_; (case hd => rfl); (case hg => rfl); (case hr => first | (go_simp; done) | (go_simp; rfl)); intro gb379 hg w5 hbox hb; have n0_ := Aside0.mk (below_step bh hb); have n1_ := Aside0.mk (hbox); have n2_ := Aside0.mk ((gs (W0 := w) hg bh)); have n3_ := Aside0.mk ((gs (W0 := w) hg bh)); clear HB; have HB := n0_; have BK379 := n1_; have GW379 := n2_; have GE379 := n3_; clear n0_ n1_ n2_ n3_ hb hbox hg))
 (try simp only [Act.put, List.setIfInBounds_toArray, List.set_cons_zero, List.set_cons_succ])
 go_cut [21] (fun v21 wc => ∃ (kq : Nat) (x21_3 : Bool), v21 = .bool x21_3 ∧ Aside0 (spec_LawByEach.j0 kq l1 l2 x21_3 a0_0 l0_1 = some (r1, r2)) ∧ Aside0 (kq ≤ k) ∧ Aside0 (wc.heap[gb379]? = some (.cells #[.int .i64 a0_0, (.slice A0_1 l0_1.length c0_1)] 25 (0, 0))) ∧ Aside0 (Below w.heap.size w wc))
 case first =>
  have H := HC4.out
  clear HC4
  replace H := Option.bind_eq_some_iff.mp H
  obtain ⟨t380, A60, H⟩ := H
  replace H : (if t380 = true then (spec_LawByEach.j0 k l1 l2 ((l2.length : Int) != (l1.length : Int)) a0_0 l0_1) else (spec_LawByEach.j0 k l1 l2 true a0_0 l0_1)) = some (r1, r2) := H
  have A6 := Aside0.mk A60
  clear A60
  by_cases c7 : t380 = true
  ·subst c7
   have H1 : (spec_LawByEach.j0 k l1 l2 ((l2.length : Int) != (l1.length : Int)) a0_0 l0_1) = some (r1, r2) := by rw [if_pos rfl] at H; exact H
   clear H
   have H := H1
   clear H1
   have H' := Aside0.mk H
   clear H
   have hcz8_0 := cz0 BK379
   have hcz8_1 := cz1 BK379
   have hfz8_0 := blk_frozen BK379.out 0
   have hfz8_1 := blk_frozen BK379.out 1
   go_wp2_with (first | ((with_reducible refine gate_callee (f := 16) rfl ?_); refine goesL_ (some 13) rfl rfl Try.func16 kr rfl #[.agg #[.int .i64 a0_0, .slice A0_1 l0_1.length c0_1], .slice A1 l1.length c1] rfl lm ?_; (with_reducible refine (spec_ProcessOk.calls k a0_0 _ _ l0_1 _ _ l1 true _ ?side1 ?side2 ?side3 ?side4 A6.out).mono ?_); (case side1 => repeat (first | exact (Kd.C_below HR0_1.out HB.out) | (with_reducible refine Kd.C_alloc ?_ _) | (with_reducible refine Kd.C_drewN ?_ _) | (with_reducible refine Kd.C_drew ?_))); (case side2 => exact HC0_1.out); (case side3 => repeat (first | exact (Kd.C_below HR1.out HB.out) | (with_reducible refine Kd.C_alloc ?_ _) | (with_reducible refine Kd.C_drewN ?_ _) | (with_reducible refine Kd.C_drew ?_))); (case side4 => exact HC1.out); rintro e w9 ⟨rfl, hb⟩; refine ⟨_, rfl, ?_⟩; have n0_ := Aside0.mk (blk_below (bz BK379) hb); have n1_ := Aside0.mk (below_step bh hb); clear BK379 HB; have BK379 := n0_; have HB := n1_; clear n0_ n1_; (try clear hb); (try clear hb2); (try clear hk); (try clear hi)))
   go_meet
   case rel => exact ⟨_, (((l2.length : Int) != (l1.length : Int))), (by first | rfl | (simp; done) | (simp [*]; done)), H', ⟨by first | omega | exact Nat.le_refl _⟩, ⟨bz BK379⟩, ⟨by exact bh⟩⟩
  ·replace c7 := Bool.eq_false_iff.mpr c7
   subst c7
   have H1 : (spec_LawByEach.j0 k l1 l2 true a0_0 l0_1) = some (r1, r2) := by rw [if_neg (show ¬ (false = true) by decide)] at H; exact H
   clear H
   have H := H1
   clear H1
   have H' := Aside0.mk H
   clear H
   have hcz10_0 := cz0 BK379
   have hcz10_1 := cz1 BK379
   have hfz10_0 := blk_frozen BK379.out 0
   have hfz10_1 := blk_frozen BK379.out 1
   go_wp2_with (first | ((with_reducible refine gate_callee (f := 16) rfl ?_); refine goesL_ (some 13) rfl rfl Try.func16 kr rfl #[.agg #[.int .i64 a0_0, .slice A0_1 l0_1.length c0_1], .slice A1 l1.length c1] rfl lm ?_; (with_reducible refine (spec_ProcessOk.calls k a0_0 _ _ l0_1 _ _ l1 false _ ?side1 ?side2 ?side3 ?side4 A6.out).mono ?_); (case side1 => repeat (first | exact (Kd.C_below HR0_1.out HB.out) | (with_reducible refine Kd.C_alloc ?_ _) | (with_reducible refine Kd.C_drewN ?_ _) | (with_reducible refine Kd.C_drew ?_))); (case side2 => exact HC0_1.out); (case side3 => repeat (first | exact (Kd.C_below HR1.out HB.out) | (with_reducible refine Kd.C_alloc ?_ _) | (with_reducible refine Kd.C_drewN ?_ _) | (with_reducible refine Kd.C_drew ?_))); (case side4 => exact HC1.out); rintro e w11 ⟨rfl, hb⟩; refine ⟨_, rfl, ?_⟩; have n0_ := Aside0.mk (blk_below (bz BK379) hb); have n1_ := Aside0.mk (below_step bh hb); clear BK379 HB; have BK379 := n0_; have HB := n1_; clear n0_ n1_; (try clear hb); (try clear hb2); (try clear hk); (try clear hi)))
   go_meet
   case rel => exact ⟨_, (true), (by first | rfl | (simp; done) | (simp [*]; done)), H', ⟨by first | omega | exact Nat.le_refl _⟩, ⟨bz BK379⟩, ⟨by exact bh⟩⟩
 case rest =>
  clear HC4
  try clear c1
  try clear c2
  try clear p2
  try clear c3
  try clear c7
  try clear hcz10_0
  try clear hcz10_1
  try clear hcz8_0
  try clear hcz8_1
  try clear hfz10_0
  try clear hfz10_1
  try clear hfz8_0
  try clear hfz8_1
  obtain ⟨kq, x21_3, rfl, HA, HJ3, BK379, HB⟩ := hcut
  cases kq with
  | zero => exact absurd HA.out (by simp [spec_LawByEach.j0])
  | succ kj3 =>
   have H := HA.out
   clear HA
   simp only [spec_LawByEach.j0] at H
   by_cases c12 : x21_3 = true
   ·subst c12
    have H1 : (some (false, (-1))) = some (r1, r2) := by rw [if_pos rfl] at H; exact H
    clear H
    have H := H1
    clear H1
    simp only [Option.some.injEq, Prod.mk.injEq] at H
    obtain ⟨rfl, rfl⟩ := H
    go_wp2
    go_ret2
    exact ⟨by first | rfl | (simp [errW_none, errW_some] <;> rfl) | (simp [*, errW_none, errW_some] <;> rfl), by exact bh⟩
   ·replace c12 := Bool.eq_false_iff.mpr c12
    subst c12
    have H1 : (spec_LawByEach.l0 kj3 l1 l2 0 a0_0 l0_1) = some (r1, r2) := by rw [if_neg (show ¬ (false = true) by decide)] at H; exact H
    clear H
    have H := H1
    clear H1
    have H' := Aside0.mk H
    clear H
    go_wp2
    go_loopg [8] kj3 (fun kq v8 w' => ∃ (x8_2 : Int), v8 = .int .i64 x8_2 ∧ Aside0 (spec_LawByEach.l0 kq l1 l2 x8_2 a0_0 l0_1 = some (r1, r2)) ∧ Aside0 (kq ≤ kj3) ∧ Aside0 (w'.heap[gb379]? = some (.cells #[.int .i64 a0_0, (.slice A0_1 l0_1.length c0_1)] 25 (0, 0))) ∧ Aside0 (Below w.heap.size w w'))
    case atStart => exact ⟨(0), (by first | rfl | (simp; done) | (simp [*]; done)), H', ⟨Nat.le_refl _⟩, ⟨bz BK379⟩, ⟨by exact bh⟩⟩
    case round =>
     clear H'
     try clear c1
     try clear c2
     try clear p2
     try clear c3
     try clear c7
     try clear c12
     try clear hcz10_0
     try clear hcz10_1
     try clear hcz8_0
     try clear hcz8_1
     try clear hfz10_0
     try clear hfz10_1
     try clear hfz8_0
     try clear hfz8_1
     try clear p2
     obtain ⟨x8_2, rfl, HA, HK2, BK379, HB⟩ := hrel
     cases gk with
     | zero => exact absurd HA.out (by simp [spec_LawByEach.l0])
     | succ k2 =>
      have H := HA.out
      clear HA
      simp only [spec_LawByEach.l0] at H
      by_cases c13 : x8_2 < (l2.length : Int)
      ·rw [if_pos c13] at H
       have c13b0 : decide (x8_2 < (l2.length : Int)) = true := decide_eq_true c13
       clear c13
       by_cases c14 : 0 ≤ x8_2
       ·rw [if_pos c14] at H
        have c14b0 : decide (0 ≤ x8_2) = true := decide_eq_true c14
        clear c14
        replace H := Option.bind_eq_some_iff.mp H
        obtain ⟨t382, A150, H⟩ := H
        replace H : (if t382 = true then (spec_LawByEach.l0 k2 l1 l2 (wrap64 (x8_2 + 1)) a0_0 l0_1) else (some (false, (-1)))) = some (r1, r2) := H
        have A15 := Aside0.mk A150
        clear A150
        by_cases c16 : t382 = true
        ·subst c16
         have H1 : (spec_LawByEach.l0 k2 l1 l2 (wrap64 (x8_2 + 1)) a0_0 l0_1) = some (r1, r2) := by rw [if_pos rfl] at H; exact H
         clear H
         have H := H1
         clear H1
         have H' := Aside0.mk H
         clear H
         try go_wp2
         have n0_ := Aside0.mk (blk_drew BK379.out)
         have n1_ := Aside0.mk (below_drew1 HB.out)
         clear BK379 HB
         have BK379 := n0_
         have HB := n1_
         clear n0_ n1_
         have p381 : 0 ≤ (x8_2 : Int) := oda
         have q381 : x8_2 < (l2.length : Int) := oda
         obtain ⟨ad381, e381, hx381_0⟩ := Kd.at_int HR2.out x8_2 p381 q381
         have hw381_0 := hx381_0
         cases e381
         replace hx381_0 := (HB.out.cell (World.block_lt_of_cell? w _ hx381_0)).trans hx381_0
         replace p381 := eq_true p381
         replace q381 := eq_true q381
         refine start_ (n := 8) (S := fun w' => w'.cell? ⟨gb379, 0, none⟩ = some (.int .i64 a0_0) ∧ w'.cell? ⟨gb379, 1, none⟩ = some (.slice A0_1 l0_1.length c0_1) ∧ w'.cell? (ad381.add (x8_2).toNat) = some (.int .i64 (rd l2 x8_2))) (ds := []) #[F,F,F,F,F,F,F,F] kr rfl rfl ⟨cz0 BK379, cz1 BK379, ((HB.out.cell (World.block_lt_of_cell? w _ hw381_0)).trans hw381_0)⟩ (fun hHeld => ?_); refine with_tabW spec_LawByEach.tab6 spec_LawByEach.bits6 (fun HT_ HW_ => ?_)
         generalize wr.drew = w17 at BK379 HB hx381_0 hHeld ⊢
         refine pu 0 (some 28) #[T,F,F,F,F,F,F,F] (any_of HT_.out kr) ?_
         refine pu 2 (some 30) #[T,F,T,F,F,F,F,F] (any_of HT_.out kr) ?_
         refine pu 3 (some 31) #[T,F,T,T,F,F,F,F] (any_of HT_.out kr) ?_
         refine pu 4 (some 32) #[T,F,T,T,T,F,F,F] (any_of HT_.out kr) ?_
         refine tk3 1 (some 29) #[T,T,T,T,T,F,F,F] (take_ofW HT_.out HW_.out kr) ?_
         refine tk3 5 (some 33) #[T,T,T,T,T,T,F,F] (take_ofW HT_.out HW_.out kr) ?_
         refine one_ (i := 6) (N := some 34) #[T,T,T,T,T,T,T,F] rfl rfl (one_of HT_.out kr) (by decide) (fun K hK => ?_)
         refine goes_ Try.func22 kr rfl #[.int .i64 a0_0, .int .i64 (rd l2 x8_2)] (by rfl) rfl rfl lm ?_
         with_reducible refine (spec_CrowdOk.calls a0_0 (rd l2 x8_2) true _ A15.out).mono ?_
         rintro e w' ⟨rfl, ⟨nd, rfl⟩⟩
         refine ⟨_, rfl, ?_⟩
         refine hK.out _ _ ⟨cz0 BK379, cz1 BK379, ((HB.out.cell (World.block_lt_of_cell? w _ hw381_0)).trans hw381_0)⟩ (fun hHeld => ?_)
         clear hK K
         refine norm_ (a' := ?_) ?_ ?_
         rotate_left
         ·show Act.put _ (some 34) _ = _
          simp only [Act.put, List.setIfInBounds_toArray, List.set_cons_zero, List.set_cons_succ, i64_w, i32_w]
          rfl
         refine pu 7 (some 35) #[T,T,T,T,T,T,T,T] (any_of HT_.out kr) ?_
         refine done_ (done_of HT_.out kr) ?_
         try go_wp2
         go_roundg k2
         case measure => have := HJ3.out; have := HK2.out; omega
         case rel => exact ⟨(wrap64 (x8_2 + 1)), (by first | rfl | (simp; done) | (simp [*]; done)), H', ⟨by have := HJ3.out; have := HK2.out; omega⟩, ⟨bz BK379⟩, ⟨by exact bh⟩⟩
        ·replace c16 := Bool.eq_false_iff.mpr c16
         subst c16
         have H1 : (some (false, (-1))) = some (r1, r2) := by rw [if_neg (show ¬ (false = true) by decide)] at H; exact H
         clear H
         have H := H1
         clear H1
         simp only [Option.some.injEq, Prod.mk.injEq] at H
         obtain ⟨rfl, rfl⟩ := H
         try go_wp2
         have n0_ := Aside0.mk (blk_drew BK379.out)
         have n1_ := Aside0.mk (below_drew1 HB.out)
         clear BK379 HB
         have BK379 := n0_
         have HB := n1_
         clear n0_ n1_
         have p381 : 0 ≤ (x8_2 : Int) := oda
         have q381 : x8_2 < (l2.length : Int) := oda
         obtain ⟨ad381, e381, hx381_0⟩ := Kd.at_int HR2.out x8_2 p381 q381
         have hw381_0 := hx381_0
         cases e381
         replace hx381_0 := (HB.out.cell (World.block_lt_of_cell? w _ hx381_0)).trans hx381_0
         replace p381 := eq_true p381
         replace q381 := eq_true q381
         refine start_ (n := 8) (S := fun w' => w'.cell? ⟨gb379, 0, none⟩ = some (.int .i64 a0_0) ∧ w'.cell? ⟨gb379, 1, none⟩ = some (.slice A0_1 l0_1.length c0_1) ∧ w'.cell? (ad381.add (x8_2).toNat) = some (.int .i64 (rd l2 x8_2))) (ds := []) #[F,F,F,F,F,F,F,F] kr rfl rfl ⟨cz0 BK379, cz1 BK379, ((HB.out.cell (World.block_lt_of_cell? w _ hw381_0)).trans hw381_0)⟩ (fun hHeld => ?_); refine with_tabW spec_LawByEach.tab6 spec_LawByEach.bits6 (fun HT_ HW_ => ?_)
         generalize wr.drew = w18 at BK379 HB hx381_0 hHeld ⊢
         refine pu 0 (some 28) #[T,F,F,F,F,F,F,F] (any_of HT_.out kr) ?_
         refine pu 2 (some 30) #[T,F,T,F,F,F,F,F] (any_of HT_.out kr) ?_
         refine pu 3 (some 31) #[T,F,T,T,F,F,F,F] (any_of HT_.out kr) ?_
         refine pu 4 (some 32) #[T,F,T,T,T,F,F,F] (any_of HT_.out kr) ?_
         refine tk3 1 (some 29) #[T,T,T,T,T,F,F,F] (take_ofW HT_.out HW_.out kr) ?_
         refine tk3 5 (some 33) #[T,T,T,T,T,T,F,F] (take_ofW HT_.out HW_.out kr) ?_
         refine one_ (i := 6) (N := some 34) #[T,T,T,T,T,T,T,F] rfl rfl (one_of HT_.out kr) (by decide) (fun K hK => ?_)
         refine goes_ Try.func22 kr rfl #[.int .i64 a0_0, .int .i64 (rd l2 x8_2)] (by rfl) rfl rfl lm ?_
         with_reducible refine (spec_CrowdOk.calls a0_0 (rd l2 x8_2) false _ A15.out).mono ?_
         rintro e w' ⟨rfl, ⟨nd, rfl⟩⟩
         refine ⟨_, rfl, ?_⟩
         refine hK.out _ _ ⟨cz0 BK379, cz1 BK379, ((HB.out.cell (World.block_lt_of_cell? w _ hw381_0)).trans hw381_0)⟩ (fun hHeld => ?_)
         clear hK K
         refine norm_ (a' := ?_) ?_ ?_
         rotate_left
         ·show Act.put _ (some 34) _ = _
          simp only [Act.put, List.setIfInBounds_toArray, List.set_cons_zero, List.set_cons_succ, i64_w, i32_w]
          rfl
         refine pu 7 (some 35) #[T,T,T,T,T,T,T,T] (any_of HT_.out kr) ?_
         refine done_ (done_of HT_.out kr) ?_
         try go_wp2
         go_ret2
         exact ⟨by first | rfl | (simp [errW_none, errW_some] <;> rfl) | (simp [*, errW_none, errW_some] <;> rfl), by exact bh⟩
       ·rw [if_neg c14] at H
        exact absurd H (by simp)
      ·rw [if_neg c13] at H
       have c13b0 : decide (x8_2 < (l2.length : Int)) = false := decide_eq_false c13
       clear c13
       have H' := Aside0.mk H
       clear H
       go_wp2
       go_loopg [9, 10] k2 (fun kq v9 v10 w' => ∃ (x9_3 : Int) (x10_3 : Int), v9 = .int .i64 x9_3 ∧ v10 = .int .i64 x10_3 ∧ Aside0 (spec_LawByEach.l1 kq l1 l2 x9_3 x10_3 a0_0 l0_1 = some (r1, r2)) ∧ Aside0 (kq ≤ k2) ∧ Aside0 (w'.heap[gb379]? = some (.cells #[.int .i64 a0_0, (.slice A0_1 l0_1.length c0_1)] 25 (0, 0))) ∧ Aside0 (Below w.heap.size w w'))
       case atStart => exact ⟨(0), (0), (by first | rfl | (simp; done) | (simp [*]; done)), (by first | rfl | (simp; done) | (simp [*]; done)), H', ⟨Nat.le_refl _⟩, ⟨bz BK379⟩, ⟨by exact bh⟩⟩
       case round =>
        clear H'
        try clear c1
        try clear c2
        try clear p2
        try clear c3
        try clear p3
        try clear q3
        try clear hx3
        try clear p6
        try clear c7
        try clear c12
        try clear c13
        try clear c13b0
        try clear c14
        try clear c14b0
        try clear c16
        try clear hcz10_0
        try clear hcz10_1
        try clear hcz8_0
        try clear hcz8_1
        try clear hfz10_0
        try clear hfz10_1
        try clear hfz8_0
        try clear hfz8_1
        try clear hx381_0
        try clear p2
        try clear p381
        try clear q381
        obtain ⟨x9_3, x10_3, rfl, rfl, HA, HK3, BK379, HB⟩ := hrel
        cases gk with
        | zero => exact absurd HA.out (by simp [spec_LawByEach.l1])
        | succ k3 =>
         have H := HA.out
         clear HA
         simp only [spec_LawByEach.l1] at H
         by_cases c19 : x9_3 < 10
         ·rw [if_pos c19] at H
          have c19b0 : decide (x9_3 < 10) = true := decide_eq_true c19
          clear c19
          by_cases c20 : 0 ≤ x9_3
          ·rw [if_pos c20] at H
           have c20b0 : decide (0 ≤ x9_3) = true := decide_eq_true c20
           clear c20
           by_cases c21 : x9_3 < (l1.length : Int)
           ·rw [if_pos c21] at H
            have c21b0 : decide (x9_3 < (l1.length : Int)) = true := decide_eq_true c21
            clear c21
            by_cases c22 : x9_3 < (l2.length : Int)
            ·rw [if_pos c22] at H
             have c22b0 : decide (x9_3 < (l2.length : Int)) = true := decide_eq_true c22
             clear c22
             replace H := Option.bind_eq_some_iff.mp H
             obtain ⟨t385, A230, H⟩ := H
             replace H : (if t385 = true then (spec_LawByEach.l1 k3 l1 l2 ((rd_T41 l1 x9_3).f1) (wrap64 (x10_3 + 1)) a0_0 l0_1) else (spec_LawByEach.l1 k3 l1 l2 ((rd_T41 l1 x9_3).f2) (wrap64 (x10_3 + 1)) a0_0 l0_1)) = some (r1, r2) := H
             have A23 := Aside0.mk A230
             clear A230
             by_cases c24 : t385 = true
             ·subst c24
              have H1 : (spec_LawByEach.l1 k3 l1 l2 ((rd_T41 l1 x9_3).f1) (wrap64 (x10_3 + 1)) a0_0 l0_1) = some (r1, r2) := by rw [if_pos rfl] at H; exact H
              clear H
              have H := H1
              clear H1
              have H' := Aside0.mk H
              clear H
              try go_wp2
              have n0_ := Aside0.mk (blk_drew BK379.out)
              have n1_ := Aside0.mk (below_drew1 HB.out)
              clear BK379 HB
              have BK379 := n0_
              have HB := n1_
              clear n0_ n1_
              have p383 : 0 ≤ (x9_3 : Int) := oda
              have q383 : x9_3 < (l1.length : Int) := oda
              obtain ⟨ad383, A383_0, c383_0, e383, hx383_0, hx383_1, hx383_2, hl383_0, hi383_0⟩ := at_T41 HR1.out x9_3 p383 q383
              have hw383_2 := hx383_2
              have hw383_1 := hx383_1
              have hw383_0 := hx383_0
              cases e383
              replace hx383_0 := (HB.out.cell (World.block_lt_of_cell? w _ hx383_0)).trans hx383_0
              replace hx383_1 := (HB.out.cell (World.block_lt_of_cell? w _ hx383_1)).trans hx383_1
              replace hx383_2 := (HB.out.cell (World.block_lt_of_cell? w _ hx383_2)).trans hx383_2
              have HR383_0 := Aside0.mk hi383_0
              have HC383_0 := Aside0.mk hl383_0
              clear hi383_0 hl383_0
              replace p383 := eq_true p383
              replace q383 := eq_true q383
              have p384 : 0 ≤ (x9_3 : Int) := oda
              have q384 : x9_3 < (l2.length : Int) := oda
              obtain ⟨ad384, e384, hx384_0⟩ := Kd.at_int HR2.out x9_3 p384 q384
              have hw384_0 := hx384_0
              cases e384
              replace hx384_0 := (HB.out.cell (World.block_lt_of_cell? w _ hx384_0)).trans hx384_0
              replace p384 := eq_true p384
              replace q384 := eq_true q384
              refine start_ (n := 11) (S := fun w' => w'.cell? ⟨gb379, 0, none⟩ = some (.int .i64 a0_0) ∧ w'.cell? ⟨gb379, 1, none⟩ = some (.slice A0_1 l0_1.length c0_1) ∧ w'.cell? (ad383.add ((x9_3).toNat * 3)) = some (.slice A383_0 ((rd_T41 l1 x9_3).f0).length c383_0) ∧ w'.cell? ⟨(ad383.add ((x9_3).toNat * 3)).block, (ad383.add ((x9_3).toNat * 3)).off + 1, none⟩ = some (.int .i64 ((rd_T41 l1 x9_3).f1)) ∧ w'.cell? ⟨(ad383.add ((x9_3).toNat * 3)).block, (ad383.add ((x9_3).toNat * 3)).off + 2, none⟩ = some (.int .i64 ((rd_T41 l1 x9_3).f2)) ∧ w'.cell? (ad384.add (x9_3).toNat) = some (.int .i64 (rd l2 x9_3))) (ds := []) #[F,F,F,F,F,F,F,F,F,F,F] kr rfl rfl ⟨cz0 BK379, cz1 BK379, ((HB.out.cell (World.block_lt_of_cell? w _ hw383_0)).trans hw383_0), ((HB.out.cell (World.block_lt_of_cell? w _ hw383_1)).trans hw383_1), ((HB.out.cell (World.block_lt_of_cell? w _ hw383_2)).trans hw383_2), ((HB.out.cell (World.block_lt_of_cell? w _ hw384_0)).trans hw384_0)⟩ (fun hHeld => ?_); refine with_tabW spec_LawByEach.tab12 spec_LawByEach.bits12 (fun HT_ HW_ => ?_)
              generalize wr.drew = w25 at BK379 HB HR383_0 hx383_0 hx383_1 hx383_2 hx384_0 hHeld ⊢
              refine pu 1 (some 41) #[F,T,F,F,F,F,F,F,F,F,F] (any_of HT_.out kr) ?_
              refine pu 2 (some 42) #[F,T,T,F,F,F,F,F,F,F,F] (any_of HT_.out kr) ?_
              refine pu 3 (some 43) #[F,T,T,T,F,F,F,F,F,F,F] (any_of HT_.out kr) ?_
              refine pu 4 (some 44) #[F,T,T,T,T,F,F,F,F,F,F] (any_of HT_.out kr) ?_
              refine pu 6 (some 46) #[F,T,T,T,T,F,T,F,F,F,F] (any_of HT_.out kr) ?_
              refine pu 7 (some 47) #[F,T,T,T,T,F,T,T,F,F,F] (any_of HT_.out kr) ?_
              refine pu 8 (some 48) #[F,T,T,T,T,F,T,T,T,F,F] (any_of HT_.out kr) ?_
              refine tk6 0 (some 40) #[T,T,T,T,T,F,T,T,T,F,F] (take_ofW HT_.out HW_.out kr) ?_
              refine tk6 5 (some 45) #[T,T,T,T,T,T,T,T,T,F,F] (take_ofW HT_.out HW_.out kr) ?_
              refine tk6 9 (some 49) #[T,T,T,T,T,T,T,T,T,T,F] (take_ofW HT_.out HW_.out kr) ?_
              refine one_ (i := 10) (N := some 50) #[T,T,T,T,T,T,T,T,T,T,T] rfl rfl (one_of HT_.out kr) (by decide) (fun K hK => ?_)
              refine goes_ Try.func75 kr rfl #[.agg #[.int .i64 a0_0, .slice A0_1 l0_1.length c0_1], .slice A383_0 ((rd_T41 l1 x9_3).f0).length c383_0, .int .i64 (rd l2 x9_3)] (by rfl) rfl rfl lm ?_
              with_reducible refine (spec_l4Says.calls k3 a0_0 _ _ l0_1 _ _ ((rd_T41 l1 x9_3).f0) (rd l2 x9_3) true _ ?side1 ?side2 ?side3 ?side4 A23.out).mono ?_
              (case side1 => repeat (first | exact (Kd.C_below HR0_1.out HB.out) | (with_reducible refine Kd.C_alloc ?_ _) | (with_reducible refine Kd.C_drewN ?_ _) | (with_reducible refine Kd.C_drew ?_)))
              (case side2 => exact HC0_1.out)
              (case side3 => repeat (first | exact (Kd.C_below HR383_0.out HB.out) | (with_reducible refine Kd.C_alloc ?_ _) | (with_reducible refine Kd.C_drewN ?_ _) | (with_reducible refine Kd.C_drew ?_)))
              (case side4 => exact HC383_0.out)
              rintro e w26 ⟨rfl, hb⟩
              refine ⟨_, rfl, ?_⟩
              have n0_ := Aside0.mk (blk_below (bz BK379) hb)
              have n1_ := Aside0.mk (below_step bh hb)
              clear BK379 HB
              have BK379 := n0_
              have HB := n1_
              clear n0_ n1_
              (try clear hb)
              (try clear hb2)
              (try clear hk)
              (try clear hi)
              refine hK.out _ _ ⟨cz0 BK379, cz1 BK379, ((HB.out.cell (World.block_lt_of_cell? w _ hw383_0)).trans hw383_0), ((HB.out.cell (World.block_lt_of_cell? w _ hw383_1)).trans hw383_1), ((HB.out.cell (World.block_lt_of_cell? w _ hw383_2)).trans hw383_2), ((HB.out.cell (World.block_lt_of_cell? w _ hw384_0)).trans hw384_0)⟩ (fun hHeld => ?_)
              clear hK K
              refine norm_ (a' := ?_) ?_ ?_
              rotate_left
              ·show Act.put _ (some 50) _ = _
               simp only [Act.put, List.setIfInBounds_toArray, List.set_cons_zero, List.set_cons_succ, i64_w, i32_w]
               rfl
              refine done_ (done_of HT_.out kr) ?_
              have p386 : 0 ≤ (x9_3 : Int) := oda
              have q386 : x9_3 < (l1.length : Int) := oda
              obtain ⟨ad386, A386_0, c386_0, e386, hx386_0, hx386_1, hx386_2, hl386_0, hi386_0⟩ := at_T41 HR1.out x9_3 p386 q386
              obtain rfl : ad383 = ad386 := (by injection e386)
              replace hx386_0 := (HB.out.cell (World.block_lt_of_cell? w _ hx386_0)).trans hx386_0
              replace hx386_1 := (HB.out.cell (World.block_lt_of_cell? w _ hx386_1)).trans hx386_1
              replace hx386_2 := (HB.out.cell (World.block_lt_of_cell? w _ hx386_2)).trans hx386_2
              have HR386_0 := Aside0.mk hi386_0
              have HC386_0 := Aside0.mk hl386_0
              clear hi386_0 hl386_0
              replace p386 := eq_true p386
              replace q386 := eq_true q386
              try go_wp2
              go_roundg k3
              case measure => have := HJ3.out; have := HK2.out; have := HK3.out; omega
              case rel => exact ⟨((rd_T41 l1 x9_3).f1), (wrap64 (x10_3 + 1)), (by first | rfl | (simp; done) | (simp [*]; done)), (by first | rfl | (simp; done) | (simp [*]; done)), H', ⟨by have := HJ3.out; have := HK2.out; have := HK3.out; omega⟩, ⟨bz BK379⟩, ⟨by exact bh⟩⟩
             ·replace c24 := Bool.eq_false_iff.mpr c24
              subst c24
              have H1 : (spec_LawByEach.l1 k3 l1 l2 ((rd_T41 l1 x9_3).f2) (wrap64 (x10_3 + 1)) a0_0 l0_1) = some (r1, r2) := by rw [if_neg (show ¬ (false = true) by decide)] at H; exact H
              clear H
              have H := H1
              clear H1
              have H' := Aside0.mk H
              clear H
              try go_wp2
              have n0_ := Aside0.mk (blk_drew BK379.out)
              have n1_ := Aside0.mk (below_drew1 HB.out)
              clear BK379 HB
              have BK379 := n0_
              have HB := n1_
              clear n0_ n1_
              have p383 : 0 ≤ (x9_3 : Int) := oda
              have q383 : x9_3 < (l1.length : Int) := oda
              obtain ⟨ad383, A383_0, c383_0, e383, hx383_0, hx383_1, hx383_2, hl383_0, hi383_0⟩ := at_T41 HR1.out x9_3 p383 q383
              have hw383_2 := hx383_2
              have hw383_1 := hx383_1
              have hw383_0 := hx383_0
              cases e383
              replace hx383_0 := (HB.out.cell (World.block_lt_of_cell? w _ hx383_0)).trans hx383_0
              replace hx383_1 := (HB.out.cell (World.block_lt_of_cell? w _ hx383_1)).trans hx383_1
              replace hx383_2 := (HB.out.cell (World.block_lt_of_cell? w _ hx383_2)).trans hx383_2
              have HR383_0 := Aside0.mk hi383_0
              have HC383_0 := Aside0.mk hl383_0
              clear hi383_0 hl383_0
              replace p383 := eq_true p383
              replace q383 := eq_true q383
              have p384 : 0 ≤ (x9_3 : Int) := oda
              have q384 : x9_3 < (l2.length : Int) := oda
              obtain ⟨ad384, e384, hx384_0⟩ := Kd.at_int HR2.out x9_3 p384 q384
              have hw384_0 := hx384_0
              cases e384
              replace hx384_0 := (HB.out.cell (World.block_lt_of_cell? w _ hx384_0)).trans hx384_0
              replace p384 := eq_true p384
              replace q384 := eq_true q384
              refine start_ (n := 11) (S := fun w' => w'.cell? ⟨gb379, 0, none⟩ = some (.int .i64 a0_0) ∧ w'.cell? ⟨gb379, 1, none⟩ = some (.slice A0_1 l0_1.length c0_1) ∧ w'.cell? (ad383.add ((x9_3).toNat * 3)) = some (.slice A383_0 ((rd_T41 l1 x9_3).f0).length c383_0) ∧ w'.cell? ⟨(ad383.add ((x9_3).toNat * 3)).block, (ad383.add ((x9_3).toNat * 3)).off + 1, none⟩ = some (.int .i64 ((rd_T41 l1 x9_3).f1)) ∧ w'.cell? ⟨(ad383.add ((x9_3).toNat * 3)).block, (ad383.add ((x9_3).toNat * 3)).off + 2, none⟩ = some (.int .i64 ((rd_T41 l1 x9_3).f2)) ∧ w'.cell? (ad384.add (x9_3).toNat) = some (.int .i64 (rd l2 x9_3))) (ds := []) #[F,F,F,F,F,F,F,F,F,F,F] kr rfl rfl ⟨cz0 BK379, cz1 BK379, ((HB.out.cell (World.block_lt_of_cell? w _ hw383_0)).trans hw383_0), ((HB.out.cell (World.block_lt_of_cell? w _ hw383_1)).trans hw383_1), ((HB.out.cell (World.block_lt_of_cell? w _ hw383_2)).trans hw383_2), ((HB.out.cell (World.block_lt_of_cell? w _ hw384_0)).trans hw384_0)⟩ (fun hHeld => ?_); refine with_tabW spec_LawByEach.tab12 spec_LawByEach.bits12 (fun HT_ HW_ => ?_)
              generalize wr.drew = w27 at BK379 HB HR383_0 hx383_0 hx383_1 hx383_2 hx384_0 hHeld ⊢
              refine pu 1 (some 41) #[F,T,F,F,F,F,F,F,F,F,F] (any_of HT_.out kr) ?_
              refine pu 2 (some 42) #[F,T,T,F,F,F,F,F,F,F,F] (any_of HT_.out kr) ?_
              refine pu 3 (some 43) #[F,T,T,T,F,F,F,F,F,F,F] (any_of HT_.out kr) ?_
              refine pu 4 (some 44) #[F,T,T,T,T,F,F,F,F,F,F] (any_of HT_.out kr) ?_
              refine pu 6 (some 46) #[F,T,T,T,T,F,T,F,F,F,F] (any_of HT_.out kr) ?_
              refine pu 7 (some 47) #[F,T,T,T,T,F,T,T,F,F,F] (any_of HT_.out kr) ?_
              refine pu 8 (some 48) #[F,T,T,T,T,F,T,T,T,F,F] (any_of HT_.out kr) ?_
              refine tk6 0 (some 40) #[T,T,T,T,T,F,T,T,T,F,F] (take_ofW HT_.out HW_.out kr) ?_
              refine tk6 5 (some 45) #[T,T,T,T,T,T,T,T,T,F,F] (take_ofW HT_.out HW_.out kr) ?_
              refine tk6 9 (some 49) #[T,T,T,T,T,T,T,T,T,T,F] (take_ofW HT_.out HW_.out kr) ?_
              refine one_ (i := 10) (N := some 50) #[T,T,T,T,T,T,T,T,T,T,T] rfl rfl (one_of HT_.out kr) (by decide) (fun K hK => ?_)
              refine goes_ Try.func75 kr rfl #[.agg #[.int .i64 a0_0, .slice A0_1 l0_1.length c0_1], .slice A383_0 ((rd_T41 l1 x9_3).f0).length c383_0, .int .i64 (rd l2 x9_3)] (by rfl) rfl rfl lm ?_
              with_reducible refine (spec_l4Says.calls k3 a0_0 _ _ l0_1 _ _ ((rd_T41 l1 x9_3).f0) (rd l2 x9_3) false _ ?side1 ?side2 ?side3 ?side4 A23.out).mono ?_
              (case side1 => repeat (first | exact (Kd.C_below HR0_1.out HB.out) | (with_reducible refine Kd.C_alloc ?_ _) | (with_reducible refine Kd.C_drewN ?_ _) | (with_reducible refine Kd.C_drew ?_)))
              (case side2 => exact HC0_1.out)
              (case side3 => repeat (first | exact (Kd.C_below HR383_0.out HB.out) | (with_reducible refine Kd.C_alloc ?_ _) | (with_reducible refine Kd.C_drewN ?_ _) | (with_reducible refine Kd.C_drew ?_)))
              (case side4 => exact HC383_0.out)
              rintro e w28 ⟨rfl, hb⟩
              refine ⟨_, rfl, ?_⟩
              have n0_ := Aside0.mk (blk_below (bz BK379) hb)
              have n1_ := Aside0.mk (below_step bh hb)
              clear BK379 HB
              have BK379 := n0_
              have HB := n1_
              clear n0_ n1_
              (try clear hb)
              (try clear hb2)
              (try clear hk)
              (try clear hi)
              refine hK.out _ _ ⟨cz0 BK379, cz1 BK379, ((HB.out.cell (World.block_lt_of_cell? w _ hw383_0)).trans hw383_0), ((HB.out.cell (World.block_lt_of_cell? w _ hw383_1)).trans hw383_1), ((HB.out.cell (World.block_lt_of_cell? w _ hw383_2)).trans hw383_2), ((HB.out.cell (World.block_lt_of_cell? w _ hw384_0)).trans hw384_0)⟩ (fun hHeld => ?_)
              clear hK K
              refine norm_ (a' := ?_) ?_ ?_
              rotate_left
              ·show Act.put _ (some 50) _ = _
               simp only [Act.put, List.setIfInBounds_toArray, List.set_cons_zero, List.set_cons_succ, i64_w, i32_w]
               rfl
              refine done_ (done_of HT_.out kr) ?_
              have p387 : 0 ≤ (x9_3 : Int) := oda
              have q387 : x9_3 < (l1.length : Int) := oda
              obtain ⟨ad387, A387_0, c387_0, e387, hx387_0, hx387_1, hx387_2, hl387_0, hi387_0⟩ := at_T41 HR1.out x9_3 p387 q387
              obtain rfl : ad383 = ad387 := (by injection e387)
              replace hx387_0 := (HB.out.cell (World.block_lt_of_cell? w _ hx387_0)).trans hx387_0
              replace hx387_1 := (HB.out.cell (World.block_lt_of_cell? w _ hx387_1)).trans hx387_1
              replace hx387_2 := (HB.out.cell (World.block_lt_of_cell? w _ hx387_2)).trans hx387_2
              have HR387_0 := Aside0.mk hi387_0
              have HC387_0 := Aside0.mk hl387_0
              clear hi387_0 hl387_0
              replace p387 := eq_true p387
              replace q387 := eq_true q387
              try go_wp2
              go_roundg k3
              case measure => have := HJ3.out; have := HK2.out; have := HK3.out; omega
              case rel => exact ⟨((rd_T41 l1 x9_3).f2), (wrap64 (x10_3 + 1)), (by first | rfl | (simp; done) | (simp [*]; done)), (by first | rfl | (simp; done) | (simp [*]; done)), H', ⟨by have := HJ3.out; have := HK2.out; have := HK3.out; omega⟩, ⟨bz BK379⟩, ⟨by exact bh⟩⟩
            ·rw [if_neg c22] at H
             exact absurd H (by simp)
           ·rw [if_neg c21] at H
            exact absurd H (by simp)
          ·rw [if_neg c20] at H
           exact absurd H (by simp)
         ·rw [if_neg c19] at H
          have c19b0 : decide (x9_3 < 10) = false := decide_eq_false c19
          clear c19
          simp only [Option.some.injEq, Prod.mk.injEq] at H
          obtain ⟨rfl, rfl⟩ := H
          go_wp2
          go_ret2
          exact ⟨by first | rfl | (simp [errW_none, errW_some] <;> rfl) | (simp [*, errW_none, errW_some] <;> rfl), by exact bh⟩

end Go.Proofs.Ytnpjlpkbefdnlaa.QFnLawByEach
