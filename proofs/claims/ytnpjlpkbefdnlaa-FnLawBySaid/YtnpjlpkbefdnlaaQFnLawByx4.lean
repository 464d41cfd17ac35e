-- Printed for this claim by a turned copy of the print (wip/myprint). Lean checks it. Squeezed. Worded. Tightened.
import Derived.Test.YtnpjlpkbefdnlaaQFnLawByx0
import Derived.Test.YtnpjlpkbefdnlaaQFnLawByx2
import Derived.Test.YtnpjlpkbefdnlaaQFnLawByx3
namespace Go.Proofs.Ytnpjlpkbefdnlaa.QFnLawBy
open Go.RowKit Go.Proofs.YtnpjlpkbefdnlaaW.PrintWords Go.Proofs.YtnpjlpkbefdnlaaW.PrintLast Go.Proofs.YtnpjlpkbefdnlaaW.PrintMore
attribute [local go_sem] max2_int min2_int max_two min_two max_three min_three max_four min_four Opens.cell_twice   -- for this text's walks alone
set_option linter.unusedVariables false
set_option linter.unusedSimpArgs false

/-! ### spec_ProcessOk: function 16 -/
mutual
def spec_ProcessOk.l0 : Nat → List (S41) → Int → Int → List Int → Option (Bool)
 | 0, _, _, _, _ => none
 | k + 1, x1, x5, x121000, x121001 => if x5 < (x1.length : Int) then (spec_ProcessOk.l1 k x1 x5 0 x121000 x121001) else ((spec_l1In.f (x1.length : Int) 1 4).bind fun t121 => (some t121))
def spec_ProcessOk.l1 : Nat → List (S41) → Int → Int → Int → List Int → Option (Bool)
 | 0, _, _, _, _, _ => none
 | k + 1, x1, x5, x6, x121000, x121001 => if x6 < 2 then (if 0 ≤ x5 then (if x5 < (x1.length : Int) then (if x6 = 1 then (if ((rd_T41 x1 x5).f2) = 10 then (spec_ProcessOk.l1 k x1 x5 (wrap64 (x6 + 1)) x121000 x121001) else (if ((rd_T41 x1 x5).f2) = 11 then (spec_ProcessOk.l1 k x1 x5 (wrap64 (x6 + 1)) x121000 x121001) else ((spec_l1In.f ((rd_T41 x1 x5).f2) (wrap64 (x5 + 1)) (wrap64 ((x1.length : Int) - 1))).bind fun t126 => (if t126 = true then (spec_ProcessOk.l1 k x1 x5 (wrap64 (x6 + 1)) x121000 x121001) else (some false))))) else (if ((rd_T41 x1 x5).f1) = 10 then (spec_ProcessOk.l1 k x1 x5 (wrap64 (x6 + 1)) x121000 x121001) else (if ((rd_T41 x1 x5).f1) = 11 then (spec_ProcessOk.l1 k x1 x5 (wrap64 (x6 + 1)) x121000 x121001) else ((spec_l1In.f ((rd_T41 x1 x5).f1) (wrap64 (x5 + 1)) (wrap64 ((x1.length : Int) - 1))).bind fun t127 => (if t127 = true then (spec_ProcessOk.l1 k x1 x5 (wrap64 (x6 + 1)) x121000 x121001) else (some false)))))) else (none)) else (none)) else (if 0 ≤ x5 then (if x5 < (x1.length : Int) then ((spec_TermOk.f k x121000 x121001 ((rd_T41 x1 x5).f0)).bind fun t123 => (if t123 = true then (spec_ProcessOk.l0 k x1 (wrap64 (x5 + 1)) x121000 x121001) else (some false))) else (none)) else (none))
end
def spec_ProcessOk.f (k : Nat) (a0_0 : Int) (l0_1 : List Int) (l1 : List (S41)) : Option (Bool) := spec_ProcessOk.l0 k l1 0 a0_0 l0_1
theorem spec_ProcessOk.mono_l : ∀ k, (∀ y0 y1 y2 y3, LeO (spec_ProcessOk.l0 k y0 y1 y2 y3) (spec_ProcessOk.l0 (k + 1) y0 y1 y2 y3)) ∧ (∀ y0 y1 y2 y3 y4, LeO (spec_ProcessOk.l1 k y0 y1 y2 y3 y4) (spec_ProcessOk.l1 (k + 1) y0 y1 y2 y3 y4))
 | 0 => ⟨fun _ _ _ _ r h => by simp [spec_ProcessOk.l0] at h, fun _ _ _ _ _ r h => by simp [spec_ProcessOk.l1] at h⟩
 | k + 1 => by
  obtain ⟨ih0, ih1⟩ := spec_ProcessOk.mono_l k
  refine ⟨?_, ?_⟩
  ·intro y0 y1 y2 y3
   unfold spec_ProcessOk.l0
   repeat' first
   | (with_reducible exact ih0 _ _ _ _)
   | (with_reducible exact ih1 _ _ _ _ _)
   | (with_reducible exact spec_TermOk.mono _ _ _ _)
   | (with_reducible exact LeO.refl _)
   | (with_reducible exact LeO.none _)
   | (with_reducible refine LeO.ite ?_ ?_)
   | (with_reducible refine LeO.bind ?_ (fun _ => ?_))
   | exact ih0 _ _ _ _
   | exact ih1 _ _ _ _ _
   | exact spec_TermOk.mono _ _ _ _
   | exact LeO.none _
   | refine LeO.ite ?_ ?_
   | refine LeO.bind ?_ (fun _ => ?_)
  ·intro y0 y1 y2 y3 y4
   unfold spec_ProcessOk.l1
   repeat' first
   | (with_reducible exact ih0 _ _ _ _)
   | (with_reducible exact ih1 _ _ _ _ _)
   | (with_reducible exact spec_TermOk.mono _ _ _ _)
   | (with_reducible exact LeO.refl _)
   | (with_reducible exact LeO.none _)
   | (with_reducible refine LeO.ite ?_ ?_)
   | (with_reducible refine LeO.bind ?_ (fun _ => ?_))
   | exact ih0 _ _ _ _
   | exact ih1 _ _ _ _ _
   | exact spec_TermOk.mono _ _ _ _
   | exact LeO.none _
   | refine LeO.ite ?_ ?_
   | refine LeO.bind ?_ (fun _ => ?_)
theorem spec_ProcessOk.mono : ∀ a0 a1 a2 k, LeO (spec_ProcessOk.f k a0 a1 a2) (spec_ProcessOk.f (k + 1) a0 a1 a2) := by
 intro a0 a1 a2 k
 obtain ⟨ih0, ih1⟩ := spec_ProcessOk.mono_l k
 unfold spec_ProcessOk.f
 repeat' first
   | (with_reducible exact ih0 _ _ _ _)
   | (with_reducible exact ih1 _ _ _ _ _)
   | (with_reducible exact spec_TermOk.mono _ _ _ _)
   | (with_reducible exact LeO.refl _)
   | (with_reducible exact LeO.none _)
   | (with_reducible refine LeO.ite ?_ ?_)
   | (with_reducible refine LeO.bind ?_ (fun _ => ?_))
   | exact ih0 _ _ _ _
   | exact ih1 _ _ _ _ _
   | exact spec_TermOk.mono _ _ _ _
   | exact LeO.none _
   | refine LeO.ite ?_ ?_
   | refine LeO.bind ?_ (fun _ => ?_)
def spec_ProcessOk.T12 : Bool × List (List Nat × List Nat) := (true, [([], []), ([], []), ([], []), ([1, 2], [1, 2]), ([3], [3]), ([4], [4]), ([0, 5], [0, 5]), ([6], [6])])
def spec_ProcessOk.B12 : List Nat := [0, 0, 0, 6, 14, 30, 63, 127]
theorem spec_ProcessOk.tab12 : rtab .any (opsOf Try.f16 12) = spec_ProcessOk.T12 := by kernel_rfl
theorem spec_ProcessOk.bits12 : waitsOk spec_ProcessOk.T12.2 spec_ProcessOk.B12 = true := by kernel_rfl
set_option maxHeartbeats 8000000 in
set_option maxRecDepth 100000 in
theorem spec_ProcessOk.calls (k : Nat) (a0_0 : Int) (A0_1 : Option Addr) (c0_1 : Nat) (l0_1 : List Int) (A1 : Option Addr) (c1 : Nat) (l1 : List (S41)) (r : Bool) (w : World) (hr0_1 : Kd.C (Kd.int .i64) w A0_1 l0_1.length l0_1) (hc0_1 : l0_1.length ≤ c0_1) (hr1 : Kd.C k41 w A1 l1.length l1) (hc1 : l1.length ≤ c1) (h : spec_ProcessOk.f k a0_0 l0_1 l1 = some r) :
  Calls Try.prog 16 #[.agg #[.int .i64 a0_0, .slice A0_1 l0_1.length c0_1], .slice A1 l1.length c1] w fun e w' => e = .returned (.bool r) ∧ Below w.heap.size w w' := by
 have hu25 := Try.underlying25
 have HR0_1 := Aside0.mk hr0_1
 have HC0_1 := Aside0.mk hc0_1
 clear hr0_1 hc0_1
 have HR1 := Aside0.mk hr1
 have HC1 := Aside0.mk hc1
 clear hr1 hc1
 have HB := Aside0.mk (Below.refl w.heap.size w)
 have H : (spec_ProcessOk.l0 k l1 0 a0_0 l0_1) = some r := h
 clear h
 have H' := Aside0.mk H
 clear H
 go_enter Try.func16, Try.ntmps16
 go_wp2_with (first | ((with_reducible refine gate_dst (N := 2) rfl ?_); (try (refine gate_guard (by rfl) ?_; dsimp only)); refine box_event ?hg (N := 2) ?hd (cs := #[.int .i64 a0_0, .slice A0_1 l0_1.length c0_1]) (t := 25) ?hr ?_; (case hd => rfl); (case hg => rfl); (case hr => first | (go_simp; done) | (go_simp; rfl)); intro gb120 hg w3 hbox hb; have n0_ := Aside0.mk (below_step bh hb); have n1_ := Aside0.mk (hbox); have n2_ := Aside0.mk ((gs (W0 := w) hg bh)); have n3_ := Aside0.mk ((gs (W0 := w) hg bh)); clear HB; have HB := n0_; have BK120 := n1_; have GW120 := n2_; have GE120 := n3_; clear n0_ n1_ n2_ n3_ hb hbox hg))
 go_loopg [5] k (fun kq v5 w' => ∃ (x5_1 : Int), v5 = .int .i64 x5_1 ∧ Aside0 (spec_ProcessOk.l0 kq l1 x5_1 a0_0 l0_1 = some r) ∧ Aside0 (kq ≤ k) ∧ Aside0 (w'.heap[gb120]? = some (.cells #[.int .i64 a0_0, (.slice A0_1 l0_1.length c0_1)] 25 (0, 0))) ∧ Aside0 (Below w.heap.size w w'))
 case atStart => exact ⟨(0), (by first | rfl | (simp; done) | (simp [*]; done)), H', ⟨Nat.le_refl _⟩, ⟨bz BK120⟩, ⟨by exact bh⟩⟩
 case round =>
  clear H'
  try clear c1
  try clear p2
  obtain ⟨x5_1, rfl, HA, HK1, BK120, HB⟩ := hrel
  cases gk with
  | zero => exact absurd HA.out (by simp [spec_ProcessOk.l0])
  | succ k1 =>
   have H := HA.out
   clear HA
   simp only [spec_ProcessOk.l0] at H
   by_cases c4 : x5_1 < (l1.length : Int)
   ·rw [if_pos c4] at H
    have c4b0 : decide (x5_1 < (l1.length : Int)) = true := decide_eq_true c4
    clear c4
    have H' := Aside0.mk H
    clear H
    go_wp2
    go_loopg [6] k1 (fun kq v6 w' => ∃ (x6_2 : Int), v6 = .int .i64 x6_2 ∧ Aside0 (spec_ProcessOk.l1 kq l1 x5_1 x6_2 a0_0 l0_1 = some r) ∧ Aside0 (kq ≤ k1) ∧ Aside0 (w'.heap[gb120]? = some (.cells #[.int .i64 a0_0, (.slice A0_1 l0_1.length c0_1)] 25 (0, 0))) ∧ Aside0 (Below w.heap.size w w'))
    case atStart => exact ⟨(0), (by first | rfl | (simp; done) | (simp [*]; done)), H', ⟨Nat.le_refl _⟩, ⟨bz BK120⟩, ⟨by exact bh⟩⟩
    case round =>
     clear H'
     try clear c1
     try clear p2
     try clear c4
     try clear c4b0
     try clear p2
     obtain ⟨x6_2, rfl, HA, HK2, BK120, HB⟩ := hrel
     cases gk with
     | zero => exact absurd HA.out (by simp [spec_ProcessOk.l1])
     | succ k2 =>
      have H := HA.out
      clear HA
      simp only [spec_ProcessOk.l1] at H
      by_cases c5 : x6_2 < 2
      ·rw [if_pos c5] at H
       have c5b0 : decide (x6_2 < 2) = true := decide_eq_true c5
       clear c5
       by_cases c6 : 0 ≤ x5_1
       ·rw [if_pos c6] at H
        have c6b0 : decide (0 ≤ x5_1) = true := decide_eq_true c6
        clear c6
        by_cases c7 : x5_1 < (l1.length : Int)
        ·rw [if_pos c7] at H
         have c7b0 : decide (x5_1 < (l1.length : Int)) = true := decide_eq_true c7
         clear c7
         by_cases c8 : x6_2 = 1
         ·rw [if_pos c8] at H
          have c8b0 : (x6_2 == 1) = true := beq_iff_eq.mpr c8
          have c8b1 : (x6_2 != 1) = false := bne_eq_false_iff_eq.mpr c8
          clear c8
          by_cases c9 : ((rd_T41 l1 x5_1).f2) = 10
          ·rw [if_pos c9] at H
           have c9b0 : (((rd_T41 l1 x5_1).f2) == 10) = true := beq_iff_eq.mpr c9
           have c9b1 : (((rd_T41 l1 x5_1).f2) != 10) = false := bne_eq_false_iff_eq.mpr c9
           clear c9
           have H' := Aside0.mk H
           clear H
           have p124 : 0 ≤ (x5_1 : Int) := oda
           have q124 : x5_1 < (l1.length : Int) := oda
           obtain ⟨ad124, A124_0, c124_0, e124, hx124_0, hx124_1, hx124_2, hl124_0, hi124_0⟩ := at_T41 HR1.out x5_1 p124 q124
           cases e124
           replace hx124_0 := (HB.out.cell (World.block_lt_of_cell? w _ hx124_0)).trans hx124_0
           replace hx124_1 := (HB.out.cell (World.block_lt_of_cell? w _ hx124_1)).trans hx124_1
           replace hx124_2 := (HB.out.cell (World.block_lt_of_cell? w _ hx124_2)).trans hx124_2
           have HR124_0 := Aside0.mk hi124_0
           have HC124_0 := Aside0.mk hl124_0
           clear hi124_0 hl124_0
           replace p124 := eq_true p124
           replace q124 := eq_true q124
           have p125 : 0 ≤ (x5_1 : Int) := oda
           have q125 : x5_1 < (l1.length : Int) := oda
           obtain ⟨ad125, A125_0, c125_0, e125, hx125_0, hx125_1, hx125_2, hl125_0, hi125_0⟩ := at_T41 HR1.out x5_1 p125 q125
           obtain rfl : ad124 = ad125 := (by injection e125)
           replace hx125_0 := (HB.out.cell (World.block_lt_of_cell? w _ hx125_0)).trans hx125_0
           replace hx125_1 := (HB.out.cell (World.block_lt_of_cell? w _ hx125_1)).trans hx125_1
           replace hx125_2 := (HB.out.cell (World.block_lt_of_cell? w _ hx125_2)).trans hx125_2
           have HR125_0 := Aside0.mk hi125_0
           have HC125_0 := Aside0.mk hl125_0
           clear hi125_0 hl125_0
           replace p125 := eq_true p125
           replace q125 := eq_true q125
           have ea_ := Option.some.inj (hx124_0.symm.trans hx125_0)
           injection ea_ with ea_ en_ ec_
           subst ea_
           subst ec_
           clear en_
           go_wp2
           go_roundg k2
           case measure => have := HK1.out; have := HK2.out; omega
           case rel => exact ⟨(wrap64 (x6_2 + 1)), (by first | rfl | (simp; done) | (simp [*]; done)), H', ⟨by have := HK1.out; have := HK2.out; omega⟩, ⟨bz BK120⟩, ⟨by exact bh⟩⟩
          ·rw [if_neg c9] at H
           have c9b0 : (((rd_T41 l1 x5_1).f2) == 10) = false := beq_eq_false_iff_ne.mpr c9
           have c9b1 : (((rd_T41 l1 x5_1).f2) != 10) = true := bne_iff_ne.mpr c9
           by_cases c10 : ((rd_T41 l1 x5_1).f2) = 11
           ·rw [if_pos c10] at H
            have c10b0 : (((rd_T41 l1 x5_1).f2) == 11) = true := beq_iff_eq.mpr c10
            have c10b1 : (((rd_T41 l1 x5_1).f2) != 11) = false := bne_eq_false_iff_eq.mpr c10
            clear c10
            have H' := Aside0.mk H
            clear H
            have p124 : 0 ≤ (x5_1 : Int) := oda
            have q124 : x5_1 < (l1.length : Int) := oda
            obtain ⟨ad124, A124_0, c124_0, e124, hx124_0, hx124_1, hx124_2, hl124_0, hi124_0⟩ := at_T41 HR1.out x5_1 p124 q124
            cases e124
            replace hx124_0 := (HB.out.cell (World.block_lt_of_cell? w _ hx124_0)).trans hx124_0
            replace hx124_1 := (HB.out.cell (World.block_lt_of_cell? w _ hx124_1)).trans hx124_1
            replace hx124_2 := (HB.out.cell (World.block_lt_of_cell? w _ hx124_2)).trans hx124_2
            have HR124_0 := Aside0.mk hi124_0
            have HC124_0 := Aside0.mk hl124_0
            clear hi124_0 hl124_0
            replace p124 := eq_true p124
            replace q124 := eq_true q124
            have p125 : 0 ≤ (x5_1 : Int) := oda
            have q125 : x5_1 < (l1.length : Int) := oda
            obtain ⟨ad125, A125_0, c125_0, e125, hx125_0, hx125_1, hx125_2, hl125_0, hi125_0⟩ := at_T41 HR1.out x5_1 p125 q125
            obtain rfl : ad124 = ad125 := (by injection e125)
            replace hx125_0 := (HB.out.cell (World.block_lt_of_cell? w _ hx125_0)).trans hx125_0
            replace hx125_1 := (HB.out.cell (World.block_lt_of_cell? w _ hx125_1)).trans hx125_1
            replace hx125_2 := (HB.out.cell (World.block_lt_of_cell? w _ hx125_2)).trans hx125_2
            have HR125_0 := Aside0.mk hi125_0
            have HC125_0 := Aside0.mk hl125_0
            clear hi125_0 hl125_0
            replace p125 := eq_true p125
            replace q125 := eq_true q125
            have ea_ := Option.some.inj (hx124_0.symm.trans hx125_0)
            injection ea_ with ea_ en_ ec_
            subst ea_
            subst ec_
            clear en_
            go_wp2
            go_roundg k2
            case measure => have := HK1.out; have := HK2.out; omega
            case rel => exact ⟨(wrap64 (x6_2 + 1)), (by first | rfl | (simp; done) | (simp [*]; done)), H', ⟨by have := HK1.out; have := HK2.out; omega⟩, ⟨bz BK120⟩, ⟨by exact bh⟩⟩
           ·rw [if_neg c10] at H
            have c10b0 : (((rd_T41 l1 x5_1).f2) == 11) = false := beq_eq_false_iff_ne.mpr c10
            have c10b1 : (((rd_T41 l1 x5_1).f2) != 11) = true := bne_iff_ne.mpr c10
            replace H := Option.bind_eq_some_iff.mp H
            obtain ⟨t126, A110, H⟩ := H
            replace H : (if t126 = true then (spec_ProcessOk.l1 k2 l1 x5_1 (wrap64 (x6_2 + 1)) a0_0 l0_1) else (some false)) = some r := H
            have A11 := Aside0.mk A110
            clear A110
            by_cases c12 : t126 = true
            ·subst c12
             have H1 : (spec_ProcessOk.l1 k2 l1 x5_1 (wrap64 (x6_2 + 1)) a0_0 l0_1) = some r := by rw [if_pos rfl] at H; exact H
             clear H
             have H := H1
             clear H1
             have H' := Aside0.mk H
             clear H
             have p124 : 0 ≤ (x5_1 : Int) := oda
             have q124 : x5_1 < (l1.length : Int) := oda
             obtain ⟨ad124, A124_0, c124_0, e124, hx124_0, hx124_1, hx124_2, hl124_0, hi124_0⟩ := at_T41 HR1.out x5_1 p124 q124
             cases e124
             replace hx124_0 := (HB.out.cell (World.block_lt_of_cell? w _ hx124_0)).trans hx124_0
             replace hx124_1 := (HB.out.cell (World.block_lt_of_cell? w _ hx124_1)).trans hx124_1
             replace hx124_2 := (HB.out.cell (World.block_lt_of_cell? w _ hx124_2)).trans hx124_2
             have HR124_0 := Aside0.mk hi124_0
             have HC124_0 := Aside0.mk hl124_0
             clear hi124_0 hl124_0
             replace p124 := eq_true p124
             replace q124 := eq_true q124
             have p125 : 0 ≤ (x5_1 : Int) := oda
             have q125 : x5_1 < (l1.length : Int) := oda
             obtain ⟨ad125, A125_0, c125_0, e125, hx125_0, hx125_1, hx125_2, hl125_0, hi125_0⟩ := at_T41 HR1.out x5_1 p125 q125
             obtain rfl : ad124 = ad125 := (by injection e125)
             replace hx125_0 := (HB.out.cell (World.block_lt_of_cell? w _ hx125_0)).trans hx125_0
             replace hx125_1 := (HB.out.cell (World.block_lt_of_cell? w _ hx125_1)).trans hx125_1
             replace hx125_2 := (HB.out.cell (World.block_lt_of_cell? w _ hx125_2)).trans hx125_2
             have HR125_0 := Aside0.mk hi125_0
             have HC125_0 := Aside0.mk hl125_0
             clear hi125_0 hl125_0
             replace p125 := eq_true p125
             replace q125 := eq_true q125
             have ea_ := Option.some.inj (hx124_0.symm.trans hx125_0)
             injection ea_ with ea_ en_ ec_
             subst ea_
             subst ec_
             clear en_
             go_wp2_with (first | (go_at_call 54; (with_reducible refine (spec_l1In.calls ((rd_T41 l1 x5_1).f2) (wrap64 (x5_1 + 1)) (wrap64 ((l1.length : Int) - 1)) true _ A11.out).mono ?_); rintro e w' ⟨rfl, ⟨nd, rfl⟩⟩))
             go_roundg k2
             case measure => have := HK1.out; have := HK2.out; omega
             case rel => exact ⟨(wrap64 (x6_2 + 1)), (by first | rfl | (simp; done) | (simp [*]; done)), H', ⟨by have := HK1.out; have := HK2.out; omega⟩, ⟨bz BK120⟩, ⟨by exact bh⟩⟩
            ·replace c12 := Bool.eq_false_iff.mpr c12
             subst c12
             have H1 : (some false) = some r := by rw [if_neg (show ¬ (false = true) by decide)] at H; exact H
             clear H
             have H := H1
             clear H1
             obtain rfl := Option.some.inj H
             have p124 : 0 ≤ (x5_1 : Int) := oda
             have q124 : x5_1 < (l1.length : Int) := oda
             obtain ⟨ad124, A124_0, c124_0, e124, hx124_0, hx124_1, hx124_2, hl124_0, hi124_0⟩ := at_T41 HR1.out x5_1 p124 q124
             cases e124
             replace hx124_0 := (HB.out.cell (World.block_lt_of_cell? w _ hx124_0)).trans hx124_0
             replace hx124_1 := (HB.out.cell (World.block_lt_of_cell? w _ hx124_1)).trans hx124_1
             replace hx124_2 := (HB.out.cell (World.block_lt_of_cell? w _ hx124_2)).trans hx124_2
             have HR124_0 := Aside0.mk hi124_0
             have HC124_0 := Aside0.mk hl124_0
             clear hi124_0 hl124_0
             replace p124 := eq_true p124
             replace q124 := eq_true q124
             have p125 : 0 ≤ (x5_1 : Int) := oda
             have q125 : x5_1 < (l1.length : Int) := oda
             obtain ⟨ad125, A125_0, c125_0, e125, hx125_0, hx125_1, hx125_2, hl125_0, hi125_0⟩ := at_T41 HR1.out x5_1 p125 q125
             obtain rfl : ad124 = ad125 := (by injection e125)
             replace hx125_0 := (HB.out.cell (World.block_lt_of_cell? w _ hx125_0)).trans hx125_0
             replace hx125_1 := (HB.out.cell (World.block_lt_of_cell? w _ hx125_1)).trans hx125_1
             replace hx125_2 := (HB.out.cell (World.block_lt_of_cell? w _ hx125_2)).trans hx125_2
             have HR125_0 := Aside0.mk hi125_0
             have HC125_0 := Aside0.mk hl125_0
             clear hi125_0 hl125_0
             replace p125 := eq_true p125
             replace q125 := eq_true q125
             have ea_ := Option.some.inj (hx124_0.symm.trans hx125_0)
             injection ea_ with ea_ en_ ec_
             subst ea_
             subst ec_
             clear en_
             go_wp2_with (first | (go_at_call 54; (with_reducible refine (spec_l1In.calls ((rd_T41 l1 x5_1).f2) (wrap64 (x5_1 + 1)) (wrap64 ((l1.length : Int) - 1)) false _ A11.out).mono ?_); rintro e w' ⟨rfl, ⟨nd, rfl⟩⟩))
             go_ret
             exact ⟨by first | rfl | (simp [errW_none, errW_some] <;> rfl) | (simp [*, errW_none, errW_some] <;> rfl), by exact bh⟩
         ·rw [if_neg c8] at H
          have c8b0 : (x6_2 == 1) = false := beq_eq_false_iff_ne.mpr c8
          have c8b1 : (x6_2 != 1) = true := bne_iff_ne.mpr c8
          by_cases c13 : ((rd_T41 l1 x5_1).f1) = 10
          ·rw [if_pos c13] at H
           have c13b0 : (((rd_T41 l1 x5_1).f1) == 10) = true := beq_iff_eq.mpr c13
           have c13b1 : (((rd_T41 l1 x5_1).f1) != 10) = false := bne_eq_false_iff_eq.mpr c13
           clear c13
           have H' := Aside0.mk H
           clear H
           have p124 : 0 ≤ (x5_1 : Int) := oda
           have q124 : x5_1 < (l1.length : Int) := oda
           obtain ⟨ad124, A124_0, c124_0, e124, hx124_0, hx124_1, hx124_2, hl124_0, hi124_0⟩ := at_T41 HR1.out x5_1 p124 q124
           cases e124
           replace hx124_0 := (HB.out.cell (World.block_lt_of_cell? w _ hx124_0)).trans hx124_0
           replace hx124_1 := (HB.out.cell (World.block_lt_of_cell? w _ hx124_1)).trans hx124_1
           replace hx124_2 := (HB.out.cell (World.block_lt_of_cell? w _ hx124_2)).trans hx124_2
           have HR124_0 := Aside0.mk hi124_0
           have HC124_0 := Aside0.mk hl124_0
           clear hi124_0 hl124_0
           replace p124 := eq_true p124
           replace q124 := eq_true q124
           go_wp2
           go_roundg k2
           case measure => have := HK1.out; have := HK2.out; omega
           case rel => exact ⟨(wrap64 (x6_2 + 1)), (by first | rfl | (simp; done) | (simp [*]; done)), H', ⟨by have := HK1.out; have := HK2.out; omega⟩, ⟨bz BK120⟩, ⟨by exact bh⟩⟩
          ·rw [if_neg c13] at H
           have c13b0 : (((rd_T41 l1 x5_1).f1) == 10) = false := beq_eq_false_iff_ne.mpr c13
           have c13b1 : (((rd_T41 l1 x5_1).f1) != 10) = true := bne_iff_ne.mpr c13
           by_cases c14 : ((rd_T41 l1 x5_1).f1) = 11
           ·rw [if_pos c14] at H
            have c14b0 : (((rd_T41 l1 x5_1).f1) == 11) = true := beq_iff_eq.mpr c14
            have c14b1 : (((rd_T41 l1 x5_1).f1) != 11) = false := bne_eq_false_iff_eq.mpr c14
            clear c14
            have H' := Aside0.mk H
            clear H
            have p124 : 0 ≤ (x5_1 : Int) := oda
            have q124 : x5_1 < (l1.length : Int) := oda
            obtain ⟨ad124, A124_0, c124_0, e124, hx124_0, hx124_1, hx124_2, hl124_0, hi124_0⟩ := at_T41 HR1.out x5_1 p124 q124
            cases e124
            replace hx124_0 := (HB.out.cell (World.block_lt_of_cell? w _ hx124_0)).trans hx124_0
            replace hx124_1 := (HB.out.cell (World.block_lt_of_cell? w _ hx124_1)).trans hx124_1
            replace hx124_2 := (HB.out.cell (World.block_lt_of_cell? w _ hx124_2)).trans hx124_2
            have HR124_0 := Aside0.mk hi124_0
            have HC124_0 := Aside0.mk hl124_0
            clear hi124_0 hl124_0
            replace p124 := eq_true p124
            replace q124 := eq_true q124
            go_wp2
            go_roundg k2
            case measure => have := HK1.out; have := HK2.out; omega
            case rel => exact ⟨(wrap64 (x6_2 + 1)), (by first | rfl | (simp; done) | (simp [*]; done)), H', ⟨by have := HK1.out; have := HK2.out; omega⟩, ⟨bz BK120⟩, ⟨by exact bh⟩⟩
           ·rw [if_neg c14] at H
            have c14b0 : (((rd_T41 l1 x5_1).f1) == 11) = false := beq_eq_false_iff_ne.mpr c14
            have c14b1 : (((rd_T41 l1 x5_1).f1) != 11) = true := bne_iff_ne.mpr c14
            replace H := Option.bind_eq_some_iff.mp H
            obtain ⟨t127, A150, H⟩ := H
            replace H : (if t127 = true then (spec_ProcessOk.l1 k2 l1 x5_1 (wrap64 (x6_2 + 1)) a0_0 l0_1) else (some false)) = some r := H
            have A15 := Aside0.mk A150
            clear A150
            by_cases c16 : t127 = true
            ·subst c16
             have H1 : (spec_ProcessOk.l1 k2 l1 x5_1 (wrap64 (x6_2 + 1)) a0_0 l0_1) = some r := by rw [if_pos rfl] at H; exact H
             clear H
             have H := H1
             clear H1
             have H' := Aside0.mk H
             clear H
             have p124 : 0 ≤ (x5_1 : Int) := oda
             have q124 : x5_1 < (l1.length : Int) := oda
             obtain ⟨ad124, A124_0, c124_0, e124, hx124_0, hx124_1, hx124_2, hl124_0, hi124_0⟩ := at_T41 HR1.out x5_1 p124 q124
             cases e124
             replace hx124_0 := (HB.out.cell (World.block_lt_of_cell? w _ hx124_0)).trans hx124_0
             replace hx124_1 := (HB.out.cell (World.block_lt_of_cell? w _ hx124_1)).trans hx124_1
             replace hx124_2 := (HB.out.cell (World.block_lt_of_cell? w _ hx124_2)).trans hx124_2
             have HR124_0 := Aside0.mk hi124_0
             have HC124_0 := Aside0.mk hl124_0
             clear hi124_0 hl124_0
             replace p124 := eq_true p124
             replace q124 := eq_true q124
             go_wp2_with (first | (go_at_call 54; (with_reducible refine (spec_l1In.calls ((rd_T41 l1 x5_1).f1) (wrap64 (x5_1 + 1)) (wrap64 ((l1.length : Int) - 1)) true _ A15.out).mono ?_); rintro e w' ⟨rfl, ⟨nd, rfl⟩⟩))
             go_roundg k2
             case measure => have := HK1.out; have := HK2.out; omega
             case rel => exact ⟨(wrap64 (x6_2 + 1)), (by first | rfl | (simp; done) | (simp [*]; done)), H', ⟨by have := HK1.out; have := HK2.out; omega⟩, ⟨bz BK120⟩, ⟨by exact bh⟩⟩
            ·replace c16 := Bool.eq_false_iff.mpr c16
             subst c16
             have H1 : (some false) = some r := by rw [if_neg (show ¬ (false = true) by decide)] at H; exact H
             clear H
             have H := H1
             clear H1
             obtain rfl := Option.some.inj H
             have p124 : 0 ≤ (x5_1 : Int) := oda
             have q124 : x5_1 < (l1.length : Int) := oda
             obtain ⟨ad124, A124_0, c124_0, e124, hx124_0, hx124_1, hx124_2, hl124_0, hi124_0⟩ := at_T41 HR1.out x5_1 p124 q124
             cases e124
             replace hx124_0 := (HB.out.cell (World.block_lt_of_cell? w _ hx124_0)).trans hx124_0
             replace hx124_1 := (HB.out.cell (World.block_lt_of_cell? w _ hx124_1)).trans hx124_1
             replace hx124_2 := (HB.out.cell (World.block_lt_of_cell? w _ hx124_2)).trans hx124_2
             have HR124_0 := Aside0.mk hi124_0
             have HC124_0 := Aside0.mk hl124_0
             clear hi124_0 hl124_0
             replace p124 := eq_true p124
             replace q124 := eq_true q124
             go_wp2_with (first | (go_at_call 54; (with_reducible refine (spec_l1In.calls ((rd_T41 l1 x5_1).f1) (wrap64 (x5_1 + 1)) (wrap64 ((l1.length : Int) - 1)) false _ A15.out).mono ?_); rintro e w' ⟨rfl, ⟨nd, rfl⟩⟩))
             go_ret
             exact ⟨by first | rfl | (simp [errW_none, errW_some] <;> rfl) | (simp [*, errW_none, errW_some] <;> rfl), by exact bh⟩
        ·rw [if_neg c7] at H
         exact absurd H (by simp)
       ·rw [if_neg c6] at H
        exact absurd H (by simp)
      ·rw [if_neg c5] at H
       have c5b0 : decide (x6_2 < 2) = false := decide_eq_false c5
       clear c5
       by_cases c17 : 0 ≤ x5_1
       ·rw [if_pos c17] at H
        have c17b0 : decide (0 ≤ x5_1) = true := decide_eq_true c17
        clear c17
        by_cases c18 : x5_1 < (l1.length : Int)
        ·rw [if_pos c18] at H
         have c18b0 : decide (x5_1 < (l1.length : Int)) = true := decide_eq_true c18
         clear c18
         replace H := Option.bind_eq_some_iff.mp H
         obtain ⟨t123, A190, H⟩ := H
         replace H : (if t123 = true then (spec_ProcessOk.l0 k2 l1 (wrap64 (x5_1 + 1)) a0_0 l0_1) else (some false)) = some r := H
         have A19 := Aside0.mk A190
         clear A190
         by_cases c20 : t123 = true
         ·subst c20
          have H1 : (spec_ProcessOk.l0 k2 l1 (wrap64 (x5_1 + 1)) a0_0 l0_1) = some r := by rw [if_pos rfl] at H; exact H
          clear H
          have H := H1
          clear H1
          have H' := Aside0.mk H
          clear H
          try go_wp2
          have n0_ := Aside0.mk (blk_drew BK120.out)
          have n1_ := Aside0.mk (below_drew1 HB.out)
          clear BK120 HB
          have BK120 := n0_
          have HB := n1_
          clear n0_ n1_
          have p122 : 0 ≤ (x5_1 : Int) := oda
          have q122 : x5_1 < (l1.length : Int) := oda
          obtain ⟨ad122, A122_0, c122_0, e122, hx122_0, hx122_1, hx122_2, hl122_0, hi122_0⟩ := at_T41 HR1.out x5_1 p122 q122
          have hw122_2 := hx122_2
          have hw122_1 := hx122_1
          have hw122_0 := hx122_0
          cases e122
          replace hx122_0 := (HB.out.cell (World.block_lt_of_cell? w _ hx122_0)).trans hx122_0
          replace hx122_1 := (HB.out.cell (World.block_lt_of_cell? w _ hx122_1)).trans hx122_1
          replace hx122_2 := (HB.out.cell (World.block_lt_of_cell? w _ hx122_2)).trans hx122_2
          have HR122_0 := Aside0.mk hi122_0
          have HC122_0 := Aside0.mk hl122_0
          clear hi122_0 hl122_0
          replace p122 := eq_true p122
          replace q122 := eq_true q122
          refine start_ (n := 8) (S := fun w' => w'.cell? ⟨gb120, 0, none⟩ = some (.int .i64 a0_0) ∧ w'.cell? ⟨gb120, 1, none⟩ = some (.slice A0_1 l0_1.length c0_1) ∧ w'.cell? (ad122.add ((x5_1).toNat * 3)) = some (.slice A122_0 ((rd_T41 l1 x5_1).f0).length c122_0) ∧ w'.cell? ⟨(ad122.add ((x5_1).toNat * 3)).block, (ad122.add ((x5_1).toNat * 3)).off + 1, none⟩ = some (.int .i64 ((rd_T41 l1 x5_1).f1)) ∧ w'.cell? ⟨(ad122.add ((x5_1).toNat * 3)).block, (ad122.add ((x5_1).toNat * 3)).off + 2, none⟩ = some (.int .i64 ((rd_T41 l1 x5_1).f2))) (ds := []) #[F,F,F,F,F,F,F,F] kr rfl rfl ⟨cz0 BK120, cz1 BK120, ((HB.out.cell (World.block_lt_of_cell? w _ hw122_0)).trans hw122_0), ((HB.out.cell (World.block_lt_of_cell? w _ hw122_1)).trans hw122_1), ((HB.out.cell (World.block_lt_of_cell? w _ hw122_2)).trans hw122_2)⟩ (fun hHeld => ?_); refine with_tabW spec_ProcessOk.tab12 spec_ProcessOk.bits12 (fun HT_ HW_ => ?_)
          generalize wr.drew = w21 at BK120 HB HR122_0 hx122_0 hx122_1 hx122_2 hHeld ⊢
          refine pu 1 (some 47) #[F,T,F,F,F,F,F,F] (any_of HT_.out kr) ?_
          refine pu 2 (some 48) #[F,T,T,F,F,F,F,F] (any_of HT_.out kr) ?_
          refine pu 3 (some 49) #[F,T,T,T,F,F,F,F] (any_of HT_.out kr) ?_
          refine pu 4 (some 50) #[F,T,T,T,T,F,F,F] (any_of HT_.out kr) ?_
          refine tk5 0 (some 46) #[T,T,T,T,T,F,F,F] (take_ofW HT_.out HW_.out kr) ?_
          refine tk5 5 (some 51) #[T,T,T,T,T,T,F,F] (take_ofW HT_.out HW_.out kr) ?_
          refine one_ (i := 6) (N := some 52) #[T,T,T,T,T,T,T,F] rfl rfl (one_of HT_.out kr) (by decide) (fun K hK => ?_)
          refine goes_ Try.func21 kr rfl #[.agg #[.int .i64 a0_0, .slice A0_1 l0_1.length c0_1], .slice A122_0 ((rd_T41 l1 x5_1).f0).length c122_0] (by rfl) rfl rfl lm ?_
          with_reducible refine (spec_TermOk.calls k2 a0_0 _ _ l0_1 _ _ ((rd_T41 l1 x5_1).f0) true _ ?side1 ?side2 ?side3 ?side4 A19.out).mono ?_
          (case side1 => repeat (first | exact (Kd.C_below HR0_1.out HB.out) | (with_reducible refine Kd.C_alloc ?_ _) | (with_reducible refine Kd.C_drewN ?_ _) | (with_reducible refine Kd.C_drew ?_)))
          (case side2 => exact HC0_1.out)
          (case side3 => repeat (first | exact (Kd.C_below HR122_0.out HB.out) | (with_reducible refine Kd.C_alloc ?_ _) | (with_reducible refine Kd.C_drewN ?_ _) | (with_reducible refine Kd.C_drew ?_)))
          (case side4 => exact HC122_0.out)
          rintro e w22 ⟨rfl, hb⟩
          refine ⟨_, rfl, ?_⟩
          have n0_ := Aside0.mk (blk_below (bz BK120) hb)
          have n1_ := Aside0.mk (below_step bh hb)
          clear BK120 HB
          have BK120 := n0_
          have HB := n1_
          clear n0_ n1_
          (try clear hb)
          (try clear hb2)
          (try clear hk)
          (try clear hi)
          refine hK.out _ _ ⟨cz0 BK120, cz1 BK120, ((HB.out.cell (World.block_lt_of_cell? w _ hw122_0)).trans hw122_0), ((HB.out.cell (World.block_lt_of_cell? w _ hw122_1)).trans hw122_1), ((HB.out.cell (World.block_lt_of_cell? w _ hw122_2)).trans hw122_2)⟩ (fun hHeld => ?_)
          clear hK K
          refine norm_ (a' := ?_) ?_ ?_
          rotate_left
          ·show Act.put _ (some 52) _ = _
           simp only [Act.put, List.setIfInBounds_toArray, List.set_cons_zero, List.set_cons_succ, i64_w, i32_w]
           rfl
          refine pu 7 (some 53) #[T,T,T,T,T,T,T,T] (any_of HT_.out kr) ?_
          refine done_ (done_of HT_.out kr) ?_
          try go_wp2
          go_roundg k2
          case measure => have := HK1.out; have := HK2.out; omega
          case rel => exact ⟨(wrap64 (x5_1 + 1)), (by first | rfl | (simp; done) | (simp [*]; done)), H', ⟨by have := HK1.out; have := HK2.out; omega⟩, ⟨bz BK120⟩, ⟨by exact bh⟩⟩
         ·replace c20 := Bool.eq_false_iff.mpr c20
          subst c20
          have H1 : (some false) = some r := by rw [if_neg (show ¬ (false = true) by decide)] at H; exact H
          clear H
          have H := H1
          clear H1
          obtain rfl := Option.some.inj H
          try go_wp2
          have n0_ := Aside0.mk (blk_drew BK120.out)
          have n1_ := Aside0.mk (below_drew1 HB.out)
          clear BK120 HB
          have BK120 := n0_
          have HB := n1_
          clear n0_ n1_
          have p122 : 0 ≤ (x5_1 : Int) := oda
          have q122 : x5_1 < (l1.length : Int) := oda
          obtain ⟨ad122, A122_0, c122_0, e122, hx122_0, hx122_1, hx122_2, hl122_0, hi122_0⟩ := at_T41 HR1.out x5_1 p122 q122
          have hw122_2 := hx122_2
          have hw122_1 := hx122_1
          have hw122_0 := hx122_0
          cases e122
          replace hx122_0 := (HB.out.cell (World.block_lt_of_cell? w _ hx122_0)).trans hx122_0
          replace hx122_1 := (HB.out.cell (World.block_lt_of_cell? w _ hx122_1)).trans hx122_1
          replace hx122_2 := (HB.out.cell (World.block_lt_of_cell? w _ hx122_2)).trans hx122_2
          have HR122_0 := Aside0.mk hi122_0
          have HC122_0 := Aside0.mk hl122_0
          clear hi122_0 hl122_0
          replace p122 := eq_true p122
          replace q122 := eq_true q122
          refine start_ (n := 8) (S := fun w' => w'.cell? ⟨gb120, 0, none⟩ = some (.int .i64 a0_0) ∧ w'.cell? ⟨gb120, 1, none⟩ = some (.slice A0_1 l0_1.length c0_1) ∧ w'.cell? (ad122.add ((x5_1).toNat * 3)) = some (.slice A122_0 ((rd_T41 l1 x5_1).f0).length c122_0) ∧ w'.cell? ⟨(ad122.add ((x5_1).toNat * 3)).block, (ad122.add ((x5_1).toNat * 3)).off + 1, none⟩ = some (.int .i64 ((rd_T41 l1 x5_1).f1)) ∧ w'.cell? ⟨(ad122.add ((x5_1).toNat * 3)).block, (ad122.add ((x5_1).toNat * 3)).off + 2, none⟩ = some (.int .i64 ((rd_T41 l1 x5_1).f2))) (ds := []) #[F,F,F,F,F,F,F,F] kr rfl rfl ⟨cz0 BK120, cz1 BK120, ((HB.out.cell (World.block_lt_of_cell? w _ hw122_0)).trans hw122_0), ((HB.out.cell (World.block_lt_of_cell? w _ hw122_1)).trans hw122_1), ((HB.out.cell (World.block_lt_of_cell? w _ hw122_2)).trans hw122_2)⟩ (fun hHeld => ?_); refine with_tabW spec_ProcessOk.tab12 spec_ProcessOk.bits12 (fun HT_ HW_ => ?_)
          generalize wr.drew = w23 at BK120 HB HR122_0 hx122_0 hx122_1 hx122_2 hHeld ⊢
          refine pu 1 (some 47) #[F,T,F,F,F,F,F,F] (any_of HT_.out kr) ?_
          refine pu 2 (some 48) #[F,T,T,F,F,F,F,F] (any_of HT_.out kr) ?_
          refine pu 3 (some 49) #[F,T,T,T,F,F,F,F] (any_of HT_.out kr) ?_
          refine pu 4 (some 50) #[F,T,T,T,T,F,F,F] (any_of HT_.out kr) ?_
          refine tk5 0 (some 46) #[T,T,T,T,T,F,F,F] (take_ofW HT_.out HW_.out kr) ?_
          refine tk5 5 (some 51) #[T,T,T,T,T,T,F,F] (take_ofW HT_.out HW_.out kr) ?_
          refine one_ (i := 6) (N := some 52) #[T,T,T,T,T,T,T,F] rfl rfl (one_of HT_.out kr) (by decide) (fun K hK => ?_)
          refine goes_ Try.func21 kr rfl #[.agg #[.int .i64 a0_0, .slice A0_1 l0_1.length c0_1], .slice A122_0 ((rd_T41 l1 x5_1).f0).length c122_0] (by rfl) rfl rfl lm ?_
          with_reducible refine (spec_TermOk.calls k2 a0_0 _ _ l0_1 _ _ ((rd_T41 l1 x5_1).f0) false _ ?side1 ?side2 ?side3 ?side4 A19.out).mono ?_
          (case side1 => repeat (first | exact (Kd.C_below HR0_1.out HB.out) | (with_reducible refine Kd.C_alloc ?_ _) | (with_reducible refine Kd.C_drewN ?_ _) | (with_reducible refine Kd.C_drew ?_)))
          (case side2 => exact HC0_1.out)
          (case side3 => repeat (first | exact (Kd.C_below HR122_0.out HB.out) | (with_reducible refine Kd.C_alloc ?_ _) | (with_reducible refine Kd.C_drewN ?_ _) | (with_reducible refine Kd.C_drew ?_)))
          (case side4 => exact HC122_0.out)
          rintro e w24 ⟨rfl, hb⟩
          refine ⟨_, rfl, ?_⟩
          have n0_ := Aside0.mk (blk_below (bz BK120) hb)
          have n1_ := Aside0.mk (below_step bh hb)
          clear BK120 HB
          have BK120 := n0_
          have HB := n1_
          clear n0_ n1_
          (try clear hb)
          (try clear hb2)
          (try clear hk)
          (try clear hi)
          refine hK.out _ _ ⟨cz0 BK120, cz1 BK120, ((HB.out.cell (World.block_lt_of_cell? w _ hw122_0)).trans hw122_0), ((HB.out.cell (World.block_lt_of_cell? w _ hw122_1)).trans hw122_1), ((HB.out.cell (World.block_lt_of_cell? w _ hw122_2)).trans hw122_2)⟩ (fun hHeld => ?_)
          clear hK K
          refine norm_ (a' := ?_) ?_ ?_
          rotate_left
          ·show Act.put _ (some 52) _ = _
           simp only [Act.put, List.setIfInBounds_toArray, List.set_cons_zero, List.set_cons_succ, i64_w, i32_w]
           rfl
          refine pu 7 (some 53) #[T,T,T,T,T,T,T,T] (any_of HT_.out kr) ?_
          refine done_ (done_of HT_.out kr) ?_
          try go_wp2
          go_ret
          exact ⟨by first | rfl | (simp [errW_none, errW_some] <;> rfl) | (simp [*, errW_none, errW_some] <;> rfl), by exact bh⟩
        ·rw [if_neg c18] at H
         exact absurd H (by simp)
       ·rw [if_neg c17] at H
        exact absurd H (by simp)
   ·rw [if_neg c4] at H
    have c4b0 : decide (x5_1 < (l1.length : Int)) = false := decide_eq_false c4
    clear c4
    replace H := Option.bind_eq_some_iff.mp H
    obtain ⟨t121, A250, H⟩ := H
    replace H : (some t121) = some r := H
    have A25 := Aside0.mk A250
    clear A250
    obtain rfl := Option.some.inj H
    go_wp2_with (first | ((with_reducible refine gate_callee (f := 54) rfl ?_); refine goesL_ (some 56) rfl rfl Try.func54 kr rfl #[.int .i64 (l1.length : Int), .int .i64 1, .int .i64 4] rfl lm ?_; (with_reducible refine (spec_l1In.calls (l1.length : Int) 1 4 t121 _ A25.out).mono ?_); rintro e w' ⟨rfl, ⟨nd, rfl⟩⟩; refine ⟨_, rfl, ?_⟩))
    go_ret
    exact ⟨by first | rfl | (simp [errW_none, errW_some] <;> rfl) | (simp [*, errW_none, errW_some] <;> rfl), by exact bh⟩

/-! ### impl_arePeople: function 85 -/
def impl_arePeople.f (a0 : Int) : Option (Bool) := if a0 ≥ 1 then (some (decide (a0 ≤ 6))) else (some false)
set_option maxHeartbeats 8000000 in
set_option maxRecDepth 100000 in
theorem impl_arePeople.calls (a0 : Int) (r : Bool) (w : World) (h : impl_arePeople.f a0 = some r) :
  Calls Try.prog 85 #[.int .i64 a0] w fun e w' => e = .returned (.bool r) ∧ Drawn0 w w' := by
 have H : (if a0 ≥ 1 then (some (decide (a0 ≤ 6))) else (some false)) = some r := h
 clear h
 by_cases c2 : a0 ≥ 1
 ·rw [if_pos c2] at H
  have c2b0 : decide (1 ≤ a0) = true := decide_eq_true c2
  clear c2
  obtain rfl := Option.some.inj H
  go_enter Try.func85, Try.ntmps85
  go_wp2
  go_ret
  exact ⟨by first | rfl | (simp; done) | (simp [*]; done), by repeat (first | exact Drawn0.refl _ | apply Drawn0.step)⟩
 ·rw [if_neg c2] at H
  have c2b0 : decide (1 ≤ a0) = false := decide_eq_false c2
  clear c2
  obtain rfl := Option.some.inj H
  go_enter Try.func85, Try.ntmps85
  go_wp2
  go_ret
  exact ⟨by first | rfl | (simp; done) | (simp [*]; done), by repeat (first | exact Drawn0.refl _ | apply Drawn0.step)⟩

/-! ### impl_isCrowd: function 63 -/
def impl_isCrowd.f (a0 : Int) (a1 : Int) : Option (Bool) := (impl_arePeople.f a0).bind fun t128 => (if t128 = true then (if a1 ≥ 0 then (if 0 ≤ a0 then (some (decide (a1 < (shl .i64 1 a0)))) else (none)) else (some false)) else (some false))
set_option maxHeartbeats 8000000 in
set_option maxRecDepth 100000 in
theorem impl_isCrowd.calls (a0 : Int) (a1 : Int) (r : Bool) (w : World) (h : impl_isCrowd.f a0 a1 = some r) :
  Calls Try.prog 63 #[.int .i64 a0, .int .i64 a1] w fun e w' => e = .returned (.bool r) ∧ Drawn0 w w' := by
 have H : ((impl_arePeople.f a0).bind fun t128 => (if t128 = true then (if a1 ≥ 0 then (if 0 ≤ a0 then (some (decide (a1 < (shl .i64 1 a0)))) else (none)) else (some false)) else (some false))) = some r := h
 clear h
 replace H := Option.bind_eq_some_iff.mp H
 obtain ⟨t128, A30, H⟩ := H
 replace H : (if t128 = true then (if a1 ≥ 0 then (if 0 ≤ a0 then (some (decide (a1 < (shl .i64 1 a0)))) else (none)) else (some false)) else (some false)) = some r := H
 have A3 := Aside0.mk A30
 clear A30
 by_cases c4 : t128 = true
 ·subst c4
  have H1 : (if a1 ≥ 0 then (if 0 ≤ a0 then (some (decide (a1 < (shl .i64 1 a0)))) else (none)) else (some false)) = some r := by rw [if_pos rfl] at H; exact H
  clear H
  have H := H1
  clear H1
  by_cases c5 : a1 ≥ 0
  ·rw [if_pos c5] at H
   have c5b0 : decide (0 ≤ a1) = true := decide_eq_true c5
   clear c5
   by_cases c6 : 0 ≤ a0
   ·rw [if_pos c6] at H
    have c6b0 := eq_true c6
    have c6b1 : decide (0 ≤ a0) = true := decide_eq_true c6
    clear c6
    obtain ⟨ji7, hji7⟩ : ∃ j_ : Int, (shl .i64 1 a0) = j_ := ⟨_, rfl⟩
    replace H : (some (decide (a1 < (ji7)))) = some r := by first | (rw [hji7] at H; exact H) | (simp only [hji7] at H ⊢; exact H)
    (try rw [hji7] at A3)
    have hji7_ : (IntKind.i64.wrap (1 * 2 ^ min a0.toNat 64)) = ji7 := hji7
    have hji7z : a0 ≤ 64 → (IntKind.i64.wrap (1 * 2 ^ a0.toNat)) = ji7 := shl_small hji7
    have hji7u : (IntKind.i64.wrap (2 ^ min a0.toNat 64)) = ji7 := by have h_ := hji7_; rw [Int.one_mul] at h_; exact h_
    have hji7v : a0 ≤ 64 → (IntKind.i64.wrap (2 ^ a0.toNat)) = ji7 := fun hle_ => by have h_ := hji7z hle_; rw [Int.one_mul] at h_; exact h_
    have hji7y : (wrap64 (1 * 2 ^ min a0.toNat 64)) = ji7 := (i64_w _).symm.trans hji7_
    have hji7x : a0 ≤ 64 → (wrap64 (1 * 2 ^ a0.toNat)) = ji7 := fun h_ => (i64_w _).symm.trans (hji7z h_)
    obtain rfl := Option.some.inj H
    go_enter Try.func63, Try.ntmps63
    go_wp2_with (first | ((with_reducible refine gate_callee (f := 85) rfl ?_); refine goesL_ (some 6) rfl rfl Try.func85 kr rfl #[.int .i64 a0] rfl lm ?_; (with_reducible refine (impl_arePeople.calls a0 true _ A3.out).mono ?_); rintro e w' ⟨rfl, ⟨nd, rfl⟩⟩; refine ⟨_, rfl, ?_⟩))
    go_ret
    exact ⟨by first | rfl | (simp; done) | (simp only [← hji7] <;> (first | rfl | simp)) | (simp [*]; done), by repeat (first | exact Drawn0.refl _ | apply Drawn0.step)⟩
   ·rw [if_neg c6] at H
    exact absurd H (by simp)
  ·rw [if_neg c5] at H
   have c5b0 : decide (0 ≤ a1) = false := decide_eq_false c5
   clear c5
   obtain rfl := Option.some.inj H
   go_enter Try.func63, Try.ntmps63
   go_wp2_with (first | ((with_reducible refine gate_callee (f := 85) rfl ?_); refine goesL_ (some 6) rfl rfl Try.func85 kr rfl #[.int .i64 a0] rfl lm ?_; (with_reducible refine (impl_arePeople.calls a0 true _ A3.out).mono ?_); rintro e w' ⟨rfl, ⟨nd, rfl⟩⟩; refine ⟨_, rfl, ?_⟩))
   go_ret
   exact ⟨by first | rfl | (simp; done) | (simp [*]; done), by repeat (first | exact Drawn0.refl _ | apply Drawn0.step)⟩
 ·replace c4 := Bool.eq_false_iff.mpr c4
  subst c4
  have H1 : (some false) = some r := by rw [if_neg (show ¬ (false = true) by decide)] at H; exact H
  clear H
  have H := H1
  clear H1
  obtain rfl := Option.some.inj H
  go_enter Try.func63, Try.ntmps63
  go_wp2_with (first | ((with_reducible refine gate_callee (f := 85) rfl ?_); refine goesL_ (some 6) rfl rfl Try.func85 kr rfl #[.int .i64 a0] rfl lm ?_; (with_reducible refine (impl_arePeople.calls a0 false _ A3.out).mono ?_); rintro e w' ⟨rfl, ⟨nd, rfl⟩⟩; refine ⟨_, rfl, ?_⟩))
  go_ret
  exact ⟨by first | rfl | (simp; done) | (simp [*]; done), by repeat (first | exact Drawn0.refl _ | apply Drawn0.step)⟩

/-! ### impl_CrowdOk: function 55 -/
def impl_CrowdOk.f (a0 : Int) (a1 : Int) : Option (Bool) := (impl_isCrowd.f a0 a1).bind fun t129 => (some t129)
set_option maxHeartbeats 8000000 in
set_option maxRecDepth 100000 in
theorem impl_CrowdOk.calls (a0 : Int) (a1 : Int) (r : Bool) (w : World) (h : impl_CrowdOk.f a0 a1 = some r) :
  Calls Try.prog 55 #[.int .i64 a0, .int .i64 a1] w fun e w' => e = .returned (.bool r) ∧ Drawn0 w w' := by
 have H : ((impl_isCrowd.f a0 a1).bind fun t129 => (some t129)) = some r := h
 clear h
 replace H := Option.bind_eq_some_iff.mp H
 obtain ⟨t129, A30, H⟩ := H
 replace H : (some t129) = some r := H
 have A3 := Aside0.mk A30
 clear A30
 obtain rfl := Option.some.inj H
 go_enter Try.func55, Try.ntmps55
 go_wp2_with (first | ((with_reducible refine gate_callee (f := 63) rfl ?_); refine goesL_ (some 7) rfl rfl Try.func63 kr rfl #[.int .i64 a0, .int .i64 a1] rfl lm ?_; (with_reducible refine (impl_isCrowd.calls a0 a1 t129 _ A3.out).mono ?_); rintro e w' ⟨rfl, ⟨nd, rfl⟩⟩; refine ⟨_, rfl, ?_⟩))
 go_ret
 exact ⟨by first | rfl | (simp; done) | (simp [*]; done), by repeat (first | exact Drawn0.refl _ | apply Drawn0.step)⟩

/-! ### laws_alive: function 18 -/
def laws_alive.f  : Option (Bool) := (impl_CrowdOk.f 2 3).bind fun t130 => (if t130 = true then ((impl_CrowdOk.f 2 4).bind fun t131 => (some (!t131))) else (some false))
set_option maxHeartbeats 8000000 in
set_option maxRecDepth 100000 in
theorem laws_alive.calls  (r : Bool) (w : World) (h : laws_alive.f  = some r) :
  Calls Try.prog 18 #[] w fun e w' => e = .returned (.bool r) ∧ Drawn0 w w' := by
 have H : ((impl_CrowdOk.f 2 3).bind fun t130 => (if t130 = true then ((impl_CrowdOk.f 2 4).bind fun t131 => (some (!t131))) else (some false))) = some r := h
 clear h
 replace H := Option.bind_eq_some_iff.mp H
 obtain ⟨t130, A10, H⟩ := H
 replace H : (if t130 = true then ((impl_CrowdOk.f 2 4).bind fun t131 => (some (!t131))) else (some false)) = some r := H
 have A1 := Aside0.mk A10
 clear A10
 by_cases c2 : t130 = true
 ·subst c2
  have H1 : ((impl_CrowdOk.f 2 4).bind fun t131 => (some (!t131))) = some r := by rw [if_pos rfl] at H; exact H
  clear H
  have H := H1
  clear H1
  replace H := Option.bind_eq_some_iff.mp H
  obtain ⟨t131, A30, H⟩ := H
  replace H : (some (!t131)) = some r := H
  have A3 := Aside0.mk A30
  clear A30
  obtain rfl := Option.some.inj H
  go_enter Try.func18, Try.ntmps18
  go_wp2_with (first | ((with_reducible refine gate_callee (f := 55) rfl ?_); refine goesL_ (some 1) rfl rfl Try.func55 kr rfl #[.int .i64 2, .int .i64 3] rfl lm ?_; (with_reducible refine (impl_CrowdOk.calls 2 3 true _ A1.out).mono ?_); rintro e w' ⟨rfl, ⟨nd, rfl⟩⟩; refine ⟨_, rfl, ?_⟩) | (go_at_call 55; (with_reducible refine (impl_CrowdOk.calls 2 4 t131 _ A3.out).mono ?_); rintro e w' ⟨rfl, ⟨nd, rfl⟩⟩))
  go_ret
  exact ⟨by first | rfl | (simp; done) | (simp [*]; done), by repeat (first | exact Drawn0.refl _ | apply Drawn0.step)⟩
 ·replace c2 := Bool.eq_false_iff.mpr c2
  subst c2
  have H1 : (some false) = some r := by rw [if_neg (show ¬ (false = true) by decide)] at H; exact H
  clear H
  have H := H1
  clear H1
  obtain rfl := Option.some.inj H
  go_enter Try.func18, Try.ntmps18
  go_wp2_with (first | ((with_reducible refine gate_callee (f := 55) rfl ?_); refine goesL_ (some 1) rfl rfl Try.func55 kr rfl #[.int .i64 2, .int .i64 3] rfl lm ?_; (with_reducible refine (impl_CrowdOk.calls 2 3 false _ A1.out).mono ?_); rintro e w' ⟨rfl, ⟨nd, rfl⟩⟩; refine ⟨_, rfl, ?_⟩))
  go_ret
  exact ⟨by first | rfl | (simp; done) | (simp [*]; done), by repeat (first | exact Drawn0.refl _ | apply Drawn0.step)⟩

end Go.Proofs.Ytnpjlpkbefdnlaa.QFnLawBy
