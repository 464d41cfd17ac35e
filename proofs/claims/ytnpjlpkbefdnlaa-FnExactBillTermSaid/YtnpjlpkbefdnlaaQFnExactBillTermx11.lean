-- Printed for this claim by a turned copy of the print (wip/myprint). Lean checks it. Squeezed. Worded. Tightened.
import Derived.Test.YtnpjlpkbefdnlaaQFnExactBillTermx0
import Derived.Test.YtnpjlpkbefdnlaaQFnExactBillTermx9
import Derived.Test.YtnpjlpkbefdnlaaQFnExactBillTermx10
namespace Go.Proofs.Ytnpjlpkbefdnlaa.QFnExactBillTerm
open Go.RowKit Go.Proofs.YtnpjlpkbefdnlaaW.PrintWords Go.Proofs.YtnpjlpkbefdnlaaW.PrintLast Go.Proofs.YtnpjlpkbefdnlaaW.PrintMore
attribute [local go_sem] max2_int min2_int max_two min_two max_three min_three max_four min_four Opens.cell_twice   -- for this text's walks alone
set_option linter.unusedVariables false
set_option linter.unusedSimpArgs false

/-! ### spec_ProcessOk: function 16 -/
mutual
def spec_ProcessOk.l0 : Nat → List (S41) → Int → Int → List Int → Option (Bool)
 | 0, _, _, _, _ => none
 | k + 1, x1, x5, x287000, x287001 => if x5 < (x1.length : Int) then (spec_ProcessOk.l1 k x1 x5 0 x287000 x287001) else ((spec_l1In.f (x1.length : Int) 1 4).bind fun t287 => (some t287))
def spec_ProcessOk.l1 : Nat → List (S41) → Int → Int → Int → List Int → Option (Bool)
 | 0, _, _, _, _, _ => none
 | k + 1, x1, x5, x6, x287000, x287001 => if x6 < 2 then (if 0 ≤ x5 then (if x5 < (x1.length : Int) then (if x6 = 1 then (if ((rd_T41 x1 x5).f2) = 10 then (spec_ProcessOk.l1 k x1 x5 (wrap64 (x6 + 1)) x287000 x287001) else (if ((rd_T41 x1 x5).f2) = 11 then (spec_ProcessOk.l1 k x1 x5 (wrap64 (x6 + 1)) x287000 x287001) else ((spec_l1In.f ((rd_T41 x1 x5).f2) (wrap64 (x5 + 1)) (wrap64 ((x1.length : Int) - 1))).bind fun t292 => (if t292 = true then (spec_ProcessOk.l1 k x1 x5 (wrap64 (x6 + 1)) x287000 x287001) else (some false))))) else (if ((rd_T41 x1 x5).f1) = 10 then (spec_ProcessOk.l1 k x1 x5 (wrap64 (x6 + 1)) x287000 x287001) else (if ((rd_T41 x1 x5).f1) = 11 then (spec_ProcessOk.l1 k x1 x5 (wrap64 (x6 + 1)) x287000 x287001) else ((spec_l1In.f ((rd_T41 x1 x5).f1) (wrap64 (x5 + 1)) (wrap64 ((x1.length : Int) - 1))).bind fun t293 => (if t293 = true then (spec_ProcessOk.l1 k x1 x5 (wrap64 (x6 + 1)) x287000 x287001) else (some false)))))) else (none)) else (none)) else (if 0 ≤ x5 then (if x5 < (x1.length : Int) then ((spec_TermOk.f k x287000 x287001 ((rd_T41 x1 x5).f0)).bind fun t289 => (if t289 = true then (spec_ProcessOk.l0 k x1 (wrap64 (x5 + 1)) x287000 x287001) else (some false))) else (none)) else (none))
end
def spec_ProcessOk.f (k : Nat) (a0_0 : Int) (l0_1 : List Int) (l1 : List (S41)) : Option (Bool) := spec_ProcessOk.l0 k l1 0 a0_0 l0_1
theorem spec_ProcessOk.mono_l : ∀ k, (∀ y0 y1 y2 y3, LeO (spec_ProcessOk.l0 k y0 y1 y2 y3) (spec_ProcessOk.l0 (k + 1) y0 y1 y2 y3)) ∧ (∀ y0 y1 y2 y3 y4, LeO (spec_ProcessOk.l1 k y0 y1 y2 y3 y4) (spec_ProcessOk.l1 (k + 1) y0 y1 y2 y3 y4))
 | 0 => ⟨fun _ _ _ _ r h => by simp [spec_ProcessOk.l0] at h, fun _ _ _ _ _ r h => by simp [spec_ProcessOk.l1] at h⟩
 | k + 1 => by
  obtain ⟨ih0, ih1⟩ := spec_ProcessOk.mono_l k
  refine ⟨?_, ?_⟩
  ·intro y0 y1 y2 y3
   unfold spec_ProcessOk.l0
   repeat' first
   | (with_reducible exact ih0 _ _ _ _)
   | (with_reducible exact ih1 _ _ _ _ _)
   | (with_reducible exact spec_TermOk.mono _ _ _ _)
   | (with_reducible exact LeO.refl _)
   | (with_reducible exact LeO.none _)
   | (with_reducible refine LeO.ite ?_ ?_)
   | (with_reducible refine LeO.bind ?_ (fun _ => ?_))
   | exact ih0 _ _ _ _
   | exact ih1 _ _ _ _ _
   | exact spec_TermOk.mono _ _ _ _
   | exact LeO.none _
   | refine LeO.ite ?_ ?_
   | refine LeO.bind ?_ (fun _ => ?_)
  ·intro y0 y1 y2 y3 y4
   unfold spec_ProcessOk.l1
   repeat' first
   | (with_reducible exact ih0 _ _ _ _)
   | (with_reducible exact ih1 _ _ _ _ _)
   | (with_reducible exact spec_TermOk.mono _ _ _ _)
   | (with_reducible exact LeO.refl _)
   | (with_reducible exact LeO.none _)
   | (with_reducible refine LeO.ite ?_ ?_)
   | (with_reducible refine LeO.bind ?_ (fun _ => ?_))
   | exact ih0 _ _ _ _
   | exact ih1 _ _ _ _ _
   | exact spec_TermOk.mono _ _ _ _
   | exact LeO.none _
   | refine LeO.ite ?_ ?_
   | refine LeO.bind ?_ (fun _ => ?_)
theorem spec_ProcessOk.mono : ∀ a0 a1 a2 k, LeO (spec_ProcessOk.f k a0 a1 a2) (spec_ProcessOk.f (k + 1) a0 a1 a2) := by
 intro a0 a1 a2 k
 obtain ⟨ih0, ih1⟩ := spec_ProcessOk.mono_l k
 unfold spec_ProcessOk.f
 repeat' first
   | (with_reducible exact ih0 _ _ _ _)
   | (with_reducible exact ih1 _ _ _ _ _)
   | (with_reducible exact spec_TermOk.mono _ _ _ _)
   | (with_reducible exact LeO.refl _)
   | (with_reducible exact LeO.none _)
   | (with_reducible refine LeO.ite ?_ ?_)
   | (with_reducible refine LeO.bind ?_ (fun _ => ?_))
   | exact ih0 _ _ _ _
   | exact ih1 _ _ _ _ _
   | exact spec_TermOk.mono _ _ _ _
   | exact LeO.none _
   | refine LeO.ite ?_ ?_
   | refine LeO.bind ?_ (fun _ => ?_)
def spec_ProcessOk.T12 : Bool × List (List Nat × List Nat) := (true, [([], []), ([], []), ([], []), ([1, 2], [1, 2]), ([3], [3]), ([4], [4]), ([0, 5], [0, 5]), ([6], [6])])
def spec_ProcessOk.B12 : List Nat := [0, 0, 0, 6, 14, 30, 63, 127]
theorem spec_ProcessOk.tab12 : rtab .any (opsOf Try.f16 12) = spec_ProcessOk.T12 := by kernel_rfl
theorem spec_ProcessOk.bits12 : waitsOk spec_ProcessOk.T12.2 spec_ProcessOk.B12 = true := by kernel_rfl
set_option maxHeartbeats 8000000 in
set_option maxRecDepth 100000 in
theorem spec_ProcessOk.calls (k : Nat) (a0_0 : Int) (A0_1 : Option Addr) (c0_1 : Nat) (l0_1 : List Int) (A1 : Option Addr) (c1 : Nat) (l1 : List (S41)) (r : Bool) (w : World) (hr0_1 : Kd.C (Kd.int .i64) w A0_1 l0_1.length l0_1) (hc0_1 : l0_1.length ≤ c0_1) (hr1 : Kd.C k41 w A1 l1.length l1) (hc1 : l1.length ≤ c1) (h : spec_ProcessOk.f k a0_0 l0_1 l1 = some r) :
  Calls Try.prog 16 #[.agg #[.int .i64 a0_0, .slice A0_1 l0_1.length c0_1], .slice A1 l1.length c1] w fun e w' => e = .returned (.bool r) ∧ Below w.heap.size w w' := by
 have hu25 := Try.underlying25
 have HR0_1 := Aside0.mk hr0_1
 have HC0_1 := Aside0.mk hc0_1
 clear hr0_1 hc0_1
 have HR1 := Aside0.mk hr1
 have HC1 := Aside0.mk hc1
 clear hr1 hc1
 have HB := Aside0.mk (Below.refl w.heap.size w)
 have H : (spec_ProcessOk.l0 k l1 0 a0_0 l0_1) = some r := h
 clear h
 have H' := Aside0.mk H
 clear H
 go_enter Try.func16, Try.ntmps16
 go_wp2_with (first | ((with_reducible refine gate_dst (N := 2) rfl ?_); (try (refine gate_guard (by rfl) ?_; dsimp only)); refine box_event ?hg (N := 2) ?hd (cs := #[.int .i64 a0_0, .slice A0_1 l0_1.length c0_1]) (t := 25) ?hr ?_; (case hd => rfl); (case hg => rfl); (case hr => first | (go_simp; done) | (go_simp; rfl)); intro gb286 hg w3 hbox hb; have n0_ := Aside0.mk (below_step bh hb); have n1_ := Aside0.mk (hbox); have n2_ := Aside0.mk ((gs (W0 := w) hg bh)); have n3_ := Aside0.mk ((gs (W0 := w) hg bh)); clear HB; have HB := n0_; have BK286 := n1_; have GW286 := n2_; have GE286 := n3_; clear n0_ n1_ n2_ n3_ hb hbox hg))
 go_loopg [5] k (fun kq v5 w' => ∃ (x5_1 : Int), v5 = .int .i64 x5_1 ∧ Aside0 (spec_ProcessOk.l0 kq l1 x5_1 a0_0 l0_1 = some r) ∧ Aside0 (kq ≤ k) ∧ Aside0 (w'.heap[gb286]? = some (.cells #[.int .i64 a0_0, (.slice A0_1 l0_1.length c0_1)] 25 (0, 0))) ∧ Aside0 (Below w.heap.size w w'))
 case atStart => exact ⟨(0), (by first | rfl | (simp; done) | (simp [*]; done)), H', ⟨Nat.le_refl _⟩, ⟨bz BK286⟩, ⟨by exact bh⟩⟩
 case round =>
  clear H'
  try clear c1
  try clear p2
  obtain ⟨x5_1, rfl, HA, HK1, BK286, HB⟩ := hrel
  cases gk with
  | zero => exact absurd HA.out (by simp [spec_ProcessOk.l0])
  | succ k1 =>
   have H := HA.out
   clear HA
   simp only [spec_ProcessOk.l0] at H
   by_cases c4 : x5_1 < (l1.length : Int)
   ·rw [if_pos c4] at H
    have c4b0 : decide (x5_1 < (l1.length : Int)) = true := decide_eq_true c4
    clear c4
    have H' := Aside0.mk H
    clear H
    go_wp2
    go_loopg [6] k1 (fun kq v6 w' => ∃ (x6_2 : Int), v6 = .int .i64 x6_2 ∧ Aside0 (spec_ProcessOk.l1 kq l1 x5_1 x6_2 a0_0 l0_1 = some r) ∧ Aside0 (kq ≤ k1) ∧ Aside0 (w'.heap[gb286]? = some (.cells #[.int .i64 a0_0, (.slice A0_1 l0_1.length c0_1)] 25 (0, 0))) ∧ Aside0 (Below w.heap.size w w'))
    case atStart => exact ⟨(0), (by first | rfl | (simp; done) | (simp [*]; done)), H', ⟨Nat.le_refl _⟩, ⟨bz BK286⟩, ⟨by exact bh⟩⟩
    case round =>
     clear H'
     try clear c1
     try clear p2
     try clear c4
     try clear c4b0
     try clear p2
     obtain ⟨x6_2, rfl, HA, HK2, BK286, HB⟩ := hrel
     cases gk with
     | zero => exact absurd HA.out (by simp [spec_ProcessOk.l1])
     | succ k2 =>
      have H := HA.out
      clear HA
      simp only [spec_ProcessOk.l1] at H
      by_cases c5 : x6_2 < 2
      ·rw [if_pos c5] at H
       have c5b0 : decide (x6_2 < 2) = true := decide_eq_true c5
       clear c5
       by_cases c6 : 0 ≤ x5_1
       ·rw [if_pos c6] at H
        have c6b0 : decide (0 ≤ x5_1) = true := decide_eq_true c6
        clear c6
        by_cases c7 : x5_1 < (l1.length : Int)
        ·rw [if_pos c7] at H
         have c7b0 : decide (x5_1 < (l1.length : Int)) = true := decide_eq_true c7
         clear c7
         by_cases c8 : x6_2 = 1
         ·rw [if_pos c8] at H
          have c8b0 : (x6_2 == 1) = true := beq_iff_eq.mpr c8
          have c8b1 : (x6_2 != 1) = false := bne_eq_false_iff_eq.mpr c8
          clear c8
          by_cases c9 : ((rd_T41 l1 x5_1).f2) = 10
          ·rw [if_pos c9] at H
           have c9b0 : (((rd_T41 l1 x5_1).f2) == 10) = true := beq_iff_eq.mpr c9
           have c9b1 : (((rd_T41 l1 x5_1).f2) != 10) = false := bne_eq_false_iff_eq.mpr c9
           clear c9
           have H' := Aside0.mk H
           clear H
           have p290 : 0 ≤ (x5_1 : Int) := oda
           have q290 : x5_1 < (l1.length : Int) := oda
           obtain ⟨ad290, A290_0, c290_0, e290, hx290_0, hx290_1, hx290_2, hl290_0, hi290_0⟩ := at_T41 HR1.out x5_1 p290 q290
           cases e290
           replace hx290_0 := (HB.out.cell (World.block_lt_of_cell? w _ hx290_0)).trans hx290_0
           replace hx290_1 := (HB.out.cell (World.block_lt_of_cell? w _ hx290_1)).trans hx290_1
           replace hx290_2 := (HB.out.cell (World.block_lt_of_cell? w _ hx290_2)).trans hx290_2
           have HR290_0 := Aside0.mk hi290_0
           have HC290_0 := Aside0.mk hl290_0
           clear hi290_0 hl290_0
           replace p290 := eq_true p290
           replace q290 := eq_true q290
           have p291 : 0 ≤ (x5_1 : Int) := oda
           have q291 : x5_1 < (l1.length : Int) := oda
           obtain ⟨ad291, A291_0, c291_0, e291, hx291_0, hx291_1, hx291_2, hl291_0, hi291_0⟩ := at_T41 HR1.out x5_1 p291 q291
           obtain rfl : ad290 = ad291 := (by injection e291)
           replace hx291_0 := (HB.out.cell (World.block_lt_of_cell? w _ hx291_0)).trans hx291_0
           replace hx291_1 := (HB.out.cell (World.block_lt_of_cell? w _ hx291_1)).trans hx291_1
           replace hx291_2 := (HB.out.cell (World.block_lt_of_cell? w _ hx291_2)).trans hx291_2
           have HR291_0 := Aside0.mk hi291_0
           have HC291_0 := Aside0.mk hl291_0
           clear hi291_0 hl291_0
           replace p291 := eq_true p291
           replace q291 := eq_true q291
           have ea_ := Option.some.inj (hx290_0.symm.trans hx291_0)
           injection ea_ with ea_ en_ ec_
           subst ea_
           subst ec_
           clear en_
           go_wp2
           go_roundg k2
           case measure => have := HK1.out; have := HK2.out; omega
           case rel => exact ⟨(wrap64 (x6_2 + 1)), (by first | rfl | (simp; done) | (simp [*]; done)), H', ⟨by have := HK1.out; have := HK2.out; omega⟩, ⟨bz BK286⟩, ⟨by exact bh⟩⟩
          ·rw [if_neg c9] at H
           have c9b0 : (((rd_T41 l1 x5_1).f2) == 10) = false := beq_eq_false_iff_ne.mpr c9
           have c9b1 : (((rd_T41 l1 x5_1).f2) != 10) = true := bne_iff_ne.mpr c9
           by_cases c10 : ((rd_T41 l1 x5_1).f2) = 11
           ·rw [if_pos c10] at H
            have c10b0 : (((rd_T41 l1 x5_1).f2) == 11) = true := beq_iff_eq.mpr c10
            have c10b1 : (((rd_T41 l1 x5_1).f2) != 11) = false := bne_eq_false_iff_eq.mpr c10
            clear c10
            have H' := Aside0.mk H
            clear H
            have p290 : 0 ≤ (x5_1 : Int) := oda
            have q290 : x5_1 < (l1.length : Int) := oda
            obtain ⟨ad290, A290_0, c290_0, e290, hx290_0, hx290_1, hx290_2, hl290_0, hi290_0⟩ := at_T41 HR1.out x5_1 p290 q290
            cases e290
            replace hx290_0 := (HB.out.cell (World.block_lt_of_cell? w _ hx290_0)).trans hx290_0
            replace hx290_1 := (HB.out.cell (World.block_lt_of_cell? w _ hx290_1)).trans hx290_1
            replace hx290_2 := (HB.out.cell (World.block_lt_of_cell? w _ hx290_2)).trans hx290_2
            have HR290_0 := Aside0.mk hi290_0
            have HC290_0 := Aside0.mk hl290_0
            clear hi290_0 hl290_0
            replace p290 := eq_true p290
            replace q290 := eq_true q290
            have p291 : 0 ≤ (x5_1 : Int) := oda
            have q291 : x5_1 < (l1.length : Int) := oda
            obtain ⟨ad291, A291_0, c291_0, e291, hx291_0, hx291_1, hx291_2, hl291_0, hi291_0⟩ := at_T41 HR1.out x5_1 p291 q291
            obtain rfl : ad290 = ad291 := (by injection e291)
            replace hx291_0 := (HB.out.cell (World.block_lt_of_cell? w _ hx291_0)).trans hx291_0
            replace hx291_1 := (HB.out.cell (World.block_lt_of_cell? w _ hx291_1)).trans hx291_1
            replace hx291_2 := (HB.out.cell (World.block_lt_of_cell? w _ hx291_2)).trans hx291_2
            have HR291_0 := Aside0.mk hi291_0
            have HC291_0 := Aside0.mk hl291_0
            clear hi291_0 hl291_0
            replace p291 := eq_true p291
            replace q291 := eq_true q291
            have ea_ := Option.some.inj (hx290_0.symm.trans hx291_0)
            injection ea_ with ea_ en_ ec_
            subst ea_
            subst ec_
            clear en_
            go_wp2
            go_roundg k2
            case measure => have := HK1.out; have := HK2.out; omega
            case rel => exact ⟨(wrap64 (x6_2 + 1)), (by first | rfl | (simp; done) | (simp [*]; done)), H', ⟨by have := HK1.out; have := HK2.out; omega⟩, ⟨bz BK286⟩, ⟨by exact bh⟩⟩
           ·rw [if_neg c10] at H
            have c10b0 : (((rd_T41 l1 x5_1).f2) == 11) = false := beq_eq_false_iff_ne.mpr c10
            have c10b1 : (((rd_T41 l1 x5_1).f2) != 11) = true := bne_iff_ne.mpr c10
            replace H := Option.bind_eq_some_iff.mp H
            obtain ⟨t292, A110, H⟩ := H
            replace H : (if t292 = true then (spec_ProcessOk.l1 k2 l1 x5_1 (wrap64 (x6_2 + 1)) a0_0 l0_1) else (some false)) = some r := H
            have A11 := Aside0.mk A110
            clear A110
            by_cases c12 : t292 = true
            ·subst c12
             have H1 : (spec_ProcessOk.l1 k2 l1 x5_1 (wrap64 (x6_2 + 1)) a0_0 l0_1) = some r := by rw [if_pos rfl] at H; exact H
             clear H
             have H := H1
             clear H1
             have H' := Aside0.mk H
             clear H
             have p290 : 0 ≤ (x5_1 : Int) := oda
             have q290 : x5_1 < (l1.length : Int) := oda
             obtain ⟨ad290, A290_0, c290_0, e290, hx290_0, hx290_1, hx290_2, hl290_0, hi290_0⟩ := at_T41 HR1.out x5_1 p290 q290
             cases e290
             replace hx290_0 := (HB.out.cell (World.block_lt_of_cell? w _ hx290_0)).trans hx290_0
             replace hx290_1 := (HB.out.cell (World.block_lt_of_cell? w _ hx290_1)).trans hx290_1
             replace hx290_2 := (HB.out.cell (World.block_lt_of_cell? w _ hx290_2)).trans hx290_2
             have HR290_0 := Aside0.mk hi290_0
             have HC290_0 := Aside0.mk hl290_0
             clear hi290_0 hl290_0
             replace p290 := eq_true p290
             replace q290 := eq_true q290
             have p291 : 0 ≤ (x5_1 : Int) := oda
             have q291 : x5_1 < (l1.length : Int) := oda
             obtain ⟨ad291, A291_0, c291_0, e291, hx291_0, hx291_1, hx291_2, hl291_0, hi291_0⟩ := at_T41 HR1.out x5_1 p291 q291
             obtain rfl : ad290 = ad291 := (by injection e291)
             replace hx291_0 := (HB.out.cell (World.block_lt_of_cell? w _ hx291_0)).trans hx291_0
             replace hx291_1 := (HB.out.cell (World.block_lt_of_cell? w _ hx291_1)).trans hx291_1
             replace hx291_2 := (HB.out.cell (World.block_lt_of_cell? w _ hx291_2)).trans hx291_2
             have HR291_0 := Aside0.mk hi291_0
             have HC291_0 := Aside0.mk hl291_0
             clear hi291_0 hl291_0
             replace p291 := eq_true p291
             replace q291 := eq_true q291
             have ea_ := Option.some.inj (hx290_0.symm.trans hx291_0)
             injection ea_ with ea_ en_ ec_
             subst ea_
             subst ec_
             clear en_
             go_wp2_with (first | (go_at_call 54; (with_reducible refine (spec_l1In.calls ((rd_T41 l1 x5_1).f2) (wrap64 (x5_1 + 1)) (wrap64 ((l1.length : Int) - 1)) true _ A11.out).mono ?_); rintro e w' ⟨rfl, ⟨nd, rfl⟩⟩))
             go_roundg k2
             case measure => have := HK1.out; have := HK2.out; omega
             case rel => exact ⟨(wrap64 (x6_2 + 1)), (by first | rfl | (simp; done) | (simp [*]; done)), H', ⟨by have := HK1.out; have := HK2.out; omega⟩, ⟨bz BK286⟩, ⟨by exact bh⟩⟩
            ·replace c12 := Bool.eq_false_iff.mpr c12
             subst c12
             have H1 : (some false) = some r := by rw [if_neg (show ¬ (false = true) by decide)] at H; exact H
             clear H
             have H := H1
             clear H1
             obtain rfl := Option.some.inj H
             have p290 : 0 ≤ (x5_1 : Int) := oda
             have q290 : x5_1 < (l1.length : Int) := oda
             obtain ⟨ad290, A290_0, c290_0, e290, hx290_0, hx290_1, hx290_2, hl290_0, hi290_0⟩ := at_T41 HR1.out x5_1 p290 q290
             cases e290
             replace hx290_0 := (HB.out.cell (World.block_lt_of_cell? w _ hx290_0)).trans hx290_0
             replace hx290_1 := (HB.out.cell (World.block_lt_of_cell? w _ hx290_1)).trans hx290_1
             replace hx290_2 := (HB.out.cell (World.block_lt_of_cell? w _ hx290_2)).trans hx290_2
             have HR290_0 := Aside0.mk hi290_0
             have HC290_0 := Aside0.mk hl290_0
             clear hi290_0 hl290_0
             replace p290 := eq_true p290
             replace q290 := eq_true q290
             have p291 : 0 ≤ (x5_1 : Int) := oda
             have q291 : x5_1 < (l1.length : Int) := oda
             obtain ⟨ad291, A291_0, c291_0, e291, hx291_0, hx291_1, hx291_2, hl291_0, hi291_0⟩ := at_T41 HR1.out x5_1 p291 q291
             obtain rfl : ad290 = ad291 := (by injection e291)
             replace hx291_0 := (HB.out.cell (World.block_lt_of_cell? w _ hx291_0)).trans hx291_0
             replace hx291_1 := (HB.out.cell (World.block_lt_of_cell? w _ hx291_1)).trans hx291_1
             replace hx291_2 := (HB.out.cell (World.block_lt_of_cell? w _ hx291_2)).trans hx291_2
             have HR291_0 := Aside0.mk hi291_0
             have HC291_0 := Aside0.mk hl291_0
             clear hi291_0 hl291_0
             replace p291 := eq_true p291
             replace q291 := eq_true q291
             have ea_ := Option.some.inj (hx290_0.symm.trans hx291_0)
             injection ea_ with ea_ en_ ec_
             subst ea_
             subst ec_
             clear en_
             go_wp2_with (first | (go_at_call 54; (with_reducible refine (spec_l1In.calls ((rd_T41 l1 x5_1).f2) (wrap64 (x5_1 + 1)) (wrap64 ((l1.length : Int) - 1)) false _ A11.out).mono ?_); rintro e w' ⟨rfl, ⟨nd, rfl⟩⟩))
             go_ret
             exact ⟨by first | rfl | (simp [errW_none, errW_some] <;> rfl) | (simp [*, errW_none, errW_some] <;> rfl), by exact bh⟩
         ·rw [if_neg c8] at H
          have c8b0 : (x6_2 == 1) = false := beq_eq_false_iff_ne.mpr c8
          have c8b1 : (x6_2 != 1) = true := bne_iff_ne.mpr c8
          by_cases c13 : ((rd_T41 l1 x5_1).f1) = 10
          ·rw [if_pos c13] at H
           have c13b0 : (((rd_T41 l1 x5_1).f1) == 10) = true := beq_iff_eq.mpr c13
           have c13b1 : (((rd_T41 l1 x5_1).f1) != 10) = false := bne_eq_false_iff_eq.mpr c13
           clear c13
           have H' := Aside0.mk H
           clear H
           have p290 : 0 ≤ (x5_1 : Int) := oda
           have q290 : x5_1 < (l1.length : Int) := oda
           obtain ⟨ad290, A290_0, c290_0, e290, hx290_0, hx290_1, hx290_2, hl290_0, hi290_0⟩ := at_T41 HR1.out x5_1 p290 q290
           cases e290
           replace hx290_0 := (HB.out.cell (World.block_lt_of_cell? w _ hx290_0)).trans hx290_0
           replace hx290_1 := (HB.out.cell (World.block_lt_of_cell? w _ hx290_1)).trans hx290_1
           replace hx290_2 := (HB.out.cell (World.block_lt_of_cell? w _ hx290_2)).trans hx290_2
           have HR290_0 := Aside0.mk hi290_0
           have HC290_0 := Aside0.mk hl290_0
           clear hi290_0 hl290_0
           replace p290 := eq_true p290
           replace q290 := eq_true q290
           go_wp2
           go_roundg k2
           case measure => have := HK1.out; have := HK2.out; omega
           case rel => exact ⟨(wrap64 (x6_2 + 1)), (by first | rfl | (simp; done) | (simp [*]; done)), H', ⟨by have := HK1.out; have := HK2.out; omega⟩, ⟨bz BK286⟩, ⟨by exact bh⟩⟩
          ·rw [if_neg c13] at H
           have c13b0 : (((rd_T41 l1 x5_1).f1) == 10) = false := beq_eq_false_iff_ne.mpr c13
           have c13b1 : (((rd_T41 l1 x5_1).f1) != 10) = true := bne_iff_ne.mpr c13
           by_cases c14 : ((rd_T41 l1 x5_1).f1) = 11
           ·rw [if_pos c14] at H
            have c14b0 : (((rd_T41 l1 x5_1).f1) == 11) = true := beq_iff_eq.mpr c14
            have c14b1 : (((rd_T41 l1 x5_1).f1) != 11) = false := bne_eq_false_iff_eq.mpr c14
            clear c14
            have H' := Aside0.mk H
            clear H
            have p290 : 0 ≤ (x5_1 : Int) := oda
            have q290 : x5_1 < (l1.length : Int) := oda
            obtain ⟨ad290, A290_0, c290_0, e290, hx290_0, hx290_1, hx290_2, hl290_0, hi290_0⟩ := at_T41 HR1.out x5_1 p290 q290
            cases e290
            replace hx290_0 := (HB.out.cell (World.block_lt_of_cell? w _ hx290_0)).trans hx290_0
            replace hx290_1 := (HB.out.cell (World.block_lt_of_cell? w _ hx290_1)).trans hx290_1
            replace hx290_2 := (HB.out.cell (World.block_lt_of_cell? w _ hx290_2)).trans hx290_2
            have HR290_0 := Aside0.mk hi290_0
            have HC290_0 := Aside0.mk hl290_0
            clear hi290_0 hl290_0
            replace p290 := eq_true p290
            replace q290 := eq_true q290
            go_wp2
            go_roundg k2
            case measure => have := HK1.out; have := HK2.out; omega
            case rel => exact ⟨(wrap64 (x6_2 + 1)), (by first | rfl | (simp; done) | (simp [*]; done)), H', ⟨by have := HK1.out; have := HK2.out; omega⟩, ⟨bz BK286⟩, ⟨by exact bh⟩⟩
           ·rw [if_neg c14] at H
            have c14b0 : (((rd_T41 l1 x5_1).f1) == 11) = false := beq_eq_false_iff_ne.mpr c14
            have c14b1 : (((rd_T41 l1 x5_1).f1) != 11) = true := bne_iff_ne.mpr c14
            replace H := Option.bind_eq_some_iff.mp H
            obtain ⟨t293, A150, H⟩ := H
            replace H : (if t293 = true then (spec_ProcessOk.l1 k2 l1 x5_1 (wrap64 (x6_2 + 1)) a0_0 l0_1) else (some false)) = some r := H
            have A15 := Aside0.mk A150
            clear A150
            by_cases c16 : t293 = true
            ·subst c16
             have H1 : (spec_ProcessOk.l1 k2 l1 x5_1 (wrap64 (x6_2 + 1)) a0_0 l0_1) = some r := by rw [if_pos rfl] at H; exact H
             clear H
             have H := H1
             clear H1
             have H' := Aside0.mk H
             clear H
             have p290 : 0 ≤ (x5_1 : Int) := oda
             have q290 : x5_1 < (l1.length : Int) := oda
             obtain ⟨ad290, A290_0, c290_0, e290, hx290_0, hx290_1, hx290_2, hl290_0, hi290_0⟩ := at_T41 HR1.out x5_1 p290 q290
             cases e290
             replace hx290_0 := (HB.out.cell (World.block_lt_of_cell? w _ hx290_0)).trans hx290_0
             replace hx290_1 := (HB.out.cell (World.block_lt_of_cell? w _ hx290_1)).trans hx290_1
             replace hx290_2 := (HB.out.cell (World.block_lt_of_cell? w _ hx290_2)).trans hx290_2
             have HR290_0 := Aside0.mk hi290_0
             have HC290_0 := Aside0.mk hl290_0
             clear hi290_0 hl290_0
             replace p290 := eq_true p290
             replace q290 := eq_true q290
             go_wp2_with (first | (go_at_call 54; (with_reducible refine (spec_l1In.calls ((rd_T41 l1 x5_1).f1) (wrap64 (x5_1 + 1)) (wrap64 ((l1.length : Int) - 1)) true _ A15.out).mono ?_); rintro e w' ⟨rfl, ⟨nd, rfl⟩⟩))
             go_roundg k2
             case measure => have := HK1.out; have := HK2.out; omega
             case rel => exact ⟨(wrap64 (x6_2 + 1)), (by first | rfl | (simp; done) | (simp [*]; done)), H', ⟨by have := HK1.out; have := HK2.out; omega⟩, ⟨bz BK286⟩, ⟨by exact bh⟩⟩
            ·replace c16 := Bool.eq_false_iff.mpr c16
             subst c16
             have H1 : (some false) = some r := by rw [if_neg (show ¬ (false = true) by decide)] at H; exact H
             clear H
             have H := H1
             clear H1
             obtain rfl := Option.some.inj H
             have p290 : 0 ≤ (x5_1 : Int) := oda
             have q290 : x5_1 < (l1.length : Int) := oda
             obtain ⟨ad290, A290_0, c290_0, e290, hx290_0, hx290_1, hx290_2, hl290_0, hi290_0⟩ := at_T41 HR1.out x5_1 p290 q290
             cases e290
             replace hx290_0 := (HB.out.cell (World.block_lt_of_cell? w _ hx290_0)).trans hx290_0
             replace hx290_1 := (HB.out.cell (World.block_lt_of_cell? w _ hx290_1)).trans hx290_1
             replace hx290_2 := (HB.out.cell (World.block_lt_of_cell? w _ hx290_2)).trans hx290_2
             have HR290_0 := Aside0.mk hi290_0
             have HC290_0 := Aside0.mk hl290_0
             clear hi290_0 hl290_0
             replace p290 := eq_true p290
             replace q290 := eq_true q290
             go_wp2_with (first | (go_at_call 54; (with_reducible refine (spec_l1In.calls ((rd_T41 l1 x5_1).f1) (wrap64 (x5_1 + 1)) (wrap64 ((l1.length : Int) - 1)) false _ A15.out).mono ?_); rintro e w' ⟨rfl, ⟨nd, rfl⟩⟩))
             go_ret
             exact ⟨by first | rfl | (simp [errW_none, errW_some] <;> rfl) | (simp [*, errW_none, errW_some] <;> rfl), by exact bh⟩
        ·rw [if_neg c7] at H
         exact absurd H (by simp)
       ·rw [if_neg c6] at H
        exact absurd H (by simp)
      ·rw [if_neg c5] at H
       have c5b0 : decide (x6_2 < 2) = false := decide_eq_false c5
       clear c5
       by_cases c17 : 0 ≤ x5_1
       ·rw [if_pos c17] at H
        have c17b0 : decide (0 ≤ x5_1) = true := decide_eq_true c17
        clear c17
        by_cases c18 : x5_1 < (l1.length : Int)
        ·rw [if_pos c18] at H
         have c18b0 : decide (x5_1 < (l1.length : Int)) = true := decide_eq_true c18
         clear c18
         replace H := Option.bind_eq_some_iff.mp H
         obtain ⟨t289, A190, H⟩ := H
         replace H : (if t289 = true then (spec_ProcessOk.l0 k2 l1 (wrap64 (x5_1 + 1)) a0_0 l0_1) else (some false)) = some r := H
         have A19 := Aside0.mk A190
         clear A190
         by_cases c20 : t289 = true
         ·subst c20
          have H1 : (spec_ProcessOk.l0 k2 l1 (wrap64 (x5_1 + 1)) a0_0 l0_1) = some r := by rw [if_pos rfl] at H; exact H
          clear H
          have H := H1
          clear H1
          have H' := Aside0.mk H
          clear H
          try go_wp2
          have n0_ := Aside0.mk (blk_drew BK286.out)
          have n1_ := Aside0.mk (below_drew1 HB.out)
          clear BK286 HB
          have BK286 := n0_
          have HB := n1_
          clear n0_ n1_
          have p288 : 0 ≤ (x5_1 : Int) := oda
          have q288 : x5_1 < (l1.length : Int) := oda
          obtain ⟨ad288, A288_0, c288_0, e288, hx288_0, hx288_1, hx288_2, hl288_0, hi288_0⟩ := at_T41 HR1.out x5_1 p288 q288
          have hw288_2 := hx288_2
          have hw288_1 := hx288_1
          have hw288_0 := hx288_0
          cases e288
          replace hx288_0 := (HB.out.cell (World.block_lt_of_cell? w _ hx288_0)).trans hx288_0
          replace hx288_1 := (HB.out.cell (World.block_lt_of_cell? w _ hx288_1)).trans hx288_1
          replace hx288_2 := (HB.out.cell (World.block_lt_of_cell? w _ hx288_2)).trans hx288_2
          have HR288_0 := Aside0.mk hi288_0
          have HC288_0 := Aside0.mk hl288_0
          clear hi288_0 hl288_0
          replace p288 := eq_true p288
          replace q288 := eq_true q288
          refine start_ (n := 8) (S := fun w' => w'.cell? ⟨gb286, 0, none⟩ = some (.int .i64 a0_0) ∧ w'.cell? ⟨gb286, 1, none⟩ = some (.slice A0_1 l0_1.length c0_1) ∧ w'.cell? (ad288.add ((x5_1).toNat * 3)) = some (.slice A288_0 ((rd_T41 l1 x5_1).f0).length c288_0) ∧ w'.cell? ⟨(ad288.add ((x5_1).toNat * 3)).block, (ad288.add ((x5_1).toNat * 3)).off + 1, none⟩ = some (.int .i64 ((rd_T41 l1 x5_1).f1)) ∧ w'.cell? ⟨(ad288.add ((x5_1).toNat * 3)).block, (ad288.add ((x5_1).toNat * 3)).off + 2, none⟩ = some (.int .i64 ((rd_T41 l1 x5_1).f2))) (ds := []) #[F,F,F,F,F,F,F,F] kr rfl rfl ⟨cz0 BK286, cz1 BK286, ((HB.out.cell (World.block_lt_of_cell? w _ hw288_0)).trans hw288_0), ((HB.out.cell (World.block_lt_of_cell? w _ hw288_1)).trans hw288_1), ((HB.out.cell (World.block_lt_of_cell? w _ hw288_2)).trans hw288_2)⟩ (fun hHeld => ?_); refine with_tabW spec_ProcessOk.tab12 spec_ProcessOk.bits12 (fun HT_ HW_ => ?_)
          generalize wr.drew = w21 at BK286 HB HR288_0 hx288_0 hx288_1 hx288_2 hHeld ⊢
          refine pu 1 (some 47) #[F,T,F,F,F,F,F,F] (any_of HT_.out kr) ?_
          refine pu 2 (some 48) #[F,T,T,F,F,F,F,F] (any_of HT_.out kr) ?_
          refine pu 3 (some 49) #[F,T,T,T,F,F,F,F] (any_of HT_.out kr) ?_
          refine pu 4 (some 50) #[F,T,T,T,T,F,F,F] (any_of HT_.out kr) ?_
          refine tk5 0 (some 46) #[T,T,T,T,T,F,F,F] (take_ofW HT_.out HW_.out kr) ?_
          refine tk5 5 (some 51) #[T,T,T,T,T,T,F,F] (take_ofW HT_.out HW_.out kr) ?_
          refine one_ (i := 6) (N := some 52) #[T,T,T,T,T,T,T,F] rfl rfl (one_of HT_.out kr) (by decide) (fun K hK => ?_)
          refine goes_ Try.func21 kr rfl #[.agg #[.int .i64 a0_0, .slice A0_1 l0_1.length c0_1], .slice A288_0 ((rd_T41 l1 x5_1).f0).length c288_0] (by rfl) rfl rfl lm ?_
          with_reducible refine (spec_TermOk.calls k2 a0_0 _ _ l0_1 _ _ ((rd_T41 l1 x5_1).f0) true _ ?side1 ?side2 ?side3 ?side4 A19.out).mono ?_
          (case side1 => repeat (first | exact (Kd.C_below HR0_1.out HB.out) | (with_reducible refine Kd.C_alloc ?_ _) | (with_reducible refine Kd.C_drewN ?_ _) | (with_reducible refine Kd.C_drew ?_)))
          (case side2 => exact HC0_1.out)
          (case side3 => repeat (first | exact (Kd.C_below HR288_0.out HB.out) | (with_reducible refine Kd.C_alloc ?_ _) | (with_reducible refine Kd.C_drewN ?_ _) | (with_reducible refine Kd.C_drew ?_)))
          (case side4 => exact HC288_0.out)
          rintro e w22 ⟨rfl, hb⟩
          refine ⟨_, rfl, ?_⟩
          have n0_ := Aside0.mk (blk_below (bz BK286) hb)
          have n1_ := Aside0.mk (below_step bh hb)
          clear BK286 HB
          have BK286 := n0_
          have HB := n1_
          clear n0_ n1_
          (try clear hb)
          (try clear hb2)
          (try clear hk)
          (try clear hi)
          refine hK.out _ _ ⟨cz0 BK286, cz1 BK286, ((HB.out.cell (World.block_lt_of_cell? w _ hw288_0)).trans hw288_0), ((HB.out.cell (World.block_lt_of_cell? w _ hw288_1)).trans hw288_1), ((HB.out.cell (World.block_lt_of_cell? w _ hw288_2)).trans hw288_2)⟩ (fun hHeld => ?_)
          clear hK K
          refine norm_ (a' := ?_) ?_ ?_
          rotate_left
          ·show Act.put _ (some 52) _ = _
           simp only [Act.put, List.setIfInBounds_toArray, List.set_cons_zero, List.set_cons_succ, i64_w, i32_w]
           rfl
          refine pu 7 (some 53) #[T,T,T,T,T,T,T,T] (any_of HT_.out kr) ?_
          refine done_ (done_of HT_.out kr) ?_
          try go_wp2
          go_roundg k2
          case measure => have := HK1.out; have := HK2.out; omega
          case rel => exact ⟨(wrap64 (x5_1 + 1)), (by first | rfl | (simp; done) | (simp [*]; done)), H', ⟨by have := HK1.out; have := HK2.out; omega⟩, ⟨bz BK286⟩, ⟨by exact bh⟩⟩
         ·replace c20 := Bool.eq_false_iff.mpr c20
          subst c20
          have H1 : (some false) = some r := by rw [if_neg (show ¬ (false = true) by decide)] at H; exact H
          clear H
          have H := H1
          clear H1
          obtain rfl := Option.some.inj H
          try go_wp2
          have n0_ := Aside0.mk (blk_drew BK286.out)
          have n1_ := Aside0.mk (below_drew1 HB.out)
          clear BK286 HB
          have BK286 := n0_
          have HB := n1_
          clear n0_ n1_
          have p288 : 0 ≤ (x5_1 : Int) := oda
          have q288 : x5_1 < (l1.length : Int) := oda
          obtain ⟨ad288, A288_0, c288_0, e288, hx288_0, hx288_1, hx288_2, hl288_0, hi288_0⟩ := at_T41 HR1.out x5_1 p288 q288
          have hw288_2 := hx288_2
          have hw288_1 := hx288_1
          have hw288_0 := hx288_0
          cases e288
          replace hx288_0 := (HB.out.cell (World.block_lt_of_cell? w _ hx288_0)).trans hx288_0
          replace hx288_1 := (HB.out.cell (World.block_lt_of_cell? w _ hx288_1)).trans hx288_1
          replace hx288_2 := (HB.out.cell (World.block_lt_of_cell? w _ hx288_2)).trans hx288_2
          have HR288_0 := Aside0.mk hi288_0
          have HC288_0 := Aside0.mk hl288_0
          clear hi288_0 hl288_0
          replace p288 := eq_true p288
          replace q288 := eq_true q288
          refine start_ (n := 8) (S := fun w' => w'.cell? ⟨gb286, 0, none⟩ = some (.int .i64 a0_0) ∧ w'.cell? ⟨gb286, 1, none⟩ = some (.slice A0_1 l0_1.length c0_1) ∧ w'.cell? (ad288.add ((x5_1).toNat * 3)) = some (.slice A288_0 ((rd_T41 l1 x5_1).f0).length c288_0) ∧ w'.cell? ⟨(ad288.add ((x5_1).toNat * 3)).block, (ad288.add ((x5_1).toNat * 3)).off + 1, none⟩ = some (.int .i64 ((rd_T41 l1 x5_1).f1)) ∧ w'.cell? ⟨(ad288.add ((x5_1).toNat * 3)).block, (ad288.add ((x5_1).toNat * 3)).off + 2, none⟩ = some (.int .i64 ((rd_T41 l1 x5_1).f2))) (ds := []) #[F,F,F,F,F,F,F,F] kr rfl rfl ⟨cz0 BK286, cz1 BK286, ((HB.out.cell (World.block_lt_of_cell? w _ hw288_0)).trans hw288_0), ((HB.out.cell (World.block_lt_of_cell? w _ hw288_1)).trans hw288_1), ((HB.out.cell (World.block_lt_of_cell? w _ hw288_2)).trans hw288_2)⟩ (fun hHeld => ?_); refine with_tabW spec_ProcessOk.tab12 spec_ProcessOk.bits12 (fun HT_ HW_ => ?_)
          generalize wr.drew = w23 at BK286 HB HR288_0 hx288_0 hx288_1 hx288_2 hHeld ⊢
          refine pu 1 (some 47) #[F,T,F,F,F,F,F,F] (any_of HT_.out kr) ?_
          refine pu 2 (some 48) #[F,T,T,F,F,F,F,F] (any_of HT_.out kr) ?_
          refine pu 3 (some 49) #[F,T,T,T,F,F,F,F] (any_of HT_.out kr) ?_
          refine pu 4 (some 50) #[F,T,T,T,T,F,F,F] (any_of HT_.out kr) ?_
          refine tk5 0 (some 46) #[T,T,T,T,T,F,F,F] (take_ofW HT_.out HW_.out kr) ?_
          refine tk5 5 (some 51) #[T,T,T,T,T,T,F,F] (take_ofW HT_.out HW_.out kr) ?_
          refine one_ (i := 6) (N := some 52) #[T,T,T,T,T,T,T,F] rfl rfl (one_of HT_.out kr) (by decide) (fun K hK => ?_)
          refine goes_ Try.func21 kr rfl #[.agg #[.int .i64 a0_0, .slice A0_1 l0_1.length c0_1], .slice A288_0 ((rd_T41 l1 x5_1).f0).length c288_0] (by rfl) rfl rfl lm ?_
          with_reducible refine (spec_TermOk.calls k2 a0_0 _ _ l0_1 _ _ ((rd_T41 l1 x5_1).f0) false _ ?side1 ?side2 ?side3 ?side4 A19.out).mono ?_
          (case side1 => repeat (first | exact (Kd.C_below HR0_1.out HB.out) | (with_reducible refine Kd.C_alloc ?_ _) | (with_reducible refine Kd.C_drewN ?_ _) | (with_reducible refine Kd.C_drew ?_)))
          (case side2 => exact HC0_1.out)
          (case side3 => repeat (first | exact (Kd.C_below HR288_0.out HB.out) | (with_reducible refine Kd.C_alloc ?_ _) | (with_reducible refine Kd.C_drewN ?_ _) | (with_reducible refine Kd.C_drew ?_)))
          (case side4 => exact HC288_0.out)
          rintro e w24 ⟨rfl, hb⟩
          refine ⟨_, rfl, ?_⟩
          have n0_ := Aside0.mk (blk_below (bz BK286) hb)
          have n1_ := Aside0.mk (below_step bh hb)
          clear BK286 HB
          have BK286 := n0_
          have HB := n1_
          clear n0_ n1_
          (try clear hb)
          (try clear hb2)
          (try clear hk)
          (try clear hi)
          refine hK.out _ _ ⟨cz0 BK286, cz1 BK286, ((HB.out.cell (World.block_lt_of_cell? w _ hw288_0)).trans hw288_0), ((HB.out.cell (World.block_lt_of_cell? w _ hw288_1)).trans hw288_1), ((HB.out.cell (World.block_lt_of_cell? w _ hw288_2)).trans hw288_2)⟩ (fun hHeld => ?_)
          clear hK K
          refine norm_ (a' := ?_) ?_ ?_
          rotate_left
          ·show Act.put _ (some 52) _ = _
           simp only [Act.put, List.setIfInBounds_toArray, List.set_cons_zero, List.set_cons_succ, i64_w, i32_w]
           rfl
          refine pu 7 (some 53) #[T,T,T,T,T,T,T,T] (any_of HT_.out kr) ?_
          refine done_ (done_of HT_.out kr) ?_
          try go_wp2
          go_ret
          exact ⟨by first | rfl | (simp [errW_none, errW_some] <;> rfl) | (simp [*, errW_none, errW_some] <;> rfl), by exact bh⟩
        ·rw [if_neg c18] at H
         exact absurd H (by simp)
       ·rw [if_neg c17] at H
        exact absurd H (by simp)
   ·rw [if_neg c4] at H
    have c4b0 : decide (x5_1 < (l1.length : Int)) = false := decide_eq_false c4
    clear c4
    replace H := Option.bind_eq_some_iff.mp H
    obtain ⟨t287, A250, H⟩ := H
    replace H : (some t287) = some r := H
    have A25 := Aside0.mk A250
    clear A250
    obtain rfl := Option.some.inj H
    go_wp2_with (first | ((with_reducible refine gate_callee (f := 54) rfl ?_); refine goesL_ (some 56) rfl rfl Try.func54 kr rfl #[.int .i64 (l1.length : Int), .int .i64 1, .int .i64 4] rfl lm ?_; (with_reducible refine (spec_l1In.calls (l1.length : Int) 1 4 t287 _ A25.out).mono ?_); rintro e w' ⟨rfl, ⟨nd, rfl⟩⟩; refine ⟨_, rfl, ?_⟩))
    go_ret
    exact ⟨by first | rfl | (simp [errW_none, errW_some] <;> rfl) | (simp [*, errW_none, errW_some] <;> rfl), by exact bh⟩

/-! ### spec_l3Starts: function 89 -/
def spec_l3Starts.l0 : Nat → List (S78) → Int → Int → Option (Int)
 | 0, _, _, _ => none
 | k + 1, x0, x5, x6 => if x5 > 0 then (if 0 ≤ x6 then (if x6 < (x0.length : Int) then (if ((rd_T78 x0 x6).f0) = 0 then (spec_l3Starts.l0 k x0 (wrap64 (x5 - 1)) (wrap64 (x6 - 1))) else (spec_l3Starts.l0 k x0 (wrap64 (x5 + 1)) (wrap64 (x6 - 1)))) else (none)) else (none)) else (some (wrap64 (x6 + 1)))
def spec_l3Starts.f (k : Nat) (l0 : List (S78)) (a1 : Int) : Option (Int) := spec_l3Starts.l0 k l0 1 a1
theorem spec_l3Starts.mono_l : ∀ k, (∀ y0 y1 y2, LeO (spec_l3Starts.l0 k y0 y1 y2) (spec_l3Starts.l0 (k + 1) y0 y1 y2))
 | 0 => fun _ _ _ r h => by simp [spec_l3Starts.l0] at h
 | k + 1 => by
  have ih0 := spec_l3Starts.mono_l k
  ·intro y0 y1 y2
   unfold spec_l3Starts.l0
   repeat' first
   | (with_reducible exact ih0 _ _ _)
   | (with_reducible exact LeO.refl _)
   | (with_reducible exact LeO.none _)
   | (with_reducible refine LeO.ite ?_ ?_)
   | (with_reducible refine LeO.bind ?_ (fun _ => ?_))
   | exact ih0 _ _ _
   | exact LeO.none _
   | refine LeO.ite ?_ ?_
   | refine LeO.bind ?_ (fun _ => ?_)
theorem spec_l3Starts.mono : ∀ a0 a1 k, LeO (spec_l3Starts.f k a0 a1) (spec_l3Starts.f (k + 1) a0 a1) := by
 intro a0 a1 k
 have ih0 := spec_l3Starts.mono_l k
 unfold spec_l3Starts.f
 repeat' first
   | (with_reducible exact ih0 _ _ _)
   | (with_reducible exact LeO.refl _)
   | (with_reducible exact LeO.none _)
   | (with_reducible refine LeO.ite ?_ ?_)
   | (with_reducible refine LeO.bind ?_ (fun _ => ?_))
   | exact ih0 _ _ _
   | exact LeO.none _
   | refine LeO.ite ?_ ?_
   | refine LeO.bind ?_ (fun _ => ?_)
set_option maxHeartbeats 8000000 in
set_option maxRecDepth 100000 in
theorem spec_l3Starts.calls (k : Nat) (A0 : Option Addr) (c0 : Nat) (l0 : List (S78)) (a1 : Int) (r : Int) (w : World) (hr0 : Kd.C k78 w A0 l0.length l0) (hc0 : l0.length ≤ c0) (h : spec_l3Starts.f k l0 a1 = some r) :
  Calls Try.prog 89 #[.slice A0 l0.length c0, .int .i64 a1] w fun e w' => e = .returned (.int .i64 r) ∧ Drawn0 w w' := by
 have HR0 := Aside0.mk hr0
 have HC0 := Aside0.mk hc0
 clear hr0 hc0
 have H : (spec_l3Starts.l0 k l0 1 a1) = some r := h
 clear h
 have H' := Aside0.mk H
 clear H
 go_enter Try.func89, Try.ntmps89
 go_wp2
 go_loopg [5, 6] k (fun kq v5 v6 w' => ∃ (x5_1 : Int) (x6_1 : Int), v5 = .int .i64 x5_1 ∧ v6 = .int .i64 x6_1 ∧ Aside0 (spec_l3Starts.l0 kq l0 x5_1 x6_1 = some r) ∧ Aside0 (kq ≤ k) ∧ Drawn0 w w')
 case atStart => exact ⟨(1), (a1), (by first | rfl | (simp; done) | (simp [*]; done)), (by first | rfl | (simp; done) | (simp [*]; done)), H', ⟨Nat.le_refl _⟩, by repeat (first | exact Drawn0.refl _ | apply Drawn0.step)⟩
 case round =>
  clear H'
  try clear p2
  obtain ⟨x5_1, x6_1, rfl, rfl, HA, HK1, ⟨m1, rfl⟩⟩ := hrel
  cases gk with
  | zero => exact absurd HA.out (by simp [spec_l3Starts.l0])
  | succ k1 =>
   have H := HA.out
   clear HA
   simp only [spec_l3Starts.l0] at H
   by_cases c3 : x5_1 > 0
   ·rw [if_pos c3] at H
    have c3b0 : decide (0 < x5_1) = true := decide_eq_true c3
    clear c3
    by_cases c4 : 0 ≤ x6_1
    ·rw [if_pos c4] at H
     have c4b0 : decide (0 ≤ x6_1) = true := decide_eq_true c4
     clear c4
     by_cases c5 : x6_1 < (l0.length : Int)
     ·rw [if_pos c5] at H
      have c5b0 : decide (x6_1 < (l0.length : Int)) = true := decide_eq_true c5
      clear c5
      by_cases c6 : ((rd_T78 l0 x6_1).f0) = 0
      ·rw [if_pos c6] at H
       have c6b0 : (((rd_T78 l0 x6_1).f0) == 0) = true := beq_iff_eq.mpr c6
       have c6b1 : (((rd_T78 l0 x6_1).f0) != 0) = false := bne_eq_false_iff_eq.mpr c6
       clear c6
       have H' := Aside0.mk H
       clear H
       have p294 : 0 ≤ (x6_1 : Int) := oda
       have q294 : x6_1 < (l0.length : Int) := oda
       obtain ⟨ad294, e294, hx294_0, hx294_1, hx294_2⟩ := at_T78 HR0.out x6_1 p294 q294
       cases e294
       replace p294 := eq_true p294
       replace q294 := eq_true q294
       go_wp2
       go_roundg k1
       case measure => have := HK1.out; omega
       case rel => exact ⟨(wrap64 (x5_1 - 1)), (wrap64 (x6_1 - 1)), (by first | rfl | (simp; done) | (simp [*]; done)), (by first | rfl | (simp; done) | (simp [*]; done)), H', ⟨by have := HK1.out; omega⟩, by repeat (first | exact Drawn0.refl _ | apply Drawn0.step)⟩
      ·rw [if_neg c6] at H
       have c6b0 : (((rd_T78 l0 x6_1).f0) == 0) = false := beq_eq_false_iff_ne.mpr c6
       have c6b1 : (((rd_T78 l0 x6_1).f0) != 0) = true := bne_iff_ne.mpr c6
       have H' := Aside0.mk H
       clear H
       have p294 : 0 ≤ (x6_1 : Int) := oda
       have q294 : x6_1 < (l0.length : Int) := oda
       obtain ⟨ad294, e294, hx294_0, hx294_1, hx294_2⟩ := at_T78 HR0.out x6_1 p294 q294
       cases e294
       replace p294 := eq_true p294
       replace q294 := eq_true q294
       go_wp2
       go_roundg k1
       case measure => have := HK1.out; omega
       case rel => exact ⟨(wrap64 (x5_1 + 1)), (wrap64 (x6_1 - 1)), (by first | rfl | (simp; done) | (simp [*]; done)), (by first | rfl | (simp; done) | (simp [*]; done)), H', ⟨by have := HK1.out; omega⟩, by repeat (first | exact Drawn0.refl _ | apply Drawn0.step)⟩
     ·rw [if_neg c5] at H
      exact absurd H (by simp)
    ·rw [if_neg c4] at H
     exact absurd H (by simp)
   ·rw [if_neg c3] at H
    have c3b0 : decide (0 < x5_1) = false := decide_eq_false c3
    clear c3
    obtain rfl := Option.some.inj H
    go_wp2
    go_ret
    exact ⟨by first | rfl | (simp; done) | (simp [*]; done), by repeat (first | exact Drawn0.refl _ | apply Drawn0.step)⟩

end Go.Proofs.Ytnpjlpkbefdnlaa.QFnExactBillTerm
