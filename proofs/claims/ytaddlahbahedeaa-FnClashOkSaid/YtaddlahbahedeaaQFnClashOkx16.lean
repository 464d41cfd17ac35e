-- Printed for this claim by a turned copy of the print (wip/myprint). Lean checks it. Squeezed. Worded. Tightened.
import Derived.Test.YtaddlahbahedeaaQFnClashOkx0
import Derived.Test.YtaddlahbahedeaaQFnClashOkx2
import Derived.Test.YtaddlahbahedeaaQFnClashOkx15
namespace Go.Proofs.Ytaddlahbahedeaa.QFnClashOk
open Go.RowKit Go.Proofs.YtaddlahbahedeaaW.PrintWords Go.Proofs.YtaddlahbahedeaaW.PrintLast Go.Proofs.YtaddlahbahedeaaW.PrintMore
attribute [local go_sem] max2_int min2_int max_two min_two max_three min_three max_four min_four Opens.cell_twice   -- for this text's walks alone
set_option linter.unusedVariables false
set_option linter.unusedSimpArgs false

/-! ### spec_l4Says: function 51 -/
def spec_l4Says.f : Nat → Int → List Int → List (S61) → Int → Option (Bool)
 | 0, _, _, _, _ => none
 | k + 1, a0_0, l0_1, l1, a2 => if 0 ≤ (wrap64 ((l1.length : Int) - 1)) then (if (wrap64 ((l1.length : Int) - 1)) < (l1.length : Int) then (if ((rd_T61 l1 (wrap64 ((l1.length : Int) - 1))).f0) = 0 then (if 0 ≤ ((rd_T61 l1 (wrap64 ((l1.length : Int) - 1))).f1) then (if ((rd_T61 l1 (wrap64 ((l1.length : Int) - 1))).f1) < (l0_1.length : Int) then ((spec_l1Heads.f k (Go.bits .and .i64 a2 (rd l0_1 ((rd_T61 l1 (wrap64 ((l1.length : Int) - 1))).f1)))).bind fun t414 => (some (decide (t414 ≥ ((rd_T61 l1 (wrap64 ((l1.length : Int) - 1))).f2))))) else (none)) else (none)) else ((spec_l3Starts.f k l1 (wrap64 ((wrap64 ((l1.length : Int) - 1)) - 1))).bind fun t416 => (if ((rd_T61 l1 (wrap64 ((l1.length : Int) - 1))).f0) = 2 then (if 0 ≤ t416 then (if t416 ≤ (l1.length : Int) then ((spec_l4Says.f k a0_0 l0_1 (l1.take (t416 : Int).toNat) a2).bind fun t422 => (if t422 = true then (some true) else (if t416 ≤ (wrap64 ((l1.length : Int) - 1)) then (if (wrap64 ((l1.length : Int) - 1)) ≤ (l1.length : Int) then ((spec_l4Says.f k a0_0 l0_1 ((l1.take ((wrap64 ((l1.length : Int) - 1)) : Int).toNat).drop (t416 : Int).toNat) a2).bind fun t427 => (some t427)) else (none)) else (none)))) else (none)) else (none)) else (if 0 ≤ t416 then (if t416 ≤ (l1.length : Int) then ((spec_l4Says.f k a0_0 l0_1 (l1.take (t416 : Int).toNat) a2).bind fun t432 => (if t432 = true then (if t416 ≤ (wrap64 ((l1.length : Int) - 1)) then (if (wrap64 ((l1.length : Int) - 1)) ≤ (l1.length : Int) then ((spec_l4Says.f k a0_0 l0_1 ((l1.take ((wrap64 ((l1.length : Int) - 1)) : Int).toNat).drop (t416 : Int).toNat) a2).bind fun t437 => (some t437)) else (none)) else (none)) else (some false))) else (none)) else (none))))) else (none)) else (none)
theorem spec_l4Says.mono_l : ∀ k, (∀ y0 y1 y2 y3, LeO (spec_l4Says.f k y0 y1 y2 y3) (spec_l4Says.f (k + 1) y0 y1 y2 y3))
 | 0 => fun _ _ _ _ r h => by simp [spec_l4Says.f] at h
 | k + 1 => by
  have ih0 := spec_l4Says.mono_l k
  ·intro y0 y1 y2 y3
   unfold spec_l4Says.f
   repeat' first
   | (with_reducible exact ih0 _ _ _ _)
   | (with_reducible exact spec_l1Heads.mono _ _)
   | (with_reducible exact spec_l3Starts.mono _ _ _)
   | (with_reducible exact LeO.refl _)
   | (with_reducible exact LeO.none _)
   | (with_reducible refine LeO.ite ?_ ?_)
   | (with_reducible refine LeO.bind ?_ (fun _ => ?_))
   | exact ih0 _ _ _ _
   | exact spec_l1Heads.mono _ _
   | exact spec_l3Starts.mono _ _ _
   | exact LeO.none _
   | refine LeO.ite ?_ ?_
   | refine LeO.bind ?_ (fun _ => ?_)
theorem spec_l4Says.mono : ∀ a0 a1 a2 a3 k, LeO (spec_l4Says.f k a0 a1 a2 a3) (spec_l4Says.f (k + 1) a0 a1 a2 a3) := by
 intro a0 a1 a2 a3 k
 have ih0 := spec_l4Says.mono_l k
 exact ih0 a0 a1 a2 a3
def spec_l4Says.T3 : Bool × List (List Nat × List Nat) := (true, [([], []), ([], []), ([1], [1]), ([], []), ([], []), ([3, 4], [3, 4]), ([5], [5]), ([6], [6]), ([2, 7], [2, 7]), ([8], [8]), ([0, 9], [0, 9]), ([10], [10]), ([], []), ([], []), ([12, 13], [12, 13]), ([14], [14]), ([15], [15]), ([11, 16], [11, 16]), ([17, 11, 0, 1, 2, 3, 4, 5, 6, 7, 8, 9, 10, 11, 12, 13, 14, 15, 16, 17], [17])])
def spec_l4Says.B3 : List Nat := [0, 0, 2, 0, 0, 24, 56, 120, 254, 510, 1023, 2047, 0, 0, 12288, 28672, 61440, 131071, 262143]
theorem spec_l4Says.tab3 : rtab .any (opsOf Try.f51 3) = spec_l4Says.T3 := by kernel_rfl
theorem spec_l4Says.bits3 : waitsOk spec_l4Says.T3.2 spec_l4Says.B3 = true := by kernel_rfl
def spec_l4Says.T6 : Bool × List (List Nat × List Nat) := (true, [([], []), ([], []), ([], []), ([1, 2], [1, 2]), ([], []), ([0, 3, 4], [0, 3, 4]), ([5, 5], [5]), ([6], [6]), ([6], [6]), ([6], [6]), ([6], [6]), ([8, 9, 10, 6], [6, 8, 9, 10]), ([6], [6]), ([7, 11, 12, 6, 6], [6, 7, 11, 12]), ([6, 13], [6, 13]), ([14, 13, 0, 1, 2, 3, 4, 5, 6, 7, 8, 9, 10, 11, 12, 13, 14], [14])])
def spec_l4Says.B6 : List Nat := [0, 0, 0, 6, 0, 31, 63, 127, 127, 127, 127, 1919, 127, 8191, 16383, 32767]
theorem spec_l4Says.tab6 : rtab .any (opsOf Try.f51 6) = spec_l4Says.T6 := by kernel_rfl
theorem spec_l4Says.bits6 : waitsOk spec_l4Says.T6.2 spec_l4Says.B6 = true := by kernel_rfl
def spec_l4Says.T7 : Bool × List (List Nat × List Nat) := (true, [([], []), ([], []), ([], []), ([1, 2], [1, 2]), ([], []), ([0, 3, 4], [0, 3, 4]), ([5, 5], [5]), ([6], [6]), ([6], [6]), ([6], [6]), ([6], [6]), ([8, 9, 10, 6], [6, 8, 9, 10]), ([6], [6]), ([7, 11, 12, 6, 6], [6, 7, 11, 12]), ([6, 13], [6, 13]), ([14, 13, 0, 1, 2, 3, 4, 5, 6, 7, 8, 9, 10, 11, 12, 13, 14], [14])])
def spec_l4Says.B7 : List Nat := [0, 0, 0, 6, 0, 31, 63, 127, 127, 127, 127, 1919, 127, 8191, 16383, 32767]
theorem spec_l4Says.tab7 : rtab .any (opsOf Try.f51 7) = spec_l4Says.T7 := by kernel_rfl
theorem spec_l4Says.bits7 : waitsOk spec_l4Says.T7.2 spec_l4Says.B7 = true := by kernel_rfl
set_option maxHeartbeats 8000000 in
set_option maxRecDepth 100000 in
theorem spec_l4Says.calls (k : Nat) : ∀ (a0_0 : Int) (A0_1 : Option Addr) (c0_1 : Nat) (l0_1 : List Int) (A1 : Option Addr) (c1 : Nat) (l1 : List (S61)) (a2 : Int) (r : Bool) (w : World) (hr0_1 : Kd.C (Kd.int .i64) w A0_1 l0_1.length l0_1) (hc0_1 : l0_1.length ≤ c0_1) (hr1 : Kd.C k61 w A1 l1.length l1) (hc1 : l1.length ≤ c1) (h : spec_l4Says.f k a0_0 l0_1 l1 a2 = some r),
  Calls Try.prog 51 #[.agg #[.int .i64 a0_0, .slice A0_1 l0_1.length c0_1], .slice A1 l1.length c1, .int .i64 a2] w fun e w' => e = .returned (.bool r) ∧ Below w.heap.size w w' := by
 induction k using Nat.strongRecOn with
 | _ k ih =>
 intro a0_0 A0_1 c0_1 l0_1 A1 c1 l1 a2 r w hr0_1 hc0_1 hr1 hc1 h
 cases k with
 | zero => exact absurd h (by simp [spec_l4Says.f])
 | succ k =>
 simp only [spec_l4Says.f] at h
 have hu25 := Try.underlying25
 have HR0_1 := Aside0.mk hr0_1
 have HC0_1 := Aside0.mk hc0_1
 clear hr0_1 hc0_1
 have HR1 := Aside0.mk hr1
 have HC1 := Aside0.mk hc1
 clear hr1 hc1
 have HB := Aside0.mk (Below.refl w.heap.size w)
 have H : (if 0 ≤ (wrap64 ((l1.length : Int) - 1)) then (if (wrap64 ((l1.length : Int) - 1)) < (l1.length : Int) then (if ((rd_T61 l1 (wrap64 ((l1.length : Int) - 1))).f0) = 0 then (if 0 ≤ ((rd_T61 l1 (wrap64 ((l1.length : Int) - 1))).f1) then (if ((rd_T61 l1 (wrap64 ((l1.length : Int) - 1))).f1) < (l0_1.length : Int) then ((spec_l1Heads.f k (Go.bits .and .i64 a2 (rd l0_1 ((rd_T61 l1 (wrap64 ((l1.length : Int) - 1))).f1)))).bind fun t414 => (some (decide (t414 ≥ ((rd_T61 l1 (wrap64 ((l1.length : Int) - 1))).f2))))) else (none)) else (none)) else ((spec_l3Starts.f k l1 (wrap64 ((wrap64 ((l1.length : Int) - 1)) - 1))).bind fun t416 => (if ((rd_T61 l1 (wrap64 ((l1.length : Int) - 1))).f0) = 2 then (if 0 ≤ t416 then (if t416 ≤ (l1.length : Int) then ((spec_l4Says.f k a0_0 l0_1 (l1.take (t416 : Int).toNat) a2).bind fun t422 => (if t422 = true then (some true) else (if t416 ≤ (wrap64 ((l1.length : Int) - 1)) then (if (wrap64 ((l1.length : Int) - 1)) ≤ (l1.length : Int) then ((spec_l4Says.f k a0_0 l0_1 ((l1.take ((wrap64 ((l1.length : Int) - 1)) : Int).toNat).drop (t416 : Int).toNat) a2).bind fun t427 => (some t427)) else (none)) else (none)))) else (none)) else (none)) else (if 0 ≤ t416 then (if t416 ≤ (l1.length : Int) then ((spec_l4Says.f k a0_0 l0_1 (l1.take (t416 : Int).toNat) a2).bind fun t432 => (if t432 = true then (if t416 ≤ (wrap64 ((l1.length : Int) - 1)) then (if (wrap64 ((l1.length : Int) - 1)) ≤ (l1.length : Int) then ((spec_l4Says.f k a0_0 l0_1 ((l1.take ((wrap64 ((l1.length : Int) - 1)) : Int).toNat).drop (t416 : Int).toNat) a2).bind fun t437 => (some t437)) else (none)) else (none)) else (some false))) else (none)) else (none))))) else (none)) else (none)) = some r := h
 clear h
 obtain ⟨ji4, hji4⟩ : ∃ j_ : Int, (wrap64 ((l1.length : Int) - 1)) = j_ := ⟨_, rfl⟩
 replace H : (if 0 ≤ (ji4) then (if (ji4) < (l1.length : Int) then (if ((rd_T61 l1 (ji4)).f0) = 0 then (if 0 ≤ ((rd_T61 l1 (ji4)).f1) then (if ((rd_T61 l1 (ji4)).f1) < (l0_1.length : Int) then ((spec_l1Heads.f k (Go.bits .and .i64 a2 (rd l0_1 ((rd_T61 l1 (ji4)).f1)))).bind fun t414 => (some (decide (t414 ≥ ((rd_T61 l1 (ji4)).f2))))) else (none)) else (none)) else ((spec_l3Starts.f k l1 (wrap64 ((ji4) - 1))).bind fun t416 => (if ((rd_T61 l1 (ji4)).f0) = 2 then (if 0 ≤ t416 then (if t416 ≤ (l1.length : Int) then ((spec_l4Says.f k a0_0 l0_1 (l1.take (t416 : Int).toNat) a2).bind fun t422 => (if t422 = true then (some true) else (if t416 ≤ (ji4) then (if (ji4) ≤ (l1.length : Int) then ((spec_l4Says.f k a0_0 l0_1 ((l1.take ((ji4) : Int).toNat).drop (t416 : Int).toNat) a2).bind fun t427 => (some t427)) else (none)) else (none)))) else (none)) else (none)) else (if 0 ≤ t416 then (if t416 ≤ (l1.length : Int) then ((spec_l4Says.f k a0_0 l0_1 (l1.take (t416 : Int).toNat) a2).bind fun t432 => (if t432 = true then (if t416 ≤ (ji4) then (if (ji4) ≤ (l1.length : Int) then ((spec_l4Says.f k a0_0 l0_1 ((l1.take ((ji4) : Int).toNat).drop (t416 : Int).toNat) a2).bind fun t437 => (some t437)) else (none)) else (none)) else (some false))) else (none)) else (none))))) else (none)) else (none)) = some r := by first | (rw [hji4] at H; exact H) | (simp only [hji4] at H ⊢; exact H)
 have hji4w : (IntKind.i64.wrap ((l1.length : Int) - 1)) = ji4 := (i64_w _).trans hji4
 by_cases c5 : 0 ≤ (ji4)
 ·rw [if_pos c5] at H
  have c5b0 : decide (0 ≤ (ji4)) = true := decide_eq_true c5
  clear c5
  by_cases c6 : (ji4) < (l1.length : Int)
  ·rw [if_pos c6] at H
   have c6b0 : decide ((ji4) < (l1.length : Int)) = true := decide_eq_true c6
   clear c6
   by_cases c7 : ((rd_T61 l1 (ji4)).f0) = 0
   ·rw [if_pos c7] at H
    have c7b0 : (((rd_T61 l1 (ji4)).f0) == 0) = true := beq_iff_eq.mpr c7
    have c7b1 : (((rd_T61 l1 (ji4)).f0) != 0) = false := bne_eq_false_iff_eq.mpr c7
    clear c7
    by_cases c8 : 0 ≤ ((rd_T61 l1 (ji4)).f1)
    ·rw [if_pos c8] at H
     have c8b0 : decide (0 ≤ ((rd_T61 l1 (ji4)).f1)) = true := decide_eq_true c8
     clear c8
     by_cases c9 : ((rd_T61 l1 (ji4)).f1) < (l0_1.length : Int)
     ·rw [if_pos c9] at H
      have c9b0 : decide (((rd_T61 l1 (ji4)).f1) < (l0_1.length : Int)) = true := decide_eq_true c9
      clear c9
      replace H := Option.bind_eq_some_iff.mp H
      obtain ⟨t414, A100, H⟩ := H
      replace H : (some (decide (t414 ≥ ((rd_T61 l1 (ji4)).f2)))) = some r := H
      have A10 := Aside0.mk A100
      clear A100
      obtain rfl := Option.some.inj H
      go_enter Try.func51, Try.ntmps51
      try go_wp2_with (first | ((with_reducible refine gate_dst (N := 3) rfl ?_); refine box_event ?hg (N := 3) ?hd (cs := #[.int .i64 a0_0, .slice A0_1 l0_1.length c0_1]) (t := 25) ?hr ?_; (case hd => rfl); (case hg => rfl); (case hr => first | (go_simp; done) | (go_simp; rfl)); intro gb410 hg w11 hbox hb; have n0_ := Aside0.mk (below_step bh hb); have n1_ := Aside0.mk (hbox); have n2_ := Aside0.mk ((gs (W0 := w) hg bh)); have n3_ := Aside0.mk ((gs (W0 := w) hg bh)); clear HB; have HB := n0_; have BK410 := n1_; have GW410 := n2_; have GE410 := n3_; clear n0_ n1_ n2_ n3_ hb hbox hg; have p411 : 0 ≤ ((ji4) : Int) := oda; have q411 : (ji4) < (l1.length : Int) := oda; obtain ⟨ad411, e411, hx411_0, hx411_1, hx411_2⟩ := at_T61 HR1.out (ji4) p411 q411; cases e411; replace hx411_0 := (HB.out.cell (World.block_lt_of_cell? w _ hx411_0)).trans hx411_0; replace hx411_1 := (HB.out.cell (World.block_lt_of_cell? w _ hx411_1)).trans hx411_1; replace hx411_2 := (HB.out.cell (World.block_lt_of_cell? w _ hx411_2)).trans hx411_2; replace p411 := eq_true p411; replace q411 := eq_true q411))
      have n0_ := Aside0.mk (blk_drew BK410.out)
      have n1_ := Aside0.mk (below_drew1 HB.out)
      clear BK410 HB
      have BK410 := n0_
      have HB := n1_
      clear n0_ n1_
      have p412 : 0 ≤ ((ji4) : Int) := oda
      have q412 : (ji4) < (l1.length : Int) := oda
      obtain ⟨ad412, e412, hx412_0, hx412_1, hx412_2⟩ := at_T61 HR1.out (ji4) p412 q412
      have hw412_2 := hx412_2
      have hw412_1 := hx412_1
      have hw412_0 := hx412_0
      obtain rfl : ad411 = ad412 := (by injection e412)
      replace hx412_0 := (HB.out.cell (World.block_lt_of_cell? w _ hx412_0)).trans hx412_0
      replace hx412_1 := (HB.out.cell (World.block_lt_of_cell? w _ hx412_1)).trans hx412_1
      replace hx412_2 := (HB.out.cell (World.block_lt_of_cell? w _ hx412_2)).trans hx412_2
      replace p412 := eq_true p412
      replace q412 := eq_true q412
      have p413 : 0 ≤ (((rd_T61 l1 (ji4)).f1) : Int) := oda
      have q413 : ((rd_T61 l1 (ji4)).f1) < (l0_1.length : Int) := oda
      obtain ⟨ad413, e413, hx413_0⟩ := Kd.at_int HR0_1.out ((rd_T61 l1 (ji4)).f1) p413 q413
      have hw413_0 := hx413_0
      cases e413
      replace hx413_0 := (HB.out.cell (World.block_lt_of_cell? w _ hx413_0)).trans hx413_0
      replace p413 := eq_true p413
      replace q413 := eq_true q413
      have p415 : 0 ≤ ((ji4) : Int) := oda
      have q415 : (ji4) < (l1.length : Int) := oda
      obtain ⟨ad415, e415, hx415_0, hx415_1, hx415_2⟩ := at_T61 HR1.out (ji4) p415 q415
      have hw415_2 := hx415_2
      have hw415_1 := hx415_1
      have hw415_0 := hx415_0
      obtain rfl : ad411 = ad415 := (by injection e415)
      replace hx415_0 := (HB.out.cell (World.block_lt_of_cell? w _ hx415_0)).trans hx415_0
      replace hx415_1 := (HB.out.cell (World.block_lt_of_cell? w _ hx415_1)).trans hx415_1
      replace hx415_2 := (HB.out.cell (World.block_lt_of_cell? w _ hx415_2)).trans hx415_2
      replace p415 := eq_true p415
      replace q415 := eq_true q415
      refine start_ (n := 19) (S := fun w' => w'.cell? ⟨gb410, 0, none⟩ = some (.int .i64 a0_0) ∧ w'.cell? ⟨gb410, 1, none⟩ = some (.slice (some ad413) l0_1.length c0_1) ∧ w'.cell? (ad411.add (((ji4)).toNat * 3)) = some (.int .i64 ((rd_T61 l1 (ji4)).f0)) ∧ w'.cell? ⟨(ad411.add (((ji4)).toNat * 3)).block, (ad411.add (((ji4)).toNat * 3)).off + 1, none⟩ = some (.int .i64 ((rd_T61 l1 (ji4)).f1)) ∧ w'.cell? ⟨(ad411.add (((ji4)).toNat * 3)).block, (ad411.add (((ji4)).toNat * 3)).off + 2, none⟩ = some (.int .i64 ((rd_T61 l1 (ji4)).f2)) ∧ w'.cell? (ad413.add (((rd_T61 l1 (ji4)).f1)).toNat) = some (.int .i64 (rd l0_1 ((rd_T61 l1 (ji4)).f1))) ∧ w'.cell? (ad411.add (((ji4)).toNat * 3)) = some (.int .i64 ((rd_T61 l1 (ji4)).f0)) ∧ w'.cell? ⟨(ad411.add (((ji4)).toNat * 3)).block, (ad411.add (((ji4)).toNat * 3)).off + 1, none⟩ = some (.int .i64 ((rd_T61 l1 (ji4)).f1)) ∧ w'.cell? ⟨(ad411.add (((ji4)).toNat * 3)).block, (ad411.add (((ji4)).toNat * 3)).off + 2, none⟩ = some (.int .i64 ((rd_T61 l1 (ji4)).f2))) (ds := []) #[F,F,F,F,F,F,F,F,F,F,F,F,F,F,F,F,F,F,F] kr rfl rfl ⟨cz0 BK410, cz1 BK410, ((HB.out.cell (World.block_lt_of_cell? w _ hw412_0)).trans hw412_0), ((HB.out.cell (World.block_lt_of_cell? w _ hw412_1)).trans hw412_1), ((HB.out.cell (World.block_lt_of_cell? w _ hw412_2)).trans hw412_2), ((HB.out.cell (World.block_lt_of_cell? w _ hw413_0)).trans hw413_0), ((HB.out.cell (World.block_lt_of_cell? w _ hw415_0)).trans hw415_0), ((HB.out.cell (World.block_lt_of_cell? w _ hw415_1)).trans hw415_1), ((HB.out.cell (World.block_lt_of_cell? w _ hw415_2)).trans hw415_2)⟩ (fun hHeld => ?_); refine with_tabW spec_l4Says.tab3 spec_l4Says.bits3 (fun HT_ HW_ => ?_)
      generalize w11.drew = w12 at BK410 HB hx412_0 hx412_1 hx412_2 hx413_0 hx415_0 hx415_1 hx415_2 hHeld ⊢
      refine pu 0 (some 18) #[T,F,F,F,F,F,F,F,F,F,F,F,F,F,F,F,F,F,F] (any_of HT_.out kr) ?_
      refine pu 1 (some 19) #[T,T,F,F,F,F,F,F,F,F,F,F,F,F,F,F,F,F,F] (any_of HT_.out kr) ?_
      refine pu 3 (some 21) #[T,T,F,T,F,F,F,F,F,F,F,F,F,F,F,F,F,F,F] (any_of HT_.out kr) ?_
      refine pu 4 (some 22) #[T,T,F,T,T,F,F,F,F,F,F,F,F,F,F,F,F,F,F] (any_of HT_.out kr) ?_
      refine pu 5 (some 23) #[T,T,F,T,T,T,F,F,F,F,F,F,F,F,F,F,F,F,F] (any_of HT_.out kr) ?_
      refine pu 6 (some 24) #[T,T,F,T,T,T,T,F,F,F,F,F,F,F,F,F,F,F,F] (any_of HT_.out kr) ?_
      refine pu 12 (some 30) #[T,T,F,T,T,T,T,F,F,F,F,F,T,F,F,F,F,F,F] (any_of HT_.out kr) ?_
      refine pu 13 (some 31) #[T,T,F,T,T,T,T,F,F,F,F,F,T,T,F,F,F,F,F] (any_of HT_.out kr) ?_
      refine pu 14 (some 32) #[T,T,F,T,T,T,T,F,F,F,F,F,T,T,T,F,F,F,F] (any_of HT_.out kr) ?_
      refine pu 15 (some 33) #[T,T,F,T,T,T,T,F,F,F,F,F,T,T,T,T,F,F,F] (any_of HT_.out kr) ?_
      refine tk9 2 (some 20) #[T,T,T,T,T,T,T,F,F,F,F,F,T,T,T,T,F,F,F] (take_ofW HT_.out HW_.out kr) ?_
      refine tk9 7 (some 25) #[T,T,T,T,T,T,T,T,F,F,F,F,T,T,T,T,F,F,F] (take_ofW HT_.out HW_.out kr) ?_
      refine pu 8 (some 26) #[T,T,T,T,T,T,T,T,T,F,F,F,T,T,T,T,F,F,F] (any_of HT_.out kr) ?_
      refine tk9 9 (some 27) #[T,T,T,T,T,T,T,T,T,T,F,F,T,T,T,T,F,F,F] (take_ofW HT_.out HW_.out kr) ?_
      refine pu 10 (some 28) #[T,T,T,T,T,T,T,T,T,T,T,F,T,T,T,T,F,F,F] (any_of HT_.out kr) ?_
      refine tk9 16 (some 34) #[T,T,T,T,T,T,T,T,T,T,T,F,T,T,T,T,T,F,F] (take_ofW HT_.out HW_.out kr) ?_
      refine one_ (i := 11) (N := some 29) #[T,T,T,T,T,T,T,T,T,T,T,T,T,T,T,T,T,F,F] rfl rfl (one_of HT_.out kr) (by decide) (fun K hK => ?_)
      refine goes_ Try.func53 kr rfl #[.int .i64 (Go.bits .and .i64 a2 (rd l0_1 ((rd_T61 l1 (ji4)).f1)))] (by rfl) rfl rfl (by (try simp only [List.map_toArray, List.map_cons, List.map_nil]); first | done | (simp only [hji4]; rfl) | rfl | (simp only [List.length_drop, List.length_take]; rfl)) ?_
      with_reducible refine (spec_l1Heads.calls k (Go.bits .and .i64 a2 (rd l0_1 ((rd_T61 l1 (ji4)).f1))) t414 _ A10.out).mono ?_
      rintro e w' ⟨rfl, ⟨nd, rfl⟩⟩
      refine ⟨_, rfl, ?_⟩
      refine hK.out _ _ ⟨cz0 BK410, cz1 BK410, ((HB.out.cell (World.block_lt_of_cell? w _ hw412_0)).trans hw412_0), ((HB.out.cell (World.block_lt_of_cell? w _ hw412_1)).trans hw412_1), ((HB.out.cell (World.block_lt_of_cell? w _ hw412_2)).trans hw412_2), ((HB.out.cell (World.block_lt_of_cell? w _ hw413_0)).trans hw413_0), ((HB.out.cell (World.block_lt_of_cell? w _ hw415_0)).trans hw415_0), ((HB.out.cell (World.block_lt_of_cell? w _ hw415_1)).trans hw415_1), ((HB.out.cell (World.block_lt_of_cell? w _ hw415_2)).trans hw415_2)⟩ (fun hHeld => ?_)
      clear hK K
      refine norm_ (a' := ?_) ?_ ?_
      rotate_left
      ·show Act.put _ (some 29) _ = _
       simp only [Act.put, List.setIfInBounds_toArray, List.set_cons_zero, List.set_cons_succ, i64_w, i32_w]
       rfl
      refine pu 17 (some 35) #[T,T,T,T,T,T,T,T,T,T,T,T,T,T,T,T,T,T,F] (any_of HT_.out kr) ?_
      refine pu 18 (some 6) #[T,T,T,T,T,T,T,T,T,T,T,T,T,T,T,T,T,T,T] (any_of HT_.out kr) ?_
      refine done_ (done_of HT_.out kr) ?_
      try go_wp2
      go_ret
      exact ⟨by first | rfl | (simp [errW_none, errW_some] <;> rfl) | (simp only [← hji4]; first | rfl | (simp [errW_none, errW_some] <;> rfl)) | (simp [*, errW_none, errW_some] <;> rfl), by exact bh⟩
     ·rw [if_neg c9] at H
      exact absurd H (by simp)
    ·rw [if_neg c8] at H
     exact absurd H (by simp)
   ·rw [if_neg c7] at H
    have c7b0 : (((rd_T61 l1 (ji4)).f0) == 0) = false := beq_eq_false_iff_ne.mpr c7
    have c7b1 : (((rd_T61 l1 (ji4)).f0) != 0) = true := bne_iff_ne.mpr c7
    replace H := Option.bind_eq_some_iff.mp H
    obtain ⟨t416, A130, H⟩ := H
    replace H : (if ((rd_T61 l1 (ji4)).f0) = 2 then (if 0 ≤ t416 then (if t416 ≤ (l1.length : Int) then ((spec_l4Says.f k a0_0 l0_1 (l1.take (t416 : Int).toNat) a2).bind fun t422 => (if t422 = true then (some true) else (if t416 ≤ (ji4) then (if (ji4) ≤ (l1.length : Int) then ((spec_l4Says.f k a0_0 l0_1 ((l1.take ((ji4) : Int).toNat).drop (t416 : Int).toNat) a2).bind fun t427 => (some t427)) else (none)) else (none)))) else (none)) else (none)) else (if 0 ≤ t416 then (if t416 ≤ (l1.length : Int) then ((spec_l4Says.f k a0_0 l0_1 (l1.take (t416 : Int).toNat) a2).bind fun t432 => (if t432 = true then (if t416 ≤ (ji4) then (if (ji4) ≤ (l1.length : Int) then ((spec_l4Says.f k a0_0 l0_1 ((l1.take ((ji4) : Int).toNat).drop (t416 : Int).toNat) a2).bind fun t437 => (some t437)) else (none)) else (none)) else (some false))) else (none)) else (none))) = some r := H
    have A13 := Aside0.mk A130
    clear A130
    by_cases c14 : ((rd_T61 l1 (ji4)).f0) = 2
    ·rw [if_pos c14] at H
     have c14b0 : (((rd_T61 l1 (ji4)).f0) == 2) = true := beq_iff_eq.mpr c14
     have c14b1 : (((rd_T61 l1 (ji4)).f0) != 2) = false := bne_eq_false_iff_eq.mpr c14
     clear c14
     by_cases c15 : 0 ≤ t416
     ·rw [if_pos c15] at H
      have c15b0 := eq_true c15
      have c15b1 : decide (0 ≤ t416) = true := decide_eq_true c15
      clear c15
      by_cases c16 : t416 ≤ (l1.length : Int)
      ·rw [if_pos c16] at H
       have c16b0 := eq_true c16
       have c16b1 : decide (t416 ≤ (l1.length : Int)) = true := decide_eq_true c16
       clear c16
       obtain ⟨y418, hy418⟩ : ∃ y_ : List (S61), y_ = (l1.take (t416 : Int).toNat) := ⟨_, rfl⟩
       replace H : ((spec_l4Says.f k a0_0 l0_1 y418 a2).bind fun t422 => (if t422 = true then (some true) else (if t416 ≤ (ji4) then (if (ji4) ≤ (l1.length : Int) then ((spec_l4Says.f k a0_0 l0_1 ((l1.take ((ji4) : Int).toNat).drop (t416 : Int).toNat) a2).bind fun t427 => (some t427)) else (none)) else (none)))) = some r := by first | (rw [hy418]; with_reducible exact H) | (have H2_ := (Option.bind_some _ _).symm.trans H; rw [hy418]; with_reducible exact H2_) | (have H2_ := (Option.bind_some _ _).symm.trans H; with_reducible exact H2_) | with_reducible exact H | (rw [hy418]; exact H) | exact H
       have Ny418 := Aside0.mk hy418
       clear hy418
       replace H := Option.bind_eq_some_iff.mp H
       obtain ⟨t422, A170, H⟩ := H
       replace H : (if t422 = true then (some true) else (if t416 ≤ (ji4) then (if (ji4) ≤ (l1.length : Int) then ((spec_l4Says.f k a0_0 l0_1 ((l1.take ((ji4) : Int).toNat).drop (t416 : Int).toNat) a2).bind fun t427 => (some t427)) else (none)) else (none))) = some r := H
       have A17 := Aside0.mk A170
       clear A170
       by_cases c18 : t422 = true
       ·subst c18
        have H1 : (some true) = some r := by rw [if_pos rfl] at H; exact H
        clear H
        have H := H1
        clear H1
        obtain rfl := Option.some.inj H
        go_enter Try.func51, Try.ntmps51
        try go_wp2_with (first | ((with_reducible refine gate_dst (N := 3) rfl ?_); refine box_event ?hg (N := 3) ?hd (cs := #[.int .i64 a0_0, .slice A0_1 l0_1.length c0_1]) (t := 25) ?hr ?_; (case hd => rfl); (case hg => rfl); (case hr => first | (go_simp; done) | (go_simp; rfl)); intro gb410 hg w19 hbox hb; have n0_ := Aside0.mk (below_step bh hb); have n1_ := Aside0.mk (hbox); have n2_ := Aside0.mk ((gs (W0 := w) hg bh)); have n3_ := Aside0.mk ((gs (W0 := w) hg bh)); clear HB; have HB := n0_; have BK410 := n1_; have GW410 := n2_; have GE410 := n3_; clear n0_ n1_ n2_ n3_ hb hbox hg; have p411 : 0 ≤ ((ji4) : Int) := oda; have q411 : (ji4) < (l1.length : Int) := oda; obtain ⟨ad411, e411, hx411_0, hx411_1, hx411_2⟩ := at_T61 HR1.out (ji4) p411 q411; cases e411; replace hx411_0 := (HB.out.cell (World.block_lt_of_cell? w _ hx411_0)).trans hx411_0; replace hx411_1 := (HB.out.cell (World.block_lt_of_cell? w _ hx411_1)).trans hx411_1; replace hx411_2 := (HB.out.cell (World.block_lt_of_cell? w _ hx411_2)).trans hx411_2; replace p411 := eq_true p411; replace q411 := eq_true q411) | ((with_reducible refine gate_callee (f := 72) rfl ?_); refine goesL_ (some 39) rfl rfl Try.func72 kr rfl #[.slice (some ad411) l1.length c1, .int .i64 (wrap64 ((ji4) - 1))] rfl (by (try simp only [List.map_toArray, List.map_cons, List.map_nil]); first | done | (simp only [hji4]; rfl) | rfl | (simp only [List.length_drop, List.length_take]; rfl)) ?_; (with_reducible refine (spec_l3Starts.calls k _ _ l1 (wrap64 ((ji4) - 1)) t416 _ ?side1 ?side2 A13.out).mono ?_); (case side1 => repeat (first | exact (Kd.C_below HR1.out HB.out) | (with_reducible refine Kd.C_alloc ?_ _) | (with_reducible refine Kd.C_drewN ?_ _) | (with_reducible refine Kd.C_drew ?_))); (case side2 => exact HC1.out); rintro e w' ⟨rfl, ⟨nd, rfl⟩⟩; refine ⟨_, rfl, ?_⟩; have p417 : 0 ≤ ((ji4) : Int) := oda; have q417 : (ji4) < (l1.length : Int) := oda; obtain ⟨ad417, e417, hx417_0, hx417_1, hx417_2⟩ := at_T61 HR1.out (ji4) p417 q417; obtain rfl : ad411 = ad417 := (by injection e417); replace hx417_0 := (HB.out.cell (World.block_lt_of_cell? w _ hx417_0)).trans hx417_0; replace hx417_1 := (HB.out.cell (World.block_lt_of_cell? w _ hx417_1)).trans hx417_1; replace hx417_2 := (HB.out.cell (World.block_lt_of_cell? w _ hx417_2)).trans hx417_2; replace p417 := eq_true p417; replace q417 := eq_true q417))
        (try (rw [drewN_self w19]; generalize hq_ : World.drewN w19 _ = w19; have n0_ : Aside0 (w19.heap[gb410]? = some (.cells #[.int .i64 a0_0, .slice A0_1 l0_1.length c0_1] 25 (0, 0))) := ⟨by rw [← hq_]; exact (bz BK410)⟩; have n1_ : Aside0 (Below w.heap.size w w19) := ⟨by rw [← hq_]; exact bh⟩; clear BK410 HB hq_; have BK410 := n0_; have HB := n1_; clear n0_ n1_))
        have n0_ := Aside0.mk (blk_drew BK410.out)
        have n1_ := Aside0.mk (below_drew1 HB.out)
        clear BK410 HB
        have BK410 := n0_
        have HB := n1_
        clear n0_ n1_
        have q21 : (t416 : Int) ≤ ((l1.length : Int) : Int) := oda
        obtain ⟨i021, hi021, _, hsz21, _⟩ := info_parts info61
        have hroom21 : l1.length ≤ c1 := HC1.out
        have hC21 : Kd.C k61 _ (some ad411) l1.length l1 := HR1.out
        have hcut21 := cut_to (P := Try.prog) 26 61 .i64 Try.underlying26 hi021 (some ad411) l1.length c1 t416 oda q21 hroom21
        have hr21 := Kd.C_take (m := (t416 : Int).toNat) hC21 (by omega)
        have hy21 : y418.length = (t416 : Int).toNat := (by rw [Ny418.out, List.length_take]; omega)
        rw [← Ny418.out] at hr21
        rw [← hy21] at hcut21
        have HR421 := Aside0.mk hr21
        have HC421 := Aside0.mk (show y418.length ≤ c1 from by omega)
        clear hr21 hC21 hroom21 hi021 hsz21
        have KY21 := Aside0.mk hy21
        clear hy21
        replace q21 := eq_true q21
        refine start_ (n := 16) (S := fun w' => w'.cell? ⟨gb410, 0, none⟩ = some (.int .i64 a0_0) ∧ w'.cell? ⟨gb410, 1, none⟩ = some (.slice A0_1 l0_1.length c0_1)) (ds := []) #[F,F,F,F,F,F,F,F,F,F,F,F,F,F,F,F] kr rfl rfl ⟨cz0 BK410, cz1 BK410⟩ (fun hHeld => ?_); refine with_tabW spec_l4Says.tab6 spec_l4Says.bits6 (fun HT_ HW_ => ?_)
        generalize w19.drew = w20 at BK410 HB HR421 hHeld ⊢
        refine pu 1 (some 47) #[F,T,F,F,F,F,F,F,F,F,F,F,F,F,F,F] (any_of HT_.out kr) ?_
        refine pu 2 (some 48) #[F,T,T,F,F,F,F,F,F,F,F,F,F,F,F,F] (any_of HT_.out kr) ?_
        refine pu 3 (some 49) #[F,T,T,T,F,F,F,F,F,F,F,F,F,F,F,F] (any_of HT_.out kr) ?_
        refine pu 4 (some 50) #[F,T,T,T,T,F,F,F,F,F,F,F,F,F,F,F] (any_of HT_.out kr) ?_
        refine tk2 0 (some 46) #[T,T,T,T,T,F,F,F,F,F,F,F,F,F,F,F] (take_ofW HT_.out HW_.out kr) ?_
        refine one_ (i := 5) (N := some 51) #[T,T,T,T,T,T,F,F,F,F,F,F,F,F,F,F] rfl rfl (one_of HT_.out kr) (by decide) (fun K hK => ?_)
        refine goes_ Try.func51 kr rfl #[.agg #[.int .i64 a0_0, .slice A0_1 l0_1.length c0_1], .slice (some ad411) y418.length c1, .int .i64 a2] (by rfl) rfl rfl lm ?_
        with_reducible refine (ih k (by omega) a0_0 _ _ l0_1 _ _ y418 a2 true _ ?side1 ?side2 ?side3 ?side4 A17.out).mono ?_
        (case side1 => repeat (first | exact (Kd.C_below HR0_1.out HB.out) | (with_reducible refine Kd.C_alloc ?_ _) | (with_reducible refine Kd.C_drewN ?_ _) | (with_reducible refine Kd.C_drew ?_)))
        (case side2 => exact HC0_1.out)
        (case side3 => repeat (first | exact (Kd.C_below HR421.out HB.out) | (with_reducible refine Kd.C_alloc ?_ _) | (with_reducible refine Kd.C_drewN ?_ _) | (with_reducible refine Kd.C_drew ?_)))
        (case side4 => exact HC421.out)
        rintro e w22 ⟨rfl, hb⟩
        refine ⟨_, rfl, ?_⟩
        have n0_ := Aside0.mk (blk_below (bz BK410) hb)
        have n1_ := Aside0.mk (below_step bh hb)
        clear BK410 HB
        have BK410 := n0_
        have HB := n1_
        clear n0_ n1_
        (try clear hb)
        (try clear hb2)
        (try clear hk)
        (try clear hi)
        refine hK.out _ _ ⟨cz0 BK410, cz1 BK410⟩ (fun hHeld => ?_)
        clear hK K
        refine norm_ (a' := ?_) ?_ ?_
        rotate_left
        ·show Act.put _ (some 51) _ = _
         simp only [Act.put, List.setIfInBounds_toArray, List.set_cons_zero, List.set_cons_succ, i64_w, i32_w]
         rfl
        refine pu 6 (some 52) #[T,T,T,T,T,T,T,F,F,F,F,F,F,F,F,F] (any_of HT_.out kr) ?_
        refine pure_ (i := 7) (N := some 53) (v := undef) (a' := ?_) #[T,T,T,T,T,T,T,T,F,F,F,F,F,F,F,F] rfl rfl (any_of HT_.out kr) (fun _ _ _ h => h) (Or.inr ⟨by rfl, rfl⟩) ?_ ?_
        rotate_left
        ·simp only [Act.put, List.setIfInBounds_toArray, List.set_cons_zero, List.set_cons_succ, i64_w, i32_w]
         rfl
        refine pure_ (i := 8) (N := some 54) (v := undef) (a' := ?_) #[T,T,T,T,T,T,T,T,T,F,F,F,F,F,F,F] rfl rfl (any_of HT_.out kr) (fun _ _ _ h => h) (Or.inr ⟨by rfl, rfl⟩) ?_ ?_
        rotate_left
        ·simp only [Act.put, List.setIfInBounds_toArray, List.set_cons_zero, List.set_cons_succ, i64_w, i32_w]
         rfl
        refine pure_ (i := 9) (N := some 55) (v := undef) (a' := ?_) #[T,T,T,T,T,T,T,T,T,T,F,F,F,F,F,F] rfl rfl (any_of HT_.out kr) (fun _ _ _ h => h) (Or.inr ⟨by rfl, rfl⟩) ?_ ?_
        rotate_left
        ·simp only [Act.put, List.setIfInBounds_toArray, List.set_cons_zero, List.set_cons_succ, i64_w, i32_w]
         rfl
        refine pure_ (i := 10) (N := some 56) (v := undef) (a' := ?_) #[T,T,T,T,T,T,T,T,T,T,T,F,F,F,F,F] rfl rfl (any_of HT_.out kr) (fun _ _ _ h => h) (Or.inr ⟨by rfl, rfl⟩) ?_ ?_
        rotate_left
        ·simp only [Act.put, List.setIfInBounds_toArray, List.set_cons_zero, List.set_cons_succ, i64_w, i32_w]
         rfl
        refine pure_ (i := 11) (N := some 57) (v := undef) (a' := ?_) #[T,T,T,T,T,T,T,T,T,T,T,T,F,F,F,F] rfl rfl (any_of HT_.out kr) (fun _ _ _ h => h) (Or.inr ⟨by rfl, rfl⟩) ?_ ?_
        rotate_left
        ·simp only [Act.put, List.setIfInBounds_toArray, List.set_cons_zero, List.set_cons_succ, i64_w, i32_w]
         rfl
        refine pure_ (i := 12) (N := some 58) (v := undef) (a' := ?_) #[T,T,T,T,T,T,T,T,T,T,T,T,T,F,F,F] rfl rfl (any_of HT_.out kr) (fun _ _ _ h => h) (Or.inr ⟨by rfl, rfl⟩) ?_ ?_
        rotate_left
        ·simp only [Act.put, List.setIfInBounds_toArray, List.set_cons_zero, List.set_cons_succ, i64_w, i32_w]
         rfl
        refine pure_ (i := 13) (N := some 59) (v := undef) (a' := ?_) #[T,T,T,T,T,T,T,T,T,T,T,T,T,T,F,F] rfl rfl (any_of HT_.out kr) (fun _ _ _ h => h) (Or.inr ⟨by rfl, rfl⟩) ?_ ?_
        rotate_left
        ·simp only [Act.put, List.setIfInBounds_toArray, List.set_cons_zero, List.set_cons_succ, i64_w, i32_w]
         rfl
        refine pu 14 (some 60) #[T,T,T,T,T,T,T,T,T,T,T,T,T,T,T,F] (any_of HT_.out kr) ?_
        refine pu 15 (some 6) #[T,T,T,T,T,T,T,T,T,T,T,T,T,T,T,T] (any_of HT_.out kr) ?_
        refine done_ (done_of HT_.out kr) ?_
        try go_wp2
        go_ret
        exact ⟨by first | rfl | (simp [errW_none, errW_some] <;> rfl) | (simp only [← hji4]; first | rfl | (simp [errW_none, errW_some] <;> rfl)) | (simp [*, errW_none, errW_some] <;> rfl), by exact bh⟩
       ·replace c18 := Bool.eq_false_iff.mpr c18
        subst c18
        have H1 : (if t416 ≤ (ji4) then (if (ji4) ≤ (l1.length : Int) then ((spec_l4Says.f k a0_0 l0_1 ((l1.take ((ji4) : Int).toNat).drop (t416 : Int).toNat) a2).bind fun t427 => (some t427)) else (none)) else (none)) = some r := by rw [if_neg (show ¬ (false = true) by decide)] at H; exact H
        clear H
        have H := H1
        clear H1
        have c23b0 := eq_true (oda : 0 ≤ t416)
        by_cases c24 : t416 ≤ (ji4)
        ·rw [if_pos c24] at H
         have c24b0 := eq_true c24
         have c24b1 : decide (t416 ≤ (ji4)) = true := decide_eq_true c24
         clear c24
         by_cases c25 : (ji4) ≤ (l1.length : Int)
         ·rw [if_pos c25] at H
          have c25b0 := eq_true c25
          have c25b1 : decide ((ji4) ≤ (l1.length : Int)) = true := decide_eq_true c25
          clear c25
          obtain ⟨y423, hy423⟩ : ∃ y_ : List (S61), y_ = ((l1.take ((ji4) : Int).toNat).drop (t416 : Int).toNat) := ⟨_, rfl⟩
          replace H : ((spec_l4Says.f k a0_0 l0_1 y423 a2).bind fun t427 => (some t427)) = some r := by first | (rw [hy423]; with_reducible exact H) | (have H2_ := (Option.bind_some _ _).symm.trans H; rw [hy423]; with_reducible exact H2_) | (have H2_ := (Option.bind_some _ _).symm.trans H; with_reducible exact H2_) | with_reducible exact H | (rw [hy423]; exact H) | exact H
          have Ny423 := Aside0.mk hy423
          clear hy423
          replace H := Option.bind_eq_some_iff.mp H
          obtain ⟨t427, A260, H⟩ := H
          replace H : (some t427) = some r := H
          have A26 := Aside0.mk A260
          clear A260
          obtain rfl := Option.some.inj H
          go_enter Try.func51, Try.ntmps51
          try go_wp2_with (first | ((with_reducible refine gate_dst (N := 3) rfl ?_); refine box_event ?hg (N := 3) ?hd (cs := #[.int .i64 a0_0, .slice A0_1 l0_1.length c0_1]) (t := 25) ?hr ?_; (case hd => rfl); (case hg => rfl); (case hr => first | (go_simp; done) | (go_simp; rfl)); intro gb410 hg w27 hbox hb; have n0_ := Aside0.mk (below_step bh hb); have n1_ := Aside0.mk (hbox); have n2_ := Aside0.mk ((gs (W0 := w) hg bh)); have n3_ := Aside0.mk ((gs (W0 := w) hg bh)); clear HB; have HB := n0_; have BK410 := n1_; have GW410 := n2_; have GE410 := n3_; clear n0_ n1_ n2_ n3_ hb hbox hg; have p411 : 0 ≤ ((ji4) : Int) := oda; have q411 : (ji4) < (l1.length : Int) := oda; obtain ⟨ad411, e411, hx411_0, hx411_1, hx411_2⟩ := at_T61 HR1.out (ji4) p411 q411; cases e411; replace hx411_0 := (HB.out.cell (World.block_lt_of_cell? w _ hx411_0)).trans hx411_0; replace hx411_1 := (HB.out.cell (World.block_lt_of_cell? w _ hx411_1)).trans hx411_1; replace hx411_2 := (HB.out.cell (World.block_lt_of_cell? w _ hx411_2)).trans hx411_2; replace p411 := eq_true p411; replace q411 := eq_true q411) | ((with_reducible refine gate_callee (f := 72) rfl ?_); refine goesL_ (some 39) rfl rfl Try.func72 kr rfl #[.slice (some ad411) l1.length c1, .int .i64 (wrap64 ((ji4) - 1))] rfl (by (try simp only [List.map_toArray, List.map_cons, List.map_nil]); first | done | (simp only [hji4]; rfl) | rfl | (simp only [List.length_drop, List.length_take]; rfl)) ?_; (with_reducible refine (spec_l3Starts.calls k _ _ l1 (wrap64 ((ji4) - 1)) t416 _ ?side1 ?side2 A13.out).mono ?_); (case side1 => repeat (first | exact (Kd.C_below HR1.out HB.out) | (with_reducible refine Kd.C_alloc ?_ _) | (with_reducible refine Kd.C_drewN ?_ _) | (with_reducible refine Kd.C_drew ?_))); (case side2 => exact HC1.out); rintro e w' ⟨rfl, ⟨nd, rfl⟩⟩; refine ⟨_, rfl, ?_⟩; have p417 : 0 ≤ ((ji4) : Int) := oda; have q417 : (ji4) < (l1.length : Int) := oda; obtain ⟨ad417, e417, hx417_0, hx417_1, hx417_2⟩ := at_T61 HR1.out (ji4) p417 q417; obtain rfl : ad411 = ad417 := (by injection e417); replace hx417_0 := (HB.out.cell (World.block_lt_of_cell? w _ hx417_0)).trans hx417_0; replace hx417_1 := (HB.out.cell (World.block_lt_of_cell? w _ hx417_1)).trans hx417_1; replace hx417_2 := (HB.out.cell (World.block_lt_of_cell? w _ hx417_2)).trans hx417_2; replace p417 := eq_true p417; replace q417 := eq_true q417))
          (try (rw [drewN_self w27]; generalize hq_ : World.drewN w27 _ = w27; have n0_ : Aside0 (w27.heap[gb410]? = some (.cells #[.int .i64 a0_0, .slice A0_1 l0_1.length c0_1] 25 (0, 0))) := ⟨by rw [← hq_]; exact (bz BK410)⟩; have n1_ : Aside0 (Below w.heap.size w w27) := ⟨by rw [← hq_]; exact bh⟩; clear BK410 HB hq_; have BK410 := n0_; have HB := n1_; clear n0_ n1_))
          have n0_ := Aside0.mk (blk_drew BK410.out)
          have n1_ := Aside0.mk (below_drew1 HB.out)
          clear BK410 HB
          have BK410 := n0_
          have HB := n1_
          clear n0_ n1_
          have q29 : (t416 : Int) ≤ ((l1.length : Int) : Int) := oda
          obtain ⟨i029, hi029, _, hsz29, _⟩ := info_parts info61
          have hroom29 : l1.length ≤ c1 := HC1.out
          have hC29 : Kd.C k61 _ (some ad411) l1.length l1 := HR1.out
          have hcut29 := cut_to (P := Try.prog) 26 61 .i64 Try.underlying26 hi029 (some ad411) l1.length c1 t416 oda q29 hroom29
          have hr29 := Kd.C_take (m := (t416 : Int).toNat) hC29 (by omega)
          have hy29 : y418.length = (t416 : Int).toNat := (by rw [Ny418.out, List.length_take]; omega)
          rw [← Ny418.out] at hr29
          rw [← hy29] at hcut29
          have HR421 := Aside0.mk hr29
          have HC421 := Aside0.mk (show y418.length ≤ c1 from by omega)
          clear hr29 hC29 hroom29 hi029 hsz29
          have KY29 := Aside0.mk hy29
          clear hy29
          replace q29 := eq_true q29
          refine start_ (n := 16) (S := fun w' => w'.cell? ⟨gb410, 0, none⟩ = some (.int .i64 a0_0) ∧ w'.cell? ⟨gb410, 1, none⟩ = some (.slice A0_1 l0_1.length c0_1)) (ds := []) #[F,F,F,F,F,F,F,F,F,F,F,F,F,F,F,F] kr rfl rfl ⟨cz0 BK410, cz1 BK410⟩ (fun hHeld => ?_); refine with_tabW spec_l4Says.tab6 spec_l4Says.bits6 (fun HT_ HW_ => ?_)
          generalize w27.drew = w28 at BK410 HB HR421 hHeld ⊢
          refine pu 1 (some 47) #[F,T,F,F,F,F,F,F,F,F,F,F,F,F,F,F] (any_of HT_.out kr) ?_
          refine pu 2 (some 48) #[F,T,T,F,F,F,F,F,F,F,F,F,F,F,F,F] (any_of HT_.out kr) ?_
          refine pu 3 (some 49) #[F,T,T,T,F,F,F,F,F,F,F,F,F,F,F,F] (any_of HT_.out kr) ?_
          refine pu 4 (some 50) #[F,T,T,T,T,F,F,F,F,F,F,F,F,F,F,F] (any_of HT_.out kr) ?_
          refine tk2 0 (some 46) #[T,T,T,T,T,F,F,F,F,F,F,F,F,F,F,F] (take_ofW HT_.out HW_.out kr) ?_
          refine one_ (i := 5) (N := some 51) #[T,T,T,T,T,T,F,F,F,F,F,F,F,F,F,F] rfl rfl (one_of HT_.out kr) (by decide) (fun K hK => ?_)
          refine goes_ Try.func51 kr rfl #[.agg #[.int .i64 a0_0, .slice A0_1 l0_1.length c0_1], .slice (some ad411) y418.length c1, .int .i64 a2] (by rfl) rfl rfl lm ?_
          with_reducible refine (ih k (by omega) a0_0 _ _ l0_1 _ _ y418 a2 false _ ?side1 ?side2 ?side3 ?side4 A17.out).mono ?_
          (case side1 => repeat (first | exact (Kd.C_below HR0_1.out HB.out) | (with_reducible refine Kd.C_alloc ?_ _) | (with_reducible refine Kd.C_drewN ?_ _) | (with_reducible refine Kd.C_drew ?_)))
          (case side2 => exact HC0_1.out)
          (case side3 => repeat (first | exact (Kd.C_below HR421.out HB.out) | (with_reducible refine Kd.C_alloc ?_ _) | (with_reducible refine Kd.C_drewN ?_ _) | (with_reducible refine Kd.C_drew ?_)))
          (case side4 => exact HC421.out)
          rintro e w30 ⟨rfl, hb⟩
          refine ⟨_, rfl, ?_⟩
          have n0_ := Aside0.mk (blk_below (bz BK410) hb)
          have n1_ := Aside0.mk (below_step bh hb)
          clear BK410 HB
          have BK410 := n0_
          have HB := n1_
          clear n0_ n1_
          (try clear hb)
          (try clear hb2)
          (try clear hk)
          (try clear hi)
          have q31 : ((ji4) : Int) ≤ ((l1.length : Int) : Int) := oda
          obtain ⟨i031, hi031, _, hsz31, _⟩ := info_parts info61
          have hroom31 : l1.length ≤ c1 := HC1.out
          have hC31 : Kd.C k61 _ (some ad411) l1.length l1 := HR1.out
          have ql31 : (t416 : Int) ≤ ((ji4) : Int) := oda
          have q031 : (0 : Int) ≤ (t416 : Int) := oda
          have hcut31 := cut_mid (P := Try.prog) 26 61 .i64 .i64 Try.underlying26 hi031 3 hsz31 (some ad411) l1.length c1 t416 (ji4) q031 ql31 q31 hroom31
          have hr31 := Kd.C_mid (lo := (t416 : Int).toNat) (hi := ((ji4) : Int).toNat) (c := c1) hC31 (by omega) (by omega) hroom31
          obtain ⟨A31, hA31⟩ : ∃ Az_, Az_ = (if c1 = (t416 : Int).toNat then (some ad411) else ((some ad411) : Option Addr).map (·.add ((t416 : Int).toNat * 3))) := ⟨_, rfl⟩
          obtain ⟨c31, hc31⟩ : ∃ cz_, cz_ = c1 - (t416 : Int).toNat := ⟨_, rfl⟩
          have hy31 : y423.length = ((ji4) : Int).toNat - (t416 : Int).toNat := (by rw [Ny423.out, List.length_drop, List.length_take] <;> omega)
          rw [show ((l1).take ((ji4) : Int).toNat).drop (t416 : Int).toNat = y423 from Ny423.out.symm] at hr31
          replace hr31 : Kd.C k61 _ A31 y423.length y423 := (by rw [hA31]; exact hr31)
          rw [← hy31, ← hA31, ← hc31] at hcut31
          have HR426 := Aside0.mk hr31
          have HC426 := Aside0.mk (show y423.length ≤ c31 from by rw [hy31, hc31]; exact Nat.sub_le_sub_right (Nat.le_trans (by omega) hroom31) _)
          clear hr31 hC31 hroom31 hi031 hsz31 hc31
          have KY31 := Aside0.mk hy31
          have KA31 := Aside0.mk hA31
          clear hy31 hA31
          replace q31 := eq_true q31
          refine hK.out _ _ ⟨cz0 BK410, cz1 BK410⟩ (fun hHeld => ?_)
          clear hK K
          refine norm_ (a' := ?_) ?_ ?_
          rotate_left
          ·show Act.put _ (some 51) _ = _
           simp only [Act.put, List.setIfInBounds_toArray, List.set_cons_zero, List.set_cons_succ, i64_w, i32_w]
           rfl
          refine pu 6 (some 52) #[T,T,T,T,T,T,T,F,F,F,F,F,F,F,F,F] (any_of HT_.out kr) ?_
          refine pu 8 (some 54) #[T,T,T,T,T,T,T,F,T,F,F,F,F,F,F,F] (any_of HT_.out kr) ?_
          refine pu 9 (some 55) #[T,T,T,T,T,T,T,F,T,T,F,F,F,F,F,F] (any_of HT_.out kr) ?_
          refine pu 10 (some 56) #[T,T,T,T,T,T,T,F,T,T,T,F,F,F,F,F] (any_of HT_.out kr) ?_
          refine pu 11 (some 57) #[T,T,T,T,T,T,T,F,T,T,T,T,F,F,F,F] (any_of HT_.out kr) ?_
          refine pu 12 (some 58) #[T,T,T,T,T,T,T,F,T,T,T,T,T,F,F,F] (any_of HT_.out kr) ?_
          refine tk2 7 (some 53) #[T,T,T,T,T,T,T,T,T,T,T,T,T,F,F,F] (take_ofW HT_.out HW_.out kr) ?_
          refine one_ (i := 13) (N := some 59) #[T,T,T,T,T,T,T,T,T,T,T,T,T,T,F,F] rfl rfl (one_of HT_.out kr) (by decide) (fun K hK => ?_)
          refine goes_ Try.func51 kr rfl #[.agg #[.int .i64 a0_0, .slice A0_1 l0_1.length c0_1], .slice A31 y423.length c31, .int .i64 a2] (by rfl) rfl rfl lm ?_
          with_reducible refine (ih k (by omega) a0_0 _ _ l0_1 _ _ y423 a2 t427 _ ?side1 ?side2 ?side3 ?side4 A26.out).mono ?_
          (case side1 => repeat (first | exact (Kd.C_below HR0_1.out HB.out) | (with_reducible refine Kd.C_alloc ?_ _) | (with_reducible refine Kd.C_drewN ?_ _) | (with_reducible refine Kd.C_drew ?_)))
          (case side2 => exact HC0_1.out)
          (case side3 => repeat (first | exact (Kd.C_below HR426.out HB.out) | (with_reducible refine Kd.C_alloc ?_ _) | (with_reducible refine Kd.C_drewN ?_ _) | (with_reducible refine Kd.C_drew ?_)))
          (case side4 => exact HC426.out)
          rintro e w32 ⟨rfl, hb⟩
          refine ⟨_, rfl, ?_⟩
          have n0_ := Aside0.mk (blk_below (bz BK410) hb)
          have n1_ := Aside0.mk (below_step bh hb)
          clear BK410 HB
          have BK410 := n0_
          have HB := n1_
          clear n0_ n1_
          (try clear hb)
          (try clear hb2)
          (try clear hk)
          (try clear hi)
          refine hK.out _ _ ⟨cz0 BK410, cz1 BK410⟩ (fun hHeld => ?_)
          clear hK K
          refine norm_ (a' := ?_) ?_ ?_
          rotate_left
          ·show Act.put _ (some 59) _ = _
           simp only [Act.put, List.setIfInBounds_toArray, List.set_cons_zero, List.set_cons_succ, i64_w, i32_w]
           rfl
          refine pu 14 (some 60) #[T,T,T,T,T,T,T,T,T,T,T,T,T,T,T,F] (any_of HT_.out kr) ?_
          refine pu 15 (some 6) #[T,T,T,T,T,T,T,T,T,T,T,T,T,T,T,T] (any_of HT_.out kr) ?_
          refine done_ (done_of HT_.out kr) ?_
          try go_wp2
          go_ret
          exact ⟨by first | rfl | (simp [errW_none, errW_some] <;> rfl) | (simp only [← hji4]; first | rfl | (simp [errW_none, errW_some] <;> rfl)) | (simp [*, errW_none, errW_some] <;> rfl), by exact bh⟩
         ·rw [if_neg c25] at H
          exact absurd H (by simp)
        ·rw [if_neg c24] at H
         exact absurd H (by simp)
      ·rw [if_neg c16] at H
       exact absurd H (by simp)
     ·rw [if_neg c15] at H
      exact absurd H (by simp)
    ·rw [if_neg c14] at H
     have c14b0 : (((rd_T61 l1 (ji4)).f0) == 2) = false := beq_eq_false_iff_ne.mpr c14
     have c14b1 : (((rd_T61 l1 (ji4)).f0) != 2) = true := bne_iff_ne.mpr c14
     by_cases c33 : 0 ≤ t416
     ·rw [if_pos c33] at H
      have c33b0 := eq_true c33
      have c33b1 : decide (0 ≤ t416) = true := decide_eq_true c33
      clear c33
      by_cases c34 : t416 ≤ (l1.length : Int)
      ·rw [if_pos c34] at H
       have c34b0 := eq_true c34
       have c34b1 : decide (t416 ≤ (l1.length : Int)) = true := decide_eq_true c34
       clear c34
       obtain ⟨y428, hy428⟩ : ∃ y_ : List (S61), y_ = (l1.take (t416 : Int).toNat) := ⟨_, rfl⟩
       replace H : ((spec_l4Says.f k a0_0 l0_1 y428 a2).bind fun t432 => (if t432 = true then (if t416 ≤ (ji4) then (if (ji4) ≤ (l1.length : Int) then ((spec_l4Says.f k a0_0 l0_1 ((l1.take ((ji4) : Int).toNat).drop (t416 : Int).toNat) a2).bind fun t437 => (some t437)) else (none)) else (none)) else (some false))) = some r := by first | (rw [hy428]; with_reducible exact H) | (have H2_ := (Option.bind_some _ _).symm.trans H; rw [hy428]; with_reducible exact H2_) | (have H2_ := (Option.bind_some _ _).symm.trans H; with_reducible exact H2_) | with_reducible exact H | (rw [hy428]; exact H) | exact H
       have Ny428 := Aside0.mk hy428
       clear hy428
       replace H := Option.bind_eq_some_iff.mp H
       obtain ⟨t432, A350, H⟩ := H
       replace H : (if t432 = true then (if t416 ≤ (ji4) then (if (ji4) ≤ (l1.length : Int) then ((spec_l4Says.f k a0_0 l0_1 ((l1.take ((ji4) : Int).toNat).drop (t416 : Int).toNat) a2).bind fun t437 => (some t437)) else (none)) else (none)) else (some false)) = some r := H
       have A35 := Aside0.mk A350
       clear A350
       by_cases c36 : t432 = true
       ·subst c36
        have H1 : (if t416 ≤ (ji4) then (if (ji4) ≤ (l1.length : Int) then ((spec_l4Says.f k a0_0 l0_1 ((l1.take ((ji4) : Int).toNat).drop (t416 : Int).toNat) a2).bind fun t437 => (some t437)) else (none)) else (none)) = some r := by rw [if_pos rfl] at H; exact H
        clear H
        have H := H1
        clear H1
        have c37b0 := eq_true (oda : 0 ≤ t416)
        by_cases c38 : t416 ≤ (ji4)
        ·rw [if_pos c38] at H
         have c38b0 := eq_true c38
         have c38b1 : decide (t416 ≤ (ji4)) = true := decide_eq_true c38
         clear c38
         by_cases c39 : (ji4) ≤ (l1.length : Int)
         ·rw [if_pos c39] at H
          have c39b0 := eq_true c39
          have c39b1 : decide ((ji4) ≤ (l1.length : Int)) = true := decide_eq_true c39
          clear c39
          obtain ⟨y433, hy433⟩ : ∃ y_ : List (S61), y_ = ((l1.take ((ji4) : Int).toNat).drop (t416 : Int).toNat) := ⟨_, rfl⟩
          replace H : ((spec_l4Says.f k a0_0 l0_1 y433 a2).bind fun t437 => (some t437)) = some r := by first | (rw [hy433]; with_reducible exact H) | (have H2_ := (Option.bind_some _ _).symm.trans H; rw [hy433]; with_reducible exact H2_) | (have H2_ := (Option.bind_some _ _).symm.trans H; with_reducible exact H2_) | with_reducible exact H | (rw [hy433]; exact H) | exact H
          have Ny433 := Aside0.mk hy433
          clear hy433
          replace H := Option.bind_eq_some_iff.mp H
          obtain ⟨t437, A400, H⟩ := H
          replace H : (some t437) = some r := H
          have A40 := Aside0.mk A400
          clear A400
          obtain rfl := Option.some.inj H
          go_enter Try.func51, Try.ntmps51
          try go_wp2_with (first | ((with_reducible refine gate_dst (N := 3) rfl ?_); refine box_event ?hg (N := 3) ?hd (cs := #[.int .i64 a0_0, .slice A0_1 l0_1.length c0_1]) (t := 25) ?hr ?_; (case hd => rfl); (case hg => rfl); (case hr => first | (go_simp; done) | (go_simp; rfl)); intro gb410 hg w41 hbox hb; have n0_ := Aside0.mk (below_step bh hb); have n1_ := Aside0.mk (hbox); have n2_ := Aside0.mk ((gs (W0 := w) hg bh)); have n3_ := Aside0.mk ((gs (W0 := w) hg bh)); clear HB; have HB := n0_; have BK410 := n1_; have GW410 := n2_; have GE410 := n3_; clear n0_ n1_ n2_ n3_ hb hbox hg; have p411 : 0 ≤ ((ji4) : Int) := oda; have q411 : (ji4) < (l1.length : Int) := oda; obtain ⟨ad411, e411, hx411_0, hx411_1, hx411_2⟩ := at_T61 HR1.out (ji4) p411 q411; cases e411; replace hx411_0 := (HB.out.cell (World.block_lt_of_cell? w _ hx411_0)).trans hx411_0; replace hx411_1 := (HB.out.cell (World.block_lt_of_cell? w _ hx411_1)).trans hx411_1; replace hx411_2 := (HB.out.cell (World.block_lt_of_cell? w _ hx411_2)).trans hx411_2; replace p411 := eq_true p411; replace q411 := eq_true q411) | ((with_reducible refine gate_callee (f := 72) rfl ?_); refine goesL_ (some 39) rfl rfl Try.func72 kr rfl #[.slice (some ad411) l1.length c1, .int .i64 (wrap64 ((ji4) - 1))] rfl (by (try simp only [List.map_toArray, List.map_cons, List.map_nil]); first | done | (simp only [hji4]; rfl) | rfl | (simp only [List.length_drop, List.length_take]; rfl)) ?_; (with_reducible refine (spec_l3Starts.calls k _ _ l1 (wrap64 ((ji4) - 1)) t416 _ ?side1 ?side2 A13.out).mono ?_); (case side1 => repeat (first | exact (Kd.C_below HR1.out HB.out) | (with_reducible refine Kd.C_alloc ?_ _) | (with_reducible refine Kd.C_drewN ?_ _) | (with_reducible refine Kd.C_drew ?_))); (case side2 => exact HC1.out); rintro e w' ⟨rfl, ⟨nd, rfl⟩⟩; refine ⟨_, rfl, ?_⟩; have p417 : 0 ≤ ((ji4) : Int) := oda; have q417 : (ji4) < (l1.length : Int) := oda; obtain ⟨ad417, e417, hx417_0, hx417_1, hx417_2⟩ := at_T61 HR1.out (ji4) p417 q417; obtain rfl : ad411 = ad417 := (by injection e417); replace hx417_0 := (HB.out.cell (World.block_lt_of_cell? w _ hx417_0)).trans hx417_0; replace hx417_1 := (HB.out.cell (World.block_lt_of_cell? w _ hx417_1)).trans hx417_1; replace hx417_2 := (HB.out.cell (World.block_lt_of_cell? w _ hx417_2)).trans hx417_2; replace p417 := eq_true p417; replace q417 := eq_true q417))
          (try (rw [drewN_self w41]; generalize hq_ : World.drewN w41 _ = w41; have n0_ : Aside0 (w41.heap[gb410]? = some (.cells #[.int .i64 a0_0, .slice A0_1 l0_1.length c0_1] 25 (0, 0))) := ⟨by rw [← hq_]; exact (bz BK410)⟩; have n1_ : Aside0 (Below w.heap.size w w41) := ⟨by rw [← hq_]; exact bh⟩; clear BK410 HB hq_; have BK410 := n0_; have HB := n1_; clear n0_ n1_))
          have n0_ := Aside0.mk (blk_drew BK410.out)
          have n1_ := Aside0.mk (below_drew1 HB.out)
          clear BK410 HB
          have BK410 := n0_
          have HB := n1_
          clear n0_ n1_
          have q43 : (t416 : Int) ≤ ((l1.length : Int) : Int) := oda
          obtain ⟨i043, hi043, _, hsz43, _⟩ := info_parts info61
          have hroom43 : l1.length ≤ c1 := HC1.out
          have hC43 : Kd.C k61 _ (some ad411) l1.length l1 := HR1.out
          have hcut43 := cut_to (P := Try.prog) 26 61 .i64 Try.underlying26 hi043 (some ad411) l1.length c1 t416 oda q43 hroom43
          have hr43 := Kd.C_take (m := (t416 : Int).toNat) hC43 (by omega)
          have hy43 : y428.length = (t416 : Int).toNat := (by rw [Ny428.out, List.length_take]; omega)
          rw [← Ny428.out] at hr43
          rw [← hy43] at hcut43
          have HR431 := Aside0.mk hr43
          have HC431 := Aside0.mk (show y428.length ≤ c1 from by omega)
          clear hr43 hC43 hroom43 hi043 hsz43
          have KY43 := Aside0.mk hy43
          clear hy43
          replace q43 := eq_true q43
          refine start_ (n := 16) (S := fun w' => w'.cell? ⟨gb410, 0, none⟩ = some (.int .i64 a0_0) ∧ w'.cell? ⟨gb410, 1, none⟩ = some (.slice A0_1 l0_1.length c0_1)) (ds := []) #[F,F,F,F,F,F,F,F,F,F,F,F,F,F,F,F] kr rfl rfl ⟨cz0 BK410, cz1 BK410⟩ (fun hHeld => ?_); refine with_tabW spec_l4Says.tab7 spec_l4Says.bits7 (fun HT_ HW_ => ?_)
          generalize w41.drew = w42 at BK410 HB HR431 hHeld ⊢
          refine pu 1 (some 62) #[F,T,F,F,F,F,F,F,F,F,F,F,F,F,F,F] (any_of HT_.out kr) ?_
          refine pu 2 (some 63) #[F,T,T,F,F,F,F,F,F,F,F,F,F,F,F,F] (any_of HT_.out kr) ?_
          refine pu 3 (some 64) #[F,T,T,T,F,F,F,F,F,F,F,F,F,F,F,F] (any_of HT_.out kr) ?_
          refine pu 4 (some 65) #[F,T,T,T,T,F,F,F,F,F,F,F,F,F,F,F] (any_of HT_.out kr) ?_
          refine tk2 0 (some 61) #[T,T,T,T,T,F,F,F,F,F,F,F,F,F,F,F] (take_ofW HT_.out HW_.out kr) ?_
          refine one_ (i := 5) (N := some 66) #[T,T,T,T,T,T,F,F,F,F,F,F,F,F,F,F] rfl rfl (one_of HT_.out kr) (by decide) (fun K hK => ?_)
          refine goes_ Try.func51 kr rfl #[.agg #[.int .i64 a0_0, .slice A0_1 l0_1.length c0_1], .slice (some ad411) y428.length c1, .int .i64 a2] (by rfl) rfl rfl lm ?_
          with_reducible refine (ih k (by omega) a0_0 _ _ l0_1 _ _ y428 a2 true _ ?side1 ?side2 ?side3 ?side4 A35.out).mono ?_
          (case side1 => repeat (first | exact (Kd.C_below HR0_1.out HB.out) | (with_reducible refine Kd.C_alloc ?_ _) | (with_reducible refine Kd.C_drewN ?_ _) | (with_reducible refine Kd.C_drew ?_)))
          (case side2 => exact HC0_1.out)
          (case side3 => repeat (first | exact (Kd.C_below HR431.out HB.out) | (with_reducible refine Kd.C_alloc ?_ _) | (with_reducible refine Kd.C_drewN ?_ _) | (with_reducible refine Kd.C_drew ?_)))
          (case side4 => exact HC431.out)
          rintro e w44 ⟨rfl, hb⟩
          refine ⟨_, rfl, ?_⟩
          have n0_ := Aside0.mk (blk_below (bz BK410) hb)
          have n1_ := Aside0.mk (below_step bh hb)
          clear BK410 HB
          have BK410 := n0_
          have HB := n1_
          clear n0_ n1_
          (try clear hb)
          (try clear hb2)
          (try clear hk)
          (try clear hi)
          have q45 : ((ji4) : Int) ≤ ((l1.length : Int) : Int) := oda
          obtain ⟨i045, hi045, _, hsz45, _⟩ := info_parts info61
          have hroom45 : l1.length ≤ c1 := HC1.out
          have hC45 : Kd.C k61 _ (some ad411) l1.length l1 := HR1.out
          have ql45 : (t416 : Int) ≤ ((ji4) : Int) := oda
          have q045 : (0 : Int) ≤ (t416 : Int) := oda
          have hcut45 := cut_mid (P := Try.prog) 26 61 .i64 .i64 Try.underlying26 hi045 3 hsz45 (some ad411) l1.length c1 t416 (ji4) q045 ql45 q45 hroom45
          have hr45 := Kd.C_mid (lo := (t416 : Int).toNat) (hi := ((ji4) : Int).toNat) (c := c1) hC45 (by omega) (by omega) hroom45
          obtain ⟨A45, hA45⟩ : ∃ Az_, Az_ = (if c1 = (t416 : Int).toNat then (some ad411) else ((some ad411) : Option Addr).map (·.add ((t416 : Int).toNat * 3))) := ⟨_, rfl⟩
          obtain ⟨c45, hc45⟩ : ∃ cz_, cz_ = c1 - (t416 : Int).toNat := ⟨_, rfl⟩
          have hy45 : y433.length = ((ji4) : Int).toNat - (t416 : Int).toNat := (by rw [Ny433.out, List.length_drop, List.length_take] <;> omega)
          rw [show ((l1).take ((ji4) : Int).toNat).drop (t416 : Int).toNat = y433 from Ny433.out.symm] at hr45
          replace hr45 : Kd.C k61 _ A45 y433.length y433 := (by rw [hA45]; exact hr45)
          rw [← hy45, ← hA45, ← hc45] at hcut45
          have HR436 := Aside0.mk hr45
          have HC436 := Aside0.mk (show y433.length ≤ c45 from by rw [hy45, hc45]; exact Nat.sub_le_sub_right (Nat.le_trans (by omega) hroom45) _)
          clear hr45 hC45 hroom45 hi045 hsz45 hc45
          have KY45 := Aside0.mk hy45
          have KA45 := Aside0.mk hA45
          clear hy45 hA45
          replace q45 := eq_true q45
          refine hK.out _ _ ⟨cz0 BK410, cz1 BK410⟩ (fun hHeld => ?_)
          clear hK K
          refine norm_ (a' := ?_) ?_ ?_
          rotate_left
          ·show Act.put _ (some 66) _ = _
           simp only [Act.put, List.setIfInBounds_toArray, List.set_cons_zero, List.set_cons_succ, i64_w, i32_w]
           rfl
          refine pu 6 (some 67) #[T,T,T,T,T,T,T,F,F,F,F,F,F,F,F,F] (any_of HT_.out kr) ?_
          refine pu 8 (some 69) #[T,T,T,T,T,T,T,F,T,F,F,F,F,F,F,F] (any_of HT_.out kr) ?_
          refine pu 9 (some 70) #[T,T,T,T,T,T,T,F,T,T,F,F,F,F,F,F] (any_of HT_.out kr) ?_
          refine pu 10 (some 71) #[T,T,T,T,T,T,T,F,T,T,T,F,F,F,F,F] (any_of HT_.out kr) ?_
          refine pu 11 (some 72) #[T,T,T,T,T,T,T,F,T,T,T,T,F,F,F,F] (any_of HT_.out kr) ?_
          refine pu 12 (some 73) #[T,T,T,T,T,T,T,F,T,T,T,T,T,F,F,F] (any_of HT_.out kr) ?_
          refine tk2 7 (some 68) #[T,T,T,T,T,T,T,T,T,T,T,T,T,F,F,F] (take_ofW HT_.out HW_.out kr) ?_
          refine one_ (i := 13) (N := some 74) #[T,T,T,T,T,T,T,T,T,T,T,T,T,T,F,F] rfl rfl (one_of HT_.out kr) (by decide) (fun K hK => ?_)
          refine goes_ Try.func51 kr rfl #[.agg #[.int .i64 a0_0, .slice A0_1 l0_1.length c0_1], .slice A45 y433.length c45, .int .i64 a2] (by rfl) rfl rfl lm ?_
          with_reducible refine (ih k (by omega) a0_0 _ _ l0_1 _ _ y433 a2 t437 _ ?side1 ?side2 ?side3 ?side4 A40.out).mono ?_
          (case side1 => repeat (first | exact (Kd.C_below HR0_1.out HB.out) | (with_reducible refine Kd.C_alloc ?_ _) | (with_reducible refine Kd.C_drewN ?_ _) | (with_reducible refine Kd.C_drew ?_)))
          (case side2 => exact HC0_1.out)
          (case side3 => repeat (first | exact (Kd.C_below HR436.out HB.out) | (with_reducible refine Kd.C_alloc ?_ _) | (with_reducible refine Kd.C_drewN ?_ _) | (with_reducible refine Kd.C_drew ?_)))
          (case side4 => exact HC436.out)
          rintro e w46 ⟨rfl, hb⟩
          refine ⟨_, rfl, ?_⟩
          have n0_ := Aside0.mk (blk_below (bz BK410) hb)
          have n1_ := Aside0.mk (below_step bh hb)
          clear BK410 HB
          have BK410 := n0_
          have HB := n1_
          clear n0_ n1_
          (try clear hb)
          (try clear hb2)
          (try clear hk)
          (try clear hi)
          refine hK.out _ _ ⟨cz0 BK410, cz1 BK410⟩ (fun hHeld => ?_)
          clear hK K
          refine norm_ (a' := ?_) ?_ ?_
          rotate_left
          ·show Act.put _ (some 74) _ = _
           simp only [Act.put, List.setIfInBounds_toArray, List.set_cons_zero, List.set_cons_succ, i64_w, i32_w]
           rfl
          refine pu 14 (some 75) #[T,T,T,T,T,T,T,T,T,T,T,T,T,T,T,F] (any_of HT_.out kr) ?_
          refine pu 15 (some 6) #[T,T,T,T,T,T,T,T,T,T,T,T,T,T,T,T] (any_of HT_.out kr) ?_
          refine done_ (done_of HT_.out kr) ?_
          try go_wp2
          go_ret
          exact ⟨by first | rfl | (simp [errW_none, errW_some] <;> rfl) | (simp only [← hji4]; first | rfl | (simp [errW_none, errW_some] <;> rfl)) | (simp [*, errW_none, errW_some] <;> rfl), by exact bh⟩
         ·rw [if_neg c39] at H
          exact absurd H (by simp)
        ·rw [if_neg c38] at H
         exact absurd H (by simp)
       ·replace c36 := Bool.eq_false_iff.mpr c36
        subst c36
        have H1 : (some false) = some r := by rw [if_neg (show ¬ (false = true) by decide)] at H; exact H
        clear H
        have H := H1
        clear H1
        obtain rfl := Option.some.inj H
        go_enter Try.func51, Try.ntmps51
        try go_wp2_with (first | ((with_reducible refine gate_dst (N := 3) rfl ?_); refine box_event ?hg (N := 3) ?hd (cs := #[.int .i64 a0_0, .slice A0_1 l0_1.length c0_1]) (t := 25) ?hr ?_; (case hd => rfl); (case hg => rfl); (case hr => first | (go_simp; done) | (go_simp; rfl)); intro gb410 hg w47 hbox hb; have n0_ := Aside0.mk (below_step bh hb); have n1_ := Aside0.mk (hbox); have n2_ := Aside0.mk ((gs (W0 := w) hg bh)); have n3_ := Aside0.mk ((gs (W0 := w) hg bh)); clear HB; have HB := n0_; have BK410 := n1_; have GW410 := n2_; have GE410 := n3_; clear n0_ n1_ n2_ n3_ hb hbox hg; have p411 : 0 ≤ ((ji4) : Int) := oda; have q411 : (ji4) < (l1.length : Int) := oda; obtain ⟨ad411, e411, hx411_0, hx411_1, hx411_2⟩ := at_T61 HR1.out (ji4) p411 q411; cases e411; replace hx411_0 := (HB.out.cell (World.block_lt_of_cell? w _ hx411_0)).trans hx411_0; replace hx411_1 := (HB.out.cell (World.block_lt_of_cell? w _ hx411_1)).trans hx411_1; replace hx411_2 := (HB.out.cell (World.block_lt_of_cell? w _ hx411_2)).trans hx411_2; replace p411 := eq_true p411; replace q411 := eq_true q411) | ((with_reducible refine gate_callee (f := 72) rfl ?_); refine goesL_ (some 39) rfl rfl Try.func72 kr rfl #[.slice (some ad411) l1.length c1, .int .i64 (wrap64 ((ji4) - 1))] rfl (by (try simp only [List.map_toArray, List.map_cons, List.map_nil]); first | done | (simp only [hji4]; rfl) | rfl | (simp only [List.length_drop, List.length_take]; rfl)) ?_; (with_reducible refine (spec_l3Starts.calls k _ _ l1 (wrap64 ((ji4) - 1)) t416 _ ?side1 ?side2 A13.out).mono ?_); (case side1 => repeat (first | exact (Kd.C_below HR1.out HB.out) | (with_reducible refine Kd.C_alloc ?_ _) | (with_reducible refine Kd.C_drewN ?_ _) | (with_reducible refine Kd.C_drew ?_))); (case side2 => exact HC1.out); rintro e w' ⟨rfl, ⟨nd, rfl⟩⟩; refine ⟨_, rfl, ?_⟩; have p417 : 0 ≤ ((ji4) : Int) := oda; have q417 : (ji4) < (l1.length : Int) := oda; obtain ⟨ad417, e417, hx417_0, hx417_1, hx417_2⟩ := at_T61 HR1.out (ji4) p417 q417; obtain rfl : ad411 = ad417 := (by injection e417); replace hx417_0 := (HB.out.cell (World.block_lt_of_cell? w _ hx417_0)).trans hx417_0; replace hx417_1 := (HB.out.cell (World.block_lt_of_cell? w _ hx417_1)).trans hx417_1; replace hx417_2 := (HB.out.cell (World.block_lt_of_cell? w _ hx417_2)).trans hx417_2; replace p417 := eq_true p417; replace q417 := eq_true q417))
        (try (rw [drewN_self w47]; generalize hq_ : World.drewN w47 _ = w47; have n0_ : Aside0 (w47.heap[gb410]? = some (.cells #[.int .i64 a0_0, .slice A0_1 l0_1.length c0_1] 25 (0, 0))) := ⟨by rw [← hq_]; exact (bz BK410)⟩; have n1_ : Aside0 (Below w.heap.size w w47) := ⟨by rw [← hq_]; exact bh⟩; clear BK410 HB hq_; have BK410 := n0_; have HB := n1_; clear n0_ n1_))
        have n0_ := Aside0.mk (blk_drew BK410.out)
        have n1_ := Aside0.mk (below_drew1 HB.out)
        clear BK410 HB
        have BK410 := n0_
        have HB := n1_
        clear n0_ n1_
        have q49 : (t416 : Int) ≤ ((l1.length : Int) : Int) := oda
        obtain ⟨i049, hi049, _, hsz49, _⟩ := info_parts info61
        have hroom49 : l1.length ≤ c1 := HC1.out
        have hC49 : Kd.C k61 _ (some ad411) l1.length l1 := HR1.out
        have hcut49 := cut_to (P := Try.prog) 26 61 .i64 Try.underlying26 hi049 (some ad411) l1.length c1 t416 oda q49 hroom49
        have hr49 := Kd.C_take (m := (t416 : Int).toNat) hC49 (by omega)
        have hy49 : y428.length = (t416 : Int).toNat := (by rw [Ny428.out, List.length_take]; omega)
        rw [← Ny428.out] at hr49
        rw [← hy49] at hcut49
        have HR431 := Aside0.mk hr49
        have HC431 := Aside0.mk (show y428.length ≤ c1 from by omega)
        clear hr49 hC49 hroom49 hi049 hsz49
        have KY49 := Aside0.mk hy49
        clear hy49
        replace q49 := eq_true q49
        refine start_ (n := 16) (S := fun w' => w'.cell? ⟨gb410, 0, none⟩ = some (.int .i64 a0_0) ∧ w'.cell? ⟨gb410, 1, none⟩ = some (.slice A0_1 l0_1.length c0_1)) (ds := []) #[F,F,F,F,F,F,F,F,F,F,F,F,F,F,F,F] kr rfl rfl ⟨cz0 BK410, cz1 BK410⟩ (fun hHeld => ?_); refine with_tabW spec_l4Says.tab7 spec_l4Says.bits7 (fun HT_ HW_ => ?_)
        generalize w47.drew = w48 at BK410 HB HR431 hHeld ⊢
        refine pu 1 (some 62) #[F,T,F,F,F,F,F,F,F,F,F,F,F,F,F,F] (any_of HT_.out kr) ?_
        refine pu 2 (some 63) #[F,T,T,F,F,F,F,F,F,F,F,F,F,F,F,F] (any_of HT_.out kr) ?_
        refine pu 3 (some 64) #[F,T,T,T,F,F,F,F,F,F,F,F,F,F,F,F] (any_of HT_.out kr) ?_
        refine pu 4 (some 65) #[F,T,T,T,T,F,F,F,F,F,F,F,F,F,F,F] (any_of HT_.out kr) ?_
        refine tk2 0 (some 61) #[T,T,T,T,T,F,F,F,F,F,F,F,F,F,F,F] (take_ofW HT_.out HW_.out kr) ?_
        refine one_ (i := 5) (N := some 66) #[T,T,T,T,T,T,F,F,F,F,F,F,F,F,F,F] rfl rfl (one_of HT_.out kr) (by decide) (fun K hK => ?_)
        refine goes_ Try.func51 kr rfl #[.agg #[.int .i64 a0_0, .slice A0_1 l0_1.length c0_1], .slice (some ad411) y428.length c1, .int .i64 a2] (by rfl) rfl rfl lm ?_
        with_reducible refine (ih k (by omega) a0_0 _ _ l0_1 _ _ y428 a2 false _ ?side1 ?side2 ?side3 ?side4 A35.out).mono ?_
        (case side1 => repeat (first | exact (Kd.C_below HR0_1.out HB.out) | (with_reducible refine Kd.C_alloc ?_ _) | (with_reducible refine Kd.C_drewN ?_ _) | (with_reducible refine Kd.C_drew ?_)))
        (case side2 => exact HC0_1.out)
        (case side3 => repeat (first | exact (Kd.C_below HR431.out HB.out) | (with_reducible refine Kd.C_alloc ?_ _) | (with_reducible refine Kd.C_drewN ?_ _) | (with_reducible refine Kd.C_drew ?_)))
        (case side4 => exact HC431.out)
        rintro e w50 ⟨rfl, hb⟩
        refine ⟨_, rfl, ?_⟩
        have n0_ := Aside0.mk (blk_below (bz BK410) hb)
        have n1_ := Aside0.mk (below_step bh hb)
        clear BK410 HB
        have BK410 := n0_
        have HB := n1_
        clear n0_ n1_
        (try clear hb)
        (try clear hb2)
        (try clear hk)
        (try clear hi)
        refine hK.out _ _ ⟨cz0 BK410, cz1 BK410⟩ (fun hHeld => ?_)
        clear hK K
        refine norm_ (a' := ?_) ?_ ?_
        rotate_left
        ·show Act.put _ (some 66) _ = _
         simp only [Act.put, List.setIfInBounds_toArray, List.set_cons_zero, List.set_cons_succ, i64_w, i32_w]
         rfl
        refine pu 6 (some 67) #[T,T,T,T,T,T,T,F,F,F,F,F,F,F,F,F] (any_of HT_.out kr) ?_
        refine pure_ (i := 7) (N := some 68) (v := undef) (a' := ?_) #[T,T,T,T,T,T,T,T,F,F,F,F,F,F,F,F] rfl rfl (any_of HT_.out kr) (fun _ _ _ h => h) (Or.inr ⟨by rfl, rfl⟩) ?_ ?_
        rotate_left
        ·simp only [Act.put, List.setIfInBounds_toArray, List.set_cons_zero, List.set_cons_succ, i64_w, i32_w]
         rfl
        refine pure_ (i := 8) (N := some 69) (v := undef) (a' := ?_) #[T,T,T,T,T,T,T,T,T,F,F,F,F,F,F,F] rfl rfl (any_of HT_.out kr) (fun _ _ _ h => h) (Or.inr ⟨by rfl, rfl⟩) ?_ ?_
        rotate_left
        ·simp only [Act.put, List.setIfInBounds_toArray, List.set_cons_zero, List.set_cons_succ, i64_w, i32_w]
         rfl
        refine pure_ (i := 9) (N := some 70) (v := undef) (a' := ?_) #[T,T,T,T,T,T,T,T,T,T,F,F,F,F,F,F] rfl rfl (any_of HT_.out kr) (fun _ _ _ h => h) (Or.inr ⟨by rfl, rfl⟩) ?_ ?_
        rotate_left
        ·simp only [Act.put, List.setIfInBounds_toArray, List.set_cons_zero, List.set_cons_succ, i64_w, i32_w]
         rfl
        refine pure_ (i := 10) (N := some 71) (v := undef) (a' := ?_) #[T,T,T,T,T,T,T,T,T,T,T,F,F,F,F,F] rfl rfl (any_of HT_.out kr) (fun _ _ _ h => h) (Or.inr ⟨by rfl, rfl⟩) ?_ ?_
        rotate_left
        ·simp only [Act.put, List.setIfInBounds_toArray, List.set_cons_zero, List.set_cons_succ, i64_w, i32_w]
         rfl
        refine pure_ (i := 11) (N := some 72) (v := undef) (a' := ?_) #[T,T,T,T,T,T,T,T,T,T,T,T,F,F,F,F] rfl rfl (any_of HT_.out kr) (fun _ _ _ h => h) (Or.inr ⟨by rfl, rfl⟩) ?_ ?_
        rotate_left
        ·simp only [Act.put, List.setIfInBounds_toArray, List.set_cons_zero, List.set_cons_succ, i64_w, i32_w]
         rfl
        refine pure_ (i := 12) (N := some 73) (v := undef) (a' := ?_) #[T,T,T,T,T,T,T,T,T,T,T,T,T,F,F,F] rfl rfl (any_of HT_.out kr) (fun _ _ _ h => h) (Or.inr ⟨by rfl, rfl⟩) ?_ ?_
        rotate_left
        ·simp only [Act.put, List.setIfInBounds_toArray, List.set_cons_zero, List.set_cons_succ, i64_w, i32_w]
         rfl
        refine pure_ (i := 13) (N := some 74) (v := undef) (a' := ?_) #[T,T,T,T,T,T,T,T,T,T,T,T,T,T,F,F] rfl rfl (any_of HT_.out kr) (fun _ _ _ h => h) (Or.inr ⟨by rfl, rfl⟩) ?_ ?_
        rotate_left
        ·simp only [Act.put, List.setIfInBounds_toArray, List.set_cons_zero, List.set_cons_succ, i64_w, i32_w]
         rfl
        refine pu 14 (some 75) #[T,T,T,T,T,T,T,T,T,T,T,T,T,T,T,F] (any_of HT_.out kr) ?_
        refine pu 15 (some 6) #[T,T,T,T,T,T,T,T,T,T,T,T,T,T,T,T] (any_of HT_.out kr) ?_
        refine done_ (done_of HT_.out kr) ?_
        try go_wp2
        go_ret
        exact ⟨by first | rfl | (simp [errW_none, errW_some] <;> rfl) | (simp only [← hji4]; first | rfl | (simp [errW_none, errW_some] <;> rfl)) | (simp [*, errW_none, errW_some] <;> rfl), by exact bh⟩
      ·rw [if_neg c34] at H
       exact absurd H (by simp)
     ·rw [if_neg c33] at H
      exact absurd H (by simp)
  ·rw [if_neg c6] at H
   exact absurd H (by simp)
 ·rw [if_neg c5] at H
  exact absurd H (by simp)

end Go.Proofs.Ytaddlahbahedeaa.QFnClashOk
