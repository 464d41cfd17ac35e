-- Printed for this claim by a turned copy of the print (wip/myprint). Lean checks it. Squeezed. Worded. Tightened.
import Derived.Test.YtaddlahbahedeaaQFnClashOkx0
import Derived.Test.YtaddlahbahedeaaQFnClashOkx4
namespace Go.Proofs.Ytaddlahbahedeaa.QFnClashOk
open Go.RowKit Go.Proofs.YtaddlahbahedeaaW.PrintWords Go.Proofs.YtaddlahbahedeaaW.PrintLast Go.Proofs.YtaddlahbahedeaaW.PrintMore
attribute [local go_sem] max2_int min2_int max_two min_two max_three min_three max_four min_four Opens.cell_twice   -- for this text's walks alone
set_option linter.unusedVariables false
set_option linter.unusedSimpArgs false

/-! ### impl_consents: function 50 -/
def impl_consents.l0 : Nat → Int → List Bool → List (S61) → Int → Int → Int → List Int → Option (Bool)
 | 0, _, _, _, _, _, _, _ => none
 | k + 1, x2, x7, x14, x15, x16, x186000, x186001 => if x16 < x15 then (if 0 ≤ x16 then (if x16 < (x14.length : Int) then (if ((rd_T61 x14 x16).f0) = 0 then (if 0 ≤ ((rd_T61 x14 x16).f1) then (if ((rd_T61 x14 x16).f1) < (x186001.length : Int) then ((impl_headsOf.f (Go.bits .and .i64 (rd x186001 ((rd_T61 x14 x16).f1)) x2)).bind fun t193 => (if x7.length < 140737488355328 then (impl_consents.l0 k x2 (x7 ++ [decide (t193 ≥ ((rd_T61 x14 x16).f2))]) x14 x15 (wrap64 (x16 + 1)) x186000 x186001) else (none))) else (none)) else (none)) else (if 0 ≤ (wrap64 ((x7.length : Int) - 2)) then (if (wrap64 ((x7.length : Int) - 2)) < (x7.length : Int) then (if 0 ≤ (wrap64 ((x7.length : Int) - 1)) then (if (wrap64 ((x7.length : Int) - 1)) < (x7.length : Int) then (if rdOf false x7 (wrap64 ((x7.length : Int) - 2)) = true then (if ((rd_T61 x14 x16).f0) = 2 then (if (wrap64 ((x7.length : Int) - 2)) ≤ (x7.length : Int) then ((some (x7.take ((wrap64 ((x7.length : Int) - 2)) : Int).toNat : List Bool)).bind fun y199 => (if y199.length < 140737488355328 then (impl_consents.l0 k x2 (y199 ++ [true]) x14 x15 (wrap64 (x16 + 1)) x186000 x186001) else (none))) else (none)) else (if (wrap64 ((x7.length : Int) - 2)) ≤ (x7.length : Int) then ((some (x7.take ((wrap64 ((x7.length : Int) - 2)) : Int).toNat : List Bool)).bind fun y205 => (if y205.length < 140737488355328 then (impl_consents.l0 k x2 (y205 ++ [rdOf false x7 (wrap64 ((x7.length : Int) - 1))]) x14 x15 (wrap64 (x16 + 1)) x186000 x186001) else (none))) else (none))) else (if ((rd_T61 x14 x16).f0) = 2 then (if (wrap64 ((x7.length : Int) - 2)) ≤ (x7.length : Int) then ((some (x7.take ((wrap64 ((x7.length : Int) - 2)) : Int).toNat : List Bool)).bind fun y211 => (if y211.length < 140737488355328 then (impl_consents.l0 k x2 (y211 ++ [rdOf false x7 (wrap64 ((x7.length : Int) - 1))]) x14 x15 (wrap64 (x16 + 1)) x186000 x186001) else (none))) else (none)) else (if (wrap64 ((x7.length : Int) - 2)) ≤ (x7.length : Int) then ((some (x7.take ((wrap64 ((x7.length : Int) - 2)) : Int).toNat : List Bool)).bind fun y217 => (if y217.length < 140737488355328 then (impl_consents.l0 k x2 (y217 ++ [false]) x14 x15 (wrap64 (x16 + 1)) x186000 x186001) else (none))) else (none)))) else (none)) else (none)) else (none)) else (none))) else (none)) else (none)) else (if 0 < (x7.length : Int) then (some (rdOf false x7 0)) else (none))
def impl_consents.f (k : Nat) (a0_0 : Int) (l0_1 : List Int) (l1 : List (S61)) (a2 : Int) : Option (Bool) := impl_consents.l0 k a2 (([] : List Bool)) l1 (l1.length : Int) 0 a0_0 l0_1
theorem impl_consents.mono_l : ∀ k, (∀ y0 y1 y2 y3 y4 y5 y6, LeO (impl_consents.l0 k y0 y1 y2 y3 y4 y5 y6) (impl_consents.l0 (k + 1) y0 y1 y2 y3 y4 y5 y6))
 | 0 => fun _ _ _ _ _ _ _ r h => by simp [impl_consents.l0] at h
 | k + 1 => by
  have ih0 := impl_consents.mono_l k
  ·intro y0 y1 y2 y3 y4 y5 y6
   unfold impl_consents.l0
   repeat' first
   | (with_reducible exact ih0 _ _ _ _ _ _ _)
   | (with_reducible exact LeO.refl _)
   | (with_reducible exact LeO.none _)
   | (with_reducible refine LeO.ite ?_ ?_)
   | (with_reducible refine LeO.bind ?_ (fun _ => ?_))
   | exact ih0 _ _ _ _ _ _ _
   | exact LeO.none _
   | refine LeO.ite ?_ ?_
   | refine LeO.bind ?_ (fun _ => ?_)
theorem impl_consents.mono : ∀ a0 a1 a2 a3 k, LeO (impl_consents.f k a0 a1 a2 a3) (impl_consents.f (k + 1) a0 a1 a2 a3) := by
 intro a0 a1 a2 a3 k
 have ih0 := impl_consents.mono_l k
 unfold impl_consents.f
 repeat' first
   | (with_reducible exact ih0 _ _ _ _ _ _ _)
   | (with_reducible exact LeO.refl _)
   | (with_reducible exact LeO.none _)
   | (with_reducible refine LeO.ite ?_ ?_)
   | (with_reducible refine LeO.bind ?_ (fun _ => ?_))
   | exact ih0 _ _ _ _ _ _ _
   | exact LeO.none _
   | refine LeO.ite ?_ ?_
   | refine LeO.bind ?_ (fun _ => ?_)
def impl_consents.T6 : Bool × List (List Nat × List Nat) := (true, [([], []), ([], []), ([1], [1]), ([], []), ([3], [3]), ([2, 4], [2, 4]), ([5], [5]), ([], []), ([6, 7], [6, 7]), ([8], [8]), ([], []), ([10], [10]), ([9, 11], [9, 11]), ([12], [12]), ([0, 13, 9], [0, 13]), ([14, 14, 0, 1, 2, 3, 4, 5, 6, 7, 8, 9, 10, 11, 12, 13, 14], [0, 14])])
def impl_consents.B6 : List Nat := [0, 0, 2, 0, 8, 30, 62, 0, 254, 510, 0, 1024, 4094, 8190, 16383, 32767]
theorem impl_consents.tab6 : rtab .any (opsOf Try.f50 6) = impl_consents.T6 := by kernel_rfl
theorem impl_consents.bits6 : waitsOk impl_consents.T6.2 impl_consents.B6 = true := by kernel_rfl
def impl_consents.T7 : Bool × List (List Nat × List Nat) := (true, [([], []), ([], []), ([1], [1]), ([2], [2]), ([0, 3], [0, 3]), ([4], [4]), ([], []), ([], []), ([7], [7]), ([8], [8]), ([6, 9], [6, 9]), ([10], [10]), ([5, 0, 1, 2, 3, 4, 5], [5]), ([11, 12, 0, 1, 2, 3, 4, 5, 6, 7, 8, 9, 10, 11, 12], [11])])
def impl_consents.B7 : List Nat := [0, 0, 2, 6, 15, 31, 0, 0, 128, 384, 960, 1984, 63, 8191]
theorem impl_consents.tab7 : rtab .any (opsOf Try.f50 7) = impl_consents.T7 := by kernel_rfl
theorem impl_consents.bits7 : waitsOk impl_consents.T7.2 impl_consents.B7 = true := by kernel_rfl
set_option maxHeartbeats 8000000 in
set_option maxRecDepth 100000 in
theorem impl_consents.calls (k : Nat) (a0_0 : Int) (A0_1 : Option Addr) (c0_1 : Nat) (l0_1 : List Int) (A1 : Option Addr) (c1 : Nat) (l1 : List (S61)) (a2 : Int) (r : Bool) (w : World) (hr0_1 : Kd.C (Kd.int .i64) w A0_1 l0_1.length l0_1) (hc0_1 : l0_1.length ≤ c0_1) (hr1 : Kd.C k61 w A1 l1.length l1) (hc1 : l1.length ≤ c1) (h : impl_consents.f k a0_0 l0_1 l1 a2 = some r) :
  Calls Try.prog 50 #[.agg #[.int .i64 a0_0, .slice A0_1 l0_1.length c0_1], .slice A1 l1.length c1, .int .i64 a2] w fun e w' => e = .returned (.bool r) ∧ Below w.heap.size w w' := by
 have hu25 := Try.underlying25
 have hu61 := Try.underlying61
 have HR0_1 := Aside0.mk hr0_1
 have HC0_1 := Aside0.mk hc0_1
 clear hr0_1 hc0_1
 have HR1 := Aside0.mk hr1
 have HC1 := Aside0.mk hc1
 clear hr1 hc1
 have HB := Aside0.mk (Below.refl w.heap.size w)
 have H : (impl_consents.l0 k a2 (([] : List Bool)) l1 (l1.length : Int) 0 a0_0 l0_1) = some r := h
 clear h
 obtain ⟨y186, hy186⟩ : ∃ y_ : List Bool, y_ = (([] : List Bool)) := ⟨_, rfl⟩
 replace H : (impl_consents.l0 k a2 y186 l1 (l1.length : Int) 0 a0_0 l0_1) = some r := by first | (rw [hy186]; with_reducible exact H) | (have H2_ := (Option.bind_some _ _).symm.trans H; rw [hy186]; with_reducible exact H2_) | (have H2_ := (Option.bind_some _ _).symm.trans H; with_reducible exact H2_) | with_reducible exact H | (rw [hy186]; exact H) | exact H
 have Ny186 := Aside0.mk hy186
 clear hy186
 have H' := Aside0.mk H
 clear H
 go_enter Try.func50, Try.ntmps50
 go_wp2_with (first | ((with_reducible refine gate_dst (N := 3) rfl ?_); refine box_event ?hg (N := 3) ?hd (cs := #[.int .i64 a0_0, .slice A0_1 l0_1.length c0_1]) (t := 25) ?hr ?_; (case hd => rfl); (case hg => rfl); (case hr => first | (go_simp; done) | (go_simp; rfl)); intro gb185 hg w4 hbox hb; have n0_ := Aside0.mk (below_step bh hb); have n1_ := Aside0.mk (hbox); have n2_ := Aside0.mk ((gs (W0 := w) hg bh)); have n3_ := Aside0.mk ((gs (W0 := w) hg bh)); clear HB; have HB := n0_; have BK185 := n1_; have GW185 := n2_; have GE185 := n3_; clear n0_ n1_ n2_ n3_ hb hbox hg) | ((with_reducible refine gate_dst (N := 13) rfl ?_); refine Kd.R_lit Kd.bool _ 4 ?hg (N := 13) ?hd (xs := ([] : List Bool)) (inner := []) (ok := fun _ => True) (okp := fun _ => True) ?hr ?hp (fun _ hk => hk) trivial (Below.refl _ _) (Nat.le_refl _) (by simp) ?_; (case hd => rfl); (case hg => rfl); (case hr => first | (go_simp; done) | (go_simp; rfl)); (case hp => exact (Reps.none _ _)); intro v187 w5 ho6 hb hg_ hnew_; clear hg_ hnew_; (first | rw [← Ny186.out] at ho6 | (simp only [Int.reduceToNat] at ho6; rw [← Ny186.out] at ho6)); have n0_ := Aside0.mk (Kd.R_lower ho6 (below_size bh)); have n1_ := Aside0.mk (blk_below (bz BK185) hb); have n2_ := Aside0.mk (below_step bh hb); clear BK185 HB; have HO188 := n0_; have BK185 := n1_; have HB := n2_; clear n0_ n1_ n2_ hb ho6))
 go_loopg [7, 16] k (fun kq v7 v16 w' => ∃ (x7_1 : List Bool) (x16_1 : Int), v16 = .int .i64 x16_1 ∧ Aside0 (impl_consents.l0 kq a2 x7_1 l1 (l1.length : Int) x16_1 a0_0 l0_1 = some r) ∧ Aside0 (kq ≤ k) ∧ Aside0 (Kd.R Kd.bool 4 w' w.heap.size (fun _ => True) v7 x7_1) ∧ Aside0 (w'.heap[gb185]? = some (.cells #[.int .i64 a0_0, (.slice A0_1 l0_1.length c0_1)] 25 (0, 0))) ∧ Aside0 (Below w.heap.size w w'))
 case atStart => exact ⟨(y186), (0), (by first | rfl | (simp; done) | (simp [*]; done)), H', ⟨Nat.le_refl _⟩, ⟨rz HO188⟩, ⟨bz BK185⟩, ⟨by exact bh⟩⟩
 case round =>
  clear H'
  try clear c1
  try clear p2
  try clear c5
  obtain ⟨x7_1, x16_1, rfl, HA, HK1, HO_7, BK185, HB⟩ := hrel
  cases gk with
  | zero => exact absurd HA.out (by simp [impl_consents.l0])
  | succ k1 =>
   have H := HA.out
   clear HA
   simp only [impl_consents.l0] at H
   by_cases c7 : x16_1 < (l1.length : Int)
   ·rw [if_pos c7] at H
    have c7b0 : decide (x16_1 < (l1.length : Int)) = true := decide_eq_true c7
    clear c7
    by_cases c8 : 0 ≤ x16_1
    ·rw [if_pos c8] at H
     have c8b0 : decide (0 ≤ x16_1) = true := decide_eq_true c8
     clear c8
     by_cases c9 : x16_1 < (l1.length : Int)
     ·rw [if_pos c9] at H
      have c9b0 : decide (x16_1 < (l1.length : Int)) = true := decide_eq_true c9
      clear c9
      by_cases c10 : ((rd_T61 l1 x16_1).f0) = 0
      ·rw [if_pos c10] at H
       have c10b0 : (((rd_T61 l1 x16_1).f0) == 0) = true := beq_iff_eq.mpr c10
       have c10b1 : (((rd_T61 l1 x16_1).f0) != 0) = false := bne_eq_false_iff_eq.mpr c10
       clear c10
       by_cases c11 : 0 ≤ ((rd_T61 l1 x16_1).f1)
       ·rw [if_pos c11] at H
        have c11b0 : decide (0 ≤ ((rd_T61 l1 x16_1).f1)) = true := decide_eq_true c11
        clear c11
        by_cases c12 : ((rd_T61 l1 x16_1).f1) < (l0_1.length : Int)
        ·rw [if_pos c12] at H
         have c12b0 : decide (((rd_T61 l1 x16_1).f1) < (l0_1.length : Int)) = true := decide_eq_true c12
         clear c12
         replace H := Option.bind_eq_some_iff.mp H
         obtain ⟨t193, A130, H⟩ := H
         replace H : (if x7_1.length < 140737488355328 then (impl_consents.l0 k1 a2 (x7_1 ++ [decide (t193 ≥ ((rd_T61 l1 x16_1).f2))]) l1 (l1.length : Int) (wrap64 (x16_1 + 1)) a0_0 l0_1) else (none)) = some r := H
         have A13 := Aside0.mk A130
         clear A130
         by_cases c14 : x7_1.length < 140737488355328
         ·rw [if_pos c14] at H
          have LMc14 := Aside0.mk c14
          clear c14
          obtain ⟨y194, hy194⟩ : ∃ y_ : List Bool, y_ = (x7_1 ++ [decide (t193 ≥ ((rd_T61 l1 x16_1).f2))]) := ⟨_, rfl⟩
          replace H : (impl_consents.l0 k1 a2 y194 l1 (l1.length : Int) (wrap64 (x16_1 + 1)) a0_0 l0_1) = some r := by first | (rw [hy194]; with_reducible exact H) | (have H2_ := (Option.bind_some _ _).symm.trans H; rw [hy194]; with_reducible exact H2_) | (have H2_ := (Option.bind_some _ _).symm.trans H; with_reducible exact H2_) | with_reducible exact H | (rw [hy194]; exact H) | exact H
          have Ny194 := Aside0.mk hy194
          clear hy194
          have H' := Aside0.mk H
          clear H
          have p190 : 0 ≤ (x16_1 : Int) := oda
          have q190 : x16_1 < (l1.length : Int) := oda
          obtain ⟨ad190, e190, hx190_0, hx190_1, hx190_2⟩ := at_T61 HR1.out x16_1 p190 q190
          cases e190
          replace hx190_0 := (HB.out.cell (World.block_lt_of_cell? w _ hx190_0)).trans hx190_0
          replace hx190_1 := (HB.out.cell (World.block_lt_of_cell? w _ hx190_1)).trans hx190_1
          replace hx190_2 := (HB.out.cell (World.block_lt_of_cell? w _ hx190_2)).trans hx190_2
          replace p190 := eq_true p190
          replace q190 := eq_true q190
          try go_wp2_with (first | ((with_reducible refine gate_dst (N := 9) rfl ?_); refine box_event ?hg (N := 9) ?hd (cs := #[.int .i64 0, .int .i64 0, .int .i64 0]) (t := 61) ?hr ?_; (case hd => rfl); (case hg => rfl); (case hr => first | (go_simp; done) | (go_simp; rfl)); intro gb191 hg w15 hbox hb; have n0_ := Aside0.mk (Kd.R_below (rz HO_7) hb); have n1_ := Aside0.mk (blk_below (bz BK185) hb); have n2_ := Aside0.mk (below_step bh hb); have n3_ := Aside0.mk (hbox); have n4_ := Aside0.mk ((gs (W0 := w) hg bh)); have n5_ := Aside0.mk ((gs (W0 := w) hg bh)); have n6_ := Aside0.mk ((gn hg (bz BK185))); have n7_ := Aside0.mk ((gm hg (bz BK185))); clear HO_7 BK185 HB; have HO_7 := n0_; have BK185 := n1_; have HB := n2_; have BK191 := n3_; have GW191 := n4_; have GE191 := n5_; have NB185_191 := n6_; have NB191_185 := n7_; clear n0_ n1_ n2_ n3_ n4_ n5_ n6_ n7_ hb hbox hg; have hnb16 := NB191_185.out; have hnc16 := NB185_191.out; have hcz17_0 := cz0 BK191; have hcz17_1 := cz1 BK191; have hcz17_2 := cz2 BK191; have hfz17_0 := blk_frozen BK191.out 0; have hfz17_1 := blk_frozen BK191.out 1; have hfz17_2 := blk_frozen BK191.out 2))
          generalize hW_ : (((w15.setCell ⟨gb191, 0, none⟩ (.int .i64 ((rd_T61 l1 x16_1).f0))).setCell ⟨gb191, 1, none⟩ (.int .i64 ((rd_T61 l1 x16_1).f1))).setCell ⟨gb191, 2, none⟩ (.int .i64 ((rd_T61 l1 x16_1).f2))) = w18
          have n0_ : Aside0 (Kd.R Kd.bool 4 w18 w.heap.size (fun _ => True) u7 x7_1) := ⟨by subst hW_; (with_reducible repeat (first | apply Kd.R_alloc | apply Kd.R_drewN | apply Kd.R_drew)); exact Kd.R_mono (Kd.R_far (p := ⟨gb191, 2, none⟩) (Kd.R_far (p := ⟨gb191, 1, none⟩) (Kd.R_far (p := ⟨gb191, 0, none⟩) (Kd.R_types HO_7.out BK191.out (by decide)) (fun _ hk => hk.2) (.int .i64 ((rd_T61 l1 x16_1).f0))) (fun _ hk => hk.2) (.int .i64 ((rd_T61 l1 x16_1).f1))) (fun _ hk => hk.2) (.int .i64 ((rd_T61 l1 x16_1).f2))) (fun _ hk => trivial)⟩
          have n1_ : Aside0 (w18.heap[gb185]? = some (.cells #[.int .i64 a0_0, .slice A0_1 l0_1.length c0_1] 25 (0, 0))) := ⟨by subst hW_; (with_reducible repeat (first | refine blk_drewN ?_ _ | refine blk_drew ?_ | refine blk_alloc ?_ _)); refine blk_far ?_ NB185_191.out _; (with_reducible repeat (first | refine blk_drewN ?_ _ | refine blk_drew ?_ | refine blk_alloc ?_ _)); refine blk_far ?_ NB185_191.out _; (with_reducible repeat (first | refine blk_drewN ?_ _ | refine blk_drew ?_ | refine blk_alloc ?_ _)); refine blk_far ?_ NB185_191.out _; (with_reducible repeat (first | refine blk_drewN ?_ _ | refine blk_drew ?_ | refine blk_alloc ?_ _)); exact BK185.out⟩
          have n2_ : Aside0 (w18.heap[gb191]? = some (.cells #[.int .i64 ((rd_T61 l1 x16_1).f0), .int .i64 ((rd_T61 l1 x16_1).f1), .int .i64 ((rd_T61 l1 x16_1).f2)] 61 (0, 0))) := ⟨by subst hW_; (with_reducible repeat (first | refine blk_drewN ?_ _ | refine blk_drew ?_ | refine blk_alloc ?_ _)); refine blk_put (cs := #[.int .i64 ((rd_T61 l1 x16_1).f0), .int .i64 ((rd_T61 l1 x16_1).f1), .int .i64 0]) ?_ 2 _ rfl; (with_reducible repeat (first | refine blk_drewN ?_ _ | refine blk_drew ?_ | refine blk_alloc ?_ _)); refine blk_put (cs := #[.int .i64 ((rd_T61 l1 x16_1).f0), .int .i64 0, .int .i64 0]) ?_ 1 _ rfl; (with_reducible repeat (first | refine blk_drewN ?_ _ | refine blk_drew ?_ | refine blk_alloc ?_ _)); refine blk_put (cs := #[.int .i64 0, .int .i64 0, .int .i64 0]) ?_ 0 _ rfl; (with_reducible repeat (first | refine blk_drewN ?_ _ | refine blk_drew ?_ | refine blk_alloc ?_ _)); exact BK191.out⟩
          have n3_ : Aside0 (Below w.heap.size w w18) := ⟨by subst hW_; exact bh⟩
          clear hW_
          (try clear HO_7)
          (try clear BK185)
          (try clear BK191)
          (try clear HB)
          have HO_7 := n0_
          have BK185 := n1_
          have BK191 := n2_
          have HB := n3_
          clear n0_ n1_ n2_ n3_
          have n0_ := Aside0.mk (Kd.R_drew HO_7.out)
          have n1_ := Aside0.mk (blk_drew BK185.out)
          have n2_ := Aside0.mk (blk_drew BK191.out)
          have n3_ := Aside0.mk (below_drew1 HB.out)
          clear HO_7 BK185 BK191 HB
          have HO_7 := n0_
          have BK185 := n1_
          have BK191 := n2_
          have HB := n3_
          clear n0_ n1_ n2_ n3_
          have p192 : 0 ≤ (((rd_T61 l1 x16_1).f1) : Int) := oda
          have q192 : ((rd_T61 l1 x16_1).f1) < (l0_1.length : Int) := oda
          obtain ⟨ad192, e192, hx192_0⟩ := Kd.at_int HR0_1.out ((rd_T61 l1 x16_1).f1) p192 q192
          have hw192_0 := hx192_0
          cases e192
          replace hx192_0 := (HB.out.cell (World.block_lt_of_cell? w _ hx192_0)).trans hx192_0
          replace p192 := eq_true p192
          replace q192 := eq_true q192
          refine start_ (n := 16) (S := fun w' => w'.cell? ⟨gb185, 0, none⟩ = some (.int .i64 a0_0) ∧ w'.cell? ⟨gb185, 1, none⟩ = some (.slice (some ad192) l0_1.length c0_1) ∧ w'.cell? ⟨gb191, 0, none⟩ = some (.int .i64 ((rd_T61 l1 x16_1).f0)) ∧ w'.cell? ⟨gb191, 1, none⟩ = some (.int .i64 ((rd_T61 l1 x16_1).f1)) ∧ w'.cell? ⟨gb191, 2, none⟩ = some (.int .i64 ((rd_T61 l1 x16_1).f2)) ∧ w'.cell? (ad192.add (((rd_T61 l1 x16_1).f1)).toNat) = some (.int .i64 (rd l0_1 ((rd_T61 l1 x16_1).f1)))) (ds := []) #[F,F,F,F,F,F,F,F,F,F,F,F,F,F,F,F] kr rfl rfl ⟨cz0 BK185, cz1 BK185, cz0 BK191, cz1 BK191, cz2 BK191, ((HB.out.cell (World.block_lt_of_cell? w _ hw192_0)).trans hw192_0)⟩ (fun hHeld => ?_); refine with_tabW impl_consents.tab6 impl_consents.bits6 (fun HT_ HW_ => ?_)
          generalize w18.drew = w19 at HO_7 BK185 BK191 HB hx192_0 hHeld ⊢
          refine pu 0 (some 23) #[T,F,F,F,F,F,F,F,F,F,F,F,F,F,F,F] (any_of HT_.out kr) ?_
          refine pu 1 (some 24) #[T,T,F,F,F,F,F,F,F,F,F,F,F,F,F,F] (any_of HT_.out kr) ?_
          refine pu 3 (some 26) #[T,T,F,T,F,F,F,F,F,F,F,F,F,F,F,F] (any_of HT_.out kr) ?_
          refine pu 7 (some 30) #[T,T,F,T,F,F,F,T,F,F,F,F,F,F,F,F] (any_of HT_.out kr) ?_
          refine pu 10 (some 33) #[T,T,F,T,F,F,F,T,F,F,T,F,F,F,F,F] (any_of HT_.out kr) ?_
          refine tk6 2 (some 25) #[T,T,T,T,F,F,F,T,F,F,T,F,F,F,F,F] (take_ofW HT_.out HW_.out kr) ?_
          refine tk6 4 (some 27) #[T,T,T,T,T,F,F,T,F,F,T,F,F,F,F,F] (take_ofW HT_.out HW_.out kr) ?_
          refine pu 5 (some 28) #[T,T,T,T,T,T,F,T,F,F,T,F,F,F,F,F] (any_of HT_.out kr) ?_
          refine tk6 6 (some 29) #[T,T,T,T,T,T,T,T,F,F,T,F,F,F,F,F] (take_ofW HT_.out HW_.out kr) ?_
          refine pu 8 (some 31) #[T,T,T,T,T,T,T,T,T,F,T,F,F,F,F,F] (any_of HT_.out kr) ?_
          refine tk6 11 (some 34) #[T,T,T,T,T,T,T,T,T,F,T,T,F,F,F,F] (take_ofW HT_.out HW_.out kr) ?_
          refine one_ (i := 9) (N := some 32) #[T,T,T,T,T,T,T,T,T,T,T,T,F,F,F,F] rfl rfl (one_of HT_.out kr) (by decide) (fun K hK => ?_)
          refine goes_ Try.func71 kr rfl #[.int .i64 (Go.bits .and .i64 (rd l0_1 ((rd_T61 l1 x16_1).f1)) a2)] (by rfl) rfl rfl lm ?_
          with_reducible refine (impl_headsOf.calls (Go.bits .and .i64 (rd l0_1 ((rd_T61 l1 x16_1).f1)) a2) t193 _ A13.out).mono ?_
          rintro e w' ⟨rfl, ⟨nd, rfl⟩⟩
          refine ⟨_, rfl, ?_⟩
          refine hK.out _ _ ⟨cz0 BK185, cz1 BK185, cz0 BK191, cz1 BK191, cz2 BK191, ((HB.out.cell (World.block_lt_of_cell? w _ hw192_0)).trans hw192_0)⟩ (fun hHeld => ?_)
          clear hK K
          refine norm_ (a' := ?_) ?_ ?_
          rotate_left
          ·show Act.put _ (some 32) _ = _
           simp only [Act.put, List.setIfInBounds_toArray, List.set_cons_zero, List.set_cons_succ, i64_w, i32_w]
           rfl
          refine pu 12 (some 35) #[T,T,T,T,T,T,T,T,T,T,T,T,T,F,F,F] (any_of HT_.out kr) ?_
          refine one_ (i := 13) (N := some 36) #[T,T,T,T,T,T,T,T,T,T,T,T,T,T,F,F] rfl rfl (one_of HT_.out kr) (by decide) (fun K hK => ?_)
          refine value_ (w1 := ?_) (v := ?_) (by rfl) rfl ?_ ?_
          rotate_left 2
          ·go_simp
           constructor
           ·rfl
           ·rfl
          refine hK.out _ _ ⟨(blk_cell (blk_alloc BK185.out _) 0).trans rfl, (blk_cell (blk_alloc BK185.out _) 1).trans rfl, (blk_cell (blk_alloc BK191.out _) 0).trans rfl, (blk_cell (blk_alloc BK191.out _) 1).trans rfl, (blk_cell (blk_alloc BK191.out _) 2).trans rfl, (World.cell?_alloc_lt _ _ _ (World.block_lt_of_cell? _ _ (((HB.out.cell (World.block_lt_of_cell? w _ hw192_0)).trans hw192_0)))).trans (((HB.out.cell (World.block_lt_of_cell? w _ hw192_0)).trans hw192_0))⟩ (fun hHeld => ?_)
          clear hK K
          refine norm_ (a' := ?_) ?_ ?_
          rotate_left
          ·show Act.put _ (some 36) _ = _
           simp only [Act.put, List.setIfInBounds_toArray, List.set_cons_zero, List.set_cons_succ, i64_w, i32_w]
           rfl
          refine one_ (i := 14) (N := some 37) #[T,T,T,T,T,T,T,T,T,T,T,T,T,T,T,F] rfl rfl (one_of HT_.out kr) (by decide) (fun K hK => ?_)
          refine Kd.R_append_step Kd.bool (w0 := w) w.heap.size (by rfl) (.tmp 23) (.tmp 36) 77 4 (.bool false) 1 rfl Try.underlying77 info4 rfl (by decide) (by omega) u7 x7_1 (decide (t193 ≥ ((rd_T61 l1 x16_1).f2))) [.bool (decide (t193 ≥ ((rd_T61 l1 x16_1).f2)))] (fun _ => True) (fun _ => False) rfl rfl ?aP (fun _ hk => hk.elim) ?aF ?aO ?aB ?aS ?aL ?_
          (case aP => exact rfl)
          (case aB => exact bh)
          (case aF => exact (fun _ _ => trivial))
          (case aO => exact (rz HO_7))
          (case aS => exact (below_size bh))
          (case aL => have := LMc14.out; omega)
          intro v195 w20 ho hb hg hat
          rw [← Ny194.out] at ho
          have n0_ := Aside0.mk (blk_grown (bz BK185) hg (Kd.R_ne HO_7.out BK185.out (by decide)))
          have n1_ := Aside0.mk (blk_grown (bz BK191) hg (Kd.R_ne HO_7.out BK191.out (by decide)))
          have n2_ := Aside0.mk (hb)
          have n3_ := Aside0.mk (ho)
          clear BK185 BK191 HB HO_7
          have BK185 := n0_
          have BK191 := n1_
          have HB := n2_
          have HO196 := n3_
          clear n0_ n1_ n2_ n3_ ho hb hg hat
          refine hK.out _ _ ⟨cz0 BK185, cz1 BK185, cz0 BK191, cz1 BK191, cz2 BK191, ((HB.out.cell (World.block_lt_of_cell? w _ hw192_0)).trans hw192_0)⟩ (fun hHeld => ?_)
          clear hK K
          refine norm_ (a' := ?_) ?_ ?_
          rotate_left
          ·show Act.put _ (some 37) _ = _
           simp only [Act.put, List.setIfInBounds_toArray, List.set_cons_zero, List.set_cons_succ, i64_w, i32_w]
           rfl
          refine pu 15 (some 7) #[T,T,T,T,T,T,T,T,T,T,T,T,T,T,T,T] (any_of HT_.out kr) ?_
          refine done_ (done_of HT_.out kr) ?_
          try go_wp2
          go_roundg k1
          case measure => have := HK1.out; omega
          case rel => exact ⟨(y194), (wrap64 (x16_1 + 1)), (by first | rfl | (simp; done) | (simp [*]; done)), H', ⟨by have := HK1.out; omega⟩, ⟨rz HO196⟩, ⟨bz BK185⟩, ⟨by exact bh⟩⟩
         ·rw [if_neg c14] at H
          exact absurd H (by simp)
        ·rw [if_neg c12] at H
         exact absurd H (by simp)
       ·rw [if_neg c11] at H
        exact absurd H (by simp)
      ·rw [if_neg c10] at H
       have c10b0 : (((rd_T61 l1 x16_1).f0) == 0) = false := beq_eq_false_iff_ne.mpr c10
       have c10b1 : (((rd_T61 l1 x16_1).f0) != 0) = true := bne_iff_ne.mpr c10
       obtain ⟨ji21, hji21⟩ : ∃ j_ : Int, (wrap64 ((x7_1.length : Int) - 2)) = j_ := ⟨_, rfl⟩
       replace H : (if 0 ≤ (ji21) then (if (ji21) < (x7_1.length : Int) then (if 0 ≤ (wrap64 ((x7_1.length : Int) - 1)) then (if (wrap64 ((x7_1.length : Int) - 1)) < (x7_1.length : Int) then (if rdOf false x7_1 (ji21) = true then (if ((rd_T61 l1 x16_1).f0) = 2 then (if (ji21) ≤ (x7_1.length : Int) then ((some (x7_1.take ((ji21) : Int).toNat : List Bool)).bind fun y199 => (if y199.length < 140737488355328 then (impl_consents.l0 k1 a2 (y199 ++ [true]) l1 (l1.length : Int) (wrap64 (x16_1 + 1)) a0_0 l0_1) else (none))) else (none)) else (if (ji21) ≤ (x7_1.length : Int) then ((some (x7_1.take ((ji21) : Int).toNat : List Bool)).bind fun y205 => (if y205.length < 140737488355328 then (impl_consents.l0 k1 a2 (y205 ++ [rdOf false x7_1 (wrap64 ((x7_1.length : Int) - 1))]) l1 (l1.length : Int) (wrap64 (x16_1 + 1)) a0_0 l0_1) else (none))) else (none))) else (if ((rd_T61 l1 x16_1).f0) = 2 then (if (ji21) ≤ (x7_1.length : Int) then ((some (x7_1.take ((ji21) : Int).toNat : List Bool)).bind fun y211 => (if y211.length < 140737488355328 then (impl_consents.l0 k1 a2 (y211 ++ [rdOf false x7_1 (wrap64 ((x7_1.length : Int) - 1))]) l1 (l1.length : Int) (wrap64 (x16_1 + 1)) a0_0 l0_1) else (none))) else (none)) else (if (ji21) ≤ (x7_1.length : Int) then ((some (x7_1.take ((ji21) : Int).toNat : List Bool)).bind fun y217 => (if y217.length < 140737488355328 then (impl_consents.l0 k1 a2 (y217 ++ [false]) l1 (l1.length : Int) (wrap64 (x16_1 + 1)) a0_0 l0_1) else (none))) else (none)))) else (none)) else (none)) else (none)) else (none)) = some r := by first | (rw [hji21] at H; exact H) | (simp only [hji21] at H ⊢; exact H)
       have hji21w : (IntKind.i64.wrap ((x7_1.length : Int) - 2)) = ji21 := (i64_w _).trans hji21
       by_cases c22 : 0 ≤ (ji21)
       ·rw [if_pos c22] at H
        have c22b0 : decide (0 ≤ (ji21)) = true := decide_eq_true c22
        clear c22
        by_cases c23 : (ji21) < (x7_1.length : Int)
        ·rw [if_pos c23] at H
         have c23b0 : decide ((ji21) < (x7_1.length : Int)) = true := decide_eq_true c23
         clear c23
         obtain ⟨ji24, hji24⟩ : ∃ j_ : Int, (wrap64 ((x7_1.length : Int) - 1)) = j_ := ⟨_, rfl⟩
         replace H : (if 0 ≤ (ji24) then (if (ji24) < (x7_1.length : Int) then (if rdOf false x7_1 (ji21) = true then (if ((rd_T61 l1 x16_1).f0) = 2 then (if (ji21) ≤ (x7_1.length : Int) then ((some (x7_1.take ((ji21) : Int).toNat : List Bool)).bind fun y199 => (if y199.length < 140737488355328 then (impl_consents.l0 k1 a2 (y199 ++ [true]) l1 (l1.length : Int) (wrap64 (x16_1 + 1)) a0_0 l0_1) else (none))) else (none)) else (if (ji21) ≤ (x7_1.length : Int) then ((some (x7_1.take ((ji21) : Int).toNat : List Bool)).bind fun y205 => (if y205.length < 140737488355328 then (impl_consents.l0 k1 a2 (y205 ++ [rdOf false x7_1 (ji24)]) l1 (l1.length : Int) (wrap64 (x16_1 + 1)) a0_0 l0_1) else (none))) else (none))) else (if ((rd_T61 l1 x16_1).f0) = 2 then (if (ji21) ≤ (x7_1.length : Int) then ((some (x7_1.take ((ji21) : Int).toNat : List Bool)).bind fun y211 => (if y211.length < 140737488355328 then (impl_consents.l0 k1 a2 (y211 ++ [rdOf false x7_1 (ji24)]) l1 (l1.length : Int) (wrap64 (x16_1 + 1)) a0_0 l0_1) else (none))) else (none)) else (if (ji21) ≤ (x7_1.length : Int) then ((some (x7_1.take ((ji21) : Int).toNat : List Bool)).bind fun y217 => (if y217.length < 140737488355328 then (impl_consents.l0 k1 a2 (y217 ++ [false]) l1 (l1.length : Int) (wrap64 (x16_1 + 1)) a0_0 l0_1) else (none))) else (none)))) else (none)) else (none)) = some r := by first | (rw [hji24] at H; exact H) | (simp only [hji24] at H ⊢; exact H)
         have hji24w : (IntKind.i64.wrap ((x7_1.length : Int) - 1)) = ji24 := (i64_w _).trans hji24
         by_cases c25 : 0 ≤ (ji24)
         ·rw [if_pos c25] at H
          have c25b0 : decide (0 ≤ (ji24)) = true := decide_eq_true c25
          clear c25
          by_cases c26 : (ji24) < (x7_1.length : Int)
          ·rw [if_pos c26] at H
           have c26b0 : decide ((ji24) < (x7_1.length : Int)) = true := decide_eq_true c26
           clear c26
           obtain ⟨bq27, hbq27⟩ : ∃ b_ : Bool, b_ = (rdOf false x7_1 (ji21)) := ⟨_, rfl⟩
           replace H : (if bq27 = true then (if ((rd_T61 l1 x16_1).f0) = 2 then (if (ji21) ≤ (x7_1.length : Int) then ((some (x7_1.take ((ji21) : Int).toNat : List Bool)).bind fun y199 => (if y199.length < 140737488355328 then (impl_consents.l0 k1 a2 (y199 ++ [true]) l1 (l1.length : Int) (wrap64 (x16_1 + 1)) a0_0 l0_1) else (none))) else (none)) else (if (ji21) ≤ (x7_1.length : Int) then ((some (x7_1.take ((ji21) : Int).toNat : List Bool)).bind fun y205 => (if y205.length < 140737488355328 then (impl_consents.l0 k1 a2 (y205 ++ [rdOf false x7_1 (ji24)]) l1 (l1.length : Int) (wrap64 (x16_1 + 1)) a0_0 l0_1) else (none))) else (none))) else (if ((rd_T61 l1 x16_1).f0) = 2 then (if (ji21) ≤ (x7_1.length : Int) then ((some (x7_1.take ((ji21) : Int).toNat : List Bool)).bind fun y211 => (if y211.length < 140737488355328 then (impl_consents.l0 k1 a2 (y211 ++ [rdOf false x7_1 (ji24)]) l1 (l1.length : Int) (wrap64 (x16_1 + 1)) a0_0 l0_1) else (none))) else (none)) else (if (ji21) ≤ (x7_1.length : Int) then ((some (x7_1.take ((ji21) : Int).toNat : List Bool)).bind fun y217 => (if y217.length < 140737488355328 then (impl_consents.l0 k1 a2 (y217 ++ [false]) l1 (l1.length : Int) (wrap64 (x16_1 + 1)) a0_0 l0_1) else (none))) else (none)))) = some r := by rw [← hbq27] at H; exact H
           have Nbq27 := Aside0.mk hbq27
           clear hbq27
           by_cases c28 : bq27 = true
           ·subst c28
            have H1 : (if ((rd_T61 l1 x16_1).f0) = 2 then (if (ji21) ≤ (x7_1.length : Int) then ((some (x7_1.take ((ji21) : Int).toNat : List Bool)).bind fun y199 => (if y199.length < 140737488355328 then (impl_consents.l0 k1 a2 (y199 ++ [true]) l1 (l1.length : Int) (wrap64 (x16_1 + 1)) a0_0 l0_1) else (none))) else (none)) else (if (ji21) ≤ (x7_1.length : Int) then ((some (x7_1.take ((ji21) : Int).toNat : List Bool)).bind fun y205 => (if y205.length < 140737488355328 then (impl_consents.l0 k1 a2 (y205 ++ [rdOf false x7_1 (ji24)]) l1 (l1.length : Int) (wrap64 (x16_1 + 1)) a0_0 l0_1) else (none))) else (none))) = some r := by rw [if_pos rfl] at H; exact H
            clear H
            have H := H1
            clear H1
            by_cases c29 : ((rd_T61 l1 x16_1).f0) = 2
            ·rw [if_pos c29] at H
             have c29b0 : (((rd_T61 l1 x16_1).f0) == 2) = true := beq_iff_eq.mpr c29
             have c29b1 : (((rd_T61 l1 x16_1).f0) != 2) = false := bne_eq_false_iff_eq.mpr c29
             clear c29
             by_cases c30 : (ji21) ≤ (x7_1.length : Int)
             ·rw [if_pos c30] at H
              have c30b0 := eq_true c30
              have c30b1 : decide ((ji21) ≤ (x7_1.length : Int)) = true := decide_eq_true c30
              clear c30
              obtain ⟨y199, hy199⟩ : ∃ y_ : List Bool, y_ = (x7_1.take ((ji21) : Int).toNat) := ⟨_, rfl⟩
              replace H : (if y199.length < 140737488355328 then (impl_consents.l0 k1 a2 (y199 ++ [true]) l1 (l1.length : Int) (wrap64 (x16_1 + 1)) a0_0 l0_1) else (none)) = some r := by first | (rw [hy199]; with_reducible exact H) | (have H2_ := (Option.bind_some _ _).symm.trans H; rw [hy199]; with_reducible exact H2_) | (have H2_ := (Option.bind_some _ _).symm.trans H; with_reducible exact H2_) | with_reducible exact H | (rw [hy199]; exact H) | exact H
              have Ny199 := Aside0.mk hy199
              clear hy199
              by_cases c31 : y199.length < 140737488355328
              ·rw [if_pos c31] at H
               have LMc31 := Aside0.mk c31
               clear c31
               obtain ⟨y202, hy202⟩ : ∃ y_ : List Bool, y_ = (y199 ++ [true]) := ⟨_, rfl⟩
               replace H : (impl_consents.l0 k1 a2 y202 l1 (l1.length : Int) (wrap64 (x16_1 + 1)) a0_0 l0_1) = some r := by first | (rw [hy202]; with_reducible exact H) | (have H2_ := (Option.bind_some _ _).symm.trans H; rw [hy202]; with_reducible exact H2_) | (have H2_ := (Option.bind_some _ _).symm.trans H; with_reducible exact H2_) | with_reducible exact H | (rw [hy202]; exact H) | exact H
               have Ny202 := Aside0.mk hy202
               clear hy202
               have H' := Aside0.mk H
               clear H
               have p190 : 0 ≤ (x16_1 : Int) := oda
               have q190 : x16_1 < (l1.length : Int) := oda
               obtain ⟨ad190, e190, hx190_0, hx190_1, hx190_2⟩ := at_T61 HR1.out x16_1 p190 q190
               cases e190
               replace hx190_0 := (HB.out.cell (World.block_lt_of_cell? w _ hx190_0)).trans hx190_0
               replace hx190_1 := (HB.out.cell (World.block_lt_of_cell? w _ hx190_1)).trans hx190_1
               replace hx190_2 := (HB.out.cell (World.block_lt_of_cell? w _ hx190_2)).trans hx190_2
               replace p190 := eq_true p190
               replace q190 := eq_true q190
               try go_wp2_with (first | ((with_reducible refine gate_dst (N := 9) rfl ?_); refine box_event ?hg (N := 9) ?hd (cs := #[.int .i64 0, .int .i64 0, .int .i64 0]) (t := 61) ?hr ?_; (case hd => rfl); (case hg => rfl); (case hr => first | (go_simp; done) | (go_simp; rfl)); intro gb191 hg w32 hbox hb; have n0_ := Aside0.mk (Kd.R_below (rz HO_7) hb); have n1_ := Aside0.mk (blk_below (bz BK185) hb); have n2_ := Aside0.mk (below_step bh hb); have n3_ := Aside0.mk (hbox); have n4_ := Aside0.mk ((gs (W0 := w) hg bh)); have n5_ := Aside0.mk ((gs (W0 := w) hg bh)); have n6_ := Aside0.mk ((gn hg (bz BK185))); have n7_ := Aside0.mk ((gm hg (bz BK185))); clear HO_7 BK185 HB; have HO_7 := n0_; have BK185 := n1_; have HB := n2_; have BK191 := n3_; have GW191 := n4_; have GE191 := n5_; have NB185_191 := n6_; have NB191_185 := n7_; clear n0_ n1_ n2_ n3_ n4_ n5_ n6_ n7_ hb hbox hg; have hnb33 := NB191_185.out; have hnc33 := NB185_191.out; have hcz34_0 := cz0 BK191; have hcz34_1 := cz1 BK191; have hcz34_2 := cz2 BK191; have hfz34_0 := blk_frozen BK191.out 0; have hfz34_1 := blk_frozen BK191.out 1; have hfz34_2 := blk_frozen BK191.out 2))
               generalize hW_ : (((w32.setCell ⟨gb191, 0, none⟩ (.int .i64 ((rd_T61 l1 x16_1).f0))).setCell ⟨gb191, 1, none⟩ (.int .i64 ((rd_T61 l1 x16_1).f1))).setCell ⟨gb191, 2, none⟩ (.int .i64 ((rd_T61 l1 x16_1).f2))) = w35
               have n0_ : Aside0 (Kd.R Kd.bool 4 w35 w.heap.size (fun _ => True) u7 x7_1) := ⟨by subst hW_; (with_reducible repeat (first | apply Kd.R_alloc | apply Kd.R_drewN | apply Kd.R_drew)); exact Kd.R_mono (Kd.R_far (p := ⟨gb191, 2, none⟩) (Kd.R_far (p := ⟨gb191, 1, none⟩) (Kd.R_far (p := ⟨gb191, 0, none⟩) (Kd.R_types HO_7.out BK191.out (by decide)) (fun _ hk => hk.2) (.int .i64 ((rd_T61 l1 x16_1).f0))) (fun _ hk => hk.2) (.int .i64 ((rd_T61 l1 x16_1).f1))) (fun _ hk => hk.2) (.int .i64 ((rd_T61 l1 x16_1).f2))) (fun _ hk => trivial)⟩
               have n1_ : Aside0 (w35.heap[gb185]? = some (.cells #[.int .i64 a0_0, .slice A0_1 l0_1.length c0_1] 25 (0, 0))) := ⟨by subst hW_; (with_reducible repeat (first | refine blk_drewN ?_ _ | refine blk_drew ?_ | refine blk_alloc ?_ _)); refine blk_far ?_ NB185_191.out _; (with_reducible repeat (first | refine blk_drewN ?_ _ | refine blk_drew ?_ | refine blk_alloc ?_ _)); refine blk_far ?_ NB185_191.out _; (with_reducible repeat (first | refine blk_drewN ?_ _ | refine blk_drew ?_ | refine blk_alloc ?_ _)); refine blk_far ?_ NB185_191.out _; (with_reducible repeat (first | refine blk_drewN ?_ _ | refine blk_drew ?_ | refine blk_alloc ?_ _)); exact BK185.out⟩
               have n2_ : Aside0 (w35.heap[gb191]? = some (.cells #[.int .i64 ((rd_T61 l1 x16_1).f0), .int .i64 ((rd_T61 l1 x16_1).f1), .int .i64 ((rd_T61 l1 x16_1).f2)] 61 (0, 0))) := ⟨by subst hW_; (with_reducible repeat (first | refine blk_drewN ?_ _ | refine blk_drew ?_ | refine blk_alloc ?_ _)); refine blk_put (cs := #[.int .i64 ((rd_T61 l1 x16_1).f0), .int .i64 ((rd_T61 l1 x16_1).f1), .int .i64 0]) ?_ 2 _ rfl; (with_reducible repeat (first | refine blk_drewN ?_ _ | refine blk_drew ?_ | refine blk_alloc ?_ _)); refine blk_put (cs := #[.int .i64 ((rd_T61 l1 x16_1).f0), .int .i64 0, .int .i64 0]) ?_ 1 _ rfl; (with_reducible repeat (first | refine blk_drewN ?_ _ | refine blk_drew ?_ | refine blk_alloc ?_ _)); refine blk_put (cs := #[.int .i64 0, .int .i64 0, .int .i64 0]) ?_ 0 _ rfl; (with_reducible repeat (first | refine blk_drewN ?_ _ | refine blk_drew ?_ | refine blk_alloc ?_ _)); exact BK191.out⟩
               have n3_ : Aside0 (Below w.heap.size w w35) := ⟨by subst hW_; exact bh⟩
               clear hW_
               (try clear HO_7)
               (try clear BK185)
               (try clear BK191)
               (try clear HB)
               have HO_7 := n0_
               have BK185 := n1_
               have BK191 := n2_
               have HB := n3_
               clear n0_ n1_ n2_ n3_
               have n0_ := Aside0.mk (Kd.R_drew HO_7.out)
               have n1_ := Aside0.mk (blk_drew BK185.out)
               have n2_ := Aside0.mk (blk_drew BK191.out)
               have n3_ := Aside0.mk (below_drew1 HB.out)
               clear HO_7 BK185 BK191 HB
               have HO_7 := n0_
               have BK185 := n1_
               have BK191 := n2_
               have HB := n3_
               clear n0_ n1_ n2_ n3_
               obtain ⟨Ao37, co37, eo37⟩ := Kd.R_slice HO_7.out
               (first | subst eo37 | (injection eo37 with f1_ f2_ f3_; have f4_ := f1_.symm; have f5_ := f3_.symm; clear f1_ f2_ f3_; subst f4_; subst f5_))
               have p197 : 0 ≤ ((ji21) : Int) := oda
               have q197 : (ji21) < (x7_1.length : Int) := oda
               obtain ⟨ad197, e197, hx197_0⟩ := Kd.at_bool (Kd.R_reads' HO_7.out).2.2 (ji21) p197 q197
               (try rw [← Nbq27.out] at hx197_0)
               cases e197
               replace p197 := eq_true p197
               replace q197 := eq_true q197
               have p198 : 0 ≤ ((ji24) : Int) := oda
               have q198 : (ji24) < (x7_1.length : Int) := oda
               obtain ⟨ad198, e198, hx198_0⟩ := Kd.at_bool (Kd.R_reads' HO_7.out).2.2 (ji24) p198 q198
               (try rw [← Nbq27.out] at hx198_0)
               obtain rfl : ad197 = ad198 := (by injection e198)
               replace p198 := eq_true p198
               replace q198 := eq_true q198
               refine start_ (n := 14) (S := fun w' => w'.cell? (ad197.add ((ji21)).toNat) = some (.bool true) ∧ w'.cell? (ad197.add ((ji24)).toNat) = some (.bool (rdOf false x7_1 (ji24)))) (ds := []) #[F,F,F,F,F,F,F,F,F,F,F,F,F,F] kr rfl rfl ⟨hx197_0, hx198_0⟩ (fun hHeld => ?_); refine with_tabW impl_consents.tab7 impl_consents.bits7 (fun HT_ HW_ => ?_)
               generalize w35.drew = w36 at HO_7 BK185 BK191 HB hx197_0 hx198_0 hHeld ⊢
               refine pu 0 (some 38) #[T,F,F,F,F,F,F,F,F,F,F,F,F,F] (any_of HT_.out kr) ?_
               refine pu 1 (some 39) #[T,T,F,F,F,F,F,F,F,F,F,F,F,F] (any_of HT_.out kr) ?_
               refine pu 2 (some 40) #[T,T,T,F,F,F,F,F,F,F,F,F,F,F] (any_of HT_.out kr) ?_
               refine pu 3 (some 41) #[T,T,T,T,F,F,F,F,F,F,F,F,F,F] (any_of HT_.out kr) ?_
               refine pu 4 (some 42) #[T,T,T,T,T,F,F,F,F,F,F,F,F,F] (any_of HT_.out kr) ?_
               refine pu 6 (some 44) #[T,T,T,T,T,F,T,F,F,F,F,F,F,F] (any_of HT_.out kr) ?_
               refine pu 7 (some 45) #[T,T,T,T,T,F,T,T,F,F,F,F,F,F] (any_of HT_.out kr) ?_
               refine pu 8 (some 46) #[T,T,T,T,T,F,T,T,T,F,F,F,F,F] (any_of HT_.out kr) ?_
               refine pu 9 (some 47) #[T,T,T,T,T,F,T,T,T,T,F,F,F,F] (any_of HT_.out kr) ?_
               refine pu 10 (some 48) #[T,T,T,T,T,F,T,T,T,T,T,F,F,F] (any_of HT_.out kr) ?_
               refine tk2 5 (some 43) #[T,T,T,T,T,T,T,T,T,T,T,F,F,F] (take_ofW HT_.out HW_.out kr) ?_
               refine pu 12 (some 10) #[T,T,T,T,T,T,T,T,T,T,T,F,T,F] (any_of HT_.out kr) ?_
               refine tk2 11 (some 49) #[T,T,T,T,T,T,T,T,T,T,T,T,T,F] (take_ofW HT_.out HW_.out kr) ?_
               refine pu 13 (some 11) #[T,T,T,T,T,T,T,T,T,T,T,T,T,T] (any_of HT_.out kr) ?_
               refine done_ (done_of HT_.out kr) ?_
               have hcz38_0 : w36.cell? ⟨gb191, 0, none⟩ = some (.int .i64 ((rd_T61 l1 x16_1).f0)) := (blk_cell BK191.out 0).trans rfl
               have hcz38_1 : w36.cell? ⟨gb191, 1, none⟩ = some (.int .i64 ((rd_T61 l1 x16_1).f1)) := (blk_cell BK191.out 1).trans rfl
               have hcz38_2 : w36.cell? ⟨gb191, 2, none⟩ = some (.int .i64 ((rd_T61 l1 x16_1).f2)) := (blk_cell BK191.out 2).trans rfl
               have hfz38_0 := blk_frozen BK191.out 0
               have hfz38_1 := blk_frozen BK191.out 1
               have hfz38_2 := blk_frozen BK191.out 2
               have q39 : ((ji21) : Int) ≤ ((x7_1.length : Int) : Int) := oda
               obtain ⟨i039, hi039, _, hsz39, _⟩ := info_parts info4
               have hcut39 := cut_to (P := Try.prog) 77 4 .i64 Try.underlying77 hi039 (some ad197) x7_1.length co37 (ji21) oda q39 (Kd.R_reads' HO_7.out).2.1
               have hr39 := Kd.R_take (m := ((ji21) : Int).toNat) HO_7.out (by omega)
               have hy39 : y199.length = ((ji21) : Int).toNat := (by rw [Ny199.out, List.length_take]; omega)
               rw [← Ny199.out] at hr39
               rw [← hy39] at hr39 hcut39
               clear hy39 hi039 hsz39 HO_7
               have HO201 := Aside0.mk hr39
               clear hr39
               replace q39 := eq_true q39
               try go_wp2_with (first | ((with_reducible refine gate_builtin (b := .append) (xs := #[.tmp 65, .tmp 67]) rfl ?_); at_builtin; refine Kd.R_append Kd.bool (w0 := w) w.heap.size rfl (.tmp 65) (.tmp 67) 77 4 (.bool false) 1 rfl Try.underlying77 info4 rfl (by decide) (by omega) (.slice (some ad197) y199.length co37) y199 true [.bool true] (fun _ => True) (fun _ => False) rfl rfl ?aP (fun _ hk => hk.elim) ?aF ?aO ?aB ?aS ?aL ?_; (case aP => exact rfl); (case aB => exact bh); (case aF => exact (fun _ _ => trivial)); (case aO => exact (rz HO201)); (case aS => exact (below_size bh)); (case aL => have := LMc31.out; omega); intro v203 w40 ho hb hg hat; rw [← Ny202.out] at ho; have n0_ := Aside0.mk (blk_grown (bz BK185) hg (Kd.R_ne HO201.out BK185.out (by decide))); have n1_ := Aside0.mk (blk_grown (bz BK191) hg (Kd.R_ne HO201.out BK191.out (by decide))); have n2_ := Aside0.mk (hb); have n3_ := Aside0.mk (ho); clear BK185 BK191 HB HO201; have BK185 := n0_; have BK191 := n1_; have HB := n2_; have HO204 := n3_; clear n0_ n1_ n2_ n3_ ho hb hg hat))
               go_roundg k1
               case measure => have := HK1.out; omega
               case rel => exact ⟨(y202), (wrap64 (x16_1 + 1)), (by first | rfl | (simp; done) | (simp [*]; done)), H', ⟨by have := HK1.out; omega⟩, ⟨rz HO204⟩, ⟨bz BK185⟩, ⟨by exact bh⟩⟩
              ·rw [if_neg c31] at H
               exact absurd H (by simp)
             ·rw [if_neg c30] at H
              exact absurd H (by simp)
            ·rw [if_neg c29] at H
             have c29b0 : (((rd_T61 l1 x16_1).f0) == 2) = false := beq_eq_false_iff_ne.mpr c29
             have c29b1 : (((rd_T61 l1 x16_1).f0) != 2) = true := bne_iff_ne.mpr c29
             by_cases c41 : (ji21) ≤ (x7_1.length : Int)
             ·rw [if_pos c41] at H
              have c41b0 := eq_true c41
              have c41b1 : decide ((ji21) ≤ (x7_1.length : Int)) = true := decide_eq_true c41
              clear c41
              obtain ⟨y205, hy205⟩ : ∃ y_ : List Bool, y_ = (x7_1.take ((ji21) : Int).toNat) := ⟨_, rfl⟩
              replace H : (if y205.length < 140737488355328 then (impl_consents.l0 k1 a2 (y205 ++ [rdOf false x7_1 (ji24)]) l1 (l1.length : Int) (wrap64 (x16_1 + 1)) a0_0 l0_1) else (none)) = some r := by first | (rw [hy205]; with_reducible exact H) | (have H2_ := (Option.bind_some _ _).symm.trans H; rw [hy205]; with_reducible exact H2_) | (have H2_ := (Option.bind_some _ _).symm.trans H; with_reducible exact H2_) | with_reducible exact H | (rw [hy205]; exact H) | exact H
              have Ny205 := Aside0.mk hy205
              clear hy205
              by_cases c42 : y205.length < 140737488355328
              ·rw [if_pos c42] at H
               have LMc42 := Aside0.mk c42
               clear c42
               obtain ⟨y208, hy208⟩ : ∃ y_ : List Bool, y_ = (y205 ++ [rdOf false x7_1 (ji24)]) := ⟨_, rfl⟩
               replace H : (impl_consents.l0 k1 a2 y208 l1 (l1.length : Int) (wrap64 (x16_1 + 1)) a0_0 l0_1) = some r := by first | (rw [hy208]; with_reducible exact H) | (have H2_ := (Option.bind_some _ _).symm.trans H; rw [hy208]; with_reducible exact H2_) | (have H2_ := (Option.bind_some _ _).symm.trans H; with_reducible exact H2_) | with_reducible exact H | (rw [hy208]; exact H) | exact H
               have Ny208 := Aside0.mk hy208
               clear hy208
               have H' := Aside0.mk H
               clear H
               have p190 : 0 ≤ (x16_1 : Int) := oda
               have q190 : x16_1 < (l1.length : Int) := oda
               obtain ⟨ad190, e190, hx190_0, hx190_1, hx190_2⟩ := at_T61 HR1.out x16_1 p190 q190
               cases e190
               replace hx190_0 := (HB.out.cell (World.block_lt_of_cell? w _ hx190_0)).trans hx190_0
               replace hx190_1 := (HB.out.cell (World.block_lt_of_cell? w _ hx190_1)).trans hx190_1
               replace hx190_2 := (HB.out.cell (World.block_lt_of_cell? w _ hx190_2)).trans hx190_2
               replace p190 := eq_true p190
               replace q190 := eq_true q190
               try go_wp2_with (first | ((with_reducible refine gate_dst (N := 9) rfl ?_); refine box_event ?hg (N := 9) ?hd (cs := #[.int .i64 0, .int .i64 0, .int .i64 0]) (t := 61) ?hr ?_; (case hd => rfl); (case hg => rfl); (case hr => first | (go_simp; done) | (go_simp; rfl)); intro gb191 hg w43 hbox hb; have n0_ := Aside0.mk (Kd.R_below (rz HO_7) hb); have n1_ := Aside0.mk (blk_below (bz BK185) hb); have n2_ := Aside0.mk (below_step bh hb); have n3_ := Aside0.mk (hbox); have n4_ := Aside0.mk ((gs (W0 := w) hg bh)); have n5_ := Aside0.mk ((gs (W0 := w) hg bh)); have n6_ := Aside0.mk ((gn hg (bz BK185))); have n7_ := Aside0.mk ((gm hg (bz BK185))); clear HO_7 BK185 HB; have HO_7 := n0_; have BK185 := n1_; have HB := n2_; have BK191 := n3_; have GW191 := n4_; have GE191 := n5_; have NB185_191 := n6_; have NB191_185 := n7_; clear n0_ n1_ n2_ n3_ n4_ n5_ n6_ n7_ hb hbox hg; have hnb44 := NB191_185.out; have hnc44 := NB185_191.out; have hcz45_0 := cz0 BK191; have hcz45_1 := cz1 BK191; have hcz45_2 := cz2 BK191; have hfz45_0 := blk_frozen BK191.out 0; have hfz45_1 := blk_frozen BK191.out 1; have hfz45_2 := blk_frozen BK191.out 2))
               generalize hW_ : (((w43.setCell ⟨gb191, 0, none⟩ (.int .i64 ((rd_T61 l1 x16_1).f0))).setCell ⟨gb191, 1, none⟩ (.int .i64 ((rd_T61 l1 x16_1).f1))).setCell ⟨gb191, 2, none⟩ (.int .i64 ((rd_T61 l1 x16_1).f2))) = w46
               have n0_ : Aside0 (Kd.R Kd.bool 4 w46 w.heap.size (fun _ => True) u7 x7_1) := ⟨by subst hW_; (with_reducible repeat (first | apply Kd.R_alloc | apply Kd.R_drewN | apply Kd.R_drew)); exact Kd.R_mono (Kd.R_far (p := ⟨gb191, 2, none⟩) (Kd.R_far (p := ⟨gb191, 1, none⟩) (Kd.R_far (p := ⟨gb191, 0, none⟩) (Kd.R_types HO_7.out BK191.out (by decide)) (fun _ hk => hk.2) (.int .i64 ((rd_T61 l1 x16_1).f0))) (fun _ hk => hk.2) (.int .i64 ((rd_T61 l1 x16_1).f1))) (fun _ hk => hk.2) (.int .i64 ((rd_T61 l1 x16_1).f2))) (fun _ hk => trivial)⟩
               have n1_ : Aside0 (w46.heap[gb185]? = some (.cells #[.int .i64 a0_0, .slice A0_1 l0_1.length c0_1] 25 (0, 0))) := ⟨by subst hW_; (with_reducible repeat (first | refine blk_drewN ?_ _ | refine blk_drew ?_ | refine blk_alloc ?_ _)); refine blk_far ?_ NB185_191.out _; (with_reducible repeat (first | refine blk_drewN ?_ _ | refine blk_drew ?_ | refine blk_alloc ?_ _)); refine blk_far ?_ NB185_191.out _; (with_reducible repeat (first | refine blk_drewN ?_ _ | refine blk_drew ?_ | refine blk_alloc ?_ _)); refine blk_far ?_ NB185_191.out _; (with_reducible repeat (first | refine blk_drewN ?_ _ | refine blk_drew ?_ | refine blk_alloc ?_ _)); exact BK185.out⟩
               have n2_ : Aside0 (w46.heap[gb191]? = some (.cells #[.int .i64 ((rd_T61 l1 x16_1).f0), .int .i64 ((rd_T61 l1 x16_1).f1), .int .i64 ((rd_T61 l1 x16_1).f2)] 61 (0, 0))) := ⟨by subst hW_; (with_reducible repeat (first | refine blk_drewN ?_ _ | refine blk_drew ?_ | refine blk_alloc ?_ _)); refine blk_put (cs := #[.int .i64 ((rd_T61 l1 x16_1).f0), .int .i64 ((rd_T61 l1 x16_1).f1), .int .i64 0]) ?_ 2 _ rfl; (with_reducible repeat (first | refine blk_drewN ?_ _ | refine blk_drew ?_ | refine blk_alloc ?_ _)); refine blk_put (cs := #[.int .i64 ((rd_T61 l1 x16_1).f0), .int .i64 0, .int .i64 0]) ?_ 1 _ rfl; (with_reducible repeat (first | refine blk_drewN ?_ _ | refine blk_drew ?_ | refine blk_alloc ?_ _)); refine blk_put (cs := #[.int .i64 0, .int .i64 0, .int .i64 0]) ?_ 0 _ rfl; (with_reducible repeat (first | refine blk_drewN ?_ _ | refine blk_drew ?_ | refine blk_alloc ?_ _)); exact BK191.out⟩
               have n3_ : Aside0 (Below w.heap.size w w46) := ⟨by subst hW_; exact bh⟩
               clear hW_
               (try clear HO_7)
               (try clear BK185)
               (try clear BK191)
               (try clear HB)
               have HO_7 := n0_
               have BK185 := n1_
               have BK191 := n2_
               have HB := n3_
               clear n0_ n1_ n2_ n3_
               have n0_ := Aside0.mk (Kd.R_drew HO_7.out)
               have n1_ := Aside0.mk (blk_drew BK185.out)
               have n2_ := Aside0.mk (blk_drew BK191.out)
               have n3_ := Aside0.mk (below_drew1 HB.out)
               clear HO_7 BK185 BK191 HB
               have HO_7 := n0_
               have BK185 := n1_
               have BK191 := n2_
               have HB := n3_
               clear n0_ n1_ n2_ n3_
               obtain ⟨Ao48, co48, eo48⟩ := Kd.R_slice HO_7.out
               (first | subst eo48 | (injection eo48 with f1_ f2_ f3_; have f4_ := f1_.symm; have f5_ := f3_.symm; clear f1_ f2_ f3_; subst f4_; subst f5_))
               have p197 : 0 ≤ ((ji21) : Int) := oda
               have q197 : (ji21) < (x7_1.length : Int) := oda
               obtain ⟨ad197, e197, hx197_0⟩ := Kd.at_bool (Kd.R_reads' HO_7.out).2.2 (ji21) p197 q197
               (try rw [← Nbq27.out] at hx197_0)
               cases e197
               replace p197 := eq_true p197
               replace q197 := eq_true q197
               have p198 : 0 ≤ ((ji24) : Int) := oda
               have q198 : (ji24) < (x7_1.length : Int) := oda
               obtain ⟨ad198, e198, hx198_0⟩ := Kd.at_bool (Kd.R_reads' HO_7.out).2.2 (ji24) p198 q198
               (try rw [← Nbq27.out] at hx198_0)
               obtain rfl : ad197 = ad198 := (by injection e198)
               replace p198 := eq_true p198
               replace q198 := eq_true q198
               refine start_ (n := 14) (S := fun w' => w'.cell? (ad197.add ((ji21)).toNat) = some (.bool true) ∧ w'.cell? (ad197.add ((ji24)).toNat) = some (.bool (rdOf false x7_1 (ji24)))) (ds := []) #[F,F,F,F,F,F,F,F,F,F,F,F,F,F] kr rfl rfl ⟨hx197_0, hx198_0⟩ (fun hHeld => ?_); refine with_tabW impl_consents.tab7 impl_consents.bits7 (fun HT_ HW_ => ?_)
               generalize w46.drew = w47 at HO_7 BK185 BK191 HB hx197_0 hx198_0 hHeld ⊢
               refine pu 0 (some 38) #[T,F,F,F,F,F,F,F,F,F,F,F,F,F] (any_of HT_.out kr) ?_
               refine pu 1 (some 39) #[T,T,F,F,F,F,F,F,F,F,F,F,F,F] (any_of HT_.out kr) ?_
               refine pu 2 (some 40) #[T,T,T,F,F,F,F,F,F,F,F,F,F,F] (any_of HT_.out kr) ?_
               refine pu 3 (some 41) #[T,T,T,T,F,F,F,F,F,F,F,F,F,F] (any_of HT_.out kr) ?_
               refine pu 4 (some 42) #[T,T,T,T,T,F,F,F,F,F,F,F,F,F] (any_of HT_.out kr) ?_
               refine pu 6 (some 44) #[T,T,T,T,T,F,T,F,F,F,F,F,F,F] (any_of HT_.out kr) ?_
               refine pu 7 (some 45) #[T,T,T,T,T,F,T,T,F,F,F,F,F,F] (any_of HT_.out kr) ?_
               refine pu 8 (some 46) #[T,T,T,T,T,F,T,T,T,F,F,F,F,F] (any_of HT_.out kr) ?_
               refine pu 9 (some 47) #[T,T,T,T,T,F,T,T,T,T,F,F,F,F] (any_of HT_.out kr) ?_
               refine pu 10 (some 48) #[T,T,T,T,T,F,T,T,T,T,T,F,F,F] (any_of HT_.out kr) ?_
               refine tk2 5 (some 43) #[T,T,T,T,T,T,T,T,T,T,T,F,F,F] (take_ofW HT_.out HW_.out kr) ?_
               refine pu 12 (some 10) #[T,T,T,T,T,T,T,T,T,T,T,F,T,F] (any_of HT_.out kr) ?_
               refine tk2 11 (some 49) #[T,T,T,T,T,T,T,T,T,T,T,T,T,F] (take_ofW HT_.out HW_.out kr) ?_
               refine pu 13 (some 11) #[T,T,T,T,T,T,T,T,T,T,T,T,T,T] (any_of HT_.out kr) ?_
               refine done_ (done_of HT_.out kr) ?_
               have hcz49_0 : w47.cell? ⟨gb191, 0, none⟩ = some (.int .i64 ((rd_T61 l1 x16_1).f0)) := (blk_cell BK191.out 0).trans rfl
               have hcz49_1 : w47.cell? ⟨gb191, 1, none⟩ = some (.int .i64 ((rd_T61 l1 x16_1).f1)) := (blk_cell BK191.out 1).trans rfl
               have hcz49_2 : w47.cell? ⟨gb191, 2, none⟩ = some (.int .i64 ((rd_T61 l1 x16_1).f2)) := (blk_cell BK191.out 2).trans rfl
               have hfz49_0 := blk_frozen BK191.out 0
               have hfz49_1 := blk_frozen BK191.out 1
               have hfz49_2 := blk_frozen BK191.out 2
               have q50 : ((ji21) : Int) ≤ ((x7_1.length : Int) : Int) := oda
               obtain ⟨i050, hi050, _, hsz50, _⟩ := info_parts info4
               have hcut50 := cut_to (P := Try.prog) 77 4 .i64 Try.underlying77 hi050 (some ad197) x7_1.length co48 (ji21) oda q50 (Kd.R_reads' HO_7.out).2.1
               have hr50 := Kd.R_take (m := ((ji21) : Int).toNat) HO_7.out (by omega)
               have hy50 : y205.length = ((ji21) : Int).toNat := (by rw [Ny205.out, List.length_take]; omega)
               rw [← Ny205.out] at hr50
               rw [← hy50] at hr50 hcut50
               clear hy50 hi050 hsz50 HO_7
               have HO207 := Aside0.mk hr50
               clear hr50
               replace q50 := eq_true q50
               try go_wp2_with (first | ((with_reducible refine gate_builtin (b := .append) (xs := #[.tmp 65, .tmp 67]) rfl ?_); at_builtin; refine Kd.R_append Kd.bool (w0 := w) w.heap.size rfl (.tmp 65) (.tmp 67) 77 4 (.bool false) 1 rfl Try.underlying77 info4 rfl (by decide) (by omega) (.slice (some ad197) y205.length co48) y205 (rdOf false x7_1 (ji24)) [.bool (rdOf false x7_1 (ji24))] (fun _ => True) (fun _ => False) rfl rfl ?aP (fun _ hk => hk.elim) ?aF ?aO ?aB ?aS ?aL ?_; (case aP => exact rfl); (case aB => exact bh); (case aF => exact (fun _ _ => trivial)); (case aO => exact (rz HO207)); (case aS => exact (below_size bh)); (case aL => have := LMc42.out; omega); intro v209 w51 ho hb hg hat; rw [← Ny208.out] at ho; have n0_ := Aside0.mk (blk_grown (bz BK185) hg (Kd.R_ne HO207.out BK185.out (by decide))); have n1_ := Aside0.mk (blk_grown (bz BK191) hg (Kd.R_ne HO207.out BK191.out (by decide))); have n2_ := Aside0.mk (hb); have n3_ := Aside0.mk (ho); clear BK185 BK191 HB HO207; have BK185 := n0_; have BK191 := n1_; have HB := n2_; have HO210 := n3_; clear n0_ n1_ n2_ n3_ ho hb hg hat))
               go_roundg k1
               case measure => have := HK1.out; omega
               case rel => exact ⟨(y208), (wrap64 (x16_1 + 1)), (by first | rfl | (simp; done) | (simp [*]; done)), H', ⟨by have := HK1.out; omega⟩, ⟨rz HO210⟩, ⟨bz BK185⟩, ⟨by exact bh⟩⟩
              ·rw [if_neg c42] at H
               exact absurd H (by simp)
             ·rw [if_neg c41] at H
              exact absurd H (by simp)
           ·replace c28 := Bool.eq_false_iff.mpr c28
            subst c28
            have H1 : (if ((rd_T61 l1 x16_1).f0) = 2 then (if (ji21) ≤ (x7_1.length : Int) then ((some (x7_1.take ((ji21) : Int).toNat : List Bool)).bind fun y211 => (if y211.length < 140737488355328 then (impl_consents.l0 k1 a2 (y211 ++ [rdOf false x7_1 (ji24)]) l1 (l1.length : Int) (wrap64 (x16_1 + 1)) a0_0 l0_1) else (none))) else (none)) else (if (ji21) ≤ (x7_1.length : Int) then ((some (x7_1.take ((ji21) : Int).toNat : List Bool)).bind fun y217 => (if y217.length < 140737488355328 then (impl_consents.l0 k1 a2 (y217 ++ [false]) l1 (l1.length : Int) (wrap64 (x16_1 + 1)) a0_0 l0_1) else (none))) else (none))) = some r := by rw [if_neg (show ¬ (false = true) by decide)] at H; exact H
            clear H
            have H := H1
            clear H1
            by_cases c52 : ((rd_T61 l1 x16_1).f0) = 2
            ·rw [if_pos c52] at H
             have c52b0 : (((rd_T61 l1 x16_1).f0) == 2) = true := beq_iff_eq.mpr c52
             have c52b1 : (((rd_T61 l1 x16_1).f0) != 2) = false := bne_eq_false_iff_eq.mpr c52
             clear c52
             by_cases c53 : (ji21) ≤ (x7_1.length : Int)
             ·rw [if_pos c53] at H
              have c53b0 := eq_true c53
              have c53b1 : decide ((ji21) ≤ (x7_1.length : Int)) = true := decide_eq_true c53
              clear c53
              obtain ⟨y211, hy211⟩ : ∃ y_ : List Bool, y_ = (x7_1.take ((ji21) : Int).toNat) := ⟨_, rfl⟩
              replace H : (if y211.length < 140737488355328 then (impl_consents.l0 k1 a2 (y211 ++ [rdOf false x7_1 (ji24)]) l1 (l1.length : Int) (wrap64 (x16_1 + 1)) a0_0 l0_1) else (none)) = some r := by first | (rw [hy211]; with_reducible exact H) | (have H2_ := (Option.bind_some _ _).symm.trans H; rw [hy211]; with_reducible exact H2_) | (have H2_ := (Option.bind_some _ _).symm.trans H; with_reducible exact H2_) | with_reducible exact H | (rw [hy211]; exact H) | exact H
              have Ny211 := Aside0.mk hy211
              clear hy211
              by_cases c54 : y211.length < 140737488355328
              ·rw [if_pos c54] at H
               have LMc54 := Aside0.mk c54
               clear c54
               obtain ⟨y214, hy214⟩ : ∃ y_ : List Bool, y_ = (y211 ++ [rdOf false x7_1 (ji24)]) := ⟨_, rfl⟩
               replace H : (impl_consents.l0 k1 a2 y214 l1 (l1.length : Int) (wrap64 (x16_1 + 1)) a0_0 l0_1) = some r := by first | (rw [hy214]; with_reducible exact H) | (have H2_ := (Option.bind_some _ _).symm.trans H; rw [hy214]; with_reducible exact H2_) | (have H2_ := (Option.bind_some _ _).symm.trans H; with_reducible exact H2_) | with_reducible exact H | (rw [hy214]; exact H) | exact H
               have Ny214 := Aside0.mk hy214
               clear hy214
               have H' := Aside0.mk H
               clear H
               have p190 : 0 ≤ (x16_1 : Int) := oda
               have q190 : x16_1 < (l1.length : Int) := oda
               obtain ⟨ad190, e190, hx190_0, hx190_1, hx190_2⟩ := at_T61 HR1.out x16_1 p190 q190
               cases e190
               replace hx190_0 := (HB.out.cell (World.block_lt_of_cell? w _ hx190_0)).trans hx190_0
               replace hx190_1 := (HB.out.cell (World.block_lt_of_cell? w _ hx190_1)).trans hx190_1
               replace hx190_2 := (HB.out.cell (World.block_lt_of_cell? w _ hx190_2)).trans hx190_2
               replace p190 := eq_true p190
               replace q190 := eq_true q190
               try go_wp2_with (first | ((with_reducible refine gate_dst (N := 9) rfl ?_); refine box_event ?hg (N := 9) ?hd (cs := #[.int .i64 0, .int .i64 0, .int .i64 0]) (t := 61) ?hr ?_; (case hd => rfl); (case hg => rfl); (case hr => first | (go_simp; done) | (go_simp; rfl)); intro gb191 hg w55 hbox hb; have n0_ := Aside0.mk (Kd.R_below (rz HO_7) hb); have n1_ := Aside0.mk (blk_below (bz BK185) hb); have n2_ := Aside0.mk (below_step bh hb); have n3_ := Aside0.mk (hbox); have n4_ := Aside0.mk ((gs (W0 := w) hg bh)); have n5_ := Aside0.mk ((gs (W0 := w) hg bh)); have n6_ := Aside0.mk ((gn hg (bz BK185))); have n7_ := Aside0.mk ((gm hg (bz BK185))); clear HO_7 BK185 HB; have HO_7 := n0_; have BK185 := n1_; have HB := n2_; have BK191 := n3_; have GW191 := n4_; have GE191 := n5_; have NB185_191 := n6_; have NB191_185 := n7_; clear n0_ n1_ n2_ n3_ n4_ n5_ n6_ n7_ hb hbox hg; have hnb56 := NB191_185.out; have hnc56 := NB185_191.out; have hcz57_0 := cz0 BK191; have hcz57_1 := cz1 BK191; have hcz57_2 := cz2 BK191; have hfz57_0 := blk_frozen BK191.out 0; have hfz57_1 := blk_frozen BK191.out 1; have hfz57_2 := blk_frozen BK191.out 2))
               generalize hW_ : (((w55.setCell ⟨gb191, 0, none⟩ (.int .i64 ((rd_T61 l1 x16_1).f0))).setCell ⟨gb191, 1, none⟩ (.int .i64 ((rd_T61 l1 x16_1).f1))).setCell ⟨gb191, 2, none⟩ (.int .i64 ((rd_T61 l1 x16_1).f2))) = w58
               have n0_ : Aside0 (Kd.R Kd.bool 4 w58 w.heap.size (fun _ => True) u7 x7_1) := ⟨by subst hW_; (with_reducible repeat (first | apply Kd.R_alloc | apply Kd.R_drewN | apply Kd.R_drew)); exact Kd.R_mono (Kd.R_far (p := ⟨gb191, 2, none⟩) (Kd.R_far (p := ⟨gb191, 1, none⟩) (Kd.R_far (p := ⟨gb191, 0, none⟩) (Kd.R_types HO_7.out BK191.out (by decide)) (fun _ hk => hk.2) (.int .i64 ((rd_T61 l1 x16_1).f0))) (fun _ hk => hk.2) (.int .i64 ((rd_T61 l1 x16_1).f1))) (fun _ hk => hk.2) (.int .i64 ((rd_T61 l1 x16_1).f2))) (fun _ hk => trivial)⟩
               have n1_ : Aside0 (w58.heap[gb185]? = some (.cells #[.int .i64 a0_0, .slice A0_1 l0_1.length c0_1] 25 (0, 0))) := ⟨by subst hW_; (with_reducible repeat (first | refine blk_drewN ?_ _ | refine blk_drew ?_ | refine blk_alloc ?_ _)); refine blk_far ?_ NB185_191.out _; (with_reducible repeat (first | refine blk_drewN ?_ _ | refine blk_drew ?_ | refine blk_alloc ?_ _)); refine blk_far ?_ NB185_191.out _; (with_reducible repeat (first | refine blk_drewN ?_ _ | refine blk_drew ?_ | refine blk_alloc ?_ _)); refine blk_far ?_ NB185_191.out _; (with_reducible repeat (first | refine blk_drewN ?_ _ | refine blk_drew ?_ | refine blk_alloc ?_ _)); exact BK185.out⟩
               have n2_ : Aside0 (w58.heap[gb191]? = some (.cells #[.int .i64 ((rd_T61 l1 x16_1).f0), .int .i64 ((rd_T61 l1 x16_1).f1), .int .i64 ((rd_T61 l1 x16_1).f2)] 61 (0, 0))) := ⟨by subst hW_; (with_reducible repeat (first | refine blk_drewN ?_ _ | refine blk_drew ?_ | refine blk_alloc ?_ _)); refine blk_put (cs := #[.int .i64 ((rd_T61 l1 x16_1).f0), .int .i64 ((rd_T61 l1 x16_1).f1), .int .i64 0]) ?_ 2 _ rfl; (with_reducible repeat (first | refine blk_drewN ?_ _ | refine blk_drew ?_ | refine blk_alloc ?_ _)); refine blk_put (cs := #[.int .i64 ((rd_T61 l1 x16_1).f0), .int .i64 0, .int .i64 0]) ?_ 1 _ rfl; (with_reducible repeat (first | refine blk_drewN ?_ _ | refine blk_drew ?_ | refine blk_alloc ?_ _)); refine blk_put (cs := #[.int .i64 0, .int .i64 0, .int .i64 0]) ?_ 0 _ rfl; (with_reducible repeat (first | refine blk_drewN ?_ _ | refine blk_drew ?_ | refine blk_alloc ?_ _)); exact BK191.out⟩
               have n3_ : Aside0 (Below w.heap.size w w58) := ⟨by subst hW_; exact bh⟩
               clear hW_
               (try clear HO_7)
               (try clear BK185)
               (try clear BK191)
               (try clear HB)
               have HO_7 := n0_
               have BK185 := n1_
               have BK191 := n2_
               have HB := n3_
               clear n0_ n1_ n2_ n3_
               have n0_ := Aside0.mk (Kd.R_drew HO_7.out)
               have n1_ := Aside0.mk (blk_drew BK185.out)
               have n2_ := Aside0.mk (blk_drew BK191.out)
               have n3_ := Aside0.mk (below_drew1 HB.out)
               clear HO_7 BK185 BK191 HB
               have HO_7 := n0_
               have BK185 := n1_
               have BK191 := n2_
               have HB := n3_
               clear n0_ n1_ n2_ n3_
               obtain ⟨Ao60, co60, eo60⟩ := Kd.R_slice HO_7.out
               (first | subst eo60 | (injection eo60 with f1_ f2_ f3_; have f4_ := f1_.symm; have f5_ := f3_.symm; clear f1_ f2_ f3_; subst f4_; subst f5_))
               have p197 : 0 ≤ ((ji21) : Int) := oda
               have q197 : (ji21) < (x7_1.length : Int) := oda
               obtain ⟨ad197, e197, hx197_0⟩ := Kd.at_bool (Kd.R_reads' HO_7.out).2.2 (ji21) p197 q197
               (try rw [← Nbq27.out] at hx197_0)
               cases e197
               replace p197 := eq_true p197
               replace q197 := eq_true q197
               have p198 : 0 ≤ ((ji24) : Int) := oda
               have q198 : (ji24) < (x7_1.length : Int) := oda
               obtain ⟨ad198, e198, hx198_0⟩ := Kd.at_bool (Kd.R_reads' HO_7.out).2.2 (ji24) p198 q198
               (try rw [← Nbq27.out] at hx198_0)
               obtain rfl : ad197 = ad198 := (by injection e198)
               replace p198 := eq_true p198
               replace q198 := eq_true q198
               refine start_ (n := 14) (S := fun w' => w'.cell? (ad197.add ((ji21)).toNat) = some (.bool false) ∧ w'.cell? (ad197.add ((ji24)).toNat) = some (.bool (rdOf false x7_1 (ji24)))) (ds := []) #[F,F,F,F,F,F,F,F,F,F,F,F,F,F] kr rfl rfl ⟨hx197_0, hx198_0⟩ (fun hHeld => ?_); refine with_tabW impl_consents.tab7 impl_consents.bits7 (fun HT_ HW_ => ?_)
               generalize w58.drew = w59 at HO_7 BK185 BK191 HB hx197_0 hx198_0 hHeld ⊢
               refine pu 0 (some 38) #[T,F,F,F,F,F,F,F,F,F,F,F,F,F] (any_of HT_.out kr) ?_
               refine pu 1 (some 39) #[T,T,F,F,F,F,F,F,F,F,F,F,F,F] (any_of HT_.out kr) ?_
               refine pu 2 (some 40) #[T,T,T,F,F,F,F,F,F,F,F,F,F,F] (any_of HT_.out kr) ?_
               refine pu 3 (some 41) #[T,T,T,T,F,F,F,F,F,F,F,F,F,F] (any_of HT_.out kr) ?_
               refine pu 4 (some 42) #[T,T,T,T,T,F,F,F,F,F,F,F,F,F] (any_of HT_.out kr) ?_
               refine pu 6 (some 44) #[T,T,T,T,T,F,T,F,F,F,F,F,F,F] (any_of HT_.out kr) ?_
               refine pu 7 (some 45) #[T,T,T,T,T,F,T,T,F,F,F,F,F,F] (any_of HT_.out kr) ?_
               refine pu 8 (some 46) #[T,T,T,T,T,F,T,T,T,F,F,F,F,F] (any_of HT_.out kr) ?_
               refine pu 9 (some 47) #[T,T,T,T,T,F,T,T,T,T,F,F,F,F] (any_of HT_.out kr) ?_
               refine pu 10 (some 48) #[T,T,T,T,T,F,T,T,T,T,T,F,F,F] (any_of HT_.out kr) ?_
               refine tk2 5 (some 43) #[T,T,T,T,T,T,T,T,T,T,T,F,F,F] (take_ofW HT_.out HW_.out kr) ?_
               refine pu 12 (some 10) #[T,T,T,T,T,T,T,T,T,T,T,F,T,F] (any_of HT_.out kr) ?_
               refine tk2 11 (some 49) #[T,T,T,T,T,T,T,T,T,T,T,T,T,F] (take_ofW HT_.out HW_.out kr) ?_
               refine pu 13 (some 11) #[T,T,T,T,T,T,T,T,T,T,T,T,T,T] (any_of HT_.out kr) ?_
               refine done_ (done_of HT_.out kr) ?_
               have hcz61_0 : w59.cell? ⟨gb191, 0, none⟩ = some (.int .i64 ((rd_T61 l1 x16_1).f0)) := (blk_cell BK191.out 0).trans rfl
               have hcz61_1 : w59.cell? ⟨gb191, 1, none⟩ = some (.int .i64 ((rd_T61 l1 x16_1).f1)) := (blk_cell BK191.out 1).trans rfl
               have hcz61_2 : w59.cell? ⟨gb191, 2, none⟩ = some (.int .i64 ((rd_T61 l1 x16_1).f2)) := (blk_cell BK191.out 2).trans rfl
               have hfz61_0 := blk_frozen BK191.out 0
               have hfz61_1 := blk_frozen BK191.out 1
               have hfz61_2 := blk_frozen BK191.out 2
               have q62 : ((ji21) : Int) ≤ ((x7_1.length : Int) : Int) := oda
               obtain ⟨i062, hi062, _, hsz62, _⟩ := info_parts info4
               have hcut62 := cut_to (P := Try.prog) 77 4 .i64 Try.underlying77 hi062 (some ad197) x7_1.length co60 (ji21) oda q62 (Kd.R_reads' HO_7.out).2.1
               have hr62 := Kd.R_take (m := ((ji21) : Int).toNat) HO_7.out (by omega)
               have hy62 : y211.length = ((ji21) : Int).toNat := (by rw [Ny211.out, List.length_take]; omega)
               rw [← Ny211.out] at hr62
               rw [← hy62] at hr62 hcut62
               clear hy62 hi062 hsz62 HO_7
               have HO213 := Aside0.mk hr62
               clear hr62
               replace q62 := eq_true q62
               try go_wp2_with (first | ((with_reducible refine gate_builtin (b := .append) (xs := #[.tmp 65, .tmp 67]) rfl ?_); at_builtin; refine Kd.R_append Kd.bool (w0 := w) w.heap.size rfl (.tmp 65) (.tmp 67) 77 4 (.bool false) 1 rfl Try.underlying77 info4 rfl (by decide) (by omega) (.slice (some ad197) y211.length co60) y211 (rdOf false x7_1 (ji24)) [.bool (rdOf false x7_1 (ji24))] (fun _ => True) (fun _ => False) rfl rfl ?aP (fun _ hk => hk.elim) ?aF ?aO ?aB ?aS ?aL ?_; (case aP => exact rfl); (case aB => exact bh); (case aF => exact (fun _ _ => trivial)); (case aO => exact (rz HO213)); (case aS => exact (below_size bh)); (case aL => have := LMc54.out; omega); intro v215 w63 ho hb hg hat; rw [← Ny214.out] at ho; have n0_ := Aside0.mk (blk_grown (bz BK185) hg (Kd.R_ne HO213.out BK185.out (by decide))); have n1_ := Aside0.mk (blk_grown (bz BK191) hg (Kd.R_ne HO213.out BK191.out (by decide))); have n2_ := Aside0.mk (hb); have n3_ := Aside0.mk (ho); clear BK185 BK191 HB HO213; have BK185 := n0_; have BK191 := n1_; have HB := n2_; have HO216 := n3_; clear n0_ n1_ n2_ n3_ ho hb hg hat))
               go_roundg k1
               case measure => have := HK1.out; omega
               case rel => exact ⟨(y214), (wrap64 (x16_1 + 1)), (by first | rfl | (simp; done) | (simp [*]; done)), H', ⟨by have := HK1.out; omega⟩, ⟨rz HO216⟩, ⟨bz BK185⟩, ⟨by exact bh⟩⟩
              ·rw [if_neg c54] at H
               exact absurd H (by simp)
             ·rw [if_neg c53] at H
              exact absurd H (by simp)
            ·rw [if_neg c52] at H
             have c52b0 : (((rd_T61 l1 x16_1).f0) == 2) = false := beq_eq_false_iff_ne.mpr c52
             have c52b1 : (((rd_T61 l1 x16_1).f0) != 2) = true := bne_iff_ne.mpr c52
             by_cases c64 : (ji21) ≤ (x7_1.length : Int)
             ·rw [if_pos c64] at H
              have c64b0 := eq_true c64
              have c64b1 : decide ((ji21) ≤ (x7_1.length : Int)) = true := decide_eq_true c64
              clear c64
              obtain ⟨y217, hy217⟩ : ∃ y_ : List Bool, y_ = (x7_1.take ((ji21) : Int).toNat) := ⟨_, rfl⟩
              replace H : (if y217.length < 140737488355328 then (impl_consents.l0 k1 a2 (y217 ++ [false]) l1 (l1.length : Int) (wrap64 (x16_1 + 1)) a0_0 l0_1) else (none)) = some r := by first | (rw [hy217]; with_reducible exact H) | (have H2_ := (Option.bind_some _ _).symm.trans H; rw [hy217]; with_reducible exact H2_) | (have H2_ := (Option.bind_some _ _).symm.trans H; with_reducible exact H2_) | with_reducible exact H | (rw [hy217]; exact H) | exact H
              have Ny217 := Aside0.mk hy217
              clear hy217
              by_cases c65 : y217.length < 140737488355328
              ·rw [if_pos c65] at H
               have LMc65 := Aside0.mk c65
               clear c65
               obtain ⟨y220, hy220⟩ : ∃ y_ : List Bool, y_ = (y217 ++ [false]) := ⟨_, rfl⟩
               replace H : (impl_consents.l0 k1 a2 y220 l1 (l1.length : Int) (wrap64 (x16_1 + 1)) a0_0 l0_1) = some r := by first | (rw [hy220]; with_reducible exact H) | (have H2_ := (Option.bind_some _ _).symm.trans H; rw [hy220]; with_reducible exact H2_) | (have H2_ := (Option.bind_some _ _).symm.trans H; with_reducible exact H2_) | with_reducible exact H | (rw [hy220]; exact H) | exact H
               have Ny220 := Aside0.mk hy220
               clear hy220
               have H' := Aside0.mk H
               clear H
               have p190 : 0 ≤ (x16_1 : Int) := oda
               have q190 : x16_1 < (l1.length : Int) := oda
               obtain ⟨ad190, e190, hx190_0, hx190_1, hx190_2⟩ := at_T61 HR1.out x16_1 p190 q190
               cases e190
               replace hx190_0 := (HB.out.cell (World.block_lt_of_cell? w _ hx190_0)).trans hx190_0
               replace hx190_1 := (HB.out.cell (World.block_lt_of_cell? w _ hx190_1)).trans hx190_1
               replace hx190_2 := (HB.out.cell (World.block_lt_of_cell? w _ hx190_2)).trans hx190_2
               replace p190 := eq_true p190
               replace q190 := eq_true q190
               try go_wp2_with (first | ((with_reducible refine gate_dst (N := 9) rfl ?_); refine box_event ?hg (N := 9) ?hd (cs := #[.int .i64 0, .int .i64 0, .int .i64 0]) (t := 61) ?hr ?_; (case hd => rfl); (case hg => rfl); (case hr => first | (go_simp; done) | (go_simp; rfl)); intro gb191 hg w66 hbox hb; have n0_ := Aside0.mk (Kd.R_below (rz HO_7) hb); have n1_ := Aside0.mk (blk_below (bz BK185) hb); have n2_ := Aside0.mk (below_step bh hb); have n3_ := Aside0.mk (hbox); have n4_ := Aside0.mk ((gs (W0 := w) hg bh)); have n5_ := Aside0.mk ((gs (W0 := w) hg bh)); have n6_ := Aside0.mk ((gn hg (bz BK185))); have n7_ := Aside0.mk ((gm hg (bz BK185))); clear HO_7 BK185 HB; have HO_7 := n0_; have BK185 := n1_; have HB := n2_; have BK191 := n3_; have GW191 := n4_; have GE191 := n5_; have NB185_191 := n6_; have NB191_185 := n7_; clear n0_ n1_ n2_ n3_ n4_ n5_ n6_ n7_ hb hbox hg; have hnb67 := NB191_185.out; have hnc67 := NB185_191.out; have hcz68_0 := cz0 BK191; have hcz68_1 := cz1 BK191; have hcz68_2 := cz2 BK191; have hfz68_0 := blk_frozen BK191.out 0; have hfz68_1 := blk_frozen BK191.out 1; have hfz68_2 := blk_frozen BK191.out 2))
               generalize hW_ : (((w66.setCell ⟨gb191, 0, none⟩ (.int .i64 ((rd_T61 l1 x16_1).f0))).setCell ⟨gb191, 1, none⟩ (.int .i64 ((rd_T61 l1 x16_1).f1))).setCell ⟨gb191, 2, none⟩ (.int .i64 ((rd_T61 l1 x16_1).f2))) = w69
               have n0_ : Aside0 (Kd.R Kd.bool 4 w69 w.heap.size (fun _ => True) u7 x7_1) := ⟨by subst hW_; (with_reducible repeat (first | apply Kd.R_alloc | apply Kd.R_drewN | apply Kd.R_drew)); exact Kd.R_mono (Kd.R_far (p := ⟨gb191, 2, none⟩) (Kd.R_far (p := ⟨gb191, 1, none⟩) (Kd.R_far (p := ⟨gb191, 0, none⟩) (Kd.R_types HO_7.out BK191.out (by decide)) (fun _ hk => hk.2) (.int .i64 ((rd_T61 l1 x16_1).f0))) (fun _ hk => hk.2) (.int .i64 ((rd_T61 l1 x16_1).f1))) (fun _ hk => hk.2) (.int .i64 ((rd_T61 l1 x16_1).f2))) (fun _ hk => trivial)⟩
               have n1_ : Aside0 (w69.heap[gb185]? = some (.cells #[.int .i64 a0_0, .slice A0_1 l0_1.length c0_1] 25 (0, 0))) := ⟨by subst hW_; (with_reducible repeat (first | refine blk_drewN ?_ _ | refine blk_drew ?_ | refine blk_alloc ?_ _)); refine blk_far ?_ NB185_191.out _; (with_reducible repeat (first | refine blk_drewN ?_ _ | refine blk_drew ?_ | refine blk_alloc ?_ _)); refine blk_far ?_ NB185_191.out _; (with_reducible repeat (first | refine blk_drewN ?_ _ | refine blk_drew ?_ | refine blk_alloc ?_ _)); refine blk_far ?_ NB185_191.out _; (with_reducible repeat (first | refine blk_drewN ?_ _ | refine blk_drew ?_ | refine blk_alloc ?_ _)); exact BK185.out⟩
               have n2_ : Aside0 (w69.heap[gb191]? = some (.cells #[.int .i64 ((rd_T61 l1 x16_1).f0), .int .i64 ((rd_T61 l1 x16_1).f1), .int .i64 ((rd_T61 l1 x16_1).f2)] 61 (0, 0))) := ⟨by subst hW_; (with_reducible repeat (first | refine blk_drewN ?_ _ | refine blk_drew ?_ | refine blk_alloc ?_ _)); refine blk_put (cs := #[.int .i64 ((rd_T61 l1 x16_1).f0), .int .i64 ((rd_T61 l1 x16_1).f1), .int .i64 0]) ?_ 2 _ rfl; (with_reducible repeat (first | refine blk_drewN ?_ _ | refine blk_drew ?_ | refine blk_alloc ?_ _)); refine blk_put (cs := #[.int .i64 ((rd_T61 l1 x16_1).f0), .int .i64 0, .int .i64 0]) ?_ 1 _ rfl; (with_reducible repeat (first | refine blk_drewN ?_ _ | refine blk_drew ?_ | refine blk_alloc ?_ _)); refine blk_put (cs := #[.int .i64 0, .int .i64 0, .int .i64 0]) ?_ 0 _ rfl; (with_reducible repeat (first | refine blk_drewN ?_ _ | refine blk_drew ?_ | refine blk_alloc ?_ _)); exact BK191.out⟩
               have n3_ : Aside0 (Below w.heap.size w w69) := ⟨by subst hW_; exact bh⟩
               clear hW_
               (try clear HO_7)
               (try clear BK185)
               (try clear BK191)
               (try clear HB)
               have HO_7 := n0_
               have BK185 := n1_
               have BK191 := n2_
               have HB := n3_
               clear n0_ n1_ n2_ n3_
               have n0_ := Aside0.mk (Kd.R_drew HO_7.out)
               have n1_ := Aside0.mk (blk_drew BK185.out)
               have n2_ := Aside0.mk (blk_drew BK191.out)
               have n3_ := Aside0.mk (below_drew1 HB.out)
               clear HO_7 BK185 BK191 HB
               have HO_7 := n0_
               have BK185 := n1_
               have BK191 := n2_
               have HB := n3_
               clear n0_ n1_ n2_ n3_
               obtain ⟨Ao71, co71, eo71⟩ := Kd.R_slice HO_7.out
               (first | subst eo71 | (injection eo71 with f1_ f2_ f3_; have f4_ := f1_.symm; have f5_ := f3_.symm; clear f1_ f2_ f3_; subst f4_; subst f5_))
               have p197 : 0 ≤ ((ji21) : Int) := oda
               have q197 : (ji21) < (x7_1.length : Int) := oda
               obtain ⟨ad197, e197, hx197_0⟩ := Kd.at_bool (Kd.R_reads' HO_7.out).2.2 (ji21) p197 q197
               (try rw [← Nbq27.out] at hx197_0)
               cases e197
               replace p197 := eq_true p197
               replace q197 := eq_true q197
               have p198 : 0 ≤ ((ji24) : Int) := oda
               have q198 : (ji24) < (x7_1.length : Int) := oda
               obtain ⟨ad198, e198, hx198_0⟩ := Kd.at_bool (Kd.R_reads' HO_7.out).2.2 (ji24) p198 q198
               (try rw [← Nbq27.out] at hx198_0)
               obtain rfl : ad197 = ad198 := (by injection e198)
               replace p198 := eq_true p198
               replace q198 := eq_true q198
               refine start_ (n := 14) (S := fun w' => w'.cell? (ad197.add ((ji21)).toNat) = some (.bool false) ∧ w'.cell? (ad197.add ((ji24)).toNat) = some (.bool (rdOf false x7_1 (ji24)))) (ds := []) #[F,F,F,F,F,F,F,F,F,F,F,F,F,F] kr rfl rfl ⟨hx197_0, hx198_0⟩ (fun hHeld => ?_); refine with_tabW impl_consents.tab7 impl_consents.bits7 (fun HT_ HW_ => ?_)
               generalize w69.drew = w70 at HO_7 BK185 BK191 HB hx197_0 hx198_0 hHeld ⊢
               refine pu 0 (some 38) #[T,F,F,F,F,F,F,F,F,F,F,F,F,F] (any_of HT_.out kr) ?_
               refine pu 1 (some 39) #[T,T,F,F,F,F,F,F,F,F,F,F,F,F] (any_of HT_.out kr) ?_
               refine pu 2 (some 40) #[T,T,T,F,F,F,F,F,F,F,F,F,F,F] (any_of HT_.out kr) ?_
               refine pu 3 (some 41) #[T,T,T,T,F,F,F,F,F,F,F,F,F,F] (any_of HT_.out kr) ?_
               refine pu 4 (some 42) #[T,T,T,T,T,F,F,F,F,F,F,F,F,F] (any_of HT_.out kr) ?_
               refine pu 6 (some 44) #[T,T,T,T,T,F,T,F,F,F,F,F,F,F] (any_of HT_.out kr) ?_
               refine pu 7 (some 45) #[T,T,T,T,T,F,T,T,F,F,F,F,F,F] (any_of HT_.out kr) ?_
               refine pu 8 (some 46) #[T,T,T,T,T,F,T,T,T,F,F,F,F,F] (any_of HT_.out kr) ?_
               refine pu 9 (some 47) #[T,T,T,T,T,F,T,T,T,T,F,F,F,F] (any_of HT_.out kr) ?_
               refine pu 10 (some 48) #[T,T,T,T,T,F,T,T,T,T,T,F,F,F] (any_of HT_.out kr) ?_
               refine tk2 5 (some 43) #[T,T,T,T,T,T,T,T,T,T,T,F,F,F] (take_ofW HT_.out HW_.out kr) ?_
               refine pu 12 (some 10) #[T,T,T,T,T,T,T,T,T,T,T,F,T,F] (any_of HT_.out kr) ?_
               refine tk2 11 (some 49) #[T,T,T,T,T,T,T,T,T,T,T,T,T,F] (take_ofW HT_.out HW_.out kr) ?_
               refine pu 13 (some 11) #[T,T,T,T,T,T,T,T,T,T,T,T,T,T] (any_of HT_.out kr) ?_
               refine done_ (done_of HT_.out kr) ?_
               have hcz72_0 : w70.cell? ⟨gb191, 0, none⟩ = some (.int .i64 ((rd_T61 l1 x16_1).f0)) := (blk_cell BK191.out 0).trans rfl
               have hcz72_1 : w70.cell? ⟨gb191, 1, none⟩ = some (.int .i64 ((rd_T61 l1 x16_1).f1)) := (blk_cell BK191.out 1).trans rfl
               have hcz72_2 : w70.cell? ⟨gb191, 2, none⟩ = some (.int .i64 ((rd_T61 l1 x16_1).f2)) := (blk_cell BK191.out 2).trans rfl
               have hfz72_0 := blk_frozen BK191.out 0
               have hfz72_1 := blk_frozen BK191.out 1
               have hfz72_2 := blk_frozen BK191.out 2
               have q73 : ((ji21) : Int) ≤ ((x7_1.length : Int) : Int) := oda
               obtain ⟨i073, hi073, _, hsz73, _⟩ := info_parts info4
               have hcut73 := cut_to (P := Try.prog) 77 4 .i64 Try.underlying77 hi073 (some ad197) x7_1.length co71 (ji21) oda q73 (Kd.R_reads' HO_7.out).2.1
               have hr73 := Kd.R_take (m := ((ji21) : Int).toNat) HO_7.out (by omega)
               have hy73 : y217.length = ((ji21) : Int).toNat := (by rw [Ny217.out, List.length_take]; omega)
               rw [← Ny217.out] at hr73
               rw [← hy73] at hr73 hcut73
               clear hy73 hi073 hsz73 HO_7
               have HO219 := Aside0.mk hr73
               clear hr73
               replace q73 := eq_true q73
               try go_wp2_with (first | ((with_reducible refine gate_builtin (b := .append) (xs := #[.tmp 65, .tmp 67]) rfl ?_); at_builtin; refine Kd.R_append Kd.bool (w0 := w) w.heap.size rfl (.tmp 65) (.tmp 67) 77 4 (.bool false) 1 rfl Try.underlying77 info4 rfl (by decide) (by omega) (.slice (some ad197) y217.length co71) y217 false [.bool false] (fun _ => True) (fun _ => False) rfl rfl ?aP (fun _ hk => hk.elim) ?aF ?aO ?aB ?aS ?aL ?_; (case aP => exact rfl); (case aB => exact bh); (case aF => exact (fun _ _ => trivial)); (case aO => exact (rz HO219)); (case aS => exact (below_size bh)); (case aL => have := LMc65.out; omega); intro v221 w74 ho hb hg hat; rw [← Ny220.out] at ho; have n0_ := Aside0.mk (blk_grown (bz BK185) hg (Kd.R_ne HO219.out BK185.out (by decide))); have n1_ := Aside0.mk (blk_grown (bz BK191) hg (Kd.R_ne HO219.out BK191.out (by decide))); have n2_ := Aside0.mk (hb); have n3_ := Aside0.mk (ho); clear BK185 BK191 HB HO219; have BK185 := n0_; have BK191 := n1_; have HB := n2_; have HO222 := n3_; clear n0_ n1_ n2_ n3_ ho hb hg hat))
               go_roundg k1
               case measure => have := HK1.out; omega
               case rel => exact ⟨(y220), (wrap64 (x16_1 + 1)), (by first | rfl | (simp; done) | (simp [*]; done)), H', ⟨by have := HK1.out; omega⟩, ⟨rz HO222⟩, ⟨bz BK185⟩, ⟨by exact bh⟩⟩
              ·rw [if_neg c65] at H
               exact absurd H (by simp)
             ·rw [if_neg c64] at H
              exact absurd H (by simp)
          ·rw [if_neg c26] at H
           exact absurd H (by simp)
         ·rw [if_neg c25] at H
          exact absurd H (by simp)
        ·rw [if_neg c23] at H
         exact absurd H (by simp)
       ·rw [if_neg c22] at H
        exact absurd H (by simp)
     ·rw [if_neg c9] at H
      exact absurd H (by simp)
    ·rw [if_neg c8] at H
     exact absurd H (by simp)
   ·rw [if_neg c7] at H
    have c7b0 : decide (x16_1 < (l1.length : Int)) = false := decide_eq_false c7
    clear c7
    by_cases c75 : 0 < (x7_1.length : Int)
    ·rw [if_pos c75] at H
     have c75b0 : decide (0 < (x7_1.length : Int)) = true := decide_eq_true c75
     have c75b1 : decide (0 < x7_1.length) = true := decide_eq_true (by omega)
     clear c75
     obtain rfl := Option.some.inj H
     obtain ⟨Ao76, co76, eo76⟩ := Kd.R_slice HO_7.out
     subst eo76
     have p189 : 0 ≤ (0 : Int) := (by omega)
     have q189 : 0 < (x7_1.length : Int) := oda
     obtain ⟨ad189, e189, hx189_0⟩ := Kd.at_bool (Kd.R_reads' HO_7.out).2.2 0 p189 q189
     cases e189
     have qi189 : (0 < x7_1.length) = True := eq_true (by omega)
     (try rw [show ((0 : Int)).toNat = 0 from rfl] at hx189_0)
     (try rw [Addr.add_zero'] at hx189_0)
     replace p189 := eq_true p189
     replace q189 := eq_true q189
     go_wp2
     go_ret
     exact ⟨by first | rfl | (simp [errW_none, errW_some] <;> rfl) | (simp [*, errW_none, errW_some] <;> rfl), by exact bh⟩
    ·rw [if_neg c75] at H
     exact absurd H (by simp)

end Go.Proofs.Ytaddlahbahedeaa.QFnClashOk
