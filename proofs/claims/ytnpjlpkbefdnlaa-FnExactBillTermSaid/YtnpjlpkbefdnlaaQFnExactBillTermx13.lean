-- Printed for this claim by a turned copy of the print (wip/myprint). Lean checks it. Squeezed. Worded. Tightened.
import Derived.Test.YtnpjlpkbefdnlaaQFnExactBillTermx0
import Derived.Test.YtnpjlpkbefdnlaaQFnExactBillTermx12
namespace Go.Proofs.Ytnpjlpkbefdnlaa.QFnExactBillTerm
open Go.RowKit Go.Proofs.YtnpjlpkbefdnlaaW.PrintWords Go.Proofs.YtnpjlpkbefdnlaaW.PrintLast Go.Proofs.YtnpjlpkbefdnlaaW.PrintMore
attribute [local go_sem] max2_int min2_int max_two min_two max_three min_three max_four min_four Opens.cell_twice   -- for this text's walks alone
set_option linter.unusedVariables false
set_option linter.unusedSimpArgs false

/-! ### spec_l5From: function 71 -/
def spec_l5From.l0 : Nat → List (S41) → Int → Int → Int → List Int → Option (Bool)
 | 0, _, _, _, _, _ => none
 | k + 1, x1, x2, x3, x324000, x324001 => if x2 < 10 then (if 0 ≤ x2 then (if x2 < (x1.length : Int) then ((spec_l4Says.f k x324000 x324001 ((rd_T41 x1 x2).f0) x3).bind fun t325 => (if t325 = true then (spec_l5From.l0 k x1 ((rd_T41 x1 x2).f1) x3 x324000 x324001) else (spec_l5From.l0 k x1 ((rd_T41 x1 x2).f2) x3 x324000 x324001))) else (none)) else (none)) else (some (x2 == 10))
def spec_l5From.f (k : Nat) (a0_0 : Int) (l0_1 : List Int) (l1 : List (S41)) (a2 : Int) (a3 : Int) : Option (Bool) := spec_l5From.l0 k l1 a2 a3 a0_0 l0_1
theorem spec_l5From.mono_l : ∀ k, (∀ y0 y1 y2 y3 y4, LeO (spec_l5From.l0 k y0 y1 y2 y3 y4) (spec_l5From.l0 (k + 1) y0 y1 y2 y3 y4))
 | 0 => fun _ _ _ _ _ r h => by simp [spec_l5From.l0] at h
 | k + 1 => by
  have ih0 := spec_l5From.mono_l k
  ·intro y0 y1 y2 y3 y4
   unfold spec_l5From.l0
   repeat' first
   | (with_reducible exact ih0 _ _ _ _ _)
   | (with_reducible exact spec_l4Says.mono _ _ _ _ _)
   | (with_reducible exact LeO.refl _)
   | (with_reducible exact LeO.none _)
   | (with_reducible refine LeO.ite ?_ ?_)
   | (with_reducible refine LeO.bind ?_ (fun _ => ?_))
   | exact ih0 _ _ _ _ _
   | exact spec_l4Says.mono _ _ _ _ _
   | exact LeO.none _
   | refine LeO.ite ?_ ?_
   | refine LeO.bind ?_ (fun _ => ?_)
theorem spec_l5From.mono : ∀ a0 a1 a2 a3 a4 k, LeO (spec_l5From.f k a0 a1 a2 a3 a4) (spec_l5From.f (k + 1) a0 a1 a2 a3 a4) := by
 intro a0 a1 a2 a3 a4 k
 have ih0 := spec_l5From.mono_l k
 unfold spec_l5From.f
 repeat' first
   | (with_reducible exact ih0 _ _ _ _ _)
   | (with_reducible exact spec_l4Says.mono _ _ _ _ _)
   | (with_reducible exact LeO.refl _)
   | (with_reducible exact LeO.none _)
   | (with_reducible refine LeO.ite ?_ ?_)
   | (with_reducible refine LeO.bind ?_ (fun _ => ?_))
   | exact ih0 _ _ _ _ _
   | exact spec_l4Says.mono _ _ _ _ _
   | exact LeO.none _
   | refine LeO.ite ?_ ?_
   | refine LeO.bind ?_ (fun _ => ?_)
def spec_l5From.T2 : Bool × List (List Nat × List Nat) := (true, [([], []), ([], []), ([], []), ([1, 2], [1, 2]), ([3], [3]), ([4], [4]), ([], []), ([0, 5, 6], [0, 5, 6])])
def spec_l5From.B2 : List Nat := [0, 0, 0, 6, 14, 30, 0, 127]
theorem spec_l5From.tab2 : rtab .any (opsOf Try.f71 2) = spec_l5From.T2 := by kernel_rfl
theorem spec_l5From.bits2 : waitsOk spec_l5From.T2.2 spec_l5From.B2 = true := by kernel_rfl
set_option maxHeartbeats 8000000 in
set_option maxRecDepth 100000 in
theorem spec_l5From.calls (k : Nat) (a0_0 : Int) (A0_1 : Option Addr) (c0_1 : Nat) (l0_1 : List Int) (A1 : Option Addr) (c1 : Nat) (l1 : List (S41)) (a2 : Int) (a3 : Int) (r : Bool) (w : World) (hr0_1 : Kd.C (Kd.int .i64) w A0_1 l0_1.length l0_1) (hc0_1 : l0_1.length ≤ c0_1) (hr1 : Kd.C k41 w A1 l1.length l1) (hc1 : l1.length ≤ c1) (h : spec_l5From.f k a0_0 l0_1 l1 a2 a3 = some r) :
  Calls Try.prog 71 #[.agg #[.int .i64 a0_0, .slice A0_1 l0_1.length c0_1], .slice A1 l1.length c1, .int .i64 a2, .int .i64 a3] w fun e w' => e = .returned (.bool r) ∧ Below w.heap.size w w' := by
 have hu25 := Try.underlying25
 have HR0_1 := Aside0.mk hr0_1
 have HC0_1 := Aside0.mk hc0_1
 clear hr0_1 hc0_1
 have HR1 := Aside0.mk hr1
 have HC1 := Aside0.mk hc1
 clear hr1 hc1
 have HB := Aside0.mk (Below.refl w.heap.size w)
 have H : (spec_l5From.l0 k l1 a2 a3 a0_0 l0_1) = some r := h
 clear h
 have H' := Aside0.mk H
 clear H
 go_enter Try.func71, Try.ntmps71
 go_wp2_with (first | ((with_reducible refine gate_dst (N := 4) rfl ?_); refine box_event ?hg (N := 4) ?hd (cs := #[.int .i64 a0_0, .slice A0_1 l0_1.length c0_1]) (t := 25) ?hr ?_; (case hd => rfl); (case hg => rfl); (case hr => first | (go_simp; done) | (go_simp; rfl)); intro gb323 hg w5 hbox hb; have n0_ := Aside0.mk (below_step bh hb); have n1_ := Aside0.mk (hbox); have n2_ := Aside0.mk ((gs (W0 := w) hg bh)); have n3_ := Aside0.mk ((gs (W0 := w) hg bh)); clear HB; have HB := n0_; have BK323 := n1_; have GW323 := n2_; have GE323 := n3_; clear n0_ n1_ n2_ n3_ hb hbox hg))
 go_loopg [2] k (fun kq v2 w' => ∃ (x2_1 : Int), v2 = .int .i64 x2_1 ∧ Aside0 (spec_l5From.l0 kq l1 x2_1 a3 a0_0 l0_1 = some r) ∧ Aside0 (kq ≤ k) ∧ Aside0 (w'.heap[gb323]? = some (.cells #[.int .i64 a0_0, (.slice A0_1 l0_1.length c0_1)] 25 (0, 0))) ∧ Aside0 (Below w.heap.size w w'))
 case atStart => exact ⟨(a2), (by first | rfl | (simp; done) | (simp [*]; done)), H', ⟨Nat.le_refl _⟩, ⟨bz BK323⟩, ⟨by exact bh⟩⟩
 case round =>
  clear H'
  try clear c1
  try clear p2
  obtain ⟨x2_1, rfl, HA, HK1, BK323, HB⟩ := hrel
  cases gk with
  | zero => exact absurd HA.out (by simp [spec_l5From.l0])
  | succ k1 =>
   have H := HA.out
   clear HA
   simp only [spec_l5From.l0] at H
   by_cases c6 : x2_1 < 10
   ·rw [if_pos c6] at H
    have c6b0 : decide (x2_1 < 10) = true := decide_eq_true c6
    clear c6
    by_cases c7 : 0 ≤ x2_1
    ·rw [if_pos c7] at H
     have c7b0 : decide (0 ≤ x2_1) = true := decide_eq_true c7
     clear c7
     by_cases c8 : x2_1 < (l1.length : Int)
     ·rw [if_pos c8] at H
      have c8b0 : decide (x2_1 < (l1.length : Int)) = true := decide_eq_true c8
      clear c8
      replace H := Option.bind_eq_some_iff.mp H
      obtain ⟨t325, A90, H⟩ := H
      replace H : (if t325 = true then (spec_l5From.l0 k1 l1 ((rd_T41 l1 x2_1).f1) a3 a0_0 l0_1) else (spec_l5From.l0 k1 l1 ((rd_T41 l1 x2_1).f2) a3 a0_0 l0_1)) = some r := H
      have A9 := Aside0.mk A90
      clear A90
      by_cases c10 : t325 = true
      ·subst c10
       have H1 : (spec_l5From.l0 k1 l1 ((rd_T41 l1 x2_1).f1) a3 a0_0 l0_1) = some r := by rw [if_pos rfl] at H; exact H
       clear H
       have H := H1
       clear H1
       have H' := Aside0.mk H
       clear H
       try go_wp2
       have n0_ := Aside0.mk (blk_drew BK323.out)
       have n1_ := Aside0.mk (below_drew1 HB.out)
       clear BK323 HB
       have BK323 := n0_
       have HB := n1_
       clear n0_ n1_
       have p324 : 0 ≤ (x2_1 : Int) := oda
       have q324 : x2_1 < (l1.length : Int) := oda
       obtain ⟨ad324, A324_0, c324_0, e324, hx324_0, hx324_1, hx324_2, hl324_0, hi324_0⟩ := at_T41 HR1.out x2_1 p324 q324
       have hw324_2 := hx324_2
       have hw324_1 := hx324_1
       have hw324_0 := hx324_0
       cases e324
       replace hx324_0 := (HB.out.cell (World.block_lt_of_cell? w _ hx324_0)).trans hx324_0
       replace hx324_1 := (HB.out.cell (World.block_lt_of_cell? w _ hx324_1)).trans hx324_1
       replace hx324_2 := (HB.out.cell (World.block_lt_of_cell? w _ hx324_2)).trans hx324_2
       have HR324_0 := Aside0.mk hi324_0
       have HC324_0 := Aside0.mk hl324_0
       clear hi324_0 hl324_0
       replace p324 := eq_true p324
       replace q324 := eq_true q324
       refine start_ (n := 8) (S := fun w' => w'.cell? ⟨gb323, 0, none⟩ = some (.int .i64 a0_0) ∧ w'.cell? ⟨gb323, 1, none⟩ = some (.slice A0_1 l0_1.length c0_1) ∧ w'.cell? (ad324.add ((x2_1).toNat * 3)) = some (.slice A324_0 ((rd_T41 l1 x2_1).f0).length c324_0) ∧ w'.cell? ⟨(ad324.add ((x2_1).toNat * 3)).block, (ad324.add ((x2_1).toNat * 3)).off + 1, none⟩ = some (.int .i64 ((rd_T41 l1 x2_1).f1)) ∧ w'.cell? ⟨(ad324.add ((x2_1).toNat * 3)).block, (ad324.add ((x2_1).toNat * 3)).off + 2, none⟩ = some (.int .i64 ((rd_T41 l1 x2_1).f2))) (ds := []) #[F,F,F,F,F,F,F,F] kr rfl rfl ⟨cz0 BK323, cz1 BK323, ((HB.out.cell (World.block_lt_of_cell? w _ hw324_0)).trans hw324_0), ((HB.out.cell (World.block_lt_of_cell? w _ hw324_1)).trans hw324_1), ((HB.out.cell (World.block_lt_of_cell? w _ hw324_2)).trans hw324_2)⟩ (fun hHeld => ?_); refine with_tabW spec_l5From.tab2 spec_l5From.bits2 (fun HT_ HW_ => ?_)
       generalize wr.drew = w11 at BK323 HB HR324_0 hx324_0 hx324_1 hx324_2 hHeld ⊢
       refine pu 1 (some 12) #[F,T,F,F,F,F,F,F] (any_of HT_.out kr) ?_
       refine pu 2 (some 13) #[F,T,T,F,F,F,F,F] (any_of HT_.out kr) ?_
       refine pu 3 (some 14) #[F,T,T,T,F,F,F,F] (any_of HT_.out kr) ?_
       refine pu 4 (some 15) #[F,T,T,T,T,F,F,F] (any_of HT_.out kr) ?_
       refine pu 6 (some 17) #[F,T,T,T,T,F,T,F] (any_of HT_.out kr) ?_
       refine tk5 0 (some 11) #[T,T,T,T,T,F,T,F] (take_ofW HT_.out HW_.out kr) ?_
       refine tk5 5 (some 16) #[T,T,T,T,T,T,T,F] (take_ofW HT_.out HW_.out kr) ?_
       refine one_ (i := 7) (N := some 18) #[T,T,T,T,T,T,T,T] rfl rfl (one_of HT_.out kr) (by decide) (fun K hK => ?_)
       refine goes_ Try.func75 kr rfl #[.agg #[.int .i64 a0_0, .slice A0_1 l0_1.length c0_1], .slice A324_0 ((rd_T41 l1 x2_1).f0).length c324_0, .int .i64 a3] (by rfl) rfl rfl lm ?_
       with_reducible refine (spec_l4Says.calls k1 a0_0 _ _ l0_1 _ _ ((rd_T41 l1 x2_1).f0) a3 true _ ?side1 ?side2 ?side3 ?side4 A9.out).mono ?_
       (case side1 => repeat (first | exact (Kd.C_below HR0_1.out HB.out) | (with_reducible refine Kd.C_alloc ?_ _) | (with_reducible refine Kd.C_drewN ?_ _) | (with_reducible refine Kd.C_drew ?_)))
       (case side2 => exact HC0_1.out)
       (case side3 => repeat (first | exact (Kd.C_below HR324_0.out HB.out) | (with_reducible refine Kd.C_alloc ?_ _) | (with_reducible refine Kd.C_drewN ?_ _) | (with_reducible refine Kd.C_drew ?_)))
       (case side4 => exact HC324_0.out)
       rintro e w12 ⟨rfl, hb⟩
       refine ⟨_, rfl, ?_⟩
       have n0_ := Aside0.mk (blk_below (bz BK323) hb)
       have n1_ := Aside0.mk (below_step bh hb)
       clear BK323 HB
       have BK323 := n0_
       have HB := n1_
       clear n0_ n1_
       (try clear hb)
       (try clear hb2)
       (try clear hk)
       (try clear hi)
       refine hK.out _ _ ⟨cz0 BK323, cz1 BK323, ((HB.out.cell (World.block_lt_of_cell? w _ hw324_0)).trans hw324_0), ((HB.out.cell (World.block_lt_of_cell? w _ hw324_1)).trans hw324_1), ((HB.out.cell (World.block_lt_of_cell? w _ hw324_2)).trans hw324_2)⟩ (fun hHeld => ?_)
       clear hK K
       refine norm_ (a' := ?_) ?_ ?_
       rotate_left
       ·show Act.put _ (some 18) _ = _
        simp only [Act.put, List.setIfInBounds_toArray, List.set_cons_zero, List.set_cons_succ, i64_w, i32_w]
        rfl
       refine done_ (done_of HT_.out kr) ?_
       have p326 : 0 ≤ (x2_1 : Int) := oda
       have q326 : x2_1 < (l1.length : Int) := oda
       obtain ⟨ad326, A326_0, c326_0, e326, hx326_0, hx326_1, hx326_2, hl326_0, hi326_0⟩ := at_T41 HR1.out x2_1 p326 q326
       obtain rfl : ad324 = ad326 := (by injection e326)
       replace hx326_0 := (HB.out.cell (World.block_lt_of_cell? w _ hx326_0)).trans hx326_0
       replace hx326_1 := (HB.out.cell (World.block_lt_of_cell? w _ hx326_1)).trans hx326_1
       replace hx326_2 := (HB.out.cell (World.block_lt_of_cell? w _ hx326_2)).trans hx326_2
       have HR326_0 := Aside0.mk hi326_0
       have HC326_0 := Aside0.mk hl326_0
       clear hi326_0 hl326_0
       replace p326 := eq_true p326
       replace q326 := eq_true q326
       try go_wp2
       go_roundg k1
       case measure => have := HK1.out; omega
       case rel => exact ⟨((rd_T41 l1 x2_1).f1), (by first | rfl | (simp; done) | (simp [*]; done)), H', ⟨by have := HK1.out; omega⟩, ⟨bz BK323⟩, ⟨by exact bh⟩⟩
      ·replace c10 := Bool.eq_false_iff.mpr c10
       subst c10
       have H1 : (spec_l5From.l0 k1 l1 ((rd_T41 l1 x2_1).f2) a3 a0_0 l0_1) = some r := by rw [if_neg (show ¬ (false = true) by decide)] at H; exact H
       clear H
       have H := H1
       clear H1
       have H' := Aside0.mk H
       clear H
       try go_wp2
       have n0_ := Aside0.mk (blk_drew BK323.out)
       have n1_ := Aside0.mk (below_drew1 HB.out)
       clear BK323 HB
       have BK323 := n0_
       have HB := n1_
       clear n0_ n1_
       have p324 : 0 ≤ (x2_1 : Int) := oda
       have q324 : x2_1 < (l1.length : Int) := oda
       obtain ⟨ad324, A324_0, c324_0, e324, hx324_0, hx324_1, hx324_2, hl324_0, hi324_0⟩ := at_T41 HR1.out x2_1 p324 q324
       have hw324_2 := hx324_2
       have hw324_1 := hx324_1
       have hw324_0 := hx324_0
       cases e324
       replace hx324_0 := (HB.out.cell (World.block_lt_of_cell? w _ hx324_0)).trans hx324_0
       replace hx324_1 := (HB.out.cell (World.block_lt_of_cell? w _ hx324_1)).trans hx324_1
       replace hx324_2 := (HB.out.cell (World.block_lt_of_cell? w _ hx324_2)).trans hx324_2
       have HR324_0 := Aside0.mk hi324_0
       have HC324_0 := Aside0.mk hl324_0
       clear hi324_0 hl324_0
       replace p324 := eq_true p324
       replace q324 := eq_true q324
       refine start_ (n := 8) (S := fun w' => w'.cell? ⟨gb323, 0, none⟩ = some (.int .i64 a0_0) ∧ w'.cell? ⟨gb323, 1, none⟩ = some (.slice A0_1 l0_1.length c0_1) ∧ w'.cell? (ad324.add ((x2_1).toNat * 3)) = some (.slice A324_0 ((rd_T41 l1 x2_1).f0).length c324_0) ∧ w'.cell? ⟨(ad324.add ((x2_1).toNat * 3)).block, (ad324.add ((x2_1).toNat * 3)).off + 1, none⟩ = some (.int .i64 ((rd_T41 l1 x2_1).f1)) ∧ w'.cell? ⟨(ad324.add ((x2_1).toNat * 3)).block, (ad324.add ((x2_1).toNat * 3)).off + 2, none⟩ = some (.int .i64 ((rd_T41 l1 x2_1).f2))) (ds := []) #[F,F,F,F,F,F,F,F] kr rfl rfl ⟨cz0 BK323, cz1 BK323, ((HB.out.cell (World.block_lt_of_cell? w _ hw324_0)).trans hw324_0), ((HB.out.cell (World.block_lt_of_cell? w _ hw324_1)).trans hw324_1), ((HB.out.cell (World.block_lt_of_cell? w _ hw324_2)).trans hw324_2)⟩ (fun hHeld => ?_); refine with_tabW spec_l5From.tab2 spec_l5From.bits2 (fun HT_ HW_ => ?_)
       generalize wr.drew = w13 at BK323 HB HR324_0 hx324_0 hx324_1 hx324_2 hHeld ⊢
       refine pu 1 (some 12) #[F,T,F,F,F,F,F,F] (any_of HT_.out kr) ?_
       refine pu 2 (some 13) #[F,T,T,F,F,F,F,F] (any_of HT_.out kr) ?_
       refine pu 3 (some 14) #[F,T,T,T,F,F,F,F] (any_of HT_.out kr) ?_
       refine pu 4 (some 15) #[F,T,T,T,T,F,F,F] (any_of HT_.out kr) ?_
       refine pu 6 (some 17) #[F,T,T,T,T,F,T,F] (any_of HT_.out kr) ?_
       refine tk5 0 (some 11) #[T,T,T,T,T,F,T,F] (take_ofW HT_.out HW_.out kr) ?_
       refine tk5 5 (some 16) #[T,T,T,T,T,T,T,F] (take_ofW HT_.out HW_.out kr) ?_
       refine one_ (i := 7) (N := some 18) #[T,T,T,T,T,T,T,T] rfl rfl (one_of HT_.out kr) (by decide) (fun K hK => ?_)
       refine goes_ Try.func75 kr rfl #[.agg #[.int .i64 a0_0, .slice A0_1 l0_1.length c0_1], .slice A324_0 ((rd_T41 l1 x2_1).f0).length c324_0, .int .i64 a3] (by rfl) rfl rfl lm ?_
       with_reducible refine (spec_l4Says.calls k1 a0_0 _ _ l0_1 _ _ ((rd_T41 l1 x2_1).f0) a3 false _ ?side1 ?side2 ?side3 ?side4 A9.out).mono ?_
       (case side1 => repeat (first | exact (Kd.C_below HR0_1.out HB.out) | (with_reducible refine Kd.C_alloc ?_ _) | (with_reducible refine Kd.C_drewN ?_ _) | (with_reducible refine Kd.C_drew ?_)))
       (case side2 => exact HC0_1.out)
       (case side3 => repeat (first | exact (Kd.C_below HR324_0.out HB.out) | (with_reducible refine Kd.C_alloc ?_ _) | (with_reducible refine Kd.C_drewN ?_ _) | (with_reducible refine Kd.C_drew ?_)))
       (case side4 => exact HC324_0.out)
       rintro e w14 ⟨rfl, hb⟩
       refine ⟨_, rfl, ?_⟩
       have n0_ := Aside0.mk (blk_below (bz BK323) hb)
       have n1_ := Aside0.mk (below_step bh hb)
       clear BK323 HB
       have BK323 := n0_
       have HB := n1_
       clear n0_ n1_
       (try clear hb)
       (try clear hb2)
       (try clear hk)
       (try clear hi)
       refine hK.out _ _ ⟨cz0 BK323, cz1 BK323, ((HB.out.cell (World.block_lt_of_cell? w _ hw324_0)).trans hw324_0), ((HB.out.cell (World.block_lt_of_cell? w _ hw324_1)).trans hw324_1), ((HB.out.cell (World.block_lt_of_cell? w _ hw324_2)).trans hw324_2)⟩ (fun hHeld => ?_)
       clear hK K
       refine norm_ (a' := ?_) ?_ ?_
       rotate_left
       ·show Act.put _ (some 18) _ = _
        simp only [Act.put, List.setIfInBounds_toArray, List.set_cons_zero, List.set_cons_succ, i64_w, i32_w]
        rfl
       refine done_ (done_of HT_.out kr) ?_
       have p327 : 0 ≤ (x2_1 : Int) := oda
       have q327 : x2_1 < (l1.length : Int) := oda
       obtain ⟨ad327, A327_0, c327_0, e327, hx327_0, hx327_1, hx327_2, hl327_0, hi327_0⟩ := at_T41 HR1.out x2_1 p327 q327
       obtain rfl : ad324 = ad327 := (by injection e327)
       replace hx327_0 := (HB.out.cell (World.block_lt_of_cell? w _ hx327_0)).trans hx327_0
       replace hx327_1 := (HB.out.cell (World.block_lt_of_cell? w _ hx327_1)).trans hx327_1
       replace hx327_2 := (HB.out.cell (World.block_lt_of_cell? w _ hx327_2)).trans hx327_2
       have HR327_0 := Aside0.mk hi327_0
       have HC327_0 := Aside0.mk hl327_0
       clear hi327_0 hl327_0
       replace p327 := eq_true p327
       replace q327 := eq_true q327
       try go_wp2
       go_roundg k1
       case measure => have := HK1.out; omega
       case rel => exact ⟨((rd_T41 l1 x2_1).f2), (by first | rfl | (simp; done) | (simp [*]; done)), H', ⟨by have := HK1.out; omega⟩, ⟨bz BK323⟩, ⟨by exact bh⟩⟩
     ·rw [if_neg c8] at H
      exact absurd H (by simp)
    ·rw [if_neg c7] at H
     exact absurd H (by simp)
   ·rw [if_neg c6] at H
    have c6b0 : decide (x2_1 < 10) = false := decide_eq_false c6
    clear c6
    obtain rfl := Option.some.inj H
    go_wp2
    go_ret
    exact ⟨by first | rfl | (simp [errW_none, errW_some] <;> rfl) | (simp [*, errW_none, errW_some] <;> rfl), by exact bh⟩

end Go.Proofs.Ytnpjlpkbefdnlaa.QFnExactBillTerm
