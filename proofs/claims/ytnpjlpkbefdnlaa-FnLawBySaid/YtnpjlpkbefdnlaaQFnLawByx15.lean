-- Printed for this claim by a turned copy of the print (wip/myprint). Lean checks it. Squeezed. Worded. Tightened.
import Derived.Test.YtnpjlpkbefdnlaaQFnLawByx0
import Derived.Test.YtnpjlpkbefdnlaaQFnLawByx2
import Derived.Test.YtnpjlpkbefdnlaaQFnLawByx4
import Derived.Test.YtnpjlpkbefdnlaaQFnLawByx14
namespace Go.Proofs.Ytnpjlpkbefdnlaa.QFnLawBy
open Go.RowKit Go.Proofs.YtnpjlpkbefdnlaaW.PrintWords Go.Proofs.YtnpjlpkbefdnlaaW.PrintLast Go.Proofs.YtnpjlpkbefdnlaaW.PrintMore
attribute [local go_sem] max2_int min2_int max_two min_two max_three min_three max_four min_four Opens.cell_twice   -- for this text's walks alone
set_option linter.unusedVariables false
set_option linter.unusedSimpArgs false

/-! ### spec_l5From: function 71 -/
def spec_l5From.l0 : Nat → List (S41) → Int → Int → Int → List Int → Option (Bool)
 | 0, _, _, _, _, _ => none
 | k + 1, x1, x2, x3, x378000, x378001 => if x2 < 10 then (if 0 ≤ x2 then (if x2 < (x1.length : Int) then ((spec_l4Says.f k x378000 x378001 ((rd_T41 x1 x2).f0) x3).bind fun t379 => (if t379 = true then (spec_l5From.l0 k x1 ((rd_T41 x1 x2).f1) x3 x378000 x378001) else (spec_l5From.l0 k x1 ((rd_T41 x1 x2).f2) x3 x378000 x378001))) else (none)) else (none)) else (some (x2 == 10))
def spec_l5From.f (k : Nat) (a0_0 : Int) (l0_1 : List Int) (l1 : List (S41)) (a2 : Int) (a3 : Int) : Option (Bool) := spec_l5From.l0 k l1 a2 a3 a0_0 l0_1
theorem spec_l5From.mono_l : ∀ k, (∀ y0 y1 y2 y3 y4, LeO (spec_l5From.l0 k y0 y1 y2 y3 y4) (spec_l5From.l0 (k + 1) y0 y1 y2 y3 y4))
 | 0 => fun _ _ _ _ _ r h => by simp [spec_l5From.l0] at h
 | k + 1 => by
  have ih0 := spec_l5From.mono_l k
  ·intro y0 y1 y2 y3 y4
   unfold spec_l5From.l0
   repeat' first
   | (with_reducible exact ih0 _ _ _ _ _)
   | (with_reducible exact spec_l4Says.mono _ _ _ _ _)
   | (with_reducible exact LeO.refl _)
   | (with_reducible exact LeO.none _)
   | (with_reducible refine LeO.ite ?_ ?_)
   | (with_reducible refine LeO.bind ?_ (fun _ => ?_))
   | exact ih0 _ _ _ _ _
   | exact spec_l4Says.mono _ _ _ _ _
   | exact LeO.none _
   | refine LeO.ite ?_ ?_
   | refine LeO.bind ?_ (fun _ => ?_)
theorem spec_l5From.mono : ∀ a0 a1 a2 a3 a4 k, LeO (spec_l5From.f k a0 a1 a2 a3 a4) (spec_l5From.f (k + 1) a0 a1 a2 a3 a4) := by
 intro a0 a1 a2 a3 a4 k
 have ih0 := spec_l5From.mono_l k
 unfold spec_l5From.f
 repeat' first
   | (with_reducible exact ih0 _ _ _ _ _)
   | (with_reducible exact spec_l4Says.mono _ _ _ _ _)
   | (with_reducible exact LeO.refl _)
   | (with_reducible exact LeO.none _)
   | (with_reducible refine LeO.ite ?_ ?_)
   | (with_reducible refine LeO.bind ?_ (fun _ => ?_))
   | exact ih0 _ _ _ _ _
   | exact spec_l4Says.mono _ _ _ _ _
   | exact LeO.none _
   | refine LeO.ite ?_ ?_
   | refine LeO.bind ?_ (fun _ => ?_)
def spec_l5From.T2 : Bool × List (List Nat × List Nat) := (true, [([], []), ([], []), ([], []), ([1, 2], [1, 2]), ([3], [3]), ([4], [4]), ([], []), ([0, 5, 6], [0, 5, 6])])
def spec_l5From.B2 : List Nat := [0, 0, 0, 6, 14, 30, 0, 127]
theorem spec_l5From.tab2 : rtab .any (opsOf Try.f71 2) = spec_l5From.T2 := by kernel_rfl
theorem spec_l5From.bits2 : waitsOk spec_l5From.T2.2 spec_l5From.B2 = true := by kernel_rfl
set_option maxHeartbeats 8000000 in
set_option maxRecDepth 100000 in
theorem spec_l5From.calls (k : Nat) (a0_0 : Int) (A0_1 : Option Addr) (c0_1 : Nat) (l0_1 : List Int) (A1 : Option Addr) (c1 : Nat) (l1 : List (S41)) (a2 : Int) (a3 : Int) (r : Bool) (w : World) (hr0_1 : Kd.C (Kd.int .i64) w A0_1 l0_1.length l0_1) (hc0_1 : l0_1.length ≤ c0_1) (hr1 : Kd.C k41 w A1 l1.length l1) (hc1 : l1.length ≤ c1) (h : spec_l5From.f k a0_0 l0_1 l1 a2 a3 = some r) :
  Calls Try.prog 71 #[.agg #[.int .i64 a0_0, .slice A0_1 l0_1.length c0_1], .slice A1 l1.length c1, .int .i64 a2, .int .i64 a3] w fun e w' => e = .returned (.bool r) ∧ Below w.heap.size w w' := by
 have hu25 := Try.underlying25
 have HR0_1 := Aside0.mk hr0_1
 have HC0_1 := Aside0.mk hc0_1
 clear hr0_1 hc0_1
 have HR1 := Aside0.mk hr1
 have HC1 := Aside0.mk hc1
 clear hr1 hc1
 have HB := Aside0.mk (Below.refl w.heap.size w)
 have H : (spec_l5From.l0 k l1 a2 a3 a0_0 l0_1) = some r := h
 clear h
 have H' := Aside0.mk H
 clear H
 go_enter Try.func71, Try.ntmps71
 go_wp2_with (first | ((with_reducible refine gate_dst (N := 4) rfl ?_); refine box_event ?hg (N := 4) ?hd (cs := #[.int .i64 a0_0, .slice A0_1 l0_1.length c0_1]) (t := 25) ?hr ?_; (case hd => rfl); (case hg => rfl); (case hr => first | (go_simp; done) | (go_simp; rfl)); intro gb377 hg w5 hbox hb; have n0_ := Aside0.mk (below_step bh hb); have n1_ := Aside0.mk (hbox); have n2_ := Aside0.mk ((gs (W0 := w) hg bh)); have n3_ := Aside0.mk ((gs (W0 := w) hg bh)); clear HB; have HB := n0_; have BK377 := n1_; have GW377 := n2_; have GE377 := n3_; clear n0_ n1_ n2_ n3_ hb hbox hg))
 go_loopg [2] k (fun kq v2 w' => ∃ (x2_1 : Int), v2 = .int .i64 x2_1 ∧ Aside0 (spec_l5From.l0 kq l1 x2_1 a3 a0_0 l0_1 = some r) ∧ Aside0 (kq ≤ k) ∧ Aside0 (w'.heap[gb377]? = some (.cells #[.int .i64 a0_0, (.slice A0_1 l0_1.length c0_1)] 25 (0, 0))) ∧ Aside0 (Below w.heap.size w w'))
 case atStart => exact ⟨(a2), (by first | rfl | (simp; done) | (simp [*]; done)), H', ⟨Nat.le_refl _⟩, ⟨bz BK377⟩, ⟨by exact bh⟩⟩
 case round =>
  clear H'
  try clear c1
  try clear p2
  obtain ⟨x2_1, rfl, HA, HK1, BK377, HB⟩ := hrel
  cases gk with
  | zero => exact absurd HA.out (by simp [spec_l5From.l0])
  | succ k1 =>
   have H := HA.out
   clear HA
   simp only [spec_l5From.l0] at H
   by_cases c6 : x2_1 < 10
   ·rw [if_pos c6] at H
    have c6b0 : decide (x2_1 < 10) = true := decide_eq_true c6
    clear c6
    by_cases c7 : 0 ≤ x2_1
    ·rw [if_pos c7] at H
     have c7b0 : decide (0 ≤ x2_1) = true := decide_eq_true c7
     clear c7
     by_cases c8 : x2_1 < (l1.length : Int)
     ·rw [if_pos c8] at H
      have c8b0 : decide (x2_1 < (l1.length : Int)) = true := decide_eq_true c8
      clear c8
      replace H := Option.bind_eq_some_iff.mp H
      obtain ⟨t379, A90, H⟩ := H
      replace H : (if t379 = true then (spec_l5From.l0 k1 l1 ((rd_T41 l1 x2_1).f1) a3 a0_0 l0_1) else (spec_l5From.l0 k1 l1 ((rd_T41 l1 x2_1).f2) a3 a0_0 l0_1)) = some r := H
      have A9 := Aside0.mk A90
      clear A90
      by_cases c10 : t379 = true
      ·subst c10
       have H1 : (spec_l5From.l0 k1 l1 ((rd_T41 l1 x2_1).f1) a3 a0_0 l0_1) = some r := by rw [if_pos rfl] at H; exact H
       clear H
       have H := H1
       clear H1
       have H' := Aside0.mk H
       clear H
       try go_wp2
       have n0_ := Aside0.mk (blk_drew BK377.out)
       have n1_ := Aside0.mk (below_drew1 HB.out)
       clear BK377 HB
       have BK377 := n0_
       have HB := n1_
       clear n0_ n1_
       have p378 : 0 ≤ (x2_1 : Int) := oda
       have q378 : x2_1 < (l1.length : Int) := oda
       obtain ⟨ad378, A378_0, c378_0, e378, hx378_0, hx378_1, hx378_2, hl378_0, hi378_0⟩ := at_T41 HR1.out x2_1 p378 q378
       have hw378_2 := hx378_2
       have hw378_1 := hx378_1
       have hw378_0 := hx378_0
       cases e378
       replace hx378_0 := (HB.out.cell (World.block_lt_of_cell? w _ hx378_0)).trans hx378_0
       replace hx378_1 := (HB.out.cell (World.block_lt_of_cell? w _ hx378_1)).trans hx378_1
       replace hx378_2 := (HB.out.cell (World.block_lt_of_cell? w _ hx378_2)).trans hx378_2
       have HR378_0 := Aside0.mk hi378_0
       have HC378_0 := Aside0.mk hl378_0
       clear hi378_0 hl378_0
       replace p378 := eq_true p378
       replace q378 := eq_true q378
       refine start_ (n := 8) (S := fun w' => w'.cell? ⟨gb377, 0, none⟩ = some (.int .i64 a0_0) ∧ w'.cell? ⟨gb377, 1, none⟩ = some (.slice A0_1 l0_1.length c0_1) ∧ w'.cell? (ad378.add ((x2_1).toNat * 3)) = some (.slice A378_0 ((rd_T41 l1 x2_1).f0).length c378_0) ∧ w'.cell? ⟨(ad378.add ((x2_1).toNat * 3)).block, (ad378.add ((x2_1).toNat * 3)).off + 1, none⟩ = some (.int .i64 ((rd_T41 l1 x2_1).f1)) ∧ w'.cell? ⟨(ad378.add ((x2_1).toNat * 3)).block, (ad378.add ((x2_1).toNat * 3)).off + 2, none⟩ = some (.int .i64 ((rd_T41 l1 x2_1).f2))) (ds := []) #[F,F,F,F,F,F,F,F] kr rfl rfl ⟨cz0 BK377, cz1 BK377, ((HB.out.cell (World.block_lt_of_cell? w _ hw378_0)).trans hw378_0), ((HB.out.cell (World.block_lt_of_cell? w _ hw378_1)).trans hw378_1), ((HB.out.cell (World.block_lt_of_cell? w _ hw378_2)).trans hw378_2)⟩ (fun hHeld => ?_); refine with_tabW spec_l5From.tab2 spec_l5From.bits2 (fun HT_ HW_ => ?_)
       generalize wr.drew = w11 at BK377 HB HR378_0 hx378_0 hx378_1 hx378_2 hHeld ⊢
       refine pu 1 (some 12) #[F,T,F,F,F,F,F,F] (any_of HT_.out kr) ?_
       refine pu 2 (some 13) #[F,T,T,F,F,F,F,F] (any_of HT_.out kr) ?_
       refine pu 3 (some 14) #[F,T,T,T,F,F,F,F] (any_of HT_.out kr) ?_
       refine pu 4 (some 15) #[F,T,T,T,T,F,F,F] (any_of HT_.out kr) ?_
       refine pu 6 (some 17) #[F,T,T,T,T,F,T,F] (any_of HT_.out kr) ?_
       refine tk5 0 (some 11) #[T,T,T,T,T,F,T,F] (take_ofW HT_.out HW_.out kr) ?_
       refine tk5 5 (some 16) #[T,T,T,T,T,T,T,F] (take_ofW HT_.out HW_.out kr) ?_
       refine one_ (i := 7) (N := some 18) #[T,T,T,T,T,T,T,T] rfl rfl (one_of HT_.out kr) (by decide) (fun K hK => ?_)
       refine goes_ Try.func75 kr rfl #[.agg #[.int .i64 a0_0, .slice A0_1 l0_1.length c0_1], .slice A378_0 ((rd_T41 l1 x2_1).f0).length c378_0, .int .i64 a3] (by rfl) rfl rfl lm ?_
       with_reducible refine (spec_l4Says.calls k1 a0_0 _ _ l0_1 _ _ ((rd_T41 l1 x2_1).f0) a3 true _ ?side1 ?side2 ?side3 ?side4 A9.out).mono ?_
       (case side1 => repeat (first | exact (Kd.C_below HR0_1.out HB.out) | (with_reducible refine Kd.C_alloc ?_ _) | (with_reducible refine Kd.C_drewN ?_ _) | (with_reducible refine Kd.C_drew ?_)))
       (case side2 => exact HC0_1.out)
       (case side3 => repeat (first | exact (Kd.C_below HR378_0.out HB.out) | (with_reducible refine Kd.C_alloc ?_ _) | (with_reducible refine Kd.C_drewN ?_ _) | (with_reducible refine Kd.C_drew ?_)))
       (case side4 => exact HC378_0.out)
       rintro e w12 ⟨rfl, hb⟩
       refine ⟨_, rfl, ?_⟩
       have n0_ := Aside0.mk (blk_below (bz BK377) hb)
       have n1_ := Aside0.mk (below_step bh hb)
       clear BK377 HB
       have BK377 := n0_
       have HB := n1_
       clear n0_ n1_
       (try clear hb)
       (try clear hb2)
       (try clear hk)
       (try clear hi)
       refine hK.out _ _ ⟨cz0 BK377, cz1 BK377, ((HB.out.cell (World.block_lt_of_cell? w _ hw378_0)).trans hw378_0), ((HB.out.cell (World.block_lt_of_cell? w _ hw378_1)).trans hw378_1), ((HB.out.cell (World.block_lt_of_cell? w _ hw378_2)).trans hw378_2)⟩ (fun hHeld => ?_)
       clear hK K
       refine norm_ (a' := ?_) ?_ ?_
       rotate_left
       ·show Act.put _ (some 18) _ = _
        simp only [Act.put, List.setIfInBounds_toArray, List.set_cons_zero, List.set_cons_succ, i64_w, i32_w]
        rfl
       refine done_ (done_of HT_.out kr) ?_
       have p380 : 0 ≤ (x2_1 : Int) := oda
       have q380 : x2_1 < (l1.length : Int) := oda
       obtain ⟨ad380, A380_0, c380_0, e380, hx380_0, hx380_1, hx380_2, hl380_0, hi380_0⟩ := at_T41 HR1.out x2_1 p380 q380
       obtain rfl : ad378 = ad380 := (by injection e380)
       replace hx380_0 := (HB.out.cell (World.block_lt_of_cell? w _ hx380_0)).trans hx380_0
       replace hx380_1 := (HB.out.cell (World.block_lt_of_cell? w _ hx380_1)).trans hx380_1
       replace hx380_2 := (HB.out.cell (World.block_lt_of_cell? w _ hx380_2)).trans hx380_2
       have HR380_0 := Aside0.mk hi380_0
       have HC380_0 := Aside0.mk hl380_0
       clear hi380_0 hl380_0
       replace p380 := eq_true p380
       replace q380 := eq_true q380
       try go_wp2
       go_roundg k1
       case measure => have := HK1.out; omega
       case rel => exact ⟨((rd_T41 l1 x2_1).f1), (by first | rfl | (simp; done) | (simp [*]; done)), H', ⟨by have := HK1.out; omega⟩, ⟨bz BK377⟩, ⟨by exact bh⟩⟩
      ·replace c10 := Bool.eq_false_iff.mpr c10
       subst c10
       have H1 : (spec_l5From.l0 k1 l1 ((rd_T41 l1 x2_1).f2) a3 a0_0 l0_1) = some r := by rw [if_neg (show ¬ (false = true) by decide)] at H; exact H
       clear H
       have H := H1
       clear H1
       have H' := Aside0.mk H
       clear H
       try go_wp2
       have n0_ := Aside0.mk (blk_drew BK377.out)
       have n1_ := Aside0.mk (below_drew1 HB.out)
       clear BK377 HB
       have BK377 := n0_
       have HB := n1_
       clear n0_ n1_
       have p378 : 0 ≤ (x2_1 : Int) := oda
       have q378 : x2_1 < (l1.length : Int) := oda
       obtain ⟨ad378, A378_0, c378_0, e378, hx378_0, hx378_1, hx378_2, hl378_0, hi378_0⟩ := at_T41 HR1.out x2_1 p378 q378
       have hw378_2 := hx378_2
       have hw378_1 := hx378_1
       have hw378_0 := hx378_0
       cases e378
       replace hx378_0 := (HB.out.cell (World.block_lt_of_cell? w _ hx378_0)).trans hx378_0
       replace hx378_1 := (HB.out.cell (World.block_lt_of_cell? w _ hx378_1)).trans hx378_1
       replace hx378_2 := (HB.out.cell (World.block_lt_of_cell? w _ hx378_2)).trans hx378_2
       have HR378_0 := Aside0.mk hi378_0
       have HC378_0 := Aside0.mk hl378_0
       clear hi378_0 hl378_0
       replace p378 := eq_true p378
       replace q378 := eq_true q378
       refine start_ (n := 8) (S := fun w' => w'.cell? ⟨gb377, 0, none⟩ = some (.int .i64 a0_0) ∧ w'.cell? ⟨gb377, 1, none⟩ = some (.slice A0_1 l0_1.length c0_1) ∧ w'.cell? (ad378.add ((x2_1).toNat * 3)) = some (.slice A378_0 ((rd_T41 l1 x2_1).f0).length c378_0) ∧ w'.cell? ⟨(ad378.add ((x2_1).toNat * 3)).block, (ad378.add ((x2_1).toNat * 3)).off + 1, none⟩ = some (.int .i64 ((rd_T41 l1 x2_1).f1)) ∧ w'.cell? ⟨(ad378.add ((x2_1).toNat * 3)).block, (ad378.add ((x2_1).toNat * 3)).off + 2, none⟩ = some (.int .i64 ((rd_T41 l1 x2_1).f2))) (ds := []) #[F,F,F,F,F,F,F,F] kr rfl rfl ⟨cz0 BK377, cz1 BK377, ((HB.out.cell (World.block_lt_of_cell? w _ hw378_0)).trans hw378_0), ((HB.out.cell (World.block_lt_of_cell? w _ hw378_1)).trans hw378_1), ((HB.out.cell (World.block_lt_of_cell? w _ hw378_2)).trans hw378_2)⟩ (fun hHeld => ?_); refine with_tabW spec_l5From.tab2 spec_l5From.bits2 (fun HT_ HW_ => ?_)
       generalize wr.drew = w13 at BK377 HB HR378_0 hx378_0 hx378_1 hx378_2 hHeld ⊢
       refine pu 1 (some 12) #[F,T,F,F,F,F,F,F] (any_of HT_.out kr) ?_
       refine pu 2 (some 13) #[F,T,T,F,F,F,F,F] (any_of HT_.out kr) ?_
       refine pu 3 (some 14) #[F,T,T,T,F,F,F,F] (any_of HT_.out kr) ?_
       refine pu 4 (some 15) #[F,T,T,T,T,F,F,F] (any_of HT_.out kr) ?_
       refine pu 6 (some 17) #[F,T,T,T,T,F,T,F] (any_of HT_.out kr) ?_
       refine tk5 0 (some 11) #[T,T,T,T,T,F,T,F] (take_ofW HT_.out HW_.out kr) ?_
       refine tk5 5 (some 16) #[T,T,T,T,T,T,T,F] (take_ofW HT_.out HW_.out kr) ?_
       refine one_ (i := 7) (N := some 18) #[T,T,T,T,T,T,T,T] rfl rfl (one_of HT_.out kr) (by decide) (fun K hK => ?_)
       refine goes_ Try.func75 kr rfl #[.agg #[.int .i64 a0_0, .slice A0_1 l0_1.length c0_1], .slice A378_0 ((rd_T41 l1 x2_1).f0).length c378_0, .int .i64 a3] (by rfl) rfl rfl lm ?_
       with_reducible refine (spec_l4Says.calls k1 a0_0 _ _ l0_1 _ _ ((rd_T41 l1 x2_1).f0) a3 false _ ?side1 ?side2 ?side3 ?side4 A9.out).mono ?_
       (case side1 => repeat (first | exact (Kd.C_below HR0_1.out HB.out) | (with_reducible refine Kd.C_alloc ?_ _) | (with_reducible refine Kd.C_drewN ?_ _) | (with_reducible refine Kd.C_drew ?_)))
       (case side2 => exact HC0_1.out)
       (case side3 => repeat (first | exact (Kd.C_below HR378_0.out HB.out) | (with_reducible refine Kd.C_alloc ?_ _) | (with_reducible refine Kd.C_drewN ?_ _) | (with_reducible refine Kd.C_drew ?_)))
       (case side4 => exact HC378_0.out)
       rintro e w14 ⟨rfl, hb⟩
       refine ⟨_, rfl, ?_⟩
       have n0_ := Aside0.mk (blk_below (bz BK377) hb)
       have n1_ := Aside0.mk (below_step bh hb)
       clear BK377 HB
       have BK377 := n0_
       have HB := n1_
       clear n0_ n1_
       (try clear hb)
       (try clear hb2)
       (try clear hk)
       (try clear hi)
       refine hK.out _ _ ⟨cz0 BK377, cz1 BK377, ((HB.out.cell (World.block_lt_of_cell? w _ hw378_0)).trans hw378_0), ((HB.out.cell (World.block_lt_of_cell? w _ hw378_1)).trans hw378_1), ((HB.out.cell (World.block_lt_of_cell? w _ hw378_2)).trans hw378_2)⟩ (fun hHeld => ?_)
       clear hK K
       refine norm_ (a' := ?_) ?_ ?_
       rotate_left
       ·show Act.put _ (some 18) _ = _
        simp only [Act.put, List.setIfInBounds_toArray, List.set_cons_zero, List.set_cons_succ, i64_w, i32_w]
        rfl
       refine done_ (done_of HT_.out kr) ?_
       have p381 : 0 ≤ (x2_1 : Int) := oda
       have q381 : x2_1 < (l1.length : Int) := oda
       obtain ⟨ad381, A381_0, c381_0, e381, hx381_0, hx381_1, hx381_2, hl381_0, hi381_0⟩ := at_T41 HR1.out x2_1 p381 q381
       obtain rfl : ad378 = ad381 := (by injection e381)
       replace hx381_0 := (HB.out.cell (World.block_lt_of_cell? w _ hx381_0)).trans hx381_0
       replace hx381_1 := (HB.out.cell (World.block_lt_of_cell? w _ hx381_1)).trans hx381_1
       replace hx381_2 := (HB.out.cell (World.block_lt_of_cell? w _ hx381_2)).trans hx381_2
       have HR381_0 := Aside0.mk hi381_0
       have HC381_0 := Aside0.mk hl381_0
       clear hi381_0 hl381_0
       replace p381 := eq_true p381
       replace q381 := eq_true q381
       try go_wp2
       go_roundg k1
       case measure => have := HK1.out; omega
       case rel => exact ⟨((rd_T41 l1 x2_1).f2), (by first | rfl | (simp; done) | (simp [*]; done)), H', ⟨by have := HK1.out; omega⟩, ⟨bz BK377⟩, ⟨by exact bh⟩⟩
     ·rw [if_neg c8] at H
      exact absurd H (by simp)
    ·rw [if_neg c7] at H
     exact absurd H (by simp)
   ·rw [if_neg c6] at H
    have c6b0 : decide (x2_1 < 10) = false := decide_eq_false c6
    clear c6
    obtain rfl := Option.some.inj H
    go_wp2
    go_ret
    exact ⟨by first | rfl | (simp [errW_none, errW_some] <;> rfl) | (simp [*, errW_none, errW_some] <;> rfl), by exact bh⟩

/-! ### spec_LawBy: function 38 -/
def spec_LawBy.f (k : Nat) (a0_0 : Int) (l0_1 : List Int) (l1 : List (S41)) (a2 : Int) : Option (Bool) := (spec_ProcessOk.f k a0_0 l0_1 l1).bind fun t383 => (if t383 = true then ((spec_CrowdOk.f a0_0 a2).bind fun t384 => (if t384 = true then ((spec_l5From.f k a0_0 l0_1 l1 0 a2).bind fun t385 => (some t385)) else (some false))) else (some false))
theorem spec_LawBy.mono : ∀ a0 a1 a2 a3 k, LeO (spec_LawBy.f k a0 a1 a2 a3) (spec_LawBy.f (k + 1) a0 a1 a2 a3) := by
 intro a0 a1 a2 a3 k
 unfold spec_LawBy.f
 repeat' first
   | (with_reducible exact spec_ProcessOk.mono _ _ _ _)
   | (with_reducible exact spec_l5From.mono _ _ _ _ _ _)
   | (with_reducible exact LeO.refl _)
   | (with_reducible exact LeO.none _)
   | (with_reducible refine LeO.ite ?_ ?_)
   | (with_reducible refine LeO.bind ?_ (fun _ => ?_))
   | exact spec_ProcessOk.mono _ _ _ _
   | exact spec_l5From.mono _ _ _ _ _ _
   | exact LeO.none _
   | refine LeO.ite ?_ ?_
   | refine LeO.bind ?_ (fun _ => ?_)
set_option maxHeartbeats 8000000 in
set_option maxRecDepth 100000 in
theorem spec_LawBy.calls (k : Nat) (a0_0 : Int) (A0_1 : Option Addr) (c0_1 : Nat) (l0_1 : List Int) (A1 : Option Addr) (c1 : Nat) (l1 : List (S41)) (a2 : Int) (r : Bool) (w : World) (hr0_1 : Kd.C (Kd.int .i64) w A0_1 l0_1.length l0_1) (hc0_1 : l0_1.length ≤ c0_1) (hr1 : Kd.C k41 w A1 l1.length l1) (hc1 : l1.length ≤ c1) (h : spec_LawBy.f k a0_0 l0_1 l1 a2 = some r) :
  Calls Try.prog 38 #[.agg #[.int .i64 a0_0, .slice A0_1 l0_1.length c0_1], .slice A1 l1.length c1, .int .i64 a2] w fun e w' => e = .returned (.bool r) ∧ Below w.heap.size w w' := by
 have hu25 := Try.underlying25
 have HR0_1 := Aside0.mk hr0_1
 have HC0_1 := Aside0.mk hc0_1
 clear hr0_1 hc0_1
 have HR1 := Aside0.mk hr1
 have HC1 := Aside0.mk hc1
 clear hr1 hc1
 have HB := Aside0.mk (Below.refl w.heap.size w)
 have H : ((spec_ProcessOk.f k a0_0 l0_1 l1).bind fun t383 => (if t383 = true then ((spec_CrowdOk.f a0_0 a2).bind fun t384 => (if t384 = true then ((spec_l5From.f k a0_0 l0_1 l1 0 a2).bind fun t385 => (some t385)) else (some false))) else (some false))) = some r := h
 clear h
 replace H := Option.bind_eq_some_iff.mp H
 obtain ⟨t383, A40, H⟩ := H
 replace H : (if t383 = true then ((spec_CrowdOk.f a0_0 a2).bind fun t384 => (if t384 = true then ((spec_l5From.f k a0_0 l0_1 l1 0 a2).bind fun t385 => (some t385)) else (some false))) else (some false)) = some r := H
 have A4 := Aside0.mk A40
 clear A40
 by_cases c5 : t383 = true
 ·subst c5
  have H1 : ((spec_CrowdOk.f a0_0 a2).bind fun t384 => (if t384 = true then ((spec_l5From.f k a0_0 l0_1 l1 0 a2).bind fun t385 => (some t385)) else (some false))) = some r := by rw [if_pos rfl] at H; exact H
  clear H
  have H := H1
  clear H1
  replace H := Option.bind_eq_some_iff.mp H
  obtain ⟨t384, A60, H⟩ := H
  replace H : (if t384 = true then ((spec_l5From.f k a0_0 l0_1 l1 0 a2).bind fun t385 => (some t385)) else (some false)) = some r := H
  have A6 := Aside0.mk A60
  clear A60
  by_cases c7 : t384 = true
  ·subst c7
   have H1 : ((spec_l5From.f k a0_0 l0_1 l1 0 a2).bind fun t385 => (some t385)) = some r := by rw [if_pos rfl] at H; exact H
   clear H
   have H := H1
   clear H1
   replace H := Option.bind_eq_some_iff.mp H
   obtain ⟨t385, A80, H⟩ := H
   replace H : (some t385) = some r := H
   have A8 := Aside0.mk A80
   clear A80
   obtain rfl := Option.some.inj H
   go_enter Try.func38, Try.ntmps38
   go_wp2_with (first | ((with_reducible refine gate_dst (N := 3) rfl ?_); refine box_event ?hg (N := 3) ?hd (cs := #[.int .i64 a0_0, .slice A0_1 l0_1.length c0_1]) (t := 25) ?hr ?_; (case hd => rfl); (case hg => rfl); (case hr => first | (go_simp; done) | (go_simp; rfl)); intro gb382 hg w9 hbox hb; have n0_ := Aside0.mk (below_step bh hb); have n1_ := Aside0.mk (hbox); have n2_ := Aside0.mk ((gs (W0 := w) hg bh)); have n3_ := Aside0.mk ((gs (W0 := w) hg bh)); clear HB; have HB := n0_; have BK382 := n1_; have GW382 := n2_; have GE382 := n3_; clear n0_ n1_ n2_ n3_ hb hbox hg; have hcz10_0 := cz0 BK382; have hcz10_1 := cz1 BK382; have hfz10_0 := blk_frozen BK382.out 0; have hfz10_1 := blk_frozen BK382.out 1) | ((with_reducible refine gate_callee (f := 16) rfl ?_); refine goesL_ (some 9) rfl rfl Try.func16 kr rfl #[.agg #[.int .i64 a0_0, .slice A0_1 l0_1.length c0_1], .slice A1 l1.length c1] rfl lm ?_; (with_reducible refine (spec_ProcessOk.calls k a0_0 _ _ l0_1 _ _ l1 true _ ?side1 ?side2 ?side3 ?side4 A4.out).mono ?_); (case side1 => repeat (first | exact (Kd.C_below HR0_1.out HB.out) | (with_reducible refine Kd.C_alloc ?_ _) | (with_reducible refine Kd.C_drewN ?_ _) | (with_reducible refine Kd.C_drew ?_))); (case side2 => exact HC0_1.out); (case side3 => repeat (first | exact (Kd.C_below HR1.out HB.out) | (with_reducible refine Kd.C_alloc ?_ _) | (with_reducible refine Kd.C_drewN ?_ _) | (with_reducible refine Kd.C_drew ?_))); (case side4 => exact HC1.out); rintro e w11 ⟨rfl, hb⟩; refine ⟨_, rfl, ?_⟩; have n0_ := Aside0.mk (blk_below (bz BK382) hb); have n1_ := Aside0.mk (below_step bh hb); clear BK382 HB; have BK382 := n0_; have HB := n1_; clear n0_ n1_; (try clear hb); (try clear hb2); (try clear hk); (try clear hi); have hcz12_0 := cz0 BK382; have hcz12_1 := cz1 BK382; have hfz12_0 := blk_frozen BK382.out 0; have hfz12_1 := blk_frozen BK382.out 1) | (go_at_call 22; (with_reducible refine (spec_CrowdOk.calls a0_0 a2 true _ A6.out).mono ?_); rintro e w' ⟨rfl, ⟨nd, rfl⟩⟩) | (go_at_call 71; (with_reducible refine (spec_l5From.calls k a0_0 _ _ l0_1 _ _ l1 0 a2 t385 _ ?side1 ?side2 ?side3 ?side4 A8.out).mono ?_); (case side1 => repeat (first | exact (Kd.C_below HR0_1.out bh) | (with_reducible refine Kd.C_alloc ?_ _) | (with_reducible refine Kd.C_drewN ?_ _) | (with_reducible refine Kd.C_drew ?_))); (case side2 => exact HC0_1.out); (case side3 => repeat (first | exact (Kd.C_below HR1.out bh) | (with_reducible refine Kd.C_alloc ?_ _) | (with_reducible refine Kd.C_drewN ?_ _) | (with_reducible refine Kd.C_drew ?_))); (case side4 => exact HC1.out); rintro e w13 ⟨rfl, hb⟩; have n0_ := Aside0.mk (blk_below (bz BK382) hb); have n1_ := Aside0.mk (below_step bh hb); clear BK382 HB; have BK382 := n0_; have HB := n1_; clear n0_ n1_; (try clear hb); (try clear hb2); (try clear hk); (try clear hi)))
   go_ret
   exact ⟨by first | rfl | (simp [errW_none, errW_some] <;> rfl) | (simp [*, errW_none, errW_some] <;> rfl), by exact bh⟩
  ·replace c7 := Bool.eq_false_iff.mpr c7
   subst c7
   have H1 : (some false) = some r := by rw [if_neg (show ¬ (false = true) by decide)] at H; exact H
   clear H
   have H := H1
   clear H1
   obtain rfl := Option.some.inj H
   go_enter Try.func38, Try.ntmps38
   go_wp2_with (first | ((with_reducible refine gate_dst (N := 3) rfl ?_); refine box_event ?hg (N := 3) ?hd (cs := #[.int .i64 a0_0, .slice A0_1 l0_1.length c0_1]) (t := 25) ?hr ?_; (case hd => rfl); (case hg => rfl); (case hr => first | (go_simp; done) | (go_simp; rfl)); intro gb382 hg w14 hbox hb; have n0_ := Aside0.mk (below_step bh hb); have n1_ := Aside0.mk (hbox); have n2_ := Aside0.mk ((gs (W0 := w) hg bh)); have n3_ := Aside0.mk ((gs (W0 := w) hg bh)); clear HB; have HB := n0_; have BK382 := n1_; have GW382 := n2_; have GE382 := n3_; clear n0_ n1_ n2_ n3_ hb hbox hg; have hcz15_0 := cz0 BK382; have hcz15_1 := cz1 BK382; have hfz15_0 := blk_frozen BK382.out 0; have hfz15_1 := blk_frozen BK382.out 1) | ((with_reducible refine gate_callee (f := 16) rfl ?_); refine goesL_ (some 9) rfl rfl Try.func16 kr rfl #[.agg #[.int .i64 a0_0, .slice A0_1 l0_1.length c0_1], .slice A1 l1.length c1] rfl lm ?_; (with_reducible refine (spec_ProcessOk.calls k a0_0 _ _ l0_1 _ _ l1 true _ ?side1 ?side2 ?side3 ?side4 A4.out).mono ?_); (case side1 => repeat (first | exact (Kd.C_below HR0_1.out HB.out) | (with_reducible refine Kd.C_alloc ?_ _) | (with_reducible refine Kd.C_drewN ?_ _) | (with_reducible refine Kd.C_drew ?_))); (case side2 => exact HC0_1.out); (case side3 => repeat (first | exact (Kd.C_below HR1.out HB.out) | (with_reducible refine Kd.C_alloc ?_ _) | (with_reducible refine Kd.C_drewN ?_ _) | (with_reducible refine Kd.C_drew ?_))); (case side4 => exact HC1.out); rintro e w16 ⟨rfl, hb⟩; refine ⟨_, rfl, ?_⟩; have n0_ := Aside0.mk (blk_below (bz BK382) hb); have n1_ := Aside0.mk (below_step bh hb); clear BK382 HB; have BK382 := n0_; have HB := n1_; clear n0_ n1_; (try clear hb); (try clear hb2); (try clear hk); (try clear hi); have hcz17_0 := cz0 BK382; have hcz17_1 := cz1 BK382; have hfz17_0 := blk_frozen BK382.out 0; have hfz17_1 := blk_frozen BK382.out 1) | (go_at_call 22; (with_reducible refine (spec_CrowdOk.calls a0_0 a2 false _ A6.out).mono ?_); rintro e w' ⟨rfl, ⟨nd, rfl⟩⟩))
   go_ret
   exact ⟨by first | rfl | (simp [errW_none, errW_some] <;> rfl) | (simp [*, errW_none, errW_some] <;> rfl), by exact bh⟩
 ·replace c5 := Bool.eq_false_iff.mpr c5
  subst c5
  have H1 : (some false) = some r := by rw [if_neg (show ¬ (false = true) by decide)] at H; exact H
  clear H
  have H := H1
  clear H1
  obtain rfl := Option.some.inj H
  go_enter Try.func38, Try.ntmps38
  go_wp2_with (first | ((with_reducible refine gate_dst (N := 3) rfl ?_); refine box_event ?hg (N := 3) ?hd (cs := #[.int .i64 a0_0, .slice A0_1 l0_1.length c0_1]) (t := 25) ?hr ?_; (case hd => rfl); (case hg => rfl); (case hr => first | (go_simp; done) | (go_simp; rfl)); intro gb382 hg w18 hbox hb; have n0_ := Aside0.mk (below_step bh hb); have n1_ := Aside0.mk (hbox); have n2_ := Aside0.mk ((gs (W0 := w) hg bh)); have n3_ := Aside0.mk ((gs (W0 := w) hg bh)); clear HB; have HB := n0_; have BK382 := n1_; have GW382 := n2_; have GE382 := n3_; clear n0_ n1_ n2_ n3_ hb hbox hg; have hcz19_0 := cz0 BK382; have hcz19_1 := cz1 BK382; have hfz19_0 := blk_frozen BK382.out 0; have hfz19_1 := blk_frozen BK382.out 1) | ((with_reducible refine gate_callee (f := 16) rfl ?_); refine goesL_ (some 9) rfl rfl Try.func16 kr rfl #[.agg #[.int .i64 a0_0, .slice A0_1 l0_1.length c0_1], .slice A1 l1.length c1] rfl lm ?_; (with_reducible refine (spec_ProcessOk.calls k a0_0 _ _ l0_1 _ _ l1 false _ ?side1 ?side2 ?side3 ?side4 A4.out).mono ?_); (case side1 => repeat (first | exact (Kd.C_below HR0_1.out HB.out) | (with_reducible refine Kd.C_alloc ?_ _) | (with_reducible refine Kd.C_drewN ?_ _) | (with_reducible refine Kd.C_drew ?_))); (case side2 => exact HC0_1.out); (case side3 => repeat (first | exact (Kd.C_below HR1.out HB.out) | (with_reducible refine Kd.C_alloc ?_ _) | (with_reducible refine Kd.C_drewN ?_ _) | (with_reducible refine Kd.C_drew ?_))); (case side4 => exact HC1.out); rintro e w20 ⟨rfl, hb⟩; refine ⟨_, rfl, ?_⟩; have n0_ := Aside0.mk (blk_below (bz BK382) hb); have n1_ := Aside0.mk (below_step bh hb); clear BK382 HB; have BK382 := n0_; have HB := n1_; clear n0_ n1_; (try clear hb); (try clear hb2); (try clear hk); (try clear hi)))
  go_ret
  exact ⟨by first | rfl | (simp [errW_none, errW_some] <;> rfl) | (simp [*, errW_none, errW_some] <;> rfl), by exact bh⟩

end Go.Proofs.Ytnpjlpkbefdnlaa.QFnLawBy
