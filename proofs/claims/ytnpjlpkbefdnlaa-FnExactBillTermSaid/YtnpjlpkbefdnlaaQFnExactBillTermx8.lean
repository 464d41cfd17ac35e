-- Printed for this claim by a turned copy of the print (wip/myprint). Lean checks it. Squeezed. Worded. Tightened.
import Derived.Test.YtnpjlpkbefdnlaaQFnExactBillTermx0
import Derived.Test.YtnpjlpkbefdnlaaQFnExactBillTermx7
namespace Go.Proofs.Ytnpjlpkbefdnlaa.QFnExactBillTerm
open Go.RowKit Go.Proofs.YtnpjlpkbefdnlaaW.PrintWords Go.Proofs.YtnpjlpkbefdnlaaW.PrintLast Go.Proofs.YtnpjlpkbefdnlaaW.PrintMore
attribute [local go_sem] max2_int min2_int max_two min_two max_three min_three max_four min_four Opens.cell_twice   -- for this text's walks alone
set_option linter.unusedVariables false
set_option linter.unusedSimpArgs false

/-! ### impl_Step_next: function 74 -/
def impl_Step_next.f (k : Nat) (l0_0 : List (S78)) (a0_1 : Int) (a0_2 : Int) (a1_0 : Int) (l1_1 : List Int) (a2 : Int) : Option (Int) := (impl_consents.f k a1_0 l1_1 l0_0 a2).bind fun t222 => (if t222 = true then (some a0_1) else (some a0_2))
theorem impl_Step_next.mono : ∀ a0 a1 a2 a3 a4 a5 k, LeO (impl_Step_next.f k a0 a1 a2 a3 a4 a5) (impl_Step_next.f (k + 1) a0 a1 a2 a3 a4 a5) := by
 intro a0 a1 a2 a3 a4 a5 k
 unfold impl_Step_next.f
 repeat' first
   | (with_reducible exact impl_consents.mono _ _ _ _ _)
   | (with_reducible exact LeO.refl _)
   | (with_reducible exact LeO.none _)
   | (with_reducible refine LeO.ite ?_ ?_)
   | (with_reducible refine LeO.bind ?_ (fun _ => ?_))
   | exact impl_consents.mono _ _ _ _ _
   | exact LeO.none _
   | refine LeO.ite ?_ ?_
   | refine LeO.bind ?_ (fun _ => ?_)
set_option maxHeartbeats 8000000 in
set_option maxRecDepth 100000 in
theorem impl_Step_next.calls (k : Nat) (A0_0 : Option Addr) (c0_0 : Nat) (l0_0 : List (S78)) (a0_1 : Int) (a0_2 : Int) (a1_0 : Int) (A1_1 : Option Addr) (c1_1 : Nat) (l1_1 : List Int) (a2 : Int) (r : Int) (w : World) (hr0_0 : Kd.C k78 w A0_0 l0_0.length l0_0) (hc0_0 : l0_0.length ≤ c0_0) (hr1_1 : Kd.C (Kd.int .i64) w A1_1 l1_1.length l1_1) (hc1_1 : l1_1.length ≤ c1_1) (h : impl_Step_next.f k l0_0 a0_1 a0_2 a1_0 l1_1 a2 = some r) :
  Calls Try.prog 74 #[.agg #[.slice A0_0 l0_0.length c0_0, .int .i64 a0_1, .int .i64 a0_2], .agg #[.int .i64 a1_0, .slice A1_1 l1_1.length c1_1], .int .i64 a2] w fun e w' => e = .returned (.int .i64 r) ∧ Below w.heap.size w w' := by
 have hu41 := Try.underlying41
 have hu25 := Try.underlying25
 have HR0_0 := Aside0.mk hr0_0
 have HC0_0 := Aside0.mk hc0_0
 clear hr0_0 hc0_0
 have HR1_1 := Aside0.mk hr1_1
 have HC1_1 := Aside0.mk hc1_1
 clear hr1_1 hc1_1
 have HB := Aside0.mk (Below.refl w.heap.size w)
 have H : ((impl_consents.f k a1_0 l1_1 l0_0 a2).bind fun t222 => (if t222 = true then (some a0_1) else (some a0_2))) = some r := h
 clear h
 replace H := Option.bind_eq_some_iff.mp H
 obtain ⟨t222, A40, H⟩ := H
 replace H : (if t222 = true then (some a0_1) else (some a0_2)) = some r := H
 have A4 := Aside0.mk A40
 clear A40
 by_cases c5 : t222 = true
 ·subst c5
  have H1 : (some a0_1) = some r := by rw [if_pos rfl] at H; exact H
  clear H
  have H := H1
  clear H1
  obtain rfl := Option.some.inj H
  go_enter Try.func74, Try.ntmps74
  go_wp2_with (first | ((with_reducible refine gate_dst (N := 3) rfl ?_); refine box_event ?hg (N := 3) ?hd (cs := #[.slice A0_0 l0_0.length c0_0, .int .i64 a0_1, .int .i64 a0_2]) (t := 41) ?hr ?_; (case hd => rfl); (case hg => rfl); (case hr => first | (go_simp; done) | (go_simp; rfl)); intro gb220 hg w6 hbox hb; have n0_ := Aside0.mk (below_step bh hb); have n1_ := Aside0.mk (hbox); have n2_ := Aside0.mk ((gs (W0 := w) hg bh)); have n3_ := Aside0.mk ((gs (W0 := w) hg bh)); clear HB; have HB := n0_; have BK220 := n1_; have GW220 := n2_; have GE220 := n3_; clear n0_ n1_ n2_ n3_ hb hbox hg) | ((with_reducible refine gate_dst (N := 4) rfl ?_); refine box_event ?hg (N := 4) ?hd (cs := #[.int .i64 a1_0, .slice A1_1 l1_1.length c1_1]) (t := 25) ?hr ?_; (case hd => rfl); (case hg => rfl); (case hr => first | (go_simp; done) | (go_simp; rfl)); intro gb221 hg w7 hbox hb; have n0_ := Aside0.mk (blk_below (bz BK220) hb); have n1_ := Aside0.mk (below_step bh hb); have n2_ := Aside0.mk (hbox); have n3_ := Aside0.mk ((gs (W0 := w) hg bh)); have n4_ := Aside0.mk ((gs (W0 := w) hg bh)); have n5_ := Aside0.mk ((gn hg (bz BK220))); have n6_ := Aside0.mk ((gm hg (bz BK220))); clear BK220 HB; have BK220 := n0_; have HB := n1_; have BK221 := n2_; have GW221 := n3_; have GE221 := n4_; have NB220_221 := n5_; have NB221_220 := n6_; clear n0_ n1_ n2_ n3_ n4_ n5_ n6_ hb hbox hg; have hnb8 := NB221_220.out; have hnc8 := NB220_221.out; have hcz9_0 := cz0 BK221; have hcz9_1 := cz1 BK221; have hfz9_0 := blk_frozen BK221.out 0; have hfz9_1 := blk_frozen BK221.out 1; have hcz10_0 := cz0 BK220; have hcz10_1 := cz1 BK220; have hcz10_2 := cz2 BK220; have hfz10_0 := blk_frozen BK220.out 0; have hfz10_1 := blk_frozen BK220.out 1; have hfz10_2 := blk_frozen BK220.out 2) | ((with_reducible refine gate_callee (f := 64) rfl ?_); refine goesL_ (some 11) rfl rfl Try.func64 kr rfl #[.agg #[.int .i64 a1_0, .slice A1_1 l1_1.length c1_1], .slice A0_0 l0_0.length c0_0, .int .i64 a2] rfl lm ?_; (with_reducible refine (impl_consents.calls k a1_0 _ _ l1_1 _ _ l0_0 a2 true _ ?side1 ?side2 ?side3 ?side4 A4.out).mono ?_); (case side1 => repeat (first | exact (Kd.C_below HR1_1.out HB.out) | (with_reducible refine Kd.C_alloc ?_ _) | (with_reducible refine Kd.C_drewN ?_ _) | (with_reducible refine Kd.C_drew ?_))); (case side2 => exact HC1_1.out); (case side3 => repeat (first | exact (Kd.C_below HR0_0.out HB.out) | (with_reducible refine Kd.C_alloc ?_ _) | (with_reducible refine Kd.C_drewN ?_ _) | (with_reducible refine Kd.C_drew ?_))); (case side4 => exact HC0_0.out); rintro e w11 ⟨rfl, hb⟩; refine ⟨_, rfl, ?_⟩; have n0_ := Aside0.mk (blk_below (bz BK220) hb); have n1_ := Aside0.mk (blk_below (bz BK221) hb); have n2_ := Aside0.mk (below_step bh hb); clear BK220 BK221 HB; have BK220 := n0_; have BK221 := n1_; have HB := n2_; clear n0_ n1_ n2_; (try clear hb); (try clear hb2); (try clear hk); (try clear hi); have hcz12_0 := cz0 BK220; have hcz12_1 := cz1 BK220; have hcz12_2 := cz2 BK220; have hfz12_0 := blk_frozen BK220.out 0; have hfz12_1 := blk_frozen BK220.out 1; have hfz12_2 := blk_frozen BK220.out 2))
  go_ret
  exact ⟨by first | rfl | (simp [errW_none, errW_some] <;> rfl) | (simp [*, errW_none, errW_some] <;> rfl), by exact bh⟩
 ·replace c5 := Bool.eq_false_iff.mpr c5
  subst c5
  have H1 : (some a0_2) = some r := by rw [if_neg (show ¬ (false = true) by decide)] at H; exact H
  clear H
  have H := H1
  clear H1
  obtain rfl := Option.some.inj H
  go_enter Try.func74, Try.ntmps74
  go_wp2_with (first | ((with_reducible refine gate_dst (N := 3) rfl ?_); refine box_event ?hg (N := 3) ?hd (cs := #[.slice A0_0 l0_0.length c0_0, .int .i64 a0_1, .int .i64 a0_2]) (t := 41) ?hr ?_; (case hd => rfl); (case hg => rfl); (case hr => first | (go_simp; done) | (go_simp; rfl)); intro gb220 hg w13 hbox hb; have n0_ := Aside0.mk (below_step bh hb); have n1_ := Aside0.mk (hbox); have n2_ := Aside0.mk ((gs (W0 := w) hg bh)); have n3_ := Aside0.mk ((gs (W0 := w) hg bh)); clear HB; have HB := n0_; have BK220 := n1_; have GW220 := n2_; have GE220 := n3_; clear n0_ n1_ n2_ n3_ hb hbox hg) | ((with_reducible refine gate_dst (N := 4) rfl ?_); refine box_event ?hg (N := 4) ?hd (cs := #[.int .i64 a1_0, .slice A1_1 l1_1.length c1_1]) (t := 25) ?hr ?_; (case hd => rfl); (case hg => rfl); (case hr => first | (go_simp; done) | (go_simp; rfl)); intro gb221 hg w14 hbox hb; have n0_ := Aside0.mk (blk_below (bz BK220) hb); have n1_ := Aside0.mk (below_step bh hb); have n2_ := Aside0.mk (hbox); have n3_ := Aside0.mk ((gs (W0 := w) hg bh)); have n4_ := Aside0.mk ((gs (W0 := w) hg bh)); have n5_ := Aside0.mk ((gn hg (bz BK220))); have n6_ := Aside0.mk ((gm hg (bz BK220))); clear BK220 HB; have BK220 := n0_; have HB := n1_; have BK221 := n2_; have GW221 := n3_; have GE221 := n4_; have NB220_221 := n5_; have NB221_220 := n6_; clear n0_ n1_ n2_ n3_ n4_ n5_ n6_ hb hbox hg; have hnb15 := NB221_220.out; have hnc15 := NB220_221.out; have hcz16_0 := cz0 BK221; have hcz16_1 := cz1 BK221; have hfz16_0 := blk_frozen BK221.out 0; have hfz16_1 := blk_frozen BK221.out 1; have hcz17_0 := cz0 BK220; have hcz17_1 := cz1 BK220; have hcz17_2 := cz2 BK220; have hfz17_0 := blk_frozen BK220.out 0; have hfz17_1 := blk_frozen BK220.out 1; have hfz17_2 := blk_frozen BK220.out 2) | ((with_reducible refine gate_callee (f := 64) rfl ?_); refine goesL_ (some 11) rfl rfl Try.func64 kr rfl #[.agg #[.int .i64 a1_0, .slice A1_1 l1_1.length c1_1], .slice A0_0 l0_0.length c0_0, .int .i64 a2] rfl lm ?_; (with_reducible refine (impl_consents.calls k a1_0 _ _ l1_1 _ _ l0_0 a2 false _ ?side1 ?side2 ?side3 ?side4 A4.out).mono ?_); (case side1 => repeat (first | exact (Kd.C_below HR1_1.out HB.out) | (with_reducible refine Kd.C_alloc ?_ _) | (with_reducible refine Kd.C_drewN ?_ _) | (with_reducible refine Kd.C_drew ?_))); (case side2 => exact HC1_1.out); (case side3 => repeat (first | exact (Kd.C_below HR0_0.out HB.out) | (with_reducible refine Kd.C_alloc ?_ _) | (with_reducible refine Kd.C_drewN ?_ _) | (with_reducible refine Kd.C_drew ?_))); (case side4 => exact HC0_0.out); rintro e w18 ⟨rfl, hb⟩; refine ⟨_, rfl, ?_⟩; have n0_ := Aside0.mk (blk_below (bz BK220) hb); have n1_ := Aside0.mk (blk_below (bz BK221) hb); have n2_ := Aside0.mk (below_step bh hb); clear BK220 BK221 HB; have BK220 := n0_; have BK221 := n1_; have HB := n2_; clear n0_ n1_ n2_; (try clear hb); (try clear hb2); (try clear hk); (try clear hi); have hcz19_0 := cz0 BK220; have hcz19_1 := cz1 BK220; have hcz19_2 := cz2 BK220; have hfz19_0 := blk_frozen BK220.out 0; have hfz19_1 := blk_frozen BK220.out 1; have hfz19_2 := blk_frozen BK220.out 2))
  go_ret
  exact ⟨by first | rfl | (simp [errW_none, errW_some] <;> rfl) | (simp [*, errW_none, errW_some] <;> rfl), by exact bh⟩

/-! ### impl_lawFrom: function 65 -/
def impl_lawFrom.l0 : Nat → List (S41) → Int → Int → Int → List Int → Option (Bool)
 | 0, _, _, _, _, _ => none
 | k + 1, x1, x2, x3, x224000, x224001 => if x2 < (x1.length : Int) then (if 0 ≤ x2 then ((impl_Step_next.f k ((rd_T41 x1 x2).f0) ((rd_T41 x1 x2).f1) ((rd_T41 x1 x2).f2) x224000 x224001 x3).bind fun t225 => (impl_lawFrom.l0 k x1 t225 x3 x224000 x224001)) else (none)) else (some (x2 == 10))
def impl_lawFrom.f (k : Nat) (a0_0 : Int) (l0_1 : List Int) (l1 : List (S41)) (a2 : Int) (a3 : Int) : Option (Bool) := impl_lawFrom.l0 k l1 a2 a3 a0_0 l0_1
theorem impl_lawFrom.mono_l : ∀ k, (∀ y0 y1 y2 y3 y4, LeO (impl_lawFrom.l0 k y0 y1 y2 y3 y4) (impl_lawFrom.l0 (k + 1) y0 y1 y2 y3 y4))
 | 0 => fun _ _ _ _ _ r h => by simp [impl_lawFrom.l0] at h
 | k + 1 => by
  have ih0 := impl_lawFrom.mono_l k
  ·intro y0 y1 y2 y3 y4
   unfold impl_lawFrom.l0
   repeat' first
   | (with_reducible exact ih0 _ _ _ _ _)
   | (with_reducible exact impl_Step_next.mono _ _ _ _ _ _ _)
   | (with_reducible exact LeO.refl _)
   | (with_reducible exact LeO.none _)
   | (with_reducible refine LeO.ite ?_ ?_)
   | (with_reducible refine LeO.bind ?_ (fun _ => ?_))
   | exact ih0 _ _ _ _ _
   | exact impl_Step_next.mono _ _ _ _ _ _ _
   | exact LeO.none _
   | refine LeO.ite ?_ ?_
   | refine LeO.bind ?_ (fun _ => ?_)
theorem impl_lawFrom.mono : ∀ a0 a1 a2 a3 a4 k, LeO (impl_lawFrom.f k a0 a1 a2 a3 a4) (impl_lawFrom.f (k + 1) a0 a1 a2 a3 a4) := by
 intro a0 a1 a2 a3 a4 k
 have ih0 := impl_lawFrom.mono_l k
 unfold impl_lawFrom.f
 repeat' first
   | (with_reducible exact ih0 _ _ _ _ _)
   | (with_reducible exact impl_Step_next.mono _ _ _ _ _ _ _)
   | (with_reducible exact LeO.refl _)
   | (with_reducible exact LeO.none _)
   | (with_reducible refine LeO.ite ?_ ?_)
   | (with_reducible refine LeO.bind ?_ (fun _ => ?_))
   | exact ih0 _ _ _ _ _
   | exact impl_Step_next.mono _ _ _ _ _ _ _
   | exact LeO.none _
   | refine LeO.ite ?_ ?_
   | refine LeO.bind ?_ (fun _ => ?_)
def impl_lawFrom.T2 : Bool × List (List Nat × List Nat) := (true, [([], []), ([], []), ([0, 1], [0, 1]), ([2], [2]), ([], []), ([], []), ([3, 4, 5], [3, 4, 5]), ([6, 6, 0, 1, 2, 3, 4, 5, 6], [1, 6])])
def impl_lawFrom.B2 : List Nat := [0, 0, 3, 7, 0, 0, 63, 127]
theorem impl_lawFrom.tab2 : rtab .any (opsOf Try.f65 2) = impl_lawFrom.T2 := by kernel_rfl
theorem impl_lawFrom.bits2 : waitsOk impl_lawFrom.T2.2 impl_lawFrom.B2 = true := by kernel_rfl
set_option maxHeartbeats 8000000 in
set_option maxRecDepth 100000 in
theorem impl_lawFrom.calls (k : Nat) (a0_0 : Int) (A0_1 : Option Addr) (c0_1 : Nat) (l0_1 : List Int) (A1 : Option Addr) (c1 : Nat) (l1 : List (S41)) (a2 : Int) (a3 : Int) (r : Bool) (w : World) (hr0_1 : Kd.C (Kd.int .i64) w A0_1 l0_1.length l0_1) (hc0_1 : l0_1.length ≤ c0_1) (hr1 : Kd.C k41 w A1 l1.length l1) (hc1 : l1.length ≤ c1) (h : impl_lawFrom.f k a0_0 l0_1 l1 a2 a3 = some r) :
  Calls Try.prog 65 #[.agg #[.int .i64 a0_0, .slice A0_1 l0_1.length c0_1], .slice A1 l1.length c1, .int .i64 a2, .int .i64 a3] w fun e w' => e = .returned (.bool r) ∧ Below w.heap.size w w' := by
 have hu25 := Try.underlying25
 have hu41 := Try.underlying41
 have HR0_1 := Aside0.mk hr0_1
 have HC0_1 := Aside0.mk hc0_1
 clear hr0_1 hc0_1
 have HR1 := Aside0.mk hr1
 have HC1 := Aside0.mk hc1
 clear hr1 hc1
 have HB := Aside0.mk (Below.refl w.heap.size w)
 have H : (impl_lawFrom.l0 k l1 a2 a3 a0_0 l0_1) = some r := h
 clear h
 have H' := Aside0.mk H
 clear H
 go_enter Try.func65, Try.ntmps65
 go_wp2_with (first | ((with_reducible refine gate_dst (N := 4) rfl ?_); refine box_event ?hg (N := 4) ?hd (cs := #[.int .i64 a0_0, .slice A0_1 l0_1.length c0_1]) (t := 25) ?hr ?_; (case hd => rfl); (case hg => rfl); (case hr => first | (go_simp; done) | (go_simp; rfl)); intro gb223 hg w5 hbox hb; have n0_ := Aside0.mk (below_step bh hb); have n1_ := Aside0.mk (hbox); have n2_ := Aside0.mk ((gs (W0 := w) hg bh)); have n3_ := Aside0.mk ((gs (W0 := w) hg bh)); clear HB; have HB := n0_; have BK223 := n1_; have GW223 := n2_; have GE223 := n3_; clear n0_ n1_ n2_ n3_ hb hbox hg))
 go_loopg [2] k (fun kq v2 w' => ∃ (x2_1 : Int), v2 = .int .i64 x2_1 ∧ Aside0 (impl_lawFrom.l0 kq l1 x2_1 a3 a0_0 l0_1 = some r) ∧ Aside0 (kq ≤ k) ∧ Aside0 (w'.heap[gb223]? = some (.cells #[.int .i64 a0_0, (.slice A0_1 l0_1.length c0_1)] 25 (0, 0))) ∧ Aside0 (Below w.heap.size w w'))
 case atStart => exact ⟨(a2), (by first | rfl | (simp; done) | (simp [*]; done)), H', ⟨Nat.le_refl _⟩, ⟨bz BK223⟩, ⟨by exact bh⟩⟩
 case round =>
  clear H'
  try clear c1
  try clear p2
  obtain ⟨x2_1, rfl, HA, HK1, BK223, HB⟩ := hrel
  cases gk with
  | zero => exact absurd HA.out (by simp [impl_lawFrom.l0])
  | succ k1 =>
   have H := HA.out
   clear HA
   simp only [impl_lawFrom.l0] at H
   by_cases c6 : x2_1 < (l1.length : Int)
   ·rw [if_pos c6] at H
    have c6b0 : decide (x2_1 < (l1.length : Int)) = true := decide_eq_true c6
    clear c6
    by_cases c7 : 0 ≤ x2_1
    ·rw [if_pos c7] at H
     have c7b0 : decide (0 ≤ x2_1) = true := decide_eq_true c7
     clear c7
     replace H := Option.bind_eq_some_iff.mp H
     obtain ⟨t225, A80, H⟩ := H
     replace H : (impl_lawFrom.l0 k1 l1 t225 a3 a0_0 l0_1) = some r := H
     have A8 := Aside0.mk A80
     clear A80
     have H' := Aside0.mk H
     clear H
     try go_wp2
     have n0_ := Aside0.mk (blk_drew BK223.out)
     have n1_ := Aside0.mk (below_drew1 HB.out)
     clear BK223 HB
     have BK223 := n0_
     have HB := n1_
     clear n0_ n1_
     have p224 : 0 ≤ (x2_1 : Int) := oda
     have q224 : x2_1 < (l1.length : Int) := oda
     obtain ⟨ad224, A224_0, c224_0, e224, hx224_0, hx224_1, hx224_2, hl224_0, hi224_0⟩ := at_T41 HR1.out x2_1 p224 q224
     have hw224_2 := hx224_2
     have hw224_1 := hx224_1
     have hw224_0 := hx224_0
     cases e224
     replace hx224_0 := (HB.out.cell (World.block_lt_of_cell? w _ hx224_0)).trans hx224_0
     replace hx224_1 := (HB.out.cell (World.block_lt_of_cell? w _ hx224_1)).trans hx224_1
     replace hx224_2 := (HB.out.cell (World.block_lt_of_cell? w _ hx224_2)).trans hx224_2
     have HR224_0 := Aside0.mk hi224_0
     have HC224_0 := Aside0.mk hl224_0
     clear hi224_0 hl224_0
     replace p224 := eq_true p224
     replace q224 := eq_true q224
     refine start_ (n := 8) (S := fun w' => w'.cell? ⟨gb223, 0, none⟩ = some (.int .i64 a0_0) ∧ w'.cell? ⟨gb223, 1, none⟩ = some (.slice A0_1 l0_1.length c0_1) ∧ w'.cell? (ad224.add ((x2_1).toNat * 3)) = some (.slice A224_0 ((rd_T41 l1 x2_1).f0).length c224_0) ∧ w'.cell? ⟨(ad224.add ((x2_1).toNat * 3)).block, (ad224.add ((x2_1).toNat * 3)).off + 1, none⟩ = some (.int .i64 ((rd_T41 l1 x2_1).f1)) ∧ w'.cell? ⟨(ad224.add ((x2_1).toNat * 3)).block, (ad224.add ((x2_1).toNat * 3)).off + 2, none⟩ = some (.int .i64 ((rd_T41 l1 x2_1).f2))) (ds := []) #[F,F,F,F,F,F,F,F] kr rfl rfl ⟨cz0 BK223, cz1 BK223, ((HB.out.cell (World.block_lt_of_cell? w _ hw224_0)).trans hw224_0), ((HB.out.cell (World.block_lt_of_cell? w _ hw224_1)).trans hw224_1), ((HB.out.cell (World.block_lt_of_cell? w _ hw224_2)).trans hw224_2)⟩ (fun hHeld => ?_); refine with_tabW impl_lawFrom.tab2 impl_lawFrom.bits2 (fun HT_ HW_ => ?_)
     generalize wr.drew = w9 at BK223 HB HR224_0 hx224_0 hx224_1 hx224_2 hHeld ⊢
     refine pu 0 (some 13) #[T,F,F,F,F,F,F,F] (any_of HT_.out kr) ?_
     refine pu 1 (some 14) #[T,T,F,F,F,F,F,F] (any_of HT_.out kr) ?_
     refine pu 2 (some 15) #[T,T,T,F,F,F,F,F] (any_of HT_.out kr) ?_
     refine pu 5 (some 18) #[T,T,T,F,F,T,F,F] (any_of HT_.out kr) ?_
     refine tk5 3 (some 16) #[T,T,T,T,F,T,F,F] (take_ofW HT_.out HW_.out kr) ?_
     refine tk5 4 (some 17) #[T,T,T,T,T,T,F,F] (take_ofW HT_.out HW_.out kr) ?_
     refine one_ (i := 6) (N := some 19) #[T,T,T,T,T,T,T,F] rfl rfl (one_of HT_.out kr) (by decide) (fun K hK => ?_)
     refine goes_ Try.func74 kr rfl #[.agg #[.slice A224_0 ((rd_T41 l1 x2_1).f0).length c224_0, .int .i64 ((rd_T41 l1 x2_1).f1), .int .i64 ((rd_T41 l1 x2_1).f2)], .agg #[.int .i64 a0_0, .slice A0_1 l0_1.length c0_1], .int .i64 a3] (by rfl) rfl rfl lm ?_
     with_reducible refine (impl_Step_next.calls k1 _ _ ((rd_T41 l1 x2_1).f0) ((rd_T41 l1 x2_1).f1) ((rd_T41 l1 x2_1).f2) a0_0 _ _ l0_1 a3 t225 _ ?side1 ?side2 ?side3 ?side4 A8.out).mono ?_
     (case side1 => repeat (first | exact (Kd.C_below HR224_0.out HB.out) | (with_reducible refine Kd.C_alloc ?_ _) | (with_reducible refine Kd.C_drewN ?_ _) | (with_reducible refine Kd.C_drew ?_)))
     (case side2 => exact HC224_0.out)
     (case side3 => repeat (first | exact (Kd.C_below HR0_1.out HB.out) | (with_reducible refine Kd.C_alloc ?_ _) | (with_reducible refine Kd.C_drewN ?_ _) | (with_reducible refine Kd.C_drew ?_)))
     (case side4 => exact HC0_1.out)
     rintro e w10 ⟨rfl, hb⟩
     refine ⟨_, rfl, ?_⟩
     have n0_ := Aside0.mk (blk_below (bz BK223) hb)
     have n1_ := Aside0.mk (below_step bh hb)
     clear BK223 HB
     have BK223 := n0_
     have HB := n1_
     clear n0_ n1_
     (try clear hb)
     (try clear hb2)
     (try clear hk)
     (try clear hi)
     refine hK.out _ _ ⟨cz0 BK223, cz1 BK223, ((HB.out.cell (World.block_lt_of_cell? w _ hw224_0)).trans hw224_0), ((HB.out.cell (World.block_lt_of_cell? w _ hw224_1)).trans hw224_1), ((HB.out.cell (World.block_lt_of_cell? w _ hw224_2)).trans hw224_2)⟩ (fun hHeld => ?_)
     clear hK K
     refine norm_ (a' := ?_) ?_ ?_
     rotate_left
     ·show Act.put _ (some 19) _ = _
      simp only [Act.put, List.setIfInBounds_toArray, List.set_cons_zero, List.set_cons_succ, i64_w, i32_w]
      rfl
     refine pu 7 (some 2) #[T,T,T,T,T,T,T,T] (any_of HT_.out kr) ?_
     refine done_ (done_of HT_.out kr) ?_
     try go_wp2
     go_roundg k1
     case measure => have := HK1.out; omega
     case rel => exact ⟨(t225), (by first | rfl | (simp; done) | (simp [*]; done)), H', ⟨by have := HK1.out; omega⟩, ⟨bz BK223⟩, ⟨by exact bh⟩⟩
    ·rw [if_neg c7] at H
     exact absurd H (by simp)
   ·rw [if_neg c6] at H
    have c6b0 : decide (x2_1 < (l1.length : Int)) = false := decide_eq_false c6
    clear c6
    obtain rfl := Option.some.inj H
    go_wp2
    go_ret
    exact ⟨by first | rfl | (simp [errW_none, errW_some] <;> rfl) | (simp [*, errW_none, errW_some] <;> rfl), by exact bh⟩

/-! ### impl_isSound: function 66 -/
mutual
def impl_isSound.l0 : Nat → List (S41) → List (S41) → Int → Int → Int → List Int → Option (Bool)
 | 0, _, _, _, _, _, _ => none
 | k + 1, x1, x8, x9, x10, x227000, x227001 => if x10 < x9 then (if 0 ≤ x10 then (if x10 < (x8.length : Int) then (if 0 ≤ x227000 then (impl_isSound.l1 k x1 x8 x9 x10 (shl .i64 1 x227000) 0 x227000 x227001 ((rd_T41 x8 x10).f0) ((rd_T41 x8 x10).f1) ((rd_T41 x8 x10).f2)) else (none)) else (none)) else (none)) else (some true)
def impl_isSound.l1 : Nat → List (S41) → List (S41) → Int → Int → Int → Int → Int → List Int → List (S78) → Int → Int → Option (Bool)
 | 0, _, _, _, _, _, _, _, _, _, _, _ => none
 | k + 1, x1, x8, x9, x10, x16, x17, x227000, x227001, x229000, x229001, x229002 => if x17 < x16 then ((impl_lawFrom.f k x227000 x227001 x1 x229002 x17).bind fun t229 => (if t229 = true then ((impl_lawFrom.f k x227000 x227001 x1 x229001 x17).bind fun t230 => (if t230 = true then (impl_isSound.l1 k x1 x8 x9 x10 x16 (wrap64 (x17 + 1)) x227000 x227001 x229000 x229001 x229002) else (some false))) else (impl_isSound.l1 k x1 x8 x9 x10 x16 (wrap64 (x17 + 1)) x227000 x227001 x229000 x229001 x229002))) else (impl_isSound.l0 k x1 x8 x9 (wrap64 (x10 + 1)) x227000 x227001)
end
def impl_isSound.f (k : Nat) (a0_0 : Int) (l0_1 : List Int) (l1 : List (S41)) : Option (Bool) := impl_isSound.l0 k l1 l1 (l1.length : Int) 0 a0_0 l0_1
theorem impl_isSound.mono_l : ∀ k, (∀ y0 y1 y2 y3 y4 y5, LeO (impl_isSound.l0 k y0 y1 y2 y3 y4 y5) (impl_isSound.l0 (k + 1) y0 y1 y2 y3 y4 y5)) ∧ (∀ y0 y1 y2 y3 y4 y5 y6 y7 y8 y9 y10, LeO (impl_isSound.l1 k y0 y1 y2 y3 y4 y5 y6 y7 y8 y9 y10) (impl_isSound.l1 (k + 1) y0 y1 y2 y3 y4 y5 y6 y7 y8 y9 y10))
 | 0 => ⟨fun _ _ _ _ _ _ r h => by simp [impl_isSound.l0] at h, fun _ _ _ _ _ _ _ _ _ _ _ r h => by simp [impl_isSound.l1] at h⟩
 | k + 1 => by
  obtain ⟨ih0, ih1⟩ := impl_isSound.mono_l k
  refine ⟨?_, ?_⟩
  ·intro y0 y1 y2 y3 y4 y5
   unfold impl_isSound.l0
   repeat' first
   | (with_reducible exact ih0 _ _ _ _ _ _)
   | (with_reducible exact ih1 _ _ _ _ _ _ _ _ _ _ _)
   | (with_reducible exact impl_lawFrom.mono _ _ _ _ _ _)
   | (with_reducible exact LeO.refl _)
   | (with_reducible exact LeO.none _)
   | (with_reducible refine LeO.ite ?_ ?_)
   | (with_reducible refine LeO.bind ?_ (fun _ => ?_))
   | exact ih0 _ _ _ _ _ _
   | exact ih1 _ _ _ _ _ _ _ _ _ _ _
   | exact impl_lawFrom.mono _ _ _ _ _ _
   | exact LeO.none _
   | refine LeO.ite ?_ ?_
   | refine LeO.bind ?_ (fun _ => ?_)
  ·intro y0 y1 y2 y3 y4 y5 y6 y7 y8 y9 y10
   unfold impl_isSound.l1
   repeat' first
   | (with_reducible exact ih0 _ _ _ _ _ _)
   | (with_reducible exact ih1 _ _ _ _ _ _ _ _ _ _ _)
   | (with_reducible exact impl_lawFrom.mono _ _ _ _ _ _)
   | (with_reducible exact LeO.refl _)
   | (with_reducible exact LeO.none _)
   | (with_reducible refine LeO.ite ?_ ?_)
   | (with_reducible refine LeO.bind ?_ (fun _ => ?_))
   | exact ih0 _ _ _ _ _ _
   | exact ih1 _ _ _ _ _ _ _ _ _ _ _
   | exact impl_lawFrom.mono _ _ _ _ _ _
   | exact LeO.none _
   | refine LeO.ite ?_ ?_
   | refine LeO.bind ?_ (fun _ => ?_)
theorem impl_isSound.mono : ∀ a0 a1 a2 k, LeO (impl_isSound.f k a0 a1 a2) (impl_isSound.f (k + 1) a0 a1 a2) := by
 intro a0 a1 a2 k
 obtain ⟨ih0, ih1⟩ := impl_isSound.mono_l k
 unfold impl_isSound.f
 repeat' first
   | (with_reducible exact ih0 _ _ _ _ _ _)
   | (with_reducible exact ih1 _ _ _ _ _ _ _ _ _ _ _)
   | (with_reducible exact impl_lawFrom.mono _ _ _ _ _ _)
   | (with_reducible exact LeO.refl _)
   | (with_reducible exact LeO.none _)
   | (with_reducible refine LeO.ite ?_ ?_)
   | (with_reducible refine LeO.bind ?_ (fun _ => ?_))
   | exact ih0 _ _ _ _ _ _
   | exact ih1 _ _ _ _ _ _ _ _ _ _ _
   | exact impl_lawFrom.mono _ _ _ _ _ _
   | exact LeO.none _
   | refine LeO.ite ?_ ?_
   | refine LeO.bind ?_ (fun _ => ?_)
set_option maxHeartbeats 8000000 in
set_option maxRecDepth 100000 in
theorem impl_isSound.calls (k : Nat) (a0_0 : Int) (A0_1 : Option Addr) (c0_1 : Nat) (l0_1 : List Int) (A1 : Option Addr) (c1 : Nat) (l1 : List (S41)) (r : Bool) (w : World) (hr0_1 : Kd.C (Kd.int .i64) w A0_1 l0_1.length l0_1) (hc0_1 : l0_1.length ≤ c0_1) (hr1 : Kd.C k41 w A1 l1.length l1) (hc1 : l1.length ≤ c1) (h : impl_isSound.f k a0_0 l0_1 l1 = some r) :
  Calls Try.prog 66 #[.agg #[.int .i64 a0_0, .slice A0_1 l0_1.length c0_1], .slice A1 l1.length c1] w fun e w' => e = .returned (.bool r) ∧ Below w.heap.size w w' := by
 have hu25 := Try.underlying25
 have hu41 := Try.underlying41
 have HR0_1 := Aside0.mk hr0_1
 have HC0_1 := Aside0.mk hc0_1
 clear hr0_1 hc0_1
 have HR1 := Aside0.mk hr1
 have HC1 := Aside0.mk hc1
 clear hr1 hc1
 have HB := Aside0.mk (Below.refl w.heap.size w)
 have H : (impl_isSound.l0 k l1 l1 (l1.length : Int) 0 a0_0 l0_1) = some r := h
 clear h
 have H' := Aside0.mk H
 clear H
 go_enter Try.func66, Try.ntmps66
 go_wp2_with (first | ((with_reducible refine gate_dst (N := 2) rfl ?_); refine box_event ?hg (N := 2) ?hd (cs := #[.int .i64 a0_0, .slice A0_1 l0_1.length c0_1]) (t := 25) ?hr ?_; (case hd => rfl); (case hg => rfl); (case hr => first | (go_simp; done) | (go_simp; rfl)); intro gb226 hg w3 hbox hb; have n0_ := Aside0.mk (below_step bh hb); have n1_ := Aside0.mk (hbox); have n2_ := Aside0.mk ((gs (W0 := w) hg bh)); have n3_ := Aside0.mk ((gs (W0 := w) hg bh)); clear HB; have HB := n0_; have BK226 := n1_; have GW226 := n2_; have GE226 := n3_; clear n0_ n1_ n2_ n3_ hb hbox hg))
 go_loopg [10] k (fun kq v10 w' => ∃ (x10_1 : Int), v10 = .int .i64 x10_1 ∧ Aside0 (impl_isSound.l0 kq l1 l1 (l1.length : Int) x10_1 a0_0 l0_1 = some r) ∧ Aside0 (kq ≤ k) ∧ Aside0 (w'.heap[gb226]? = some (.cells #[.int .i64 a0_0, (.slice A0_1 l0_1.length c0_1)] 25 (0, 0))) ∧ Aside0 (Below w.heap.size w w'))
 case atStart => exact ⟨(0), (by first | rfl | (simp; done) | (simp [*]; done)), H', ⟨Nat.le_refl _⟩, ⟨bz BK226⟩, ⟨by exact bh⟩⟩
 case round =>
  clear H'
  try clear c1
  try clear p2
  obtain ⟨x10_1, rfl, HA, HK1, BK226, HB⟩ := hrel
  cases gk with
  | zero => exact absurd HA.out (by simp [impl_isSound.l0])
  | succ k1 =>
   have H := HA.out
   clear HA
   simp only [impl_isSound.l0] at H
   by_cases c4 : x10_1 < (l1.length : Int)
   ·rw [if_pos c4] at H
    have c4b0 : decide (x10_1 < (l1.length : Int)) = true := decide_eq_true c4
    clear c4
    by_cases c5 : 0 ≤ x10_1
    ·rw [if_pos c5] at H
     have c5b0 : decide (0 ≤ x10_1) = true := decide_eq_true c5
     clear c5
     by_cases c6 : x10_1 < (l1.length : Int)
     ·rw [if_pos c6] at H
      have c6b0 : decide (x10_1 < (l1.length : Int)) = true := decide_eq_true c6
      clear c6
      by_cases c7 : 0 ≤ a0_0
      ·rw [if_pos c7] at H
       have c7b0 := eq_true c7
       have c7b1 : decide (0 ≤ a0_0) = true := decide_eq_true c7
       clear c7
       obtain ⟨ji8, hji8⟩ : ∃ j_ : Int, (shl .i64 1 a0_0) = j_ := ⟨_, rfl⟩
       replace H : (impl_isSound.l1 k1 l1 l1 (l1.length : Int) x10_1 ji8 0 a0_0 l0_1 ((rd_T41 l1 x10_1).f0) ((rd_T41 l1 x10_1).f1) ((rd_T41 l1 x10_1).f2)) = some r := by first | (rw [hji8] at H; exact H) | (simp only [hji8] at H ⊢; exact H)
       have hji8_ : (IntKind.i64.wrap (1 * 2 ^ min a0_0.toNat 64)) = ji8 := hji8
       have hji8z : a0_0 ≤ 64 → (IntKind.i64.wrap (1 * 2 ^ a0_0.toNat)) = ji8 := shl_small hji8
       have hji8u : (IntKind.i64.wrap (2 ^ min a0_0.toNat 64)) = ji8 := by have h_ := hji8_; rw [Int.one_mul] at h_; exact h_
       have hji8v : a0_0 ≤ 64 → (IntKind.i64.wrap (2 ^ a0_0.toNat)) = ji8 := fun hle_ => by have h_ := hji8z hle_; rw [Int.one_mul] at h_; exact h_
       have hji8y : (wrap64 (1 * 2 ^ min a0_0.toNat 64)) = ji8 := (i64_w _).symm.trans hji8_
       have hji8x : a0_0 ≤ 64 → (wrap64 (1 * 2 ^ a0_0.toNat)) = ji8 := fun h_ => (i64_w _).symm.trans (hji8z h_)
       have H' := Aside0.mk H
       clear H
       have p227 : 0 ≤ (x10_1 : Int) := oda
       have q227 : x10_1 < (l1.length : Int) := oda
       obtain ⟨ad227, A227_0, c227_0, e227, hx227_0, hx227_1, hx227_2, hl227_0, hi227_0⟩ := at_T41 HR1.out x10_1 p227 q227
       cases e227
       replace hx227_0 := (HB.out.cell (World.block_lt_of_cell? w _ hx227_0)).trans hx227_0
       replace hx227_1 := (HB.out.cell (World.block_lt_of_cell? w _ hx227_1)).trans hx227_1
       replace hx227_2 := (HB.out.cell (World.block_lt_of_cell? w _ hx227_2)).trans hx227_2
       have HR227_0 := Aside0.mk hi227_0
       have HC227_0 := Aside0.mk hl227_0
       clear hi227_0 hl227_0
       replace p227 := eq_true p227
       replace q227 := eq_true q227
       go_wp2_with (first | ((with_reducible refine gate_dst (N := 6) rfl ?_); refine box_event ?hg (N := 6) ?hd (cs := #[.slice none 0 0, .int .i64 0, .int .i64 0]) (t := 41) ?hr ?_; (case hd => rfl); (case hg => rfl); (case hr => first | (go_simp; done) | (go_simp; rfl)); intro gb228 hg w9 hbox hb; have n0_ := Aside0.mk (blk_below (bz BK226) hb); have n1_ := Aside0.mk (below_step bh hb); have n2_ := Aside0.mk (hbox); have n3_ := Aside0.mk ((gs (W0 := w) hg bh)); have n4_ := Aside0.mk ((gs (W0 := w) hg bh)); have n5_ := Aside0.mk ((gn hg (bz BK226))); have n6_ := Aside0.mk ((gm hg (bz BK226))); clear BK226 HB; have BK226 := n0_; have HB := n1_; have BK228 := n2_; have GW228 := n3_; have GE228 := n4_; have NB226_228 := n5_; have NB228_226 := n6_; clear n0_ n1_ n2_ n3_ n4_ n5_ n6_ hb hbox hg; have hnb10 := NB228_226.out; have hnc10 := NB226_228.out; have hcz11_0 := cz0 BK228; have hcz11_1 := cz1 BK228; have hcz11_2 := cz2 BK228; have hfz11_0 := blk_frozen BK228.out 0; have hfz11_1 := blk_frozen BK228.out 1; have hfz11_2 := blk_frozen BK228.out 2; have hcz12_0 := cz0 BK226; have hcz12_1 := cz1 BK226; have hfz12_0 := blk_frozen BK226.out 0; have hfz12_1 := blk_frozen BK226.out 1))
       go_loopg [17] k1 (fun kq v17 w' => ∃ (x17_2 : Int), v17 = .int .i64 x17_2 ∧ Aside0 (impl_isSound.l1 kq l1 l1 (l1.length : Int) x10_1 ji8 x17_2 a0_0 l0_1 ((rd_T41 l1 x10_1).f0) ((rd_T41 l1 x10_1).f1) ((rd_T41 l1 x10_1).f2) = some r) ∧ Aside0 (kq ≤ k1) ∧ Aside0 (w'.heap[gb226]? = some (.cells #[.int .i64 a0_0, (.slice A0_1 l0_1.length c0_1)] 25 (0, 0))) ∧ Aside0 (w'.heap[gb228]? = some (.cells #[(.slice A227_0 ((rd_T41 l1 x10_1).f0).length c227_0), .int .i64 ((rd_T41 l1 x10_1).f1), .int .i64 ((rd_T41 l1 x10_1).f2)] 41 (0, 0))) ∧ Aside0 (Below w.heap.size w w'))
       case atStart => exact ⟨(0), (by first | rfl | (simp; done) | (simp [*]; done)), H', ⟨Nat.le_refl _⟩, ⟨bf NB226_228 BK226⟩, ⟨bp BK228⟩, ⟨by exact bh⟩⟩
       case round =>
        clear H'
        try clear c1
        try clear c2
        try clear p2
        try clear q2
        try clear hx2
        try clear c4
        try clear c4b0
        try clear c5
        try clear c5b0
        try clear c6
        try clear c6b0
        try clear p6
        try clear c7
        try clear c7b0
        try clear c7b1
        try clear c10
        try clear hcz11_0
        try clear hcz11_1
        try clear hcz11_2
        try clear hcz12_0
        try clear hcz12_1
        try clear hfz11_0
        try clear hfz11_1
        try clear hfz11_2
        try clear hfz12_0
        try clear hfz12_1
        try clear hx227_0
        try clear hx227_1
        try clear hx227_2
        try clear p2
        try clear p227
        try clear q227
        obtain ⟨x17_2, rfl, HA, HK2, BK226, BK228, HB⟩ := hrel
        cases gk with
        | zero => exact absurd HA.out (by simp [impl_isSound.l1])
        | succ k2 =>
         have H := HA.out
         clear HA
         simp only [impl_isSound.l1] at H
         by_cases c13 : x17_2 < ji8
         ·rw [if_pos c13] at H
          have c13b0 : decide (x17_2 < ji8) = true := decide_eq_true c13
          clear c13
          replace H := Option.bind_eq_some_iff.mp H
          obtain ⟨t229, A140, H⟩ := H
          replace H : (if t229 = true then ((impl_lawFrom.f k2 a0_0 l0_1 l1 ((rd_T41 l1 x10_1).f1) x17_2).bind fun t230 => (if t230 = true then (impl_isSound.l1 k2 l1 l1 (l1.length : Int) x10_1 ji8 (wrap64 (x17_2 + 1)) a0_0 l0_1 ((rd_T41 l1 x10_1).f0) ((rd_T41 l1 x10_1).f1) ((rd_T41 l1 x10_1).f2)) else (some false))) else (impl_isSound.l1 k2 l1 l1 (l1.length : Int) x10_1 ji8 (wrap64 (x17_2 + 1)) a0_0 l0_1 ((rd_T41 l1 x10_1).f0) ((rd_T41 l1 x10_1).f1) ((rd_T41 l1 x10_1).f2))) = some r := H
          have A14 := Aside0.mk A140
          clear A140
          by_cases c15 : t229 = true
          ·subst c15
           have H1 : ((impl_lawFrom.f k2 a0_0 l0_1 l1 ((rd_T41 l1 x10_1).f1) x17_2).bind fun t230 => (if t230 = true then (impl_isSound.l1 k2 l1 l1 (l1.length : Int) x10_1 ji8 (wrap64 (x17_2 + 1)) a0_0 l0_1 ((rd_T41 l1 x10_1).f0) ((rd_T41 l1 x10_1).f1) ((rd_T41 l1 x10_1).f2)) else (some false))) = some r := by rw [if_pos rfl] at H; exact H
           clear H
           have H := H1
           clear H1
           replace H := Option.bind_eq_some_iff.mp H
           obtain ⟨t230, A160, H⟩ := H
           replace H : (if t230 = true then (impl_isSound.l1 k2 l1 l1 (l1.length : Int) x10_1 ji8 (wrap64 (x17_2 + 1)) a0_0 l0_1 ((rd_T41 l1 x10_1).f0) ((rd_T41 l1 x10_1).f1) ((rd_T41 l1 x10_1).f2)) else (some false)) = some r := H
           have A16 := Aside0.mk A160
           clear A160
           by_cases c17 : t230 = true
           ·subst c17
            have H1 : (impl_isSound.l1 k2 l1 l1 (l1.length : Int) x10_1 ji8 (wrap64 (x17_2 + 1)) a0_0 l0_1 ((rd_T41 l1 x10_1).f0) ((rd_T41 l1 x10_1).f1) ((rd_T41 l1 x10_1).f2)) = some r := by rw [if_pos rfl] at H; exact H
            clear H
            have H := H1
            clear H1
            have H' := Aside0.mk H
            clear H
            have hnb18 := NB226_228.out
            have hnc18 := NB228_226.out
            have hcz19_0 := cz0 BK226
            have hcz19_1 := cz1 BK226
            have hfz19_0 := blk_frozen BK226.out 0
            have hfz19_1 := blk_frozen BK226.out 1
            have hcz20_0 : wr.cell? ⟨gb228, 0, none⟩ = some (.slice A227_0 ((rd_T41 l1 x10_1).f0).length c227_0) := (blk_cell BK228.out 0).trans rfl
            have hcz20_1 : wr.cell? ⟨gb228, 1, none⟩ = some (.int .i64 ((rd_T41 l1 x10_1).f1)) := (blk_cell BK228.out 1).trans rfl
            have hcz20_2 : wr.cell? ⟨gb228, 2, none⟩ = some (.int .i64 ((rd_T41 l1 x10_1).f2)) := (blk_cell BK228.out 2).trans rfl
            have hfz20_0 := blk_frozen BK228.out 0
            have hfz20_1 := blk_frozen BK228.out 1
            have hfz20_2 := blk_frozen BK228.out 2
            go_wp2_with (first | ((with_reducible refine gate_callee (f := 65) rfl ?_); refine goesL_ (some 25) rfl rfl Try.func65 kr rfl #[.agg #[.int .i64 a0_0, .slice A0_1 l0_1.length c0_1], .slice (some ad227) l1.length c1, .int .i64 ((rd_T41 l1 x10_1).f2), .int .i64 x17_2] rfl lm ?_; (with_reducible refine (impl_lawFrom.calls k2 a0_0 _ _ l0_1 _ _ l1 ((rd_T41 l1 x10_1).f2) x17_2 true _ ?side1 ?side2 ?side3 ?side4 A14.out).mono ?_); (case side1 => repeat (first | exact (Kd.C_below HR0_1.out HB.out) | (with_reducible refine Kd.C_alloc ?_ _) | (with_reducible refine Kd.C_drewN ?_ _) | (with_reducible refine Kd.C_drew ?_))); (case side2 => exact HC0_1.out); (case side3 => repeat (first | exact (Kd.C_below HR1.out HB.out) | (with_reducible refine Kd.C_alloc ?_ _) | (with_reducible refine Kd.C_drewN ?_ _) | (with_reducible refine Kd.C_drew ?_))); (case side4 => exact HC1.out); rintro e w21 ⟨rfl, hb⟩; refine ⟨_, rfl, ?_⟩; have n0_ := Aside0.mk (blk_below (bz BK226) hb); have n1_ := Aside0.mk (blk_below (bz BK228) hb); have n2_ := Aside0.mk (below_step bh hb); clear BK226 BK228 HB; have BK226 := n0_; have BK228 := n1_; have HB := n2_; clear n0_ n1_ n2_; (try clear hb); (try clear hb2); (try clear hk); (try clear hi); have hcz22_0 := cz0 BK226; have hcz22_1 := cz1 BK226; have hfz22_0 := blk_frozen BK226.out 0; have hfz22_1 := blk_frozen BK226.out 1; have hcz23_0 : w21.cell? ⟨gb228, 0, none⟩ = some (.slice A227_0 ((rd_T41 l1 x10_1).f0).length c227_0) := (blk_cell BK228.out 0).trans rfl; have hcz23_1 : w21.cell? ⟨gb228, 1, none⟩ = some (.int .i64 ((rd_T41 l1 x10_1).f1)) := (blk_cell BK228.out 1).trans rfl; have hcz23_2 : w21.cell? ⟨gb228, 2, none⟩ = some (.int .i64 ((rd_T41 l1 x10_1).f2)) := (blk_cell BK228.out 2).trans rfl; have hfz23_0 := blk_frozen BK228.out 0; have hfz23_1 := blk_frozen BK228.out 1; have hfz23_2 := blk_frozen BK228.out 2) | (go_at_call 65; (with_reducible refine (impl_lawFrom.calls k2 a0_0 _ _ l0_1 _ _ l1 ((rd_T41 l1 x10_1).f1) x17_2 true _ ?side1 ?side2 ?side3 ?side4 A16.out).mono ?_); (case side1 => repeat (first | exact (Kd.C_below HR0_1.out HB.out) | (with_reducible refine Kd.C_alloc ?_ _) | (with_reducible refine Kd.C_drewN ?_ _) | (with_reducible refine Kd.C_drew ?_))); (case side2 => exact HC0_1.out); (case side3 => repeat (first | exact (Kd.C_below HR1.out HB.out) | (with_reducible refine Kd.C_alloc ?_ _) | (with_reducible refine Kd.C_drewN ?_ _) | (with_reducible refine Kd.C_drew ?_))); (case side4 => exact HC1.out); rintro e w24 ⟨rfl, hb⟩; have n0_ := Aside0.mk (blk_below (bz BK226) hb); have n1_ := Aside0.mk (blk_below (bz BK228) hb); have n2_ := Aside0.mk (below_step bh hb); clear BK226 BK228 HB; have BK226 := n0_; have BK228 := n1_; have HB := n2_; clear n0_ n1_ n2_; (try clear hb); (try clear hb2); (try clear hk); (try clear hi)))
            go_roundg k2
            case measure => have := HK1.out; have := HK2.out; omega
            case rel => exact ⟨(wrap64 (x17_2 + 1)), (by first | rfl | (simp; done) | (simp [*]; done)), H', ⟨by have := HK1.out; have := HK2.out; omega⟩, ⟨bz BK226⟩, ⟨bz BK228⟩, ⟨by exact bh⟩⟩
           ·replace c17 := Bool.eq_false_iff.mpr c17
            subst c17
            have H1 : (some false) = some r := by rw [if_neg (show ¬ (false = true) by decide)] at H; exact H
            clear H
            have H := H1
            clear H1
            obtain rfl := Option.some.inj H
            have hnb25 := NB226_228.out
            have hnc25 := NB228_226.out
            have hcz26_0 := cz0 BK226
            have hcz26_1 := cz1 BK226
            have hfz26_0 := blk_frozen BK226.out 0
            have hfz26_1 := blk_frozen BK226.out 1
            have hcz27_0 : wr.cell? ⟨gb228, 0, none⟩ = some (.slice A227_0 ((rd_T41 l1 x10_1).f0).length c227_0) := (blk_cell BK228.out 0).trans rfl
            have hcz27_1 : wr.cell? ⟨gb228, 1, none⟩ = some (.int .i64 ((rd_T41 l1 x10_1).f1)) := (blk_cell BK228.out 1).trans rfl
            have hcz27_2 : wr.cell? ⟨gb228, 2, none⟩ = some (.int .i64 ((rd_T41 l1 x10_1).f2)) := (blk_cell BK228.out 2).trans rfl
            have hfz27_0 := blk_frozen BK228.out 0
            have hfz27_1 := blk_frozen BK228.out 1
            have hfz27_2 := blk_frozen BK228.out 2
            go_wp2_with (first | ((with_reducible refine gate_callee (f := 65) rfl ?_); refine goesL_ (some 25) rfl rfl Try.func65 kr rfl #[.agg #[.int .i64 a0_0, .slice A0_1 l0_1.length c0_1], .slice (some ad227) l1.length c1, .int .i64 ((rd_T41 l1 x10_1).f2), .int .i64 x17_2] rfl lm ?_; (with_reducible refine (impl_lawFrom.calls k2 a0_0 _ _ l0_1 _ _ l1 ((rd_T41 l1 x10_1).f2) x17_2 true _ ?side1 ?side2 ?side3 ?side4 A14.out).mono ?_); (case side1 => repeat (first | exact (Kd.C_below HR0_1.out HB.out) | (with_reducible refine Kd.C_alloc ?_ _) | (with_reducible refine Kd.C_drewN ?_ _) | (with_reducible refine Kd.C_drew ?_))); (case side2 => exact HC0_1.out); (case side3 => repeat (first | exact (Kd.C_below HR1.out HB.out) | (with_reducible refine Kd.C_alloc ?_ _) | (with_reducible refine Kd.C_drewN ?_ _) | (with_reducible refine Kd.C_drew ?_))); (case side4 => exact HC1.out); rintro e w28 ⟨rfl, hb⟩; refine ⟨_, rfl, ?_⟩; have n0_ := Aside0.mk (blk_below (bz BK226) hb); have n1_ := Aside0.mk (blk_below (bz BK228) hb); have n2_ := Aside0.mk (below_step bh hb); clear BK226 BK228 HB; have BK226 := n0_; have BK228 := n1_; have HB := n2_; clear n0_ n1_ n2_; (try clear hb); (try clear hb2); (try clear hk); (try clear hi); have hcz29_0 := cz0 BK226; have hcz29_1 := cz1 BK226; have hfz29_0 := blk_frozen BK226.out 0; have hfz29_1 := blk_frozen BK226.out 1; have hcz30_0 : w28.cell? ⟨gb228, 0, none⟩ = some (.slice A227_0 ((rd_T41 l1 x10_1).f0).length c227_0) := (blk_cell BK228.out 0).trans rfl; have hcz30_1 : w28.cell? ⟨gb228, 1, none⟩ = some (.int .i64 ((rd_T41 l1 x10_1).f1)) := (blk_cell BK228.out 1).trans rfl; have hcz30_2 : w28.cell? ⟨gb228, 2, none⟩ = some (.int .i64 ((rd_T41 l1 x10_1).f2)) := (blk_cell BK228.out 2).trans rfl; have hfz30_0 := blk_frozen BK228.out 0; have hfz30_1 := blk_frozen BK228.out 1; have hfz30_2 := blk_frozen BK228.out 2) | (go_at_call 65; (with_reducible refine (impl_lawFrom.calls k2 a0_0 _ _ l0_1 _ _ l1 ((rd_T41 l1 x10_1).f1) x17_2 false _ ?side1 ?side2 ?side3 ?side4 A16.out).mono ?_); (case side1 => repeat (first | exact (Kd.C_below HR0_1.out HB.out) | (with_reducible refine Kd.C_alloc ?_ _) | (with_reducible refine Kd.C_drewN ?_ _) | (with_reducible refine Kd.C_drew ?_))); (case side2 => exact HC0_1.out); (case side3 => repeat (first | exact (Kd.C_below HR1.out HB.out) | (with_reducible refine Kd.C_alloc ?_ _) | (with_reducible refine Kd.C_drewN ?_ _) | (with_reducible refine Kd.C_drew ?_))); (case side4 => exact HC1.out); rintro e w31 ⟨rfl, hb⟩; have n0_ := Aside0.mk (blk_below (bz BK226) hb); have n1_ := Aside0.mk (blk_below (bz BK228) hb); have n2_ := Aside0.mk (below_step bh hb); clear BK226 BK228 HB; have BK226 := n0_; have BK228 := n1_; have HB := n2_; clear n0_ n1_ n2_; (try clear hb); (try clear hb2); (try clear hk); (try clear hi)))
            go_ret
            exact ⟨by first | rfl | (simp [errW_none, errW_some] <;> rfl) | (simp only [← hji8]; first | rfl | (simp [errW_none, errW_some] <;> rfl)) | (simp [*, errW_none, errW_some] <;> rfl), by exact bh⟩
          ·replace c15 := Bool.eq_false_iff.mpr c15
           subst c15
           have H1 : (impl_isSound.l1 k2 l1 l1 (l1.length : Int) x10_1 ji8 (wrap64 (x17_2 + 1)) a0_0 l0_1 ((rd_T41 l1 x10_1).f0) ((rd_T41 l1 x10_1).f1) ((rd_T41 l1 x10_1).f2)) = some r := by rw [if_neg (show ¬ (false = true) by decide)] at H; exact H
           clear H
           have H := H1
           clear H1
           have H' := Aside0.mk H
           clear H
           have hnb32 := NB226_228.out
           have hnc32 := NB228_226.out
           have hcz33_0 := cz0 BK226
           have hcz33_1 := cz1 BK226
           have hfz33_0 := blk_frozen BK226.out 0
           have hfz33_1 := blk_frozen BK226.out 1
           have hcz34_0 : wr.cell? ⟨gb228, 0, none⟩ = some (.slice A227_0 ((rd_T41 l1 x10_1).f0).length c227_0) := (blk_cell BK228.out 0).trans rfl
           have hcz34_1 : wr.cell? ⟨gb228, 1, none⟩ = some (.int .i64 ((rd_T41 l1 x10_1).f1)) := (blk_cell BK228.out 1).trans rfl
           have hcz34_2 : wr.cell? ⟨gb228, 2, none⟩ = some (.int .i64 ((rd_T41 l1 x10_1).f2)) := (blk_cell BK228.out 2).trans rfl
           have hfz34_0 := blk_frozen BK228.out 0
           have hfz34_1 := blk_frozen BK228.out 1
           have hfz34_2 := blk_frozen BK228.out 2
           go_wp2_with (first | ((with_reducible refine gate_callee (f := 65) rfl ?_); refine goesL_ (some 25) rfl rfl Try.func65 kr rfl #[.agg #[.int .i64 a0_0, .slice A0_1 l0_1.length c0_1], .slice (some ad227) l1.length c1, .int .i64 ((rd_T41 l1 x10_1).f2), .int .i64 x17_2] rfl lm ?_; (with_reducible refine (impl_lawFrom.calls k2 a0_0 _ _ l0_1 _ _ l1 ((rd_T41 l1 x10_1).f2) x17_2 false _ ?side1 ?side2 ?side3 ?side4 A14.out).mono ?_); (case side1 => repeat (first | exact (Kd.C_below HR0_1.out HB.out) | (with_reducible refine Kd.C_alloc ?_ _) | (with_reducible refine Kd.C_drewN ?_ _) | (with_reducible refine Kd.C_drew ?_))); (case side2 => exact HC0_1.out); (case side3 => repeat (first | exact (Kd.C_below HR1.out HB.out) | (with_reducible refine Kd.C_alloc ?_ _) | (with_reducible refine Kd.C_drewN ?_ _) | (with_reducible refine Kd.C_drew ?_))); (case side4 => exact HC1.out); rintro e w35 ⟨rfl, hb⟩; refine ⟨_, rfl, ?_⟩; have n0_ := Aside0.mk (blk_below (bz BK226) hb); have n1_ := Aside0.mk (blk_below (bz BK228) hb); have n2_ := Aside0.mk (below_step bh hb); clear BK226 BK228 HB; have BK226 := n0_; have BK228 := n1_; have HB := n2_; clear n0_ n1_ n2_; (try clear hb); (try clear hb2); (try clear hk); (try clear hi)))
           go_roundg k2
           case measure => have := HK1.out; have := HK2.out; omega
           case rel => exact ⟨(wrap64 (x17_2 + 1)), (by first | rfl | (simp; done) | (simp [*]; done)), H', ⟨by have := HK1.out; have := HK2.out; omega⟩, ⟨bz BK226⟩, ⟨bz BK228⟩, ⟨by exact bh⟩⟩
         ·rw [if_neg c13] at H
          have c13b0 : decide (x17_2 < ji8) = false := decide_eq_false c13
          clear c13
          have H' := Aside0.mk H
          clear H
          go_wp2
          go_roundg k2
          case measure => have := HK1.out; have := HK2.out; omega
          case rel => exact ⟨(wrap64 (x10_1 + 1)), (by first | rfl | (simp; done) | (simp [*]; done)), H', ⟨by have := HK1.out; have := HK2.out; omega⟩, ⟨bz BK226⟩, ⟨by exact bh⟩⟩
      ·rw [if_neg c7] at H
       exact absurd H (by simp)
     ·rw [if_neg c6] at H
      exact absurd H (by simp)
    ·rw [if_neg c5] at H
     exact absurd H (by simp)
   ·rw [if_neg c4] at H
    have c4b0 : decide (x10_1 < (l1.length : Int)) = false := decide_eq_false c4
    clear c4
    obtain rfl := Option.some.inj H
    go_wp2
    go_ret
    exact ⟨by first | rfl | (simp [errW_none, errW_some] <;> rfl) | (simp [*, errW_none, errW_some] <;> rfl), by exact bh⟩

end Go.Proofs.Ytnpjlpkbefdnlaa.QFnExactBillTerm
