-- Printed for this claim by a turned copy of the print (wip/myprint). Lean checks it. Squeezed. Worded. Tightened.
import Derived.Test.YtaddlahbahedeaaQFnSameConsentsx0
import Derived.Test.YtaddlahbahedeaaQFnSameConsentsx5
import Derived.Test.YtaddlahbahedeaaQFnSameConsentsx7
import Derived.Test.YtaddlahbahedeaaQFnSameConsentsx8
import Derived.Test.YtaddlahbahedeaaQFnSameConsentsx10
import Derived.Test.YtaddlahbahedeaaQFnSameConsentsx12
import Derived.Test.YtaddlahbahedeaaQFnSameConsentsx16
namespace Go.Proofs.Ytaddlahbahedeaa.QFnSameConsents
open Go.RowKit Go.Proofs.YtaddlahbahedeaaW.PrintWords Go.Proofs.YtaddlahbahedeaaW.PrintLast Go.Proofs.YtaddlahbahedeaaW.PrintMore
attribute [local go_sem] max2_int min2_int max_two min_two max_three min_three max_four min_four Opens.cell_twice   -- for this text's walks alone
set_option linter.unusedVariables false
set_option linter.unusedSimpArgs false

/-! ### impl_DualTerm: function 16 -/
def impl_DualTerm.f (k : Nat) (a0_0 : Int) (l0_1 : List Int) (l1 : List (S61)) : Option ((List (S61))) := (impl_isTerm.f k a0_0 l0_1 l1).bind fun t474 => (if t474 = true then ((impl_dualTerm.f k a0_0 l0_1 l1).bind fun t475 => (some t475)) else (some ([] : List (S61))))
theorem impl_DualTerm.mono : ∀ a0 a1 a2 k, LeO (impl_DualTerm.f k a0 a1 a2) (impl_DualTerm.f (k + 1) a0 a1 a2) := by
 intro a0 a1 a2 k
 unfold impl_DualTerm.f
 repeat' first
   | (with_reducible exact impl_dualTerm.mono _ _ _ _)
   | (with_reducible exact impl_isTerm.mono _ _ _ _)
   | (with_reducible exact LeO.refl _)
   | (with_reducible exact LeO.none _)
   | (with_reducible refine LeO.ite ?_ ?_)
   | (with_reducible refine LeO.bind ?_ (fun _ => ?_))
   | exact impl_dualTerm.mono _ _ _ _
   | exact impl_isTerm.mono _ _ _ _
   | exact LeO.none _
   | refine LeO.ite ?_ ?_
   | refine LeO.bind ?_ (fun _ => ?_)
set_option maxHeartbeats 8000000 in
set_option maxRecDepth 100000 in
theorem impl_DualTerm.calls (k : Nat) (a0_0 : Int) (A0_1 : Option Addr) (c0_1 : Nat) (l0_1 : List Int) (A1 : Option Addr) (c1 : Nat) (l1 : List (S61)) (r : List (S61)) (w : World) (hr0_1 : Kd.C (Kd.int .i64) w A0_1 l0_1.length l0_1) (hc0_1 : l0_1.length ≤ c0_1) (hr1 : Kd.C k61 w A1 l1.length l1) (hc1 : l1.length ≤ c1) (h : impl_DualTerm.f k a0_0 l0_1 l1 = some r) :
  Calls Try.prog 16 #[.agg #[.int .i64 a0_0, .slice A0_1 l0_1.length c0_1], .slice A1 l1.length c1] w fun e w' => ∃ v0_ : Value, e = .returned (v0_) ∧ Kd.R k61 61 w' w.heap.size (fun _ => True) v0_ r ∧ Below w.heap.size w w' := by
 have hu25 := Try.underlying25
 have HR0_1 := Aside0.mk hr0_1
 have HC0_1 := Aside0.mk hc0_1
 clear hr0_1 hc0_1
 have HR1 := Aside0.mk hr1
 have HC1 := Aside0.mk hc1
 clear hr1 hc1
 have HB := Aside0.mk (Below.refl w.heap.size w)
 have H : ((impl_isTerm.f k a0_0 l0_1 l1).bind fun t474 => (if t474 = true then ((impl_dualTerm.f k a0_0 l0_1 l1).bind fun t475 => (some t475)) else (some ([] : List (S61))))) = some r := h
 clear h
 replace H := Option.bind_eq_some_iff.mp H
 obtain ⟨t474, A30, H⟩ := H
 replace H : (if t474 = true then ((impl_dualTerm.f k a0_0 l0_1 l1).bind fun t475 => (some t475)) else (some ([] : List (S61)))) = some r := H
 have A3 := Aside0.mk A30
 clear A30
 by_cases c4 : t474 = true
 ·subst c4
  have H1 : ((impl_dualTerm.f k a0_0 l0_1 l1).bind fun t475 => (some t475)) = some r := by rw [if_pos rfl] at H; exact H
  clear H
  have H := H1
  clear H1
  replace H := Option.bind_eq_some_iff.mp H
  obtain ⟨t475, A50, H⟩ := H
  replace H : (some t475) = some r := H
  have A5 := Aside0.mk A50
  clear A50
  obtain rfl := Option.some.inj H
  go_enter Try.func16, Try.ntmps16
  go_wp2_with (first | ((with_reducible refine gate_dst (N := 2) rfl ?_); refine box_event ?hg (N := 2) ?hd (cs := #[.int .i64 a0_0, .slice A0_1 l0_1.length c0_1]) (t := 25) ?hr ?_; (case hd => rfl); (case hg => rfl); (case hr => first | (go_simp; done) | (go_simp; rfl)); intro gb473 hg w6 hbox hb; have n0_ := Aside0.mk (below_step bh hb); have n1_ := Aside0.mk (hbox); have n2_ := Aside0.mk ((gs (W0 := w) hg bh)); have n3_ := Aside0.mk ((gs (W0 := w) hg bh)); clear HB; have HB := n0_; have BK473 := n1_; have GW473 := n2_; have GE473 := n3_; clear n0_ n1_ n2_ n3_ hb hbox hg; have hcz7_0 := cz0 BK473; have hcz7_1 := cz1 BK473; have hfz7_0 := blk_frozen BK473.out 0; have hfz7_1 := blk_frozen BK473.out 1) | ((with_reducible refine gate_callee (f := 49) rfl ?_); refine goesL_ (some 7) rfl rfl Try.func49 kr rfl #[.agg #[.int .i64 a0_0, .slice A0_1 l0_1.length c0_1], .slice A1 l1.length c1] rfl lm ?_; (with_reducible refine (impl_isTerm.calls k a0_0 _ _ l0_1 _ _ l1 true _ ?side1 ?side2 ?side3 ?side4 A3.out).mono ?_); (case side1 => repeat (first | exact (Kd.C_below HR0_1.out HB.out) | (with_reducible refine Kd.C_alloc ?_ _) | (with_reducible refine Kd.C_drewN ?_ _) | (with_reducible refine Kd.C_drew ?_))); (case side2 => exact HC0_1.out); (case side3 => repeat (first | exact (Kd.C_below HR1.out HB.out) | (with_reducible refine Kd.C_alloc ?_ _) | (with_reducible refine Kd.C_drewN ?_ _) | (with_reducible refine Kd.C_drew ?_))); (case side4 => exact HC1.out); rintro e w8 ⟨rfl, hb⟩; refine ⟨_, rfl, ?_⟩; have n0_ := Aside0.mk (blk_below (bz BK473) hb); have n1_ := Aside0.mk (below_step bh hb); clear BK473 HB; have BK473 := n0_; have HB := n1_; clear n0_ n1_; (try clear hb); (try clear hb2); (try clear hk); (try clear hi); have hcz9_0 := cz0 BK473; have hcz9_1 := cz1 BK473; have hfz9_0 := blk_frozen BK473.out 0; have hfz9_1 := blk_frozen BK473.out 1) | ((with_reducible refine gate_callee (f := 57) rfl ?_); refine goesL_ (some 11) rfl rfl Try.func57 kr rfl #[.agg #[.int .i64 a0_0, .slice A0_1 l0_1.length c0_1], .slice A1 l1.length c1] rfl lm ?_; (with_reducible refine (impl_dualTerm.calls k a0_0 _ _ l0_1 _ _ l1 t475 _ ?side1 ?side2 ?side3 ?side4 A5.out).mono ?_); (case side1 => repeat (first | exact (Kd.C_below HR0_1.out HB.out) | (with_reducible refine Kd.C_alloc ?_ _) | (with_reducible refine Kd.C_drewN ?_ _) | (with_reducible refine Kd.C_drew ?_))); (case side2 => exact HC0_1.out); (case side3 => repeat (first | exact (Kd.C_below HR1.out HB.out) | (with_reducible refine Kd.C_alloc ?_ _) | (with_reducible refine Kd.C_drewN ?_ _) | (with_reducible refine Kd.C_drew ?_))); (case side4 => exact HC1.out); rintro e w10 ⟨v476, rfl, ho0, hb⟩; refine ⟨_, rfl, ?_⟩; have n0_ := Aside0.mk (Kd.R_lower ho0 (below_size bh)); have n1_ := Aside0.mk (blk_below (bz BK473) hb); have n2_ := Aside0.mk (below_step bh hb); clear BK473 HB; have HO477 := n0_; have BK473 := n1_; have HB := n2_; clear n0_ n1_ n2_; (try clear hb); (try clear hb2); (try clear hk); (try clear hi); (try clear ho0)))
  go_ret
  exact ⟨_, by first | rfl | (simp [errW_none, errW_some] <;> rfl) | (simp [*, errW_none, errW_some] <;> rfl), by (with_reducible repeat (first | apply Kd.R_alloc | apply Kd.R_drewN | apply Kd.R_drew)); exact HO477.out, by exact bh⟩
 ·replace c4 := Bool.eq_false_iff.mpr c4
  subst c4
  have H1 : (some ([] : List (S61))) = some r := by rw [if_neg (show ¬ (false = true) by decide)] at H; exact H
  clear H
  have H := H1
  clear H1
  obtain rfl := Option.some.inj H
  go_enter Try.func16, Try.ntmps16
  go_wp2_with (first | ((with_reducible refine gate_dst (N := 2) rfl ?_); refine box_event ?hg (N := 2) ?hd (cs := #[.int .i64 a0_0, .slice A0_1 l0_1.length c0_1]) (t := 25) ?hr ?_; (case hd => rfl); (case hg => rfl); (case hr => first | (go_simp; done) | (go_simp; rfl)); intro gb473 hg w11 hbox hb; have n0_ := Aside0.mk (below_step bh hb); have n1_ := Aside0.mk (hbox); have n2_ := Aside0.mk ((gs (W0 := w) hg bh)); have n3_ := Aside0.mk ((gs (W0 := w) hg bh)); clear HB; have HB := n0_; have BK473 := n1_; have GW473 := n2_; have GE473 := n3_; clear n0_ n1_ n2_ n3_ hb hbox hg; have hcz12_0 := cz0 BK473; have hcz12_1 := cz1 BK473; have hfz12_0 := blk_frozen BK473.out 0; have hfz12_1 := blk_frozen BK473.out 1) | ((with_reducible refine gate_callee (f := 49) rfl ?_); refine goesL_ (some 7) rfl rfl Try.func49 kr rfl #[.agg #[.int .i64 a0_0, .slice A0_1 l0_1.length c0_1], .slice A1 l1.length c1] rfl lm ?_; (with_reducible refine (impl_isTerm.calls k a0_0 _ _ l0_1 _ _ l1 false _ ?side1 ?side2 ?side3 ?side4 A3.out).mono ?_); (case side1 => repeat (first | exact (Kd.C_below HR0_1.out HB.out) | (with_reducible refine Kd.C_alloc ?_ _) | (with_reducible refine Kd.C_drewN ?_ _) | (with_reducible refine Kd.C_drew ?_))); (case side2 => exact HC0_1.out); (case side3 => repeat (first | exact (Kd.C_below HR1.out HB.out) | (with_reducible refine Kd.C_alloc ?_ _) | (with_reducible refine Kd.C_drewN ?_ _) | (with_reducible refine Kd.C_drew ?_))); (case side4 => exact HC1.out); rintro e w13 ⟨rfl, hb⟩; refine ⟨_, rfl, ?_⟩; have n0_ := Aside0.mk (blk_below (bz BK473) hb); have n1_ := Aside0.mk (below_step bh hb); clear BK473 HB; have BK473 := n0_; have HB := n1_; clear n0_ n1_; (try clear hb); (try clear hb2); (try clear hk); (try clear hi)))
  go_ret
  exact ⟨_, by first | rfl | (simp [errW_none, errW_some] <;> rfl) | (simp [*, errW_none, errW_some] <;> rfl), by first | exact Kd.R_nil _ _ _ _ _ | exact Kd.N_nil _ _ _ _ _ | exact Kd.V_nil _ _ _ _ _ | exact Kd.Q_nil _ _ _ _ _ | exact Kd.S_nil _ _ _ _ _, by exact bh⟩

/-! ### laws_FnSameConsents: function 3 -/
def laws_FnSameConsents.j0 : Nat → List (S61) → List (S61) → Bool → Bool → Int → List Int → Option (Bool)
 | 0, _, _, _, _, _, _ => none
 | k + 1, x4, x5, x6, x35, x489000, x489001 => if x35 = true then (if x6 = true then (none) else ((laws_alive.f).bind fun t493 => (some t493))) else ((impl_LeastConsents.f k x489000 x489001 x4).bind fun t494 => ((impl_LeastConsents.f k x489000 x489001 x5).bind fun t497 => ((laws_sameInts.f k t494 t497).bind fun t500 => (if (x6 == t500) = true then ((impl_DualTerm.f k x489000 x489001 x4).bind fun t501 => ((impl_DualTerm.f k x489000 x489001 x5).bind fun t504 => ((impl_SameConsents.f k x489000 x489001 t501 t504).bind fun t507 => (some (t507 == x6))))) else (none)))))
def laws_FnSameConsents.f (k : Nat) (l0 : List Int) : Option (Bool) := if (l0.length : Int) > 1048576 then (some true) else ((spec_DrawSameConsents.f k l0).bind fun bt478 => ((impl_SameConsents.f k bt478.1 bt478.2.1 bt478.2.2.1 bt478.2.2.2).bind fun t489 => ((spec_SameConsents.f k bt478.1 bt478.2.1 bt478.2.2.1 bt478.2.2.2).bind fun t490 => (if (t489 != t490) = true then (none) else ((spec_TermOk.f k bt478.1 bt478.2.1 bt478.2.2.1).bind fun t491 => (if t491 = true then ((spec_TermOk.f k bt478.1 bt478.2.1 bt478.2.2.2).bind fun t492 => (laws_FnSameConsents.j0 k bt478.2.2.1 bt478.2.2.2 t489 (!t492) bt478.1 bt478.2.1)) else (laws_FnSameConsents.j0 k bt478.2.2.1 bt478.2.2.2 t489 true bt478.1 bt478.2.1)))))))
theorem laws_FnSameConsents.mono_l : ∀ k, (∀ y0 y1 y2 y3 y4 y5, LeO (laws_FnSameConsents.j0 k y0 y1 y2 y3 y4 y5) (laws_FnSameConsents.j0 (k + 1) y0 y1 y2 y3 y4 y5))
 | 0 => fun _ _ _ _ _ _ r h => by simp [laws_FnSameConsents.j0] at h
 | k + 1 => by
  have ih0 := laws_FnSameConsents.mono_l k
  ·intro y0 y1 y2 y3 y4 y5
   unfold laws_FnSameConsents.j0
   repeat' first
   | (with_reducible exact ih0 _ _ _ _ _ _)
   | (with_reducible exact impl_DualTerm.mono _ _ _ _)
   | (with_reducible exact impl_LeastConsents.mono _ _ _ _)
   | (with_reducible exact impl_SameConsents.mono _ _ _ _ _)
   | (with_reducible exact laws_sameInts.mono _ _ _)
   | (with_reducible exact spec_DrawSameConsents.mono _ _)
   | (with_reducible exact spec_SameConsents.mono _ _ _ _ _)
   | (with_reducible exact spec_TermOk.mono _ _ _ _)
   | (with_reducible exact LeO.refl _)
   | (with_reducible exact LeO.none _)
   | (with_reducible refine LeO.ite ?_ ?_)
   | (with_reducible refine LeO.bind ?_ (fun _ => ?_))
   | exact ih0 _ _ _ _ _ _
   | exact impl_DualTerm.mono _ _ _ _
   | exact impl_LeastConsents.mono _ _ _ _
   | exact impl_SameConsents.mono _ _ _ _ _
   | exact laws_sameInts.mono _ _ _
   | exact spec_DrawSameConsents.mono _ _
   | exact spec_SameConsents.mono _ _ _ _ _
   | exact spec_TermOk.mono _ _ _ _
   | exact LeO.none _
   | refine LeO.ite ?_ ?_
   | refine LeO.bind ?_ (fun _ => ?_)
theorem laws_FnSameConsents.mono : ∀ a0 k, LeO (laws_FnSameConsents.f k a0) (laws_FnSameConsents.f (k + 1) a0) := by
 intro a0 k
 have ih0 := laws_FnSameConsents.mono_l k
 unfold laws_FnSameConsents.f
 repeat' first
   | (with_reducible exact ih0 _ _ _ _ _ _)
   | (with_reducible exact impl_DualTerm.mono _ _ _ _)
   | (with_reducible exact impl_LeastConsents.mono _ _ _ _)
   | (with_reducible exact impl_SameConsents.mono _ _ _ _ _)
   | (with_reducible exact laws_sameInts.mono _ _ _)
   | (with_reducible exact spec_DrawSameConsents.mono _ _)
   | (with_reducible exact spec_SameConsents.mono _ _ _ _ _)
   | (with_reducible exact spec_TermOk.mono _ _ _ _)
   | (with_reducible exact LeO.refl _)
   | (with_reducible exact LeO.none _)
   | (with_reducible refine LeO.ite ?_ ?_)
   | (with_reducible refine LeO.bind ?_ (fun _ => ?_))
   | exact ih0 _ _ _ _ _ _
   | exact impl_DualTerm.mono _ _ _ _
   | exact impl_LeastConsents.mono _ _ _ _
   | exact impl_SameConsents.mono _ _ _ _ _
   | exact laws_sameInts.mono _ _ _
   | exact spec_DrawSameConsents.mono _ _
   | exact spec_SameConsents.mono _ _ _ _ _
   | exact spec_TermOk.mono _ _ _ _
   | exact LeO.none _
   | refine LeO.ite ?_ ?_
   | refine LeO.bind ?_ (fun _ => ?_)
def laws_FnSameConsents.T9 : Bool × List (List Nat × List Nat) := (true, [([], []), ([], []), ([], []), ([1, 2], [1, 2]), ([], []), ([], []), ([4, 5, 3], [4, 5]), ([3, 6, 6], [3, 6]), ([0, 7], [0, 7]), ([8, 7], [8]), ([9], [9]), ([9], [9]), ([9], [9]), ([11, 12, 9, 9], [9, 11, 12]), ([9], [9]), ([9], [9]), ([14, 15, 13, 9], [9, 14, 15]), ([10, 13, 16, 16, 9], [9, 10, 13, 16]), ([9], [9]), ([17, 18, 9], [9, 17, 18]), ([9, 19], [9, 19]), ([20, 17, 0, 1, 2, 3, 4, 5, 6, 7, 8, 9, 10, 11, 12, 13, 14, 15, 16, 17, 18, 19, 20], [20])])
def laws_FnSameConsents.B9 : List Nat := [0, 0, 0, 6, 0, 0, 62, 126, 255, 511, 1023, 1023, 1023, 7167, 1023, 1023, 64511, 131071, 1023, 524287, 1048575, 2097151]
theorem laws_FnSameConsents.tab9 : rtab .any (opsOf Try.f3 9) = laws_FnSameConsents.T9 := by kernel_rfl
theorem laws_FnSameConsents.bits9 : waitsOk laws_FnSameConsents.T9.2 laws_FnSameConsents.B9 = true := by kernel_rfl
set_option maxHeartbeats 8000000 in
set_option maxRecDepth 100000 in
theorem laws_FnSameConsents.calls (k : Nat) (A0 : Option Addr) (c0 : Nat) (l0 : List Int) (r : Bool) (w : World) (hr0 : Kd.C (Kd.int .u8) w A0 l0.length l0) (hc0 : l0.length ≤ c0) (h : laws_FnSameConsents.f k l0 = some r) :
  Calls Try.prog 3 #[.slice A0 l0.length c0] w fun e w' => e = .returned (.bool r) ∧ Below w.heap.size w w' := by
 have hu25 := Try.underlying25
 have HR0 := Aside0.mk hr0
 have HC0 := Aside0.mk hc0
 clear hr0 hc0
 have HB := Aside0.mk (Below.refl w.heap.size w)
 have H : (if (l0.length : Int) > 1048576 then (some true) else ((spec_DrawSameConsents.f k l0).bind fun bt478 => ((impl_SameConsents.f k bt478.1 bt478.2.1 bt478.2.2.1 bt478.2.2.2).bind fun t489 => ((spec_SameConsents.f k bt478.1 bt478.2.1 bt478.2.2.1 bt478.2.2.2).bind fun t490 => (if (t489 != t490) = true then (none) else ((spec_TermOk.f k bt478.1 bt478.2.1 bt478.2.2.1).bind fun t491 => (if t491 = true then ((spec_TermOk.f k bt478.1 bt478.2.1 bt478.2.2.2).bind fun t492 => (laws_FnSameConsents.j0 k bt478.2.2.1 bt478.2.2.2 t489 (!t492) bt478.1 bt478.2.1)) else (laws_FnSameConsents.j0 k bt478.2.2.1 bt478.2.2.2 t489 true bt478.1 bt478.2.1)))))))) = some r := h
 clear h
 by_cases c2 : (l0.length : Int) > 1048576
 ·rw [if_pos c2] at H
  have c2b0 : decide (1048576 < (l0.length : Int)) = true := decide_eq_true c2
  have c2b1 : decide (1048576 < l0.length) = true := decide_eq_true (by omega)
  clear c2
  obtain rfl := Option.some.inj H
  go_enter Try.func3, Try.ntmps3
  go_wp2
  go_ret
  exact ⟨by first | rfl | (simp [errW_none, errW_some] <;> rfl) | (simp [*, errW_none, errW_some] <;> rfl), by exact bh⟩
 ·rw [if_neg c2] at H
  have c2b0 : decide (1048576 < (l0.length : Int)) = false := decide_eq_false c2
  have c2b1 : decide (1048576 < l0.length) = false := decide_eq_false (by omega)
  clear c2
  replace H := Option.bind_eq_some_iff.mp H
  obtain ⟨⟨t478, t479, t482, t485⟩, A30, H⟩ := H
  replace H : ((impl_SameConsents.f k t478 t479 t482 t485).bind fun t489 => ((spec_SameConsents.f k t478 t479 t482 t485).bind fun t490 => (if (t489 != t490) = true then (none) else ((spec_TermOk.f k t478 t479 t482).bind fun t491 => (if t491 = true then ((spec_TermOk.f k t478 t479 t485).bind fun t492 => (laws_FnSameConsents.j0 k t482 t485 t489 (!t492) t478 t479)) else (laws_FnSameConsents.j0 k t482 t485 t489 true t478 t479)))))) = some r := H
  have A3 := Aside0.mk A30
  clear A30
  replace H := Option.bind_eq_some_iff.mp H
  obtain ⟨t489, A40, H⟩ := H
  replace H : ((spec_SameConsents.f k t478 t479 t482 t485).bind fun t490 => (if (t489 != t490) = true then (none) else ((spec_TermOk.f k t478 t479 t482).bind fun t491 => (if t491 = true then ((spec_TermOk.f k t478 t479 t485).bind fun t492 => (laws_FnSameConsents.j0 k t482 t485 t489 (!t492) t478 t479)) else (laws_FnSameConsents.j0 k t482 t485 t489 true t478 t479))))) = some r := H
  have A4 := Aside0.mk A40
  clear A40
  replace H := Option.bind_eq_some_iff.mp H
  obtain ⟨t490, A50, H⟩ := H
  replace H : (if (t489 != t490) = true then (none) else ((spec_TermOk.f k t478 t479 t482).bind fun t491 => (if t491 = true then ((spec_TermOk.f k t478 t479 t485).bind fun t492 => (laws_FnSameConsents.j0 k t482 t485 t489 (!t492) t478 t479)) else (laws_FnSameConsents.j0 k t482 t485 t489 true t478 t479)))) = some r := H
  have A5 := Aside0.mk A50
  clear A50
  by_cases c6 : (t489 != t490) = true
  ·rw [if_pos c6] at H
   exact absurd H (by simp)
  ·rw [if_neg c6] at H
   have c6b0 : (t489 != t490) = false := by simpa using c6
   (try (have c6b1 : decide (t489 = t490) = true := by simpa using c6))
   (try (have c6b2 : (t489 == t490) = true := by simpa using c6))
   clear c6
   have HC7 := Aside0.mk H
   clear H
   go_enter Try.func3, Try.ntmps3
   go_upto_region 7 with (first | ((with_reducible refine gate_callee (f := 9) rfl ?_); refine goesL_ (some 12) rfl rfl Try.func9 kr rfl #[.slice A0 l0.length c0] rfl lm ?_; (with_reducible refine (spec_DrawSameConsents.calls k _ _ l0 t478 t479 t482 t485 _ ?side1 ?side2 A3.out).mono ?_); (case side1 => repeat (first | exact HR0.out | (with_reducible refine Kd.C_alloc ?_ _) | (with_reducible refine Kd.C_drewN ?_ _) | (with_reducible refine Kd.C_drew ?_))); (case side2 => exact HC0.out); rintro e w8 ⟨v480, v483, v486, rfl, ho0, ho1, ho2, hb⟩; refine ⟨_, rfl, ?_⟩; have n0_ := Aside0.mk (Kd.R_lower (Kd.R_mono (ok' := fun k_ => True) ho0 (fun _ hk_ => trivial)) (below_size bh)); have n1_ := Aside0.mk (Kd.V_lower (Kd.V_mono (ok' := fun k_ => some k_ ≠ (v480 : Value).ownBlock) ho1 (fun k_ hk_ => hk_.2)) (below_size bh)); have n2_ := Aside0.mk (Kd.V_lower (Kd.V_mono (ok' := fun k_ => some k_ ≠ (v480 : Value).ownBlock) ho2 (fun k_ hk_ => hk_.2)) (below_size bh)); have n3_ := Aside0.mk (below_step bh hb); clear HB; have HO481 := n0_; have HO484 := n1_; have HO487 := n2_; have HB := n3_; clear n0_ n1_ n2_ n3_; (try clear hb); (try clear hb2); (try clear hk); (try clear hi); (try clear ho0); (try clear ho1); (try clear ho2)) | ((with_reducible refine gate_dst (N := 3) rfl ?_); refine box_event ?hg (N := 3) ?hd (cs := #[.int .i64 0, .slice none 0 0]) (t := 25) ?hr ?_; (case hd => rfl); (case hg => rfl); (case hr => first | (go_simp; done) | (go_simp; rfl)); intro gb488 hg w9 hbox hb; have n0_ := Aside0.mk (Kd.R_below (rz HO481) hb); have n1_ := Aside0.mk (Kd.V_below (Kd.V_elderB (vz HO484) gb488 (Nat.le_of_eq hg.symm)) hb); have n2_ := Aside0.mk (Kd.V_below (Kd.V_elderB (vz HO487) gb488 (Nat.le_of_eq hg.symm)) hb); have n3_ := Aside0.mk (below_step bh hb); have n4_ := Aside0.mk (hbox); have n5_ := Aside0.mk ((gs (W0 := w) hg bh)); have n6_ := Aside0.mk ((gs (W0 := w) hg bh)); clear HO481 HO484 HO487 HB; have HO481 := n0_; have HO484 := n1_; have HO487 := n2_; have HB := n3_; have BK488 := n4_; have GW488 := n5_; have GE488 := n6_; clear n0_ n1_ n2_ n3_ n4_ n5_ n6_ hb hbox hg; have hcz10_0 := cz0 BK488; have hcz10_1 := cz1 BK488; have hfz10_0 := blk_frozen BK488.out 0; have hfz10_1 := blk_frozen BK488.out 1; obtain ⟨Ao11, co11, eo11⟩ := Kd.R_slice HO481.out; subst eo11; obtain ⟨Ao12, co12, eo12⟩ := Kd.V_slice HO484.out; subst eo12; obtain ⟨Ao13, co13, eo13⟩ := Kd.V_slice HO487.out; subst eo13) | ((with_reducible refine gate_callee (f := 10) rfl ?_); refine goesL_ (some 19) rfl rfl Try.func10 kr rfl #[.agg #[.int .i64 t478, .slice Ao11 t479.length co11], .slice Ao12 t482.length co12, .slice Ao13 t485.length co13] rfl lm ?_; (with_reducible refine (impl_SameConsents.calls k t478 _ _ t479 _ _ t482 _ _ t485 t489 _ ?side1 ?side2 ?side3 ?side4 ?side5 ?side6 A4.out).mono ?_); (case side1 => refine (Kd.R_reads' (e := 3) (base := w.heap.size) (ok := fun k_ => True) (n := t479.length) (c := co11) ?_).2.2; exact (fR HO481 BK488)); (case side2 => exact (Kd.R_reads' HO481.out).2.1); (case side3 => refine (Kd.V_reads' (e := 61) (base := w.heap.size) (ok := fun k_ => (some k_ ≠ (.slice Ao11 t479.length co11 : Value).ownBlock ∧ k_ ≠ gb488)) (n := t482.length) (c := co12) ?_).2.2; exact (uV HO484 (fun _ hk => hk.2))); (case side4 => exact (Kd.V_reads' HO484.out).2.1); (case side5 => refine (Kd.V_reads' (e := 61) (base := w.heap.size) (ok := fun k_ => (some k_ ≠ (.slice Ao11 t479.length co11 : Value).ownBlock ∧ k_ ≠ gb488)) (n := t485.length) (c := co13) ?_).2.2; exact (uV HO487 (fun _ hk => hk.2))); (case side6 => exact (Kd.V_reads' HO487.out).2.1); rintro e w14 ⟨rfl, hb⟩; refine ⟨_, rfl, ?_⟩; have n0_ := Aside0.mk (Kd.R_below (fR HO481 BK488) hb); have n1_ := Aside0.mk (Kd.V_below (uV HO484 (fun _ hk => hk.2)) hb); have n2_ := Aside0.mk (Kd.V_below (uV HO487 (fun _ hk => hk.2)) hb); have n3_ := Aside0.mk (blk_below (g := gb488) (o := .cells #[.int .i64 t478, .slice Ao11 t479.length co11] 25 (0, 0)) (bp BK488) hb); have n4_ := Aside0.mk (below_step bh hb); clear HO481 HO484 HO487 BK488 HB; have HO481 := n0_; have HO484 := n1_; have HO487 := n2_; have BK488 := n3_; have HB := n4_; clear n0_ n1_ n2_ n3_ n4_; (try clear hb); (try clear hb2); (try clear hk); (try clear hi); have hcz15_0 := cz0 BK488; have hcz15_1 := cz1 BK488; have hfz15_0 := blk_frozen BK488.out 0; have hfz15_1 := blk_frozen BK488.out 1) | ((with_reducible refine gate_callee (f := 11) rfl ?_); refine goesL_ (some 24) rfl rfl Try.func11 kr rfl #[.agg #[.int .i64 t478, .slice Ao11 t479.length co11], .slice Ao12 t482.length co12, .slice Ao13 t485.length co13] rfl lm ?_; (with_reducible refine (spec_SameConsents.calls k t478 _ _ t479 _ _ t482 _ _ t485 t490 _ ?side1 ?side2 ?side3 ?side4 ?side5 ?side6 A5.out).mono ?_); (case side1 => repeat (first | exact (Kd.R_reads' HO481.out).2.2 | (with_reducible refine Kd.C_alloc ?_ _) | (with_reducible refine Kd.C_drewN ?_ _) | (with_reducible refine Kd.C_drew ?_))); (case side2 => exact (Kd.R_reads' HO481.out).2.1); (case side3 => repeat (first | exact (Kd.V_reads' HO484.out).2.2 | (with_reducible refine Kd.C_alloc ?_ _) | (with_reducible refine Kd.C_drewN ?_ _) | (with_reducible refine Kd.C_drew ?_))); (case side4 => exact (Kd.V_reads' HO484.out).2.1); (case side5 => repeat (first | exact (Kd.V_reads' HO487.out).2.2 | (with_reducible refine Kd.C_alloc ?_ _) | (with_reducible refine Kd.C_drewN ?_ _) | (with_reducible refine Kd.C_drew ?_))); (case side6 => exact (Kd.V_reads' HO487.out).2.1); rintro e w16 ⟨rfl, hb⟩; refine ⟨_, rfl, ?_⟩; have n0_ := Aside0.mk (Kd.R_below (rz HO481) hb); have n1_ := Aside0.mk (Kd.V_below (vz HO484) hb); have n2_ := Aside0.mk (Kd.V_below (vz HO487) hb); have n3_ := Aside0.mk (blk_below (bz BK488) hb); have n4_ := Aside0.mk (below_step bh hb); clear HO481 HO484 HO487 BK488 HB; have HO481 := n0_; have HO484 := n1_; have HO487 := n2_; have BK488 := n3_; have HB := n4_; clear n0_ n1_ n2_ n3_ n4_; (try clear hb); (try clear hb2); (try clear hk); (try clear hi)))
   (try simp only [Act.put, List.setIfInBounds_toArray, List.set_cons_zero, List.set_cons_succ])
   go_cut [35] (fun v35 wc => ∃ (kq : Nat) (x35_6 : Bool), v35 = .bool x35_6 ∧ Aside0 (laws_FnSameConsents.j0 kq t482 t485 t489 x35_6 t478 t479 = some r) ∧ Aside0 (kq ≤ k) ∧ Aside0 (Kd.V k61 61 wc w.heap.size (fun k_ => some k_ ≠ ((.slice Ao11 t479.length co11) : Value).ownBlock ∧ k_ ≠ gb488) (.slice Ao12 t482.length co12) t482) ∧ Aside0 (Kd.V k61 61 wc w.heap.size (fun k_ => some k_ ≠ ((.slice Ao11 t479.length co11) : Value).ownBlock ∧ k_ ≠ gb488) (.slice Ao13 t485.length co13) t485) ∧ Aside0 (Kd.R (Kd.int .i64) 3 wc w.heap.size (fun _ => True) (.slice Ao11 t479.length co11) t479) ∧ Aside0 (wc.heap[gb488]? = some (.cells #[.int .i64 t478, (.slice Ao11 t479.length co11)] 25 (0, 0))) ∧ Aside0 (Below w.heap.size w wc))
   case first =>
    have H := HC7.out
    clear HC7
    replace H := Option.bind_eq_some_iff.mp H
    obtain ⟨t491, A170, H⟩ := H
    replace H : (if t491 = true then ((spec_TermOk.f k t478 t479 t485).bind fun t492 => (laws_FnSameConsents.j0 k t482 t485 t489 (!t492) t478 t479)) else (laws_FnSameConsents.j0 k t482 t485 t489 true t478 t479)) = some r := H
    have A17 := Aside0.mk A170
    clear A170
    by_cases c18 : t491 = true
    ·subst c18
     have H1 : ((spec_TermOk.f k t478 t479 t485).bind fun t492 => (laws_FnSameConsents.j0 k t482 t485 t489 (!t492) t478 t479)) = some r := by rw [if_pos rfl] at H; exact H
     clear H
     have H := H1
     clear H1
     replace H := Option.bind_eq_some_iff.mp H
     obtain ⟨t492, A190, H⟩ := H
     replace H : (laws_FnSameConsents.j0 k t482 t485 t489 (!t492) t478 t479) = some r := H
     have A19 := Aside0.mk A190
     clear A190
     have H' := Aside0.mk H
     clear H
     have hcz20_0 := cz0 BK488
     have hcz20_1 := cz1 BK488
     have hfz20_0 := blk_frozen BK488.out 0
     have hfz20_1 := blk_frozen BK488.out 1
     go_wp2_with (first | ((with_reducible refine gate_callee (f := 12) rfl ?_); refine goesL_ (some 28) rfl rfl Try.func12 kr rfl #[.agg #[.int .i64 t478, .slice Ao11 t479.length co11], .slice Ao12 t482.length co12] rfl lm ?_; (with_reducible refine (spec_TermOk.calls k t478 _ _ t479 _ _ t482 true _ ?side1 ?side2 ?side3 ?side4 A17.out).mono ?_); (case side1 => repeat (first | exact (Kd.R_reads' HO481.out).2.2 | (with_reducible refine Kd.C_alloc ?_ _) | (with_reducible refine Kd.C_drewN ?_ _) | (with_reducible refine Kd.C_drew ?_))); (case side2 => exact (Kd.R_reads' HO481.out).2.1); (case side3 => repeat (first | exact (Kd.V_reads' HO484.out).2.2 | (with_reducible refine Kd.C_alloc ?_ _) | (with_reducible refine Kd.C_drewN ?_ _) | (with_reducible refine Kd.C_drew ?_))); (case side4 => exact (Kd.V_reads' HO484.out).2.1); rintro e w21 ⟨rfl, hb⟩; refine ⟨_, rfl, ?_⟩; have n0_ := Aside0.mk (Kd.R_below (rz HO481) hb); have n1_ := Aside0.mk (Kd.V_below (vz HO484) hb); have n2_ := Aside0.mk (Kd.V_below (vz HO487) hb); have n3_ := Aside0.mk (blk_below (bz BK488) hb); have n4_ := Aside0.mk (below_step bh hb); clear HO481 HO484 HO487 BK488 HB; have HO481 := n0_; have HO484 := n1_; have HO487 := n2_; have BK488 := n3_; have HB := n4_; clear n0_ n1_ n2_ n3_ n4_; (try clear hb); (try clear hb2); (try clear hk); (try clear hi); have hcz22_0 := cz0 BK488; have hcz22_1 := cz1 BK488; have hfz22_0 := blk_frozen BK488.out 0; have hfz22_1 := blk_frozen BK488.out 1) | (go_at_call 12; (with_reducible refine (spec_TermOk.calls k t478 _ _ t479 _ _ t485 t492 _ ?side1 ?side2 ?side3 ?side4 A19.out).mono ?_); (case side1 => repeat (first | exact (Kd.R_reads' HO481.out).2.2 | (with_reducible refine Kd.C_alloc ?_ _) | (with_reducible refine Kd.C_drewN ?_ _) | (with_reducible refine Kd.C_drew ?_))); (case side2 => exact (Kd.R_reads' HO481.out).2.1); (case side3 => repeat (first | exact (Kd.V_reads' HO487.out).2.2 | (with_reducible refine Kd.C_alloc ?_ _) | (with_reducible refine Kd.C_drewN ?_ _) | (with_reducible refine Kd.C_drew ?_))); (case side4 => exact (Kd.V_reads' HO487.out).2.1); rintro e w23 ⟨rfl, hb⟩; have n0_ := Aside0.mk (Kd.R_below (rz HO481) hb); have n1_ := Aside0.mk (Kd.V_below (vz HO484) hb); have n2_ := Aside0.mk (Kd.V_below (vz HO487) hb); have n3_ := Aside0.mk (blk_below (bz BK488) hb); have n4_ := Aside0.mk (below_step bh hb); clear HO481 HO484 HO487 BK488 HB; have HO481 := n0_; have HO484 := n1_; have HO487 := n2_; have BK488 := n3_; have HB := n4_; clear n0_ n1_ n2_ n3_ n4_; (try clear hb); (try clear hb2); (try clear hk); (try clear hi)))
     go_meet
     case rel => exact ⟨_, (!t492), (by first | rfl | (simp; done) | (simp [*]; done)), H', ⟨by first | omega | exact Nat.le_refl _⟩, ⟨vz HO484⟩, ⟨vz HO487⟩, ⟨rz HO481⟩, ⟨bz BK488⟩, ⟨by exact bh⟩⟩
    ·replace c18 := Bool.eq_false_iff.mpr c18
     subst c18
     have H1 : (laws_FnSameConsents.j0 k t482 t485 t489 true t478 t479) = some r := by rw [if_neg (show ¬ (false = true) by decide)] at H; exact H
     clear H
     have H := H1
     clear H1
     have H' := Aside0.mk H
     clear H
     have hcz24_0 := cz0 BK488
     have hcz24_1 := cz1 BK488
     have hfz24_0 := blk_frozen BK488.out 0
     have hfz24_1 := blk_frozen BK488.out 1
     go_wp2_with (first | ((with_reducible refine gate_callee (f := 12) rfl ?_); refine goesL_ (some 28) rfl rfl Try.func12 kr rfl #[.agg #[.int .i64 t478, .slice Ao11 t479.length co11], .slice Ao12 t482.length co12] rfl lm ?_; (with_reducible refine (spec_TermOk.calls k t478 _ _ t479 _ _ t482 false _ ?side1 ?side2 ?side3 ?side4 A17.out).mono ?_); (case side1 => repeat (first | exact (Kd.R_reads' HO481.out).2.2 | (with_reducible refine Kd.C_alloc ?_ _) | (with_reducible refine Kd.C_drewN ?_ _) | (with_reducible refine Kd.C_drew ?_))); (case side2 => exact (Kd.R_reads' HO481.out).2.1); (case side3 => repeat (first | exact (Kd.V_reads' HO484.out).2.2 | (with_reducible refine Kd.C_alloc ?_ _) | (with_reducible refine Kd.C_drewN ?_ _) | (with_reducible refine Kd.C_drew ?_))); (case side4 => exact (Kd.V_reads' HO484.out).2.1); rintro e w25 ⟨rfl, hb⟩; refine ⟨_, rfl, ?_⟩; have n0_ := Aside0.mk (Kd.R_below (rz HO481) hb); have n1_ := Aside0.mk (Kd.V_below (vz HO484) hb); have n2_ := Aside0.mk (Kd.V_below (vz HO487) hb); have n3_ := Aside0.mk (blk_below (bz BK488) hb); have n4_ := Aside0.mk (below_step bh hb); clear HO481 HO484 HO487 BK488 HB; have HO481 := n0_; have HO484 := n1_; have HO487 := n2_; have BK488 := n3_; have HB := n4_; clear n0_ n1_ n2_ n3_ n4_; (try clear hb); (try clear hb2); (try clear hk); (try clear hi)))
     go_meet
     case rel => exact ⟨_, (true), (by first | rfl | (simp; done) | (simp [*]; done)), H', ⟨by first | omega | exact Nat.le_refl _⟩, ⟨vz HO484⟩, ⟨vz HO487⟩, ⟨rz HO481⟩, ⟨bz BK488⟩, ⟨by exact bh⟩⟩
   case rest =>
    clear HC7
    try clear c1
    try clear c2
    try clear c2b0
    try clear c2b1
    try clear p2
    try clear c3
    try clear c6
    try clear c6b0
    try clear c6b1
    try clear c6b2
    try clear c9
    try clear c10
    try clear c11
    try clear c12
    try clear c18
    try clear hcz10_0
    try clear hcz10_1
    try clear hcz15_0
    try clear hcz15_1
    try clear hcz20_0
    try clear hcz20_1
    try clear hcz22_0
    try clear hcz22_1
    try clear hcz24_0
    try clear hcz24_1
    try clear hfz10_0
    try clear hfz10_1
    try clear hfz15_0
    try clear hfz15_1
    try clear hfz20_0
    try clear hfz20_1
    try clear hfz22_0
    try clear hfz22_1
    try clear hfz24_0
    try clear hfz24_1
    obtain ⟨kq, x35_6, rfl, HA, HJ6, HO_4, HO_5, HO_489001, BK488, HB⟩ := hcut
    cases kq with
    | zero => exact absurd HA.out (by simp [laws_FnSameConsents.j0])
    | succ kj6 =>
     have H := HA.out
     clear HA
     simp only [laws_FnSameConsents.j0] at H
     by_cases c26 : x35_6 = true
     ·subst c26
      have H1 : (if t489 = true then (none) else ((laws_alive.f).bind fun t493 => (some t493))) = some r := by rw [if_pos rfl] at H; exact H
      clear H
      have H := H1
      clear H1
      by_cases c27 : t489 = true
      ·subst c27
       have H1 : (none) = some r := by rw [if_pos rfl] at H; exact H
       clear H
       have H := H1
       clear H1
       exact absurd H (by simp)
      ·replace c27 := Bool.eq_false_iff.mpr c27
       subst c27
       have H1 : ((laws_alive.f).bind fun t493 => (some t493)) = some r := by rw [if_neg (show ¬ (false = true) by decide)] at H; exact H
       clear H
       have H := H1
       clear H1
       replace H := Option.bind_eq_some_iff.mp H
       obtain ⟨t493, A280, H⟩ := H
       replace H : (some t493) = some r := H
       have A28 := Aside0.mk A280
       clear A280
       obtain rfl := Option.some.inj H
       go_wp2_with (first | (go_at_call 13; (with_reducible refine (laws_alive.calls  t493 _ A28.out).mono ?_); rintro e w' ⟨rfl, ⟨nd, rfl⟩⟩))
       go_ret
       exact ⟨by first | rfl | (simp [errW_none, errW_some] <;> rfl) | (simp [*, errW_none, errW_some] <;> rfl), by exact bh⟩
     ·replace c26 := Bool.eq_false_iff.mpr c26
      subst c26
      have H1 : ((impl_LeastConsents.f kj6 t478 t479 t482).bind fun t494 => ((impl_LeastConsents.f kj6 t478 t479 t485).bind fun t497 => ((laws_sameInts.f kj6 t494 t497).bind fun t500 => (if (t489 == t500) = true then ((impl_DualTerm.f kj6 t478 t479 t482).bind fun t501 => ((impl_DualTerm.f kj6 t478 t479 t485).bind fun t504 => ((impl_SameConsents.f kj6 t478 t479 t501 t504).bind fun t507 => (some (t507 == t489))))) else (none))))) = some r := by rw [if_neg (show ¬ (false = true) by decide)] at H; exact H
      clear H
      have H := H1
      clear H1
      replace H := Option.bind_eq_some_iff.mp H
      obtain ⟨t494, A290, H⟩ := H
      replace H : ((impl_LeastConsents.f kj6 t478 t479 t485).bind fun t497 => ((laws_sameInts.f kj6 t494 t497).bind fun t500 => (if (t489 == t500) = true then ((impl_DualTerm.f kj6 t478 t479 t482).bind fun t501 => ((impl_DualTerm.f kj6 t478 t479 t485).bind fun t504 => ((impl_SameConsents.f kj6 t478 t479 t501 t504).bind fun t507 => (some (t507 == t489))))) else (none)))) = some r := H
      have A29 := Aside0.mk A290
      clear A290
      replace H := Option.bind_eq_some_iff.mp H
      obtain ⟨t497, A300, H⟩ := H
      replace H : ((laws_sameInts.f kj6 t494 t497).bind fun t500 => (if (t489 == t500) = true then ((impl_DualTerm.f kj6 t478 t479 t482).bind fun t501 => ((impl_DualTerm.f kj6 t478 t479 t485).bind fun t504 => ((impl_SameConsents.f kj6 t478 t479 t501 t504).bind fun t507 => (some (t507 == t489))))) else (none))) = some r := H
      have A30 := Aside0.mk A300
      clear A300
      replace H := Option.bind_eq_some_iff.mp H
      obtain ⟨t500, A310, H⟩ := H
      replace H : (if (t489 == t500) = true then ((impl_DualTerm.f kj6 t478 t479 t482).bind fun t501 => ((impl_DualTerm.f kj6 t478 t479 t485).bind fun t504 => ((impl_SameConsents.f kj6 t478 t479 t501 t504).bind fun t507 => (some (t507 == t489))))) else (none)) = some r := H
      have A31 := Aside0.mk A310
      clear A310
      by_cases c32 : (t489 == t500) = true
      ·rw [if_pos c32] at H
       have c32b0 : (t489 == t500) = true := c32
       (try (have c32b1 : decide (t489 = t500) = true := by simpa using c32))
       (try (have c32b2 : (t489 == t500) = true := by simpa using c32))
       clear c32
       replace H := Option.bind_eq_some_iff.mp H
       obtain ⟨t501, A330, H⟩ := H
       replace H : ((impl_DualTerm.f kj6 t478 t479 t485).bind fun t504 => ((impl_SameConsents.f kj6 t478 t479 t501 t504).bind fun t507 => (some (t507 == t489)))) = some r := H
       have A33 := Aside0.mk A330
       clear A330
       replace H := Option.bind_eq_some_iff.mp H
       obtain ⟨t504, A340, H⟩ := H
       replace H : ((impl_SameConsents.f kj6 t478 t479 t501 t504).bind fun t507 => (some (t507 == t489))) = some r := H
       have A34 := Aside0.mk A340
       clear A340
       replace H := Option.bind_eq_some_iff.mp H
       obtain ⟨t507, A350, H⟩ := H
       replace H : (some (t507 == t489)) = some r := H
       have A35 := Aside0.mk A350
       clear A350
       obtain rfl := Option.some.inj H
       try go_wp2
       have n0_ := Aside0.mk (Kd.V_drew HO_4.out)
       have n1_ := Aside0.mk (Kd.V_drew HO_5.out)
       have n2_ := Aside0.mk (Kd.R_drew HO_489001.out)
       have n3_ := Aside0.mk (blk_drew BK488.out)
       have n4_ := Aside0.mk (below_drew1 HB.out)
       clear HO_4 HO_5 HO_489001 BK488 HB
       have HO_4 := n0_
       have HO_5 := n1_
       have HO_489001 := n2_
       have BK488 := n3_
       have HB := n4_
       clear n0_ n1_ n2_ n3_ n4_
       refine start_ (n := 22) (S := fun w' => w'.cell? ⟨gb488, 0, none⟩ = some (.int .i64 t478) ∧ w'.cell? ⟨gb488, 1, none⟩ = some (.slice Ao11 t479.length co11)) (ds := []) #[F,F,F,F,F,F,F,F,F,F,F,F,F,F,F,F,F,F,F,F,F,F] kr rfl rfl ⟨cz0 BK488, cz1 BK488⟩ (fun hHeld => ?_); refine with_tabW laws_FnSameConsents.tab9 laws_FnSameConsents.bits9 (fun HT_ HW_ => ?_)
       generalize wc.drew = w36 at HO_4 HO_5 HO_489001 BK488 HB hHeld ⊢
       refine pu 0 (some 41) #[T,F,F,F,F,F,F,F,F,F,F,F,F,F,F,F,F,F,F,F,F,F] (any_of HT_.out kr) ?_
       refine pu 2 (some 43) #[T,F,T,F,F,F,F,F,F,F,F,F,F,F,F,F,F,F,F,F,F,F] (any_of HT_.out kr) ?_
       refine pu 5 (some 46) #[T,F,T,F,F,T,F,F,F,F,F,F,F,F,F,F,F,F,F,F,F,F] (any_of HT_.out kr) ?_
       refine tk2 1 (some 42) #[T,T,T,F,F,T,F,F,F,F,F,F,F,F,F,F,F,F,F,F,F,F] (take_ofW HT_.out HW_.out kr) ?_
       refine tk2 4 (some 45) #[T,T,T,F,T,T,F,F,F,F,F,F,F,F,F,F,F,F,F,F,F,F] (take_ofW HT_.out HW_.out kr) ?_
       refine one_ (i := 3) (N := some 44) #[T,T,T,T,T,T,F,F,F,F,F,F,F,F,F,F,F,F,F,F,F,F] rfl rfl (one_of HT_.out kr) (by decide) (fun K hK => ?_)
       refine goes_ Try.func15 kr rfl #[.agg #[.int .i64 t478, .slice Ao11 t479.length co11], .slice Ao12 t482.length co12] (by rfl) rfl rfl lm ?_
       with_reducible refine (impl_LeastConsents.calls kj6 t478 _ _ t479 _ _ t482 t494 _ ?side1 ?side2 ?side3 ?side4 A29.out).mono ?_
       (case side1 => repeat (first | exact (Kd.R_reads' HO_489001.out).2.2 | (with_reducible refine Kd.C_alloc ?_ _) | (with_reducible refine Kd.C_drewN ?_ _) | (with_reducible refine Kd.C_drew ?_)))
       (case side2 => exact (Kd.R_reads' HO_489001.out).2.1)
       (case side3 => repeat (first | exact (Kd.V_reads' HO_4.out).2.2 | (with_reducible refine Kd.C_alloc ?_ _) | (with_reducible refine Kd.C_drewN ?_ _) | (with_reducible refine Kd.C_drew ?_)))
       (case side4 => exact (Kd.V_reads' HO_4.out).2.1)
       rintro e w37 ⟨v495, rfl, ho0, hb⟩
       refine ⟨_, rfl, ?_⟩
       have n0_ := Aside0.mk (Kd.V_elder' (vz HO_4) (Kd.R_base ho0) hb)
       have n1_ := Aside0.mk (Kd.V_elder' (vz HO_5) (Kd.R_base ho0) hb)
       have n2_ := Aside0.mk (Kd.R_elder' (rz HO_489001) (Kd.R_base ho0) hb)
       have n3_ := Aside0.mk (Kd.R_lower (Kd.R_new' ho0 (Kd.R_lt (rz HO_489001))) (below_size bh))
       have n4_ := Aside0.mk (blk_below (bz BK488) hb)
       have n5_ := Aside0.mk (below_step bh hb)
       clear HO_4 HO_5 HO_489001 BK488 HB
       have HO_4 := n0_
       have HO_5 := n1_
       have HO_489001 := n2_
       have HO496 := n3_
       have BK488 := n4_
       have HB := n5_
       clear n0_ n1_ n2_ n3_ n4_ n5_
       (try clear hb)
       (try clear hb2)
       (try clear hk)
       (try clear hi)
       (try clear ho0)
       refine hK.out _ _ ⟨cz0 BK488, cz1 BK488⟩ (fun hHeld => ?_)
       clear hK K
       refine norm_ (a' := ?_) ?_ ?_
       rotate_left
       ·show Act.put _ (some 44) _ = _
        simp only [Act.put, List.setIfInBounds_toArray, List.set_cons_zero, List.set_cons_succ, i64_w, i32_w]
        rfl
       refine one_ (i := 6) (N := some 47) #[T,T,T,T,T,T,T,F,F,F,F,F,F,F,F,F,F,F,F,F,F,F] rfl rfl (one_of HT_.out kr) (by decide) (fun K hK => ?_)
       refine goes_ Try.func15 kr rfl #[.agg #[.int .i64 t478, .slice Ao11 t479.length co11], .slice Ao13 t485.length co13] (by rfl) rfl rfl lm ?_
       with_reducible refine (impl_LeastConsents.calls kj6 t478 _ _ t479 _ _ t485 t497 _ ?side1 ?side2 ?side3 ?side4 A30.out).mono ?_
       (case side1 => repeat (first | exact (Kd.R_reads' HO_489001.out).2.2 | (with_reducible refine Kd.C_alloc ?_ _) | (with_reducible refine Kd.C_drewN ?_ _) | (with_reducible refine Kd.C_drew ?_)))
       (case side2 => exact (Kd.R_reads' HO_489001.out).2.1)
       (case side3 => repeat (first | exact (Kd.V_reads' HO_5.out).2.2 | (with_reducible refine Kd.C_alloc ?_ _) | (with_reducible refine Kd.C_drewN ?_ _) | (with_reducible refine Kd.C_drew ?_)))
       (case side4 => exact (Kd.V_reads' HO_5.out).2.1)
       rintro e w38 ⟨v498, rfl, ho0, hb⟩
       refine ⟨_, rfl, ?_⟩
       have n0_ := Aside0.mk (Kd.V_elder' (vz HO_4) (Kd.R_base ho0) hb)
       have n1_ := Aside0.mk (Kd.V_elder' (vz HO_5) (Kd.R_base ho0) hb)
       have n2_ := Aside0.mk (Kd.R_elder' (rz HO_489001) (Kd.R_base ho0) hb)
       have n3_ := Aside0.mk (Kd.R_elder' (rz HO496) (Kd.R_base ho0) hb)
       have n4_ := Aside0.mk (Kd.R_lower (Kd.R_new' (Kd.R_new' ho0 (Kd.R_lt (rz HO_489001))) (Kd.R_lt (rz HO496))) (below_size bh))
       have n5_ := Aside0.mk (blk_below (bz BK488) hb)
       have n6_ := Aside0.mk (below_step bh hb)
       clear HO_4 HO_5 HO_489001 HO496 BK488 HB
       have HO_4 := n0_
       have HO_5 := n1_
       have HO_489001 := n2_
       have HO496 := n3_
       have HO499 := n4_
       have BK488 := n5_
       have HB := n6_
       clear n0_ n1_ n2_ n3_ n4_ n5_ n6_
       (try clear hb)
       (try clear hb2)
       (try clear hk)
       (try clear hi)
       (try clear ho0)
       obtain ⟨Ao39, co39, eo39⟩ := Kd.R_slice HO496.out
       (first | subst eo39 | (injection eo39 with f1_ f2_ f3_; have f4_ := f1_.symm; have f5_ := f3_.symm; clear f1_ f2_ f3_; subst f4_; subst f5_))
       obtain ⟨Ao40, co40, eo40⟩ := Kd.R_slice HO499.out
       (first | subst eo40 | (injection eo40 with f1_ f2_ f3_; have f4_ := f1_.symm; have f5_ := f3_.symm; clear f1_ f2_ f3_; subst f4_; subst f5_))
       refine hK.out _ _ ⟨cz0 BK488, cz1 BK488⟩ (fun hHeld => ?_)
       clear hK K
       refine norm_ (a' := ?_) ?_ ?_
       rotate_left
       ·show Act.put _ (some 47) _ = _
        simp only [Act.put, List.setIfInBounds_toArray, List.set_cons_zero, List.set_cons_succ, i64_w, i32_w]
        rfl
       refine one_ (i := 7) (N := some 48) #[T,T,T,T,T,T,T,T,F,F,F,F,F,F,F,F,F,F,F,F,F,F] rfl rfl (one_of HT_.out kr) (by decide) (fun K hK => ?_)
       refine goes_ Try.func14 kr rfl #[.slice Ao39 t494.length co39, .slice Ao40 t497.length co40] (by rfl) rfl rfl lm ?_
       with_reducible refine (laws_sameInts.calls kj6 _ _ t494 _ _ t497 t500 _ ?side1 ?side2 ?side3 ?side4 A31.out).mono ?_
       (case side1 => repeat (first | exact (Kd.R_reads' HO496.out).2.2 | (with_reducible refine Kd.C_alloc ?_ _) | (with_reducible refine Kd.C_drewN ?_ _) | (with_reducible refine Kd.C_drew ?_)))
       (case side2 => exact (Kd.R_reads' HO496.out).2.1)
       (case side3 => repeat (first | exact (Kd.R_reads' HO499.out).2.2 | (with_reducible refine Kd.C_alloc ?_ _) | (with_reducible refine Kd.C_drewN ?_ _) | (with_reducible refine Kd.C_drew ?_)))
       (case side4 => exact (Kd.R_reads' HO499.out).2.1)
       rintro e w' ⟨rfl, ⟨nd, rfl⟩⟩
       refine ⟨_, rfl, ?_⟩
       refine hK.out _ _ ⟨cz0 BK488, cz1 BK488⟩ (fun hHeld => ?_)
       clear hK K
       refine norm_ (a' := ?_) ?_ ?_
       rotate_left
       ·show Act.put _ (some 48) _ = _
        simp only [Act.put, List.setIfInBounds_toArray, List.set_cons_zero, List.set_cons_succ, i64_w, i32_w]
        rfl
       refine pu 8 (some 49) #[T,T,T,T,T,T,T,T,T,F,F,F,F,F,F,F,F,F,F,F,F,F] (any_of HT_.out kr) ?_
       refine pu 9 (some 50) #[T,T,T,T,T,T,T,T,T,T,F,F,F,F,F,F,F,F,F,F,F,F] (any_of HT_.out kr) ?_
       refine pu 12 (some 53) #[T,T,T,T,T,T,T,T,T,T,F,F,T,F,F,F,F,F,F,F,F,F] (any_of HT_.out kr) ?_
       refine pu 15 (some 56) #[T,T,T,T,T,T,T,T,T,T,F,F,T,F,F,T,F,F,F,F,F,F] (any_of HT_.out kr) ?_
       refine pu 18 (some 59) #[T,T,T,T,T,T,T,T,T,T,F,F,T,F,F,T,F,F,T,F,F,F] (any_of HT_.out kr) ?_
       refine tk2 10 (some 51) #[T,T,T,T,T,T,T,T,T,T,T,F,T,F,F,T,F,F,T,F,F,F] (take_ofW HT_.out HW_.out kr) ?_
       refine tk2 11 (some 52) #[T,T,T,T,T,T,T,T,T,T,T,T,T,F,F,T,F,F,T,F,F,F] (take_ofW HT_.out HW_.out kr) ?_
       refine tk2 14 (some 55) #[T,T,T,T,T,T,T,T,T,T,T,T,T,F,T,T,F,F,T,F,F,F] (take_ofW HT_.out HW_.out kr) ?_
       refine one_ (i := 13) (N := some 54) #[T,T,T,T,T,T,T,T,T,T,T,T,T,T,T,T,F,F,T,F,F,F] rfl rfl (one_of HT_.out kr) (by decide) (fun K hK => ?_)
       refine goes_ Try.func16 kr rfl #[.agg #[.int .i64 t478, .slice Ao11 t479.length co11], .slice Ao12 t482.length co12] (by rfl) rfl rfl lm ?_
       with_reducible refine (impl_DualTerm.calls kj6 t478 _ _ t479 _ _ t482 t501 _ ?side1 ?side2 ?side3 ?side4 A33.out).mono ?_
       (case side1 => repeat (first | exact (Kd.R_reads' HO_489001.out).2.2 | (with_reducible refine Kd.C_alloc ?_ _) | (with_reducible refine Kd.C_drewN ?_ _) | (with_reducible refine Kd.C_drew ?_)))
       (case side2 => exact (Kd.R_reads' HO_489001.out).2.1)
       (case side3 => repeat (first | exact (Kd.V_reads' HO_4.out).2.2 | (with_reducible refine Kd.C_alloc ?_ _) | (with_reducible refine Kd.C_drewN ?_ _) | (with_reducible refine Kd.C_drew ?_)))
       (case side4 => exact (Kd.V_reads' HO_4.out).2.1)
       rintro e w41 ⟨v502, rfl, ho0, hb⟩
       refine ⟨_, rfl, ?_⟩
       have n0_ := Aside0.mk (Kd.V_elder' (vz HO_4) (Kd.R_base ho0) hb)
       have n1_ := Aside0.mk (Kd.V_elder' (vz HO_5) (Kd.R_base ho0) hb)
       have n2_ := Aside0.mk (Kd.R_below (rz HO_489001) hb)
       have n3_ := Aside0.mk (Kd.R_below (rz HO496) hb)
       have n4_ := Aside0.mk (Kd.R_below (rz HO499) hb)
       have n5_ := Aside0.mk (Kd.R_lower ho0 (below_size bh))
       have n6_ := Aside0.mk (blk_below (bz BK488) hb)
       have n7_ := Aside0.mk (below_step bh hb)
       clear HO_4 HO_5 HO_489001 HO496 HO499 BK488 HB
       have HO_4 := n0_
       have HO_5 := n1_
       have HO_489001 := n2_
       have HO496 := n3_
       have HO499 := n4_
       have HO503 := n5_
       have BK488 := n6_
       have HB := n7_
       clear n0_ n1_ n2_ n3_ n4_ n5_ n6_ n7_
       (try clear hb)
       (try clear hb2)
       (try clear hk)
       (try clear hi)
       (try clear ho0)
       refine hK.out _ _ ⟨cz0 BK488, cz1 BK488⟩ (fun hHeld => ?_)
       clear hK K
       refine norm_ (a' := ?_) ?_ ?_
       rotate_left
       ·show Act.put _ (some 54) _ = _
        simp only [Act.put, List.setIfInBounds_toArray, List.set_cons_zero, List.set_cons_succ, i64_w, i32_w]
        rfl
       refine one_ (i := 16) (N := some 57) #[T,T,T,T,T,T,T,T,T,T,T,T,T,T,T,T,T,F,T,F,F,F] rfl rfl (one_of HT_.out kr) (by decide) (fun K hK => ?_)
       refine goes_ Try.func16 kr rfl #[.agg #[.int .i64 t478, .slice Ao11 t479.length co11], .slice Ao13 t485.length co13] (by rfl) rfl rfl lm ?_
       with_reducible refine (impl_DualTerm.calls kj6 t478 _ _ t479 _ _ t485 t504 _ ?side1 ?side2 ?side3 ?side4 A34.out).mono ?_
       (case side1 => repeat (first | exact (Kd.R_reads' HO_489001.out).2.2 | (with_reducible refine Kd.C_alloc ?_ _) | (with_reducible refine Kd.C_drewN ?_ _) | (with_reducible refine Kd.C_drew ?_)))
       (case side2 => exact (Kd.R_reads' HO_489001.out).2.1)
       (case side3 => repeat (first | exact (Kd.V_reads' HO_5.out).2.2 | (with_reducible refine Kd.C_alloc ?_ _) | (with_reducible refine Kd.C_drewN ?_ _) | (with_reducible refine Kd.C_drew ?_)))
       (case side4 => exact (Kd.V_reads' HO_5.out).2.1)
       rintro e w42 ⟨v505, rfl, ho0, hb⟩
       refine ⟨_, rfl, ?_⟩
       have n0_ := Aside0.mk (Kd.V_elder' (vz HO_4) (Kd.R_base ho0) hb)
       have n1_ := Aside0.mk (Kd.V_elder' (vz HO_5) (Kd.R_base ho0) hb)
       have n2_ := Aside0.mk (Kd.R_below (rz HO_489001) hb)
       have n3_ := Aside0.mk (Kd.R_below (rz HO496) hb)
       have n4_ := Aside0.mk (Kd.R_below (rz HO499) hb)
       have n5_ := Aside0.mk (Kd.R_elder' (rz HO503) (Kd.R_base ho0) hb)
       have n6_ := Aside0.mk (Kd.R_lower (Kd.R_new' ho0 (Kd.R_lt (rz HO503))) (below_size bh))
       have n7_ := Aside0.mk (blk_below (bz BK488) hb)
       have n8_ := Aside0.mk (below_step bh hb)
       clear HO_4 HO_5 HO_489001 HO496 HO499 HO503 BK488 HB
       have HO_4 := n0_
       have HO_5 := n1_
       have HO_489001 := n2_
       have HO496 := n3_
       have HO499 := n4_
       have HO503 := n5_
       have HO506 := n6_
       have BK488 := n7_
       have HB := n8_
       clear n0_ n1_ n2_ n3_ n4_ n5_ n6_ n7_ n8_
       (try clear hb)
       (try clear hb2)
       (try clear hk)
       (try clear hi)
       (try clear ho0)
       obtain ⟨Ao43, co43, eo43⟩ := Kd.R_slice HO503.out
       (first | subst eo43 | (injection eo43 with f1_ f2_ f3_; have f4_ := f1_.symm; have f5_ := f3_.symm; clear f1_ f2_ f3_; subst f4_; subst f5_))
       obtain ⟨Ao44, co44, eo44⟩ := Kd.R_slice HO506.out
       (first | subst eo44 | (injection eo44 with f1_ f2_ f3_; have f4_ := f1_.symm; have f5_ := f3_.symm; clear f1_ f2_ f3_; subst f4_; subst f5_))
       refine hK.out _ _ ⟨cz0 BK488, cz1 BK488⟩ (fun hHeld => ?_)
       clear hK K
       refine norm_ (a' := ?_) ?_ ?_
       rotate_left
       ·show Act.put _ (some 57) _ = _
        simp only [Act.put, List.setIfInBounds_toArray, List.set_cons_zero, List.set_cons_succ, i64_w, i32_w]
        rfl
       refine one_ (i := 17) (N := some 58) #[T,T,T,T,T,T,T,T,T,T,T,T,T,T,T,T,T,T,T,F,F,F] rfl rfl (one_of HT_.out kr) (by decide) (fun K hK => ?_)
       refine goes_ Try.func10 kr rfl #[.agg #[.int .i64 t478, .slice Ao11 t479.length co11], .slice Ao43 t501.length co43, .slice Ao44 t504.length co44] (by rfl) rfl rfl lm ?_
       with_reducible refine (impl_SameConsents.calls kj6 t478 _ _ t479 _ _ t501 _ _ t504 t507 _ ?side1 ?side2 ?side3 ?side4 ?side5 ?side6 A35.out).mono ?_
       (case side1 => repeat (first | exact (Kd.R_reads' HO_489001.out).2.2 | (with_reducible refine Kd.C_alloc ?_ _) | (with_reducible refine Kd.C_drewN ?_ _) | (with_reducible refine Kd.C_drew ?_)))
       (case side2 => exact (Kd.R_reads' HO_489001.out).2.1)
       (case side3 => repeat (first | exact (Kd.R_reads' HO503.out).2.2 | (with_reducible refine Kd.C_alloc ?_ _) | (with_reducible refine Kd.C_drewN ?_ _) | (with_reducible refine Kd.C_drew ?_)))
       (case side4 => exact (Kd.R_reads' HO503.out).2.1)
       (case side5 => repeat (first | exact (Kd.R_reads' HO506.out).2.2 | (with_reducible refine Kd.C_alloc ?_ _) | (with_reducible refine Kd.C_drewN ?_ _) | (with_reducible refine Kd.C_drew ?_)))
       (case side6 => exact (Kd.R_reads' HO506.out).2.1)
       rintro e w45 ⟨rfl, hb⟩
       refine ⟨_, rfl, ?_⟩
       have n0_ := Aside0.mk (Kd.V_below (vz HO_4) hb)
       have n1_ := Aside0.mk (Kd.V_below (vz HO_5) hb)
       have n2_ := Aside0.mk (Kd.R_below (rz HO_489001) hb)
       have n3_ := Aside0.mk (Kd.R_below (rz HO496) hb)
       have n4_ := Aside0.mk (Kd.R_below (rz HO499) hb)
       have n5_ := Aside0.mk (Kd.R_below (rz HO503) hb)
       have n6_ := Aside0.mk (Kd.R_below (rz HO506) hb)
       have n7_ := Aside0.mk (blk_below (bz BK488) hb)
       have n8_ := Aside0.mk (below_step bh hb)
       clear HO_4 HO_5 HO_489001 HO496 HO499 HO503 HO506 BK488 HB
       have HO_4 := n0_
       have HO_5 := n1_
       have HO_489001 := n2_
       have HO496 := n3_
       have HO499 := n4_
       have HO503 := n5_
       have HO506 := n6_
       have BK488 := n7_
       have HB := n8_
       clear n0_ n1_ n2_ n3_ n4_ n5_ n6_ n7_ n8_
       (try clear hb)
       (try clear hb2)
       (try clear hk)
       (try clear hi)
       refine hK.out _ _ ⟨cz0 BK488, cz1 BK488⟩ (fun hHeld => ?_)
       clear hK K
       refine norm_ (a' := ?_) ?_ ?_
       rotate_left
       ·show Act.put _ (some 58) _ = _
        simp only [Act.put, List.setIfInBounds_toArray, List.set_cons_zero, List.set_cons_succ, i64_w, i32_w]
        rfl
       refine pu 19 (some 60) #[T,T,T,T,T,T,T,T,T,T,T,T,T,T,T,T,T,T,T,T,F,F] (any_of HT_.out kr) ?_
       refine pu 20 (some 61) #[T,T,T,T,T,T,T,T,T,T,T,T,T,T,T,T,T,T,T,T,T,F] (any_of HT_.out kr) ?_
       refine pu 21 (some 2) #[T,T,T,T,T,T,T,T,T,T,T,T,T,T,T,T,T,T,T,T,T,T] (any_of HT_.out kr) ?_
       refine done_ (done_of HT_.out kr) ?_
       try go_wp2
       go_ret
       exact ⟨by first | rfl | (simp [errW_none, errW_some] <;> rfl) | (simp [*, errW_none, errW_some] <;> rfl), by exact bh⟩
      ·rw [if_neg c32] at H
       exact absurd H (by simp)

/-- THE ONE PURE STATEMENT of laws_FnSameConsents: yours. -/
def laws_FnSameConsents.Pure : Prop := ∀ (l0 : List Int), l0.length ≤ maxLen → l0.length * 1 ≤ 140737488351232 → (∀ x ∈ l0, (Lit.int .u8 x).wf = true) → ∃ k, laws_FnSameConsents.f k l0 = some true
theorem laws_FnSameConsents.walk (P : laws_FnSameConsents.Pure) (a0 : Option Addr) (len0 cap0 : Nat) (z0 : List Int) (w : World) (w0 : (a0 = none ∧ len0 = 0 ∧ cap0 = 0 ∧ z0 = []) ∨ ∃ x, a0 = some x ∧ len0 ≤ cap0 ∧ cap0 ≤ maxLen ∧ z0.length = cap0 ∧ (∀ i, i < z0.length → w.cell? (x.add i) = some (.int .u8 (z0.getD i 0))) ∧ ∀ n ∈ z0, (Lit.int .u8 n).wf = true) (y0 : len0 * 1 ≤ 140737488351232) :
  Calls Try.prog 3 #[.slice a0 len0 cap0] w fun e w' => e = .returned (.bool true) ∧ Below w.heap.size w w' := by
 obtain ⟨l0, rfl, hr0, hm0, hw0, hc0⟩ := ReadsInt.ofRowC w0
 obtain ⟨k, h⟩ := P l0 hm0 y0 hw0
 refine (laws_FnSameConsents.calls k _ _ l0 true w (Kd.C_of_reads (d := (0 : Int)) (h1 := fun _ => rfl) hr0) hc0 h).mono ?_
 rintro e w' ⟨rfl, hd⟩
 exact ⟨rfl, hd⟩

end Go.Proofs.Ytaddlahbahedeaa.QFnSameConsents
