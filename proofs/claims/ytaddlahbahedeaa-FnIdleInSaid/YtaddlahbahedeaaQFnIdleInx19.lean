-- Printed for this claim by a turned copy of the print (wip/myprint). Lean checks it. Squeezed. Worded. Tightened.
import Derived.Test.YtaddlahbahedeaaQFnIdleInx0
import Derived.Test.YtaddlahbahedeaaQFnIdleInx2
import Derived.Test.YtaddlahbahedeaaQFnIdleInx9
import Derived.Test.YtaddlahbahedeaaQFnIdleInx12
import Derived.Test.YtaddlahbahedeaaQFnIdleInx14
import Derived.Test.YtaddlahbahedeaaQFnIdleInx18
namespace Go.Proofs.Ytaddlahbahedeaa.QFnIdleIn
open Go.RowKit Go.Proofs.YtaddlahbahedeaaW.PrintWords Go.Proofs.YtaddlahbahedeaaW.PrintLast Go.Proofs.YtaddlahbahedeaaW.PrintMore
attribute [local go_sem] max2_int min2_int max_two min_two max_three min_three max_four min_four Opens.cell_twice   -- for this text's walks alone
set_option linter.unusedVariables false
set_option linter.unusedSimpArgs false

/-! ### laws_FnIdleIn: function 8 -/
mutual
def laws_FnIdleIn.l0 : Nat → List (S61) → Int → List Int → Int → Int → List Int → Option (Bool)
 | 0, _, _, _, _, _, _ => none
 | k + 1, x4, x5, x6, x7, x464000, x464001 => if x7 < x464000 then (laws_FnIdleIn.l1 k x4 x5 x6 x7 false 0 x464000 x464001) else ((impl_DualTerm.f k x464000 x464001 x4).bind fun t471 => ((impl_IdleIn.f k x464000 x464001 t471).bind fun t474 => (some (t474 == x5))))
def laws_FnIdleIn.l1 : Nat → List (S61) → Int → List Int → Int → Bool → Int → Int → List Int → Option (Bool)
 | 0, _, _, _, _, _, _, _, _ => none
 | k + 1, x4, x5, x6, x7, x8, x9, x464000, x464001 => if x9 < (x6.length : Int) then (if x8 = true then (laws_FnIdleIn.l1 k x4 x5 x6 x7 true (wrap64 (x9 + 1)) x464000 x464001) else (if 0 ≤ x9 then (if 0 ≤ x7 then (laws_FnIdleIn.l1 k x4 x5 x6 x7 ((Int.tmod (shr .i64 (rd x6 x9) x7) 2) == 1) (wrap64 (x9 + 1)) x464000 x464001) else (none)) else (none))) else (if 0 ≤ x7 then (if (x8 == ((Int.tmod (shr .i64 x5 x7) 2) == 1)) = true then (none) else (laws_FnIdleIn.l0 k x4 x5 x6 (wrap64 (x7 + 1)) x464000 x464001)) else (none))
end
def laws_FnIdleIn.f (k : Nat) (l0 : List Int) : Option (Bool) := if (l0.length : Int) > 1048576 then (some true) else ((spec_DrawIdleIn.f k l0).bind fun bt456 => ((impl_IdleIn.f k bt456.1 bt456.2.1 bt456.2.2).bind fun t464 => ((spec_IdleIn.f k bt456.1 bt456.2.1 bt456.2.2).bind fun t465 => (if t464 = t465 then (if t464 < 0 then (if t464 = (-1) then ((impl_TermOk.f k bt456.1 bt456.2.1 bt456.2.2).bind fun t466 => (if t466 = true then (none) else ((laws_alive.f).bind fun t467 => (some t467)))) else (none)) else ((impl_LeastConsents.f k bt456.1 bt456.2.1 bt456.2.2).bind fun t468 => (laws_FnIdleIn.l0 k bt456.2.2 t464 t468 0 bt456.1 bt456.2.1))) else (none)))))
theorem laws_FnIdleIn.mono_l : ∀ k, (∀ y0 y1 y2 y3 y4 y5, LeO (laws_FnIdleIn.l0 k y0 y1 y2 y3 y4 y5) (laws_FnIdleIn.l0 (k + 1) y0 y1 y2 y3 y4 y5)) ∧ (∀ y0 y1 y2 y3 y4 y5 y6 y7, LeO (laws_FnIdleIn.l1 k y0 y1 y2 y3 y4 y5 y6 y7) (laws_FnIdleIn.l1 (k + 1) y0 y1 y2 y3 y4 y5 y6 y7))
 | 0 => ⟨fun _ _ _ _ _ _ r h => by simp [laws_FnIdleIn.l0] at h, fun _ _ _ _ _ _ _ _ r h => by simp [laws_FnIdleIn.l1] at h⟩
 | k + 1 => by
  obtain ⟨ih0, ih1⟩ := laws_FnIdleIn.mono_l k
  refine ⟨?_, ?_⟩
  ·intro y0 y1 y2 y3 y4 y5
   unfold laws_FnIdleIn.l0
   repeat' first
   | (with_reducible exact ih0 _ _ _ _ _ _)
   | (with_reducible exact ih1 _ _ _ _ _ _ _ _)
   | (with_reducible exact impl_DualTerm.mono _ _ _ _)
   | (with_reducible exact impl_IdleIn.mono _ _ _ _)
   | (with_reducible exact impl_LeastConsents.mono _ _ _ _)
   | (with_reducible exact impl_TermOk.mono _ _ _ _)
   | (with_reducible exact spec_DrawIdleIn.mono _ _)
   | (with_reducible exact spec_IdleIn.mono _ _ _ _)
   | (with_reducible exact LeO.refl _)
   | (with_reducible exact LeO.none _)
   | (with_reducible refine LeO.ite ?_ ?_)
   | (with_reducible refine LeO.bind ?_ (fun _ => ?_))
   | exact ih0 _ _ _ _ _ _
   | exact ih1 _ _ _ _ _ _ _ _
   | exact impl_DualTerm.mono _ _ _ _
   | exact impl_IdleIn.mono _ _ _ _
   | exact impl_LeastConsents.mono _ _ _ _
   | exact impl_TermOk.mono _ _ _ _
   | exact spec_DrawIdleIn.mono _ _
   | exact spec_IdleIn.mono _ _ _ _
   | exact LeO.none _
   | refine LeO.ite ?_ ?_
   | refine LeO.bind ?_ (fun _ => ?_)
  ·intro y0 y1 y2 y3 y4 y5 y6 y7
   unfold laws_FnIdleIn.l1
   repeat' first
   | (with_reducible exact ih0 _ _ _ _ _ _)
   | (with_reducible exact ih1 _ _ _ _ _ _ _ _)
   | (with_reducible exact impl_DualTerm.mono _ _ _ _)
   | (with_reducible exact impl_IdleIn.mono _ _ _ _)
   | (with_reducible exact impl_LeastConsents.mono _ _ _ _)
   | (with_reducible exact impl_TermOk.mono _ _ _ _)
   | (with_reducible exact spec_DrawIdleIn.mono _ _)
   | (with_reducible exact spec_IdleIn.mono _ _ _ _)
   | (with_reducible exact LeO.refl _)
   | (with_reducible exact LeO.none _)
   | (with_reducible refine LeO.ite ?_ ?_)
   | (with_reducible refine LeO.bind ?_ (fun _ => ?_))
   | exact ih0 _ _ _ _ _ _
   | exact ih1 _ _ _ _ _ _ _ _
   | exact impl_DualTerm.mono _ _ _ _
   | exact impl_IdleIn.mono _ _ _ _
   | exact impl_LeastConsents.mono _ _ _ _
   | exact impl_TermOk.mono _ _ _ _
   | exact spec_DrawIdleIn.mono _ _
   | exact spec_IdleIn.mono _ _ _ _
   | exact LeO.none _
   | refine LeO.ite ?_ ?_
   | refine LeO.bind ?_ (fun _ => ?_)
theorem laws_FnIdleIn.mono : ∀ a0 k, LeO (laws_FnIdleIn.f k a0) (laws_FnIdleIn.f (k + 1) a0) := by
 intro a0 k
 obtain ⟨ih0, ih1⟩ := laws_FnIdleIn.mono_l k
 unfold laws_FnIdleIn.f
 repeat' first
   | (with_reducible exact ih0 _ _ _ _ _ _)
   | (with_reducible exact ih1 _ _ _ _ _ _ _ _)
   | (with_reducible exact impl_DualTerm.mono _ _ _ _)
   | (with_reducible exact impl_IdleIn.mono _ _ _ _)
   | (with_reducible exact impl_LeastConsents.mono _ _ _ _)
   | (with_reducible exact impl_TermOk.mono _ _ _ _)
   | (with_reducible exact spec_DrawIdleIn.mono _ _)
   | (with_reducible exact spec_IdleIn.mono _ _ _ _)
   | (with_reducible exact LeO.refl _)
   | (with_reducible exact LeO.none _)
   | (with_reducible refine LeO.ite ?_ ?_)
   | (with_reducible refine LeO.bind ?_ (fun _ => ?_))
   | exact ih0 _ _ _ _ _ _
   | exact ih1 _ _ _ _ _ _ _ _
   | exact impl_DualTerm.mono _ _ _ _
   | exact impl_IdleIn.mono _ _ _ _
   | exact impl_LeastConsents.mono _ _ _ _
   | exact impl_TermOk.mono _ _ _ _
   | exact spec_DrawIdleIn.mono _ _
   | exact spec_IdleIn.mono _ _ _ _
   | exact LeO.none _
   | refine LeO.ite ?_ ?_
   | refine LeO.bind ?_ (fun _ => ?_)
def laws_FnIdleIn.T20 : Bool × List (List Nat × List Nat) := (true, [([], []), ([], []), ([], []), ([1, 2], [1, 2]), ([0, 3, 3], [0, 3]), ([], []), ([4, 5], [4, 5]), ([6, 4, 0, 1, 2, 3, 4, 5, 6], [6])])
def laws_FnIdleIn.B20 : List Nat := [0, 0, 0, 6, 15, 0, 63, 127]
theorem laws_FnIdleIn.tab20 : rtab .any (opsOf Try.f8 20) = laws_FnIdleIn.T20 := by kernel_rfl
theorem laws_FnIdleIn.bits20 : waitsOk laws_FnIdleIn.T20.2 laws_FnIdleIn.B20 = true := by kernel_rfl
set_option maxHeartbeats 8000000 in
set_option maxRecDepth 100000 in
theorem laws_FnIdleIn.calls (k : Nat) (A0 : Option Addr) (c0 : Nat) (l0 : List Int) (r : Bool) (w : World) (hr0 : Kd.C (Kd.int .u8) w A0 l0.length l0) (hc0 : l0.length ≤ c0) (h : laws_FnIdleIn.f k l0 = some r) :
  Calls Try.prog 8 #[.slice A0 l0.length c0] w fun e w' => e = .returned (.bool r) ∧ Below w.heap.size w w' := by
 have hu25 := Try.underlying25
 have HR0 := Aside0.mk hr0
 have HC0 := Aside0.mk hc0
 clear hr0 hc0
 have HB := Aside0.mk (Below.refl w.heap.size w)
 have H : (if (l0.length : Int) > 1048576 then (some true) else ((spec_DrawIdleIn.f k l0).bind fun bt456 => ((impl_IdleIn.f k bt456.1 bt456.2.1 bt456.2.2).bind fun t464 => ((spec_IdleIn.f k bt456.1 bt456.2.1 bt456.2.2).bind fun t465 => (if t464 = t465 then (if t464 < 0 then (if t464 = (-1) then ((impl_TermOk.f k bt456.1 bt456.2.1 bt456.2.2).bind fun t466 => (if t466 = true then (none) else ((laws_alive.f).bind fun t467 => (some t467)))) else (none)) else ((impl_LeastConsents.f k bt456.1 bt456.2.1 bt456.2.2).bind fun t468 => (laws_FnIdleIn.l0 k bt456.2.2 t464 t468 0 bt456.1 bt456.2.1))) else (none)))))) = some r := h
 clear h
 by_cases c2 : (l0.length : Int) > 1048576
 ·rw [if_pos c2] at H
  have c2b0 : decide (1048576 < (l0.length : Int)) = true := decide_eq_true c2
  have c2b1 : decide (1048576 < l0.length) = true := decide_eq_true (by omega)
  clear c2
  obtain rfl := Option.some.inj H
  go_enter Try.func8, Try.ntmps8
  go_wp2
  go_ret
  exact ⟨by first | rfl | (simp [errW_none, errW_some] <;> rfl) | (simp [*, errW_none, errW_some] <;> rfl), by exact bh⟩
 ·rw [if_neg c2] at H
  have c2b0 : decide (1048576 < (l0.length : Int)) = false := decide_eq_false c2
  have c2b1 : decide (1048576 < l0.length) = false := decide_eq_false (by omega)
  clear c2
  replace H := Option.bind_eq_some_iff.mp H
  obtain ⟨⟨t456, t457, t460⟩, A30, H⟩ := H
  replace H : ((impl_IdleIn.f k t456 t457 t460).bind fun t464 => ((spec_IdleIn.f k t456 t457 t460).bind fun t465 => (if t464 = t465 then (if t464 < 0 then (if t464 = (-1) then ((impl_TermOk.f k t456 t457 t460).bind fun t466 => (if t466 = true then (none) else ((laws_alive.f).bind fun t467 => (some t467)))) else (none)) else ((impl_LeastConsents.f k t456 t457 t460).bind fun t468 => (laws_FnIdleIn.l0 k t460 t464 t468 0 t456 t457))) else (none)))) = some r := H
  have A3 := Aside0.mk A30
  clear A30
  replace H := Option.bind_eq_some_iff.mp H
  obtain ⟨t464, A40, H⟩ := H
  replace H : ((spec_IdleIn.f k t456 t457 t460).bind fun t465 => (if t464 = t465 then (if t464 < 0 then (if t464 = (-1) then ((impl_TermOk.f k t456 t457 t460).bind fun t466 => (if t466 = true then (none) else ((laws_alive.f).bind fun t467 => (some t467)))) else (none)) else ((impl_LeastConsents.f k t456 t457 t460).bind fun t468 => (laws_FnIdleIn.l0 k t460 t464 t468 0 t456 t457))) else (none))) = some r := H
  have A4 := Aside0.mk A40
  clear A40
  replace H := Option.bind_eq_some_iff.mp H
  obtain ⟨t465, A50, H⟩ := H
  replace H : (if t464 = t465 then (if t464 < 0 then (if t464 = (-1) then ((impl_TermOk.f k t456 t457 t460).bind fun t466 => (if t466 = true then (none) else ((laws_alive.f).bind fun t467 => (some t467)))) else (none)) else ((impl_LeastConsents.f k t456 t457 t460).bind fun t468 => (laws_FnIdleIn.l0 k t460 t464 t468 0 t456 t457))) else (none)) = some r := H
  have A5 := Aside0.mk A50
  clear A50
  by_cases c6 : t464 = t465
  ·rw [if_pos c6] at H
   have c6b0 : (t464 == t465) = true := beq_iff_eq.mpr c6
   have c6b1 : (t464 != t465) = false := bne_eq_false_iff_eq.mpr c6
   clear c6
   by_cases c7 : t464 < 0
   ·rw [if_pos c7] at H
    have c7b0 : decide (t464 < 0) = true := decide_eq_true c7
    clear c7
    by_cases c8 : t464 = (-1)
    ·rw [if_pos c8] at H
     have c8b0 : (t464 == (-1)) = true := beq_iff_eq.mpr c8
     have c8b1 : (t464 != (-1)) = false := bne_eq_false_iff_eq.mpr c8
     clear c8
     replace H := Option.bind_eq_some_iff.mp H
     obtain ⟨t466, A90, H⟩ := H
     replace H : (if t466 = true then (none) else ((laws_alive.f).bind fun t467 => (some t467))) = some r := H
     have A9 := Aside0.mk A90
     clear A90
     by_cases c10 : t466 = true
     ·subst c10
      have H1 : (none) = some r := by rw [if_pos rfl] at H; exact H
      clear H
      have H := H1
      clear H1
      exact absurd H (by simp)
     ·replace c10 := Bool.eq_false_iff.mpr c10
      subst c10
      have H1 : ((laws_alive.f).bind fun t467 => (some t467)) = some r := by rw [if_neg (show ¬ (false = true) by decide)] at H; exact H
      clear H
      have H := H1
      clear H1
      replace H := Option.bind_eq_some_iff.mp H
      obtain ⟨t467, A110, H⟩ := H
      replace H : (some t467) = some r := H
      have A11 := Aside0.mk A110
      clear A110
      obtain rfl := Option.some.inj H
      go_enter Try.func8, Try.ntmps8
      go_wp2_with (first | ((with_reducible refine gate_callee (f := 41) rfl ?_); refine goesL_ (some 15) rfl rfl Try.func41 kr rfl #[.slice A0 l0.length c0] rfl lm ?_; (with_reducible refine (spec_DrawIdleIn.calls k _ _ l0 t456 t457 t460 _ ?side1 ?side2 A3.out).mono ?_); (case side1 => repeat (first | exact HR0.out | (with_reducible refine Kd.C_alloc ?_ _) | (with_reducible refine Kd.C_drewN ?_ _) | (with_reducible refine Kd.C_drew ?_))); (case side2 => exact HC0.out); rintro e w12 ⟨v458, v461, rfl, ho0, ho1, hb⟩; refine ⟨_, rfl, ?_⟩; have n0_ := Aside0.mk (Kd.R_lower (Kd.R_mono (ok' := fun k_ => True) ho0 (fun _ hk_ => trivial)) (below_size bh)); have n1_ := Aside0.mk (Kd.V_lower (Kd.V_mono (ok' := fun k_ => some k_ ≠ (v458 : Value).ownBlock) ho1 (fun k_ hk_ => hk_.2)) (below_size bh)); have n2_ := Aside0.mk (below_step bh hb); clear HB; have HO459 := n0_; have HO462 := n1_; have HB := n2_; clear n0_ n1_ n2_; (try clear hb); (try clear hb2); (try clear hk); (try clear hi); (try clear ho0); (try clear ho1)) | ((with_reducible refine gate_dst (N := 3) rfl ?_); refine box_event ?hg (N := 3) ?hd (cs := #[.int .i64 0, .slice none 0 0]) (t := 25) ?hr ?_; (case hd => rfl); (case hg => rfl); (case hr => first | (go_simp; done) | (go_simp; rfl)); intro gb463 hg w13 hbox hb; have n0_ := Aside0.mk (Kd.R_below (rz HO459) hb); have n1_ := Aside0.mk (Kd.V_below (Kd.V_elderB (vz HO462) gb463 (Nat.le_of_eq hg.symm)) hb); have n2_ := Aside0.mk (below_step bh hb); have n3_ := Aside0.mk (hbox); have n4_ := Aside0.mk ((gs (W0 := w) hg bh)); have n5_ := Aside0.mk ((gs (W0 := w) hg bh)); clear HO459 HO462 HB; have HO459 := n0_; have HO462 := n1_; have HB := n2_; have BK463 := n3_; have GW463 := n4_; have GE463 := n5_; clear n0_ n1_ n2_ n3_ n4_ n5_ hb hbox hg; have hcz14_0 := cz0 BK463; have hcz14_1 := cz1 BK463; have hfz14_0 := blk_frozen BK463.out 0; have hfz14_1 := blk_frozen BK463.out 1; obtain ⟨Ao15, co15, eo15⟩ := Kd.R_slice HO459.out; subst eo15; obtain ⟨Ao16, co16, eo16⟩ := Kd.V_slice HO462.out; subst eo16) | ((with_reducible refine gate_callee (f := 42) rfl ?_); refine goesL_ (some 20) rfl rfl Try.func42 kr rfl #[.agg #[.int .i64 t456, .slice Ao15 t457.length co15], .slice Ao16 t460.length co16] rfl lm ?_; (with_reducible refine (impl_IdleIn.calls k t456 _ _ t457 _ _ t460 t464 _ ?side1 ?side2 ?side3 ?side4 A4.out).mono ?_); (case side1 => refine (Kd.R_reads' (e := 3) (base := w.heap.size) (ok := fun k_ => True) (n := t457.length) (c := co15) ?_).2.2; exact (fR HO459 BK463)); (case side2 => exact (Kd.R_reads' HO459.out).2.1); (case side3 => refine (Kd.V_reads' (e := 61) (base := w.heap.size) (ok := fun k_ => (some k_ ≠ (.slice Ao15 t457.length co15 : Value).ownBlock ∧ k_ ≠ gb463)) (n := t460.length) (c := co16) ?_).2.2; exact (uV HO462 (fun _ hk => hk.2))); (case side4 => exact (Kd.V_reads' HO462.out).2.1); rintro e w17 ⟨rfl, hb⟩; refine ⟨_, rfl, ?_⟩; have n0_ := Aside0.mk (Kd.R_below (fR HO459 BK463) hb); have n1_ := Aside0.mk (Kd.V_below (uV HO462 (fun _ hk => hk.2)) hb); have n2_ := Aside0.mk (blk_below (g := gb463) (o := .cells #[.int .i64 t456, .slice Ao15 t457.length co15] 25 (0, 0)) (bp BK463) hb); have n3_ := Aside0.mk (below_step bh hb); clear HO459 HO462 BK463 HB; have HO459 := n0_; have HO462 := n1_; have BK463 := n2_; have HB := n3_; clear n0_ n1_ n2_ n3_; (try clear hb); (try clear hb2); (try clear hk); (try clear hi); have hcz18_0 := cz0 BK463; have hcz18_1 := cz1 BK463; have hfz18_0 := blk_frozen BK463.out 0; have hfz18_1 := blk_frozen BK463.out 1) | ((with_reducible refine gate_callee (f := 43) rfl ?_); refine goesL_ (some 24) rfl rfl Try.func43 kr rfl #[.agg #[.int .i64 t456, .slice Ao15 t457.length co15], .slice Ao16 t460.length co16] rfl lm ?_; (with_reducible refine (spec_IdleIn.calls k t456 _ _ t457 _ _ t460 t465 _ ?side1 ?side2 ?side3 ?side4 A5.out).mono ?_); (case side1 => repeat (first | exact (Kd.R_reads' HO459.out).2.2 | (with_reducible refine Kd.C_alloc ?_ _) | (with_reducible refine Kd.C_drewN ?_ _) | (with_reducible refine Kd.C_drew ?_))); (case side2 => exact (Kd.R_reads' HO459.out).2.1); (case side3 => repeat (first | exact (Kd.V_reads' HO462.out).2.2 | (with_reducible refine Kd.C_alloc ?_ _) | (with_reducible refine Kd.C_drewN ?_ _) | (with_reducible refine Kd.C_drew ?_))); (case side4 => exact (Kd.V_reads' HO462.out).2.1); rintro e w19 ⟨rfl, hb⟩; refine ⟨_, rfl, ?_⟩; have n0_ := Aside0.mk (Kd.R_below (rz HO459) hb); have n1_ := Aside0.mk (Kd.V_below (vz HO462) hb); have n2_ := Aside0.mk (blk_below (bz BK463) hb); have n3_ := Aside0.mk (below_step bh hb); clear HO459 HO462 BK463 HB; have HO459 := n0_; have HO462 := n1_; have BK463 := n2_; have HB := n3_; clear n0_ n1_ n2_ n3_; (try clear hb); (try clear hb2); (try clear hk); (try clear hi); have hcz20_0 := cz0 BK463; have hcz20_1 := cz1 BK463; have hfz20_0 := blk_frozen BK463.out 0; have hfz20_1 := blk_frozen BK463.out 1) | (go_at_call 30; (with_reducible refine (impl_TermOk.calls k t456 _ _ t457 _ _ t460 false _ ?side1 ?side2 ?side3 ?side4 A9.out).mono ?_); (case side1 => repeat (first | exact (Kd.R_reads' HO459.out).2.2 | (with_reducible refine Kd.C_alloc ?_ _) | (with_reducible refine Kd.C_drewN ?_ _) | (with_reducible refine Kd.C_drew ?_))); (case side2 => exact (Kd.R_reads' HO459.out).2.1); (case side3 => repeat (first | exact (Kd.V_reads' HO462.out).2.2 | (with_reducible refine Kd.C_alloc ?_ _) | (with_reducible refine Kd.C_drewN ?_ _) | (with_reducible refine Kd.C_drew ?_))); (case side4 => exact (Kd.V_reads' HO462.out).2.1); rintro e w21 ⟨rfl, hb⟩; have n0_ := Aside0.mk (Kd.R_below (rz HO459) hb); have n1_ := Aside0.mk (Kd.V_below (vz HO462) hb); have n2_ := Aside0.mk (blk_below (bz BK463) hb); have n3_ := Aside0.mk (below_step bh hb); clear HO459 HO462 BK463 HB; have HO459 := n0_; have HO462 := n1_; have BK463 := n2_; have HB := n3_; clear n0_ n1_ n2_ n3_; (try clear hb); (try clear hb2); (try clear hk); (try clear hi)) | (go_at_call 13; (with_reducible refine (laws_alive.calls  t467 _ A11.out).mono ?_); rintro e w' ⟨rfl, ⟨nd, rfl⟩⟩))
      go_ret
      exact ⟨by first | rfl | (simp [errW_none, errW_some] <;> rfl) | (simp [*, errW_none, errW_some] <;> rfl), by exact bh⟩
    ·rw [if_neg c8] at H
     exact absurd H (by simp)
   ·rw [if_neg c7] at H
    have c7b0 : decide (t464 < 0) = false := decide_eq_false c7
    clear c7
    replace H := Option.bind_eq_some_iff.mp H
    obtain ⟨t468, A220, H⟩ := H
    replace H : (laws_FnIdleIn.l0 k t460 t464 t468 0 t456 t457) = some r := H
    have A22 := Aside0.mk A220
    clear A220
    have H' := Aside0.mk H
    clear H
    go_enter Try.func8, Try.ntmps8
    go_wp2_with (first | ((with_reducible refine gate_callee (f := 41) rfl ?_); refine goesL_ (some 15) rfl rfl Try.func41 kr rfl #[.slice A0 l0.length c0] rfl lm ?_; (with_reducible refine (spec_DrawIdleIn.calls k _ _ l0 t456 t457 t460 _ ?side1 ?side2 A3.out).mono ?_); (case side1 => repeat (first | exact HR0.out | (with_reducible refine Kd.C_alloc ?_ _) | (with_reducible refine Kd.C_drewN ?_ _) | (with_reducible refine Kd.C_drew ?_))); (case side2 => exact HC0.out); rintro e w23 ⟨v458, v461, rfl, ho0, ho1, hb⟩; refine ⟨_, rfl, ?_⟩; have n0_ := Aside0.mk (Kd.R_lower (Kd.R_mono (ok' := fun k_ => True) ho0 (fun _ hk_ => trivial)) (below_size bh)); have n1_ := Aside0.mk (Kd.V_lower (Kd.V_mono (ok' := fun k_ => some k_ ≠ (v458 : Value).ownBlock) ho1 (fun k_ hk_ => hk_.2)) (below_size bh)); have n2_ := Aside0.mk (below_step bh hb); clear HB; have HO459 := n0_; have HO462 := n1_; have HB := n2_; clear n0_ n1_ n2_; (try clear hb); (try clear hb2); (try clear hk); (try clear hi); (try clear ho0); (try clear ho1)) | ((with_reducible refine gate_dst (N := 3) rfl ?_); refine box_event ?hg (N := 3) ?hd (cs := #[.int .i64 0, .slice none 0 0]) (t := 25) ?hr ?_; (case hd => rfl); (case hg => rfl); (case hr => first | (go_simp; done) | (go_simp; rfl)); intro gb463 hg w24 hbox hb; have n0_ := Aside0.mk (Kd.R_below (rz HO459) hb); have n1_ := Aside0.mk (Kd.V_below (Kd.V_elderB (vz HO462) gb463 (Nat.le_of_eq hg.symm)) hb); have n2_ := Aside0.mk (below_step bh hb); have n3_ := Aside0.mk (hbox); have n4_ := Aside0.mk ((gs (W0 := w) hg bh)); have n5_ := Aside0.mk ((gs (W0 := w) hg bh)); clear HO459 HO462 HB; have HO459 := n0_; have HO462 := n1_; have HB := n2_; have BK463 := n3_; have GW463 := n4_; have GE463 := n5_; clear n0_ n1_ n2_ n3_ n4_ n5_ hb hbox hg; have hcz25_0 := cz0 BK463; have hcz25_1 := cz1 BK463; have hfz25_0 := blk_frozen BK463.out 0; have hfz25_1 := blk_frozen BK463.out 1; obtain ⟨Ao26, co26, eo26⟩ := Kd.R_slice HO459.out; subst eo26; obtain ⟨Ao27, co27, eo27⟩ := Kd.V_slice HO462.out; subst eo27) | ((with_reducible refine gate_callee (f := 42) rfl ?_); refine goesL_ (some 20) rfl rfl Try.func42 kr rfl #[.agg #[.int .i64 t456, .slice Ao26 t457.length co26], .slice Ao27 t460.length co27] rfl lm ?_; (with_reducible refine (impl_IdleIn.calls k t456 _ _ t457 _ _ t460 t464 _ ?side1 ?side2 ?side3 ?side4 A4.out).mono ?_); (case side1 => refine (Kd.R_reads' (e := 3) (base := w.heap.size) (ok := fun k_ => True) (n := t457.length) (c := co26) ?_).2.2; exact (fR HO459 BK463)); (case side2 => exact (Kd.R_reads' HO459.out).2.1); (case side3 => refine (Kd.V_reads' (e := 61) (base := w.heap.size) (ok := fun k_ => (some k_ ≠ (.slice Ao26 t457.length co26 : Value).ownBlock ∧ k_ ≠ gb463)) (n := t460.length) (c := co27) ?_).2.2; exact (uV HO462 (fun _ hk => hk.2))); (case side4 => exact (Kd.V_reads' HO462.out).2.1); rintro e w28 ⟨rfl, hb⟩; refine ⟨_, rfl, ?_⟩; have n0_ := Aside0.mk (Kd.R_below (fR HO459 BK463) hb); have n1_ := Aside0.mk (Kd.V_below (uV HO462 (fun _ hk => hk.2)) hb); have n2_ := Aside0.mk (blk_below (g := gb463) (o := .cells #[.int .i64 t456, .slice Ao26 t457.length co26] 25 (0, 0)) (bp BK463) hb); have n3_ := Aside0.mk (below_step bh hb); clear HO459 HO462 BK463 HB; have HO459 := n0_; have HO462 := n1_; have BK463 := n2_; have HB := n3_; clear n0_ n1_ n2_ n3_; (try clear hb); (try clear hb2); (try clear hk); (try clear hi); have hcz29_0 := cz0 BK463; have hcz29_1 := cz1 BK463; have hfz29_0 := blk_frozen BK463.out 0; have hfz29_1 := blk_frozen BK463.out 1) | ((with_reducible refine gate_callee (f := 43) rfl ?_); refine goesL_ (some 24) rfl rfl Try.func43 kr rfl #[.agg #[.int .i64 t456, .slice Ao26 t457.length co26], .slice Ao27 t460.length co27] rfl lm ?_; (with_reducible refine (spec_IdleIn.calls k t456 _ _ t457 _ _ t460 t465 _ ?side1 ?side2 ?side3 ?side4 A5.out).mono ?_); (case side1 => repeat (first | exact (Kd.R_reads' HO459.out).2.2 | (with_reducible refine Kd.C_alloc ?_ _) | (with_reducible refine Kd.C_drewN ?_ _) | (with_reducible refine Kd.C_drew ?_))); (case side2 => exact (Kd.R_reads' HO459.out).2.1); (case side3 => repeat (first | exact (Kd.V_reads' HO462.out).2.2 | (with_reducible refine Kd.C_alloc ?_ _) | (with_reducible refine Kd.C_drewN ?_ _) | (with_reducible refine Kd.C_drew ?_))); (case side4 => exact (Kd.V_reads' HO462.out).2.1); rintro e w30 ⟨rfl, hb⟩; refine ⟨_, rfl, ?_⟩; have n0_ := Aside0.mk (Kd.R_below (rz HO459) hb); have n1_ := Aside0.mk (Kd.V_below (vz HO462) hb); have n2_ := Aside0.mk (blk_below (bz BK463) hb); have n3_ := Aside0.mk (below_step bh hb); clear HO459 HO462 BK463 HB; have HO459 := n0_; have HO462 := n1_; have BK463 := n2_; have HB := n3_; clear n0_ n1_ n2_ n3_; (try clear hb); (try clear hb2); (try clear hk); (try clear hi); have hcz31_0 := cz0 BK463; have hcz31_1 := cz1 BK463; have hfz31_0 := blk_frozen BK463.out 0; have hfz31_1 := blk_frozen BK463.out 1) | ((with_reducible refine gate_callee (f := 15) rfl ?_); refine goesL_ (some 41) rfl rfl Try.func15 kr rfl #[.agg #[.int .i64 t456, .slice Ao26 t457.length co26], .slice Ao27 t460.length co27] rfl lm ?_; (with_reducible refine (impl_LeastConsents.calls k t456 _ _ t457 _ _ t460 t468 _ ?side1 ?side2 ?side3 ?side4 A22.out).mono ?_); (case side1 => repeat (first | exact (Kd.R_reads' HO459.out).2.2 | (with_reducible refine Kd.C_alloc ?_ _) | (with_reducible refine Kd.C_drewN ?_ _) | (with_reducible refine Kd.C_drew ?_))); (case side2 => exact (Kd.R_reads' HO459.out).2.1); (case side3 => repeat (first | exact (Kd.V_reads' HO462.out).2.2 | (with_reducible refine Kd.C_alloc ?_ _) | (with_reducible refine Kd.C_drewN ?_ _) | (with_reducible refine Kd.C_drew ?_))); (case side4 => exact (Kd.V_reads' HO462.out).2.1); rintro e w32 ⟨v469, rfl, ho0, hb⟩; refine ⟨_, rfl, ?_⟩; have n0_ := Aside0.mk (Kd.R_elder' (rz HO459) (Kd.R_base ho0) hb); have n1_ := Aside0.mk (Kd.V_elder' (vz HO462) (Kd.R_base ho0) hb); have n2_ := Aside0.mk (Kd.R_lower (Kd.R_new' ho0 (Kd.R_lt (rz HO459))) (below_size bh)); have n3_ := Aside0.mk (blk_below (bz BK463) hb); have n4_ := Aside0.mk (below_step bh hb); clear HO459 HO462 BK463 HB; have HO459 := n0_; have HO462 := n1_; have HO470 := n2_; have BK463 := n3_; have HB := n4_; clear n0_ n1_ n2_ n3_ n4_; (try clear hb); (try clear hb2); (try clear hk); (try clear hi); (try clear ho0)))
    go_loopg [7] k (fun kq v7 w' => ∃ (x7_1 : Int), v7 = .int .i64 x7_1 ∧ Aside0 (laws_FnIdleIn.l0 kq t460 t464 t468 x7_1 t456 t457 = some r) ∧ Aside0 (kq ≤ k) ∧ Aside0 (Kd.V k61 61 w' w.heap.size (fun k_ => some k_ ≠ (v469 : Value).ownBlock ∧ some k_ ≠ ((.slice Ao26 t457.length co26) : Value).ownBlock ∧ k_ ≠ gb463) (.slice Ao27 t460.length co27) t460) ∧ Aside0 (Kd.R (Kd.int .i64) 3 w' w.heap.size (fun k_ => some k_ ≠ ((.slice Ao26 t457.length co26) : Value).ownBlock) v469 t468) ∧ Aside0 (Kd.R (Kd.int .i64) 3 w' w.heap.size (fun k_ => some k_ ≠ (v469 : Value).ownBlock) (.slice Ao26 t457.length co26) t457) ∧ Aside0 (w'.heap[gb463]? = some (.cells #[.int .i64 t456, (.slice Ao26 t457.length co26)] 25 (0, 0))) ∧ Aside0 (Below w.heap.size w w'))
    case atStart => exact ⟨(0), (by first | rfl | (simp; done) | (simp [*]; done)), H', ⟨Nat.le_refl _⟩, ⟨mV HO462⟩, ⟨mR HO470⟩, ⟨mR HO459⟩, ⟨bz BK463⟩, ⟨by exact bh⟩⟩
    case round =>
     clear H'
     try clear c1
     try clear c2
     try clear c2b0
     try clear c2b1
     try clear p2
     try clear c4
     try clear c6
     try clear c6b0
     try clear c6b1
     try clear c7
     try clear c7b0
     try clear c8
     try clear c8b0
     try clear c8b1
     try clear c10
     try clear c15
     try clear hcz14_0
     try clear hcz14_1
     try clear hcz18_0
     try clear hcz18_1
     try clear hcz20_0
     try clear hcz20_1
     try clear hcz25_0
     try clear hcz25_1
     try clear hcz29_0
     try clear hcz29_1
     try clear hcz31_0
     try clear hcz31_1
     try clear hfz14_0
     try clear hfz14_1
     try clear hfz18_0
     try clear hfz18_1
     try clear hfz20_0
     try clear hfz20_1
     try clear hfz25_0
     try clear hfz25_1
     try clear hfz29_0
     try clear hfz29_1
     try clear hfz31_0
     try clear hfz31_1
     obtain ⟨x7_1, rfl, HA, HK1, HO_4, HO_6, HO_464001, BK463, HB⟩ := hrel
     cases gk with
     | zero => exact absurd HA.out (by simp [laws_FnIdleIn.l0])
     | succ k1 =>
      have H := HA.out
      clear HA
      simp only [laws_FnIdleIn.l0] at H
      by_cases c33 : x7_1 < t456
      ·rw [if_pos c33] at H
       have c33b0 : decide (x7_1 < t456) = true := decide_eq_true c33
       clear c33
       have H' := Aside0.mk H
       clear H
       have hcz34_0 := cz0 BK463
       have hcz34_1 := cz1 BK463
       have hfz34_0 := blk_frozen BK463.out 0
       have hfz34_1 := blk_frozen BK463.out 1
       go_wp2
       go_loopg [8, 9] k1 (fun kq v8 v9 w' => ∃ (x8_2 : Bool) (x9_2 : Int), v8 = .bool x8_2 ∧ v9 = .int .i64 x9_2 ∧ Aside0 (laws_FnIdleIn.l1 kq t460 t464 t468 x7_1 x8_2 x9_2 t456 t457 = some r) ∧ Aside0 (kq ≤ k1) ∧ Aside0 (Kd.V k61 61 w' w.heap.size (fun k_ => some k_ ≠ (v469 : Value).ownBlock ∧ some k_ ≠ ((.slice Ao26 t457.length co26) : Value).ownBlock ∧ k_ ≠ gb463) (.slice Ao27 t460.length co27) t460) ∧ Aside0 (Kd.R (Kd.int .i64) 3 w' w.heap.size (fun k_ => some k_ ≠ ((.slice Ao26 t457.length co26) : Value).ownBlock) v469 t468) ∧ Aside0 (Kd.R (Kd.int .i64) 3 w' w.heap.size (fun k_ => some k_ ≠ (v469 : Value).ownBlock) (.slice Ao26 t457.length co26) t457) ∧ Aside0 (w'.heap[gb463]? = some (.cells #[.int .i64 t456, (.slice Ao26 t457.length co26)] 25 (0, 0))) ∧ Aside0 (Below w.heap.size w w'))
       case atStart => exact ⟨(false), (0), (by first | rfl | (simp; done) | (simp [*]; done)), (by first | rfl | (simp; done) | (simp [*]; done)), H', ⟨Nat.le_refl _⟩, ⟨vz HO_4⟩, ⟨rz HO_6⟩, ⟨rz HO_464001⟩, ⟨bz BK463⟩, ⟨by exact bh⟩⟩
       case round =>
        clear H'
        try clear c1
        try clear c2
        try clear c2b0
        try clear c2b1
        try clear p2
        try clear c3
        try clear c4
        try clear c6
        try clear c6b0
        try clear c6b1
        try clear c7
        try clear c7b0
        try clear c8
        try clear c8b0
        try clear c8b1
        try clear c10
        try clear c15
        try clear c33
        try clear c33b0
        try clear hcz14_0
        try clear hcz14_1
        try clear hcz18_0
        try clear hcz18_1
        try clear hcz20_0
        try clear hcz20_1
        try clear hcz25_0
        try clear hcz25_1
        try clear hcz29_0
        try clear hcz29_1
        try clear hcz31_0
        try clear hcz31_1
        try clear hcz34_0
        try clear hcz34_1
        try clear hfz14_0
        try clear hfz14_1
        try clear hfz18_0
        try clear hfz18_1
        try clear hfz20_0
        try clear hfz20_1
        try clear hfz25_0
        try clear hfz25_1
        try clear hfz29_0
        try clear hfz29_1
        try clear hfz31_0
        try clear hfz31_1
        try clear hfz34_0
        try clear hfz34_1
        try clear p2
        obtain ⟨x8_2, x9_2, rfl, rfl, HA, HK2, HO_4, HO_6, HO_464001, BK463, HB⟩ := hrel
        cases gk with
        | zero => exact absurd HA.out (by simp [laws_FnIdleIn.l1])
        | succ k2 =>
         have H := HA.out
         clear HA
         simp only [laws_FnIdleIn.l1] at H
         by_cases c35 : x9_2 < (t468.length : Int)
         ·rw [if_pos c35] at H
          have c35b0 : decide (x9_2 < (t468.length : Int)) = true := decide_eq_true c35
          clear c35
          by_cases c36 : x8_2 = true
          ·subst c36
           have H1 : (laws_FnIdleIn.l1 k2 t460 t464 t468 x7_1 true (wrap64 (x9_2 + 1)) t456 t457) = some r := by rw [if_pos rfl] at H; exact H
           clear H
           have H := H1
           clear H1
           have H' := Aside0.mk H
           clear H
           obtain ⟨Ao37, co37, eo37⟩ := Kd.R_slice HO_6.out
           subst eo37
           go_wp2
           go_roundg k2
           case measure => have := HK1.out; have := HK2.out; omega
           case rel => exact ⟨(true), (wrap64 (x9_2 + 1)), (by first | rfl | (simp; done) | (simp [*]; done)), (by first | rfl | (simp; done) | (simp [*]; done)), H', ⟨by have := HK1.out; have := HK2.out; omega⟩, ⟨vz HO_4⟩, ⟨rz HO_6⟩, ⟨rz HO_464001⟩, ⟨bz BK463⟩, ⟨by exact bh⟩⟩
          ·replace c36 := Bool.eq_false_iff.mpr c36
           subst c36
           have H1 : (if 0 ≤ x9_2 then (if 0 ≤ x7_1 then (laws_FnIdleIn.l1 k2 t460 t464 t468 x7_1 ((Int.tmod (shr .i64 (rd t468 x9_2) x7_1) 2) == 1) (wrap64 (x9_2 + 1)) t456 t457) else (none)) else (none)) = some r := by rw [if_neg (show ¬ (false = true) by decide)] at H; exact H
           clear H
           have H := H1
           clear H1
           by_cases c38 : 0 ≤ x9_2
           ·rw [if_pos c38] at H
            have c38b0 : decide (0 ≤ x9_2) = true := decide_eq_true c38
            clear c38
            by_cases c39 : 0 ≤ x7_1
            ·rw [if_pos c39] at H
             have c39b0 := eq_true c39
             have c39b1 : decide (0 ≤ x7_1) = true := decide_eq_true c39
             clear c39
             obtain ⟨ji40, hji40⟩ : ∃ j_ : Int, (shr .i64 (rd t468 x9_2) x7_1) = j_ := ⟨_, rfl⟩
             replace H : (laws_FnIdleIn.l1 k2 t460 t464 t468 x7_1 ((Int.tmod (ji40) 2) == 1) (wrap64 (x9_2 + 1)) t456 t457) = some r := by first | (rw [hji40] at H; exact H) | (simp only [hji40] at H ⊢; exact H)
             have hji40_ : ((rd t468 x9_2) / 2 ^ min x7_1.toNat 64) = ji40 := hji40
             have hji40z : x7_1 ≤ 64 → ((rd t468 x9_2) / 2 ^ x7_1.toNat) = ji40 := shr_small hji40
             have H' := Aside0.mk H
             clear H
             obtain ⟨Ao41, co41, eo41⟩ := Kd.R_slice HO_6.out
             subst eo41
             have p475 : 0 ≤ (x9_2 : Int) := oda
             have q475 : x9_2 < (t468.length : Int) := oda
             obtain ⟨ad475, e475, hx475_0⟩ := Kd.at_int (Kd.R_reads' HO_6.out).2.2 x9_2 p475 q475
             cases e475
             replace p475 := eq_true p475
             replace q475 := eq_true q475
             go_wp2
             go_roundg k2
             case measure => have := HK1.out; have := HK2.out; omega
             case rel => exact ⟨(((Int.tmod (ji40) 2) == 1)), (wrap64 (x9_2 + 1)), (by first | rfl | (simp; done) | (simp only [← hji40] <;> (first | rfl | simp)) | (simp [*]; done)), (by first | rfl | (simp; done) | (simp [*]; done)), H', ⟨by have := HK1.out; have := HK2.out; omega⟩, ⟨vz HO_4⟩, ⟨rz HO_6⟩, ⟨rz HO_464001⟩, ⟨bz BK463⟩, ⟨by exact bh⟩⟩
            ·rw [if_neg c39] at H
             exact absurd H (by simp)
           ·rw [if_neg c38] at H
            exact absurd H (by simp)
         ·rw [if_neg c35] at H
          have c35b0 : decide (x9_2 < (t468.length : Int)) = false := decide_eq_false c35
          clear c35
          by_cases c42 : 0 ≤ x7_1
          ·rw [if_pos c42] at H
           have c42b0 := eq_true c42
           have c42b1 : decide (0 ≤ x7_1) = true := decide_eq_true c42
           clear c42
           obtain ⟨ji43, hji43⟩ : ∃ j_ : Int, (shr .i64 t464 x7_1) = j_ := ⟨_, rfl⟩
           replace H : (if (x8_2 == ((Int.tmod (ji43) 2) == 1)) = true then (none) else (laws_FnIdleIn.l0 k2 t460 t464 t468 (wrap64 (x7_1 + 1)) t456 t457)) = some r := by first | (rw [hji43] at H; exact H) | (simp only [hji43] at H ⊢; exact H)
           have hji43_ : (t464 / 2 ^ min x7_1.toNat 64) = ji43 := hji43
           have hji43z : x7_1 ≤ 64 → (t464 / 2 ^ x7_1.toNat) = ji43 := shr_small hji43
           by_cases c44 : (x8_2 == ((Int.tmod (ji43) 2) == 1)) = true
           ·rw [if_pos c44] at H
            exact absurd H (by simp)
           ·rw [if_neg c44] at H
            have c44b0 : (x8_2 == ((Int.tmod (ji43) 2) == 1)) = false := by simpa using c44
            (try (have c44b1 : decide (x8_2 = ((Int.tmod (ji43) 2) == 1)) = false := by simpa using c44))
            (try (have c44b2 : (x8_2 == ((Int.tmod (ji43) 2) == 1)) = false := by simpa using c44))
            (try (have c44b3 : ¬ (x8_2 = ((Int.tmod (ji43) 2) == 1)) := by simpa using c44))
            clear c44
            have H' := Aside0.mk H
            clear H
            obtain ⟨Ao45, co45, eo45⟩ := Kd.R_slice HO_6.out
            subst eo45
            go_wp2
            go_roundg k2
            case measure => have := HK1.out; have := HK2.out; omega
            case rel => exact ⟨(wrap64 (x7_1 + 1)), (by first | rfl | (simp; done) | (simp [*]; done)), H', ⟨by have := HK1.out; have := HK2.out; omega⟩, ⟨vz HO_4⟩, ⟨rz HO_6⟩, ⟨rz HO_464001⟩, ⟨bz BK463⟩, ⟨by exact bh⟩⟩
          ·rw [if_neg c42] at H
           exact absurd H (by simp)
      ·rw [if_neg c33] at H
       have c33b0 : decide (x7_1 < t456) = false := decide_eq_false c33
       clear c33
       replace H := Option.bind_eq_some_iff.mp H
       obtain ⟨t471, A460, H⟩ := H
       replace H : ((impl_IdleIn.f k1 t456 t457 t471).bind fun t474 => (some (t474 == t464))) = some r := H
       have A46 := Aside0.mk A460
       clear A460
       replace H := Option.bind_eq_some_iff.mp H
       obtain ⟨t474, A470, H⟩ := H
       replace H : (some (t474 == t464)) = some r := H
       have A47 := Aside0.mk A470
       clear A470
       obtain rfl := Option.some.inj H
       have hcz48_0 := cz0 BK463
       have hcz48_1 := cz1 BK463
       have hfz48_0 := blk_frozen BK463.out 0
       have hfz48_1 := blk_frozen BK463.out 1
       try go_wp2
       have n0_ := Aside0.mk (Kd.V_drew HO_4.out)
       have n1_ := Aside0.mk (Kd.R_drew HO_6.out)
       have n2_ := Aside0.mk (Kd.R_drew HO_464001.out)
       have n3_ := Aside0.mk (blk_drew BK463.out)
       have n4_ := Aside0.mk (below_drew1 HB.out)
       clear HO_4 HO_6 HO_464001 BK463 HB
       have HO_4 := n0_
       have HO_6 := n1_
       have HO_464001 := n2_
       have BK463 := n3_
       have HB := n4_
       clear n0_ n1_ n2_ n3_ n4_
       refine start_ (n := 8) (S := fun w' => w'.cell? ⟨gb463, 0, none⟩ = some (.int .i64 t456) ∧ w'.cell? ⟨gb463, 1, none⟩ = some (.slice Ao26 t457.length co26)) (ds := []) #[F,F,F,F,F,F,F,F] kr rfl rfl ⟨cz0 BK463, cz1 BK463⟩ (fun hHeld => ?_); refine with_tabW laws_FnIdleIn.tab20 laws_FnIdleIn.bits20 (fun HT_ HW_ => ?_)
       generalize wr.drew = w49 at HO_4 HO_6 HO_464001 BK463 HB hHeld ⊢
       refine pu 2 (some 74) #[F,F,T,F,F,F,F,F] (any_of HT_.out kr) ?_
       refine pu 5 (some 77) #[F,F,T,F,F,T,F,F] (any_of HT_.out kr) ?_
       refine tk2 0 (some 72) #[T,F,T,F,F,T,F,F] (take_ofW HT_.out HW_.out kr) ?_
       refine tk2 1 (some 73) #[T,T,T,F,F,T,F,F] (take_ofW HT_.out HW_.out kr) ?_
       refine one_ (i := 3) (N := some 75) #[T,T,T,T,F,T,F,F] rfl rfl (one_of HT_.out kr) (by decide) (fun K hK => ?_)
       refine goes_ Try.func16 kr rfl #[.agg #[.int .i64 t456, .slice Ao26 t457.length co26], .slice Ao27 t460.length co27] (by rfl) rfl rfl lm ?_
       with_reducible refine (impl_DualTerm.calls k1 t456 _ _ t457 _ _ t460 t471 _ ?side1 ?side2 ?side3 ?side4 A46.out).mono ?_
       (case side1 => repeat (first | exact (Kd.R_reads' HO_464001.out).2.2 | (with_reducible refine Kd.C_alloc ?_ _) | (with_reducible refine Kd.C_drewN ?_ _) | (with_reducible refine Kd.C_drew ?_)))
       (case side2 => exact (Kd.R_reads' HO_464001.out).2.1)
       (case side3 => repeat (first | exact (Kd.V_reads' HO_4.out).2.2 | (with_reducible refine Kd.C_alloc ?_ _) | (with_reducible refine Kd.C_drewN ?_ _) | (with_reducible refine Kd.C_drew ?_)))
       (case side4 => exact (Kd.V_reads' HO_4.out).2.1)
       rintro e w50 ⟨v472, rfl, ho0, hb⟩
       refine ⟨_, rfl, ?_⟩
       have n0_ := Aside0.mk (Kd.V_elder' (vz HO_4) (Kd.R_base ho0) hb)
       have n1_ := Aside0.mk (Kd.R_below (rz HO_6) hb)
       have n2_ := Aside0.mk (Kd.R_below (rz HO_464001) hb)
       have n3_ := Aside0.mk (Kd.R_lower ho0 (below_size bh))
       have n4_ := Aside0.mk (blk_below (bz BK463) hb)
       have n5_ := Aside0.mk (below_step bh hb)
       clear HO_4 HO_6 HO_464001 BK463 HB
       have HO_4 := n0_
       have HO_6 := n1_
       have HO_464001 := n2_
       have HO473 := n3_
       have BK463 := n4_
       have HB := n5_
       clear n0_ n1_ n2_ n3_ n4_ n5_
       (try clear hb)
       (try clear hb2)
       (try clear hk)
       (try clear hi)
       (try clear ho0)
       obtain ⟨Ao51, co51, eo51⟩ := Kd.R_slice HO473.out
       (first | subst eo51 | (injection eo51 with f1_ f2_ f3_; have f4_ := f1_.symm; have f5_ := f3_.symm; clear f1_ f2_ f3_; subst f4_; subst f5_))
       refine hK.out _ _ ⟨cz0 BK463, cz1 BK463⟩ (fun hHeld => ?_)
       clear hK K
       refine norm_ (a' := ?_) ?_ ?_
       rotate_left
       ·show Act.put _ (some 75) _ = _
        simp only [Act.put, List.setIfInBounds_toArray, List.set_cons_zero, List.set_cons_succ, i64_w, i32_w]
        rfl
       refine one_ (i := 4) (N := some 76) #[T,T,T,T,T,T,F,F] rfl rfl (one_of HT_.out kr) (by decide) (fun K hK => ?_)
       refine goes_ Try.func42 kr rfl #[.agg #[.int .i64 t456, .slice Ao26 t457.length co26], .slice Ao51 t471.length co51] (by rfl) rfl rfl lm ?_
       with_reducible refine (impl_IdleIn.calls k1 t456 _ _ t457 _ _ t471 t474 _ ?side1 ?side2 ?side3 ?side4 A47.out).mono ?_
       (case side1 => repeat (first | exact (Kd.R_reads' HO_464001.out).2.2 | (with_reducible refine Kd.C_alloc ?_ _) | (with_reducible refine Kd.C_drewN ?_ _) | (with_reducible refine Kd.C_drew ?_)))
       (case side2 => exact (Kd.R_reads' HO_464001.out).2.1)
       (case side3 => repeat (first | exact (Kd.R_reads' HO473.out).2.2 | (with_reducible refine Kd.C_alloc ?_ _) | (with_reducible refine Kd.C_drewN ?_ _) | (with_reducible refine Kd.C_drew ?_)))
       (case side4 => exact (Kd.R_reads' HO473.out).2.1)
       rintro e w52 ⟨rfl, hb⟩
       refine ⟨_, rfl, ?_⟩
       have n0_ := Aside0.mk (Kd.V_below (vz HO_4) hb)
       have n1_ := Aside0.mk (Kd.R_below (rz HO_6) hb)
       have n2_ := Aside0.mk (Kd.R_below (rz HO_464001) hb)
       have n3_ := Aside0.mk (Kd.R_below (rz HO473) hb)
       have n4_ := Aside0.mk (blk_below (bz BK463) hb)
       have n5_ := Aside0.mk (below_step bh hb)
       clear HO_4 HO_6 HO_464001 HO473 BK463 HB
       have HO_4 := n0_
       have HO_6 := n1_
       have HO_464001 := n2_
       have HO473 := n3_
       have BK463 := n4_
       have HB := n5_
       clear n0_ n1_ n2_ n3_ n4_ n5_
       (try clear hb)
       (try clear hb2)
       (try clear hk)
       (try clear hi)
       refine hK.out _ _ ⟨cz0 BK463, cz1 BK463⟩ (fun hHeld => ?_)
       clear hK K
       refine norm_ (a' := ?_) ?_ ?_
       rotate_left
       ·show Act.put _ (some 76) _ = _
        simp only [Act.put, List.setIfInBounds_toArray, List.set_cons_zero, List.set_cons_succ, i64_w, i32_w]
        rfl
       refine pu 6 (some 78) #[T,T,T,T,T,T,T,F] (any_of HT_.out kr) ?_
       refine pu 7 (some 2) #[T,T,T,T,T,T,T,T] (any_of HT_.out kr) ?_
       refine done_ (done_of HT_.out kr) ?_
       try go_wp2
       go_ret
       exact ⟨by first | rfl | (simp [errW_none, errW_some] <;> rfl) | (simp [*, errW_none, errW_some] <;> rfl), by exact bh⟩
  ·rw [if_neg c6] at H
   exact absurd H (by simp)

/-- THE ONE PURE STATEMENT of laws_FnIdleIn: yours. -/
def laws_FnIdleIn.Pure : Prop := ∀ (l0 : List Int), l0.length ≤ maxLen → l0.length * 1 ≤ 140737488351232 → (∀ x ∈ l0, (Lit.int .u8 x).wf = true) → ∃ k, laws_FnIdleIn.f k l0 = some true
theorem laws_FnIdleIn.walk (P : laws_FnIdleIn.Pure) (a0 : Option Addr) (len0 cap0 : Nat) (z0 : List Int) (w : World) (w0 : (a0 = none ∧ len0 = 0 ∧ cap0 = 0 ∧ z0 = []) ∨ ∃ x, a0 = some x ∧ len0 ≤ cap0 ∧ cap0 ≤ maxLen ∧ z0.length = cap0 ∧ (∀ i, i < z0.length → w.cell? (x.add i) = some (.int .u8 (z0.getD i 0))) ∧ ∀ n ∈ z0, (Lit.int .u8 n).wf = true) (y0 : len0 * 1 ≤ 140737488351232) :
  Calls Try.prog 8 #[.slice a0 len0 cap0] w fun e w' => e = .returned (.bool true) ∧ Below w.heap.size w w' := by
 obtain ⟨l0, rfl, hr0, hm0, hw0, hc0⟩ := ReadsInt.ofRowC w0
 obtain ⟨k, h⟩ := P l0 hm0 y0 hw0
 refine (laws_FnIdleIn.calls k _ _ l0 true w (Kd.C_of_reads (d := (0 : Int)) (h1 := fun _ => rfl) hr0) hc0 h).mono ?_
 rintro e w' ⟨rfl, hd⟩
 exact ⟨rfl, hd⟩

end Go.Proofs.Ytaddlahbahedeaa.QFnIdleIn
