-- Printed for this claim by a turned copy of the print (wip/myprint). Lean checks it. Squeezed. Worded. Tightened.
import Derived.Test.YtaddlahbahedeaaQFnNeededInx0
import Derived.Test.YtaddlahbahedeaaQFnNeededInx2
import Derived.Test.YtaddlahbahedeaaQFnNeededInx9
import Derived.Test.YtaddlahbahedeaaQFnNeededInx12
import Derived.Test.YtaddlahbahedeaaQFnNeededInx13
import Derived.Test.YtaddlahbahedeaaQFnNeededInx17
namespace Go.Proofs.Ytaddlahbahedeaa.QFnNeededIn
open Go.RowKit Go.Proofs.YtaddlahbahedeaaW.PrintWords Go.Proofs.YtaddlahbahedeaaW.PrintLast Go.Proofs.YtaddlahbahedeaaW.PrintMore
attribute [local go_sem] max2_int min2_int max_two min_two max_three min_three max_four min_four Opens.cell_twice   -- for this text's walks alone
set_option linter.unusedVariables false
set_option linter.unusedSimpArgs false

/-! ### laws_FnNeededIn: function 7 -/
mutual
def laws_FnNeededIn.l0 : Nat → Int → List Int → List Int → Int → Int → List Int → Option (Bool)
 | 0, _, _, _, _, _, _ => none
 | k + 1, x5, x6, x7, x8, x454000, x454001 => if x8 < x454000 then (laws_FnNeededIn.l1 k x5 x6 x7 x8 true 0 x454000 x454001) else (some (decide ((x6.length : Int) > 0)))
def laws_FnNeededIn.l1 : Nat → Int → List Int → List Int → Int → Bool → Int → Int → List Int → Option (Bool)
 | 0, _, _, _, _, _, _, _, _ => none
 | k + 1, x5, x6, x7, x8, x9, x10, x454000, x454001 => if x10 < (x6.length : Int) then (if x9 = true then (if 0 ≤ x10 then (if 0 ≤ x8 then (laws_FnNeededIn.l1 k x5 x6 x7 x8 ((Int.tmod (shr .i64 (rd x6 x10) x8) 2) == 1) (wrap64 (x10 + 1)) x454000 x454001) else (none)) else (none)) else (laws_FnNeededIn.l1 k x5 x6 x7 x8 false (wrap64 (x10 + 1)) x454000 x454001)) else (if 0 ≤ x8 then (if (x9 != ((Int.tmod (shr .i64 x5 x8) 2) == 1)) = true then (none) else ((laws_hasInt.f k x7 (shl .i64 1 x8)).bind fun t468 => (if (t468 != x9) = true then (none) else (laws_FnNeededIn.l0 k x5 x6 x7 (wrap64 (x8 + 1)) x454000 x454001)))) else (none))
end
def laws_FnNeededIn.f (k : Nat) (l0 : List Int) : Option (Bool) := if (l0.length : Int) > 1048576 then (some true) else ((spec_DrawNeededIn.f k l0).bind fun bt446 => ((impl_NeededIn.f k bt446.1 bt446.2.1 bt446.2.2).bind fun t454 => ((spec_NeededIn.f k bt446.1 bt446.2.1 bt446.2.2).bind fun t455 => (if t454 = t455 then (if t454 < 0 then (if t454 = (-1) then ((impl_TermOk.f k bt446.1 bt446.2.1 bt446.2.2).bind fun t456 => (if t456 = true then (none) else ((laws_alive.f).bind fun t457 => (some t457)))) else (none)) else ((impl_LeastConsents.f k bt446.1 bt446.2.1 bt446.2.2).bind fun t458 => ((impl_DualTerm.f k bt446.1 bt446.2.1 bt446.2.2).bind fun t461 => ((impl_LeastConsents.f k bt446.1 bt446.2.1 t461).bind fun t464 => (laws_FnNeededIn.l0 k t454 t458 t464 0 bt446.1 bt446.2.1))))) else (none)))))
theorem laws_FnNeededIn.mono_l : ∀ k, (∀ y0 y1 y2 y3 y4 y5, LeO (laws_FnNeededIn.l0 k y0 y1 y2 y3 y4 y5) (laws_FnNeededIn.l0 (k + 1) y0 y1 y2 y3 y4 y5)) ∧ (∀ y0 y1 y2 y3 y4 y5 y6 y7, LeO (laws_FnNeededIn.l1 k y0 y1 y2 y3 y4 y5 y6 y7) (laws_FnNeededIn.l1 (k + 1) y0 y1 y2 y3 y4 y5 y6 y7))
 | 0 => ⟨fun _ _ _ _ _ _ r h => by simp [laws_FnNeededIn.l0] at h, fun _ _ _ _ _ _ _ _ r h => by simp [laws_FnNeededIn.l1] at h⟩
 | k + 1 => by
  obtain ⟨ih0, ih1⟩ := laws_FnNeededIn.mono_l k
  refine ⟨?_, ?_⟩
  ·intro y0 y1 y2 y3 y4 y5
   unfold laws_FnNeededIn.l0
   repeat' first
   | (with_reducible exact ih0 _ _ _ _ _ _)
   | (with_reducible exact ih1 _ _ _ _ _ _ _ _)
   | (with_reducible exact impl_DualTerm.mono _ _ _ _)
   | (with_reducible exact impl_LeastConsents.mono _ _ _ _)
   | (with_reducible exact impl_NeededIn.mono _ _ _ _)
   | (with_reducible exact impl_TermOk.mono _ _ _ _)
   | (with_reducible exact laws_hasInt.mono _ _ _)
   | (with_reducible exact spec_DrawNeededIn.mono _ _)
   | (with_reducible exact spec_NeededIn.mono _ _ _ _)
   | (with_reducible exact LeO.refl _)
   | (with_reducible exact LeO.none _)
   | (with_reducible refine LeO.ite ?_ ?_)
   | (with_reducible refine LeO.bind ?_ (fun _ => ?_))
   | exact ih0 _ _ _ _ _ _
   | exact ih1 _ _ _ _ _ _ _ _
   | exact impl_DualTerm.mono _ _ _ _
   | exact impl_LeastConsents.mono _ _ _ _
   | exact impl_NeededIn.mono _ _ _ _
   | exact impl_TermOk.mono _ _ _ _
   | exact laws_hasInt.mono _ _ _
   | exact spec_DrawNeededIn.mono _ _
   | exact spec_NeededIn.mono _ _ _ _
   | exact LeO.none _
   | refine LeO.ite ?_ ?_
   | refine LeO.bind ?_ (fun _ => ?_)
  ·intro y0 y1 y2 y3 y4 y5 y6 y7
   unfold laws_FnNeededIn.l1
   repeat' first
   | (with_reducible exact ih0 _ _ _ _ _ _)
   | (with_reducible exact ih1 _ _ _ _ _ _ _ _)
   | (with_reducible exact impl_DualTerm.mono _ _ _ _)
   | (with_reducible exact impl_LeastConsents.mono _ _ _ _)
   | (with_reducible exact impl_NeededIn.mono _ _ _ _)
   | (with_reducible exact impl_TermOk.mono _ _ _ _)
   | (with_reducible exact laws_hasInt.mono _ _ _)
   | (with_reducible exact spec_DrawNeededIn.mono _ _)
   | (with_reducible exact spec_NeededIn.mono _ _ _ _)
   | (with_reducible exact LeO.refl _)
   | (with_reducible exact LeO.none _)
   | (with_reducible refine LeO.ite ?_ ?_)
   | (with_reducible refine LeO.bind ?_ (fun _ => ?_))
   | exact ih0 _ _ _ _ _ _
   | exact ih1 _ _ _ _ _ _ _ _
   | exact impl_DualTerm.mono _ _ _ _
   | exact impl_LeastConsents.mono _ _ _ _
   | exact impl_NeededIn.mono _ _ _ _
   | exact impl_TermOk.mono _ _ _ _
   | exact laws_hasInt.mono _ _ _
   | exact spec_DrawNeededIn.mono _ _
   | exact spec_NeededIn.mono _ _ _ _
   | exact LeO.none _
   | refine LeO.ite ?_ ?_
   | refine LeO.bind ?_ (fun _ => ?_)
theorem laws_FnNeededIn.mono : ∀ a0 k, LeO (laws_FnNeededIn.f k a0) (laws_FnNeededIn.f (k + 1) a0) := by
 intro a0 k
 obtain ⟨ih0, ih1⟩ := laws_FnNeededIn.mono_l k
 unfold laws_FnNeededIn.f
 repeat' first
   | (with_reducible exact ih0 _ _ _ _ _ _)
   | (with_reducible exact ih1 _ _ _ _ _ _ _ _)
   | (with_reducible exact impl_DualTerm.mono _ _ _ _)
   | (with_reducible exact impl_LeastConsents.mono _ _ _ _)
   | (with_reducible exact impl_NeededIn.mono _ _ _ _)
   | (with_reducible exact impl_TermOk.mono _ _ _ _)
   | (with_reducible exact laws_hasInt.mono _ _ _)
   | (with_reducible exact spec_DrawNeededIn.mono _ _)
   | (with_reducible exact spec_NeededIn.mono _ _ _ _)
   | (with_reducible exact LeO.refl _)
   | (with_reducible exact LeO.none _)
   | (with_reducible refine LeO.ite ?_ ?_)
   | (with_reducible refine LeO.bind ?_ (fun _ => ?_))
   | exact ih0 _ _ _ _ _ _
   | exact ih1 _ _ _ _ _ _ _ _
   | exact impl_DualTerm.mono _ _ _ _
   | exact impl_LeastConsents.mono _ _ _ _
   | exact impl_NeededIn.mono _ _ _ _
   | exact impl_TermOk.mono _ _ _ _
   | exact laws_hasInt.mono _ _ _
   | exact spec_DrawNeededIn.mono _ _
   | exact spec_NeededIn.mono _ _ _ _
   | exact LeO.none _
   | refine LeO.ite ?_ ?_
   | refine LeO.bind ?_ (fun _ => ?_)
set_option maxHeartbeats 8000000 in
set_option maxRecDepth 100000 in
theorem laws_FnNeededIn.calls (k : Nat) (A0 : Option Addr) (c0 : Nat) (l0 : List Int) (r : Bool) (w : World) (hr0 : Kd.C (Kd.int .u8) w A0 l0.length l0) (hc0 : l0.length ≤ c0) (h : laws_FnNeededIn.f k l0 = some r) :
  Calls Try.prog 7 #[.slice A0 l0.length c0] w fun e w' => e = .returned (.bool r) ∧ Below w.heap.size w w' := by
 have hu25 := Try.underlying25
 have HR0 := Aside0.mk hr0
 have HC0 := Aside0.mk hc0
 clear hr0 hc0
 have HB := Aside0.mk (Below.refl w.heap.size w)
 have H : (if (l0.length : Int) > 1048576 then (some true) else ((spec_DrawNeededIn.f k l0).bind fun bt446 => ((impl_NeededIn.f k bt446.1 bt446.2.1 bt446.2.2).bind fun t454 => ((spec_NeededIn.f k bt446.1 bt446.2.1 bt446.2.2).bind fun t455 => (if t454 = t455 then (if t454 < 0 then (if t454 = (-1) then ((impl_TermOk.f k bt446.1 bt446.2.1 bt446.2.2).bind fun t456 => (if t456 = true then (none) else ((laws_alive.f).bind fun t457 => (some t457)))) else (none)) else ((impl_LeastConsents.f k bt446.1 bt446.2.1 bt446.2.2).bind fun t458 => ((impl_DualTerm.f k bt446.1 bt446.2.1 bt446.2.2).bind fun t461 => ((impl_LeastConsents.f k bt446.1 bt446.2.1 t461).bind fun t464 => (laws_FnNeededIn.l0 k t454 t458 t464 0 bt446.1 bt446.2.1))))) else (none)))))) = some r := h
 clear h
 by_cases c2 : (l0.length : Int) > 1048576
 ·rw [if_pos c2] at H
  have c2b0 : decide (1048576 < (l0.length : Int)) = true := decide_eq_true c2
  have c2b1 : decide (1048576 < l0.length) = true := decide_eq_true (by omega)
  clear c2
  obtain rfl := Option.some.inj H
  go_enter Try.func7, Try.ntmps7
  go_wp2
  go_ret
  exact ⟨by first | rfl | (simp [errW_none, errW_some] <;> rfl) | (simp [*, errW_none, errW_some] <;> rfl), by exact bh⟩
 ·rw [if_neg c2] at H
  have c2b0 : decide (1048576 < (l0.length : Int)) = false := decide_eq_false c2
  have c2b1 : decide (1048576 < l0.length) = false := decide_eq_false (by omega)
  clear c2
  replace H := Option.bind_eq_some_iff.mp H
  obtain ⟨⟨t446, t447, t450⟩, A30, H⟩ := H
  replace H : ((impl_NeededIn.f k t446 t447 t450).bind fun t454 => ((spec_NeededIn.f k t446 t447 t450).bind fun t455 => (if t454 = t455 then (if t454 < 0 then (if t454 = (-1) then ((impl_TermOk.f k t446 t447 t450).bind fun t456 => (if t456 = true then (none) else ((laws_alive.f).bind fun t457 => (some t457)))) else (none)) else ((impl_LeastConsents.f k t446 t447 t450).bind fun t458 => ((impl_DualTerm.f k t446 t447 t450).bind fun t461 => ((impl_LeastConsents.f k t446 t447 t461).bind fun t464 => (laws_FnNeededIn.l0 k t454 t458 t464 0 t446 t447))))) else (none)))) = some r := H
  have A3 := Aside0.mk A30
  clear A30
  replace H := Option.bind_eq_some_iff.mp H
  obtain ⟨t454, A40, H⟩ := H
  replace H : ((spec_NeededIn.f k t446 t447 t450).bind fun t455 => (if t454 = t455 then (if t454 < 0 then (if t454 = (-1) then ((impl_TermOk.f k t446 t447 t450).bind fun t456 => (if t456 = true then (none) else ((laws_alive.f).bind fun t457 => (some t457)))) else (none)) else ((impl_LeastConsents.f k t446 t447 t450).bind fun t458 => ((impl_DualTerm.f k t446 t447 t450).bind fun t461 => ((impl_LeastConsents.f k t446 t447 t461).bind fun t464 => (laws_FnNeededIn.l0 k t454 t458 t464 0 t446 t447))))) else (none))) = some r := H
  have A4 := Aside0.mk A40
  clear A40
  replace H := Option.bind_eq_some_iff.mp H
  obtain ⟨t455, A50, H⟩ := H
  replace H : (if t454 = t455 then (if t454 < 0 then (if t454 = (-1) then ((impl_TermOk.f k t446 t447 t450).bind fun t456 => (if t456 = true then (none) else ((laws_alive.f).bind fun t457 => (some t457)))) else (none)) else ((impl_LeastConsents.f k t446 t447 t450).bind fun t458 => ((impl_DualTerm.f k t446 t447 t450).bind fun t461 => ((impl_LeastConsents.f k t446 t447 t461).bind fun t464 => (laws_FnNeededIn.l0 k t454 t458 t464 0 t446 t447))))) else (none)) = some r := H
  have A5 := Aside0.mk A50
  clear A50
  by_cases c6 : t454 = t455
  ·rw [if_pos c6] at H
   have c6b0 : (t454 == t455) = true := beq_iff_eq.mpr c6
   have c6b1 : (t454 != t455) = false := bne_eq_false_iff_eq.mpr c6
   clear c6
   by_cases c7 : t454 < 0
   ·rw [if_pos c7] at H
    have c7b0 : decide (t454 < 0) = true := decide_eq_true c7
    clear c7
    by_cases c8 : t454 = (-1)
    ·rw [if_pos c8] at H
     have c8b0 : (t454 == (-1)) = true := beq_iff_eq.mpr c8
     have c8b1 : (t454 != (-1)) = false := bne_eq_false_iff_eq.mpr c8
     clear c8
     replace H := Option.bind_eq_some_iff.mp H
     obtain ⟨t456, A90, H⟩ := H
     replace H : (if t456 = true then (none) else ((laws_alive.f).bind fun t457 => (some t457))) = some r := H
     have A9 := Aside0.mk A90
     clear A90
     by_cases c10 : t456 = true
     ·subst c10
      have H1 : (none) = some r := by rw [if_pos rfl] at H; exact H
      clear H
      have H := H1
      clear H1
      exact absurd H (by simp)
     ·replace c10 := Bool.eq_false_iff.mpr c10
      subst c10
      have H1 : ((laws_alive.f).bind fun t457 => (some t457)) = some r := by rw [if_neg (show ¬ (false = true) by decide)] at H; exact H
      clear H
      have H := H1
      clear H1
      replace H := Option.bind_eq_some_iff.mp H
      obtain ⟨t457, A110, H⟩ := H
      replace H : (some t457) = some r := H
      have A11 := Aside0.mk A110
      clear A110
      obtain rfl := Option.some.inj H
      go_enter Try.func7, Try.ntmps7
      go_wp2_with (first | ((with_reducible refine gate_callee (f := 37) rfl ?_); refine goesL_ (some 16) rfl rfl Try.func37 kr rfl #[.slice A0 l0.length c0] rfl lm ?_; (with_reducible refine (spec_DrawNeededIn.calls k _ _ l0 t446 t447 t450 _ ?side1 ?side2 A3.out).mono ?_); (case side1 => repeat (first | exact HR0.out | (with_reducible refine Kd.C_alloc ?_ _) | (with_reducible refine Kd.C_drewN ?_ _) | (with_reducible refine Kd.C_drew ?_))); (case side2 => exact HC0.out); rintro e w12 ⟨v448, v451, rfl, ho0, ho1, hb⟩; refine ⟨_, rfl, ?_⟩; have n0_ := Aside0.mk (Kd.R_lower (Kd.R_mono (ok' := fun k_ => True) ho0 (fun _ hk_ => trivial)) (below_size bh)); have n1_ := Aside0.mk (Kd.V_lower (Kd.V_mono (ok' := fun k_ => some k_ ≠ (v448 : Value).ownBlock) ho1 (fun k_ hk_ => hk_.2)) (below_size bh)); have n2_ := Aside0.mk (below_step bh hb); clear HB; have HO449 := n0_; have HO452 := n1_; have HB := n2_; clear n0_ n1_ n2_; (try clear hb); (try clear hb2); (try clear hk); (try clear hi); (try clear ho0); (try clear ho1)) | ((with_reducible refine gate_dst (N := 3) rfl ?_); refine box_event ?hg (N := 3) ?hd (cs := #[.int .i64 0, .slice none 0 0]) (t := 25) ?hr ?_; (case hd => rfl); (case hg => rfl); (case hr => first | (go_simp; done) | (go_simp; rfl)); intro gb453 hg w13 hbox hb; have n0_ := Aside0.mk (Kd.R_below (rz HO449) hb); have n1_ := Aside0.mk (Kd.V_below (Kd.V_elderB (vz HO452) gb453 (Nat.le_of_eq hg.symm)) hb); have n2_ := Aside0.mk (below_step bh hb); have n3_ := Aside0.mk (hbox); have n4_ := Aside0.mk ((gs (W0 := w) hg bh)); have n5_ := Aside0.mk ((gs (W0 := w) hg bh)); clear HO449 HO452 HB; have HO449 := n0_; have HO452 := n1_; have HB := n2_; have BK453 := n3_; have GW453 := n4_; have GE453 := n5_; clear n0_ n1_ n2_ n3_ n4_ n5_ hb hbox hg; have hcz14_0 := cz0 BK453; have hcz14_1 := cz1 BK453; have hfz14_0 := blk_frozen BK453.out 0; have hfz14_1 := blk_frozen BK453.out 1; obtain ⟨Ao15, co15, eo15⟩ := Kd.R_slice HO449.out; subst eo15; obtain ⟨Ao16, co16, eo16⟩ := Kd.V_slice HO452.out; subst eo16) | ((with_reducible refine gate_callee (f := 38) rfl ?_); refine goesL_ (some 21) rfl rfl Try.func38 kr rfl #[.agg #[.int .i64 t446, .slice Ao15 t447.length co15], .slice Ao16 t450.length co16] rfl lm ?_; (with_reducible refine (impl_NeededIn.calls k t446 _ _ t447 _ _ t450 t454 _ ?side1 ?side2 ?side3 ?side4 A4.out).mono ?_); (case side1 => refine (Kd.R_reads' (e := 3) (base := w.heap.size) (ok := fun k_ => True) (n := t447.length) (c := co15) ?_).2.2; exact (fR HO449 BK453)); (case side2 => exact (Kd.R_reads' HO449.out).2.1); (case side3 => refine (Kd.V_reads' (e := 61) (base := w.heap.size) (ok := fun k_ => (some k_ ≠ (.slice Ao15 t447.length co15 : Value).ownBlock ∧ k_ ≠ gb453)) (n := t450.length) (c := co16) ?_).2.2; exact (uV HO452 (fun _ hk => hk.2))); (case side4 => exact (Kd.V_reads' HO452.out).2.1); rintro e w17 ⟨rfl, hb⟩; refine ⟨_, rfl, ?_⟩; have n0_ := Aside0.mk (Kd.R_below (fR HO449 BK453) hb); have n1_ := Aside0.mk (Kd.V_below (uV HO452 (fun _ hk => hk.2)) hb); have n2_ := Aside0.mk (blk_below (g := gb453) (o := .cells #[.int .i64 t446, .slice Ao15 t447.length co15] 25 (0, 0)) (bp BK453) hb); have n3_ := Aside0.mk (below_step bh hb); clear HO449 HO452 BK453 HB; have HO449 := n0_; have HO452 := n1_; have BK453 := n2_; have HB := n3_; clear n0_ n1_ n2_ n3_; (try clear hb); (try clear hb2); (try clear hk); (try clear hi); have hcz18_0 := cz0 BK453; have hcz18_1 := cz1 BK453; have hfz18_0 := blk_frozen BK453.out 0; have hfz18_1 := blk_frozen BK453.out 1) | ((with_reducible refine gate_callee (f := 39) rfl ?_); refine goesL_ (some 25) rfl rfl Try.func39 kr rfl #[.agg #[.int .i64 t446, .slice Ao15 t447.length co15], .slice Ao16 t450.length co16] rfl lm ?_; (with_reducible refine (spec_NeededIn.calls k t446 _ _ t447 _ _ t450 t455 _ ?side1 ?side2 ?side3 ?side4 A5.out).mono ?_); (case side1 => repeat (first | exact (Kd.R_reads' HO449.out).2.2 | (with_reducible refine Kd.C_alloc ?_ _) | (with_reducible refine Kd.C_drewN ?_ _) | (with_reducible refine Kd.C_drew ?_))); (case side2 => exact (Kd.R_reads' HO449.out).2.1); (case side3 => repeat (first | exact (Kd.V_reads' HO452.out).2.2 | (with_reducible refine Kd.C_alloc ?_ _) | (with_reducible refine Kd.C_drewN ?_ _) | (with_reducible refine Kd.C_drew ?_))); (case side4 => exact (Kd.V_reads' HO452.out).2.1); rintro e w19 ⟨rfl, hb⟩; refine ⟨_, rfl, ?_⟩; have n0_ := Aside0.mk (Kd.R_below (rz HO449) hb); have n1_ := Aside0.mk (Kd.V_below (vz HO452) hb); have n2_ := Aside0.mk (blk_below (bz BK453) hb); have n3_ := Aside0.mk (below_step bh hb); clear HO449 HO452 BK453 HB; have HO449 := n0_; have HO452 := n1_; have BK453 := n2_; have HB := n3_; clear n0_ n1_ n2_ n3_; (try clear hb); (try clear hb2); (try clear hk); (try clear hi); have hcz20_0 := cz0 BK453; have hcz20_1 := cz1 BK453; have hfz20_0 := blk_frozen BK453.out 0; have hfz20_1 := blk_frozen BK453.out 1) | (go_at_call 30; (with_reducible refine (impl_TermOk.calls k t446 _ _ t447 _ _ t450 false _ ?side1 ?side2 ?side3 ?side4 A9.out).mono ?_); (case side1 => repeat (first | exact (Kd.R_reads' HO449.out).2.2 | (with_reducible refine Kd.C_alloc ?_ _) | (with_reducible refine Kd.C_drewN ?_ _) | (with_reducible refine Kd.C_drew ?_))); (case side2 => exact (Kd.R_reads' HO449.out).2.1); (case side3 => repeat (first | exact (Kd.V_reads' HO452.out).2.2 | (with_reducible refine Kd.C_alloc ?_ _) | (with_reducible refine Kd.C_drewN ?_ _) | (with_reducible refine Kd.C_drew ?_))); (case side4 => exact (Kd.V_reads' HO452.out).2.1); rintro e w21 ⟨rfl, hb⟩; have n0_ := Aside0.mk (Kd.R_below (rz HO449) hb); have n1_ := Aside0.mk (Kd.V_below (vz HO452) hb); have n2_ := Aside0.mk (blk_below (bz BK453) hb); have n3_ := Aside0.mk (below_step bh hb); clear HO449 HO452 BK453 HB; have HO449 := n0_; have HO452 := n1_; have BK453 := n2_; have HB := n3_; clear n0_ n1_ n2_ n3_; (try clear hb); (try clear hb2); (try clear hk); (try clear hi)) | (go_at_call 13; (with_reducible refine (laws_alive.calls  t457 _ A11.out).mono ?_); rintro e w' ⟨rfl, ⟨nd, rfl⟩⟩))
      go_ret
      exact ⟨by first | rfl | (simp [errW_none, errW_some] <;> rfl) | (simp [*, errW_none, errW_some] <;> rfl), by exact bh⟩
    ·rw [if_neg c8] at H
     exact absurd H (by simp)
   ·rw [if_neg c7] at H
    have c7b0 : decide (t454 < 0) = false := decide_eq_false c7
    clear c7
    replace H := Option.bind_eq_some_iff.mp H
    obtain ⟨t458, A220, H⟩ := H
    replace H : ((impl_DualTerm.f k t446 t447 t450).bind fun t461 => ((impl_LeastConsents.f k t446 t447 t461).bind fun t464 => (laws_FnNeededIn.l0 k t454 t458 t464 0 t446 t447))) = some r := H
    have A22 := Aside0.mk A220
    clear A220
    replace H := Option.bind_eq_some_iff.mp H
    obtain ⟨t461, A230, H⟩ := H
    replace H : ((impl_LeastConsents.f k t446 t447 t461).bind fun t464 => (laws_FnNeededIn.l0 k t454 t458 t464 0 t446 t447)) = some r := H
    have A23 := Aside0.mk A230
    clear A230
    replace H := Option.bind_eq_some_iff.mp H
    obtain ⟨t464, A240, H⟩ := H
    replace H : (laws_FnNeededIn.l0 k t454 t458 t464 0 t446 t447) = some r := H
    have A24 := Aside0.mk A240
    clear A240
    have H' := Aside0.mk H
    clear H
    go_enter Try.func7, Try.ntmps7
    try go_wp2_with (first | ((with_reducible refine gate_callee (f := 37) rfl ?_); refine goesL_ (some 16) rfl rfl Try.func37 kr rfl #[.slice A0 l0.length c0] rfl lm ?_; (with_reducible refine (spec_DrawNeededIn.calls k _ _ l0 t446 t447 t450 _ ?side1 ?side2 A3.out).mono ?_); (case side1 => repeat (first | exact HR0.out | (with_reducible refine Kd.C_alloc ?_ _) | (with_reducible refine Kd.C_drewN ?_ _) | (with_reducible refine Kd.C_drew ?_))); (case side2 => exact HC0.out); rintro e w25 ⟨v448, v451, rfl, ho0, ho1, hb⟩; refine ⟨_, rfl, ?_⟩; have n0_ := Aside0.mk (Kd.R_lower (Kd.R_mono (ok' := fun k_ => True) ho0 (fun _ hk_ => trivial)) (below_size bh)); have n1_ := Aside0.mk (Kd.V_lower (Kd.V_mono (ok' := fun k_ => some k_ ≠ (v448 : Value).ownBlock) ho1 (fun k_ hk_ => hk_.2)) (below_size bh)); have n2_ := Aside0.mk (below_step bh hb); clear HB; have HO449 := n0_; have HO452 := n1_; have HB := n2_; clear n0_ n1_ n2_; (try clear hb); (try clear hb2); (try clear hk); (try clear hi); (try clear ho0); (try clear ho1)) | ((with_reducible refine gate_dst (N := 3) rfl ?_); refine box_event ?hg (N := 3) ?hd (cs := #[.int .i64 0, .slice none 0 0]) (t := 25) ?hr ?_; (case hd => rfl); (case hg => rfl); (case hr => first | (go_simp; done) | (go_simp; rfl)); intro gb453 hg w26 hbox hb; have n0_ := Aside0.mk (Kd.R_below (rz HO449) hb); have n1_ := Aside0.mk (Kd.V_below (Kd.V_elderB (vz HO452) gb453 (Nat.le_of_eq hg.symm)) hb); have n2_ := Aside0.mk (below_step bh hb); have n3_ := Aside0.mk (hbox); have n4_ := Aside0.mk ((gs (W0 := w) hg bh)); have n5_ := Aside0.mk ((gs (W0 := w) hg bh)); clear HO449 HO452 HB; have HO449 := n0_; have HO452 := n1_; have HB := n2_; have BK453 := n3_; have GW453 := n4_; have GE453 := n5_; clear n0_ n1_ n2_ n3_ n4_ n5_ hb hbox hg; have hcz27_0 := cz0 BK453; have hcz27_1 := cz1 BK453; have hfz27_0 := blk_frozen BK453.out 0; have hfz27_1 := blk_frozen BK453.out 1; obtain ⟨Ao28, co28, eo28⟩ := Kd.R_slice HO449.out; subst eo28; obtain ⟨Ao29, co29, eo29⟩ := Kd.V_slice HO452.out; subst eo29) | ((with_reducible refine gate_callee (f := 38) rfl ?_); refine goesL_ (some 21) rfl rfl Try.func38 kr rfl #[.agg #[.int .i64 t446, .slice Ao28 t447.length co28], .slice Ao29 t450.length co29] rfl lm ?_; (with_reducible refine (impl_NeededIn.calls k t446 _ _ t447 _ _ t450 t454 _ ?side1 ?side2 ?side3 ?side4 A4.out).mono ?_); (case side1 => refine (Kd.R_reads' (e := 3) (base := w.heap.size) (ok := fun k_ => True) (n := t447.length) (c := co28) ?_).2.2; exact (fR HO449 BK453)); (case side2 => exact (Kd.R_reads' HO449.out).2.1); (case side3 => refine (Kd.V_reads' (e := 61) (base := w.heap.size) (ok := fun k_ => (some k_ ≠ (.slice Ao28 t447.length co28 : Value).ownBlock ∧ k_ ≠ gb453)) (n := t450.length) (c := co29) ?_).2.2; exact (uV HO452 (fun _ hk => hk.2))); (case side4 => exact (Kd.V_reads' HO452.out).2.1); rintro e w30 ⟨rfl, hb⟩; refine ⟨_, rfl, ?_⟩; have n0_ := Aside0.mk (Kd.R_below (fR HO449 BK453) hb); have n1_ := Aside0.mk (Kd.V_below (uV HO452 (fun _ hk => hk.2)) hb); have n2_ := Aside0.mk (blk_below (g := gb453) (o := .cells #[.int .i64 t446, .slice Ao28 t447.length co28] 25 (0, 0)) (bp BK453) hb); have n3_ := Aside0.mk (below_step bh hb); clear HO449 HO452 BK453 HB; have HO449 := n0_; have HO452 := n1_; have BK453 := n2_; have HB := n3_; clear n0_ n1_ n2_ n3_; (try clear hb); (try clear hb2); (try clear hk); (try clear hi); have hcz31_0 := cz0 BK453; have hcz31_1 := cz1 BK453; have hfz31_0 := blk_frozen BK453.out 0; have hfz31_1 := blk_frozen BK453.out 1) | ((with_reducible refine gate_callee (f := 39) rfl ?_); refine goesL_ (some 25) rfl rfl Try.func39 kr rfl #[.agg #[.int .i64 t446, .slice Ao28 t447.length co28], .slice Ao29 t450.length co29] rfl lm ?_; (with_reducible refine (spec_NeededIn.calls k t446 _ _ t447 _ _ t450 t455 _ ?side1 ?side2 ?side3 ?side4 A5.out).mono ?_); (case side1 => repeat (first | exact (Kd.R_reads' HO449.out).2.2 | (with_reducible refine Kd.C_alloc ?_ _) | (with_reducible refine Kd.C_drewN ?_ _) | (with_reducible refine Kd.C_drew ?_))); (case side2 => exact (Kd.R_reads' HO449.out).2.1); (case side3 => repeat (first | exact (Kd.V_reads' HO452.out).2.2 | (with_reducible refine Kd.C_alloc ?_ _) | (with_reducible refine Kd.C_drewN ?_ _) | (with_reducible refine Kd.C_drew ?_))); (case side4 => exact (Kd.V_reads' HO452.out).2.1); rintro e w32 ⟨rfl, hb⟩; refine ⟨_, rfl, ?_⟩; have n0_ := Aside0.mk (Kd.R_below (rz HO449) hb); have n1_ := Aside0.mk (Kd.V_below (vz HO452) hb); have n2_ := Aside0.mk (blk_below (bz BK453) hb); have n3_ := Aside0.mk (below_step bh hb); clear HO449 HO452 BK453 HB; have HO449 := n0_; have HO452 := n1_; have BK453 := n2_; have HB := n3_; clear n0_ n1_ n2_ n3_; (try clear hb); (try clear hb2); (try clear hk); (try clear hi); have hcz33_0 := cz0 BK453; have hcz33_1 := cz1 BK453; have hfz33_0 := blk_frozen BK453.out 0; have hfz33_1 := blk_frozen BK453.out 1) | ((with_reducible refine gate_callee (f := 15) rfl ?_); refine goesL_ (some 42) rfl rfl Try.func15 kr rfl #[.agg #[.int .i64 t446, .slice Ao28 t447.length co28], .slice Ao29 t450.length co29] rfl lm ?_; (with_reducible refine (impl_LeastConsents.calls k t446 _ _ t447 _ _ t450 t458 _ ?side1 ?side2 ?side3 ?side4 A22.out).mono ?_); (case side1 => repeat (first | exact (Kd.R_reads' HO449.out).2.2 | (with_reducible refine Kd.C_alloc ?_ _) | (with_reducible refine Kd.C_drewN ?_ _) | (with_reducible refine Kd.C_drew ?_))); (case side2 => exact (Kd.R_reads' HO449.out).2.1); (case side3 => repeat (first | exact (Kd.V_reads' HO452.out).2.2 | (with_reducible refine Kd.C_alloc ?_ _) | (with_reducible refine Kd.C_drewN ?_ _) | (with_reducible refine Kd.C_drew ?_))); (case side4 => exact (Kd.V_reads' HO452.out).2.1); rintro e w34 ⟨v459, rfl, ho0, hb⟩; refine ⟨_, rfl, ?_⟩; have n0_ := Aside0.mk (Kd.R_elder' (rz HO449) (Kd.R_base ho0) hb); have n1_ := Aside0.mk (Kd.V_elder' (vz HO452) (Kd.R_base ho0) hb); have n2_ := Aside0.mk (Kd.R_lower (Kd.R_new' ho0 (Kd.R_lt (rz HO449))) (below_size bh)); have n3_ := Aside0.mk (blk_below (bz BK453) hb); have n4_ := Aside0.mk (below_step bh hb); clear HO449 HO452 BK453 HB; have HO449 := n0_; have HO452 := n1_; have HO460 := n2_; have BK453 := n3_; have HB := n4_; clear n0_ n1_ n2_ n3_ n4_; (try clear hb); (try clear hb2); (try clear hk); (try clear hi); (try clear ho0)))
    have n0_ := Aside0.mk (Kd.R_drew HO449.out)
    have n1_ := Aside0.mk (Kd.V_drew HO452.out)
    have n2_ := Aside0.mk (Kd.R_drew HO460.out)
    have n3_ := Aside0.mk (blk_drew BK453.out)
    have n4_ := Aside0.mk (below_drew1 HB.out)
    clear HO449 HO452 HO460 BK453 HB
    have HO449 := n0_
    have HO452 := n1_
    have HO460 := n2_
    have BK453 := n3_
    have HB := n4_
    clear n0_ n1_ n2_ n3_ n4_
    refine start_ (n := 6) (S := fun w' => w'.cell? ⟨gb453, 0, none⟩ = some (.int .i64 t446) ∧ w'.cell? ⟨gb453, 1, none⟩ = some (.slice Ao28 t447.length co28)) (ds := []) #[F,F,F,F,F,F] kr rfl rfl ⟨cz0 BK453, cz1 BK453⟩ (fun hHeld => ?_)
    generalize w34.drew = w35 at HO449 HO452 HO460 BK453 HB hHeld ⊢
    refine pu 2 (some 45) #[F,F,T,F,F,F] kr ?_
    refine tk2 0 (some 43) #[T,F,T,F,F,F] kr ?_
    refine tk2 1 (some 44) #[T,T,T,F,F,F] kr ?_
    refine one_ (i := 3) (N := some 46) #[T,T,T,T,F,F] rfl rfl kr (by decide) (fun K hK => ?_)
    refine goes_ Try.func16 kr rfl #[.agg #[.int .i64 t446, .slice Ao28 t447.length co28], .slice Ao29 t450.length co29] (by rfl) rfl rfl lm ?_
    with_reducible refine (impl_DualTerm.calls k t446 _ _ t447 _ _ t450 t461 _ ?side1 ?side2 ?side3 ?side4 A23.out).mono ?_
    (case side1 => repeat (first | exact (Kd.R_reads' HO449.out).2.2 | (with_reducible refine Kd.C_alloc ?_ _) | (with_reducible refine Kd.C_drewN ?_ _) | (with_reducible refine Kd.C_drew ?_)))
    (case side2 => exact (Kd.R_reads' HO449.out).2.1)
    (case side3 => repeat (first | exact (Kd.V_reads' HO452.out).2.2 | (with_reducible refine Kd.C_alloc ?_ _) | (with_reducible refine Kd.C_drewN ?_ _) | (with_reducible refine Kd.C_drew ?_)))
    (case side4 => exact (Kd.V_reads' HO452.out).2.1)
    rintro e w36 ⟨v462, rfl, ho0, hb⟩
    refine ⟨_, rfl, ?_⟩
    have n0_ := Aside0.mk (Kd.R_below (rz HO449) hb)
    have n1_ := Aside0.mk (Kd.V_elder' (vz HO452) (Kd.R_base ho0) hb)
    have n2_ := Aside0.mk (Kd.R_below (rz HO460) hb)
    have n3_ := Aside0.mk (Kd.R_lower ho0 (below_size bh))
    have n4_ := Aside0.mk (blk_below (bz BK453) hb)
    have n5_ := Aside0.mk (below_step bh hb)
    clear HO449 HO452 HO460 BK453 HB
    have HO449 := n0_
    have HO452 := n1_
    have HO460 := n2_
    have HO463 := n3_
    have BK453 := n4_
    have HB := n5_
    clear n0_ n1_ n2_ n3_ n4_ n5_
    (try clear hb)
    (try clear hb2)
    (try clear hk)
    (try clear hi)
    (try clear ho0)
    obtain ⟨Ao37, co37, eo37⟩ := Kd.R_slice HO463.out
    (first | subst eo37 | (injection eo37 with f1_ f2_ f3_; have f4_ := f1_.symm; have f5_ := f3_.symm; clear f1_ f2_ f3_; subst f4_; subst f5_))
    refine hK.out _ _ ⟨cz0 BK453, cz1 BK453⟩ (fun hHeld => ?_)
    clear hK K
    refine norm_ (a' := ?_) ?_ ?_
    rotate_left
    ·show Act.put _ (some 46) _ = _
     simp only [Act.put, List.setIfInBounds_toArray, List.set_cons_zero, List.set_cons_succ, i64_w, i32_w]
     rfl
    refine one_ (i := 4) (N := some 47) #[T,T,T,T,T,F] rfl rfl kr (by decide) (fun K hK => ?_)
    refine goes_ Try.func15 kr rfl #[.agg #[.int .i64 t446, .slice Ao28 t447.length co28], .slice Ao37 t461.length co37] (by rfl) rfl rfl lm ?_
    with_reducible refine (impl_LeastConsents.calls k t446 _ _ t447 _ _ t461 t464 _ ?side1 ?side2 ?side3 ?side4 A24.out).mono ?_
    (case side1 => repeat (first | exact (Kd.R_reads' HO449.out).2.2 | (with_reducible refine Kd.C_alloc ?_ _) | (with_reducible refine Kd.C_drewN ?_ _) | (with_reducible refine Kd.C_drew ?_)))
    (case side2 => exact (Kd.R_reads' HO449.out).2.1)
    (case side3 => repeat (first | exact (Kd.R_reads' HO463.out).2.2 | (with_reducible refine Kd.C_alloc ?_ _) | (with_reducible refine Kd.C_drewN ?_ _) | (with_reducible refine Kd.C_drew ?_)))
    (case side4 => exact (Kd.R_reads' HO463.out).2.1)
    rintro e w38 ⟨v465, rfl, ho0, hb⟩
    refine ⟨_, rfl, ?_⟩
    have n0_ := Aside0.mk (Kd.R_elder' (rz HO449) (Kd.R_base ho0) hb)
    have n1_ := Aside0.mk (Kd.V_elder' (vz HO452) (Kd.R_base ho0) hb)
    have n2_ := Aside0.mk (Kd.R_elder' (rz HO460) (Kd.R_base ho0) hb)
    have n3_ := Aside0.mk (Kd.R_below (rz HO463) hb)
    have n4_ := Aside0.mk (Kd.R_lower (Kd.R_new' (Kd.R_new' ho0 (Kd.R_lt (rz HO449))) (Kd.R_lt (rz HO460))) (below_size bh))
    have n5_ := Aside0.mk (blk_below (bz BK453) hb)
    have n6_ := Aside0.mk (below_step bh hb)
    clear HO449 HO452 HO460 HO463 BK453 HB
    have HO449 := n0_
    have HO452 := n1_
    have HO460 := n2_
    have HO463 := n3_
    have HO466 := n4_
    have BK453 := n5_
    have HB := n6_
    clear n0_ n1_ n2_ n3_ n4_ n5_ n6_
    (try clear hb)
    (try clear hb2)
    (try clear hk)
    (try clear hi)
    (try clear ho0)
    refine hK.out _ _ ⟨cz0 BK453, cz1 BK453⟩ (fun hHeld => ?_)
    clear hK K
    refine norm_ (a' := ?_) ?_ ?_
    rotate_left
    ·show Act.put _ (some 47) _ = _
     simp only [Act.put, List.setIfInBounds_toArray, List.set_cons_zero, List.set_cons_succ, i64_w, i32_w]
     rfl
    refine pu 5 (some 7) #[T,T,T,T,T,T] kr ?_
    refine done_ kr ?_
    try go_wp2
    go_loopg [8] k (fun kq v8 w' => ∃ (x8_1 : Int), v8 = .int .i64 x8_1 ∧ Aside0 (laws_FnNeededIn.l0 kq t454 t458 t464 x8_1 t446 t447 = some r) ∧ Aside0 (kq ≤ k) ∧ Aside0 (Kd.R (Kd.int .i64) 3 w' w.heap.size (fun k_ => some k_ ≠ (v465 : Value).ownBlock ∧ some k_ ≠ ((.slice Ao28 t447.length co28) : Value).ownBlock) v459 t458) ∧ Aside0 (Kd.R (Kd.int .i64) 3 w' w.heap.size (fun k_ => some k_ ≠ (v459 : Value).ownBlock ∧ some k_ ≠ ((.slice Ao28 t447.length co28) : Value).ownBlock) v465 t464) ∧ Aside0 (Kd.R (Kd.int .i64) 3 w' w.heap.size (fun k_ => some k_ ≠ (v459 : Value).ownBlock ∧ some k_ ≠ (v465 : Value).ownBlock) (.slice Ao28 t447.length co28) t447) ∧ Aside0 (w'.heap[gb453]? = some (.cells #[.int .i64 t446, (.slice Ao28 t447.length co28)] 25 (0, 0))) ∧ Aside0 (Below w.heap.size w w'))
    case atStart => exact ⟨(0), (by first | rfl | (simp; done) | (simp [*]; done)), H', ⟨Nat.le_refl _⟩, ⟨mR HO460⟩, ⟨mR HO466⟩, ⟨mR HO449⟩, ⟨bz BK453⟩, ⟨by exact bh⟩⟩
    case round =>
     clear H'
     try clear c1
     try clear c2
     try clear c2b0
     try clear c2b1
     try clear p2
     try clear c3
     try clear c6
     try clear c6b0
     try clear c6b1
     try clear c7
     try clear c7b0
     try clear c8
     try clear c8b0
     try clear c8b1
     try clear c10
     try clear c15
     try clear c16
     try clear c37
     try clear c38
     try clear hcz14_0
     try clear hcz14_1
     try clear hcz18_0
     try clear hcz18_1
     try clear hcz20_0
     try clear hcz20_1
     try clear hcz27_0
     try clear hcz27_1
     try clear hcz31_0
     try clear hcz31_1
     try clear hcz33_0
     try clear hcz33_1
     try clear hfz14_0
     try clear hfz14_1
     try clear hfz18_0
     try clear hfz18_1
     try clear hfz20_0
     try clear hfz20_1
     try clear hfz27_0
     try clear hfz27_1
     try clear hfz31_0
     try clear hfz31_1
     try clear hfz33_0
     try clear hfz33_1
     obtain ⟨x8_1, rfl, HA, HK1, HO_6, HO_7, HO_454001, BK453, HB⟩ := hrel
     cases gk with
     | zero => exact absurd HA.out (by simp [laws_FnNeededIn.l0])
     | succ k1 =>
      have H := HA.out
      clear HA
      simp only [laws_FnNeededIn.l0] at H
      by_cases c39 : x8_1 < t446
      ·rw [if_pos c39] at H
       have c39b0 : decide (x8_1 < t446) = true := decide_eq_true c39
       clear c39
       have H' := Aside0.mk H
       clear H
       have hcz40_0 := cz0 BK453
       have hcz40_1 := cz1 BK453
       have hfz40_0 := blk_frozen BK453.out 0
       have hfz40_1 := blk_frozen BK453.out 1
       go_wp2
       go_loopg [9, 10] k1 (fun kq v9 v10 w' => ∃ (x9_2 : Bool) (x10_2 : Int), v9 = .bool x9_2 ∧ v10 = .int .i64 x10_2 ∧ Aside0 (laws_FnNeededIn.l1 kq t454 t458 t464 x8_1 x9_2 x10_2 t446 t447 = some r) ∧ Aside0 (kq ≤ k1) ∧ Aside0 (Kd.R (Kd.int .i64) 3 w' w.heap.size (fun k_ => some k_ ≠ (v465 : Value).ownBlock ∧ some k_ ≠ ((.slice Ao28 t447.length co28) : Value).ownBlock) v459 t458) ∧ Aside0 (Kd.R (Kd.int .i64) 3 w' w.heap.size (fun k_ => some k_ ≠ (v459 : Value).ownBlock ∧ some k_ ≠ ((.slice Ao28 t447.length co28) : Value).ownBlock) v465 t464) ∧ Aside0 (Kd.R (Kd.int .i64) 3 w' w.heap.size (fun k_ => some k_ ≠ (v459 : Value).ownBlock ∧ some k_ ≠ (v465 : Value).ownBlock) (.slice Ao28 t447.length co28) t447) ∧ Aside0 (w'.heap[gb453]? = some (.cells #[.int .i64 t446, (.slice Ao28 t447.length co28)] 25 (0, 0))) ∧ Aside0 (Below w.heap.size w w'))
       case atStart => exact ⟨(true), (0), (by first | rfl | (simp; done) | (simp [*]; done)), (by first | rfl | (simp; done) | (simp [*]; done)), H', ⟨Nat.le_refl _⟩, ⟨rz HO_6⟩, ⟨rz HO_7⟩, ⟨rz HO_454001⟩, ⟨bz BK453⟩, ⟨by exact bh⟩⟩
       case round =>
        clear H'
        try clear c1
        try clear c2
        try clear c2b0
        try clear c2b1
        try clear p2
        try clear c3
        try clear c6
        try clear c6b0
        try clear c6b1
        try clear c7
        try clear c7b0
        try clear c8
        try clear c8b0
        try clear c8b1
        try clear c10
        try clear c15
        try clear c16
        try clear c37
        try clear c38
        try clear c39
        try clear c39b0
        try clear hcz14_0
        try clear hcz14_1
        try clear hcz18_0
        try clear hcz18_1
        try clear hcz20_0
        try clear hcz20_1
        try clear hcz27_0
        try clear hcz27_1
        try clear hcz31_0
        try clear hcz31_1
        try clear hcz33_0
        try clear hcz33_1
        try clear hcz40_0
        try clear hcz40_1
        try clear hfz14_0
        try clear hfz14_1
        try clear hfz18_0
        try clear hfz18_1
        try clear hfz20_0
        try clear hfz20_1
        try clear hfz27_0
        try clear hfz27_1
        try clear hfz31_0
        try clear hfz31_1
        try clear hfz33_0
        try clear hfz33_1
        try clear hfz40_0
        try clear hfz40_1
        try clear p2
        obtain ⟨x9_2, x10_2, rfl, rfl, HA, HK2, HO_6, HO_7, HO_454001, BK453, HB⟩ := hrel
        cases gk with
        | zero => exact absurd HA.out (by simp [laws_FnNeededIn.l1])
        | succ k2 =>
         have H := HA.out
         clear HA
         simp only [laws_FnNeededIn.l1] at H
         by_cases c41 : x10_2 < (t458.length : Int)
         ·rw [if_pos c41] at H
          have c41b0 : decide (x10_2 < (t458.length : Int)) = true := decide_eq_true c41
          clear c41
          by_cases c42 : x9_2 = true
          ·subst c42
           have H1 : (if 0 ≤ x10_2 then (if 0 ≤ x8_1 then (laws_FnNeededIn.l1 k2 t454 t458 t464 x8_1 ((Int.tmod (shr .i64 (rd t458 x10_2) x8_1) 2) == 1) (wrap64 (x10_2 + 1)) t446 t447) else (none)) else (none)) = some r := by rw [if_pos rfl] at H; exact H
           clear H
           have H := H1
           clear H1
           by_cases c43 : 0 ≤ x10_2
           ·rw [if_pos c43] at H
            have c43b0 : decide (0 ≤ x10_2) = true := decide_eq_true c43
            clear c43
            by_cases c44 : 0 ≤ x8_1
            ·rw [if_pos c44] at H
             have c44b0 := eq_true c44
             have c44b1 : decide (0 ≤ x8_1) = true := decide_eq_true c44
             clear c44
             obtain ⟨ji45, hji45⟩ : ∃ j_ : Int, (shr .i64 (rd t458 x10_2) x8_1) = j_ := ⟨_, rfl⟩
             replace H : (laws_FnNeededIn.l1 k2 t454 t458 t464 x8_1 ((Int.tmod (ji45) 2) == 1) (wrap64 (x10_2 + 1)) t446 t447) = some r := by first | (rw [hji45] at H; exact H) | (simp only [hji45] at H ⊢; exact H)
             have hji45_ : ((rd t458 x10_2) / 2 ^ min x8_1.toNat 64) = ji45 := hji45
             have hji45z : x8_1 ≤ 64 → ((rd t458 x10_2) / 2 ^ x8_1.toNat) = ji45 := shr_small hji45
             have H' := Aside0.mk H
             clear H
             obtain ⟨Ao46, co46, eo46⟩ := Kd.R_slice HO_6.out
             subst eo46
             have p467 : 0 ≤ (x10_2 : Int) := oda
             have q467 : x10_2 < (t458.length : Int) := oda
             obtain ⟨ad467, e467, hx467_0⟩ := Kd.at_int (Kd.R_reads' HO_6.out).2.2 x10_2 p467 q467
             cases e467
             replace p467 := eq_true p467
             replace q467 := eq_true q467
             go_wp2
             go_roundg k2
             case measure => have := HK1.out; have := HK2.out; omega
             case rel => exact ⟨(((Int.tmod (ji45) 2) == 1)), (wrap64 (x10_2 + 1)), (by first | rfl | (simp; done) | (simp only [← hji45] <;> (first | rfl | simp)) | (simp [*]; done)), (by first | rfl | (simp; done) | (simp [*]; done)), H', ⟨by have := HK1.out; have := HK2.out; omega⟩, ⟨rz HO_6⟩, ⟨rz HO_7⟩, ⟨rz HO_454001⟩, ⟨bz BK453⟩, ⟨by exact bh⟩⟩
            ·rw [if_neg c44] at H
             exact absurd H (by simp)
           ·rw [if_neg c43] at H
            exact absurd H (by simp)
          ·replace c42 := Bool.eq_false_iff.mpr c42
           subst c42
           have H1 : (laws_FnNeededIn.l1 k2 t454 t458 t464 x8_1 false (wrap64 (x10_2 + 1)) t446 t447) = some r := by rw [if_neg (show ¬ (false = true) by decide)] at H; exact H
           clear H
           have H := H1
           clear H1
           have H' := Aside0.mk H
           clear H
           obtain ⟨Ao47, co47, eo47⟩ := Kd.R_slice HO_6.out
           subst eo47
           go_wp2
           go_roundg k2
           case measure => have := HK1.out; have := HK2.out; omega
           case rel => exact ⟨(false), (wrap64 (x10_2 + 1)), (by first | rfl | (simp; done) | (simp [*]; done)), (by first | rfl | (simp; done) | (simp [*]; done)), H', ⟨by have := HK1.out; have := HK2.out; omega⟩, ⟨rz HO_6⟩, ⟨rz HO_7⟩, ⟨rz HO_454001⟩, ⟨bz BK453⟩, ⟨by exact bh⟩⟩
         ·rw [if_neg c41] at H
          have c41b0 : decide (x10_2 < (t458.length : Int)) = false := decide_eq_false c41
          clear c41
          by_cases c48 : 0 ≤ x8_1
          ·rw [if_pos c48] at H
           have c48b0 := eq_true c48
           have c48b1 : decide (0 ≤ x8_1) = true := decide_eq_true c48
           clear c48
           obtain ⟨ji49, hji49⟩ : ∃ j_ : Int, (shr .i64 t454 x8_1) = j_ := ⟨_, rfl⟩
           replace H : (if (x9_2 != ((Int.tmod (ji49) 2) == 1)) = true then (none) else ((laws_hasInt.f k2 t464 (shl .i64 1 x8_1)).bind fun t468 => (if (t468 != x9_2) = true then (none) else (laws_FnNeededIn.l0 k2 t454 t458 t464 (wrap64 (x8_1 + 1)) t446 t447)))) = some r := by first | (rw [hji49] at H; exact H) | (simp only [hji49] at H ⊢; exact H)
           have hji49_ : (t454 / 2 ^ min x8_1.toNat 64) = ji49 := hji49
           have hji49z : x8_1 ≤ 64 → (t454 / 2 ^ x8_1.toNat) = ji49 := shr_small hji49
           by_cases c50 : (x9_2 != ((Int.tmod (ji49) 2) == 1)) = true
           ·rw [if_pos c50] at H
            exact absurd H (by simp)
           ·rw [if_neg c50] at H
            have c50b0 : (x9_2 != ((Int.tmod (ji49) 2) == 1)) = false := by simpa using c50
            (try (have c50b1 : decide (x9_2 = ((Int.tmod (ji49) 2) == 1)) = true := by simpa using c50))
            (try (have c50b2 : (x9_2 == ((Int.tmod (ji49) 2) == 1)) = true := by simpa using c50))
            clear c50
            have c51b0 := eq_true (oda : 0 ≤ x8_1)
            obtain ⟨ji52, hji52⟩ : ∃ j_ : Int, (shl .i64 1 x8_1) = j_ := ⟨_, rfl⟩
            replace H : ((laws_hasInt.f k2 t464 (ji52)).bind fun t468 => (if (t468 != x9_2) = true then (none) else (laws_FnNeededIn.l0 k2 t454 t458 t464 (wrap64 (x8_1 + 1)) t446 t447))) = some r := by first | (rw [hji52] at H; exact H) | (simp only [hji52] at H ⊢; exact H)
            have hji52_ : (IntKind.i64.wrap (1 * 2 ^ min x8_1.toNat 64)) = ji52 := hji52
            have hji52z : x8_1 ≤ 64 → (IntKind.i64.wrap (1 * 2 ^ x8_1.toNat)) = ji52 := shl_small hji52
            have hji52u : (IntKind.i64.wrap (2 ^ min x8_1.toNat 64)) = ji52 := by have h_ := hji52_; rw [Int.one_mul] at h_; exact h_
            have hji52v : x8_1 ≤ 64 → (IntKind.i64.wrap (2 ^ x8_1.toNat)) = ji52 := fun hle_ => by have h_ := hji52z hle_; rw [Int.one_mul] at h_; exact h_
            have hji52y : (wrap64 (1 * 2 ^ min x8_1.toNat 64)) = ji52 := (i64_w _).symm.trans hji52_
            have hji52x : x8_1 ≤ 64 → (wrap64 (1 * 2 ^ x8_1.toNat)) = ji52 := fun h_ => (i64_w _).symm.trans (hji52z h_)
            replace H := Option.bind_eq_some_iff.mp H
            obtain ⟨t468, A530, H⟩ := H
            replace H : (if (t468 != x9_2) = true then (none) else (laws_FnNeededIn.l0 k2 t454 t458 t464 (wrap64 (x8_1 + 1)) t446 t447)) = some r := H
            have A53 := Aside0.mk A530
            clear A530
            by_cases c54 : (t468 != x9_2) = true
            ·rw [if_pos c54] at H
             exact absurd H (by simp)
            ·rw [if_neg c54] at H
             have c54b0 : (t468 != x9_2) = false := by simpa using c54
             (try (have c54b1 : decide (t468 = x9_2) = true := by simpa using c54))
             (try (have c54b2 : (t468 == x9_2) = true := by simpa using c54))
             clear c54
             have H' := Aside0.mk H
             clear H
             obtain ⟨Ao55, co55, eo55⟩ := Kd.R_slice HO_6.out
             subst eo55
             obtain ⟨Ao56, co56, eo56⟩ := Kd.R_slice HO_7.out
             subst eo56
             go_wp2_with (first | (go_at_call 40; (with_reducible refine (laws_hasInt.calls k2 _ _ t464 ji52 t468 _ ?side1 ?side2 A53.out).mono ?_); (case side1 => repeat (first | exact (Kd.R_reads' HO_7.out).2.2 | (with_reducible refine Kd.C_alloc ?_ _) | (with_reducible refine Kd.C_drewN ?_ _) | (with_reducible refine Kd.C_drew ?_))); (case side2 => exact (Kd.R_reads' HO_7.out).2.1); rintro e w' ⟨rfl, ⟨nd, rfl⟩⟩))
             go_roundg k2
             case measure => have := HK1.out; have := HK2.out; omega
             case rel => exact ⟨(wrap64 (x8_1 + 1)), (by first | rfl | (simp; done) | (simp [*]; done)), H', ⟨by have := HK1.out; have := HK2.out; omega⟩, ⟨rz HO_6⟩, ⟨rz HO_7⟩, ⟨rz HO_454001⟩, ⟨bz BK453⟩, ⟨by exact bh⟩⟩
          ·rw [if_neg c48] at H
           exact absurd H (by simp)
      ·rw [if_neg c39] at H
       have c39b0 : decide (x8_1 < t446) = false := decide_eq_false c39
       clear c39
       obtain rfl := Option.some.inj H
       have hcz57_0 := cz0 BK453
       have hcz57_1 := cz1 BK453
       have hfz57_0 := blk_frozen BK453.out 0
       have hfz57_1 := blk_frozen BK453.out 1
       obtain ⟨Ao58, co58, eo58⟩ := Kd.R_slice HO_6.out
       subst eo58
       go_wp2
       go_ret
       exact ⟨by first | rfl | (simp [errW_none, errW_some] <;> rfl) | (simp [*, errW_none, errW_some] <;> rfl), by exact bh⟩
  ·rw [if_neg c6] at H
   exact absurd H (by simp)

/-- THE ONE PURE STATEMENT of laws_FnNeededIn: yours. -/
def laws_FnNeededIn.Pure : Prop := ∀ (l0 : List Int), l0.length ≤ maxLen → l0.length * 1 ≤ 140737488351232 → (∀ x ∈ l0, (Lit.int .u8 x).wf = true) → ∃ k, laws_FnNeededIn.f k l0 = some true
theorem laws_FnNeededIn.walk (P : laws_FnNeededIn.Pure) (a0 : Option Addr) (len0 cap0 : Nat) (z0 : List Int) (w : World) (w0 : (a0 = none ∧ len0 = 0 ∧ cap0 = 0 ∧ z0 = []) ∨ ∃ x, a0 = some x ∧ len0 ≤ cap0 ∧ cap0 ≤ maxLen ∧ z0.length = cap0 ∧ (∀ i, i < z0.length → w.cell? (x.add i) = some (.int .u8 (z0.getD i 0))) ∧ ∀ n ∈ z0, (Lit.int .u8 n).wf = true) (y0 : len0 * 1 ≤ 140737488351232) :
  Calls Try.prog 7 #[.slice a0 len0 cap0] w fun e w' => e = .returned (.bool true) ∧ Below w.heap.size w w' := by
 obtain ⟨l0, rfl, hr0, hm0, hw0, hc0⟩ := ReadsInt.ofRowC w0
 obtain ⟨k, h⟩ := P l0 hm0 y0 hw0
 refine (laws_FnNeededIn.calls k _ _ l0 true w (Kd.C_of_reads (d := (0 : Int)) (h1 := fun _ => rfl) hr0) hc0 h).mono ?_
 rintro e w' ⟨rfl, hd⟩
 exact ⟨rfl, hd⟩

end Go.Proofs.Ytaddlahbahedeaa.QFnNeededIn
