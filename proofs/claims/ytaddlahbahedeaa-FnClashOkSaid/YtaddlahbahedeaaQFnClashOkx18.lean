-- Printed for this claim by a turned copy of the print (wip/myprint). Lean checks it. Squeezed. Worded. Tightened.
import Derived.Test.YtaddlahbahedeaaQFnClashOkx0
import Derived.Test.YtaddlahbahedeaaQFnClashOkx3
import Derived.Test.YtaddlahbahedeaaQFnClashOkx4
import Derived.Test.YtaddlahbahedeaaQFnClashOkx11
import Derived.Test.YtaddlahbahedeaaQFnClashOkx14
import Derived.Test.YtaddlahbahedeaaQFnClashOkx15
import Derived.Test.YtaddlahbahedeaaQFnClashOkx17
namespace Go.Proofs.Ytaddlahbahedeaa.QFnClashOk
open Go.RowKit Go.Proofs.YtaddlahbahedeaaW.PrintWords Go.Proofs.YtaddlahbahedeaaW.PrintLast Go.Proofs.YtaddlahbahedeaaW.PrintMore
attribute [local go_sem] max2_int min2_int max_two min_two max_three min_three max_four min_four Opens.cell_twice   -- for this text's walks alone
set_option linter.unusedVariables false
set_option linter.unusedSimpArgs false

/-! ### laws_FnClashOk: function 6 -/
mutual
def laws_FnClashOk.l0 : Nat → Bool → List Int → Bool → Int → Option (Bool)
 | 0, _, _, _, _ => none
 | k + 1, x5, x6, x7, x8 => if x8 < (x6.length : Int) then (laws_FnClashOk.l1 k x5 x6 x7 x8 0) else (if (x5 == x7) = true then ((laws_alive.f).bind fun t457 => (some t457)) else (none))
def laws_FnClashOk.l1 : Nat → Bool → List Int → Bool → Int → Int → Option (Bool)
 | 0, _, _, _, _, _ => none
 | k + 1, x5, x6, x7, x8, x9 => if x9 < x8 then (if x7 = true then (laws_FnClashOk.l1 k x5 x6 true x8 (wrap64 (x9 + 1))) else (if 0 ≤ x8 then (if x8 < (x6.length : Int) then (if 0 ≤ x9 then (if x9 < (x6.length : Int) then (laws_FnClashOk.l1 k x5 x6 ((Go.bits .and .i64 (rd x6 x8) (rd x6 x9)) == 0) x8 (wrap64 (x9 + 1))) else (none)) else (none)) else (none)) else (none))) else (laws_FnClashOk.l0 k x5 x6 x7 (wrap64 (x8 + 1)))
end
def laws_FnClashOk.f (k : Nat) (l0 : List Int) : Option (Bool) := if (l0.length : Int) > 1048576 then (some true) else ((spec_DrawClashOk.f k l0).bind fun bt442 => ((impl_ClashOk.f k bt442.1 bt442.2.1 bt442.2.2).bind fun t450 => ((spec_ClashOk.f k bt442.1 bt442.2.1 bt442.2.2).bind fun t451 => (if (t450 != t451) = true then (none) else ((spec_TermOk.f k bt442.1 bt442.2.1 bt442.2.2).bind fun t452 => (if t452 = true then ((impl_LeastConsents.f k bt442.1 bt442.2.1 bt442.2.2).bind fun t454 => (laws_FnClashOk.l0 k t450 t454 false 0)) else (if t450 = true then (none) else ((laws_alive.f).bind fun t453 => (some t453)))))))))
theorem laws_FnClashOk.mono_l : ∀ k, (∀ y0 y1 y2 y3, LeO (laws_FnClashOk.l0 k y0 y1 y2 y3) (laws_FnClashOk.l0 (k + 1) y0 y1 y2 y3)) ∧ (∀ y0 y1 y2 y3 y4, LeO (laws_FnClashOk.l1 k y0 y1 y2 y3 y4) (laws_FnClashOk.l1 (k + 1) y0 y1 y2 y3 y4))
 | 0 => ⟨fun _ _ _ _ r h => by simp [laws_FnClashOk.l0] at h, fun _ _ _ _ _ r h => by simp [laws_FnClashOk.l1] at h⟩
 | k + 1 => by
  obtain ⟨ih0, ih1⟩ := laws_FnClashOk.mono_l k
  refine ⟨?_, ?_⟩
  ·intro y0 y1 y2 y3
   unfold laws_FnClashOk.l0
   repeat' first
   | (with_reducible exact ih0 _ _ _ _)
   | (with_reducible exact ih1 _ _ _ _ _)
   | (with_reducible exact impl_ClashOk.mono _ _ _ _)
   | (with_reducible exact impl_LeastConsents.mono _ _ _ _)
   | (with_reducible exact spec_ClashOk.mono _ _ _ _)
   | (with_reducible exact spec_DrawClashOk.mono _ _)
   | (with_reducible exact spec_TermOk.mono _ _ _ _)
   | (with_reducible exact LeO.refl _)
   | (with_reducible exact LeO.none _)
   | (with_reducible refine LeO.ite ?_ ?_)
   | (with_reducible refine LeO.bind ?_ (fun _ => ?_))
   | exact ih0 _ _ _ _
   | exact ih1 _ _ _ _ _
   | exact impl_ClashOk.mono _ _ _ _
   | exact impl_LeastConsents.mono _ _ _ _
   | exact spec_ClashOk.mono _ _ _ _
   | exact spec_DrawClashOk.mono _ _
   | exact spec_TermOk.mono _ _ _ _
   | exact LeO.none _
   | refine LeO.ite ?_ ?_
   | refine LeO.bind ?_ (fun _ => ?_)
  ·intro y0 y1 y2 y3 y4
   unfold laws_FnClashOk.l1
   repeat' first
   | (with_reducible exact ih0 _ _ _ _)
   | (with_reducible exact ih1 _ _ _ _ _)
   | (with_reducible exact impl_ClashOk.mono _ _ _ _)
   | (with_reducible exact impl_LeastConsents.mono _ _ _ _)
   | (with_reducible exact spec_ClashOk.mono _ _ _ _)
   | (with_reducible exact spec_DrawClashOk.mono _ _)
   | (with_reducible exact spec_TermOk.mono _ _ _ _)
   | (with_reducible exact LeO.refl _)
   | (with_reducible exact LeO.none _)
   | (with_reducible refine LeO.ite ?_ ?_)
   | (with_reducible refine LeO.bind ?_ (fun _ => ?_))
   | exact ih0 _ _ _ _
   | exact ih1 _ _ _ _ _
   | exact impl_ClashOk.mono _ _ _ _
   | exact impl_LeastConsents.mono _ _ _ _
   | exact spec_ClashOk.mono _ _ _ _
   | exact spec_DrawClashOk.mono _ _
   | exact spec_TermOk.mono _ _ _ _
   | exact LeO.none _
   | refine LeO.ite ?_ ?_
   | refine LeO.bind ?_ (fun _ => ?_)
theorem laws_FnClashOk.mono : ∀ a0 k, LeO (laws_FnClashOk.f k a0) (laws_FnClashOk.f (k + 1) a0) := by
 intro a0 k
 obtain ⟨ih0, ih1⟩ := laws_FnClashOk.mono_l k
 unfold laws_FnClashOk.f
 repeat' first
   | (with_reducible exact ih0 _ _ _ _)
   | (with_reducible exact ih1 _ _ _ _ _)
   | (with_reducible exact impl_ClashOk.mono _ _ _ _)
   | (with_reducible exact impl_LeastConsents.mono _ _ _ _)
   | (with_reducible exact spec_ClashOk.mono _ _ _ _)
   | (with_reducible exact spec_DrawClashOk.mono _ _)
   | (with_reducible exact spec_TermOk.mono _ _ _ _)
   | (with_reducible exact LeO.refl _)
   | (with_reducible exact LeO.none _)
   | (with_reducible refine LeO.ite ?_ ?_)
   | (with_reducible refine LeO.bind ?_ (fun _ => ?_))
   | exact ih0 _ _ _ _
   | exact ih1 _ _ _ _ _
   | exact impl_ClashOk.mono _ _ _ _
   | exact impl_LeastConsents.mono _ _ _ _
   | exact spec_ClashOk.mono _ _ _ _
   | exact spec_DrawClashOk.mono _ _
   | exact spec_TermOk.mono _ _ _ _
   | exact LeO.none _
   | refine LeO.ite ?_ ?_
   | refine LeO.bind ?_ (fun _ => ?_)
set_option maxHeartbeats 8000000 in
set_option maxRecDepth 100000 in
theorem laws_FnClashOk.calls (k : Nat) (A0 : Option Addr) (c0 : Nat) (l0 : List Int) (r : Bool) (w : World) (hr0 : Kd.C (Kd.int .u8) w A0 l0.length l0) (hc0 : l0.length ≤ c0) (h : laws_FnClashOk.f k l0 = some r) :
  Calls Try.prog 6 #[.slice A0 l0.length c0] w fun e w' => e = .returned (.bool r) ∧ Below w.heap.size w w' := by
 have hu25 := Try.underlying25
 have HR0 := Aside0.mk hr0
 have HC0 := Aside0.mk hc0
 clear hr0 hc0
 have HB := Aside0.mk (Below.refl w.heap.size w)
 have H : (if (l0.length : Int) > 1048576 then (some true) else ((spec_DrawClashOk.f k l0).bind fun bt442 => ((impl_ClashOk.f k bt442.1 bt442.2.1 bt442.2.2).bind fun t450 => ((spec_ClashOk.f k bt442.1 bt442.2.1 bt442.2.2).bind fun t451 => (if (t450 != t451) = true then (none) else ((spec_TermOk.f k bt442.1 bt442.2.1 bt442.2.2).bind fun t452 => (if t452 = true then ((impl_LeastConsents.f k bt442.1 bt442.2.1 bt442.2.2).bind fun t454 => (laws_FnClashOk.l0 k t450 t454 false 0)) else (if t450 = true then (none) else ((laws_alive.f).bind fun t453 => (some t453)))))))))) = some r := h
 clear h
 by_cases c2 : (l0.length : Int) > 1048576
 ·rw [if_pos c2] at H
  have c2b0 : decide (1048576 < (l0.length : Int)) = true := decide_eq_true c2
  have c2b1 : decide (1048576 < l0.length) = true := decide_eq_true (by omega)
  clear c2
  obtain rfl := Option.some.inj H
  go_enter Try.func6, Try.ntmps6
  go_wp2
  repeat (go_quiet (fail); try go_wp2)
  go_ret
  exact ⟨by first | rfl | (simp [errW_none, errW_some] <;> rfl) | (simp [*, errW_none, errW_some] <;> rfl), by exact bh⟩
 ·rw [if_neg c2] at H
  have c2b0 : decide (1048576 < (l0.length : Int)) = false := decide_eq_false c2
  have c2b1 : decide (1048576 < l0.length) = false := decide_eq_false (by omega)
  clear c2
  replace H := Option.bind_eq_some_iff.mp H
  obtain ⟨⟨t442, t443, t446⟩, A30, H⟩ := H
  replace H : ((impl_ClashOk.f k t442 t443 t446).bind fun t450 => ((spec_ClashOk.f k t442 t443 t446).bind fun t451 => (if (t450 != t451) = true then (none) else ((spec_TermOk.f k t442 t443 t446).bind fun t452 => (if t452 = true then ((impl_LeastConsents.f k t442 t443 t446).bind fun t454 => (laws_FnClashOk.l0 k t450 t454 false 0)) else (if t450 = true then (none) else ((laws_alive.f).bind fun t453 => (some t453)))))))) = some r := H
  have A3 := Aside0.mk A30
  clear A30
  replace H := Option.bind_eq_some_iff.mp H
  obtain ⟨t450, A40, H⟩ := H
  replace H : ((spec_ClashOk.f k t442 t443 t446).bind fun t451 => (if (t450 != t451) = true then (none) else ((spec_TermOk.f k t442 t443 t446).bind fun t452 => (if t452 = true then ((impl_LeastConsents.f k t442 t443 t446).bind fun t454 => (laws_FnClashOk.l0 k t450 t454 false 0)) else (if t450 = true then (none) else ((laws_alive.f).bind fun t453 => (some t453))))))) = some r := H
  have A4 := Aside0.mk A40
  clear A40
  replace H := Option.bind_eq_some_iff.mp H
  obtain ⟨t451, A50, H⟩ := H
  replace H : (if (t450 != t451) = true then (none) else ((spec_TermOk.f k t442 t443 t446).bind fun t452 => (if t452 = true then ((impl_LeastConsents.f k t442 t443 t446).bind fun t454 => (laws_FnClashOk.l0 k t450 t454 false 0)) else (if t450 = true then (none) else ((laws_alive.f).bind fun t453 => (some t453)))))) = some r := H
  have A5 := Aside0.mk A50
  clear A50
  by_cases c6 : (t450 != t451) = true
  ·rw [if_pos c6] at H
   exact absurd H (by simp)
  ·rw [if_neg c6] at H
   have c6b0 : (t450 != t451) = false := by simpa using c6
   (try (have c6b1 : decide (t450 = t451) = true := by simpa using c6))
   (try (have c6b2 : (t450 == t451) = true := by simpa using c6))
   clear c6
   replace H := Option.bind_eq_some_iff.mp H
   obtain ⟨t452, A70, H⟩ := H
   replace H : (if t452 = true then ((impl_LeastConsents.f k t442 t443 t446).bind fun t454 => (laws_FnClashOk.l0 k t450 t454 false 0)) else (if t450 = true then (none) else ((laws_alive.f).bind fun t453 => (some t453)))) = some r := H
   have A7 := Aside0.mk A70
   clear A70
   by_cases c8 : t452 = true
   ·subst c8
    have H1 : ((impl_LeastConsents.f k t442 t443 t446).bind fun t454 => (laws_FnClashOk.l0 k t450 t454 false 0)) = some r := by rw [if_pos rfl] at H; exact H
    clear H
    have H := H1
    clear H1
    replace H := Option.bind_eq_some_iff.mp H
    obtain ⟨t454, A90, H⟩ := H
    replace H : (laws_FnClashOk.l0 k t450 t454 false 0) = some r := H
    have A9 := Aside0.mk A90
    clear A90
    have H' := Aside0.mk H
    clear H
    go_enter Try.func6, Try.ntmps6
    go_wp2_with (first | (go_at_call 34; (with_reducible refine (spec_DrawClashOk.calls k _ _ l0 t442 t443 t446 _ ?side1 ?side2 A3.out).mono ?_); (case side1 => repeat (first | exact HR0.out | (with_reducible refine Kd.C_alloc ?_ _) | (with_reducible refine Kd.C_drewN ?_ _) | (with_reducible refine Kd.C_drew ?_))); (case side2 => exact HC0.out); rintro e w10 ⟨v444, v447, rfl, ho0, ho1, hb⟩; have n0_ := Aside0.mk (Kd.R_lower (Kd.R_mono (ok' := fun k_ => True) ho0 (fun _ hk_ => trivial)) (below_size bh)); have n1_ := Aside0.mk (Kd.V_lower (Kd.V_mono (ok' := fun k_ => some k_ ≠ (v444 : Value).ownBlock) ho1 (fun k_ hk_ => hk_.2)) (below_size bh)); have n2_ := Aside0.mk (below_step bh hb); clear HB; have HO445 := n0_; have HO448 := n1_; have HB := n2_; clear n0_ n1_ n2_; (try clear hb); (try clear hb2); (try clear hk); (try clear hi); (try clear ho0); (try clear ho1)) | ((with_reducible refine gate_dst (N := 3) rfl ?_); refine box_event ?hg (N := 3) ?hd (cs := #[.int .i64 0, .slice none 0 0]) (t := 25) ?hr ?_; (case hd => rfl); (case hg => rfl); (case hr => first | (go_simp; done) | (go_simp; rfl)); intro gb449 hg w11 hbox hb; have n0_ := Aside0.mk (Kd.R_below (rz HO445) hb); have n1_ := Aside0.mk (Kd.V_below (Kd.V_elderB (vz HO448) gb449 (Nat.le_of_eq hg.symm)) hb); have n2_ := Aside0.mk (below_step bh hb); have n3_ := Aside0.mk (hbox); have n4_ := Aside0.mk ((gs (W0 := w) hg bh)); have n5_ := Aside0.mk ((gs (W0 := w) hg bh)); clear HO445 HO448 HB; have HO445 := n0_; have HO448 := n1_; have HB := n2_; have BK449 := n3_; have GW449 := n4_; have GE449 := n5_; clear n0_ n1_ n2_ n3_ n4_ n5_ hb hbox hg; have hcz12_0 := cz0 BK449; have hcz12_1 := cz1 BK449; have hfz12_0 := blk_frozen BK449.out 0; have hfz12_1 := blk_frozen BK449.out 1; obtain ⟨Ao13, co13, eo13⟩ := Kd.R_slice HO445.out; subst eo13; obtain ⟨Ao14, co14, eo14⟩ := Kd.V_slice HO448.out; subst eo14) | (go_at_call 35; (with_reducible refine (impl_ClashOk.calls k t442 _ _ t443 _ _ t446 t450 _ ?side1 ?side2 ?side3 ?side4 A4.out).mono ?_); (case side1 => refine (Kd.R_reads' (e := 3) (base := w.heap.size) (ok := fun k_ => True) (n := t443.length) (c := co13) ?_).2.2; exact (fR HO445 BK449)); (case side2 => exact (Kd.R_reads' HO445.out).2.1); (case side3 => refine (Kd.V_reads' (e := 61) (base := w.heap.size) (ok := fun k_ => (some k_ ≠ (.slice Ao13 t443.length co13 : Value).ownBlock ∧ k_ ≠ gb449)) (n := t446.length) (c := co14) ?_).2.2; exact (uV HO448 (fun _ hk => hk.2))); (case side4 => exact (Kd.V_reads' HO448.out).2.1); rintro e w15 ⟨rfl, hb⟩; have n0_ := Aside0.mk (Kd.R_below (fR HO445 BK449) hb); have n1_ := Aside0.mk (Kd.V_below (uV HO448 (fun _ hk => hk.2)) hb); have n2_ := Aside0.mk (blk_below (g := gb449) (o := .cells #[.int .i64 t442, .slice Ao13 t443.length co13] 25 (0, 0)) (bp BK449) hb); have n3_ := Aside0.mk (below_step bh hb); clear HO445 HO448 BK449 HB; have HO445 := n0_; have HO448 := n1_; have BK449 := n2_; have HB := n3_; clear n0_ n1_ n2_ n3_; (try clear hb); (try clear hb2); (try clear hk); (try clear hi); have hcz16_0 := cz0 BK449; have hcz16_1 := cz1 BK449; have hfz16_0 := blk_frozen BK449.out 0; have hfz16_1 := blk_frozen BK449.out 1) | (go_at_call 36; (with_reducible refine (spec_ClashOk.calls k t442 _ _ t443 _ _ t446 t451 _ ?side1 ?side2 ?side3 ?side4 A5.out).mono ?_); (case side1 => repeat (first | exact (Kd.R_reads' HO445.out).2.2 | (with_reducible refine Kd.C_alloc ?_ _) | (with_reducible refine Kd.C_drewN ?_ _) | (with_reducible refine Kd.C_drew ?_))); (case side2 => exact (Kd.R_reads' HO445.out).2.1); (case side3 => repeat (first | exact (Kd.V_reads' HO448.out).2.2 | (with_reducible refine Kd.C_alloc ?_ _) | (with_reducible refine Kd.C_drewN ?_ _) | (with_reducible refine Kd.C_drew ?_))); (case side4 => exact (Kd.V_reads' HO448.out).2.1); rintro e w17 ⟨rfl, hb⟩; have n0_ := Aside0.mk (Kd.R_below (rz HO445) hb); have n1_ := Aside0.mk (Kd.V_below (vz HO448) hb); have n2_ := Aside0.mk (blk_below (bz BK449) hb); have n3_ := Aside0.mk (below_step bh hb); clear HO445 HO448 BK449 HB; have HO445 := n0_; have HO448 := n1_; have BK449 := n2_; have HB := n3_; clear n0_ n1_ n2_ n3_; (try clear hb); (try clear hb2); (try clear hk); (try clear hi); have hcz18_0 := cz0 BK449; have hcz18_1 := cz1 BK449; have hfz18_0 := blk_frozen BK449.out 0; have hfz18_1 := blk_frozen BK449.out 1) | (go_at_call 12; (with_reducible refine (spec_TermOk.calls k t442 _ _ t443 _ _ t446 true _ ?side1 ?side2 ?side3 ?side4 A7.out).mono ?_); (case side1 => repeat (first | exact (Kd.R_reads' HO445.out).2.2 | (with_reducible refine Kd.C_alloc ?_ _) | (with_reducible refine Kd.C_drewN ?_ _) | (with_reducible refine Kd.C_drew ?_))); (case side2 => exact (Kd.R_reads' HO445.out).2.1); (case side3 => repeat (first | exact (Kd.V_reads' HO448.out).2.2 | (with_reducible refine Kd.C_alloc ?_ _) | (with_reducible refine Kd.C_drewN ?_ _) | (with_reducible refine Kd.C_drew ?_))); (case side4 => exact (Kd.V_reads' HO448.out).2.1); rintro e w19 ⟨rfl, hb⟩; have n0_ := Aside0.mk (Kd.R_below (rz HO445) hb); have n1_ := Aside0.mk (Kd.V_below (vz HO448) hb); have n2_ := Aside0.mk (blk_below (bz BK449) hb); have n3_ := Aside0.mk (below_step bh hb); clear HO445 HO448 BK449 HB; have HO445 := n0_; have HO448 := n1_; have BK449 := n2_; have HB := n3_; clear n0_ n1_ n2_ n3_; (try clear hb); (try clear hb2); (try clear hk); (try clear hi); have hcz20_0 := cz0 BK449; have hcz20_1 := cz1 BK449; have hfz20_0 := blk_frozen BK449.out 0; have hfz20_1 := blk_frozen BK449.out 1) | (go_at_call 15; (with_reducible refine (impl_LeastConsents.calls k t442 _ _ t443 _ _ t446 t454 _ ?side1 ?side2 ?side3 ?side4 A9.out).mono ?_); (case side1 => repeat (first | exact (Kd.R_reads' HO445.out).2.2 | (with_reducible refine Kd.C_alloc ?_ _) | (with_reducible refine Kd.C_drewN ?_ _) | (with_reducible refine Kd.C_drew ?_))); (case side2 => exact (Kd.R_reads' HO445.out).2.1); (case side3 => repeat (first | exact (Kd.V_reads' HO448.out).2.2 | (with_reducible refine Kd.C_alloc ?_ _) | (with_reducible refine Kd.C_drewN ?_ _) | (with_reducible refine Kd.C_drew ?_))); (case side4 => exact (Kd.V_reads' HO448.out).2.1); rintro e w21 ⟨v455, rfl, ho0, hb⟩; have n0_ := Aside0.mk (Kd.R_elder' (rz HO445) (Kd.R_base ho0) hb); have n1_ := Aside0.mk (Kd.V_elder' (vz HO448) (Kd.R_base ho0) hb); have n2_ := Aside0.mk (Kd.R_lower (Kd.R_new' ho0 (Kd.R_lt (rz HO445))) (below_size bh)); have n3_ := Aside0.mk (blk_below (bz BK449) hb); have n4_ := Aside0.mk (below_step bh hb); clear HO445 HO448 BK449 HB; have HO445 := n0_; have HO448 := n1_; have HO456 := n2_; have BK449 := n3_; have HB := n4_; clear n0_ n1_ n2_ n3_ n4_; (try clear hb); (try clear hb2); (try clear hk); (try clear hi); (try clear ho0)))
    repeat (go_quiet (first | (go_at_call 34; (with_reducible refine (spec_DrawClashOk.calls k _ _ l0 t442 t443 t446 _ ?side1 ?side2 A3.out).mono ?_); (case side1 => repeat (first | exact HR0.out | (with_reducible refine Kd.C_alloc ?_ _) | (with_reducible refine Kd.C_drewN ?_ _) | (with_reducible refine Kd.C_drew ?_))); (case side2 => exact HC0.out); rintro e w10 ⟨v444, v447, rfl, ho0, ho1, hb⟩; have n0_ := Aside0.mk (Kd.R_lower (Kd.R_mono (ok' := fun k_ => True) ho0 (fun _ hk_ => trivial)) (below_size bh)); have n1_ := Aside0.mk (Kd.V_lower (Kd.V_mono (ok' := fun k_ => some k_ ≠ (v444 : Value).ownBlock) ho1 (fun k_ hk_ => hk_.2)) (below_size bh)); have n2_ := Aside0.mk (below_step bh hb); clear HB; have HO445 := n0_; have HO448 := n1_; have HB := n2_; clear n0_ n1_ n2_; (try clear hb); (try clear hb2); (try clear hk); (try clear hi); (try clear ho0); (try clear ho1)) | ((with_reducible refine gate_dst (N := 3) rfl ?_); refine box_event ?hg (N := 3) ?hd (cs := #[.int .i64 0, .slice none 0 0]) (t := 25) ?hr ?_; (case hd => rfl); (case hg => rfl); (case hr => first | (go_simp; done) | (go_simp; rfl)); intro gb449 hg w11 hbox hb; have n0_ := Aside0.mk (Kd.R_below (rz HO445) hb); have n1_ := Aside0.mk (Kd.V_below (Kd.V_elderB (vz HO448) gb449 (Nat.le_of_eq hg.symm)) hb); have n2_ := Aside0.mk (below_step bh hb); have n3_ := Aside0.mk (hbox); have n4_ := Aside0.mk ((gs (W0 := w) hg bh)); have n5_ := Aside0.mk ((gs (W0 := w) hg bh)); clear HO445 HO448 HB; have HO445 := n0_; have HO448 := n1_; have HB := n2_; have BK449 := n3_; have GW449 := n4_; have GE449 := n5_; clear n0_ n1_ n2_ n3_ n4_ n5_ hb hbox hg; have hcz12_0 := cz0 BK449; have hcz12_1 := cz1 BK449; have hfz12_0 := blk_frozen BK449.out 0; have hfz12_1 := blk_frozen BK449.out 1; obtain ⟨Ao13, co13, eo13⟩ := Kd.R_slice HO445.out; subst eo13; obtain ⟨Ao14, co14, eo14⟩ := Kd.V_slice HO448.out; subst eo14) | (go_at_call 35; (with_reducible refine (impl_ClashOk.calls k t442 _ _ t443 _ _ t446 t450 _ ?side1 ?side2 ?side3 ?side4 A4.out).mono ?_); (case side1 => refine (Kd.R_reads' (e := 3) (base := w.heap.size) (ok := fun k_ => True) (n := t443.length) (c := co13) ?_).2.2; exact (fR HO445 BK449)); (case side2 => exact (Kd.R_reads' HO445.out).2.1); (case side3 => refine (Kd.V_reads' (e := 61) (base := w.heap.size) (ok := fun k_ => (some k_ ≠ (.slice Ao13 t443.length co13 : Value).ownBlock ∧ k_ ≠ gb449)) (n := t446.length) (c := co14) ?_).2.2; exact (uV HO448 (fun _ hk => hk.2))); (case side4 => exact (Kd.V_reads' HO448.out).2.1); rintro e w15 ⟨rfl, hb⟩; have n0_ := Aside0.mk (Kd.R_below (fR HO445 BK449) hb); have n1_ := Aside0.mk (Kd.V_below (uV HO448 (fun _ hk => hk.2)) hb); have n2_ := Aside0.mk (blk_below (g := gb449) (o := .cells #[.int .i64 t442, .slice Ao13 t443.length co13] 25 (0, 0)) (bp BK449) hb); have n3_ := Aside0.mk (below_step bh hb); clear HO445 HO448 BK449 HB; have HO445 := n0_; have HO448 := n1_; have BK449 := n2_; have HB := n3_; clear n0_ n1_ n2_ n3_; (try clear hb); (try clear hb2); (try clear hk); (try clear hi); have hcz16_0 := cz0 BK449; have hcz16_1 := cz1 BK449; have hfz16_0 := blk_frozen BK449.out 0; have hfz16_1 := blk_frozen BK449.out 1) | (go_at_call 36; (with_reducible refine (spec_ClashOk.calls k t442 _ _ t443 _ _ t446 t451 _ ?side1 ?side2 ?side3 ?side4 A5.out).mono ?_); (case side1 => repeat (first | exact (Kd.R_reads' HO445.out).2.2 | (with_reducible refine Kd.C_alloc ?_ _) | (with_reducible refine Kd.C_drewN ?_ _) | (with_reducible refine Kd.C_drew ?_))); (case side2 => exact (Kd.R_reads' HO445.out).2.1); (case side3 => repeat (first | exact (Kd.V_reads' HO448.out).2.2 | (with_reducible refine Kd.C_alloc ?_ _) | (with_reducible refine Kd.C_drewN ?_ _) | (with_reducible refine Kd.C_drew ?_))); (case side4 => exact (Kd.V_reads' HO448.out).2.1); rintro e w17 ⟨rfl, hb⟩; have n0_ := Aside0.mk (Kd.R_below (rz HO445) hb); have n1_ := Aside0.mk (Kd.V_below (vz HO448) hb); have n2_ := Aside0.mk (blk_below (bz BK449) hb); have n3_ := Aside0.mk (below_step bh hb); clear HO445 HO448 BK449 HB; have HO445 := n0_; have HO448 := n1_; have BK449 := n2_; have HB := n3_; clear n0_ n1_ n2_ n3_; (try clear hb); (try clear hb2); (try clear hk); (try clear hi); have hcz18_0 := cz0 BK449; have hcz18_1 := cz1 BK449; have hfz18_0 := blk_frozen BK449.out 0; have hfz18_1 := blk_frozen BK449.out 1) | (go_at_call 12; (with_reducible refine (spec_TermOk.calls k t442 _ _ t443 _ _ t446 true _ ?side1 ?side2 ?side3 ?side4 A7.out).mono ?_); (case side1 => repeat (first | exact (Kd.R_reads' HO445.out).2.2 | (with_reducible refine Kd.C_alloc ?_ _) | (with_reducible refine Kd.C_drewN ?_ _) | (with_reducible refine Kd.C_drew ?_))); (case side2 => exact (Kd.R_reads' HO445.out).2.1); (case side3 => repeat (first | exact (Kd.V_reads' HO448.out).2.2 | (with_reducible refine Kd.C_alloc ?_ _) | (with_reducible refine Kd.C_drewN ?_ _) | (with_reducible refine Kd.C_drew ?_))); (case side4 => exact (Kd.V_reads' HO448.out).2.1); rintro e w19 ⟨rfl, hb⟩; have n0_ := Aside0.mk (Kd.R_below (rz HO445) hb); have n1_ := Aside0.mk (Kd.V_below (vz HO448) hb); have n2_ := Aside0.mk (blk_below (bz BK449) hb); have n3_ := Aside0.mk (below_step bh hb); clear HO445 HO448 BK449 HB; have HO445 := n0_; have HO448 := n1_; have BK449 := n2_; have HB := n3_; clear n0_ n1_ n2_ n3_; (try clear hb); (try clear hb2); (try clear hk); (try clear hi); have hcz20_0 := cz0 BK449; have hcz20_1 := cz1 BK449; have hfz20_0 := blk_frozen BK449.out 0; have hfz20_1 := blk_frozen BK449.out 1) | (go_at_call 15; (with_reducible refine (impl_LeastConsents.calls k t442 _ _ t443 _ _ t446 t454 _ ?side1 ?side2 ?side3 ?side4 A9.out).mono ?_); (case side1 => repeat (first | exact (Kd.R_reads' HO445.out).2.2 | (with_reducible refine Kd.C_alloc ?_ _) | (with_reducible refine Kd.C_drewN ?_ _) | (with_reducible refine Kd.C_drew ?_))); (case side2 => exact (Kd.R_reads' HO445.out).2.1); (case side3 => repeat (first | exact (Kd.V_reads' HO448.out).2.2 | (with_reducible refine Kd.C_alloc ?_ _) | (with_reducible refine Kd.C_drewN ?_ _) | (with_reducible refine Kd.C_drew ?_))); (case side4 => exact (Kd.V_reads' HO448.out).2.1); rintro e w21 ⟨v455, rfl, ho0, hb⟩; have n0_ := Aside0.mk (Kd.R_elder' (rz HO445) (Kd.R_base ho0) hb); have n1_ := Aside0.mk (Kd.V_elder' (vz HO448) (Kd.R_base ho0) hb); have n2_ := Aside0.mk (Kd.R_lower (Kd.R_new' ho0 (Kd.R_lt (rz HO445))) (below_size bh)); have n3_ := Aside0.mk (blk_below (bz BK449) hb); have n4_ := Aside0.mk (below_step bh hb); clear HO445 HO448 BK449 HB; have HO445 := n0_; have HO448 := n1_; have HO456 := n2_; have BK449 := n3_; have HB := n4_; clear n0_ n1_ n2_ n3_ n4_; (try clear hb); (try clear hb2); (try clear hk); (try clear hi); (try clear ho0))); try go_wp2_with (first | (go_at_call 34; (with_reducible refine (spec_DrawClashOk.calls k _ _ l0 t442 t443 t446 _ ?side1 ?side2 A3.out).mono ?_); (case side1 => repeat (first | exact HR0.out | (with_reducible refine Kd.C_alloc ?_ _) | (with_reducible refine Kd.C_drewN ?_ _) | (with_reducible refine Kd.C_drew ?_))); (case side2 => exact HC0.out); rintro e w10 ⟨v444, v447, rfl, ho0, ho1, hb⟩; have n0_ := Aside0.mk (Kd.R_lower (Kd.R_mono (ok' := fun k_ => True) ho0 (fun _ hk_ => trivial)) (below_size bh)); have n1_ := Aside0.mk (Kd.V_lower (Kd.V_mono (ok' := fun k_ => some k_ ≠ (v444 : Value).ownBlock) ho1 (fun k_ hk_ => hk_.2)) (below_size bh)); have n2_ := Aside0.mk (below_step bh hb); clear HB; have HO445 := n0_; have HO448 := n1_; have HB := n2_; clear n0_ n1_ n2_; (try clear hb); (try clear hb2); (try clear hk); (try clear hi); (try clear ho0); (try clear ho1)) | ((with_reducible refine gate_dst (N := 3) rfl ?_); refine box_event ?hg (N := 3) ?hd (cs := #[.int .i64 0, .slice none 0 0]) (t := 25) ?hr ?_; (case hd => rfl); (case hg => rfl); (case hr => first | (go_simp; done) | (go_simp; rfl)); intro gb449 hg w11 hbox hb; have n0_ := Aside0.mk (Kd.R_below (rz HO445) hb); have n1_ := Aside0.mk (Kd.V_below (Kd.V_elderB (vz HO448) gb449 (Nat.le_of_eq hg.symm)) hb); have n2_ := Aside0.mk (below_step bh hb); have n3_ := Aside0.mk (hbox); have n4_ := Aside0.mk ((gs (W0 := w) hg bh)); have n5_ := Aside0.mk ((gs (W0 := w) hg bh)); clear HO445 HO448 HB; have HO445 := n0_; have HO448 := n1_; have HB := n2_; have BK449 := n3_; have GW449 := n4_; have GE449 := n5_; clear n0_ n1_ n2_ n3_ n4_ n5_ hb hbox hg; have hcz12_0 := cz0 BK449; have hcz12_1 := cz1 BK449; have hfz12_0 := blk_frozen BK449.out 0; have hfz12_1 := blk_frozen BK449.out 1; obtain ⟨Ao13, co13, eo13⟩ := Kd.R_slice HO445.out; subst eo13; obtain ⟨Ao14, co14, eo14⟩ := Kd.V_slice HO448.out; subst eo14) | (go_at_call 35; (with_reducible refine (impl_ClashOk.calls k t442 _ _ t443 _ _ t446 t450 _ ?side1 ?side2 ?side3 ?side4 A4.out).mono ?_); (case side1 => refine (Kd.R_reads' (e := 3) (base := w.heap.size) (ok := fun k_ => True) (n := t443.length) (c := co13) ?_).2.2; exact (fR HO445 BK449)); (case side2 => exact (Kd.R_reads' HO445.out).2.1); (case side3 => refine (Kd.V_reads' (e := 61) (base := w.heap.size) (ok := fun k_ => (some k_ ≠ (.slice Ao13 t443.length co13 : Value).ownBlock ∧ k_ ≠ gb449)) (n := t446.length) (c := co14) ?_).2.2; exact (uV HO448 (fun _ hk => hk.2))); (case side4 => exact (Kd.V_reads' HO448.out).2.1); rintro e w15 ⟨rfl, hb⟩; have n0_ := Aside0.mk (Kd.R_below (fR HO445 BK449) hb); have n1_ := Aside0.mk (Kd.V_below (uV HO448 (fun _ hk => hk.2)) hb); have n2_ := Aside0.mk (blk_below (g := gb449) (o := .cells #[.int .i64 t442, .slice Ao13 t443.length co13] 25 (0, 0)) (bp BK449) hb); have n3_ := Aside0.mk (below_step bh hb); clear HO445 HO448 BK449 HB; have HO445 := n0_; have HO448 := n1_; have BK449 := n2_; have HB := n3_; clear n0_ n1_ n2_ n3_; (try clear hb); (try clear hb2); (try clear hk); (try clear hi); have hcz16_0 := cz0 BK449; have hcz16_1 := cz1 BK449; have hfz16_0 := blk_frozen BK449.out 0; have hfz16_1 := blk_frozen BK449.out 1) | (go_at_call 36; (with_reducible refine (spec_ClashOk.calls k t442 _ _ t443 _ _ t446 t451 _ ?side1 ?side2 ?side3 ?side4 A5.out).mono ?_); (case side1 => repeat (first | exact (Kd.R_reads' HO445.out).2.2 | (with_reducible refine Kd.C_alloc ?_ _) | (with_reducible refine Kd.C_drewN ?_ _) | (with_reducible refine Kd.C_drew ?_))); (case side2 => exact (Kd.R_reads' HO445.out).2.1); (case side3 => repeat (first | exact (Kd.V_reads' HO448.out).2.2 | (with_reducible refine Kd.C_alloc ?_ _) | (with_reducible refine Kd.C_drewN ?_ _) | (with_reducible refine Kd.C_drew ?_))); (case side4 => exact (Kd.V_reads' HO448.out).2.1); rintro e w17 ⟨rfl, hb⟩; have n0_ := Aside0.mk (Kd.R_below (rz HO445) hb); have n1_ := Aside0.mk (Kd.V_below (vz HO448) hb); have n2_ := Aside0.mk (blk_below (bz BK449) hb); have n3_ := Aside0.mk (below_step bh hb); clear HO445 HO448 BK449 HB; have HO445 := n0_; have HO448 := n1_; have BK449 := n2_; have HB := n3_; clear n0_ n1_ n2_ n3_; (try clear hb); (try clear hb2); (try clear hk); (try clear hi); have hcz18_0 := cz0 BK449; have hcz18_1 := cz1 BK449; have hfz18_0 := blk_frozen BK449.out 0; have hfz18_1 := blk_frozen BK449.out 1) | (go_at_call 12; (with_reducible refine (spec_TermOk.calls k t442 _ _ t443 _ _ t446 true _ ?side1 ?side2 ?side3 ?side4 A7.out).mono ?_); (case side1 => repeat (first | exact (Kd.R_reads' HO445.out).2.2 | (with_reducible refine Kd.C_alloc ?_ _) | (with_reducible refine Kd.C_drewN ?_ _) | (with_reducible refine Kd.C_drew ?_))); (case side2 => exact (Kd.R_reads' HO445.out).2.1); (case side3 => repeat (first | exact (Kd.V_reads' HO448.out).2.2 | (with_reducible refine Kd.C_alloc ?_ _) | (with_reducible refine Kd.C_drewN ?_ _) | (with_reducible refine Kd.C_drew ?_))); (case side4 => exact (Kd.V_reads' HO448.out).2.1); rintro e w19 ⟨rfl, hb⟩; have n0_ := Aside0.mk (Kd.R_below (rz HO445) hb); have n1_ := Aside0.mk (Kd.V_below (vz HO448) hb); have n2_ := Aside0.mk (blk_below (bz BK449) hb); have n3_ := Aside0.mk (below_step bh hb); clear HO445 HO448 BK449 HB; have HO445 := n0_; have HO448 := n1_; have BK449 := n2_; have HB := n3_; clear n0_ n1_ n2_ n3_; (try clear hb); (try clear hb2); (try clear hk); (try clear hi); have hcz20_0 := cz0 BK449; have hcz20_1 := cz1 BK449; have hfz20_0 := blk_frozen BK449.out 0; have hfz20_1 := blk_frozen BK449.out 1) | (go_at_call 15; (with_reducible refine (impl_LeastConsents.calls k t442 _ _ t443 _ _ t446 t454 _ ?side1 ?side2 ?side3 ?side4 A9.out).mono ?_); (case side1 => repeat (first | exact (Kd.R_reads' HO445.out).2.2 | (with_reducible refine Kd.C_alloc ?_ _) | (with_reducible refine Kd.C_drewN ?_ _) | (with_reducible refine Kd.C_drew ?_))); (case side2 => exact (Kd.R_reads' HO445.out).2.1); (case side3 => repeat (first | exact (Kd.V_reads' HO448.out).2.2 | (with_reducible refine Kd.C_alloc ?_ _) | (with_reducible refine Kd.C_drewN ?_ _) | (with_reducible refine Kd.C_drew ?_))); (case side4 => exact (Kd.V_reads' HO448.out).2.1); rintro e w21 ⟨v455, rfl, ho0, hb⟩; have n0_ := Aside0.mk (Kd.R_elder' (rz HO445) (Kd.R_base ho0) hb); have n1_ := Aside0.mk (Kd.V_elder' (vz HO448) (Kd.R_base ho0) hb); have n2_ := Aside0.mk (Kd.R_lower (Kd.R_new' ho0 (Kd.R_lt (rz HO445))) (below_size bh)); have n3_ := Aside0.mk (blk_below (bz BK449) hb); have n4_ := Aside0.mk (below_step bh hb); clear HO445 HO448 BK449 HB; have HO445 := n0_; have HO448 := n1_; have HO456 := n2_; have BK449 := n3_; have HB := n4_; clear n0_ n1_ n2_ n3_ n4_; (try clear hb); (try clear hb2); (try clear hk); (try clear hi); (try clear ho0))))
    go_loopg [7, 8] k (fun kq v7 v8 w' => ∃ (x7_1 : Bool) (x8_1 : Int), v7 = .bool x7_1 ∧ v8 = .int .i64 x8_1 ∧ Aside0 (laws_FnClashOk.l0 kq t450 t454 x7_1 x8_1 = some r) ∧ Aside0 (kq ≤ k) ∧ Aside0 (Kd.R (Kd.int .i64) 3 w' w.heap.size (fun k_ => some k_ ≠ ((.slice Ao13 t443.length co13) : Value).ownBlock) v455 t454) ∧ Aside0 (Kd.R (Kd.int .i64) 3 w' w.heap.size (fun k_ => some k_ ≠ (v455 : Value).ownBlock) (.slice Ao13 t443.length co13) t443) ∧ Aside0 (w'.heap[gb449]? = some (.cells #[.int .i64 t442, (.slice Ao13 t443.length co13)] 25 (0, 0))) ∧ Aside0 (Below w.heap.size w w'))
    case atStart => exact ⟨(false), (0), (by first | rfl | (simp; done) | (simp [*]; done)), (by first | rfl | (simp; done) | (simp [*]; done)), H', ⟨Nat.le_refl _⟩, ⟨mR HO456⟩, ⟨mR HO445⟩, ⟨bz BK449⟩, ⟨by exact bh⟩⟩
    case round =>
     clear H'
     try clear c2
     try clear c2b0
     try clear c2b1
     try clear p2
     try clear c6
     try clear c6b0
     try clear c6b1
     try clear c6b2
     try clear c8
     try clear hcz12_0
     try clear hcz12_1
     try clear hcz16_0
     try clear hcz16_1
     try clear hcz18_0
     try clear hcz18_1
     try clear hcz20_0
     try clear hcz20_1
     try clear hfz12_0
     try clear hfz12_1
     try clear hfz16_0
     try clear hfz16_1
     try clear hfz18_0
     try clear hfz18_1
     try clear hfz20_0
     try clear hfz20_1
     obtain ⟨x7_1, x8_1, rfl, rfl, HA, HK1, HO_6, HO_450001, BK449, HB⟩ := hrel
     cases gk with
     | zero => exact absurd HA.out (by simp [laws_FnClashOk.l0])
     | succ k1 =>
      have H := HA.out
      clear HA
      simp only [laws_FnClashOk.l0] at H
      by_cases c22 : x8_1 < (t454.length : Int)
      ·rw [if_pos c22] at H
       have c22b0 : decide (x8_1 < (t454.length : Int)) = true := decide_eq_true c22
       clear c22
       have H' := Aside0.mk H
       clear H
       obtain ⟨Ao23, co23, eo23⟩ := Kd.R_slice HO_6.out
       subst eo23
       go_wp2
       repeat (go_quiet (fail); try go_wp2)
       go_loopg [7, 9] k1 (fun kq v7 v9 w' => ∃ (x7_2 : Bool) (x9_2 : Int), v7 = .bool x7_2 ∧ v9 = .int .i64 x9_2 ∧ Aside0 (laws_FnClashOk.l1 kq t450 t454 x7_2 x8_1 x9_2 = some r) ∧ Aside0 (kq ≤ k1) ∧ Aside0 (Kd.R (Kd.int .i64) 3 w' w.heap.size (fun k_ => some k_ ≠ ((.slice Ao13 t443.length co13) : Value).ownBlock) (.slice Ao23 t454.length co23) t454) ∧ Aside0 (Kd.R (Kd.int .i64) 3 w' w.heap.size (fun k_ => some k_ ≠ ((.slice Ao23 t454.length co23) : Value).ownBlock) (.slice Ao13 t443.length co13) t443) ∧ Aside0 (w'.heap[gb449]? = some (.cells #[.int .i64 t442, (.slice Ao13 t443.length co13)] 25 (0, 0))) ∧ Aside0 (Below w.heap.size w w'))
       case atStart => exact ⟨(x7_1), (0), (by first | rfl | (simp; done) | (simp [*]; done)), (by first | rfl | (simp; done) | (simp [*]; done)), H', ⟨Nat.le_refl _⟩, ⟨rz HO_6⟩, ⟨rz HO_450001⟩, ⟨bz BK449⟩, ⟨by exact bh⟩⟩
       case round =>
        clear H'
        try clear c2
        try clear c2b0
        try clear c2b1
        try clear p2
        try clear c6
        try clear c6b0
        try clear c6b1
        try clear c6b2
        try clear c8
        try clear c22
        try clear c22b0
        try clear hcz12_0
        try clear hcz12_1
        try clear hcz16_0
        try clear hcz16_1
        try clear hcz18_0
        try clear hcz18_1
        try clear hcz20_0
        try clear hcz20_1
        try clear hfz12_0
        try clear hfz12_1
        try clear hfz16_0
        try clear hfz16_1
        try clear hfz18_0
        try clear hfz18_1
        try clear hfz20_0
        try clear hfz20_1
        try clear p2
        obtain ⟨x7_2, x9_2, rfl, rfl, HA, HK2, HO_6, HO_450001, BK449, HB⟩ := hrel
        cases gk with
        | zero => exact absurd HA.out (by simp [laws_FnClashOk.l1])
        | succ k2 =>
         have H := HA.out
         clear HA
         simp only [laws_FnClashOk.l1] at H
         by_cases c24 : x9_2 < x8_1
         ·rw [if_pos c24] at H
          have c24b0 : decide (x9_2 < x8_1) = true := decide_eq_true c24
          clear c24
          by_cases c25 : x7_2 = true
          ·subst c25
           have H1 : (laws_FnClashOk.l1 k2 t450 t454 true x8_1 (wrap64 (x9_2 + 1))) = some r := by rw [if_pos rfl] at H; exact H
           clear H
           have H := H1
           clear H1
           have H' := Aside0.mk H
           clear H
           go_wp2
           repeat (go_quiet (fail); try go_wp2)
           go_roundg k2
           case measure => have := HK1.out; have := HK2.out; omega
           case rel => exact ⟨(true), (wrap64 (x9_2 + 1)), (by first | rfl | (simp; done) | (simp [*]; done)), (by first | rfl | (simp; done) | (simp [*]; done)), H', ⟨by have := HK1.out; have := HK2.out; omega⟩, ⟨rz HO_6⟩, ⟨rz HO_450001⟩, ⟨bz BK449⟩, ⟨by exact bh⟩⟩
          ·replace c25 := Bool.eq_false_iff.mpr c25
           subst c25
           have H1 : (if 0 ≤ x8_1 then (if x8_1 < (t454.length : Int) then (if 0 ≤ x9_2 then (if x9_2 < (t454.length : Int) then (laws_FnClashOk.l1 k2 t450 t454 ((Go.bits .and .i64 (rd t454 x8_1) (rd t454 x9_2)) == 0) x8_1 (wrap64 (x9_2 + 1))) else (none)) else (none)) else (none)) else (none)) = some r := by rw [if_neg (show ¬ (false = true) by decide)] at H; exact H
           clear H
           have H := H1
           clear H1
           by_cases c26 : 0 ≤ x8_1
           ·rw [if_pos c26] at H
            have c26b0 : decide (0 ≤ x8_1) = true := decide_eq_true c26
            clear c26
            by_cases c27 : x8_1 < (t454.length : Int)
            ·rw [if_pos c27] at H
             have c27b0 : decide (x8_1 < (t454.length : Int)) = true := decide_eq_true c27
             clear c27
             by_cases c28 : 0 ≤ x9_2
             ·rw [if_pos c28] at H
              have c28b0 : decide (0 ≤ x9_2) = true := decide_eq_true c28
              clear c28
              by_cases c29 : x9_2 < (t454.length : Int)
              ·rw [if_pos c29] at H
               have c29b0 : decide (x9_2 < (t454.length : Int)) = true := decide_eq_true c29
               clear c29
               have H' := Aside0.mk H
               clear H
               have p458 : 0 ≤ (x8_1 : Int) := oda
               have q458 : x8_1 < (t454.length : Int) := oda
               obtain ⟨ad458, e458, hx458_0⟩ := Kd.at_int (Kd.R_reads' HO_6.out).2.2 x8_1 p458 q458
               cases e458
               replace p458 := eq_true p458
               replace q458 := eq_true q458
               have p459 : 0 ≤ (x9_2 : Int) := oda
               have q459 : x9_2 < (t454.length : Int) := oda
               obtain ⟨ad459, e459, hx459_0⟩ := Kd.at_int (Kd.R_reads' HO_6.out).2.2 x9_2 p459 q459
               obtain rfl : ad458 = ad459 := (by injection e459)
               replace p459 := eq_true p459
               replace q459 := eq_true q459
               go_wp2
               repeat (go_quiet (fail); try go_wp2)
               go_roundg k2
               case measure => have := HK1.out; have := HK2.out; omega
               case rel => exact ⟨(((Go.bits .and .i64 (rd t454 x8_1) (rd t454 x9_2)) == 0)), (wrap64 (x9_2 + 1)), (by first | rfl | (simp; done) | (simp [*]; done)), (by first | rfl | (simp; done) | (simp [*]; done)), H', ⟨by have := HK1.out; have := HK2.out; omega⟩, ⟨rz HO_6⟩, ⟨rz HO_450001⟩, ⟨bz BK449⟩, ⟨by exact bh⟩⟩
              ·rw [if_neg c29] at H
               exact absurd H (by simp)
             ·rw [if_neg c28] at H
              exact absurd H (by simp)
            ·rw [if_neg c27] at H
             exact absurd H (by simp)
           ·rw [if_neg c26] at H
            exact absurd H (by simp)
         ·rw [if_neg c24] at H
          have c24b0 : decide (x9_2 < x8_1) = false := decide_eq_false c24
          clear c24
          have H' := Aside0.mk H
          clear H
          go_wp2
          repeat (go_quiet (fail); try go_wp2)
          go_roundg k2
          case measure => have := HK1.out; have := HK2.out; omega
          case rel => exact ⟨(x7_2), (wrap64 (x8_1 + 1)), (by first | rfl | (simp; done) | (simp [*]; done)), (by first | rfl | (simp; done) | (simp [*]; done)), H', ⟨by have := HK1.out; have := HK2.out; omega⟩, ⟨rz HO_6⟩, ⟨rz HO_450001⟩, ⟨bz BK449⟩, ⟨by exact bh⟩⟩
      ·rw [if_neg c22] at H
       have c22b0 : decide (x8_1 < (t454.length : Int)) = false := decide_eq_false c22
       clear c22
       by_cases c30 : (t450 == x7_1) = true
       ·rw [if_pos c30] at H
        have c30b0 : (t450 == x7_1) = true := c30
        (try (have c30b1 : decide (t450 = x7_1) = true := by simpa using c30))
        (try (have c30b2 : (t450 == x7_1) = true := by simpa using c30))
        clear c30
        replace H := Option.bind_eq_some_iff.mp H
        obtain ⟨t457, A310, H⟩ := H
        replace H : (some t457) = some r := H
        have A31 := Aside0.mk A310
        clear A310
        obtain rfl := Option.some.inj H
        obtain ⟨Ao32, co32, eo32⟩ := Kd.R_slice HO_6.out
        subst eo32
        go_wp2_with (first | (go_at_call 13; (with_reducible refine (laws_alive.calls  t457 _ A31.out).mono ?_); rintro e w' ⟨rfl, ⟨nd, rfl⟩⟩; (try first | exact ⟨rfl, _, World.drewN_drewN _ _ _⟩ | exact ⟨rfl, _, Eq.trans (World.drewN_drewN _ _ _) (congrArg (World.drewN _) (Nat.add_assoc _ _ _))⟩)))
        repeat (go_quiet (first | (go_at_call 13; (with_reducible refine (laws_alive.calls  t457 _ A31.out).mono ?_); rintro e w' ⟨rfl, ⟨nd, rfl⟩⟩; (try first | exact ⟨rfl, _, World.drewN_drewN _ _ _⟩ | exact ⟨rfl, _, Eq.trans (World.drewN_drewN _ _ _) (congrArg (World.drewN _) (Nat.add_assoc _ _ _))⟩))); try go_wp2_with (first | (go_at_call 13; (with_reducible refine (laws_alive.calls  t457 _ A31.out).mono ?_); rintro e w' ⟨rfl, ⟨nd, rfl⟩⟩; (try first | exact ⟨rfl, _, World.drewN_drewN _ _ _⟩ | exact ⟨rfl, _, Eq.trans (World.drewN_drewN _ _ _) (congrArg (World.drewN _) (Nat.add_assoc _ _ _))⟩))))
        go_ret
        exact ⟨by first | rfl | (simp [errW_none, errW_some] <;> rfl) | (simp [*, errW_none, errW_some] <;> rfl), by exact bh⟩
       ·rw [if_neg c30] at H
        exact absurd H (by simp)
   ·replace c8 := Bool.eq_false_iff.mpr c8
    subst c8
    have H1 : (if t450 = true then (none) else ((laws_alive.f).bind fun t453 => (some t453))) = some r := by rw [if_neg (show ¬ (false = true) by decide)] at H; exact H
    clear H
    have H := H1
    clear H1
    by_cases c33 : t450 = true
    ·subst c33
     have H1 : (none) = some r := by rw [if_pos rfl] at H; exact H
     clear H
     have H := H1
     clear H1
     exact absurd H (by simp)
    ·replace c33 := Bool.eq_false_iff.mpr c33
     subst c33
     have H1 : ((laws_alive.f).bind fun t453 => (some t453)) = some r := by rw [if_neg (show ¬ (false = true) by decide)] at H; exact H
     clear H
     have H := H1
     clear H1
     replace H := Option.bind_eq_some_iff.mp H
     obtain ⟨t453, A340, H⟩ := H
     replace H : (some t453) = some r := H
     have A34 := Aside0.mk A340
     clear A340
     obtain rfl := Option.some.inj H
     go_enter Try.func6, Try.ntmps6
     go_wp2_with (first | (go_at_call 34; (with_reducible refine (spec_DrawClashOk.calls k _ _ l0 t442 t443 t446 _ ?side1 ?side2 A3.out).mono ?_); (case side1 => repeat (first | exact HR0.out | (with_reducible refine Kd.C_alloc ?_ _) | (with_reducible refine Kd.C_drewN ?_ _) | (with_reducible refine Kd.C_drew ?_))); (case side2 => exact HC0.out); rintro e w35 ⟨v444, v447, rfl, ho0, ho1, hb⟩; have n0_ := Aside0.mk (Kd.R_lower (Kd.R_mono (ok' := fun k_ => True) ho0 (fun _ hk_ => trivial)) (below_size bh)); have n1_ := Aside0.mk (Kd.V_lower (Kd.V_mono (ok' := fun k_ => some k_ ≠ (v444 : Value).ownBlock) ho1 (fun k_ hk_ => hk_.2)) (below_size bh)); have n2_ := Aside0.mk (below_step bh hb); clear HB; have HO445 := n0_; have HO448 := n1_; have HB := n2_; clear n0_ n1_ n2_; (try clear hb); (try clear hb2); (try clear hk); (try clear hi); (try clear ho0); (try clear ho1)) | ((with_reducible refine gate_dst (N := 3) rfl ?_); refine box_event ?hg (N := 3) ?hd (cs := #[.int .i64 0, .slice none 0 0]) (t := 25) ?hr ?_; (case hd => rfl); (case hg => rfl); (case hr => first | (go_simp; done) | (go_simp; rfl)); intro gb449 hg w36 hbox hb; have n0_ := Aside0.mk (Kd.R_below (rz HO445) hb); have n1_ := Aside0.mk (Kd.V_below (Kd.V_elderB (vz HO448) gb449 (Nat.le_of_eq hg.symm)) hb); have n2_ := Aside0.mk (below_step bh hb); have n3_ := Aside0.mk (hbox); have n4_ := Aside0.mk ((gs (W0 := w) hg bh)); have n5_ := Aside0.mk ((gs (W0 := w) hg bh)); clear HO445 HO448 HB; have HO445 := n0_; have HO448 := n1_; have HB := n2_; have BK449 := n3_; have GW449 := n4_; have GE449 := n5_; clear n0_ n1_ n2_ n3_ n4_ n5_ hb hbox hg; have hcz37_0 := cz0 BK449; have hcz37_1 := cz1 BK449; have hfz37_0 := blk_frozen BK449.out 0; have hfz37_1 := blk_frozen BK449.out 1; obtain ⟨Ao38, co38, eo38⟩ := Kd.R_slice HO445.out; subst eo38; obtain ⟨Ao39, co39, eo39⟩ := Kd.V_slice HO448.out; subst eo39) | (go_at_call 35; (with_reducible refine (impl_ClashOk.calls k t442 _ _ t443 _ _ t446 false _ ?side1 ?side2 ?side3 ?side4 A4.out).mono ?_); (case side1 => refine (Kd.R_reads' (e := 3) (base := w.heap.size) (ok := fun k_ => True) (n := t443.length) (c := co38) ?_).2.2; exact (fR HO445 BK449)); (case side2 => exact (Kd.R_reads' HO445.out).2.1); (case side3 => refine (Kd.V_reads' (e := 61) (base := w.heap.size) (ok := fun k_ => (some k_ ≠ (.slice Ao38 t443.length co38 : Value).ownBlock ∧ k_ ≠ gb449)) (n := t446.length) (c := co39) ?_).2.2; exact (uV HO448 (fun _ hk => hk.2))); (case side4 => exact (Kd.V_reads' HO448.out).2.1); rintro e w40 ⟨rfl, hb⟩; have n0_ := Aside0.mk (Kd.R_below (fR HO445 BK449) hb); have n1_ := Aside0.mk (Kd.V_below (uV HO448 (fun _ hk => hk.2)) hb); have n2_ := Aside0.mk (blk_below (g := gb449) (o := .cells #[.int .i64 t442, .slice Ao38 t443.length co38] 25 (0, 0)) (bp BK449) hb); have n3_ := Aside0.mk (below_step bh hb); clear HO445 HO448 BK449 HB; have HO445 := n0_; have HO448 := n1_; have BK449 := n2_; have HB := n3_; clear n0_ n1_ n2_ n3_; (try clear hb); (try clear hb2); (try clear hk); (try clear hi); have hcz41_0 := cz0 BK449; have hcz41_1 := cz1 BK449; have hfz41_0 := blk_frozen BK449.out 0; have hfz41_1 := blk_frozen BK449.out 1) | (go_at_call 36; (with_reducible refine (spec_ClashOk.calls k t442 _ _ t443 _ _ t446 t451 _ ?side1 ?side2 ?side3 ?side4 A5.out).mono ?_); (case side1 => repeat (first | exact (Kd.R_reads' HO445.out).2.2 | (with_reducible refine Kd.C_alloc ?_ _) | (with_reducible refine Kd.C_drewN ?_ _) | (with_reducible refine Kd.C_drew ?_))); (case side2 => exact (Kd.R_reads' HO445.out).2.1); (case side3 => repeat (first | exact (Kd.V_reads' HO448.out).2.2 | (with_reducible refine Kd.C_alloc ?_ _) | (with_reducible refine Kd.C_drewN ?_ _) | (with_reducible refine Kd.C_drew ?_))); (case side4 => exact (Kd.V_reads' HO448.out).2.1); rintro e w42 ⟨rfl, hb⟩; have n0_ := Aside0.mk (Kd.R_below (rz HO445) hb); have n1_ := Aside0.mk (Kd.V_below (vz HO448) hb); have n2_ := Aside0.mk (blk_below (bz BK449) hb); have n3_ := Aside0.mk (below_step bh hb); clear HO445 HO448 BK449 HB; have HO445 := n0_; have HO448 := n1_; have BK449 := n2_; have HB := n3_; clear n0_ n1_ n2_ n3_; (try clear hb); (try clear hb2); (try clear hk); (try clear hi); have hcz43_0 := cz0 BK449; have hcz43_1 := cz1 BK449; have hfz43_0 := blk_frozen BK449.out 0; have hfz43_1 := blk_frozen BK449.out 1) | (go_at_call 12; (with_reducible refine (spec_TermOk.calls k t442 _ _ t443 _ _ t446 false _ ?side1 ?side2 ?side3 ?side4 A7.out).mono ?_); (case side1 => repeat (first | exact (Kd.R_reads' HO445.out).2.2 | (with_reducible refine Kd.C_alloc ?_ _) | (with_reducible refine Kd.C_drewN ?_ _) | (with_reducible refine Kd.C_drew ?_))); (case side2 => exact (Kd.R_reads' HO445.out).2.1); (case side3 => repeat (first | exact (Kd.V_reads' HO448.out).2.2 | (with_reducible refine Kd.C_alloc ?_ _) | (with_reducible refine Kd.C_drewN ?_ _) | (with_reducible refine Kd.C_drew ?_))); (case side4 => exact (Kd.V_reads' HO448.out).2.1); rintro e w44 ⟨rfl, hb⟩; have n0_ := Aside0.mk (Kd.R_below (rz HO445) hb); have n1_ := Aside0.mk (Kd.V_below (vz HO448) hb); have n2_ := Aside0.mk (blk_below (bz BK449) hb); have n3_ := Aside0.mk (below_step bh hb); clear HO445 HO448 BK449 HB; have HO445 := n0_; have HO448 := n1_; have BK449 := n2_; have HB := n3_; clear n0_ n1_ n2_ n3_; (try clear hb); (try clear hb2); (try clear hk); (try clear hi)) | (go_at_call 13; (with_reducible refine (laws_alive.calls  t453 _ A34.out).mono ?_); rintro e w' ⟨rfl, ⟨nd, rfl⟩⟩; (try first | exact ⟨rfl, _, World.drewN_drewN _ _ _⟩ | exact ⟨rfl, _, Eq.trans (World.drewN_drewN _ _ _) (congrArg (World.drewN _) (Nat.add_assoc _ _ _))⟩)))
     repeat (go_quiet (first | (go_at_call 34; (with_reducible refine (spec_DrawClashOk.calls k _ _ l0 t442 t443 t446 _ ?side1 ?side2 A3.out).mono ?_); (case side1 => repeat (first | exact HR0.out | (with_reducible refine Kd.C_alloc ?_ _) | (with_reducible refine Kd.C_drewN ?_ _) | (with_reducible refine Kd.C_drew ?_))); (case side2 => exact HC0.out); rintro e w35 ⟨v444, v447, rfl, ho0, ho1, hb⟩; have n0_ := Aside0.mk (Kd.R_lower (Kd.R_mono (ok' := fun k_ => True) ho0 (fun _ hk_ => trivial)) (below_size bh)); have n1_ := Aside0.mk (Kd.V_lower (Kd.V_mono (ok' := fun k_ => some k_ ≠ (v444 : Value).ownBlock) ho1 (fun k_ hk_ => hk_.2)) (below_size bh)); have n2_ := Aside0.mk (below_step bh hb); clear HB; have HO445 := n0_; have HO448 := n1_; have HB := n2_; clear n0_ n1_ n2_; (try clear hb); (try clear hb2); (try clear hk); (try clear hi); (try clear ho0); (try clear ho1)) | ((with_reducible refine gate_dst (N := 3) rfl ?_); refine box_event ?hg (N := 3) ?hd (cs := #[.int .i64 0, .slice none 0 0]) (t := 25) ?hr ?_; (case hd => rfl); (case hg => rfl); (case hr => first | (go_simp; done) | (go_simp; rfl)); intro gb449 hg w36 hbox hb; have n0_ := Aside0.mk (Kd.R_below (rz HO445) hb); have n1_ := Aside0.mk (Kd.V_below (Kd.V_elderB (vz HO448) gb449 (Nat.le_of_eq hg.symm)) hb); have n2_ := Aside0.mk (below_step bh hb); have n3_ := Aside0.mk (hbox); have n4_ := Aside0.mk ((gs (W0 := w) hg bh)); have n5_ := Aside0.mk ((gs (W0 := w) hg bh)); clear HO445 HO448 HB; have HO445 := n0_; have HO448 := n1_; have HB := n2_; have BK449 := n3_; have GW449 := n4_; have GE449 := n5_; clear n0_ n1_ n2_ n3_ n4_ n5_ hb hbox hg; have hcz37_0 := cz0 BK449; have hcz37_1 := cz1 BK449; have hfz37_0 := blk_frozen BK449.out 0; have hfz37_1 := blk_frozen BK449.out 1; obtain ⟨Ao38, co38, eo38⟩ := Kd.R_slice HO445.out; subst eo38; obtain ⟨Ao39, co39, eo39⟩ := Kd.V_slice HO448.out; subst eo39) | (go_at_call 35; (with_reducible refine (impl_ClashOk.calls k t442 _ _ t443 _ _ t446 false _ ?side1 ?side2 ?side3 ?side4 A4.out).mono ?_); (case side1 => refine (Kd.R_reads' (e := 3) (base := w.heap.size) (ok := fun k_ => True) (n := t443.length) (c := co38) ?_).2.2; exact (fR HO445 BK449)); (case side2 => exact (Kd.R_reads' HO445.out).2.1); (case side3 => refine (Kd.V_reads' (e := 61) (base := w.heap.size) (ok := fun k_ => (some k_ ≠ (.slice Ao38 t443.length co38 : Value).ownBlock ∧ k_ ≠ gb449)) (n := t446.length) (c := co39) ?_).2.2; exact (uV HO448 (fun _ hk => hk.2))); (case side4 => exact (Kd.V_reads' HO448.out).2.1); rintro e w40 ⟨rfl, hb⟩; have n0_ := Aside0.mk (Kd.R_below (fR HO445 BK449) hb); have n1_ := Aside0.mk (Kd.V_below (uV HO448 (fun _ hk => hk.2)) hb); have n2_ := Aside0.mk (blk_below (g := gb449) (o := .cells #[.int .i64 t442, .slice Ao38 t443.length co38] 25 (0, 0)) (bp BK449) hb); have n3_ := Aside0.mk (below_step bh hb); clear HO445 HO448 BK449 HB; have HO445 := n0_; have HO448 := n1_; have BK449 := n2_; have HB := n3_; clear n0_ n1_ n2_ n3_; (try clear hb); (try clear hb2); (try clear hk); (try clear hi); have hcz41_0 := cz0 BK449; have hcz41_1 := cz1 BK449; have hfz41_0 := blk_frozen BK449.out 0; have hfz41_1 := blk_frozen BK449.out 1) | (go_at_call 36; (with_reducible refine (spec_ClashOk.calls k t442 _ _ t443 _ _ t446 t451 _ ?side1 ?side2 ?side3 ?side4 A5.out).mono ?_); (case side1 => repeat (first | exact (Kd.R_reads' HO445.out).2.2 | (with_reducible refine Kd.C_alloc ?_ _) | (with_reducible refine Kd.C_drewN ?_ _) | (with_reducible refine Kd.C_drew ?_))); (case side2 => exact (Kd.R_reads' HO445.out).2.1); (case side3 => repeat (first | exact (Kd.V_reads' HO448.out).2.2 | (with_reducible refine Kd.C_alloc ?_ _) | (with_reducible refine Kd.C_drewN ?_ _) | (with_reducible refine Kd.C_drew ?_))); (case side4 => exact (Kd.V_reads' HO448.out).2.1); rintro e w42 ⟨rfl, hb⟩; have n0_ := Aside0.mk (Kd.R_below (rz HO445) hb); have n1_ := Aside0.mk (Kd.V_below (vz HO448) hb); have n2_ := Aside0.mk (blk_below (bz BK449) hb); have n3_ := Aside0.mk (below_step bh hb); clear HO445 HO448 BK449 HB; have HO445 := n0_; have HO448 := n1_; have BK449 := n2_; have HB := n3_; clear n0_ n1_ n2_ n3_; (try clear hb); (try clear hb2); (try clear hk); (try clear hi); have hcz43_0 := cz0 BK449; have hcz43_1 := cz1 BK449; have hfz43_0 := blk_frozen BK449.out 0; have hfz43_1 := blk_frozen BK449.out 1) | (go_at_call 12; (with_reducible refine (spec_TermOk.calls k t442 _ _ t443 _ _ t446 false _ ?side1 ?side2 ?side3 ?side4 A7.out).mono ?_); (case side1 => repeat (first | exact (Kd.R_reads' HO445.out).2.2 | (with_reducible refine Kd.C_alloc ?_ _) | (with_reducible refine Kd.C_drewN ?_ _) | (with_reducible refine Kd.C_drew ?_))); (case side2 => exact (Kd.R_reads' HO445.out).2.1); (case side3 => repeat (first | exact (Kd.V_reads' HO448.out).2.2 | (with_reducible refine Kd.C_alloc ?_ _) | (with_reducible refine Kd.C_drewN ?_ _) | (with_reducible refine Kd.C_drew ?_))); (case side4 => exact (Kd.V_reads' HO448.out).2.1); rintro e w44 ⟨rfl, hb⟩; have n0_ := Aside0.mk (Kd.R_below (rz HO445) hb); have n1_ := Aside0.mk (Kd.V_below (vz HO448) hb); have n2_ := Aside0.mk (blk_below (bz BK449) hb); have n3_ := Aside0.mk (below_step bh hb); clear HO445 HO448 BK449 HB; have HO445 := n0_; have HO448 := n1_; have BK449 := n2_; have HB := n3_; clear n0_ n1_ n2_ n3_; (try clear hb); (try clear hb2); (try clear hk); (try clear hi)) | (go_at_call 13; (with_reducible refine (laws_alive.calls  t453 _ A34.out).mono ?_); rintro e w' ⟨rfl, ⟨nd, rfl⟩⟩; (try first | exact ⟨rfl, _, World.drewN_drewN _ _ _⟩ | exact ⟨rfl, _, Eq.trans (World.drewN_drewN _ _ _) (congrArg (World.drewN _) (Nat.add_assoc _ _ _))⟩))); try go_wp2_with (first | (go_at_call 34; (with_reducible refine (spec_DrawClashOk.calls k _ _ l0 t442 t443 t446 _ ?side1 ?side2 A3.out).mono ?_); (case side1 => repeat (first | exact HR0.out | (with_reducible refine Kd.C_alloc ?_ _) | (with_reducible refine Kd.C_drewN ?_ _) | (with_reducible refine Kd.C_drew ?_))); (case side2 => exact HC0.out); rintro e w35 ⟨v444, v447, rfl, ho0, ho1, hb⟩; have n0_ := Aside0.mk (Kd.R_lower (Kd.R_mono (ok' := fun k_ => True) ho0 (fun _ hk_ => trivial)) (below_size bh)); have n1_ := Aside0.mk (Kd.V_lower (Kd.V_mono (ok' := fun k_ => some k_ ≠ (v444 : Value).ownBlock) ho1 (fun k_ hk_ => hk_.2)) (below_size bh)); have n2_ := Aside0.mk (below_step bh hb); clear HB; have HO445 := n0_; have HO448 := n1_; have HB := n2_; clear n0_ n1_ n2_; (try clear hb); (try clear hb2); (try clear hk); (try clear hi); (try clear ho0); (try clear ho1)) | ((with_reducible refine gate_dst (N := 3) rfl ?_); refine box_event ?hg (N := 3) ?hd (cs := #[.int .i64 0, .slice none 0 0]) (t := 25) ?hr ?_; (case hd => rfl); (case hg => rfl); (case hr => first | (go_simp; done) | (go_simp; rfl)); intro gb449 hg w36 hbox hb; have n0_ := Aside0.mk (Kd.R_below (rz HO445) hb); have n1_ := Aside0.mk (Kd.V_below (Kd.V_elderB (vz HO448) gb449 (Nat.le_of_eq hg.symm)) hb); have n2_ := Aside0.mk (below_step bh hb); have n3_ := Aside0.mk (hbox); have n4_ := Aside0.mk ((gs (W0 := w) hg bh)); have n5_ := Aside0.mk ((gs (W0 := w) hg bh)); clear HO445 HO448 HB; have HO445 := n0_; have HO448 := n1_; have HB := n2_; have BK449 := n3_; have GW449 := n4_; have GE449 := n5_; clear n0_ n1_ n2_ n3_ n4_ n5_ hb hbox hg; have hcz37_0 := cz0 BK449; have hcz37_1 := cz1 BK449; have hfz37_0 := blk_frozen BK449.out 0; have hfz37_1 := blk_frozen BK449.out 1; obtain ⟨Ao38, co38, eo38⟩ := Kd.R_slice HO445.out; subst eo38; obtain ⟨Ao39, co39, eo39⟩ := Kd.V_slice HO448.out; subst eo39) | (go_at_call 35; (with_reducible refine (impl_ClashOk.calls k t442 _ _ t443 _ _ t446 false _ ?side1 ?side2 ?side3 ?side4 A4.out).mono ?_); (case side1 => refine (Kd.R_reads' (e := 3) (base := w.heap.size) (ok := fun k_ => True) (n := t443.length) (c := co38) ?_).2.2; exact (fR HO445 BK449)); (case side2 => exact (Kd.R_reads' HO445.out).2.1); (case side3 => refine (Kd.V_reads' (e := 61) (base := w.heap.size) (ok := fun k_ => (some k_ ≠ (.slice Ao38 t443.length co38 : Value).ownBlock ∧ k_ ≠ gb449)) (n := t446.length) (c := co39) ?_).2.2; exact (uV HO448 (fun _ hk => hk.2))); (case side4 => exact (Kd.V_reads' HO448.out).2.1); rintro e w40 ⟨rfl, hb⟩; have n0_ := Aside0.mk (Kd.R_below (fR HO445 BK449) hb); have n1_ := Aside0.mk (Kd.V_below (uV HO448 (fun _ hk => hk.2)) hb); have n2_ := Aside0.mk (blk_below (g := gb449) (o := .cells #[.int .i64 t442, .slice Ao38 t443.length co38] 25 (0, 0)) (bp BK449) hb); have n3_ := Aside0.mk (below_step bh hb); clear HO445 HO448 BK449 HB; have HO445 := n0_; have HO448 := n1_; have BK449 := n2_; have HB := n3_; clear n0_ n1_ n2_ n3_; (try clear hb); (try clear hb2); (try clear hk); (try clear hi); have hcz41_0 := cz0 BK449; have hcz41_1 := cz1 BK449; have hfz41_0 := blk_frozen BK449.out 0; have hfz41_1 := blk_frozen BK449.out 1) | (go_at_call 36; (with_reducible refine (spec_ClashOk.calls k t442 _ _ t443 _ _ t446 t451 _ ?side1 ?side2 ?side3 ?side4 A5.out).mono ?_); (case side1 => repeat (first | exact (Kd.R_reads' HO445.out).2.2 | (with_reducible refine Kd.C_alloc ?_ _) | (with_reducible refine Kd.C_drewN ?_ _) | (with_reducible refine Kd.C_drew ?_))); (case side2 => exact (Kd.R_reads' HO445.out).2.1); (case side3 => repeat (first | exact (Kd.V_reads' HO448.out).2.2 | (with_reducible refine Kd.C_alloc ?_ _) | (with_reducible refine Kd.C_drewN ?_ _) | (with_reducible refine Kd.C_drew ?_))); (case side4 => exact (Kd.V_reads' HO448.out).2.1); rintro e w42 ⟨rfl, hb⟩; have n0_ := Aside0.mk (Kd.R_below (rz HO445) hb); have n1_ := Aside0.mk (Kd.V_below (vz HO448) hb); have n2_ := Aside0.mk (blk_below (bz BK449) hb); have n3_ := Aside0.mk (below_step bh hb); clear HO445 HO448 BK449 HB; have HO445 := n0_; have HO448 := n1_; have BK449 := n2_; have HB := n3_; clear n0_ n1_ n2_ n3_; (try clear hb); (try clear hb2); (try clear hk); (try clear hi); have hcz43_0 := cz0 BK449; have hcz43_1 := cz1 BK449; have hfz43_0 := blk_frozen BK449.out 0; have hfz43_1 := blk_frozen BK449.out 1) | (go_at_call 12; (with_reducible refine (spec_TermOk.calls k t442 _ _ t443 _ _ t446 false _ ?side1 ?side2 ?side3 ?side4 A7.out).mono ?_); (case side1 => repeat (first | exact (Kd.R_reads' HO445.out).2.2 | (with_reducible refine Kd.C_alloc ?_ _) | (with_reducible refine Kd.C_drewN ?_ _) | (with_reducible refine Kd.C_drew ?_))); (case side2 => exact (Kd.R_reads' HO445.out).2.1); (case side3 => repeat (first | exact (Kd.V_reads' HO448.out).2.2 | (with_reducible refine Kd.C_alloc ?_ _) | (with_reducible refine Kd.C_drewN ?_ _) | (with_reducible refine Kd.C_drew ?_))); (case side4 => exact (Kd.V_reads' HO448.out).2.1); rintro e w44 ⟨rfl, hb⟩; have n0_ := Aside0.mk (Kd.R_below (rz HO445) hb); have n1_ := Aside0.mk (Kd.V_below (vz HO448) hb); have n2_ := Aside0.mk (blk_below (bz BK449) hb); have n3_ := Aside0.mk (below_step bh hb); clear HO445 HO448 BK449 HB; have HO445 := n0_; have HO448 := n1_; have BK449 := n2_; have HB := n3_; clear n0_ n1_ n2_ n3_; (try clear hb); (try clear hb2); (try clear hk); (try clear hi)) | (go_at_call 13; (with_reducible refine (laws_alive.calls  t453 _ A34.out).mono ?_); rintro e w' ⟨rfl, ⟨nd, rfl⟩⟩; (try first | exact ⟨rfl, _, World.drewN_drewN _ _ _⟩ | exact ⟨rfl, _, Eq.trans (World.drewN_drewN _ _ _) (congrArg (World.drewN _) (Nat.add_assoc _ _ _))⟩))))
     go_ret
     exact ⟨by first | rfl | (simp [errW_none, errW_some] <;> rfl) | (simp [*, errW_none, errW_some] <;> rfl), by exact bh⟩

/-- THE ONE PURE STATEMENT of laws_FnClashOk: yours. -/
def laws_FnClashOk.Pure : Prop := ∀ (l0 : List Int), l0.length ≤ maxLen → l0.length * 1 ≤ 140737488351232 → (∀ x ∈ l0, (Lit.int .u8 x).wf = true) → ∃ k, laws_FnClashOk.f k l0 = some true
theorem laws_FnClashOk.walk (P : laws_FnClashOk.Pure) (a0 : Option Addr) (len0 cap0 : Nat) (z0 : List Int) (w : World) (w0 : (a0 = none ∧ len0 = 0 ∧ cap0 = 0 ∧ z0 = []) ∨ ∃ x, a0 = some x ∧ len0 ≤ cap0 ∧ cap0 ≤ maxLen ∧ z0.length = cap0 ∧ (∀ i, i < z0.length → w.cell? (x.add i) = some (.int .u8 (z0.getD i 0))) ∧ ∀ n ∈ z0, (Lit.int .u8 n).wf = true) (y0 : len0 * 1 ≤ 140737488351232) :
  Calls Try.prog 6 #[.slice a0 len0 cap0] w fun e w' => e = .returned (.bool true) ∧ Below w.heap.size w w' := by
 obtain ⟨l0, rfl, hr0, hm0, hw0, hc0⟩ := ReadsInt.ofRowC w0
 obtain ⟨k, h⟩ := P l0 hm0 y0 hw0
 refine (laws_FnClashOk.calls k _ _ l0 true w (Kd.C_of_reads (d := (0 : Int)) (h1 := fun _ => rfl) hr0) hc0 h).mono ?_
 rintro e w' ⟨rfl, hd⟩
 exact ⟨rfl, hd⟩

end Go.Proofs.Ytaddlahbahedeaa.QFnClashOk
