-- Printed for this claim by a turned copy of the print (wip/myprint). Lean checks it. Squeezed. Worded. Tightened.
import Derived.Test.YtnpjlpkbefdnlaaQFnBillTermx0
import Derived.Test.YtnpjlpkbefdnlaaQFnBillTermx2
import Derived.Test.YtnpjlpkbefdnlaaQFnBillTermx5
import Derived.Test.YtnpjlpkbefdnlaaQFnBillTermx8
import Derived.Test.YtnpjlpkbefdnlaaQFnBillTermx15
namespace Go.Proofs.Ytnpjlpkbefdnlaa.QFnBillTerm
open Go.RowKit Go.Proofs.YtnpjlpkbefdnlaaW.PrintWords Go.Proofs.YtnpjlpkbefdnlaaW.PrintLast Go.Proofs.YtnpjlpkbefdnlaaW.PrintMore
attribute [local go_sem] max2_int min2_int max_two min_two max_three min_three max_four min_four Opens.cell_twice   -- for this text's walks alone
set_option linter.unusedVariables false
set_option linter.unusedSimpArgs false

/-! ### laws_FnBillTerm: function 12 -/
mutual
def laws_FnBillTerm.j0 : Nat → List (S41) → List (S78) → Int → Bool → Int → List Int → Option (Bool)
 | 0, _, _, _, _, _, _ => none
 | k + 1, x4, x5, x6, x39, x475000, x475001 => if x39 = true then (none) else (if x6 < 0 then (if x6 = (-1) then (if (x5.length : Int) = 0 then ((laws_alive.f).bind fun t484 => (some t484)) else (none)) else (none)) else (laws_FnBillTerm.l0 k x4 x5 x6 0 x475000 x475001))
def laws_FnBillTerm.l0 : Nat → List (S41) → List (S78) → Int → Int → Int → List Int → Option (Bool)
 | 0, _, _, _, _, _, _ => none
 | k + 1, x4, x5, x6, x9, x475000, x475001 => if 0 ≤ x475000 then (if x9 < (shl .i64 1 x475000) then ((impl_LawBy.f k x475000 x475001 x4 x9).bind fun t486 => (if x6 = 0 then ((impl_ConsentOk.f k x475000 x475001 x5 x9).bind fun t487 => (if (t486 != t487) = true then (none) else (if x6 = 1 then (if t486 = true then (if x6 = 2 then (none) else (laws_FnBillTerm.l0 k x4 x5 x6 (wrap64 (x9 + 1)) x475000 x475001)) else (none)) else (if x6 = 2 then (if t486 = true then (none) else (laws_FnBillTerm.l0 k x4 x5 x6 (wrap64 (x9 + 1)) x475000 x475001)) else (laws_FnBillTerm.l0 k x4 x5 x6 (wrap64 (x9 + 1)) x475000 x475001))))) else (if x6 = 1 then (if t486 = true then (if x6 = 2 then (none) else (laws_FnBillTerm.l0 k x4 x5 x6 (wrap64 (x9 + 1)) x475000 x475001)) else (none)) else (if x6 = 2 then (if t486 = true then (none) else (laws_FnBillTerm.l0 k x4 x5 x6 (wrap64 (x9 + 1)) x475000 x475001)) else (laws_FnBillTerm.l0 k x4 x5 x6 (wrap64 (x9 + 1)) x475000 x475001))))) else (if x6 = 0 then ((impl_TermOk.f k x475000 x475001 x5).bind fun t485 => (some t485)) else (some true))) else (none)
end
def laws_FnBillTerm.f (k : Nat) (l0 : List Int) : Option (Bool) := if (l0.length : Int) > 1048576 then (some true) else ((spec_DrawBillTerm.f k l0).bind fun bt467 => ((impl_BillTerm.f k bt467.1 bt467.2.1 bt467.2.2).bind fun bt475 => ((spec_BillTerm.f k bt467.1 bt467.2.1 bt467.2.2).bind fun bt479 => ((laws_sameMarks.f k bt475.1 bt479.1).bind fun t483 => (if t483 = true then (laws_FnBillTerm.j0 k bt467.2.2 bt475.1 bt475.2 (bt475.2 != bt479.2) bt467.1 bt467.2.1) else (laws_FnBillTerm.j0 k bt467.2.2 bt475.1 bt475.2 true bt467.1 bt467.2.1))))))
theorem laws_FnBillTerm.mono_l : ∀ k, (∀ y0 y1 y2 y3 y4 y5, LeO (laws_FnBillTerm.j0 k y0 y1 y2 y3 y4 y5) (laws_FnBillTerm.j0 (k + 1) y0 y1 y2 y3 y4 y5)) ∧ (∀ y0 y1 y2 y3 y4 y5, LeO (laws_FnBillTerm.l0 k y0 y1 y2 y3 y4 y5) (laws_FnBillTerm.l0 (k + 1) y0 y1 y2 y3 y4 y5))
 | 0 => ⟨fun _ _ _ _ _ _ r h => by simp [laws_FnBillTerm.j0] at h, fun _ _ _ _ _ _ r h => by simp [laws_FnBillTerm.l0] at h⟩
 | k + 1 => by
  obtain ⟨ih0, ih1⟩ := laws_FnBillTerm.mono_l k
  refine ⟨?_, ?_⟩
  ·intro y0 y1 y2 y3 y4 y5
   unfold laws_FnBillTerm.j0
   repeat' first
   | (with_reducible exact ih0 _ _ _ _ _ _)
   | (with_reducible exact ih1 _ _ _ _ _ _)
   | (with_reducible exact impl_BillTerm.mono _ _ _ _)
   | (with_reducible exact impl_ConsentOk.mono _ _ _ _ _)
   | (with_reducible exact impl_LawBy.mono _ _ _ _ _)
   | (with_reducible exact impl_TermOk.mono _ _ _ _)
   | (with_reducible exact laws_sameMarks.mono _ _ _)
   | (with_reducible exact spec_BillTerm.mono _ _ _ _)
   | (with_reducible exact spec_DrawBillTerm.mono _ _)
   | (with_reducible exact LeO.refl _)
   | (with_reducible exact LeO.none _)
   | (with_reducible refine LeO.ite ?_ ?_)
   | (with_reducible refine LeO.bind ?_ (fun _ => ?_))
   | exact ih0 _ _ _ _ _ _
   | exact ih1 _ _ _ _ _ _
   | exact impl_BillTerm.mono _ _ _ _
   | exact impl_ConsentOk.mono _ _ _ _ _
   | exact impl_LawBy.mono _ _ _ _ _
   | exact impl_TermOk.mono _ _ _ _
   | exact laws_sameMarks.mono _ _ _
   | exact spec_BillTerm.mono _ _ _ _
   | exact spec_DrawBillTerm.mono _ _
   | exact LeO.none _
   | refine LeO.ite ?_ ?_
   | refine LeO.bind ?_ (fun _ => ?_)
  ·intro y0 y1 y2 y3 y4 y5
   unfold laws_FnBillTerm.l0
   repeat' first
   | (with_reducible exact ih0 _ _ _ _ _ _)
   | (with_reducible exact ih1 _ _ _ _ _ _)
   | (with_reducible exact impl_BillTerm.mono _ _ _ _)
   | (with_reducible exact impl_ConsentOk.mono _ _ _ _ _)
   | (with_reducible exact impl_LawBy.mono _ _ _ _ _)
   | (with_reducible exact impl_TermOk.mono _ _ _ _)
   | (with_reducible exact laws_sameMarks.mono _ _ _)
   | (with_reducible exact spec_BillTerm.mono _ _ _ _)
   | (with_reducible exact spec_DrawBillTerm.mono _ _)
   | (with_reducible exact LeO.refl _)
   | (with_reducible exact LeO.none _)
   | (with_reducible refine LeO.ite ?_ ?_)
   | (with_reducible refine LeO.bind ?_ (fun _ => ?_))
   | exact ih0 _ _ _ _ _ _
   | exact ih1 _ _ _ _ _ _
   | exact impl_BillTerm.mono _ _ _ _
   | exact impl_ConsentOk.mono _ _ _ _ _
   | exact impl_LawBy.mono _ _ _ _ _
   | exact impl_TermOk.mono _ _ _ _
   | exact laws_sameMarks.mono _ _ _
   | exact spec_BillTerm.mono _ _ _ _
   | exact spec_DrawBillTerm.mono _ _
   | exact LeO.none _
   | refine LeO.ite ?_ ?_
   | refine LeO.bind ?_ (fun _ => ?_)
theorem laws_FnBillTerm.mono : ∀ a0 k, LeO (laws_FnBillTerm.f k a0) (laws_FnBillTerm.f (k + 1) a0) := by
 intro a0 k
 obtain ⟨ih0, ih1⟩ := laws_FnBillTerm.mono_l k
 unfold laws_FnBillTerm.f
 repeat' first
   | (with_reducible exact ih0 _ _ _ _ _ _)
   | (with_reducible exact ih1 _ _ _ _ _ _)
   | (with_reducible exact impl_BillTerm.mono _ _ _ _)
   | (with_reducible exact impl_ConsentOk.mono _ _ _ _ _)
   | (with_reducible exact impl_LawBy.mono _ _ _ _ _)
   | (with_reducible exact impl_TermOk.mono _ _ _ _)
   | (with_reducible exact laws_sameMarks.mono _ _ _)
   | (with_reducible exact spec_BillTerm.mono _ _ _ _)
   | (with_reducible exact spec_DrawBillTerm.mono _ _)
   | (with_reducible exact LeO.refl _)
   | (with_reducible exact LeO.none _)
   | (with_reducible refine LeO.ite ?_ ?_)
   | (with_reducible refine LeO.bind ?_ (fun _ => ?_))
   | exact ih0 _ _ _ _ _ _
   | exact ih1 _ _ _ _ _ _
   | exact impl_BillTerm.mono _ _ _ _
   | exact impl_ConsentOk.mono _ _ _ _ _
   | exact impl_LawBy.mono _ _ _ _ _
   | exact impl_TermOk.mono _ _ _ _
   | exact laws_sameMarks.mono _ _ _
   | exact spec_BillTerm.mono _ _ _ _
   | exact spec_DrawBillTerm.mono _ _
   | exact LeO.none _
   | refine LeO.ite ?_ ?_
   | refine LeO.bind ?_ (fun _ => ?_)
set_option maxHeartbeats 8000000 in
set_option maxRecDepth 100000 in
theorem laws_FnBillTerm.calls (k : Nat) (A0 : Option Addr) (c0 : Nat) (l0 : List Int) (r : Bool) (w : World) (hr0 : Kd.C (Kd.int .u8) w A0 l0.length l0) (hc0 : l0.length ≤ c0) (h : laws_FnBillTerm.f k l0 = some r) :
  Calls Try.prog 12 #[.slice A0 l0.length c0] w fun e w' => e = .returned (.bool r) ∧ Below w.heap.size w w' := by
 have hu25 := Try.underlying25
 have HR0 := Aside0.mk hr0
 have HC0 := Aside0.mk hc0
 clear hr0 hc0
 have HB := Aside0.mk (Below.refl w.heap.size w)
 have H : (if (l0.length : Int) > 1048576 then (some true) else ((spec_DrawBillTerm.f k l0).bind fun bt467 => ((impl_BillTerm.f k bt467.1 bt467.2.1 bt467.2.2).bind fun bt475 => ((spec_BillTerm.f k bt467.1 bt467.2.1 bt467.2.2).bind fun bt479 => ((laws_sameMarks.f k bt475.1 bt479.1).bind fun t483 => (if t483 = true then (laws_FnBillTerm.j0 k bt467.2.2 bt475.1 bt475.2 (bt475.2 != bt479.2) bt467.1 bt467.2.1) else (laws_FnBillTerm.j0 k bt467.2.2 bt475.1 bt475.2 true bt467.1 bt467.2.1))))))) = some r := h
 clear h
 by_cases c2 : (l0.length : Int) > 1048576
 ·rw [if_pos c2] at H
  have c2b0 : decide (1048576 < (l0.length : Int)) = true := decide_eq_true c2
  have c2b1 : decide (1048576 < l0.length) = true := decide_eq_true (by omega)
  clear c2
  obtain rfl := Option.some.inj H
  go_enter Try.func12, Try.ntmps12
  go_wp2
  go_ret
  exact ⟨by first | rfl | (simp [errW_none, errW_some] <;> rfl) | (simp [*, errW_none, errW_some] <;> rfl), by exact bh⟩
 ·rw [if_neg c2] at H
  have c2b0 : decide (1048576 < (l0.length : Int)) = false := decide_eq_false c2
  have c2b1 : decide (1048576 < l0.length) = false := decide_eq_false (by omega)
  clear c2
  replace H := Option.bind_eq_some_iff.mp H
  obtain ⟨⟨t467, t468, t471⟩, A30, H⟩ := H
  replace H : ((impl_BillTerm.f k t467 t468 t471).bind fun bt475 => ((spec_BillTerm.f k t467 t468 t471).bind fun bt479 => ((laws_sameMarks.f k bt475.1 bt479.1).bind fun t483 => (if t483 = true then (laws_FnBillTerm.j0 k t471 bt475.1 bt475.2 (bt475.2 != bt479.2) t467 t468) else (laws_FnBillTerm.j0 k t471 bt475.1 bt475.2 true t467 t468))))) = some r := H
  have A3 := Aside0.mk A30
  clear A30
  replace H := Option.bind_eq_some_iff.mp H
  obtain ⟨⟨t475, t478⟩, A40, H⟩ := H
  replace H : ((spec_BillTerm.f k t467 t468 t471).bind fun bt479 => ((laws_sameMarks.f k t475 bt479.1).bind fun t483 => (if t483 = true then (laws_FnBillTerm.j0 k t471 t475 t478 (t478 != bt479.2) t467 t468) else (laws_FnBillTerm.j0 k t471 t475 t478 true t467 t468)))) = some r := H
  have A4 := Aside0.mk A40
  clear A40
  replace H := Option.bind_eq_some_iff.mp H
  obtain ⟨⟨t479, t482⟩, A50, H⟩ := H
  replace H : ((laws_sameMarks.f k t475 t479).bind fun t483 => (if t483 = true then (laws_FnBillTerm.j0 k t471 t475 t478 (t478 != t482) t467 t468) else (laws_FnBillTerm.j0 k t471 t475 t478 true t467 t468))) = some r := H
  have A5 := Aside0.mk A50
  clear A50
  have HC6 := Aside0.mk H
  clear H
  go_enter Try.func12, Try.ntmps12
  go_upto_region 6 with (first | ((with_reducible refine gate_callee (f := 41) rfl ?_); refine goesL_ (some 16) rfl rfl Try.func41 kr rfl #[.slice A0 l0.length c0] rfl lm ?_; (with_reducible refine (spec_DrawBillTerm.calls k _ _ l0 t467 t468 t471 _ ?side1 ?side2 A3.out).mono ?_); (case side1 => repeat (first | exact HR0.out | (with_reducible refine Kd.C_alloc ?_ _) | (with_reducible refine Kd.C_drewN ?_ _) | (with_reducible refine Kd.C_drew ?_))); (case side2 => exact HC0.out); rintro e w7 ⟨v469, v472, rfl, ho0, ho1, hb⟩; refine ⟨_, rfl, ?_⟩; have n0_ := Aside0.mk (Kd.R_lower ho0 (below_size bh)); have n1_ := Aside0.mk (Kd.S_lower ho1 (below_size bh)); have n2_ := Aside0.mk (below_step bh hb); clear HB; have HO470 := n0_; have HO473 := n1_; have HB := n2_; clear n0_ n1_ n2_; (try clear hb); (try clear hb2); (try clear hk); (try clear hi); (try clear ho0); (try clear ho1)) | ((with_reducible refine gate_dst (N := 3) rfl ?_); (try (refine gate_guard (by rfl) ?_; dsimp only)); refine box_event ?hg (N := 3) ?hd (cs := #[.int .i64 0, .slice none 0 0]) (t := 25) ?hr ?_; (case hd => rfl); (case hg => rfl); (case hr => first | (go_simp; done) | (go_simp; rfl)); intro gb474 hg w8 hbox hb; have n0_ := Aside0.mk (Kd.R_below (rz HO470) hb); have n1_ := Aside0.mk (Kd.S_below (sz HO473) hb); have n2_ := Aside0.mk (below_step bh hb); have n3_ := Aside0.mk (hbox); have n4_ := Aside0.mk ((gs (W0 := w) hg bh)); have n5_ := Aside0.mk ((gs (W0 := w) hg bh)); clear HO470 HO473 HB; have HO470 := n0_; have HO473 := n1_; have HB := n2_; have BK474 := n3_; have GW474 := n4_; have GE474 := n5_; clear n0_ n1_ n2_ n3_ n4_ n5_ hb hbox hg; have hcz9_0 := cz0 BK474; have hcz9_1 := cz1 BK474; have hfz9_0 := blk_frozen BK474.out 0; have hfz9_1 := blk_frozen BK474.out 1; obtain ⟨Ao10, co10, eo10⟩ := Kd.R_slice HO470.out; subst eo10; obtain ⟨Ao11, co11, eo11⟩ := Kd.S_slice HO473.out; subst eo11) | ((with_reducible refine gate_callee (f := 42) rfl ?_); refine goesL_ (some 22) rfl rfl Try.func42 kr rfl #[.agg #[.int .i64 t467, .slice Ao10 t468.length co10], .slice Ao11 t471.length co11] rfl lm ?_; (with_reducible refine (impl_BillTerm.calls k t467 _ _ t468 _ _ t471 t475 t478 _ ?side1 ?side2 ?side3 ?side4 A4.out).mono ?_); (case side1 => refine (Kd.R_reads' (e := 3) (base := w.heap.size) (ok := fun k_ => True) (n := t468.length) (c := co10) ?_).2.2; exact (fR HO470 BK474)); (case side2 => exact (Kd.R_reads' HO470.out).2.1); (case side3 => refine (Kd.S_reads' (e := 41) (base := w.heap.size) (ok := fun k_ => True) (n := t471.length) (c := co11) ?_).2.2; exact (fS HO473 BK474)); (case side4 => exact (Kd.S_reads' HO473.out).2.1); rintro e w12 ⟨v476, rfl, ho0, hb⟩; refine ⟨_, rfl, ?_⟩; have n0_ := Aside0.mk (Kd.R_below (fR HO470 BK474) hb); have n1_ := Aside0.mk (Kd.S_elder' (fS HO473 BK474) (Kd.R_base ho0) hb); have n2_ := Aside0.mk (Kd.R_lower ho0 (below_size bh)); have n3_ := Aside0.mk (blk_below (g := gb474) (o := .cells #[.int .i64 t467, .slice Ao10 t468.length co10] 25 (0, 0)) (bp BK474) hb); have n4_ := Aside0.mk (below_step bh hb); clear HO470 HO473 BK474 HB; have HO470 := n0_; have HO473 := n1_; have HO477 := n2_; have BK474 := n3_; have HB := n4_; clear n0_ n1_ n2_ n3_ n4_; (try clear hb); (try clear hb2); (try clear hk); (try clear hi); (try clear ho0); have hcz13_0 := cz0 BK474; have hcz13_1 := cz1 BK474; have hfz13_0 := blk_frozen BK474.out 0; have hfz13_1 := blk_frozen BK474.out 1) | ((with_reducible refine gate_callee (f := 43) rfl ?_); refine goesL_ (some 28) rfl rfl Try.func43 kr rfl #[.agg #[.int .i64 t467, .slice Ao10 t468.length co10], .slice Ao11 t471.length co11] rfl lm ?_; (with_reducible refine (spec_BillTerm.calls k t467 _ _ t468 _ _ t471 t479 t482 _ ?side1 ?side2 ?side3 ?side4 A5.out).mono ?_); (case side1 => repeat (first | exact (Kd.R_reads' HO470.out).2.2 | (with_reducible refine Kd.C_alloc ?_ _) | (with_reducible refine Kd.C_drewN ?_ _) | (with_reducible refine Kd.C_drew ?_))); (case side2 => exact (Kd.R_reads' HO470.out).2.1); (case side3 => repeat (first | exact (Kd.S_reads' HO473.out).2.2 | (with_reducible refine Kd.C_alloc ?_ _) | (with_reducible refine Kd.C_drewN ?_ _) | (with_reducible refine Kd.C_drew ?_))); (case side4 => exact (Kd.S_reads' HO473.out).2.1); rintro e w14 ⟨v480, rfl, ho0, hb⟩; refine ⟨_, rfl, ?_⟩; have n0_ := Aside0.mk (Kd.R_below (rz HO470) hb); have n1_ := Aside0.mk (Kd.S_elder' (sz HO473) (Kd.R_base ho0) hb); have n2_ := Aside0.mk (Kd.R_elder' (rz HO477) (Kd.R_base ho0) hb); have n3_ := Aside0.mk (Kd.R_lower (Kd.R_new' ho0 (Kd.R_lt (rz HO477))) (below_size bh)); have n4_ := Aside0.mk (blk_below (bz BK474) hb); have n5_ := Aside0.mk (below_step bh hb); clear HO470 HO473 HO477 BK474 HB; have HO470 := n0_; have HO473 := n1_; have HO477 := n2_; have HO481 := n3_; have BK474 := n4_; have HB := n5_; clear n0_ n1_ n2_ n3_ n4_ n5_; (try clear hb); (try clear hb2); (try clear hk); (try clear hi); (try clear ho0)))
  (try simp only [Act.put, List.setIfInBounds_toArray, List.set_cons_zero, List.set_cons_succ])
  go_cut [39] (fun v39 wc => ∃ (kq : Nat) (x39_5 : Bool), v39 = .bool x39_5 ∧ Aside0 (laws_FnBillTerm.j0 kq t471 t475 t478 x39_5 t467 t468 = some r) ∧ Aside0 (kq ≤ k) ∧ Aside0 (Kd.S k41 41 wc w.heap.size (fun k_ => some k_ ≠ (v476 : Value).ownBlock) (.slice Ao11 t471.length co11) t471) ∧ Aside0 (Kd.R k78 78 wc w.heap.size (fun _ => True) v476 t475) ∧ Aside0 (Kd.R (Kd.int .i64) 3 wc w.heap.size (fun _ => True) (.slice Ao10 t468.length co10) t468) ∧ Aside0 (wc.heap[gb474]? = some (.cells #[.int .i64 t467, (.slice Ao10 t468.length co10)] 25 (0, 0))) ∧ Aside0 (Below w.heap.size w wc))
  case first =>
   have H := HC6.out
   clear HC6
   replace H := Option.bind_eq_some_iff.mp H
   obtain ⟨t483, A150, H⟩ := H
   replace H : (if t483 = true then (laws_FnBillTerm.j0 k t471 t475 t478 (t478 != t482) t467 t468) else (laws_FnBillTerm.j0 k t471 t475 t478 true t467 t468)) = some r := H
   have A15 := Aside0.mk A150
   clear A150
   by_cases c16 : t483 = true
   ·subst c16
    have H1 : (laws_FnBillTerm.j0 k t471 t475 t478 (t478 != t482) t467 t468) = some r := by rw [if_pos rfl] at H; exact H
    clear H
    have H := H1
    clear H1
    have H' := Aside0.mk H
    clear H
    obtain ⟨Ao17, co17, eo17⟩ := Kd.R_slice HO477.out
    subst eo17
    obtain ⟨Ao18, co18, eo18⟩ := Kd.R_slice HO481.out
    subst eo18
    go_wp2_with (first | ((with_reducible refine gate_callee (f := 44) rfl ?_); refine goesL_ (some 33) rfl rfl Try.func44 kr rfl #[.slice Ao17 t475.length co17, .slice Ao18 t479.length co18] rfl lm ?_; (with_reducible refine (laws_sameMarks.calls k _ _ t475 _ _ t479 true _ ?side1 ?side2 ?side3 ?side4 A15.out).mono ?_); (case side1 => repeat (first | exact (Kd.R_reads' HO477.out).2.2 | (with_reducible refine Kd.C_alloc ?_ _) | (with_reducible refine Kd.C_drewN ?_ _) | (with_reducible refine Kd.C_drew ?_))); (case side2 => exact (Kd.R_reads' HO477.out).2.1); (case side3 => repeat (first | exact (Kd.R_reads' HO481.out).2.2 | (with_reducible refine Kd.C_alloc ?_ _) | (with_reducible refine Kd.C_drewN ?_ _) | (with_reducible refine Kd.C_drew ?_))); (case side4 => exact (Kd.R_reads' HO481.out).2.1); rintro e w' ⟨rfl, ⟨nd, rfl⟩⟩; refine ⟨_, rfl, ?_⟩))
    go_meet
    case rel => exact ⟨_, ((t478 != t482)), (by first | rfl | (simp; done) | (simp [*]; done)), H', ⟨by first | omega | exact Nat.le_refl _⟩, ⟨mS HO473⟩, ⟨mR HO477⟩, ⟨rz HO470⟩, ⟨bz BK474⟩, ⟨by exact bh⟩⟩
   ·replace c16 := Bool.eq_false_iff.mpr c16
    subst c16
    have H1 : (laws_FnBillTerm.j0 k t471 t475 t478 true t467 t468) = some r := by rw [if_neg (show ¬ (false = true) by decide)] at H; exact H
    clear H
    have H := H1
    clear H1
    have H' := Aside0.mk H
    clear H
    obtain ⟨Ao19, co19, eo19⟩ := Kd.R_slice HO477.out
    subst eo19
    obtain ⟨Ao20, co20, eo20⟩ := Kd.R_slice HO481.out
    subst eo20
    go_wp2_with (first | ((with_reducible refine gate_callee (f := 44) rfl ?_); refine goesL_ (some 33) rfl rfl Try.func44 kr rfl #[.slice Ao19 t475.length co19, .slice Ao20 t479.length co20] rfl lm ?_; (with_reducible refine (laws_sameMarks.calls k _ _ t475 _ _ t479 false _ ?side1 ?side2 ?side3 ?side4 A15.out).mono ?_); (case side1 => repeat (first | exact (Kd.R_reads' HO477.out).2.2 | (with_reducible refine Kd.C_alloc ?_ _) | (with_reducible refine Kd.C_drewN ?_ _) | (with_reducible refine Kd.C_drew ?_))); (case side2 => exact (Kd.R_reads' HO477.out).2.1); (case side3 => repeat (first | exact (Kd.R_reads' HO481.out).2.2 | (with_reducible refine Kd.C_alloc ?_ _) | (with_reducible refine Kd.C_drewN ?_ _) | (with_reducible refine Kd.C_drew ?_))); (case side4 => exact (Kd.R_reads' HO481.out).2.1); rintro e w' ⟨rfl, ⟨nd, rfl⟩⟩; refine ⟨_, rfl, ?_⟩))
    go_meet
    case rel => exact ⟨_, (true), (by first | rfl | (simp; done) | (simp [*]; done)), H', ⟨by first | omega | exact Nat.le_refl _⟩, ⟨mS HO473⟩, ⟨mR HO477⟩, ⟨rz HO470⟩, ⟨bz BK474⟩, ⟨by exact bh⟩⟩
  case rest =>
   clear HC6
   try clear c1
   try clear c2
   try clear c2b0
   try clear c2b1
   try clear p2
   try clear c4
   try clear c12
   try clear c16
   try clear hcz13_0
   try clear hcz13_1
   try clear hcz9_0
   try clear hcz9_1
   try clear hfz13_0
   try clear hfz13_1
   try clear hfz9_0
   try clear hfz9_1
   obtain ⟨kq, x39_5, rfl, HA, HJ5, HO_4, HO_5, HO_475001, BK474, HB⟩ := hcut
   cases kq with
   | zero => exact absurd HA.out (by simp [laws_FnBillTerm.j0])
   | succ kj5 =>
    have H := HA.out
    clear HA
    simp only [laws_FnBillTerm.j0] at H
    by_cases c21 : x39_5 = true
    ·subst c21
     have H1 : (none) = some r := by rw [if_pos rfl] at H; exact H
     clear H
     have H := H1
     clear H1
     exact absurd H (by simp)
    ·replace c21 := Bool.eq_false_iff.mpr c21
     subst c21
     have H1 : (if t478 < 0 then (if t478 = (-1) then (if (t475.length : Int) = 0 then ((laws_alive.f).bind fun t484 => (some t484)) else (none)) else (none)) else (laws_FnBillTerm.l0 kj5 t471 t475 t478 0 t467 t468)) = some r := by rw [if_neg (show ¬ (false = true) by decide)] at H; exact H
     clear H
     have H := H1
     clear H1
     by_cases c22 : t478 < 0
     ·rw [if_pos c22] at H
      have c22b0 : decide (t478 < 0) = true := decide_eq_true c22
      clear c22
      by_cases c23 : t478 = (-1)
      ·rw [if_pos c23] at H
       have c23b0 : (t478 == (-1)) = true := beq_iff_eq.mpr c23
       have c23b1 : (t478 != (-1)) = false := bne_eq_false_iff_eq.mpr c23
       clear c23
       by_cases c24 : (t475.length : Int) = 0
       ·rw [if_pos c24] at H
        have c24b0 : ((t475.length : Int) == 0) = true := beq_iff_eq.mpr c24
        have c24b1 : ((t475.length : Int) != 0) = false := bne_eq_false_iff_eq.mpr c24
        clear c24
        replace H := Option.bind_eq_some_iff.mp H
        obtain ⟨t484, A250, H⟩ := H
        replace H : (some t484) = some r := H
        have A25 := Aside0.mk A250
        clear A250
        obtain rfl := Option.some.inj H
        obtain ⟨Ao26, co26, eo26⟩ := Kd.R_slice HO_5.out
        subst eo26
        go_wp2_with (first | (go_at_call 18; (with_reducible refine (laws_alive.calls  t484 _ A25.out).mono ?_); rintro e w' ⟨rfl, ⟨nd, rfl⟩⟩))
        go_ret
        exact ⟨by first | rfl | (simp [errW_none, errW_some] <;> rfl) | (simp [*, errW_none, errW_some] <;> rfl), by exact bh⟩
       ·rw [if_neg c24] at H
        exact absurd H (by simp)
      ·rw [if_neg c23] at H
       exact absurd H (by simp)
     ·rw [if_neg c22] at H
      have c22b0 : decide (t478 < 0) = false := decide_eq_false c22
      clear c22
      have H' := Aside0.mk H
      clear H
      go_wp2
      go_loopg [9] kj5 (fun kq v9 w' => ∃ (x9_2 : Int), v9 = .int .i64 x9_2 ∧ Aside0 (laws_FnBillTerm.l0 kq t471 t475 t478 x9_2 t467 t468 = some r) ∧ Aside0 (kq ≤ kj5) ∧ Aside0 (Kd.S k41 41 w' w.heap.size (fun k_ => some k_ ≠ (v476 : Value).ownBlock) (.slice Ao11 t471.length co11) t471) ∧ Aside0 (Kd.R k78 78 w' w.heap.size (fun _ => True) v476 t475) ∧ Aside0 (Kd.R (Kd.int .i64) 3 w' w.heap.size (fun _ => True) (.slice Ao10 t468.length co10) t468) ∧ Aside0 (w'.heap[gb474]? = some (.cells #[.int .i64 t467, (.slice Ao10 t468.length co10)] 25 (0, 0))) ∧ Aside0 (Below w.heap.size w w'))
      case atStart => exact ⟨(0), (by first | rfl | (simp; done) | (simp [*]; done)), H', ⟨Nat.le_refl _⟩, ⟨sz HO_4⟩, ⟨rz HO_5⟩, ⟨rz HO_475001⟩, ⟨bz BK474⟩, ⟨by exact bh⟩⟩
      case round =>
       clear H'
       try clear c1
       try clear c2
       try clear c2b0
       try clear c2b1
       try clear p2
       try clear c4
       try clear c12
       try clear c16
       try clear c21
       try clear c22
       try clear c22b0
       try clear c23
       try clear c23b0
       try clear c23b1
       try clear c24
       try clear c24b0
       try clear c24b1
       try clear hcz13_0
       try clear hcz13_1
       try clear hcz9_0
       try clear hcz9_1
       try clear hfz13_0
       try clear hfz13_1
       try clear hfz9_0
       try clear hfz9_1
       try clear p2
       obtain ⟨x9_2, rfl, HA, HK2, HO_4, HO_5, HO_475001, BK474, HB⟩ := hrel
       cases gk with
       | zero => exact absurd HA.out (by simp [laws_FnBillTerm.l0])
       | succ k2 =>
        have H := HA.out
        clear HA
        simp only [laws_FnBillTerm.l0] at H
        by_cases c27 : 0 ≤ t467
        ·rw [if_pos c27] at H
         have c27b0 := eq_true c27
         have c27b1 : decide (0 ≤ t467) = true := decide_eq_true c27
         clear c27
         obtain ⟨ji28, hji28⟩ : ∃ j_ : Int, (shl .i64 1 t467) = j_ := ⟨_, rfl⟩
         replace H : (if x9_2 < (ji28) then ((impl_LawBy.f k2 t467 t468 t471 x9_2).bind fun t486 => (if t478 = 0 then ((impl_ConsentOk.f k2 t467 t468 t475 x9_2).bind fun t487 => (if (t486 != t487) = true then (none) else (if t478 = 1 then (if t486 = true then (if t478 = 2 then (none) else (laws_FnBillTerm.l0 k2 t471 t475 t478 (wrap64 (x9_2 + 1)) t467 t468)) else (none)) else (if t478 = 2 then (if t486 = true then (none) else (laws_FnBillTerm.l0 k2 t471 t475 t478 (wrap64 (x9_2 + 1)) t467 t468)) else (laws_FnBillTerm.l0 k2 t471 t475 t478 (wrap64 (x9_2 + 1)) t467 t468))))) else (if t478 = 1 then (if t486 = true then (if t478 = 2 then (none) else (laws_FnBillTerm.l0 k2 t471 t475 t478 (wrap64 (x9_2 + 1)) t467 t468)) else (none)) else (if t478 = 2 then (if t486 = true then (none) else (laws_FnBillTerm.l0 k2 t471 t475 t478 (wrap64 (x9_2 + 1)) t467 t468)) else (laws_FnBillTerm.l0 k2 t471 t475 t478 (wrap64 (x9_2 + 1)) t467 t468))))) else (if t478 = 0 then ((impl_TermOk.f k2 t467 t468 t475).bind fun t485 => (some t485)) else (some true))) = some r := by first | (rw [hji28] at H; exact H) | (simp only [hji28] at H ⊢; exact H)
         have hji28_ : (IntKind.i64.wrap (1 * 2 ^ min t467.toNat 64)) = ji28 := hji28
         have hji28z : t467 ≤ 64 → (IntKind.i64.wrap (1 * 2 ^ t467.toNat)) = ji28 := shl_small hji28
         have hji28u : (IntKind.i64.wrap (2 ^ min t467.toNat 64)) = ji28 := by have h_ := hji28_; rw [Int.one_mul] at h_; exact h_
         have hji28v : t467 ≤ 64 → (IntKind.i64.wrap (2 ^ t467.toNat)) = ji28 := fun hle_ => by have h_ := hji28z hle_; rw [Int.one_mul] at h_; exact h_
         have hji28y : (wrap64 (1 * 2 ^ min t467.toNat 64)) = ji28 := (i64_w _).symm.trans hji28_
         have hji28x : t467 ≤ 64 → (wrap64 (1 * 2 ^ t467.toNat)) = ji28 := fun h_ => (i64_w _).symm.trans (hji28z h_)
         by_cases c29 : x9_2 < (ji28)
         ·rw [if_pos c29] at H
          have c29b0 : decide (x9_2 < (ji28)) = true := decide_eq_true c29
          clear c29
          replace H := Option.bind_eq_some_iff.mp H
          obtain ⟨t486, A300, H⟩ := H
          replace H : (if t478 = 0 then ((impl_ConsentOk.f k2 t467 t468 t475 x9_2).bind fun t487 => (if (t486 != t487) = true then (none) else (if t478 = 1 then (if t486 = true then (if t478 = 2 then (none) else (laws_FnBillTerm.l0 k2 t471 t475 t478 (wrap64 (x9_2 + 1)) t467 t468)) else (none)) else (if t478 = 2 then (if t486 = true then (none) else (laws_FnBillTerm.l0 k2 t471 t475 t478 (wrap64 (x9_2 + 1)) t467 t468)) else (laws_FnBillTerm.l0 k2 t471 t475 t478 (wrap64 (x9_2 + 1)) t467 t468))))) else (if t478 = 1 then (if t486 = true then (if t478 = 2 then (none) else (laws_FnBillTerm.l0 k2 t471 t475 t478 (wrap64 (x9_2 + 1)) t467 t468)) else (none)) else (if t478 = 2 then (if t486 = true then (none) else (laws_FnBillTerm.l0 k2 t471 t475 t478 (wrap64 (x9_2 + 1)) t467 t468)) else (laws_FnBillTerm.l0 k2 t471 t475 t478 (wrap64 (x9_2 + 1)) t467 t468)))) = some r := H
          have A30 := Aside0.mk A300
          clear A300
          by_cases c31 : t478 = 0
          ·rw [if_pos c31] at H
           have c31b0 : (t478 == 0) = true := beq_iff_eq.mpr c31
           have c31b1 : (t478 != 0) = false := bne_eq_false_iff_eq.mpr c31
           clear c31
           replace H := Option.bind_eq_some_iff.mp H
           obtain ⟨t487, A320, H⟩ := H
           replace H : (if (t486 != t487) = true then (none) else (if t478 = 1 then (if t486 = true then (if t478 = 2 then (none) else (laws_FnBillTerm.l0 k2 t471 t475 t478 (wrap64 (x9_2 + 1)) t467 t468)) else (none)) else (if t478 = 2 then (if t486 = true then (none) else (laws_FnBillTerm.l0 k2 t471 t475 t478 (wrap64 (x9_2 + 1)) t467 t468)) else (laws_FnBillTerm.l0 k2 t471 t475 t478 (wrap64 (x9_2 + 1)) t467 t468)))) = some r := H
           have A32 := Aside0.mk A320
           clear A320
           by_cases c33 : (t486 != t487) = true
           ·rw [if_pos c33] at H
            exact absurd H (by simp)
           ·rw [if_neg c33] at H
            have c33b0 : (t486 != t487) = false := by simpa using c33
            (try (have c33b1 : decide (t486 = t487) = true := by simpa using c33))
            (try (have c33b2 : (t486 == t487) = true := by simpa using c33))
            clear c33
            by_cases c34 : t478 = 1
            ·rw [if_pos c34] at H
             have c34b0 : (t478 == 1) = true := beq_iff_eq.mpr c34
             have c34b1 : (t478 != 1) = false := bne_eq_false_iff_eq.mpr c34
             clear c34
             by_cases c35 : t486 = true
             ·subst c35
              have H1 : (if t478 = 2 then (none) else (laws_FnBillTerm.l0 k2 t471 t475 t478 (wrap64 (x9_2 + 1)) t467 t468)) = some r := by rw [if_pos rfl] at H; exact H
              clear H
              have H := H1
              clear H1
              by_cases c36 : t478 = 2
              ·rw [if_pos c36] at H
               exact absurd H (by simp)
              ·exact absurd ((beq_iff_eq.mp c31b0).symm.trans (beq_iff_eq.mp c34b0)) (by decide)
             ·replace c35 := Bool.eq_false_iff.mpr c35
              subst c35
              have H1 : (none) = some r := by rw [if_neg (show ¬ (false = true) by decide)] at H; exact H
              clear H
              have H := H1
              clear H1
              exact absurd H (by simp)
            ·rw [if_neg c34] at H
             have c34b0 : (t478 == 1) = false := beq_eq_false_iff_ne.mpr c34
             have c34b1 : (t478 != 1) = true := bne_iff_ne.mpr c34
             by_cases c42 : t478 = 2
             ·rw [if_pos c42] at H
              have c42b0 : (t478 == 2) = true := beq_iff_eq.mpr c42
              have c42b1 : (t478 != 2) = false := bne_eq_false_iff_eq.mpr c42
              clear c42
              by_cases c43 : t486 = true
              ·subst c43
               have H1 : (none) = some r := by rw [if_pos rfl] at H; exact H
               clear H
               have H := H1
               clear H1
               exact absurd H (by simp)
              ·exact absurd ((beq_iff_eq.mp c31b0).symm.trans (beq_iff_eq.mp c42b0)) (by decide)
             ·rw [if_neg c42] at H
              have c42b0 : (t478 == 2) = false := beq_eq_false_iff_ne.mpr c42
              have c42b1 : (t478 != 2) = true := bne_iff_ne.mpr c42
              have H' := Aside0.mk H
              clear H
              have hcz49_0 := cz0 BK474
              have hcz49_1 := cz1 BK474
              have hfz49_0 := blk_frozen BK474.out 0
              have hfz49_1 := blk_frozen BK474.out 1
              go_wp2_with (first | ((with_reducible refine gate_callee (f := 24) rfl ?_); refine goesL_ (some 62) rfl rfl Try.func24 kr rfl #[.agg #[.int .i64 t467, .slice Ao10 t468.length co10], .slice Ao11 t471.length co11, .int .i64 x9_2] rfl lm ?_; (with_reducible refine (impl_LawBy.calls k2 t467 _ _ t468 _ _ t471 x9_2 t486 _ ?side1 ?side2 ?side3 ?side4 A30.out).mono ?_); (case side1 => repeat (first | exact (Kd.R_reads' HO_475001.out).2.2 | (with_reducible refine Kd.C_alloc ?_ _) | (with_reducible refine Kd.C_drewN ?_ _) | (with_reducible refine Kd.C_drew ?_))); (case side2 => exact (Kd.R_reads' HO_475001.out).2.1); (case side3 => repeat (first | exact (Kd.S_reads' HO_4.out).2.2 | (with_reducible refine Kd.C_alloc ?_ _) | (with_reducible refine Kd.C_drewN ?_ _) | (with_reducible refine Kd.C_drew ?_))); (case side4 => exact (Kd.S_reads' HO_4.out).2.1); rintro e w50 ⟨rfl, hb⟩; refine ⟨_, rfl, ?_⟩; have n0_ := Aside0.mk (Kd.S_below (sz HO_4) hb); have n1_ := Aside0.mk (Kd.R_below (rz HO_5) hb); have n2_ := Aside0.mk (Kd.R_below (rz HO_475001) hb); have n3_ := Aside0.mk (blk_below (bz BK474) hb); have n4_ := Aside0.mk (below_step bh hb); clear HO_4 HO_5 HO_475001 BK474 HB; have HO_4 := n0_; have HO_5 := n1_; have HO_475001 := n2_; have BK474 := n3_; have HB := n4_; clear n0_ n1_ n2_ n3_ n4_; (try clear hb); (try clear hb2); (try clear hk); (try clear hi); have hcz51_0 := cz0 BK474; have hcz51_1 := cz1 BK474; have hfz51_0 := blk_frozen BK474.out 0; have hfz51_1 := blk_frozen BK474.out 1; obtain ⟨Ao52, co52, eo52⟩ := Kd.R_slice HO_5.out; subst eo52) | (go_at_call 23; (with_reducible refine (impl_ConsentOk.calls k2 t467 _ _ t468 _ _ t475 x9_2 t487 _ ?side1 ?side2 ?side3 ?side4 A32.out).mono ?_); (case side1 => repeat (first | exact (Kd.R_reads' HO_475001.out).2.2 | (with_reducible refine Kd.C_alloc ?_ _) | (with_reducible refine Kd.C_drewN ?_ _) | (with_reducible refine Kd.C_drew ?_))); (case side2 => exact (Kd.R_reads' HO_475001.out).2.1); (case side3 => repeat (first | exact (Kd.R_reads' HO_5.out).2.2 | (with_reducible refine Kd.C_alloc ?_ _) | (with_reducible refine Kd.C_drewN ?_ _) | (with_reducible refine Kd.C_drew ?_))); (case side4 => exact (Kd.R_reads' HO_5.out).2.1); rintro e w53 ⟨rfl, hb⟩; have n0_ := Aside0.mk (Kd.S_below (sz HO_4) hb); have n1_ := Aside0.mk (Kd.R_below (rz HO_5) hb); have n2_ := Aside0.mk (Kd.R_below (rz HO_475001) hb); have n3_ := Aside0.mk (blk_below (bz BK474) hb); have n4_ := Aside0.mk (below_step bh hb); clear HO_4 HO_5 HO_475001 BK474 HB; have HO_4 := n0_; have HO_5 := n1_; have HO_475001 := n2_; have BK474 := n3_; have HB := n4_; clear n0_ n1_ n2_ n3_ n4_; (try clear hb); (try clear hb2); (try clear hk); (try clear hi)))
              go_roundg k2
              case measure => have := HJ5.out; have := HK2.out; omega
              case rel => exact ⟨(wrap64 (x9_2 + 1)), (by first | rfl | (simp; done) | (simp [*]; done)), H', ⟨by have := HJ5.out; have := HK2.out; omega⟩, ⟨sz HO_4⟩, ⟨rz HO_5⟩, ⟨rz HO_475001⟩, ⟨bz BK474⟩, ⟨by exact bh⟩⟩
          ·rw [if_neg c31] at H
           have c31b0 : (t478 == 0) = false := beq_eq_false_iff_ne.mpr c31
           have c31b1 : (t478 != 0) = true := bne_iff_ne.mpr c31
           by_cases c54 : t478 = 1
           ·rw [if_pos c54] at H
            have c54b0 : (t478 == 1) = true := beq_iff_eq.mpr c54
            have c54b1 : (t478 != 1) = false := bne_eq_false_iff_eq.mpr c54
            clear c54
            by_cases c55 : t486 = true
            ·subst c55
             have H1 : (if t478 = 2 then (none) else (laws_FnBillTerm.l0 k2 t471 t475 t478 (wrap64 (x9_2 + 1)) t467 t468)) = some r := by rw [if_pos rfl] at H; exact H
             clear H
             have H := H1
             clear H1
             by_cases c56 : t478 = 2
             ·rw [if_pos c56] at H
              exact absurd H (by simp)
             ·rw [if_neg c56] at H
              have c56b0 : (t478 == 2) = false := beq_eq_false_iff_ne.mpr c56
              have c56b1 : (t478 != 2) = true := bne_iff_ne.mpr c56
              have H' := Aside0.mk H
              clear H
              have hcz57_0 := cz0 BK474
              have hcz57_1 := cz1 BK474
              have hfz57_0 := blk_frozen BK474.out 0
              have hfz57_1 := blk_frozen BK474.out 1
              go_wp2_with (first | ((with_reducible refine gate_callee (f := 24) rfl ?_); refine goesL_ (some 62) rfl rfl Try.func24 kr rfl #[.agg #[.int .i64 t467, .slice Ao10 t468.length co10], .slice Ao11 t471.length co11, .int .i64 x9_2] rfl lm ?_; (with_reducible refine (impl_LawBy.calls k2 t467 _ _ t468 _ _ t471 x9_2 true _ ?side1 ?side2 ?side3 ?side4 A30.out).mono ?_); (case side1 => repeat (first | exact (Kd.R_reads' HO_475001.out).2.2 | (with_reducible refine Kd.C_alloc ?_ _) | (with_reducible refine Kd.C_drewN ?_ _) | (with_reducible refine Kd.C_drew ?_))); (case side2 => exact (Kd.R_reads' HO_475001.out).2.1); (case side3 => repeat (first | exact (Kd.S_reads' HO_4.out).2.2 | (with_reducible refine Kd.C_alloc ?_ _) | (with_reducible refine Kd.C_drewN ?_ _) | (with_reducible refine Kd.C_drew ?_))); (case side4 => exact (Kd.S_reads' HO_4.out).2.1); rintro e w58 ⟨rfl, hb⟩; refine ⟨_, rfl, ?_⟩; have n0_ := Aside0.mk (Kd.S_below (sz HO_4) hb); have n1_ := Aside0.mk (Kd.R_below (rz HO_5) hb); have n2_ := Aside0.mk (Kd.R_below (rz HO_475001) hb); have n3_ := Aside0.mk (blk_below (bz BK474) hb); have n4_ := Aside0.mk (below_step bh hb); clear HO_4 HO_5 HO_475001 BK474 HB; have HO_4 := n0_; have HO_5 := n1_; have HO_475001 := n2_; have BK474 := n3_; have HB := n4_; clear n0_ n1_ n2_ n3_ n4_; (try clear hb); (try clear hb2); (try clear hk); (try clear hi)))
              go_roundg k2
              case measure => have := HJ5.out; have := HK2.out; omega
              case rel => exact ⟨(wrap64 (x9_2 + 1)), (by first | rfl | (simp; done) | (simp [*]; done)), H', ⟨by have := HJ5.out; have := HK2.out; omega⟩, ⟨sz HO_4⟩, ⟨rz HO_5⟩, ⟨rz HO_475001⟩, ⟨bz BK474⟩, ⟨by exact bh⟩⟩
            ·replace c55 := Bool.eq_false_iff.mpr c55
             subst c55
             have H1 : (none) = some r := by rw [if_neg (show ¬ (false = true) by decide)] at H; exact H
             clear H
             have H := H1
             clear H1
             exact absurd H (by simp)
           ·rw [if_neg c54] at H
            have c54b0 : (t478 == 1) = false := beq_eq_false_iff_ne.mpr c54
            have c54b1 : (t478 != 1) = true := bne_iff_ne.mpr c54
            by_cases c59 : t478 = 2
            ·rw [if_pos c59] at H
             have c59b0 : (t478 == 2) = true := beq_iff_eq.mpr c59
             have c59b1 : (t478 != 2) = false := bne_eq_false_iff_eq.mpr c59
             clear c59
             by_cases c60 : t486 = true
             ·subst c60
              have H1 : (none) = some r := by rw [if_pos rfl] at H; exact H
              clear H
              have H := H1
              clear H1
              exact absurd H (by simp)
             ·replace c60 := Bool.eq_false_iff.mpr c60
              subst c60
              have H1 : (laws_FnBillTerm.l0 k2 t471 t475 t478 (wrap64 (x9_2 + 1)) t467 t468) = some r := by rw [if_neg (show ¬ (false = true) by decide)] at H; exact H
              clear H
              have H := H1
              clear H1
              have H' := Aside0.mk H
              clear H
              have hcz61_0 := cz0 BK474
              have hcz61_1 := cz1 BK474
              have hfz61_0 := blk_frozen BK474.out 0
              have hfz61_1 := blk_frozen BK474.out 1
              go_wp2_with (first | ((with_reducible refine gate_callee (f := 24) rfl ?_); refine goesL_ (some 62) rfl rfl Try.func24 kr rfl #[.agg #[.int .i64 t467, .slice Ao10 t468.length co10], .slice Ao11 t471.length co11, .int .i64 x9_2] rfl lm ?_; (with_reducible refine (impl_LawBy.calls k2 t467 _ _ t468 _ _ t471 x9_2 false _ ?side1 ?side2 ?side3 ?side4 A30.out).mono ?_); (case side1 => repeat (first | exact (Kd.R_reads' HO_475001.out).2.2 | (with_reducible refine Kd.C_alloc ?_ _) | (with_reducible refine Kd.C_drewN ?_ _) | (with_reducible refine Kd.C_drew ?_))); (case side2 => exact (Kd.R_reads' HO_475001.out).2.1); (case side3 => repeat (first | exact (Kd.S_reads' HO_4.out).2.2 | (with_reducible refine Kd.C_alloc ?_ _) | (with_reducible refine Kd.C_drewN ?_ _) | (with_reducible refine Kd.C_drew ?_))); (case side4 => exact (Kd.S_reads' HO_4.out).2.1); rintro e w62 ⟨rfl, hb⟩; refine ⟨_, rfl, ?_⟩; have n0_ := Aside0.mk (Kd.S_below (sz HO_4) hb); have n1_ := Aside0.mk (Kd.R_below (rz HO_5) hb); have n2_ := Aside0.mk (Kd.R_below (rz HO_475001) hb); have n3_ := Aside0.mk (blk_below (bz BK474) hb); have n4_ := Aside0.mk (below_step bh hb); clear HO_4 HO_5 HO_475001 BK474 HB; have HO_4 := n0_; have HO_5 := n1_; have HO_475001 := n2_; have BK474 := n3_; have HB := n4_; clear n0_ n1_ n2_ n3_ n4_; (try clear hb); (try clear hb2); (try clear hk); (try clear hi)))
              go_roundg k2
              case measure => have := HJ5.out; have := HK2.out; omega
              case rel => exact ⟨(wrap64 (x9_2 + 1)), (by first | rfl | (simp; done) | (simp [*]; done)), H', ⟨by have := HJ5.out; have := HK2.out; omega⟩, ⟨sz HO_4⟩, ⟨rz HO_5⟩, ⟨rz HO_475001⟩, ⟨bz BK474⟩, ⟨by exact bh⟩⟩
            ·rw [if_neg c59] at H
             have c59b0 : (t478 == 2) = false := beq_eq_false_iff_ne.mpr c59
             have c59b1 : (t478 != 2) = true := bne_iff_ne.mpr c59
             have H' := Aside0.mk H
             clear H
             have hcz63_0 := cz0 BK474
             have hcz63_1 := cz1 BK474
             have hfz63_0 := blk_frozen BK474.out 0
             have hfz63_1 := blk_frozen BK474.out 1
             go_wp2_with (first | ((with_reducible refine gate_callee (f := 24) rfl ?_); refine goesL_ (some 62) rfl rfl Try.func24 kr rfl #[.agg #[.int .i64 t467, .slice Ao10 t468.length co10], .slice Ao11 t471.length co11, .int .i64 x9_2] rfl lm ?_; (with_reducible refine (impl_LawBy.calls k2 t467 _ _ t468 _ _ t471 x9_2 t486 _ ?side1 ?side2 ?side3 ?side4 A30.out).mono ?_); (case side1 => repeat (first | exact (Kd.R_reads' HO_475001.out).2.2 | (with_reducible refine Kd.C_alloc ?_ _) | (with_reducible refine Kd.C_drewN ?_ _) | (with_reducible refine Kd.C_drew ?_))); (case side2 => exact (Kd.R_reads' HO_475001.out).2.1); (case side3 => repeat (first | exact (Kd.S_reads' HO_4.out).2.2 | (with_reducible refine Kd.C_alloc ?_ _) | (with_reducible refine Kd.C_drewN ?_ _) | (with_reducible refine Kd.C_drew ?_))); (case side4 => exact (Kd.S_reads' HO_4.out).2.1); rintro e w64 ⟨rfl, hb⟩; refine ⟨_, rfl, ?_⟩; have n0_ := Aside0.mk (Kd.S_below (sz HO_4) hb); have n1_ := Aside0.mk (Kd.R_below (rz HO_5) hb); have n2_ := Aside0.mk (Kd.R_below (rz HO_475001) hb); have n3_ := Aside0.mk (blk_below (bz BK474) hb); have n4_ := Aside0.mk (below_step bh hb); clear HO_4 HO_5 HO_475001 BK474 HB; have HO_4 := n0_; have HO_5 := n1_; have HO_475001 := n2_; have BK474 := n3_; have HB := n4_; clear n0_ n1_ n2_ n3_ n4_; (try clear hb); (try clear hb2); (try clear hk); (try clear hi)))
             go_roundg k2
             case measure => have := HJ5.out; have := HK2.out; omega
             case rel => exact ⟨(wrap64 (x9_2 + 1)), (by first | rfl | (simp; done) | (simp [*]; done)), H', ⟨by have := HJ5.out; have := HK2.out; omega⟩, ⟨sz HO_4⟩, ⟨rz HO_5⟩, ⟨rz HO_475001⟩, ⟨bz BK474⟩, ⟨by exact bh⟩⟩
         ·rw [if_neg c29] at H
          have c29b0 : decide (x9_2 < (ji28)) = false := decide_eq_false c29
          clear c29
          by_cases c65 : t478 = 0
          ·rw [if_pos c65] at H
           have c65b0 : (t478 == 0) = true := beq_iff_eq.mpr c65
           have c65b1 : (t478 != 0) = false := bne_eq_false_iff_eq.mpr c65
           clear c65
           replace H := Option.bind_eq_some_iff.mp H
           obtain ⟨t485, A660, H⟩ := H
           replace H : (some t485) = some r := H
           have A66 := Aside0.mk A660
           clear A660
           obtain rfl := Option.some.inj H
           have hcz67_0 := cz0 BK474
           have hcz67_1 := cz1 BK474
           have hfz67_0 := blk_frozen BK474.out 0
           have hfz67_1 := blk_frozen BK474.out 1
           obtain ⟨Ao68, co68, eo68⟩ := Kd.R_slice HO_5.out
           subst eo68
           go_wp2_with (first | (go_at_call 45; (with_reducible refine (impl_TermOk.calls k2 t467 _ _ t468 _ _ t475 t485 _ ?side1 ?side2 ?side3 ?side4 A66.out).mono ?_); (case side1 => repeat (first | exact (Kd.R_reads' HO_475001.out).2.2 | (with_reducible refine Kd.C_alloc ?_ _) | (with_reducible refine Kd.C_drewN ?_ _) | (with_reducible refine Kd.C_drew ?_))); (case side2 => exact (Kd.R_reads' HO_475001.out).2.1); (case side3 => repeat (first | exact (Kd.R_reads' HO_5.out).2.2 | (with_reducible refine Kd.C_alloc ?_ _) | (with_reducible refine Kd.C_drewN ?_ _) | (with_reducible refine Kd.C_drew ?_))); (case side4 => exact (Kd.R_reads' HO_5.out).2.1); rintro e w69 ⟨rfl, hb⟩; have n0_ := Aside0.mk (Kd.S_below (sz HO_4) hb); have n1_ := Aside0.mk (Kd.R_below (rz HO_5) hb); have n2_ := Aside0.mk (Kd.R_below (rz HO_475001) hb); have n3_ := Aside0.mk (blk_below (bz BK474) hb); have n4_ := Aside0.mk (below_step bh hb); clear HO_4 HO_5 HO_475001 BK474 HB; have HO_4 := n0_; have HO_5 := n1_; have HO_475001 := n2_; have BK474 := n3_; have HB := n4_; clear n0_ n1_ n2_ n3_ n4_; (try clear hb); (try clear hb2); (try clear hk); (try clear hi)))
           go_ret
           exact ⟨by first | rfl | (simp [errW_none, errW_some] <;> rfl) | (simp only [← hji28]; first | rfl | (simp [errW_none, errW_some] <;> rfl)) | (simp [*, errW_none, errW_some] <;> rfl), by exact bh⟩
          ·rw [if_neg c65] at H
           have c65b0 : (t478 == 0) = false := beq_eq_false_iff_ne.mpr c65
           have c65b1 : (t478 != 0) = true := bne_iff_ne.mpr c65
           obtain rfl := Option.some.inj H
           have hcz70_0 := cz0 BK474
           have hcz70_1 := cz1 BK474
           have hfz70_0 := blk_frozen BK474.out 0
           have hfz70_1 := blk_frozen BK474.out 1
           go_wp2
           go_ret
           exact ⟨by first | rfl | (simp [errW_none, errW_some] <;> rfl) | (simp only [← hji28]; first | rfl | (simp [errW_none, errW_some] <;> rfl)) | (simp [*, errW_none, errW_some] <;> rfl), by exact bh⟩
        ·rw [if_neg c27] at H
         exact absurd H (by simp)

/-- THE ONE PURE STATEMENT of laws_FnBillTerm: yours. -/
def laws_FnBillTerm.Pure : Prop := ∀ (l0 : List Int), l0.length ≤ maxLen → l0.length * 1 ≤ 140737488351232 → (∀ x ∈ l0, (Lit.int .u8 x).wf = true) → ∃ k, laws_FnBillTerm.f k l0 = some true
theorem laws_FnBillTerm.walk (P : laws_FnBillTerm.Pure) (a0 : Option Addr) (len0 cap0 : Nat) (z0 : List Int) (w : World) (w0 : (a0 = none ∧ len0 = 0 ∧ cap0 = 0 ∧ z0 = []) ∨ ∃ x, a0 = some x ∧ len0 ≤ cap0 ∧ cap0 ≤ maxLen ∧ z0.length = cap0 ∧ (∀ i, i < z0.length → w.cell? (x.add i) = some (.int .u8 (z0.getD i 0))) ∧ ∀ n ∈ z0, (Lit.int .u8 n).wf = true) (y0 : len0 * 1 ≤ 140737488351232) :
  Calls Try.prog 12 #[.slice a0 len0 cap0] w fun e w' => e = .returned (.bool true) ∧ Below w.heap.size w w' := by
 obtain ⟨l0, rfl, hr0, hm0, hw0, hc0⟩ := ReadsInt.ofRowC w0
 obtain ⟨k, h⟩ := P l0 hm0 y0 hw0
 refine (laws_FnBillTerm.calls k _ _ l0 true w (Kd.C_of_reads (d := (0 : Int)) (h1 := fun _ => rfl) hr0) hc0 h).mono ?_
 rintro e w' ⟨rfl, hd⟩
 exact ⟨rfl, hd⟩

end Go.Proofs.Ytnpjlpkbefdnlaa.QFnBillTerm
