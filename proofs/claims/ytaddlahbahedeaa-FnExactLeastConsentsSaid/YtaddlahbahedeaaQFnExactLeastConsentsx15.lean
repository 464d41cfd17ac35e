-- Printed for this claim by a turned copy of the print (wip/myprint). Lean checks it. Squeezed. Worded. Tightened.
import Derived.Test.YtaddlahbahedeaaQFnExactLeastConsentsx0
import Derived.Test.YtaddlahbahedeaaQFnExactLeastConsentsx9
import Derived.Test.YtaddlahbahedeaaQFnExactLeastConsentsx13
import Derived.Test.YtaddlahbahedeaaQFnExactLeastConsentsx14
namespace Go.Proofs.Ytaddlahbahedeaa.QFnExactLeastConsents
open Go.RowKit Go.Proofs.YtaddlahbahedeaaW.PrintWords Go.Proofs.YtaddlahbahedeaaW.PrintLast Go.Proofs.YtaddlahbahedeaaW.PrintMore
attribute [local go_sem] max2_int min2_int max_two min_two max_three min_three max_four min_four Opens.cell_twice   -- for this text's walks alone
set_option linter.unusedVariables false
set_option linter.unusedSimpArgs false

/-! ### laws_FnExactLeastConsents: function 4 -/
def laws_FnExactLeastConsents.j0 : Nat → List (S68) → List Int → List Int → Bool → Int → List Int → Option (Bool)
 | 0, _, _, _, _, _, _ => none
 | k + 1, x1, x6, x9, x63, x347000, x347001 => if x63 = true then (none) else ((laws_markIntS.f k x9 1).bind fun bt385 => ((laws_heldIntS.f k bt385.2 1).bind fun t387 => (if t387 < 0 then (none) else (if t387 = bt385.1 then ((laws_toHouse.f k x347000 x347001).bind fun bt388 => ((laws_toMarkS.f k x1).bind fun t392 => ((impl_LeastConsents.f k bt388.1 bt388.2 t392).bind fun t395 => ((laws_eqIntS.f k t395 x6).bind fun t398 => (if t398 = true then ((laws_heldIntS.f k bt385.2 1).bind fun t399 => (if t399 < 0 then (none) else (if t399 = bt385.1 then (some true) else (none)))) else (none)))))) else (none)))))
def laws_FnExactLeastConsents.f (k : Nat) (a0_0 : Int) (l0_1 : List Int) (l1 : List (S68)) : Option (Bool) := (laws_szHouse.f a0_0 l0_1 1048576).bind fun t347 => (if t347 < 0 then (some true) else ((laws_szMarkS.f l1 t347).bind fun t348 => (if t348 < 0 then (some true) else ((laws_toHouse.f k a0_0 l0_1).bind fun bt349 => ((laws_toMarkS.f k l1).bind fun t353 => ((spec_LeastConsents.f k bt349.1 bt349.2 t353).bind fun t356 => ((laws_toHouse.f k a0_0 l0_1).bind fun bt359 => ((laws_toMarkS.f k l1).bind fun t364 => ((impl_LeastConsents.f k bt359.1 bt359.2 t364).bind fun t367 => ((laws_eqIntS.f k t367 t356).bind fun t370 => (if t370 = true then ((laws_toHouse.f k a0_0 l0_1).bind fun bt371 => ((laws_eqHouse.f k bt359.1 bt359.2 bt371.1 bt371.2).bind fun t375 => (if t375 = true then ((laws_toMarkS.f k l1).bind fun t376 => ((laws_eqMarkS.f k t364 t376).bind fun t379 => (if t379 = true then ((laws_markHouse.f k bt359.1 bt359.2 1).bind fun bt380 => ((laws_markMarkS.f k t364 bt380.1).bind fun bt382 => (if bt382.1 < 0 then (laws_FnExactLeastConsents.j0 k l1 t356 t367 true a0_0 l0_1) else ((laws_eqIntS.f k t367 t356).bind fun t384 => (laws_FnExactLeastConsents.j0 k l1 t356 t367 (!t384) a0_0 l0_1))))) else (none)))) else (none)))) else (none))))))))))))
theorem laws_FnExactLeastConsents.mono_l : ∀ k, (∀ y0 y1 y2 y3 y4 y5, LeO (laws_FnExactLeastConsents.j0 k y0 y1 y2 y3 y4 y5) (laws_FnExactLeastConsents.j0 (k + 1) y0 y1 y2 y3 y4 y5))
 | 0 => fun _ _ _ _ _ _ r h => by simp [laws_FnExactLeastConsents.j0] at h
 | k + 1 => by
  have ih0 := laws_FnExactLeastConsents.mono_l k
  ·intro y0 y1 y2 y3 y4 y5
   unfold laws_FnExactLeastConsents.j0
   repeat' first
   | (with_reducible exact ih0 _ _ _ _ _ _)
   | (with_reducible exact impl_LeastConsents.mono _ _ _ _)
   | (with_reducible exact laws_eqHouse.mono _ _ _ _ _)
   | (with_reducible exact laws_eqIntS.mono _ _ _)
   | (with_reducible exact laws_eqMarkS.mono _ _ _)
   | (with_reducible exact laws_heldIntS.mono _ _ _)
   | (with_reducible exact laws_markHouse.mono _ _ _ _)
   | (with_reducible exact laws_markIntS.mono _ _ _)
   | (with_reducible exact laws_markMarkS.mono _ _ _)
   | (with_reducible exact laws_toHouse.mono _ _ _)
   | (with_reducible exact laws_toMarkS.mono _ _)
   | (with_reducible exact spec_LeastConsents.mono _ _ _ _)
   | (with_reducible exact LeO.refl _)
   | (with_reducible exact LeO.none _)
   | (with_reducible refine LeO.ite ?_ ?_)
   | (with_reducible refine LeO.bind ?_ (fun _ => ?_))
   | exact ih0 _ _ _ _ _ _
   | exact impl_LeastConsents.mono _ _ _ _
   | exact laws_eqHouse.mono _ _ _ _ _
   | exact laws_eqIntS.mono _ _ _
   | exact laws_eqMarkS.mono _ _ _
   | exact laws_heldIntS.mono _ _ _
   | exact laws_markHouse.mono _ _ _ _
   | exact laws_markIntS.mono _ _ _
   | exact laws_markMarkS.mono _ _ _
   | exact laws_toHouse.mono _ _ _
   | exact laws_toMarkS.mono _ _
   | exact spec_LeastConsents.mono _ _ _ _
   | exact LeO.none _
   | refine LeO.ite ?_ ?_
   | refine LeO.bind ?_ (fun _ => ?_)
theorem laws_FnExactLeastConsents.mono : ∀ a0 a1 a2 k, LeO (laws_FnExactLeastConsents.f k a0 a1 a2) (laws_FnExactLeastConsents.f (k + 1) a0 a1 a2) := by
 intro a0 a1 a2 k
 have ih0 := laws_FnExactLeastConsents.mono_l k
 unfold laws_FnExactLeastConsents.f
 repeat' first
   | (with_reducible exact ih0 _ _ _ _ _ _)
   | (with_reducible exact impl_LeastConsents.mono _ _ _ _)
   | (with_reducible exact laws_eqHouse.mono _ _ _ _ _)
   | (with_reducible exact laws_eqIntS.mono _ _ _)
   | (with_reducible exact laws_eqMarkS.mono _ _ _)
   | (with_reducible exact laws_heldIntS.mono _ _ _)
   | (with_reducible exact laws_markHouse.mono _ _ _ _)
   | (with_reducible exact laws_markIntS.mono _ _ _)
   | (with_reducible exact laws_markMarkS.mono _ _ _)
   | (with_reducible exact laws_toHouse.mono _ _ _)
   | (with_reducible exact laws_toMarkS.mono _ _)
   | (with_reducible exact spec_LeastConsents.mono _ _ _ _)
   | (with_reducible exact LeO.refl _)
   | (with_reducible exact LeO.none _)
   | (with_reducible refine LeO.ite ?_ ?_)
   | (with_reducible refine LeO.bind ?_ (fun _ => ?_))
   | exact ih0 _ _ _ _ _ _
   | exact impl_LeastConsents.mono _ _ _ _
   | exact laws_eqHouse.mono _ _ _ _ _
   | exact laws_eqIntS.mono _ _ _
   | exact laws_eqMarkS.mono _ _ _
   | exact laws_heldIntS.mono _ _ _
   | exact laws_markHouse.mono _ _ _ _
   | exact laws_markIntS.mono _ _ _
   | exact laws_markMarkS.mono _ _ _
   | exact laws_toHouse.mono _ _ _
   | exact laws_toMarkS.mono _ _
   | exact spec_LeastConsents.mono _ _ _ _
   | exact LeO.none _
   | refine LeO.ite ?_ ?_
   | refine LeO.bind ?_ (fun _ => ?_)
set_option maxHeartbeats 8000000 in
set_option maxRecDepth 100000 in
theorem laws_FnExactLeastConsents.calls (k : Nat) (a0_0 : Int) (A0_1 : Option Addr) (c0_1 : Nat) (l0_1 : List Int) (A1 : Option Addr) (c1 : Nat) (l1 : List (S68)) (r : Bool) (w : World) (hr0_1 : Kd.C (Kd.int .i64) w A0_1 l0_1.length l0_1) (hc0_1 : l0_1.length ≤ c0_1) (hr1 : Kd.C k68 w A1 l1.length l1) (hc1 : l1.length ≤ c1) (h : laws_FnExactLeastConsents.f k a0_0 l0_1 l1 = some r) :
  Calls Try.prog 4 #[.agg #[.int .i64 a0_0, .slice A0_1 l0_1.length c0_1], .slice A1 l1.length c1] w fun e w' => e = .returned (.bool r) ∧ Below w.heap.size w w' := by
 have hu36 := Try.underlying36
 have hu25 := Try.underlying25
 have HR0_1 := Aside0.mk hr0_1
 have HC0_1 := Aside0.mk hc0_1
 clear hr0_1 hc0_1
 have HR1 := Aside0.mk hr1
 have HC1 := Aside0.mk hc1
 clear hr1 hc1
 have HB := Aside0.mk (Below.refl w.heap.size w)
 have H : ((laws_szHouse.f a0_0 l0_1 1048576).bind fun t347 => (if t347 < 0 then (some true) else ((laws_szMarkS.f l1 t347).bind fun t348 => (if t348 < 0 then (some true) else ((laws_toHouse.f k a0_0 l0_1).bind fun bt349 => ((laws_toMarkS.f k l1).bind fun t353 => ((spec_LeastConsents.f k bt349.1 bt349.2 t353).bind fun t356 => ((laws_toHouse.f k a0_0 l0_1).bind fun bt359 => ((laws_toMarkS.f k l1).bind fun t364 => ((impl_LeastConsents.f k bt359.1 bt359.2 t364).bind fun t367 => ((laws_eqIntS.f k t367 t356).bind fun t370 => (if t370 = true then ((laws_toHouse.f k a0_0 l0_1).bind fun bt371 => ((laws_eqHouse.f k bt359.1 bt359.2 bt371.1 bt371.2).bind fun t375 => (if t375 = true then ((laws_toMarkS.f k l1).bind fun t376 => ((laws_eqMarkS.f k t364 t376).bind fun t379 => (if t379 = true then ((laws_markHouse.f k bt359.1 bt359.2 1).bind fun bt380 => ((laws_markMarkS.f k t364 bt380.1).bind fun bt382 => (if bt382.1 < 0 then (laws_FnExactLeastConsents.j0 k l1 t356 t367 true a0_0 l0_1) else ((laws_eqIntS.f k t367 t356).bind fun t384 => (laws_FnExactLeastConsents.j0 k l1 t356 t367 (!t384) a0_0 l0_1))))) else (none)))) else (none)))) else (none))))))))))))) = some r := h
 clear h
 replace H := Option.bind_eq_some_iff.mp H
 obtain ⟨t347, A30, H⟩ := H
 replace H : (if t347 < 0 then (some true) else ((laws_szMarkS.f l1 t347).bind fun t348 => (if t348 < 0 then (some true) else ((laws_toHouse.f k a0_0 l0_1).bind fun bt349 => ((laws_toMarkS.f k l1).bind fun t353 => ((spec_LeastConsents.f k bt349.1 bt349.2 t353).bind fun t356 => ((laws_toHouse.f k a0_0 l0_1).bind fun bt359 => ((laws_toMarkS.f k l1).bind fun t364 => ((impl_LeastConsents.f k bt359.1 bt359.2 t364).bind fun t367 => ((laws_eqIntS.f k t367 t356).bind fun t370 => (if t370 = true then ((laws_toHouse.f k a0_0 l0_1).bind fun bt371 => ((laws_eqHouse.f k bt359.1 bt359.2 bt371.1 bt371.2).bind fun t375 => (if t375 = true then ((laws_toMarkS.f k l1).bind fun t376 => ((laws_eqMarkS.f k t364 t376).bind fun t379 => (if t379 = true then ((laws_markHouse.f k bt359.1 bt359.2 1).bind fun bt380 => ((laws_markMarkS.f k t364 bt380.1).bind fun bt382 => (if bt382.1 < 0 then (laws_FnExactLeastConsents.j0 k l1 t356 t367 true a0_0 l0_1) else ((laws_eqIntS.f k t367 t356).bind fun t384 => (laws_FnExactLeastConsents.j0 k l1 t356 t367 (!t384) a0_0 l0_1))))) else (none)))) else (none)))) else (none)))))))))))) = some r := H
 have A3 := Aside0.mk A30
 clear A30
 by_cases c4 : t347 < 0
 ·rw [if_pos c4] at H
  have c4b0 : decide (t347 < 0) = true := decide_eq_true c4
  clear c4
  obtain rfl := Option.some.inj H
  go_enter Try.func4, Try.ntmps4
  go_wp2_with (first | ((with_reducible refine gate_dst (N := 2) rfl ?_); refine box_event ?hg (N := 2) ?hd (cs := #[.int .i64 a0_0, .slice A0_1 l0_1.length c0_1]) (t := 36) ?hr ?_; (case hd => rfl); (case hg => rfl); (case hr => first | (go_simp; done) | (go_simp; rfl)); intro gb346 hg w5 hbox hb; have n0_ := Aside0.mk (below_step bh hb); have n1_ := Aside0.mk (hbox); have n2_ := Aside0.mk ((gs (W0 := w) hg bh)); have n3_ := Aside0.mk ((gs (W0 := w) hg bh)); clear HB; have HB := n0_; have BK346 := n1_; have GW346 := n2_; have GE346 := n3_; clear n0_ n1_ n2_ n3_ hb hbox hg; have hcz6_0 := cz0 BK346; have hcz6_1 := cz1 BK346; have hfz6_0 := blk_frozen BK346.out 0; have hfz6_1 := blk_frozen BK346.out 1) | ((with_reducible refine gate_callee (f := 17) rfl ?_); refine goesL_ (some 16) rfl rfl Try.func17 kr rfl #[.agg #[.int .i64 a0_0, .slice A0_1 l0_1.length c0_1], .int .i64 1048576] rfl lm ?_; (with_reducible refine (laws_szHouse.calls a0_0 _ _ l0_1 1048576 t347 _ ?side1 ?side2 A3.out).mono ?_); (case side1 => repeat (first | exact (Kd.C_below HR0_1.out HB.out) | (with_reducible refine Kd.C_alloc ?_ _) | (with_reducible refine Kd.C_drewN ?_ _) | (with_reducible refine Kd.C_drew ?_))); (case side2 => exact HC0_1.out); rintro e w7 ⟨rfl, hb⟩; refine ⟨_, rfl, ?_⟩; have n0_ := Aside0.mk (blk_below (bz BK346) hb); have n1_ := Aside0.mk (below_step bh hb); clear BK346 HB; have BK346 := n0_; have HB := n1_; clear n0_ n1_; (try clear hb); (try clear hb2); (try clear hk); (try clear hi)))
  go_ret
  exact ⟨by first | rfl | (simp [errW_none, errW_some] <;> rfl) | (simp [*, errW_none, errW_some] <;> rfl), by exact bh⟩
 ·rw [if_neg c4] at H
  have c4b0 : decide (t347 < 0) = false := decide_eq_false c4
  clear c4
  replace H := Option.bind_eq_some_iff.mp H
  obtain ⟨t348, A80, H⟩ := H
  replace H : (if t348 < 0 then (some true) else ((laws_toHouse.f k a0_0 l0_1).bind fun bt349 => ((laws_toMarkS.f k l1).bind fun t353 => ((spec_LeastConsents.f k bt349.1 bt349.2 t353).bind fun t356 => ((laws_toHouse.f k a0_0 l0_1).bind fun bt359 => ((laws_toMarkS.f k l1).bind fun t364 => ((impl_LeastConsents.f k bt359.1 bt359.2 t364).bind fun t367 => ((laws_eqIntS.f k t367 t356).bind fun t370 => (if t370 = true then ((laws_toHouse.f k a0_0 l0_1).bind fun bt371 => ((laws_eqHouse.f k bt359.1 bt359.2 bt371.1 bt371.2).bind fun t375 => (if t375 = true then ((laws_toMarkS.f k l1).bind fun t376 => ((laws_eqMarkS.f k t364 t376).bind fun t379 => (if t379 = true then ((laws_markHouse.f k bt359.1 bt359.2 1).bind fun bt380 => ((laws_markMarkS.f k t364 bt380.1).bind fun bt382 => (if bt382.1 < 0 then (laws_FnExactLeastConsents.j0 k l1 t356 t367 true a0_0 l0_1) else ((laws_eqIntS.f k t367 t356).bind fun t384 => (laws_FnExactLeastConsents.j0 k l1 t356 t367 (!t384) a0_0 l0_1))))) else (none)))) else (none)))) else (none)))))))))) = some r := H
  have A8 := Aside0.mk A80
  clear A80
  by_cases c9 : t348 < 0
  ·rw [if_pos c9] at H
   have c9b0 : decide (t348 < 0) = true := decide_eq_true c9
   clear c9
   obtain rfl := Option.some.inj H
   go_enter Try.func4, Try.ntmps4
   go_wp2_with (first | ((with_reducible refine gate_dst (N := 2) rfl ?_); refine box_event ?hg (N := 2) ?hd (cs := #[.int .i64 a0_0, .slice A0_1 l0_1.length c0_1]) (t := 36) ?hr ?_; (case hd => rfl); (case hg => rfl); (case hr => first | (go_simp; done) | (go_simp; rfl)); intro gb346 hg w10 hbox hb; have n0_ := Aside0.mk (below_step bh hb); have n1_ := Aside0.mk (hbox); have n2_ := Aside0.mk ((gs (W0 := w) hg bh)); have n3_ := Aside0.mk ((gs (W0 := w) hg bh)); clear HB; have HB := n0_; have BK346 := n1_; have GW346 := n2_; have GE346 := n3_; clear n0_ n1_ n2_ n3_ hb hbox hg; have hcz11_0 := cz0 BK346; have hcz11_1 := cz1 BK346; have hfz11_0 := blk_frozen BK346.out 0; have hfz11_1 := blk_frozen BK346.out 1) | ((with_reducible refine gate_callee (f := 17) rfl ?_); refine goesL_ (some 16) rfl rfl Try.func17 kr rfl #[.agg #[.int .i64 a0_0, .slice A0_1 l0_1.length c0_1], .int .i64 1048576] rfl lm ?_; (with_reducible refine (laws_szHouse.calls a0_0 _ _ l0_1 1048576 t347 _ ?side1 ?side2 A3.out).mono ?_); (case side1 => repeat (first | exact (Kd.C_below HR0_1.out HB.out) | (with_reducible refine Kd.C_alloc ?_ _) | (with_reducible refine Kd.C_drewN ?_ _) | (with_reducible refine Kd.C_drew ?_))); (case side2 => exact HC0_1.out); rintro e w12 ⟨rfl, hb⟩; refine ⟨_, rfl, ?_⟩; have n0_ := Aside0.mk (blk_below (bz BK346) hb); have n1_ := Aside0.mk (below_step bh hb); clear BK346 HB; have BK346 := n0_; have HB := n1_; clear n0_ n1_; (try clear hb); (try clear hb2); (try clear hk); (try clear hi)) | ((with_reducible refine gate_callee (f := 18) rfl ?_); refine goesL_ (some 21) rfl rfl Try.func18 kr rfl #[.slice A1 l1.length c1, .int .i64 t347] rfl lm ?_; (with_reducible refine (laws_szMarkS.calls _ _ l1 t347 t348 _ ?side1 ?side2 A8.out).mono ?_); (case side1 => repeat (first | exact (Kd.C_below HR1.out HB.out) | (with_reducible refine Kd.C_alloc ?_ _) | (with_reducible refine Kd.C_drewN ?_ _) | (with_reducible refine Kd.C_drew ?_))); (case side2 => exact HC1.out); rintro e w' ⟨rfl, ⟨nd, rfl⟩⟩; refine ⟨_, rfl, ?_⟩))
   go_ret
   exact ⟨by first | rfl | (simp [errW_none, errW_some] <;> rfl) | (simp [*, errW_none, errW_some] <;> rfl), by exact bh⟩
  ·rw [if_neg c9] at H
   have c9b0 : decide (t348 < 0) = false := decide_eq_false c9
   clear c9
   replace H := Option.bind_eq_some_iff.mp H
   obtain ⟨⟨t349, t350⟩, A130, H⟩ := H
   replace H : ((laws_toMarkS.f k l1).bind fun t353 => ((spec_LeastConsents.f k t349 t350 t353).bind fun t356 => ((laws_toHouse.f k a0_0 l0_1).bind fun bt359 => ((laws_toMarkS.f k l1).bind fun t364 => ((impl_LeastConsents.f k bt359.1 bt359.2 t364).bind fun t367 => ((laws_eqIntS.f k t367 t356).bind fun t370 => (if t370 = true then ((laws_toHouse.f k a0_0 l0_1).bind fun bt371 => ((laws_eqHouse.f k bt359.1 bt359.2 bt371.1 bt371.2).bind fun t375 => (if t375 = true then ((laws_toMarkS.f k l1).bind fun t376 => ((laws_eqMarkS.f k t364 t376).bind fun t379 => (if t379 = true then ((laws_markHouse.f k bt359.1 bt359.2 1).bind fun bt380 => ((laws_markMarkS.f k t364 bt380.1).bind fun bt382 => (if bt382.1 < 0 then (laws_FnExactLeastConsents.j0 k l1 t356 t367 true a0_0 l0_1) else ((laws_eqIntS.f k t367 t356).bind fun t384 => (laws_FnExactLeastConsents.j0 k l1 t356 t367 (!t384) a0_0 l0_1))))) else (none)))) else (none)))) else (none)))))))) = some r := H
   have A13 := Aside0.mk A130
   clear A130
   replace H := Option.bind_eq_some_iff.mp H
   obtain ⟨t353, A140, H⟩ := H
   replace H : ((spec_LeastConsents.f k t349 t350 t353).bind fun t356 => ((laws_toHouse.f k a0_0 l0_1).bind fun bt359 => ((laws_toMarkS.f k l1).bind fun t364 => ((impl_LeastConsents.f k bt359.1 bt359.2 t364).bind fun t367 => ((laws_eqIntS.f k t367 t356).bind fun t370 => (if t370 = true then ((laws_toHouse.f k a0_0 l0_1).bind fun bt371 => ((laws_eqHouse.f k bt359.1 bt359.2 bt371.1 bt371.2).bind fun t375 => (if t375 = true then ((laws_toMarkS.f k l1).bind fun t376 => ((laws_eqMarkS.f k t364 t376).bind fun t379 => (if t379 = true then ((laws_markHouse.f k bt359.1 bt359.2 1).bind fun bt380 => ((laws_markMarkS.f k t364 bt380.1).bind fun bt382 => (if bt382.1 < 0 then (laws_FnExactLeastConsents.j0 k l1 t356 t367 true a0_0 l0_1) else ((laws_eqIntS.f k t367 t356).bind fun t384 => (laws_FnExactLeastConsents.j0 k l1 t356 t367 (!t384) a0_0 l0_1))))) else (none)))) else (none)))) else (none))))))) = some r := H
   have A14 := Aside0.mk A140
   clear A140
   replace H := Option.bind_eq_some_iff.mp H
   obtain ⟨t356, A150, H⟩ := H
   replace H : ((laws_toHouse.f k a0_0 l0_1).bind fun bt359 => ((laws_toMarkS.f k l1).bind fun t364 => ((impl_LeastConsents.f k bt359.1 bt359.2 t364).bind fun t367 => ((laws_eqIntS.f k t367 t356).bind fun t370 => (if t370 = true then ((laws_toHouse.f k a0_0 l0_1).bind fun bt371 => ((laws_eqHouse.f k bt359.1 bt359.2 bt371.1 bt371.2).bind fun t375 => (if t375 = true then ((laws_toMarkS.f k l1).bind fun t376 => ((laws_eqMarkS.f k t364 t376).bind fun t379 => (if t379 = true then ((laws_markHouse.f k bt359.1 bt359.2 1).bind fun bt380 => ((laws_markMarkS.f k t364 bt380.1).bind fun bt382 => (if bt382.1 < 0 then (laws_FnExactLeastConsents.j0 k l1 t356 t367 true a0_0 l0_1) else ((laws_eqIntS.f k t367 t356).bind fun t384 => (laws_FnExactLeastConsents.j0 k l1 t356 t367 (!t384) a0_0 l0_1))))) else (none)))) else (none)))) else (none)))))) = some r := H
   have A15 := Aside0.mk A150
   clear A150
   replace H := Option.bind_eq_some_iff.mp H
   obtain ⟨⟨t359, t360⟩, A160, H⟩ := H
   replace H : ((laws_toMarkS.f k l1).bind fun t364 => ((impl_LeastConsents.f k t359 t360 t364).bind fun t367 => ((laws_eqIntS.f k t367 t356).bind fun t370 => (if t370 = true then ((laws_toHouse.f k a0_0 l0_1).bind fun bt371 => ((laws_eqHouse.f k t359 t360 bt371.1 bt371.2).bind fun t375 => (if t375 = true then ((laws_toMarkS.f k l1).bind fun t376 => ((laws_eqMarkS.f k t364 t376).bind fun t379 => (if t379 = true then ((laws_markHouse.f k t359 t360 1).bind fun bt380 => ((laws_markMarkS.f k t364 bt380.1).bind fun bt382 => (if bt382.1 < 0 then (laws_FnExactLeastConsents.j0 k l1 t356 t367 true a0_0 l0_1) else ((laws_eqIntS.f k t367 t356).bind fun t384 => (laws_FnExactLeastConsents.j0 k l1 t356 t367 (!t384) a0_0 l0_1))))) else (none)))) else (none)))) else (none))))) = some r := H
   have A16 := Aside0.mk A160
   clear A160
   replace H := Option.bind_eq_some_iff.mp H
   obtain ⟨t364, A170, H⟩ := H
   replace H : ((impl_LeastConsents.f k t359 t360 t364).bind fun t367 => ((laws_eqIntS.f k t367 t356).bind fun t370 => (if t370 = true then ((laws_toHouse.f k a0_0 l0_1).bind fun bt371 => ((laws_eqHouse.f k t359 t360 bt371.1 bt371.2).bind fun t375 => (if t375 = true then ((laws_toMarkS.f k l1).bind fun t376 => ((laws_eqMarkS.f k t364 t376).bind fun t379 => (if t379 = true then ((laws_markHouse.f k t359 t360 1).bind fun bt380 => ((laws_markMarkS.f k t364 bt380.1).bind fun bt382 => (if bt382.1 < 0 then (laws_FnExactLeastConsents.j0 k l1 t356 t367 true a0_0 l0_1) else ((laws_eqIntS.f k t367 t356).bind fun t384 => (laws_FnExactLeastConsents.j0 k l1 t356 t367 (!t384) a0_0 l0_1))))) else (none)))) else (none)))) else (none)))) = some r := H
   have A17 := Aside0.mk A170
   clear A170
   replace H := Option.bind_eq_some_iff.mp H
   obtain ⟨t367, A180, H⟩ := H
   replace H : ((laws_eqIntS.f k t367 t356).bind fun t370 => (if t370 = true then ((laws_toHouse.f k a0_0 l0_1).bind fun bt371 => ((laws_eqHouse.f k t359 t360 bt371.1 bt371.2).bind fun t375 => (if t375 = true then ((laws_toMarkS.f k l1).bind fun t376 => ((laws_eqMarkS.f k t364 t376).bind fun t379 => (if t379 = true then ((laws_markHouse.f k t359 t360 1).bind fun bt380 => ((laws_markMarkS.f k t364 bt380.1).bind fun bt382 => (if bt382.1 < 0 then (laws_FnExactLeastConsents.j0 k l1 t356 t367 true a0_0 l0_1) else ((laws_eqIntS.f k t367 t356).bind fun t384 => (laws_FnExactLeastConsents.j0 k l1 t356 t367 (!t384) a0_0 l0_1))))) else (none)))) else (none)))) else (none))) = some r := H
   have A18 := Aside0.mk A180
   clear A180
   replace H := Option.bind_eq_some_iff.mp H
   obtain ⟨t370, A190, H⟩ := H
   replace H : (if t370 = true then ((laws_toHouse.f k a0_0 l0_1).bind fun bt371 => ((laws_eqHouse.f k t359 t360 bt371.1 bt371.2).bind fun t375 => (if t375 = true then ((laws_toMarkS.f k l1).bind fun t376 => ((laws_eqMarkS.f k t364 t376).bind fun t379 => (if t379 = true then ((laws_markHouse.f k t359 t360 1).bind fun bt380 => ((laws_markMarkS.f k t364 bt380.1).bind fun bt382 => (if bt382.1 < 0 then (laws_FnExactLeastConsents.j0 k l1 t356 t367 true a0_0 l0_1) else ((laws_eqIntS.f k t367 t356).bind fun t384 => (laws_FnExactLeastConsents.j0 k l1 t356 t367 (!t384) a0_0 l0_1))))) else (none)))) else (none)))) else (none)) = some r := H
   have A19 := Aside0.mk A190
   clear A190
   by_cases c20 : t370 = true
   ·subst c20
    have H1 : ((laws_toHouse.f k a0_0 l0_1).bind fun bt371 => ((laws_eqHouse.f k t359 t360 bt371.1 bt371.2).bind fun t375 => (if t375 = true then ((laws_toMarkS.f k l1).bind fun t376 => ((laws_eqMarkS.f k t364 t376).bind fun t379 => (if t379 = true then ((laws_markHouse.f k t359 t360 1).bind fun bt380 => ((laws_markMarkS.f k t364 bt380.1).bind fun bt382 => (if bt382.1 < 0 then (laws_FnExactLeastConsents.j0 k l1 t356 t367 true a0_0 l0_1) else ((laws_eqIntS.f k t367 t356).bind fun t384 => (laws_FnExactLeastConsents.j0 k l1 t356 t367 (!t384) a0_0 l0_1))))) else (none)))) else (none)))) = some r := by rw [if_pos rfl] at H; exact H
    clear H
    have H := H1
    clear H1
    replace H := Option.bind_eq_some_iff.mp H
    obtain ⟨⟨t371, t372⟩, A210, H⟩ := H
    replace H : ((laws_eqHouse.f k t359 t360 t371 t372).bind fun t375 => (if t375 = true then ((laws_toMarkS.f k l1).bind fun t376 => ((laws_eqMarkS.f k t364 t376).bind fun t379 => (if t379 = true then ((laws_markHouse.f k t359 t360 1).bind fun bt380 => ((laws_markMarkS.f k t364 bt380.1).bind fun bt382 => (if bt382.1 < 0 then (laws_FnExactLeastConsents.j0 k l1 t356 t367 true a0_0 l0_1) else ((laws_eqIntS.f k t367 t356).bind fun t384 => (laws_FnExactLeastConsents.j0 k l1 t356 t367 (!t384) a0_0 l0_1))))) else (none)))) else (none))) = some r := H
    have A21 := Aside0.mk A210
    clear A210
    replace H := Option.bind_eq_some_iff.mp H
    obtain ⟨t375, A220, H⟩ := H
    replace H : (if t375 = true then ((laws_toMarkS.f k l1).bind fun t376 => ((laws_eqMarkS.f k t364 t376).bind fun t379 => (if t379 = true then ((laws_markHouse.f k t359 t360 1).bind fun bt380 => ((laws_markMarkS.f k t364 bt380.1).bind fun bt382 => (if bt382.1 < 0 then (laws_FnExactLeastConsents.j0 k l1 t356 t367 true a0_0 l0_1) else ((laws_eqIntS.f k t367 t356).bind fun t384 => (laws_FnExactLeastConsents.j0 k l1 t356 t367 (!t384) a0_0 l0_1))))) else (none)))) else (none)) = some r := H
    have A22 := Aside0.mk A220
    clear A220
    by_cases c23 : t375 = true
    ·subst c23
     have H1 : ((laws_toMarkS.f k l1).bind fun t376 => ((laws_eqMarkS.f k t364 t376).bind fun t379 => (if t379 = true then ((laws_markHouse.f k t359 t360 1).bind fun bt380 => ((laws_markMarkS.f k t364 bt380.1).bind fun bt382 => (if bt382.1 < 0 then (laws_FnExactLeastConsents.j0 k l1 t356 t367 true a0_0 l0_1) else ((laws_eqIntS.f k t367 t356).bind fun t384 => (laws_FnExactLeastConsents.j0 k l1 t356 t367 (!t384) a0_0 l0_1))))) else (none)))) = some r := by rw [if_pos rfl] at H; exact H
     clear H
     have H := H1
     clear H1
     replace H := Option.bind_eq_some_iff.mp H
     obtain ⟨t376, A240, H⟩ := H
     replace H : ((laws_eqMarkS.f k t364 t376).bind fun t379 => (if t379 = true then ((laws_markHouse.f k t359 t360 1).bind fun bt380 => ((laws_markMarkS.f k t364 bt380.1).bind fun bt382 => (if bt382.1 < 0 then (laws_FnExactLeastConsents.j0 k l1 t356 t367 true a0_0 l0_1) else ((laws_eqIntS.f k t367 t356).bind fun t384 => (laws_FnExactLeastConsents.j0 k l1 t356 t367 (!t384) a0_0 l0_1))))) else (none))) = some r := H
     have A24 := Aside0.mk A240
     clear A240
     replace H := Option.bind_eq_some_iff.mp H
     obtain ⟨t379, A250, H⟩ := H
     replace H : (if t379 = true then ((laws_markHouse.f k t359 t360 1).bind fun bt380 => ((laws_markMarkS.f k t364 bt380.1).bind fun bt382 => (if bt382.1 < 0 then (laws_FnExactLeastConsents.j0 k l1 t356 t367 true a0_0 l0_1) else ((laws_eqIntS.f k t367 t356).bind fun t384 => (laws_FnExactLeastConsents.j0 k l1 t356 t367 (!t384) a0_0 l0_1))))) else (none)) = some r := H
     have A25 := Aside0.mk A250
     clear A250
     by_cases c26 : t379 = true
     ·subst c26
      have H1 : ((laws_markHouse.f k t359 t360 1).bind fun bt380 => ((laws_markMarkS.f k t364 bt380.1).bind fun bt382 => (if bt382.1 < 0 then (laws_FnExactLeastConsents.j0 k l1 t356 t367 true a0_0 l0_1) else ((laws_eqIntS.f k t367 t356).bind fun t384 => (laws_FnExactLeastConsents.j0 k l1 t356 t367 (!t384) a0_0 l0_1))))) = some r := by rw [if_pos rfl] at H; exact H
      clear H
      have H := H1
      clear H1
      replace H := Option.bind_eq_some_iff.mp H
      obtain ⟨⟨t380, t381⟩, A270, H⟩ := H
      replace H : ((laws_markMarkS.f k t364 t380).bind fun bt382 => (if bt382.1 < 0 then (laws_FnExactLeastConsents.j0 k l1 t356 t367 true a0_0 l0_1) else ((laws_eqIntS.f k t367 t356).bind fun t384 => (laws_FnExactLeastConsents.j0 k l1 t356 t367 (!t384) a0_0 l0_1)))) = some r := H
      have A27 := Aside0.mk A270
      clear A270
      replace H := Option.bind_eq_some_iff.mp H
      obtain ⟨⟨t382, t383⟩, A280, H⟩ := H
      replace H : (if t382 < 0 then (laws_FnExactLeastConsents.j0 k l1 t356 t367 true a0_0 l0_1) else ((laws_eqIntS.f k t367 t356).bind fun t384 => (laws_FnExactLeastConsents.j0 k l1 t356 t367 (!t384) a0_0 l0_1))) = some r := H
      have A28 := Aside0.mk A280
      clear A280
      have HC29 := Aside0.mk H
      clear H
      go_enter Try.func4, Try.ntmps4
      try go_wp2_with (first | ((with_reducible refine gate_dst (N := 2) rfl ?_); refine box_event ?hg (N := 2) ?hd (cs := #[.int .i64 a0_0, .slice A0_1 l0_1.length c0_1]) (t := 36) ?hr ?_; (case hd => rfl); (case hg => rfl); (case hr => first | (go_simp; done) | (go_simp; rfl)); intro gb346 hg w30 hbox hb; have n0_ := Aside0.mk (below_step bh hb); have n1_ := Aside0.mk (hbox); have n2_ := Aside0.mk ((gs (W0 := w) hg bh)); have n3_ := Aside0.mk ((gs (W0 := w) hg bh)); clear HB; have HB := n0_; have BK346 := n1_; have GW346 := n2_; have GE346 := n3_; clear n0_ n1_ n2_ n3_ hb hbox hg; have hcz31_0 := cz0 BK346; have hcz31_1 := cz1 BK346; have hfz31_0 := blk_frozen BK346.out 0; have hfz31_1 := blk_frozen BK346.out 1) | ((with_reducible refine gate_callee (f := 17) rfl ?_); refine goesL_ (some 16) rfl rfl Try.func17 kr rfl #[.agg #[.int .i64 a0_0, .slice A0_1 l0_1.length c0_1], .int .i64 1048576] rfl lm ?_; (with_reducible refine (laws_szHouse.calls a0_0 _ _ l0_1 1048576 t347 _ ?side1 ?side2 A3.out).mono ?_); (case side1 => repeat (first | exact (Kd.C_below HR0_1.out HB.out) | (with_reducible refine Kd.C_alloc ?_ _) | (with_reducible refine Kd.C_drewN ?_ _) | (with_reducible refine Kd.C_drew ?_))); (case side2 => exact HC0_1.out); rintro e w32 ⟨rfl, hb⟩; refine ⟨_, rfl, ?_⟩; have n0_ := Aside0.mk (blk_below (bz BK346) hb); have n1_ := Aside0.mk (below_step bh hb); clear BK346 HB; have BK346 := n0_; have HB := n1_; clear n0_ n1_; (try clear hb); (try clear hb2); (try clear hk); (try clear hi)) | ((with_reducible refine gate_callee (f := 18) rfl ?_); refine goesL_ (some 21) rfl rfl Try.func18 kr rfl #[.slice A1 l1.length c1, .int .i64 t347] rfl lm ?_; (with_reducible refine (laws_szMarkS.calls _ _ l1 t347 t348 _ ?side1 ?side2 A8.out).mono ?_); (case side1 => repeat (first | exact (Kd.C_below HR1.out HB.out) | (with_reducible refine Kd.C_alloc ?_ _) | (with_reducible refine Kd.C_drewN ?_ _) | (with_reducible refine Kd.C_drew ?_))); (case side2 => exact HC1.out); rintro e w' ⟨rfl, ⟨nd, rfl⟩⟩; refine ⟨_, rfl, ?_⟩; (try (rw [drewN_self w32]; generalize hq_ : World.drewN w32 _ = w32; have n0_ : Aside0 (w32.heap[gb346]? = some (.cells #[.int .i64 a0_0, .slice A0_1 l0_1.length c0_1] 36 (0, 0))) := ⟨by rw [← hq_]; exact (bz BK346)⟩; have n1_ : Aside0 (Below w.heap.size w w32) := ⟨by rw [← hq_]; exact bh⟩; clear BK346 HB hq_; have BK346 := n0_; have HB := n1_; clear n0_ n1_)); have hcz33_0 := cz0 BK346; have hcz33_1 := cz1 BK346; have hfz33_0 := blk_frozen BK346.out 0; have hfz33_1 := blk_frozen BK346.out 1) | ((with_reducible refine gate_callee (f := 20) rfl ?_); refine goesL_ (some 25) rfl rfl Try.func20 kr rfl #[.agg #[.int .i64 a0_0, .slice A0_1 l0_1.length c0_1]] rfl lm ?_; (with_reducible refine (laws_toHouse.calls k a0_0 _ _ l0_1 t349 t350 _ ?side1 ?side2 A13.out).mono ?_); (case side1 => repeat (first | exact (Kd.C_below HR0_1.out HB.out) | (with_reducible refine Kd.C_alloc ?_ _) | (with_reducible refine Kd.C_drewN ?_ _) | (with_reducible refine Kd.C_drew ?_))); (case side2 => exact HC0_1.out); rintro e w34 ⟨v351, rfl, ho0, hb⟩; refine ⟨_, rfl, ?_⟩; have n0_ := Aside0.mk (Kd.R_lower ho0 (below_size bh)); have n1_ := Aside0.mk (blk_below (bz BK346) hb); have n2_ := Aside0.mk (below_step bh hb); clear BK346 HB; have HO352 := n0_; have BK346 := n1_; have HB := n2_; clear n0_ n1_ n2_; (try clear hb); (try clear hb2); (try clear hk); (try clear hi); (try clear ho0)) | ((with_reducible refine gate_callee (f := 21) rfl ?_); refine goesL_ (some 27) rfl rfl Try.func21 kr rfl #[.slice A1 l1.length c1] rfl lm ?_; (with_reducible refine (laws_toMarkS.calls k _ _ l1 t353 _ ?side1 ?side2 A14.out).mono ?_); (case side1 => repeat (first | exact (Kd.C_below HR1.out HB.out) | (with_reducible refine Kd.C_alloc ?_ _) | (with_reducible refine Kd.C_drewN ?_ _) | (with_reducible refine Kd.C_drew ?_))); (case side2 => exact HC1.out); rintro e w35 ⟨v354, rfl, ho0, hb⟩; refine ⟨_, rfl, ?_⟩; have n0_ := Aside0.mk (Kd.R_below (rz HO352) hb); have n1_ := Aside0.mk (Kd.R_lower ho0 (below_size bh)); have n2_ := Aside0.mk (blk_below (bz BK346) hb); have n3_ := Aside0.mk (below_step bh hb); clear HO352 BK346 HB; have HO352 := n0_; have HO355 := n1_; have BK346 := n2_; have HB := n3_; clear n0_ n1_ n2_ n3_; (try clear hb); (try clear hb2); (try clear hk); (try clear hi); (try clear ho0); obtain ⟨Ao36, co36, eo36⟩ := Kd.R_slice HO352.out; subst eo36; obtain ⟨Ao37, co37, eo37⟩ := Kd.R_slice HO355.out; subst eo37) | ((with_reducible refine gate_callee (f := 19) rfl ?_); refine goesL_ (some 28) rfl rfl Try.func19 kr rfl #[.agg #[.int .i64 t349, .slice Ao36 t350.length co36], .slice Ao37 t353.length co37] rfl lm ?_; (with_reducible refine (spec_LeastConsents.calls k t349 _ _ t350 _ _ t353 t356 _ ?side1 ?side2 ?side3 ?side4 A15.out).mono ?_); (case side1 => repeat (first | exact (Kd.R_reads' HO352.out).2.2 | (with_reducible refine Kd.C_alloc ?_ _) | (with_reducible refine Kd.C_drewN ?_ _) | (with_reducible refine Kd.C_drew ?_))); (case side2 => exact (Kd.R_reads' HO352.out).2.1); (case side3 => repeat (first | exact (Kd.R_reads' HO355.out).2.2 | (with_reducible refine Kd.C_alloc ?_ _) | (with_reducible refine Kd.C_drewN ?_ _) | (with_reducible refine Kd.C_drew ?_))); (case side4 => exact (Kd.R_reads' HO355.out).2.1); rintro e w38 ⟨v357, rfl, ho0, hb⟩; refine ⟨_, rfl, ?_⟩; have n0_ := Aside0.mk (Kd.R_elder' (rz HO352) (Kd.R_base ho0) hb); have n1_ := Aside0.mk (Kd.R_below (rz HO355) hb); have n2_ := Aside0.mk (Kd.R_lower (Kd.R_new' ho0 (Kd.R_lt (rz HO352))) (below_size bh)); have n3_ := Aside0.mk (blk_below (bz BK346) hb); have n4_ := Aside0.mk (below_step bh hb); clear HO352 HO355 BK346 HB; have HO352 := n0_; have HO355 := n1_; have HO358 := n2_; have BK346 := n3_; have HB := n4_; clear n0_ n1_ n2_ n3_ n4_; (try clear hb); (try clear hb2); (try clear hk); (try clear hi); (try clear ho0); have hcz39_0 := cz0 BK346; have hcz39_1 := cz1 BK346; have hfz39_0 := blk_frozen BK346.out 0; have hfz39_1 := blk_frozen BK346.out 1) | ((with_reducible refine gate_callee (f := 20) rfl ?_); refine goesL_ (some 30) rfl rfl Try.func20 kr rfl #[.agg #[.int .i64 a0_0, .slice A0_1 l0_1.length c0_1]] rfl lm ?_; (with_reducible refine (laws_toHouse.calls k a0_0 _ _ l0_1 t359 t360 _ ?side1 ?side2 A16.out).mono ?_); (case side1 => repeat (first | exact (Kd.C_below HR0_1.out HB.out) | (with_reducible refine Kd.C_alloc ?_ _) | (with_reducible refine Kd.C_drewN ?_ _) | (with_reducible refine Kd.C_drew ?_))); (case side2 => exact HC0_1.out); rintro e w40 ⟨v361, rfl, ho0, hb⟩; refine ⟨_, rfl, ?_⟩; have n0_ := Aside0.mk (Kd.R_elder' (rz HO352) (Kd.R_base ho0) hb); have n1_ := Aside0.mk (Kd.R_below (rz HO355) hb); have n2_ := Aside0.mk (Kd.R_elder' (rz HO358) (Kd.R_base ho0) hb); have n3_ := Aside0.mk (Kd.R_lower (Kd.R_new' (Kd.R_new' ho0 (Kd.R_lt (rz HO352))) (Kd.R_lt (rz HO358))) (below_size bh)); have n4_ := Aside0.mk (blk_below (bz BK346) hb); have n5_ := Aside0.mk (below_step bh hb); clear HO352 HO355 HO358 BK346 HB; have HO352 := n0_; have HO355 := n1_; have HO358 := n2_; have HO362 := n3_; have BK346 := n4_; have HB := n5_; clear n0_ n1_ n2_ n3_ n4_ n5_; (try clear hb); (try clear hb2); (try clear hk); (try clear hi); (try clear ho0)) | ((with_reducible refine gate_dst (N := 7) rfl ?_); refine box_event ?hg (N := 7) ?hd (cs := #[.int .i64 0, .slice none 0 0]) (t := 25) ?hr ?_; (case hd => rfl); (case hg => rfl); (case hr => first | (go_simp; done) | (go_simp; rfl)); intro gb363 hg w41 hbox hb; have n0_ := Aside0.mk (Kd.R_below (rz HO352) hb); have n1_ := Aside0.mk (Kd.R_below (rz HO355) hb); have n2_ := Aside0.mk (Kd.R_below (rz HO358) hb); have n3_ := Aside0.mk (Kd.R_below (rz HO362) hb); have n4_ := Aside0.mk (blk_below (bz BK346) hb); have n5_ := Aside0.mk (below_step bh hb); have n6_ := Aside0.mk (hbox); have n7_ := Aside0.mk ((gs (W0 := w) hg bh)); have n8_ := Aside0.mk ((gs (W0 := w) hg bh)); have n9_ := Aside0.mk ((gn hg (bz BK346))); have n10_ := Aside0.mk ((gm hg (bz BK346))); clear HO352 HO355 HO358 HO362 BK346 HB; have HO352 := n0_; have HO355 := n1_; have HO358 := n2_; have HO362 := n3_; have BK346 := n4_; have HB := n5_; have BK363 := n6_; have GW363 := n7_; have GE363 := n8_; have NB346_363 := n9_; have NB363_346 := n10_; clear n0_ n1_ n2_ n3_ n4_ n5_ n6_ n7_ n8_ n9_ n10_ hb hbox hg; have hnb42 := NB363_346.out; have hnc42 := NB346_363.out; have hcz43_0 := cz0 BK363; have hcz43_1 := cz1 BK363; have hfz43_0 := blk_frozen BK363.out 0; have hfz43_1 := blk_frozen BK363.out 1; obtain ⟨Ao44, co44, eo44⟩ := Kd.R_slice HO362.out; subst eo44) | ((with_reducible refine gate_callee (f := 21) rfl ?_); refine goesL_ (some 32) rfl rfl Try.func21 kr rfl #[.slice A1 l1.length c1] rfl lm ?_; (with_reducible refine (laws_toMarkS.calls k _ _ l1 t364 _ ?side1 ?side2 A17.out).mono ?_); (case side1 => exact Kd.C_below HR1.out bh); (case side2 => exact HC1.out); rintro e w45 ⟨v365, rfl, ho0, hb⟩; refine ⟨_, rfl, ?_⟩; have n0_ := Aside0.mk (Kd.R_below (fR HO352 BK363) hb); have n1_ := Aside0.mk (Kd.R_elder' (fR HO355 BK363) (Kd.R_base ho0) hb); have n2_ := Aside0.mk (Kd.R_below (fR HO358 BK363) hb); have n3_ := Aside0.mk (Kd.R_below (fR HO362 BK363) hb); have n4_ := Aside0.mk (Kd.R_lower (Kd.R_new' ho0 (Kd.R_lt (fR HO355 BK363))) (below_size bh)); have n5_ := Aside0.mk (blk_below (g := gb346) (o := .cells #[.int .i64 a0_0, .slice A0_1 l0_1.length c0_1] 36 (0, 0)) (bf NB346_363 BK346) hb); have n6_ := Aside0.mk (blk_below (g := gb363) (o := .cells #[.int .i64 t359, .slice Ao44 t360.length co44] 25 (0, 0)) (bp BK363) hb); have n7_ := Aside0.mk (below_step bh hb); clear HO352 HO355 HO358 HO362 BK346 BK363 HB; have HO352 := n0_; have HO355 := n1_; have HO358 := n2_; have HO362 := n3_; have HO366 := n4_; have BK346 := n5_; have BK363 := n6_; have HB := n7_; clear n0_ n1_ n2_ n3_ n4_ n5_ n6_ n7_; (try clear hb); (try clear hb2); (try clear hk); (try clear hi); (try clear ho0); have hcz46_0 := cz0 BK363; have hcz46_1 := cz1 BK363; have hfz46_0 := blk_frozen BK363.out 0; have hfz46_1 := blk_frozen BK363.out 1; obtain ⟨Ao47, co47, eo47⟩ := Kd.R_slice HO366.out; subst eo47) | ((with_reducible refine gate_callee (f := 15) rfl ?_); refine goesL_ (some 35) rfl rfl Try.func15 kr rfl #[.agg #[.int .i64 t359, .slice Ao44 t360.length co44], .slice Ao47 t364.length co47] rfl lm ?_; (with_reducible refine (impl_LeastConsents.calls k t359 _ _ t360 _ _ t364 t367 _ ?side1 ?side2 ?side3 ?side4 A18.out).mono ?_); (case side1 => repeat (first | exact (Kd.R_reads' HO362.out).2.2 | (with_reducible refine Kd.C_alloc ?_ _) | (with_reducible refine Kd.C_drewN ?_ _) | (with_reducible refine Kd.C_drew ?_))); (case side2 => exact (Kd.R_reads' HO362.out).2.1); (case side3 => repeat (first | exact (Kd.R_reads' HO366.out).2.2 | (with_reducible refine Kd.C_alloc ?_ _) | (with_reducible refine Kd.C_drewN ?_ _) | (with_reducible refine Kd.C_drew ?_))); (case side4 => exact (Kd.R_reads' HO366.out).2.1); rintro e w48 ⟨v368, rfl, ho0, hb⟩; refine ⟨_, rfl, ?_⟩; have n0_ := Aside0.mk (Kd.R_elder' (rz HO352) (Kd.R_base ho0) hb); have n1_ := Aside0.mk (Kd.R_below (rz HO355) hb); have n2_ := Aside0.mk (Kd.R_elder' (rz HO358) (Kd.R_base ho0) hb); have n3_ := Aside0.mk (Kd.R_elder' (rz HO362) (Kd.R_base ho0) hb); have n4_ := Aside0.mk (Kd.R_below (rz HO366) hb); have n5_ := Aside0.mk (Kd.R_lower (Kd.R_new' (Kd.R_new' (Kd.R_new' ho0 (Kd.R_lt (rz HO352))) (Kd.R_lt (rz HO358))) (Kd.R_lt (rz HO362))) (below_size bh)); have n6_ := Aside0.mk (blk_below (bz BK346) hb); have n7_ := Aside0.mk (blk_below (bz BK363) hb); have n8_ := Aside0.mk (below_step bh hb); clear HO352 HO355 HO358 HO362 HO366 BK346 BK363 HB; have HO352 := n0_; have HO355 := n1_; have HO358 := n2_; have HO362 := n3_; have HO366 := n4_; have HO369 := n5_; have BK346 := n6_; have BK363 := n7_; have HB := n8_; clear n0_ n1_ n2_ n3_ n4_ n5_ n6_ n7_ n8_; (try clear hb); (try clear hb2); (try clear hk); (try clear hi); (try clear ho0); obtain ⟨Ao49, co49, eo49⟩ := Kd.R_slice HO369.out; subst eo49; obtain ⟨Ao50, co50, eo50⟩ := Kd.R_slice HO358.out; subst eo50) | ((with_reducible refine gate_callee (f := 22) rfl ?_); refine goesL_ (some 38) rfl rfl Try.func22 kr rfl #[.slice Ao49 t367.length co49, .slice Ao50 t356.length co50] rfl lm ?_; (with_reducible refine (laws_eqIntS.calls k _ _ t367 _ _ t356 true _ ?side1 ?side2 ?side3 ?side4 A19.out).mono ?_); (case side1 => repeat (first | exact (Kd.R_reads' HO369.out).2.2 | (with_reducible refine Kd.C_alloc ?_ _) | (with_reducible refine Kd.C_drewN ?_ _) | (with_reducible refine Kd.C_drew ?_))); (case side2 => exact (Kd.R_reads' HO369.out).2.1); (case side3 => repeat (first | exact (Kd.R_reads' HO358.out).2.2 | (with_reducible refine Kd.C_alloc ?_ _) | (with_reducible refine Kd.C_drewN ?_ _) | (with_reducible refine Kd.C_drew ?_))); (case side4 => exact (Kd.R_reads' HO358.out).2.1); rintro e w' ⟨rfl, ⟨nd, rfl⟩⟩; refine ⟨_, rfl, ?_⟩))
      (try (rw [drewN_self w48]; generalize hq_ : World.drewN w48 _ = w48; have n0_ : Aside0 (Kd.R (Kd.int .i64) 3 w48 w.heap.size (fun k_ => (((True ∧ some k_ ≠ (.slice Ao50 t356.length co50 : Value).ownBlock) ∧ some k_ ≠ (.slice Ao44 t360.length co44 : Value).ownBlock) ∧ some k_ ≠ (.slice Ao49 t367.length co49 : Value).ownBlock)) (.slice Ao36 t350.length co36) t350) := ⟨by rw [← hq_]; exact (rz HO352)⟩; have n1_ : Aside0 (Kd.R k61 61 w48 w.heap.size (fun k_ => (True ∧ some k_ ≠ (.slice Ao47 t364.length co47 : Value).ownBlock)) (.slice Ao37 t353.length co37) t353) := ⟨by rw [← hq_]; exact (rz HO355)⟩; have n2_ : Aside0 (Kd.R (Kd.int .i64) 3 w48 w.heap.size (fun k_ => (((True ∧ some k_ ≠ (.slice Ao36 t350.length co36 : Value).ownBlock) ∧ some k_ ≠ (.slice Ao44 t360.length co44 : Value).ownBlock) ∧ some k_ ≠ (.slice Ao49 t367.length co49 : Value).ownBlock)) (.slice Ao50 t356.length co50) t356) := ⟨by rw [← hq_]; exact (rz HO358)⟩; have n3_ : Aside0 (Kd.R (Kd.int .i64) 3 w48 w.heap.size (fun k_ => (((True ∧ some k_ ≠ (.slice Ao36 t350.length co36 : Value).ownBlock) ∧ some k_ ≠ (.slice Ao50 t356.length co50 : Value).ownBlock) ∧ some k_ ≠ (.slice Ao49 t367.length co49 : Value).ownBlock)) (.slice Ao44 t360.length co44) t360) := ⟨by rw [← hq_]; exact (rz HO362)⟩; have n4_ : Aside0 (Kd.R k61 61 w48 w.heap.size (fun k_ => (True ∧ some k_ ≠ (.slice Ao37 t353.length co37 : Value).ownBlock)) (.slice Ao47 t364.length co47) t364) := ⟨by rw [← hq_]; exact (rz HO366)⟩; have n5_ : Aside0 (Kd.R (Kd.int .i64) 3 w48 w.heap.size (fun k_ => (((True ∧ some k_ ≠ (.slice Ao36 t350.length co36 : Value).ownBlock) ∧ some k_ ≠ (.slice Ao50 t356.length co50 : Value).ownBlock) ∧ some k_ ≠ (.slice Ao44 t360.length co44 : Value).ownBlock)) (.slice Ao49 t367.length co49) t367) := ⟨by rw [← hq_]; exact (rz HO369)⟩; have n6_ : Aside0 (w48.heap[gb346]? = some (.cells #[.int .i64 a0_0, .slice A0_1 l0_1.length c0_1] 36 (0, 0))) := ⟨by rw [← hq_]; exact (bz BK346)⟩; have n7_ : Aside0 (w48.heap[gb363]? = some (.cells #[.int .i64 t359, .slice Ao44 t360.length co44] 25 (0, 0))) := ⟨by rw [← hq_]; exact (bz BK363)⟩; have n8_ : Aside0 (Below w.heap.size w w48) := ⟨by rw [← hq_]; exact bh⟩; clear HO352 HO355 HO358 HO362 HO366 HO369 BK346 BK363 HB hq_; have HO352 := n0_; have HO355 := n1_; have HO358 := n2_; have HO362 := n3_; have HO366 := n4_; have HO369 := n5_; have BK346 := n6_; have BK363 := n7_; have HB := n8_; clear n0_ n1_ n2_ n3_ n4_ n5_ n6_ n7_ n8_))
      have n0_ := Aside0.mk (Kd.R_drew HO352.out)
      have n1_ := Aside0.mk (Kd.R_drew HO355.out)
      have n2_ := Aside0.mk (Kd.R_drew HO358.out)
      have n3_ := Aside0.mk (Kd.R_drew HO362.out)
      have n4_ := Aside0.mk (Kd.R_drew HO366.out)
      have n5_ := Aside0.mk (Kd.R_drew HO369.out)
      have n6_ := Aside0.mk (blk_drew BK346.out)
      have n7_ := Aside0.mk (blk_drew BK363.out)
      have n8_ := Aside0.mk (below_drew1 HB.out)
      clear HO352 HO355 HO358 HO362 HO366 HO369 BK346 BK363 HB
      have HO352 := n0_
      have HO355 := n1_
      have HO358 := n2_
      have HO362 := n3_
      have HO366 := n4_
      have HO369 := n5_
      have BK346 := n6_
      have BK363 := n7_
      have HB := n8_
      clear n0_ n1_ n2_ n3_ n4_ n5_ n6_ n7_ n8_
      refine start_ (n := 5) (S := fun w' => w'.cell? ⟨gb363, 0, none⟩ = some (.int .i64 t359) ∧ w'.cell? ⟨gb363, 1, none⟩ = some (.slice Ao44 t360.length co44) ∧ w'.cell? ⟨gb346, 0, none⟩ = some (.int .i64 a0_0) ∧ w'.cell? ⟨gb346, 1, none⟩ = some (.slice A0_1 l0_1.length c0_1)) (ds := []) #[F,F,F,F,F] kr rfl rfl ⟨cz0 BK363, cz1 BK363, cz0 BK346, cz1 BK346⟩ (fun hHeld => ?_)
      generalize w48.drew = w51 at HO352 HO355 HO358 HO362 HO366 HO369 BK346 BK363 HB hHeld ⊢
      refine tk4 0 (some 40) #[T,F,F,F,F] kr ?_
      refine tk4 1 (some 41) #[T,T,F,F,F] kr ?_
      refine one_ (i := 2) (N := some 42) #[T,T,T,F,F] rfl rfl kr (by decide) (fun K hK => ?_)
      refine goes_ Try.func20 kr rfl #[.agg #[.int .i64 a0_0, .slice A0_1 l0_1.length c0_1]] (by rfl) rfl rfl lm ?_
      with_reducible refine (laws_toHouse.calls k a0_0 _ _ l0_1 t371 t372 _ ?side1 ?side2 A21.out).mono ?_
      (case side1 => repeat (first | exact (Kd.C_below HR0_1.out HB.out) | (with_reducible refine Kd.C_alloc ?_ _) | (with_reducible refine Kd.C_drewN ?_ _) | (with_reducible refine Kd.C_drew ?_)))
      (case side2 => exact HC0_1.out)
      rintro e w52 ⟨v373, rfl, ho0, hb⟩
      refine ⟨_, rfl, ?_⟩
      have n0_ := Aside0.mk (Kd.R_elder' (rz HO352) (Kd.R_base ho0) hb)
      have n1_ := Aside0.mk (Kd.R_below (rz HO355) hb)
      have n2_ := Aside0.mk (Kd.R_elder' (rz HO358) (Kd.R_base ho0) hb)
      have n3_ := Aside0.mk (Kd.R_elder' (rz HO362) (Kd.R_base ho0) hb)
      have n4_ := Aside0.mk (Kd.R_below (rz HO366) hb)
      have n5_ := Aside0.mk (Kd.R_elder' (rz HO369) (Kd.R_base ho0) hb)
      have n6_ := Aside0.mk (Kd.R_lower (Kd.R_new' (Kd.R_new' (Kd.R_new' (Kd.R_new' ho0 (Kd.R_lt (rz HO352))) (Kd.R_lt (rz HO358))) (Kd.R_lt (rz HO362))) (Kd.R_lt (rz HO369))) (below_size bh))
      have n7_ := Aside0.mk (blk_below (bz BK346) hb)
      have n8_ := Aside0.mk (blk_below (bz BK363) hb)
      have n9_ := Aside0.mk (below_step bh hb)
      clear HO352 HO355 HO358 HO362 HO366 HO369 BK346 BK363 HB
      have HO352 := n0_
      have HO355 := n1_
      have HO358 := n2_
      have HO362 := n3_
      have HO366 := n4_
      have HO369 := n5_
      have HO374 := n6_
      have BK346 := n7_
      have BK363 := n8_
      have HB := n9_
      clear n0_ n1_ n2_ n3_ n4_ n5_ n6_ n7_ n8_ n9_
      (try clear hb)
      (try clear hb2)
      (try clear hk)
      (try clear hi)
      (try clear ho0)
      obtain ⟨Ao53, co53, eo53⟩ := Kd.R_slice HO374.out
      (first | subst eo53 | (injection eo53 with f1_ f2_ f3_; have f4_ := f1_.symm; have f5_ := f3_.symm; clear f1_ f2_ f3_; subst f4_; subst f5_))
      refine hK.out _ _ ⟨cz0 BK363, cz1 BK363, cz0 BK346, cz1 BK346⟩ (fun hHeld => ?_)
      clear hK K
      refine norm_ (a' := ?_) ?_ ?_
      rotate_left
      ·show Act.put _ (some 42) _ = _
       simp only [Act.put, List.setIfInBounds_toArray, List.set_cons_zero, List.set_cons_succ, i64_w, i32_w]
       rfl
      refine one_ (i := 3) (N := some 43) #[T,T,T,T,F] rfl rfl kr (by decide) (fun K hK => ?_)
      refine goes_ Try.func23 kr rfl #[.agg #[.int .i64 t359, .slice Ao44 t360.length co44], .agg #[.int .i64 t371, .slice Ao53 t372.length co53]] (by rfl) rfl rfl lm ?_
      with_reducible refine (laws_eqHouse.calls k t359 _ _ t360 t371 _ _ t372 true _ ?side1 ?side2 ?side3 ?side4 A22.out).mono ?_
      (case side1 => repeat (first | exact (Kd.R_reads' HO362.out).2.2 | (with_reducible refine Kd.C_alloc ?_ _) | (with_reducible refine Kd.C_drewN ?_ _) | (with_reducible refine Kd.C_drew ?_)))
      (case side2 => exact (Kd.R_reads' HO362.out).2.1)
      (case side3 => repeat (first | exact (Kd.R_reads' HO374.out).2.2 | (with_reducible refine Kd.C_alloc ?_ _) | (with_reducible refine Kd.C_drewN ?_ _) | (with_reducible refine Kd.C_drew ?_)))
      (case side4 => exact (Kd.R_reads' HO374.out).2.1)
      rintro e w54 ⟨rfl, hb⟩
      refine ⟨_, rfl, ?_⟩
      have n0_ := Aside0.mk (Kd.R_below (rz HO352) hb)
      have n1_ := Aside0.mk (Kd.R_below (rz HO355) hb)
      have n2_ := Aside0.mk (Kd.R_below (rz HO358) hb)
      have n3_ := Aside0.mk (Kd.R_below (rz HO362) hb)
      have n4_ := Aside0.mk (Kd.R_below (rz HO366) hb)
      have n5_ := Aside0.mk (Kd.R_below (rz HO369) hb)
      have n6_ := Aside0.mk (Kd.R_below (rz HO374) hb)
      have n7_ := Aside0.mk (blk_below (bz BK346) hb)
      have n8_ := Aside0.mk (blk_below (bz BK363) hb)
      have n9_ := Aside0.mk (below_step bh hb)
      clear HO352 HO355 HO358 HO362 HO366 HO369 HO374 BK346 BK363 HB
      have HO352 := n0_
      have HO355 := n1_
      have HO358 := n2_
      have HO362 := n3_
      have HO366 := n4_
      have HO369 := n5_
      have HO374 := n6_
      have BK346 := n7_
      have BK363 := n8_
      have HB := n9_
      clear n0_ n1_ n2_ n3_ n4_ n5_ n6_ n7_ n8_ n9_
      (try clear hb)
      (try clear hb2)
      (try clear hk)
      (try clear hi)
      refine hK.out _ _ ⟨cz0 BK363, cz1 BK363, cz0 BK346, cz1 BK346⟩ (fun hHeld => ?_)
      clear hK K
      refine norm_ (a' := ?_) ?_ ?_
      rotate_left
      ·show Act.put _ (some 43) _ = _
       simp only [Act.put, List.setIfInBounds_toArray, List.set_cons_zero, List.set_cons_succ, i64_w, i32_w]
       rfl
      refine pu 4 (some 44) #[T,T,T,T,T] kr ?_
      refine done_ kr ?_
      go_upto_region 21 with (first | ((with_reducible refine gate_callee (f := 21) rfl ?_); refine goesL_ (some 47) rfl rfl Try.func21 kr rfl #[.slice A1 l1.length c1] rfl lm ?_; (with_reducible refine (laws_toMarkS.calls k _ _ l1 t376 _ ?side1 ?side2 A24.out).mono ?_); (case side1 => repeat (first | exact (Kd.C_below HR1.out HB.out) | (with_reducible refine Kd.C_alloc ?_ _) | (with_reducible refine Kd.C_drewN ?_ _) | (with_reducible refine Kd.C_drew ?_))); (case side2 => exact HC1.out); rintro e w55 ⟨v377, rfl, ho0, hb⟩; refine ⟨_, rfl, ?_⟩; have n0_ := Aside0.mk (Kd.R_below (rz HO352) hb); have n1_ := Aside0.mk (Kd.R_elder' (rz HO355) (Kd.R_base ho0) hb); have n2_ := Aside0.mk (Kd.R_below (rz HO358) hb); have n3_ := Aside0.mk (Kd.R_below (rz HO362) hb); have n4_ := Aside0.mk (Kd.R_elder' (rz HO366) (Kd.R_base ho0) hb); have n5_ := Aside0.mk (Kd.R_below (rz HO369) hb); have n6_ := Aside0.mk (Kd.R_below (rz HO374) hb); have n7_ := Aside0.mk (Kd.R_lower (Kd.R_new' (Kd.R_new' ho0 (Kd.R_lt (rz HO355))) (Kd.R_lt (rz HO366))) (below_size bh)); have n8_ := Aside0.mk (blk_below (bz BK346) hb); have n9_ := Aside0.mk (blk_below (bz BK363) hb); have n10_ := Aside0.mk (below_step bh hb); clear HO352 HO355 HO358 HO362 HO366 HO369 HO374 BK346 BK363 HB; have HO352 := n0_; have HO355 := n1_; have HO358 := n2_; have HO362 := n3_; have HO366 := n4_; have HO369 := n5_; have HO374 := n6_; have HO378 := n7_; have BK346 := n8_; have BK363 := n9_; have HB := n10_; clear n0_ n1_ n2_ n3_ n4_ n5_ n6_ n7_ n8_ n9_ n10_; (try clear hb); (try clear hb2); (try clear hk); (try clear hi); (try clear ho0); obtain ⟨Ao56, co56, eo56⟩ := Kd.R_slice HO378.out; subst eo56) | ((with_reducible refine gate_callee (f := 24) rfl ?_); refine goesL_ (some 48) rfl rfl Try.func24 kr rfl #[.slice Ao47 t364.length co47, .slice Ao56 t376.length co56] rfl lm ?_; (with_reducible refine (laws_eqMarkS.calls k _ _ t364 _ _ t376 true _ ?side1 ?side2 ?side3 ?side4 A25.out).mono ?_); (case side1 => repeat (first | exact (Kd.R_reads' HO366.out).2.2 | (with_reducible refine Kd.C_alloc ?_ _) | (with_reducible refine Kd.C_drewN ?_ _) | (with_reducible refine Kd.C_drew ?_))); (case side2 => exact (Kd.R_reads' HO366.out).2.1); (case side3 => repeat (first | exact (Kd.R_reads' HO378.out).2.2 | (with_reducible refine Kd.C_alloc ?_ _) | (with_reducible refine Kd.C_drewN ?_ _) | (with_reducible refine Kd.C_drew ?_))); (case side4 => exact (Kd.R_reads' HO378.out).2.1); rintro e w57 ⟨rfl, hb⟩; refine ⟨_, rfl, ?_⟩; have n0_ := Aside0.mk (Kd.R_below (rz HO352) hb); have n1_ := Aside0.mk (Kd.R_below (rz HO355) hb); have n2_ := Aside0.mk (Kd.R_below (rz HO358) hb); have n3_ := Aside0.mk (Kd.R_below (rz HO362) hb); have n4_ := Aside0.mk (Kd.R_below (rz HO366) hb); have n5_ := Aside0.mk (Kd.R_below (rz HO369) hb); have n6_ := Aside0.mk (Kd.R_below (rz HO374) hb); have n7_ := Aside0.mk (Kd.R_below (rz HO378) hb); have n8_ := Aside0.mk (blk_below (bz BK346) hb); have n9_ := Aside0.mk (blk_below (bz BK363) hb); have n10_ := Aside0.mk (below_step bh hb); clear HO352 HO355 HO358 HO362 HO366 HO369 HO374 HO378 BK346 BK363 HB; have HO352 := n0_; have HO355 := n1_; have HO358 := n2_; have HO362 := n3_; have HO366 := n4_; have HO369 := n5_; have HO374 := n6_; have HO378 := n7_; have BK346 := n8_; have BK363 := n9_; have HB := n10_; clear n0_ n1_ n2_ n3_ n4_ n5_ n6_ n7_ n8_ n9_ n10_; (try clear hb); (try clear hb2); (try clear hk); (try clear hi); have hcz58_0 := cz0 BK363; have hcz58_1 := cz1 BK363; have hfz58_0 := blk_frozen BK363.out 0; have hfz58_1 := blk_frozen BK363.out 1) | ((with_reducible refine gate_callee (f := 25) rfl ?_); refine goesL_ (some 52) rfl rfl Try.func25 kr rfl #[.agg #[.int .i64 t359, .slice Ao44 t360.length co44], .int .i64 1] rfl lm ?_; (with_reducible refine (laws_markHouse.calls k t359 (fun k_ => some k_ = (.slice Ao44 t360.length co44 : Value).ownBlock) (.slice Ao44 t360.length co44) t360 1 t380 t381 w _ ?side1 ?side2 A27.out).mono ?_); (case side1 => repeat (first | (with_reducible first | exact HB.out | apply below_alloc | apply pw_below_drewN | apply below_drew1 | refine below_set ?_ GE346.out | refine below_set ?_ GE363.out) | exact HB.out)); (case side2 => exact Kd.R_tight rfl HO362.out); rintro e w59 ⟨rfl, hy0, hb, hkp⟩; refine ⟨_, rfl, ?_⟩; have n0_ := Aside0.mk (blk_kept (bz BK346) hkp (fun hs_ => (fun e_ => (Kd.R_ne HO362.out BK346.out (by decide)) e_) hs_)); have n1_ := Aside0.mk (Kd.R_mono (ok' := fun k_ => some k_ ≠ (.slice Ao50 t356.length co50 : Value).ownBlock ∧ some k_ ≠ (.slice Ao44 t360.length co44 : Value).ownBlock ∧ some k_ ≠ (.slice Ao49 t367.length co49 : Value).ownBlock ∧ some k_ ≠ (.slice Ao53 t372.length co53 : Value).ownBlock) (Kd.R_keptB (HO352.out) hkp (fun k_ hk_ hs_ => (hk_.1.1.2) hs_)) (fun k_ hk_ => ⟨hk_.1.1.1.1.2, hk_.1.1.1.2, hk_.1.1.2, hk_.1.2⟩)); have n2_ := Aside0.mk (Kd.R_mono (ok' := fun k_ => some k_ ≠ (.slice Ao47 t364.length co47 : Value).ownBlock ∧ some k_ ≠ (.slice Ao56 t376.length co56 : Value).ownBlock) (Kd.R_keptB ((Kd.R_apart' HO355.out (Kd.R_typed HO362.out) (by decide))) hkp (fun k_ hk_ hs_ => (hk_.2) hs_)) (fun k_ hk_ => ⟨hk_.1.1.1.2, hk_.1.1.2⟩)); have n3_ := Aside0.mk (Kd.R_mono (ok' := fun k_ => some k_ ≠ (.slice Ao36 t350.length co36 : Value).ownBlock ∧ some k_ ≠ (.slice Ao44 t360.length co44 : Value).ownBlock ∧ some k_ ≠ (.slice Ao49 t367.length co49 : Value).ownBlock ∧ some k_ ≠ (.slice Ao53 t372.length co53 : Value).ownBlock) (Kd.R_keptB (HO358.out) hkp (fun k_ hk_ hs_ => (hk_.1.1.2) hs_)) (fun k_ hk_ => ⟨hk_.1.1.1.1.2, hk_.1.1.1.2, hk_.1.1.2, hk_.1.2⟩)); have n4_ := Aside0.mk (Kd.R_reok rfl hy0 (fun k_ e_ => HO362.out.1 k_ e_)); have n5_ := Aside0.mk (blk_kept (bz BK363) hkp (fun hs_ => (fun e_ => (Kd.R_ne HO362.out BK363.out (by decide)) e_) hs_)); have n6_ := Aside0.mk (Kd.R_mono (ok' := fun k_ => some k_ ≠ (.slice Ao37 t353.length co37 : Value).ownBlock ∧ some k_ ≠ (.slice Ao56 t376.length co56 : Value).ownBlock) (Kd.R_keptB ((Kd.R_apart' HO366.out (Kd.R_typed HO362.out) (by decide))) hkp (fun k_ hk_ hs_ => (hk_.2) hs_)) (fun k_ hk_ => ⟨hk_.1.1.1.2, hk_.1.1.2⟩)); have n7_ := Aside0.mk (Kd.R_mono (ok' := fun k_ => some k_ ≠ (.slice Ao36 t350.length co36 : Value).ownBlock ∧ some k_ ≠ (.slice Ao50 t356.length co50 : Value).ownBlock ∧ some k_ ≠ (.slice Ao44 t360.length co44 : Value).ownBlock ∧ some k_ ≠ (.slice Ao53 t372.length co53 : Value).ownBlock) (Kd.R_keptB (HO369.out) hkp (fun k_ hk_ hs_ => (hk_.1.2) hs_)) (fun k_ hk_ => ⟨hk_.1.1.1.1.2, hk_.1.1.1.2, hk_.1.1.2, hk_.1.2⟩)); have n8_ := Aside0.mk (Kd.R_mono (ok' := fun k_ => some k_ ≠ (.slice Ao36 t350.length co36 : Value).ownBlock ∧ some k_ ≠ (.slice Ao50 t356.length co50 : Value).ownBlock ∧ some k_ ≠ (.slice Ao44 t360.length co44 : Value).ownBlock ∧ some k_ ≠ (.slice Ao49 t367.length co49 : Value).ownBlock) (Kd.R_keptB (HO374.out) hkp (fun k_ hk_ hs_ => (hk_.1.2) hs_)) (fun k_ hk_ => ⟨hk_.1.1.1.1.2, hk_.1.1.1.2, hk_.1.1.2, hk_.1.2⟩)); have n9_ := Aside0.mk (Kd.R_mono (ok' := fun k_ => some k_ ≠ (.slice Ao37 t353.length co37 : Value).ownBlock ∧ some k_ ≠ (.slice Ao47 t364.length co47 : Value).ownBlock) (Kd.R_keptB ((Kd.R_apart' HO378.out (Kd.R_typed HO362.out) (by decide))) hkp (fun k_ hk_ hs_ => (hk_.2) hs_)) (fun k_ hk_ => ⟨hk_.1.1.1.2, hk_.1.1.2⟩)); have n10_ := Aside0.mk (hb); clear BK346 HO352 HO355 HO358 HO362 BK363 HO366 HO369 HO374 HO378 HB; have BK346 := n0_; have HO352 := n1_; have HO355 := n2_; have HO358 := n3_; have HO362 := n4_; have BK363 := n5_; have HO366 := n6_; have HO369 := n7_; have HO374 := n8_; have HO378 := n9_; have HB := n10_; clear n0_ n1_ n2_ n3_ n4_ n5_ n6_ n7_ n8_ n9_ n10_; (try clear hb); (try clear hkp); (try clear hy0)) | ((with_reducible refine gate_callee (f := 26) rfl ?_); refine goesL_ (some 55) rfl rfl Try.func26 kr rfl #[.slice Ao47 t364.length co47, .int .i64 t380] rfl lm ?_; (with_reducible refine (laws_markMarkS.calls k (fun k_ => some k_ = (.slice Ao47 t364.length co47 : Value).ownBlock) (.slice Ao47 t364.length co47) t364 t380 t382 t383 w _ ?side1 ?side2 A28.out).mono ?_); (case side1 => repeat (first | (with_reducible first | exact HB.out | apply below_alloc | apply pw_below_drewN | apply below_drew1 | refine below_set ?_ GE346.out | refine below_set ?_ GE363.out) | exact HB.out)); (case side2 => exact Kd.R_tight rfl HO366.out); rintro e w60 ⟨rfl, hy0, hb, hkp⟩; refine ⟨_, rfl, ?_⟩; have n0_ := Aside0.mk (blk_kept (bz BK346) hkp (fun hs_ => (fun e_ => (Kd.R_ne HO366.out BK346.out (by decide)) e_) hs_)); have n1_ := Aside0.mk (Kd.R_mono (ok' := fun k_ => some k_ ≠ (.slice Ao50 t356.length co50 : Value).ownBlock ∧ some k_ ≠ (.slice Ao44 t360.length co44 : Value).ownBlock ∧ some k_ ≠ (.slice Ao49 t367.length co49 : Value).ownBlock ∧ some k_ ≠ (.slice Ao53 t372.length co53 : Value).ownBlock) (Kd.R_keptB ((Kd.R_apart' HO352.out (Kd.R_typed HO366.out) (by decide))) hkp (fun k_ hk_ hs_ => (hk_.2) hs_)) (fun k_ hk_ => ⟨hk_.1.1.1, hk_.1.1.2.1, hk_.1.1.2.2.1, hk_.1.1.2.2.2⟩)); have n2_ := Aside0.mk (Kd.R_mono (ok' := fun k_ => some k_ ≠ (.slice Ao47 t364.length co47 : Value).ownBlock ∧ some k_ ≠ (.slice Ao56 t376.length co56 : Value).ownBlock) (Kd.R_keptB (HO355.out) hkp (fun k_ hk_ hs_ => (hk_.1) hs_)) (fun k_ hk_ => ⟨hk_.1.1, hk_.1.2⟩)); have n3_ := Aside0.mk (Kd.R_mono (ok' := fun k_ => some k_ ≠ (.slice Ao36 t350.length co36 : Value).ownBlock ∧ some k_ ≠ (.slice Ao44 t360.length co44 : Value).ownBlock ∧ some k_ ≠ (.slice Ao49 t367.length co49 : Value).ownBlock ∧ some k_ ≠ (.slice Ao53 t372.length co53 : Value).ownBlock) (Kd.R_keptB ((Kd.R_apart' HO358.out (Kd.R_typed HO366.out) (by decide))) hkp (fun k_ hk_ hs_ => (hk_.2) hs_)) (fun k_ hk_ => ⟨hk_.1.1.1, hk_.1.1.2.1, hk_.1.1.2.2.1, hk_.1.1.2.2.2⟩)); have n4_ := Aside0.mk (Kd.R_mono (ok' := fun k_ => some k_ ≠ (.slice Ao36 t350.length co36 : Value).ownBlock ∧ some k_ ≠ (.slice Ao50 t356.length co50 : Value).ownBlock ∧ some k_ ≠ (.slice Ao49 t367.length co49 : Value).ownBlock ∧ some k_ ≠ (.slice Ao53 t372.length co53 : Value).ownBlock) (Kd.R_keptB ((Kd.R_apart' HO362.out (Kd.R_typed HO366.out) (by decide))) hkp (fun k_ hk_ hs_ => (hk_.2) hs_)) (fun k_ hk_ => ⟨hk_.1.1.1.1.1.2, hk_.1.1.1.1.2, hk_.1.1.1.2, hk_.1.1.2⟩)); have n5_ := Aside0.mk (blk_kept (bz BK363) hkp (fun hs_ => (fun e_ => (Kd.R_ne HO366.out BK363.out (by decide)) e_) hs_)); have n6_ := Aside0.mk (Kd.R_reok rfl hy0 (fun k_ e_ => HO366.out.1 k_ e_)); have n7_ := Aside0.mk (Kd.R_mono (ok' := fun k_ => some k_ ≠ (.slice Ao36 t350.length co36 : Value).ownBlock ∧ some k_ ≠ (.slice Ao50 t356.length co50 : Value).ownBlock ∧ some k_ ≠ (.slice Ao44 t360.length co44 : Value).ownBlock ∧ some k_ ≠ (.slice Ao53 t372.length co53 : Value).ownBlock) (Kd.R_keptB ((Kd.R_apart' HO369.out (Kd.R_typed HO366.out) (by decide))) hkp (fun k_ hk_ hs_ => (hk_.2) hs_)) (fun k_ hk_ => ⟨hk_.1.1.1, hk_.1.1.2.1, hk_.1.1.2.2.1, hk_.1.1.2.2.2⟩)); have n8_ := Aside0.mk (Kd.R_mono (ok' := fun k_ => some k_ ≠ (.slice Ao36 t350.length co36 : Value).ownBlock ∧ some k_ ≠ (.slice Ao50 t356.length co50 : Value).ownBlock ∧ some k_ ≠ (.slice Ao44 t360.length co44 : Value).ownBlock ∧ some k_ ≠ (.slice Ao49 t367.length co49 : Value).ownBlock) (Kd.R_keptB ((Kd.R_apart' HO374.out (Kd.R_typed HO366.out) (by decide))) hkp (fun k_ hk_ hs_ => (hk_.2) hs_)) (fun k_ hk_ => ⟨hk_.1.1.1, hk_.1.1.2.1, hk_.1.1.2.2.1, hk_.1.1.2.2.2⟩)); have n9_ := Aside0.mk (Kd.R_mono (ok' := fun k_ => some k_ ≠ (.slice Ao37 t353.length co37 : Value).ownBlock ∧ some k_ ≠ (.slice Ao47 t364.length co47 : Value).ownBlock) (Kd.R_keptB (HO378.out) hkp (fun k_ hk_ hs_ => (hk_.2) hs_)) (fun k_ hk_ => ⟨hk_.1.1, hk_.1.2⟩)); have n10_ := Aside0.mk (hb); clear BK346 HO352 HO355 HO358 HO362 BK363 HO366 HO369 HO374 HO378 HB; have BK346 := n0_; have HO352 := n1_; have HO355 := n2_; have HO358 := n3_; have HO362 := n4_; have BK363 := n5_; have HO366 := n6_; have HO369 := n7_; have HO374 := n8_; have HO378 := n9_; have HB := n10_; clear n0_ n1_ n2_ n3_ n4_ n5_ n6_ n7_ n8_ n9_ n10_; (try clear hb); (try clear hkp); (try clear hy0)))
      (try simp only [Act.put, List.setIfInBounds_toArray, List.set_cons_zero, List.set_cons_succ])
      go_cut [63] (fun v63 wc => ∃ (kq : Nat) (x63_28 : Bool), v63 = .bool x63_28 ∧ Aside0 (laws_FnExactLeastConsents.j0 kq l1 t356 t367 x63_28 a0_0 l0_1 = some r) ∧ Aside0 (kq ≤ k) ∧ Aside0 (Kd.R (Kd.int .i64) 3 wc w.heap.size (fun k_ => some k_ ≠ ((.slice Ao49 t367.length co49) : Value).ownBlock ∧ some k_ ≠ ((.slice Ao44 t360.length co44) : Value).ownBlock) (.slice Ao50 t356.length co50) t356) ∧ Aside0 (Kd.R (Kd.int .i64) 3 wc w.heap.size (fun k_ => some k_ ≠ ((.slice Ao50 t356.length co50) : Value).ownBlock ∧ some k_ ≠ ((.slice Ao44 t360.length co44) : Value).ownBlock) (.slice Ao49 t367.length co49) t367) ∧ Aside0 (Kd.R (Kd.int .i64) 3 wc w.heap.size (fun k_ => some k_ ≠ ((.slice Ao50 t356.length co50) : Value).ownBlock ∧ some k_ ≠ ((.slice Ao49 t367.length co49) : Value).ownBlock) (.slice Ao44 t360.length co44) t381) ∧ Aside0 (wc.heap[gb346]? = some (.cells #[.int .i64 a0_0, (.slice A0_1 l0_1.length c0_1)] 36 (0, 0))) ∧ Aside0 (wc.heap[gb363]? = some (.cells #[.int .i64 t359, (.slice Ao44 t360.length co44)] 25 (0, 0))) ∧ Aside0 (Below w.heap.size w wc))
      case first =>
       have H := HC29.out
       clear HC29
       by_cases c61 : t382 < 0
       ·rw [if_pos c61] at H
        have c61b0 : decide (t382 < 0) = true := decide_eq_true c61
        clear c61
        (first | rw [c61b0] | (simp only [i64_w, i32_w]; rw [c61b0]) | skip)
        have H' := Aside0.mk H
        clear H
        go_wp2
        go_meet
        case rel => exact ⟨_, (true), (by first | rfl | (simp; done) | (simp [*]; done)), H', ⟨by first | omega | exact Nat.le_refl _⟩, ⟨mR HO358⟩, ⟨mR HO369⟩, ⟨mR HO362⟩, ⟨bz BK346⟩, ⟨bz BK363⟩, ⟨by exact bh⟩⟩
       ·rw [if_neg c61] at H
        have c61b0 : decide (t382 < 0) = false := decide_eq_false c61
        clear c61
        (first | rw [c61b0] | (simp only [i64_w, i32_w]; rw [c61b0]) | skip)
        replace H := Option.bind_eq_some_iff.mp H
        obtain ⟨t384, A620, H⟩ := H
        replace H : (laws_FnExactLeastConsents.j0 k l1 t356 t367 (!t384) a0_0 l0_1) = some r := H
        have A62 := Aside0.mk A620
        clear A620
        have H' := Aside0.mk H
        clear H
        go_wp2_with (first | (go_at_call 22; (with_reducible refine (laws_eqIntS.calls k _ _ t367 _ _ t356 t384 _ ?side1 ?side2 ?side3 ?side4 A62.out).mono ?_); (case side1 => repeat (first | exact (Kd.R_reads' HO369.out).2.2 | (with_reducible refine Kd.C_alloc ?_ _) | (with_reducible refine Kd.C_drewN ?_ _) | (with_reducible refine Kd.C_drew ?_))); (case side2 => exact (Kd.R_reads' HO369.out).2.1); (case side3 => repeat (first | exact (Kd.R_reads' HO358.out).2.2 | (with_reducible refine Kd.C_alloc ?_ _) | (with_reducible refine Kd.C_drewN ?_ _) | (with_reducible refine Kd.C_drew ?_))); (case side4 => exact (Kd.R_reads' HO358.out).2.1); rintro e w' ⟨rfl, ⟨nd, rfl⟩⟩))
        go_meet
        case rel => exact ⟨_, (!t384), (by first | rfl | (simp; done) | (simp [*]; done)), H', ⟨by first | omega | exact Nat.le_refl _⟩, ⟨mR HO358⟩, ⟨mR HO369⟩, ⟨mR HO362⟩, ⟨bz BK346⟩, ⟨bz BK363⟩, ⟨by exact bh⟩⟩
      case rest =>
       clear HC29
       try clear c1
       try clear c2
       try clear p2
       try clear c4
       try clear c4b0
       try clear c6
       try clear c9
       try clear c9b0
       try clear c15
       try clear c17
       try clear c18
       try clear c19
       try clear c20
       try clear c21
       try clear c22
       try clear c23
       try clear c24
       try clear c25
       try clear c26
       try clear c42
       try clear c61
       try clear c61b0
       try clear hcz11_0
       try clear hcz11_1
       try clear hcz31_0
       try clear hcz31_1
       try clear hcz33_0
       try clear hcz33_1
       try clear hcz39_0
       try clear hcz39_1
       try clear hcz43_0
       try clear hcz43_1
       try clear hcz46_0
       try clear hcz46_1
       try clear hcz58_0
       try clear hcz58_1
       try clear hcz6_0
       try clear hcz6_1
       try clear hfz11_0
       try clear hfz11_1
       try clear hfz31_0
       try clear hfz31_1
       try clear hfz33_0
       try clear hfz33_1
       try clear hfz39_0
       try clear hfz39_1
       try clear hfz43_0
       try clear hfz43_1
       try clear hfz46_0
       try clear hfz46_1
       try clear hfz58_0
       try clear hfz58_1
       try clear hfz6_0
       try clear hfz6_1
       obtain ⟨kq, x63_28, rfl, HA, HJ28, HO_6, HO_9, HO_364001, BK346, BK363, HB⟩ := hcut
       have hl364001_28 := (Kd.R_reads' HO_364001.out).1
       rw [hl364001_28] at HO_364001
       (try simp only [hl364001_28])
       (try simp only [hl364001_28] at BK346)
       (try simp only [hl364001_28] at BK363)
       (try simp only [hl364001_28] at HO_6)
       (try simp only [hl364001_28] at HO_9)
       cases kq with
       | zero => exact absurd HA.out (by simp [laws_FnExactLeastConsents.j0])
       | succ kj28 =>
        have H := HA.out
        clear HA
        simp only [laws_FnExactLeastConsents.j0] at H
        by_cases c63 : x63_28 = true
        ·subst c63
         have H1 : (none) = some r := by rw [if_pos rfl] at H; exact H
         clear H
         have H := H1
         clear H1
         exact absurd H (by simp)
        ·replace c63 := Bool.eq_false_iff.mpr c63
         subst c63
         have H1 : ((laws_markIntS.f kj28 t367 1).bind fun bt385 => ((laws_heldIntS.f kj28 bt385.2 1).bind fun t387 => (if t387 < 0 then (none) else (if t387 = bt385.1 then ((laws_toHouse.f kj28 a0_0 l0_1).bind fun bt388 => ((laws_toMarkS.f kj28 l1).bind fun t392 => ((impl_LeastConsents.f kj28 bt388.1 bt388.2 t392).bind fun t395 => ((laws_eqIntS.f kj28 t395 t356).bind fun t398 => (if t398 = true then ((laws_heldIntS.f kj28 bt385.2 1).bind fun t399 => (if t399 < 0 then (none) else (if t399 = bt385.1 then (some true) else (none)))) else (none)))))) else (none))))) = some r := by rw [if_neg (show ¬ (false = true) by decide)] at H; exact H
         clear H
         have H := H1
         clear H1
         replace H := Option.bind_eq_some_iff.mp H
         obtain ⟨⟨t385, t386⟩, A640, H⟩ := H
         replace H : ((laws_heldIntS.f kj28 t386 1).bind fun t387 => (if t387 < 0 then (none) else (if t387 = t385 then ((laws_toHouse.f kj28 a0_0 l0_1).bind fun bt388 => ((laws_toMarkS.f kj28 l1).bind fun t392 => ((impl_LeastConsents.f kj28 bt388.1 bt388.2 t392).bind fun t395 => ((laws_eqIntS.f kj28 t395 t356).bind fun t398 => (if t398 = true then ((laws_heldIntS.f kj28 t386 1).bind fun t399 => (if t399 < 0 then (none) else (if t399 = t385 then (some true) else (none)))) else (none)))))) else (none)))) = some r := H
         have A64 := Aside0.mk A640
         clear A640
         replace H := Option.bind_eq_some_iff.mp H
         obtain ⟨t387, A650, H⟩ := H
         replace H : (if t387 < 0 then (none) else (if t387 = t385 then ((laws_toHouse.f kj28 a0_0 l0_1).bind fun bt388 => ((laws_toMarkS.f kj28 l1).bind fun t392 => ((impl_LeastConsents.f kj28 bt388.1 bt388.2 t392).bind fun t395 => ((laws_eqIntS.f kj28 t395 t356).bind fun t398 => (if t398 = true then ((laws_heldIntS.f kj28 t386 1).bind fun t399 => (if t399 < 0 then (none) else (if t399 = t385 then (some true) else (none)))) else (none)))))) else (none))) = some r := H
         have A65 := Aside0.mk A650
         clear A650
         by_cases c66 : t387 < 0
         ·rw [if_pos c66] at H
          exact absurd H (by simp)
         ·rw [if_neg c66] at H
          have c66b0 : decide (t387 < 0) = false := decide_eq_false c66
          (try (have c66z0 := c66b0; simp only [hl364001_28] at c66z0))
          (try (have c66z1 := c66b1; simp only [hl364001_28] at c66z1))
          clear c66
          by_cases c67 : t387 = t385
          ·rw [if_pos c67] at H
           have c67b0 : (t387 == t385) = true := beq_iff_eq.mpr c67
           have c67b1 : (t387 != t385) = false := bne_eq_false_iff_eq.mpr c67
           (try (have c67z0 := c67b0; simp only [hl364001_28] at c67z0))
           (try (have c67z1 := c67b1; simp only [hl364001_28] at c67z1))
           clear c67
           replace H := Option.bind_eq_some_iff.mp H
           obtain ⟨⟨t388, t389⟩, A680, H⟩ := H
           replace H : ((laws_toMarkS.f kj28 l1).bind fun t392 => ((impl_LeastConsents.f kj28 t388 t389 t392).bind fun t395 => ((laws_eqIntS.f kj28 t395 t356).bind fun t398 => (if t398 = true then ((laws_heldIntS.f kj28 t386 1).bind fun t399 => (if t399 < 0 then (none) else (if t399 = t385 then (some true) else (none)))) else (none))))) = some r := H
           have A68 := Aside0.mk A680
           clear A680
           replace H := Option.bind_eq_some_iff.mp H
           obtain ⟨t392, A690, H⟩ := H
           replace H : ((impl_LeastConsents.f kj28 t388 t389 t392).bind fun t395 => ((laws_eqIntS.f kj28 t395 t356).bind fun t398 => (if t398 = true then ((laws_heldIntS.f kj28 t386 1).bind fun t399 => (if t399 < 0 then (none) else (if t399 = t385 then (some true) else (none)))) else (none)))) = some r := H
           have A69 := Aside0.mk A690
           clear A690
           replace H := Option.bind_eq_some_iff.mp H
           obtain ⟨t395, A700, H⟩ := H
           replace H : ((laws_eqIntS.f kj28 t395 t356).bind fun t398 => (if t398 = true then ((laws_heldIntS.f kj28 t386 1).bind fun t399 => (if t399 < 0 then (none) else (if t399 = t385 then (some true) else (none)))) else (none))) = some r := H
           have A70 := Aside0.mk A700
           clear A700
           replace H := Option.bind_eq_some_iff.mp H
           obtain ⟨t398, A710, H⟩ := H
           replace H : (if t398 = true then ((laws_heldIntS.f kj28 t386 1).bind fun t399 => (if t399 < 0 then (none) else (if t399 = t385 then (some true) else (none)))) else (none)) = some r := H
           have A71 := Aside0.mk A710
           clear A710
           by_cases c72 : t398 = true
           ·subst c72
            have H1 : ((laws_heldIntS.f kj28 t386 1).bind fun t399 => (if t399 < 0 then (none) else (if t399 = t385 then (some true) else (none)))) = some r := by rw [if_pos rfl] at H; exact H
            clear H
            have H := H1
            clear H1
            replace H := Option.bind_eq_some_iff.mp H
            obtain ⟨t399, A730, H⟩ := H
            replace H : (if t399 < 0 then (none) else (if t399 = t385 then (some true) else (none))) = some r := H
            have A73 := Aside0.mk A730
            clear A730
            by_cases c74 : t399 < 0
            ·rw [if_pos c74] at H
             exact absurd H (by simp)
            ·rw [if_neg c74] at H
             have c74b0 : decide (t399 < 0) = false := decide_eq_false c74
             (try (have c74z0 := c74b0; simp only [hl364001_28] at c74z0))
             (try (have c74z1 := c74b1; simp only [hl364001_28] at c74z1))
             clear c74
             by_cases c75 : t399 = t385
             ·rw [if_pos c75] at H
              have c75b0 : (t399 == t385) = true := beq_iff_eq.mpr c75
              have c75b1 : (t399 != t385) = false := bne_eq_false_iff_eq.mpr c75
              (try (have c75z0 := c75b0; simp only [hl364001_28] at c75z0))
              (try (have c75z1 := c75b1; simp only [hl364001_28] at c75z1))
              clear c75
              obtain rfl := Option.some.inj H
              go_wp2_with (first | ((with_reducible refine gate_callee (f := 27) rfl ?_); refine goesL_ (some 66) rfl rfl Try.func27 kr rfl #[.slice Ao49 t367.length co49, .int .i64 1] rfl lm ?_; (with_reducible refine (laws_markIntS.calls kj28 (fun k_ => some k_ = (.slice Ao49 t367.length co49 : Value).ownBlock) (.slice Ao49 t367.length co49) t367 1 t385 t386 w _ ?side1 ?side2 A64.out).mono ?_); (case side1 => repeat (first | (with_reducible first | exact HB.out | apply below_alloc | apply pw_below_drewN | apply below_drew1 | refine below_set ?_ GE346.out | refine below_set ?_ GE363.out) | exact HB.out)); (case side2 => exact Kd.R_tight rfl HO_9.out); rintro e w76 ⟨rfl, hy0, hb, hkp⟩; refine ⟨_, rfl, ?_⟩; have n0_ := Aside0.mk (Kd.R_mono (ok' := fun k_ => some k_ ≠ (.slice Ao49 t367.length co49 : Value).ownBlock ∧ some k_ ≠ (.slice Ao44 t381.length co44 : Value).ownBlock) (Kd.R_keptB (HO_6.out) hkp (fun k_ hk_ hs_ => (hk_.1) hs_)) (fun k_ hk_ => ⟨hk_.1.1, hk_.1.2⟩)); have n1_ := Aside0.mk (Kd.R_reok rfl hy0 (fun k_ e_ => HO_9.out.1 k_ e_)); have n2_ := Aside0.mk (Kd.R_mono (ok' := fun k_ => some k_ ≠ (.slice Ao50 t356.length co50 : Value).ownBlock ∧ some k_ ≠ (.slice Ao49 t367.length co49 : Value).ownBlock) (Kd.R_keptB (HO_364001.out) hkp (fun k_ hk_ hs_ => (hk_.2) hs_)) (fun k_ hk_ => ⟨hk_.1.1, hk_.1.2⟩)); have n3_ := Aside0.mk (blk_kept (bz BK346) hkp (fun hs_ => (fun e_ => (Kd.R_ne HO_9.out BK346.out (by decide)) e_) hs_)); have n4_ := Aside0.mk (blk_kept (bz BK363) hkp (fun hs_ => (fun e_ => (Kd.R_ne HO_9.out BK363.out (by decide)) e_) hs_)); have n5_ := Aside0.mk (hb); clear HO_6 HO_9 HO_364001 BK346 BK363 HB; have HO_6 := n0_; have HO_9 := n1_; have HO_364001 := n2_; have BK346 := n3_; have BK363 := n4_; have HB := n5_; clear n0_ n1_ n2_ n3_ n4_ n5_; (try clear hb); (try clear hkp); (try clear hy0)) | ((with_reducible refine gate_callee (f := 28) rfl ?_); refine goesL_ (some 69) rfl rfl Try.func28 kr rfl #[.slice Ao49 t386.length co49, .int .i64 1] rfl (by (try simp only [List.map_toArray, List.map_cons, List.map_nil]); first | done | (rw [show t386.length = t367.length from (Kd.R_reads' HO_9.out).1.symm] <;> rfl) | rfl | (simp only [List.length_drop, List.length_take]; rfl)) ?_; (with_reducible refine (laws_heldIntS.calls kj28 _ _ t386 1 t387 _ ?side1 ?side2 A65.out).mono ?_); (case side1 => repeat (first | exact (Kd.R_reads' HO_9.out).2.2 | (with_reducible refine Kd.C_alloc ?_ _) | (with_reducible refine Kd.C_drewN ?_ _) | (with_reducible refine Kd.C_drew ?_))); (case side2 => rw [show t386.length = t367.length from (Kd.R_reads' HO_9.out).1.symm]; exact (Kd.R_reads' HO_9.out).2.1); rintro e w' ⟨rfl, ⟨nd, rfl⟩⟩; refine ⟨_, rfl, ?_⟩; have hnb77 := NB346_363.out; have hnc77 := NB363_346.out; have hcz78_0 := cz0 BK346; have hcz78_1 := cz1 BK346; have hfz78_0 := blk_frozen BK346.out 0; have hfz78_1 := blk_frozen BK346.out 1) | ((with_reducible refine gate_callee (f := 20) rfl ?_); refine goesL_ (some 76) rfl rfl Try.func20 kr rfl #[.agg #[.int .i64 a0_0, .slice A0_1 l0_1.length c0_1]] rfl lm ?_; (with_reducible refine (laws_toHouse.calls kj28 a0_0 _ _ l0_1 t388 t389 _ ?side1 ?side2 A68.out).mono ?_); (case side1 => repeat (first | exact (Kd.C_below HR0_1.out bh) | (with_reducible refine Kd.C_alloc ?_ _) | (with_reducible refine Kd.C_drewN ?_ _) | (with_reducible refine Kd.C_drew ?_))); (case side2 => exact HC0_1.out); rintro e w79 ⟨v390, rfl, ho0, hb⟩; refine ⟨_, rfl, ?_⟩; have n0_ := Aside0.mk (Kd.R_elder' (rz HO_6) (Kd.R_base ho0) hb); have n1_ := Aside0.mk (Kd.R_elder' (rz HO_9) (Kd.R_base ho0) hb); have n2_ := Aside0.mk (Kd.R_elder' (rz HO_364001) (Kd.R_base ho0) hb); have n3_ := Aside0.mk (Kd.R_lower (Kd.R_new' (Kd.R_new' (Kd.R_new' ho0 (Kd.R_lt (rz HO_6))) (Kd.R_lt (rz HO_9))) (Kd.R_lt (rz HO_364001))) (below_size bh)); have n4_ := Aside0.mk (blk_below (bz BK346) hb); have n5_ := Aside0.mk (blk_below (bz BK363) hb); have n6_ := Aside0.mk (below_step bh hb); clear HO_6 HO_9 HO_364001 BK346 BK363 HB; have HO_6 := n0_; have HO_9 := n1_; have HO_364001 := n2_; have HO391 := n3_; have BK346 := n4_; have BK363 := n5_; have HB := n6_; clear n0_ n1_ n2_ n3_ n4_ n5_ n6_; (try clear hb); (try clear hb2); (try clear hk); (try clear hi); (try clear ho0)) | ((with_reducible refine gate_callee (f := 21) rfl ?_); refine goesL_ (some 78) rfl rfl Try.func21 kr rfl #[.slice A1 l1.length c1] rfl lm ?_; (with_reducible refine (laws_toMarkS.calls kj28 _ _ l1 t392 _ ?side1 ?side2 A69.out).mono ?_); (case side1 => repeat (first | exact (Kd.C_below HR1.out HB.out) | (with_reducible refine Kd.C_alloc ?_ _) | (with_reducible refine Kd.C_drewN ?_ _) | (with_reducible refine Kd.C_drew ?_))); (case side2 => exact HC1.out); rintro e w80 ⟨v393, rfl, ho0, hb⟩; refine ⟨_, rfl, ?_⟩; have n0_ := Aside0.mk (Kd.R_below (rz HO_6) hb); have n1_ := Aside0.mk (Kd.R_below (rz HO_9) hb); have n2_ := Aside0.mk (Kd.R_below (rz HO_364001) hb); have n3_ := Aside0.mk (Kd.R_below (rz HO391) hb); have n4_ := Aside0.mk (Kd.R_lower ho0 (below_size bh)); have n5_ := Aside0.mk (blk_below (bz BK346) hb); have n6_ := Aside0.mk (blk_below (bz BK363) hb); have n7_ := Aside0.mk (below_step bh hb); clear HO_6 HO_9 HO_364001 HO391 BK346 BK363 HB; have HO_6 := n0_; have HO_9 := n1_; have HO_364001 := n2_; have HO391 := n3_; have HO394 := n4_; have BK346 := n5_; have BK363 := n6_; have HB := n7_; clear n0_ n1_ n2_ n3_ n4_ n5_ n6_ n7_; (try clear hb); (try clear hb2); (try clear hk); (try clear hi); (try clear ho0); obtain ⟨Ao81, co81, eo81⟩ := Kd.R_slice HO391.out; subst eo81; obtain ⟨Ao82, co82, eo82⟩ := Kd.R_slice HO394.out; subst eo82) | ((with_reducible refine gate_callee (f := 15) rfl ?_); refine goesL_ (some 79) rfl rfl Try.func15 kr rfl #[.agg #[.int .i64 t388, .slice Ao81 t389.length co81], .slice Ao82 t392.length co82] rfl lm ?_; (with_reducible refine (impl_LeastConsents.calls kj28 t388 _ _ t389 _ _ t392 t395 _ ?side1 ?side2 ?side3 ?side4 A70.out).mono ?_); (case side1 => repeat (first | exact (Kd.R_reads' HO391.out).2.2 | (with_reducible refine Kd.C_alloc ?_ _) | (with_reducible refine Kd.C_drewN ?_ _) | (with_reducible refine Kd.C_drew ?_))); (case side2 => exact (Kd.R_reads' HO391.out).2.1); (case side3 => repeat (first | exact (Kd.R_reads' HO394.out).2.2 | (with_reducible refine Kd.C_alloc ?_ _) | (with_reducible refine Kd.C_drewN ?_ _) | (with_reducible refine Kd.C_drew ?_))); (case side4 => exact (Kd.R_reads' HO394.out).2.1); rintro e w83 ⟨v396, rfl, ho0, hb⟩; refine ⟨_, rfl, ?_⟩; have n0_ := Aside0.mk (Kd.R_elder' (rz HO_6) (Kd.R_base ho0) hb); have n1_ := Aside0.mk (Kd.R_elder' (rz HO_9) (Kd.R_base ho0) hb); have n2_ := Aside0.mk (Kd.R_elder' (rz HO_364001) (Kd.R_base ho0) hb); have n3_ := Aside0.mk (Kd.R_elder' (rz HO391) (Kd.R_base ho0) hb); have n4_ := Aside0.mk (Kd.R_below (rz HO394) hb); have n5_ := Aside0.mk (Kd.R_lower (Kd.R_new' (Kd.R_new' (Kd.R_new' (Kd.R_new' ho0 (Kd.R_lt (rz HO_6))) (Kd.R_lt (rz HO_9))) (Kd.R_lt (rz HO_364001))) (Kd.R_lt (rz HO391))) (below_size bh)); have n6_ := Aside0.mk (blk_below (bz BK346) hb); have n7_ := Aside0.mk (blk_below (bz BK363) hb); have n8_ := Aside0.mk (below_step bh hb); clear HO_6 HO_9 HO_364001 HO391 HO394 BK346 BK363 HB; have HO_6 := n0_; have HO_9 := n1_; have HO_364001 := n2_; have HO391 := n3_; have HO394 := n4_; have HO397 := n5_; have BK346 := n6_; have BK363 := n7_; have HB := n8_; clear n0_ n1_ n2_ n3_ n4_ n5_ n6_ n7_ n8_; (try clear hb); (try clear hb2); (try clear hk); (try clear hi); (try clear ho0); obtain ⟨Ao84, co84, eo84⟩ := Kd.R_slice HO397.out; subst eo84) | ((with_reducible refine gate_callee (f := 22) rfl ?_); refine goesL_ (some 82) rfl rfl Try.func22 kr rfl #[.slice Ao84 t395.length co84, .slice Ao50 t356.length co50] rfl lm ?_; (with_reducible refine (laws_eqIntS.calls kj28 _ _ t395 _ _ t356 true _ ?side1 ?side2 ?side3 ?side4 A71.out).mono ?_); (case side1 => repeat (first | exact (Kd.R_reads' HO397.out).2.2 | (with_reducible refine Kd.C_alloc ?_ _) | (with_reducible refine Kd.C_drewN ?_ _) | (with_reducible refine Kd.C_drew ?_))); (case side2 => exact (Kd.R_reads' HO397.out).2.1); (case side3 => repeat (first | exact (Kd.R_reads' HO_6.out).2.2 | (with_reducible refine Kd.C_alloc ?_ _) | (with_reducible refine Kd.C_drewN ?_ _) | (with_reducible refine Kd.C_drew ?_))); (case side4 => exact (Kd.R_reads' HO_6.out).2.1); rintro e w' ⟨rfl, ⟨nd, rfl⟩⟩; refine ⟨_, rfl, ?_⟩) | ((with_reducible refine gate_callee (f := 28) rfl ?_); refine goesL_ (some 86) rfl rfl Try.func28 kr rfl #[.slice Ao49 t386.length co49, .int .i64 1] rfl (by (try simp only [List.map_toArray, List.map_cons, List.map_nil]); first | done | (rw [show t386.length = t367.length from (Kd.R_reads' HO_9.out).1.symm] <;> rfl) | rfl | (simp only [List.length_drop, List.length_take]; rfl)) ?_; (with_reducible refine (laws_heldIntS.calls kj28 _ _ t386 1 t399 _ ?side1 ?side2 A73.out).mono ?_); (case side1 => repeat (first | exact (Kd.R_reads' HO_9.out).2.2 | (with_reducible refine Kd.C_alloc ?_ _) | (with_reducible refine Kd.C_drewN ?_ _) | (with_reducible refine Kd.C_drew ?_))); (case side2 => rw [show t386.length = t367.length from (Kd.R_reads' HO_9.out).1.symm]; exact (Kd.R_reads' HO_9.out).2.1); rintro e w' ⟨rfl, ⟨nd, rfl⟩⟩; refine ⟨_, rfl, ?_⟩))
              go_ret
              exact ⟨by first | rfl | (simp [errW_none, errW_some] <;> rfl) | (simp [*, errW_none, errW_some] <;> rfl), by exact bh⟩
             ·rw [if_neg c75] at H
              exact absurd H (by simp)
           ·replace c72 := Bool.eq_false_iff.mpr c72
            subst c72
            have H1 : (none) = some r := by rw [if_neg (show ¬ (false = true) by decide)] at H; exact H
            clear H
            have H := H1
            clear H1
            exact absurd H (by simp)
          ·rw [if_neg c67] at H
           exact absurd H (by simp)
     ·replace c26 := Bool.eq_false_iff.mpr c26
      subst c26
      have H1 : (none) = some r := by rw [if_neg (show ¬ (false = true) by decide)] at H; exact H
      clear H
      have H := H1
      clear H1
      exact absurd H (by simp)
    ·replace c23 := Bool.eq_false_iff.mpr c23
     subst c23
     have H1 : (none) = some r := by rw [if_neg (show ¬ (false = true) by decide)] at H; exact H
     clear H
     have H := H1
     clear H1
     exact absurd H (by simp)
   ·replace c20 := Bool.eq_false_iff.mpr c20
    subst c20
    have H1 : (none) = some r := by rw [if_neg (show ¬ (false = true) by decide)] at H; exact H
    clear H
    have H := H1
    clear H1
    exact absurd H (by simp)

def laws_FnExactLeastConsents.Pure : Prop := ∀ (a0_0 : Int) (l0_1 : List Int) (l1 : List (S68)), Opens.pInt .i64 a0_0 → Opens.pSlice (Opens.pInt .i64) l0_1 → Opens.pSlice (Opens.pIso (Opens.pPair (Opens.pInt .i64) (Opens.pPair (Opens.pInt .i64) (Opens.pInt .i64))) (fun x : S68 => (x.f0, x.f1, x.f2))) l1 → ∃ k, laws_FnExactLeastConsents.f k a0_0 l0_1 l1 = some true

end Go.Proofs.Ytaddlahbahedeaa.QFnExactLeastConsents
