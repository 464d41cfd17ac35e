-- Printed for this claim by a turned copy of the print (wip/myprint). Lean checks it. Squeezed. Worded. Tightened.
import Derived.Test.YtlpjkeejflogjaaQFnExactFilledCourtx0
import Derived.Test.YtlpjkeejflogjaaQFnExactFilledCourtx1
import Derived.Test.YtlpjkeejflogjaaQFnExactFilledCourtx2
import Derived.Test.YtlpjkeejflogjaaQFnExactFilledCourtx5
import Derived.Test.YtlpjkeejflogjaaQFnExactFilledCourtx9
namespace Go.Proofs.Ytlpjkeejflogjaa.QFnExactFilledCourt
open Go.RowKit Go.Proofs.YtlpjkeejflogjaaW.PrintWords Go.Proofs.YtlpjkeejflogjaaW.PrintLast Go.Proofs.YtlpjkeejflogjaaW.PrintMore
attribute [local go_sem] max2_int min2_int max_two min_two max_three min_three max_four min_four Opens.cell_twice   -- for this text's walks alone
set_option linter.unusedVariables false
set_option linter.unusedSimpArgs false

/-! ### laws_FnExactFilledCourt: function 11 -/
def laws_FnExactFilledCourt.j0 : Nat → Bool → Int → List (List Int) → List Int → Int → Int → List (List Int) → List Int → Int → Int → List (List Int) → List Int → Int → Option (Bool)
 | 0, _, _, _, _, _, _, _, _, _, _, _, _, _ => none
 | k + 1, x42, x266000, x266001, x266002, x266003, x284000, x284001, x284002, x284003, x302000, x302001, x302002, x302003 => if x42 = true then (none) else ((laws_markCourt.f k x302000 x302001 x302002 x302003 1).bind fun bt316 => ((laws_heldCourt.f k x302000 bt316.2.1 bt316.2.2 x302003 1).bind fun t319 => (if t319 < 0 then (none) else (if t319 = bt316.1 then ((laws_toCourt.f k x266000 x266001 x266002 x266003).bind fun bt320 => ((impl_FilledCourt.f k bt320.1 bt320.2.1 bt320.2.2.1 bt320.2.2.2).bind fun bt328 => ((laws_eqCourt.f k bt328.1 bt328.2.1 bt328.2.2.1 bt328.2.2.2 x284000 x284001 x284002 x284003).bind fun t337 => (if t337 = true then ((laws_heldCourt.f k x302000 bt316.2.1 bt316.2.2 x302003 1).bind fun t338 => (if t338 < 0 then (none) else (if t338 = bt316.1 then (some true) else (none)))) else (none))))) else (none)))))
def laws_FnExactFilledCourt.f (k : Nat) (a0_0 : Int) (l0_1 : List (List Int)) (l0_2 : List Int) (a0_3 : Int) : Option (Bool) := (laws_szCourt.f k a0_0 l0_1 l0_2 a0_3 1048576).bind fun t266 => (if t266 < 0 then (some true) else ((laws_toCourt.f k a0_0 l0_1 l0_2 a0_3).bind fun bt267 => ((spec_FilledCourt.f k bt267.1 bt267.2.1 bt267.2.2.1 bt267.2.2.2).bind fun bt275 => ((laws_toCourt.f k a0_0 l0_1 l0_2 a0_3).bind fun bt284 => ((impl_FilledCourt.f k bt284.1 bt284.2.1 bt284.2.2.1 bt284.2.2.2).bind fun bt293 => ((laws_eqCourt.f k bt293.1 bt293.2.1 bt293.2.2.1 bt293.2.2.2 bt275.1 bt275.2.1 bt275.2.2.1 bt275.2.2.2).bind fun t302 => (if t302 = true then ((laws_toCourt.f k a0_0 l0_1 l0_2 a0_3).bind fun bt303 => ((laws_eqCourt.f k bt284.1 bt284.2.1 bt284.2.2.1 bt284.2.2.2 bt303.1 bt303.2.1 bt303.2.2.1 bt303.2.2.2).bind fun t311 => (if t311 = true then ((laws_markCourt.f k bt284.1 bt284.2.1 bt284.2.2.1 bt284.2.2.2 1).bind fun bt312 => (if bt312.1 < 0 then (laws_FnExactFilledCourt.j0 k true a0_0 l0_1 l0_2 a0_3 bt275.1 bt275.2.1 bt275.2.2.1 bt275.2.2.2 bt293.1 bt293.2.1 bt293.2.2.1 bt293.2.2.2) else ((laws_eqCourt.f k bt293.1 bt293.2.1 bt293.2.2.1 bt293.2.2.2 bt275.1 bt275.2.1 bt275.2.2.1 bt275.2.2.2).bind fun t315 => (laws_FnExactFilledCourt.j0 k (!t315) a0_0 l0_1 l0_2 a0_3 bt275.1 bt275.2.1 bt275.2.2.1 bt275.2.2.2 bt293.1 bt293.2.1 bt293.2.2.1 bt293.2.2.2)))) else (none)))) else (none))))))))
theorem laws_FnExactFilledCourt.mono_l : ∀ k, (∀ y0 y1 y2 y3 y4 y5 y6 y7 y8 y9 y10 y11 y12, LeO (laws_FnExactFilledCourt.j0 k y0 y1 y2 y3 y4 y5 y6 y7 y8 y9 y10 y11 y12) (laws_FnExactFilledCourt.j0 (k + 1) y0 y1 y2 y3 y4 y5 y6 y7 y8 y9 y10 y11 y12))
 | 0 => fun _ _ _ _ _ _ _ _ _ _ _ _ _ r h => by simp [laws_FnExactFilledCourt.j0] at h
 | k + 1 => by
  have ih0 := laws_FnExactFilledCourt.mono_l k
  ·intro y0 y1 y2 y3 y4 y5 y6 y7 y8 y9 y10 y11 y12
   unfold laws_FnExactFilledCourt.j0
   repeat' first
   | (with_reducible exact ih0 _ _ _ _ _ _ _ _ _ _ _ _ _)
   | (with_reducible exact impl_FilledCourt.mono _ _ _ _ _)
   | (with_reducible exact laws_eqCourt.mono _ _ _ _ _ _ _ _ _)
   | (with_reducible exact laws_heldCourt.mono _ _ _ _ _ _)
   | (with_reducible exact laws_markCourt.mono _ _ _ _ _ _)
   | (with_reducible exact laws_szCourt.mono _ _ _ _ _ _)
   | (with_reducible exact laws_toCourt.mono _ _ _ _ _)
   | (with_reducible exact spec_FilledCourt.mono _ _ _ _ _)
   | (with_reducible exact LeO.refl _)
   | (with_reducible exact LeO.none _)
   | (with_reducible refine LeO.ite ?_ ?_)
   | (with_reducible refine LeO.bind ?_ (fun _ => ?_))
   | exact ih0 _ _ _ _ _ _ _ _ _ _ _ _ _
   | exact impl_FilledCourt.mono _ _ _ _ _
   | exact laws_eqCourt.mono _ _ _ _ _ _ _ _ _
   | exact laws_heldCourt.mono _ _ _ _ _ _
   | exact laws_markCourt.mono _ _ _ _ _ _
   | exact laws_szCourt.mono _ _ _ _ _ _
   | exact laws_toCourt.mono _ _ _ _ _
   | exact spec_FilledCourt.mono _ _ _ _ _
   | exact LeO.none _
   | refine LeO.ite ?_ ?_
   | refine LeO.bind ?_ (fun _ => ?_)
theorem laws_FnExactFilledCourt.mono : ∀ a0 a1 a2 a3 k, LeO (laws_FnExactFilledCourt.f k a0 a1 a2 a3) (laws_FnExactFilledCourt.f (k + 1) a0 a1 a2 a3) := by
 intro a0 a1 a2 a3 k
 have ih0 := laws_FnExactFilledCourt.mono_l k
 unfold laws_FnExactFilledCourt.f
 repeat' first
   | (with_reducible exact ih0 _ _ _ _ _ _ _ _ _ _ _ _ _)
   | (with_reducible exact impl_FilledCourt.mono _ _ _ _ _)
   | (with_reducible exact laws_eqCourt.mono _ _ _ _ _ _ _ _ _)
   | (with_reducible exact laws_heldCourt.mono _ _ _ _ _ _)
   | (with_reducible exact laws_markCourt.mono _ _ _ _ _ _)
   | (with_reducible exact laws_szCourt.mono _ _ _ _ _ _)
   | (with_reducible exact laws_toCourt.mono _ _ _ _ _)
   | (with_reducible exact spec_FilledCourt.mono _ _ _ _ _)
   | (with_reducible exact LeO.refl _)
   | (with_reducible exact LeO.none _)
   | (with_reducible refine LeO.ite ?_ ?_)
   | (with_reducible refine LeO.bind ?_ (fun _ => ?_))
   | exact ih0 _ _ _ _ _ _ _ _ _ _ _ _ _
   | exact impl_FilledCourt.mono _ _ _ _ _
   | exact laws_eqCourt.mono _ _ _ _ _ _ _ _ _
   | exact laws_heldCourt.mono _ _ _ _ _ _
   | exact laws_markCourt.mono _ _ _ _ _ _
   | exact laws_szCourt.mono _ _ _ _ _ _
   | exact laws_toCourt.mono _ _ _ _ _
   | exact spec_FilledCourt.mono _ _ _ _ _
   | exact LeO.none _
   | refine LeO.ite ?_ ?_
   | refine LeO.bind ?_ (fun _ => ?_)
set_option maxHeartbeats 8000000 in
set_option maxRecDepth 100000 in
theorem laws_FnExactFilledCourt.calls (k : Nat) (a0_0 : Int) (A0_1 : Option Addr) (c0_1 : Nat) (l0_1 : List (List Int)) (A0_2 : Option Addr) (c0_2 : Nat) (l0_2 : List Int) (a0_3 : Int) (r : Bool) (w : World) (hr0_1 : Kd.C (Kd.slice 3 (Kd.int .i64)) w A0_1 l0_1.length l0_1) (hc0_1 : l0_1.length ≤ c0_1) (hr0_2 : Kd.C (Kd.int .i64) w A0_2 l0_2.length l0_2) (hc0_2 : l0_2.length ≤ c0_2) (h : laws_FnExactFilledCourt.f k a0_0 l0_1 l0_2 a0_3 = some r) :
  Calls Try.prog 11 #[.agg #[.int .i64 a0_0, .slice A0_1 l0_1.length c0_1, .slice A0_2 l0_2.length c0_2, .int .i64 a0_3]] w fun e w' => e = .returned (.bool r) ∧ Below w.heap.size w w' := by
 have hu25 := Try.underlying25
 have hu28 := Try.underlying28
 have HR0_1 := Aside0.mk hr0_1
 have HC0_1 := Aside0.mk hc0_1
 clear hr0_1 hc0_1
 have HR0_2 := Aside0.mk hr0_2
 have HC0_2 := Aside0.mk hc0_2
 clear hr0_2 hc0_2
 have HB := Aside0.mk (Below.refl w.heap.size w)
 have H : ((laws_szCourt.f k a0_0 l0_1 l0_2 a0_3 1048576).bind fun t266 => (if t266 < 0 then (some true) else ((laws_toCourt.f k a0_0 l0_1 l0_2 a0_3).bind fun bt267 => ((spec_FilledCourt.f k bt267.1 bt267.2.1 bt267.2.2.1 bt267.2.2.2).bind fun bt275 => ((laws_toCourt.f k a0_0 l0_1 l0_2 a0_3).bind fun bt284 => ((impl_FilledCourt.f k bt284.1 bt284.2.1 bt284.2.2.1 bt284.2.2.2).bind fun bt293 => ((laws_eqCourt.f k bt293.1 bt293.2.1 bt293.2.2.1 bt293.2.2.2 bt275.1 bt275.2.1 bt275.2.2.1 bt275.2.2.2).bind fun t302 => (if t302 = true then ((laws_toCourt.f k a0_0 l0_1 l0_2 a0_3).bind fun bt303 => ((laws_eqCourt.f k bt284.1 bt284.2.1 bt284.2.2.1 bt284.2.2.2 bt303.1 bt303.2.1 bt303.2.2.1 bt303.2.2.2).bind fun t311 => (if t311 = true then ((laws_markCourt.f k bt284.1 bt284.2.1 bt284.2.2.1 bt284.2.2.2 1).bind fun bt312 => (if bt312.1 < 0 then (laws_FnExactFilledCourt.j0 k true a0_0 l0_1 l0_2 a0_3 bt275.1 bt275.2.1 bt275.2.2.1 bt275.2.2.2 bt293.1 bt293.2.1 bt293.2.2.1 bt293.2.2.2) else ((laws_eqCourt.f k bt293.1 bt293.2.1 bt293.2.2.1 bt293.2.2.2 bt275.1 bt275.2.1 bt275.2.2.1 bt275.2.2.2).bind fun t315 => (laws_FnExactFilledCourt.j0 k (!t315) a0_0 l0_1 l0_2 a0_3 bt275.1 bt275.2.1 bt275.2.2.1 bt275.2.2.2 bt293.1 bt293.2.1 bt293.2.2.1 bt293.2.2.2)))) else (none)))) else (none))))))))) = some r := h
 clear h
 replace H := Option.bind_eq_some_iff.mp H
 obtain ⟨t266, A20, H⟩ := H
 replace H : (if t266 < 0 then (some true) else ((laws_toCourt.f k a0_0 l0_1 l0_2 a0_3).bind fun bt267 => ((spec_FilledCourt.f k bt267.1 bt267.2.1 bt267.2.2.1 bt267.2.2.2).bind fun bt275 => ((laws_toCourt.f k a0_0 l0_1 l0_2 a0_3).bind fun bt284 => ((impl_FilledCourt.f k bt284.1 bt284.2.1 bt284.2.2.1 bt284.2.2.2).bind fun bt293 => ((laws_eqCourt.f k bt293.1 bt293.2.1 bt293.2.2.1 bt293.2.2.2 bt275.1 bt275.2.1 bt275.2.2.1 bt275.2.2.2).bind fun t302 => (if t302 = true then ((laws_toCourt.f k a0_0 l0_1 l0_2 a0_3).bind fun bt303 => ((laws_eqCourt.f k bt284.1 bt284.2.1 bt284.2.2.1 bt284.2.2.2 bt303.1 bt303.2.1 bt303.2.2.1 bt303.2.2.2).bind fun t311 => (if t311 = true then ((laws_markCourt.f k bt284.1 bt284.2.1 bt284.2.2.1 bt284.2.2.2 1).bind fun bt312 => (if bt312.1 < 0 then (laws_FnExactFilledCourt.j0 k true a0_0 l0_1 l0_2 a0_3 bt275.1 bt275.2.1 bt275.2.2.1 bt275.2.2.2 bt293.1 bt293.2.1 bt293.2.2.1 bt293.2.2.2) else ((laws_eqCourt.f k bt293.1 bt293.2.1 bt293.2.2.1 bt293.2.2.2 bt275.1 bt275.2.1 bt275.2.2.1 bt275.2.2.2).bind fun t315 => (laws_FnExactFilledCourt.j0 k (!t315) a0_0 l0_1 l0_2 a0_3 bt275.1 bt275.2.1 bt275.2.2.1 bt275.2.2.2 bt293.1 bt293.2.1 bt293.2.2.1 bt293.2.2.2)))) else (none)))) else (none)))))))) = some r := H
 have A2 := Aside0.mk A20
 clear A20
 by_cases c3 : t266 < 0
 ·rw [if_pos c3] at H
  have c3b0 : decide (t266 < 0) = true := decide_eq_true c3
  clear c3
  obtain rfl := Option.some.inj H
  go_enter Try.func11, Try.ntmps11
  go_wp2_with (first | ((with_reducible refine gate_dst (N := 1) rfl ?_); refine box_event ?hg (N := 1) ?hd (cs := #[.int .i64 a0_0, .slice A0_1 l0_1.length c0_1, .slice A0_2 l0_2.length c0_2, .int .i64 a0_3]) (t := 25) ?hr ?_; (case hd => rfl); (case hg => rfl); (case hr => first | (go_simp; done) | (go_simp; rfl)); intro gb265 hg w4 hbox hb; have n0_ := Aside0.mk (below_step bh hb); have n1_ := Aside0.mk (hbox); have n2_ := Aside0.mk ((gs (W0 := w) hg bh)); have n3_ := Aside0.mk ((gs (W0 := w) hg bh)); clear HB; have HB := n0_; have BK265 := n1_; have GW265 := n2_; have GE265 := n3_; clear n0_ n1_ n2_ n3_ hb hbox hg; have hcz5_0 := cz0 BK265; have hcz5_1 := cz1 BK265; have hcz5_2 := cz2 BK265; have hcz5_3 := cz3 BK265; have hfz5_0 := blk_frozen BK265.out 0; have hfz5_1 := blk_frozen BK265.out 1; have hfz5_2 := blk_frozen BK265.out 2; have hfz5_3 := blk_frozen BK265.out 3) | ((with_reducible refine gate_callee (f := 16) rfl ?_); refine goesL_ (some 13) rfl rfl Try.func16 kr rfl #[.agg #[.int .i64 a0_0, .slice A0_1 l0_1.length c0_1, .slice A0_2 l0_2.length c0_2, .int .i64 a0_3], .int .i64 1048576] rfl lm ?_; (with_reducible refine (laws_szCourt.calls k a0_0 _ _ l0_1 _ _ l0_2 a0_3 1048576 t266 _ ?side1 ?side2 ?side3 ?side4 A2.out).mono ?_); (case side1 => repeat (first | exact (Kd.C_below HR0_1.out HB.out) | (with_reducible refine Kd.C_alloc ?_ _) | (with_reducible refine Kd.C_drewN ?_ _) | (with_reducible refine Kd.C_drew ?_))); (case side2 => exact HC0_1.out); (case side3 => repeat (first | exact (Kd.C_below HR0_2.out HB.out) | (with_reducible refine Kd.C_alloc ?_ _) | (with_reducible refine Kd.C_drewN ?_ _) | (with_reducible refine Kd.C_drew ?_))); (case side4 => exact HC0_2.out); rintro e w6 ⟨rfl, hb⟩; refine ⟨_, rfl, ?_⟩; have n0_ := Aside0.mk (blk_below (bz BK265) hb); have n1_ := Aside0.mk (below_step bh hb); clear BK265 HB; have BK265 := n0_; have HB := n1_; clear n0_ n1_; (try clear hb); (try clear hb2); (try clear hk); (try clear hi)))
  go_ret
  exact ⟨by first | rfl | (simp [errW_none, errW_some] <;> rfl) | (simp [*, errW_none, errW_some] <;> rfl), by exact bh⟩
 ·rw [if_neg c3] at H
  have c3b0 : decide (t266 < 0) = false := decide_eq_false c3
  clear c3
  replace H := Option.bind_eq_some_iff.mp H
  obtain ⟨⟨t267, t268, t271, t274⟩, A70, H⟩ := H
  replace H : ((spec_FilledCourt.f k t267 t268 t271 t274).bind fun bt275 => ((laws_toCourt.f k a0_0 l0_1 l0_2 a0_3).bind fun bt284 => ((impl_FilledCourt.f k bt284.1 bt284.2.1 bt284.2.2.1 bt284.2.2.2).bind fun bt293 => ((laws_eqCourt.f k bt293.1 bt293.2.1 bt293.2.2.1 bt293.2.2.2 bt275.1 bt275.2.1 bt275.2.2.1 bt275.2.2.2).bind fun t302 => (if t302 = true then ((laws_toCourt.f k a0_0 l0_1 l0_2 a0_3).bind fun bt303 => ((laws_eqCourt.f k bt284.1 bt284.2.1 bt284.2.2.1 bt284.2.2.2 bt303.1 bt303.2.1 bt303.2.2.1 bt303.2.2.2).bind fun t311 => (if t311 = true then ((laws_markCourt.f k bt284.1 bt284.2.1 bt284.2.2.1 bt284.2.2.2 1).bind fun bt312 => (if bt312.1 < 0 then (laws_FnExactFilledCourt.j0 k true a0_0 l0_1 l0_2 a0_3 bt275.1 bt275.2.1 bt275.2.2.1 bt275.2.2.2 bt293.1 bt293.2.1 bt293.2.2.1 bt293.2.2.2) else ((laws_eqCourt.f k bt293.1 bt293.2.1 bt293.2.2.1 bt293.2.2.2 bt275.1 bt275.2.1 bt275.2.2.1 bt275.2.2.2).bind fun t315 => (laws_FnExactFilledCourt.j0 k (!t315) a0_0 l0_1 l0_2 a0_3 bt275.1 bt275.2.1 bt275.2.2.1 bt275.2.2.2 bt293.1 bt293.2.1 bt293.2.2.1 bt293.2.2.2)))) else (none)))) else (none)))))) = some r := H
  have A7 := Aside0.mk A70
  clear A70
  replace H := Option.bind_eq_some_iff.mp H
  obtain ⟨⟨t275, t276, t279, t282⟩, A80, H⟩ := H
  replace H : ((laws_toCourt.f k a0_0 l0_1 l0_2 a0_3).bind fun bt284 => ((impl_FilledCourt.f k bt284.1 bt284.2.1 bt284.2.2.1 bt284.2.2.2).bind fun bt293 => ((laws_eqCourt.f k bt293.1 bt293.2.1 bt293.2.2.1 bt293.2.2.2 t275 t276 t279 t282).bind fun t302 => (if t302 = true then ((laws_toCourt.f k a0_0 l0_1 l0_2 a0_3).bind fun bt303 => ((laws_eqCourt.f k bt284.1 bt284.2.1 bt284.2.2.1 bt284.2.2.2 bt303.1 bt303.2.1 bt303.2.2.1 bt303.2.2.2).bind fun t311 => (if t311 = true then ((laws_markCourt.f k bt284.1 bt284.2.1 bt284.2.2.1 bt284.2.2.2 1).bind fun bt312 => (if bt312.1 < 0 then (laws_FnExactFilledCourt.j0 k true a0_0 l0_1 l0_2 a0_3 t275 t276 t279 t282 bt293.1 bt293.2.1 bt293.2.2.1 bt293.2.2.2) else ((laws_eqCourt.f k bt293.1 bt293.2.1 bt293.2.2.1 bt293.2.2.2 t275 t276 t279 t282).bind fun t315 => (laws_FnExactFilledCourt.j0 k (!t315) a0_0 l0_1 l0_2 a0_3 t275 t276 t279 t282 bt293.1 bt293.2.1 bt293.2.2.1 bt293.2.2.2)))) else (none)))) else (none))))) = some r := H
  have A8 := Aside0.mk A80
  clear A80
  replace H := Option.bind_eq_some_iff.mp H
  obtain ⟨⟨t284, t285, t288, t291⟩, A90, H⟩ := H
  replace H : ((impl_FilledCourt.f k t284 t285 t288 t291).bind fun bt293 => ((laws_eqCourt.f k bt293.1 bt293.2.1 bt293.2.2.1 bt293.2.2.2 t275 t276 t279 t282).bind fun t302 => (if t302 = true then ((laws_toCourt.f k a0_0 l0_1 l0_2 a0_3).bind fun bt303 => ((laws_eqCourt.f k t284 t285 t288 t291 bt303.1 bt303.2.1 bt303.2.2.1 bt303.2.2.2).bind fun t311 => (if t311 = true then ((laws_markCourt.f k t284 t285 t288 t291 1).bind fun bt312 => (if bt312.1 < 0 then (laws_FnExactFilledCourt.j0 k true a0_0 l0_1 l0_2 a0_3 t275 t276 t279 t282 bt293.1 bt293.2.1 bt293.2.2.1 bt293.2.2.2) else ((laws_eqCourt.f k bt293.1 bt293.2.1 bt293.2.2.1 bt293.2.2.2 t275 t276 t279 t282).bind fun t315 => (laws_FnExactFilledCourt.j0 k (!t315) a0_0 l0_1 l0_2 a0_3 t275 t276 t279 t282 bt293.1 bt293.2.1 bt293.2.2.1 bt293.2.2.2)))) else (none)))) else (none)))) = some r := H
  have A9 := Aside0.mk A90
  clear A90
  replace H := Option.bind_eq_some_iff.mp H
  obtain ⟨⟨t293, t294, t297, t300⟩, A100, H⟩ := H
  replace H : ((laws_eqCourt.f k t293 t294 t297 t300 t275 t276 t279 t282).bind fun t302 => (if t302 = true then ((laws_toCourt.f k a0_0 l0_1 l0_2 a0_3).bind fun bt303 => ((laws_eqCourt.f k t284 t285 t288 t291 bt303.1 bt303.2.1 bt303.2.2.1 bt303.2.2.2).bind fun t311 => (if t311 = true then ((laws_markCourt.f k t284 t285 t288 t291 1).bind fun bt312 => (if bt312.1 < 0 then (laws_FnExactFilledCourt.j0 k true a0_0 l0_1 l0_2 a0_3 t275 t276 t279 t282 t293 t294 t297 t300) else ((laws_eqCourt.f k t293 t294 t297 t300 t275 t276 t279 t282).bind fun t315 => (laws_FnExactFilledCourt.j0 k (!t315) a0_0 l0_1 l0_2 a0_3 t275 t276 t279 t282 t293 t294 t297 t300)))) else (none)))) else (none))) = some r := H
  have A10 := Aside0.mk A100
  clear A100
  replace H := Option.bind_eq_some_iff.mp H
  obtain ⟨t302, A110, H⟩ := H
  replace H : (if t302 = true then ((laws_toCourt.f k a0_0 l0_1 l0_2 a0_3).bind fun bt303 => ((laws_eqCourt.f k t284 t285 t288 t291 bt303.1 bt303.2.1 bt303.2.2.1 bt303.2.2.2).bind fun t311 => (if t311 = true then ((laws_markCourt.f k t284 t285 t288 t291 1).bind fun bt312 => (if bt312.1 < 0 then (laws_FnExactFilledCourt.j0 k true a0_0 l0_1 l0_2 a0_3 t275 t276 t279 t282 t293 t294 t297 t300) else ((laws_eqCourt.f k t293 t294 t297 t300 t275 t276 t279 t282).bind fun t315 => (laws_FnExactFilledCourt.j0 k (!t315) a0_0 l0_1 l0_2 a0_3 t275 t276 t279 t282 t293 t294 t297 t300)))) else (none)))) else (none)) = some r := H
  have A11 := Aside0.mk A110
  clear A110
  by_cases c12 : t302 = true
  ·subst c12
   have H1 : ((laws_toCourt.f k a0_0 l0_1 l0_2 a0_3).bind fun bt303 => ((laws_eqCourt.f k t284 t285 t288 t291 bt303.1 bt303.2.1 bt303.2.2.1 bt303.2.2.2).bind fun t311 => (if t311 = true then ((laws_markCourt.f k t284 t285 t288 t291 1).bind fun bt312 => (if bt312.1 < 0 then (laws_FnExactFilledCourt.j0 k true a0_0 l0_1 l0_2 a0_3 t275 t276 t279 t282 t293 t294 t297 t300) else ((laws_eqCourt.f k t293 t294 t297 t300 t275 t276 t279 t282).bind fun t315 => (laws_FnExactFilledCourt.j0 k (!t315) a0_0 l0_1 l0_2 a0_3 t275 t276 t279 t282 t293 t294 t297 t300)))) else (none)))) = some r := by rw [if_pos rfl] at H; exact H
   clear H
   have H := H1
   clear H1
   replace H := Option.bind_eq_some_iff.mp H
   obtain ⟨⟨t303, t304, t307, t310⟩, A130, H⟩ := H
   replace H : ((laws_eqCourt.f k t284 t285 t288 t291 t303 t304 t307 t310).bind fun t311 => (if t311 = true then ((laws_markCourt.f k t284 t285 t288 t291 1).bind fun bt312 => (if bt312.1 < 0 then (laws_FnExactFilledCourt.j0 k true a0_0 l0_1 l0_2 a0_3 t275 t276 t279 t282 t293 t294 t297 t300) else ((laws_eqCourt.f k t293 t294 t297 t300 t275 t276 t279 t282).bind fun t315 => (laws_FnExactFilledCourt.j0 k (!t315) a0_0 l0_1 l0_2 a0_3 t275 t276 t279 t282 t293 t294 t297 t300)))) else (none))) = some r := H
   have A13 := Aside0.mk A130
   clear A130
   replace H := Option.bind_eq_some_iff.mp H
   obtain ⟨t311, A140, H⟩ := H
   replace H : (if t311 = true then ((laws_markCourt.f k t284 t285 t288 t291 1).bind fun bt312 => (if bt312.1 < 0 then (laws_FnExactFilledCourt.j0 k true a0_0 l0_1 l0_2 a0_3 t275 t276 t279 t282 t293 t294 t297 t300) else ((laws_eqCourt.f k t293 t294 t297 t300 t275 t276 t279 t282).bind fun t315 => (laws_FnExactFilledCourt.j0 k (!t315) a0_0 l0_1 l0_2 a0_3 t275 t276 t279 t282 t293 t294 t297 t300)))) else (none)) = some r := H
   have A14 := Aside0.mk A140
   clear A140
   by_cases c15 : t311 = true
   ·subst c15
    have H1 : ((laws_markCourt.f k t284 t285 t288 t291 1).bind fun bt312 => (if bt312.1 < 0 then (laws_FnExactFilledCourt.j0 k true a0_0 l0_1 l0_2 a0_3 t275 t276 t279 t282 t293 t294 t297 t300) else ((laws_eqCourt.f k t293 t294 t297 t300 t275 t276 t279 t282).bind fun t315 => (laws_FnExactFilledCourt.j0 k (!t315) a0_0 l0_1 l0_2 a0_3 t275 t276 t279 t282 t293 t294 t297 t300)))) = some r := by rw [if_pos rfl] at H; exact H
    clear H
    have H := H1
    clear H1
    replace H := Option.bind_eq_some_iff.mp H
    obtain ⟨⟨t312, t313, t314⟩, A160, H⟩ := H
    replace H : (if t312 < 0 then (laws_FnExactFilledCourt.j0 k true a0_0 l0_1 l0_2 a0_3 t275 t276 t279 t282 t293 t294 t297 t300) else ((laws_eqCourt.f k t293 t294 t297 t300 t275 t276 t279 t282).bind fun t315 => (laws_FnExactFilledCourt.j0 k (!t315) a0_0 l0_1 l0_2 a0_3 t275 t276 t279 t282 t293 t294 t297 t300))) = some r := H
    have A16 := Aside0.mk A160
    clear A160
    have HC17 := Aside0.mk H
    clear H
    go_enter Try.func11, Try.ntmps11
    try go_wp2_with (first | ((with_reducible refine gate_dst (N := 1) rfl ?_); refine box_event ?hg (N := 1) ?hd (cs := #[.int .i64 a0_0, .slice A0_1 l0_1.length c0_1, .slice A0_2 l0_2.length c0_2, .int .i64 a0_3]) (t := 25) ?hr ?_; (case hd => rfl); (case hg => rfl); (case hr => first | (go_simp; done) | (go_simp; rfl)); intro gb265 hg w18 hbox hb; have n0_ := Aside0.mk (below_step bh hb); have n1_ := Aside0.mk (hbox); have n2_ := Aside0.mk ((gs (W0 := w) hg bh)); have n3_ := Aside0.mk ((gs (W0 := w) hg bh)); clear HB; have HB := n0_; have BK265 := n1_; have GW265 := n2_; have GE265 := n3_; clear n0_ n1_ n2_ n3_ hb hbox hg; have hcz19_0 := cz0 BK265; have hcz19_1 := cz1 BK265; have hcz19_2 := cz2 BK265; have hcz19_3 := cz3 BK265; have hfz19_0 := blk_frozen BK265.out 0; have hfz19_1 := blk_frozen BK265.out 1; have hfz19_2 := blk_frozen BK265.out 2; have hfz19_3 := blk_frozen BK265.out 3) | ((with_reducible refine gate_callee (f := 16) rfl ?_); refine goesL_ (some 13) rfl rfl Try.func16 kr rfl #[.agg #[.int .i64 a0_0, .slice A0_1 l0_1.length c0_1, .slice A0_2 l0_2.length c0_2, .int .i64 a0_3], .int .i64 1048576] rfl lm ?_; (with_reducible refine (laws_szCourt.calls k a0_0 _ _ l0_1 _ _ l0_2 a0_3 1048576 t266 _ ?side1 ?side2 ?side3 ?side4 A2.out).mono ?_); (case side1 => repeat (first | exact (Kd.C_below HR0_1.out HB.out) | (with_reducible refine Kd.C_alloc ?_ _) | (with_reducible refine Kd.C_drewN ?_ _) | (with_reducible refine Kd.C_drew ?_))); (case side2 => exact HC0_1.out); (case side3 => repeat (first | exact (Kd.C_below HR0_2.out HB.out) | (with_reducible refine Kd.C_alloc ?_ _) | (with_reducible refine Kd.C_drewN ?_ _) | (with_reducible refine Kd.C_drew ?_))); (case side4 => exact HC0_2.out); rintro e w20 ⟨rfl, hb⟩; refine ⟨_, rfl, ?_⟩; have n0_ := Aside0.mk (blk_below (bz BK265) hb); have n1_ := Aside0.mk (below_step bh hb); clear BK265 HB; have BK265 := n0_; have HB := n1_; clear n0_ n1_; (try clear hb); (try clear hb2); (try clear hk); (try clear hi); have hcz21_0 := cz0 BK265; have hcz21_1 := cz1 BK265; have hcz21_2 := cz2 BK265; have hcz21_3 := cz3 BK265; have hfz21_0 := blk_frozen BK265.out 0; have hfz21_1 := blk_frozen BK265.out 1; have hfz21_2 := blk_frozen BK265.out 2; have hfz21_3 := blk_frozen BK265.out 3) | ((with_reducible refine gate_callee (f := 18) rfl ?_); refine goesL_ (some 17) rfl rfl Try.func18 kr rfl #[.agg #[.int .i64 a0_0, .slice A0_1 l0_1.length c0_1, .slice A0_2 l0_2.length c0_2, .int .i64 a0_3]] rfl lm ?_; (with_reducible refine (laws_toCourt.calls k a0_0 _ _ l0_1 _ _ l0_2 a0_3 t267 t268 t271 t274 _ ?side1 ?side2 ?side3 ?side4 A7.out).mono ?_); (case side1 => repeat (first | exact (Kd.C_below HR0_1.out HB.out) | (with_reducible refine Kd.C_alloc ?_ _) | (with_reducible refine Kd.C_drewN ?_ _) | (with_reducible refine Kd.C_drew ?_))); (case side2 => exact HC0_1.out); (case side3 => repeat (first | exact (Kd.C_below HR0_2.out HB.out) | (with_reducible refine Kd.C_alloc ?_ _) | (with_reducible refine Kd.C_drewN ?_ _) | (with_reducible refine Kd.C_drew ?_))); (case side4 => exact HC0_2.out); rintro e w22 ⟨v269, v272, rfl, ho0, ho1, hb⟩; refine ⟨_, rfl, ?_⟩; obtain ⟨Nm23, hNm23⟩ := S_num ho0; have n0_ := Aside0.mk (Kd.S_lower (S_geN ho0 hNm23) (below_size bh)); have n1_ := Aside0.mk (Kd.R_lower ho1 (below_size bh)); have n2_ := Aside0.mk (blk_below (bz BK265) hb); have n3_ := Aside0.mk (below_step bh hb); clear BK265 HB; have HO270 := n0_; have HO273 := n1_; have BK265 := n2_; have HB := n3_; clear n0_ n1_ n2_ n3_; (try clear hb); (try clear hb2); (try clear hk); (try clear hi); (try clear ho0); (try clear ho1); obtain ⟨Ao24, co24, eo24⟩ := Kd.S_slice HO270.out; subst eo24; obtain ⟨Ao25, co25, eo25⟩ := Kd.R_slice HO273.out; subst eo25) | ((with_reducible refine gate_callee (f := 36) rfl ?_); refine goesL_ (some 18) rfl rfl Try.func36 kr rfl #[.agg #[.int .i64 t267, .slice Ao24 t268.length co24, .slice Ao25 t271.length co25, .int .i64 t274]] rfl lm ?_; (with_reducible refine (spec_FilledCourt.calls k t267 _ _ t268 _ _ t271 t274 t275 t276 t279 t282 _ ?side1 ?side2 ?side3 ?side4 A8.out).mono ?_); (case side1 => repeat (first | exact (Kd.S_reads' HO270.out).2.2 | (with_reducible refine Kd.C_alloc ?_ _) | (with_reducible refine Kd.C_drewN ?_ _) | (with_reducible refine Kd.C_drew ?_))); (case side2 => exact (Kd.S_reads' HO270.out).2.1); (case side3 => repeat (first | exact (Kd.R_reads' HO273.out).2.2 | (with_reducible refine Kd.C_alloc ?_ _) | (with_reducible refine Kd.C_drewN ?_ _) | (with_reducible refine Kd.C_drew ?_))); (case side4 => exact (Kd.R_reads' HO273.out).2.1); rintro e w26 ⟨v277, v280, rfl, ho0, ho1, hb⟩; refine ⟨_, rfl, ?_⟩; obtain ⟨Nm27, hNm27⟩ := S_num ho0; have n0_ := Aside0.mk (S_ltN (Kd.S_told (Kd.S_told (Kd.S_old (sz HO270) hb) (Kd.S_base ho0)) (Kd.R_base ho1)) hNm27); have n1_ := Aside0.mk (Kd.R_elder' (rz HO273) (Kd.R_base ho1) hb); have n2_ := Aside0.mk (Kd.S_lower (Kd.S_new' (Kd.S_new' (S_geN ho0 hNm27) (Kd.S_lt (sz HO270))) (Kd.R_lt (rz HO273))) (below_size bh)); have n3_ := Aside0.mk (Kd.R_lower (Kd.R_new' ho1 (Kd.R_lt (rz HO273))) (below_size bh)); have n4_ := Aside0.mk (blk_below (bz BK265) hb); have n5_ := Aside0.mk (below_step bh hb); clear HO270 HO273 BK265 HB; have HO270 := n0_; have HO273 := n1_; have HO278 := n2_; have HO281 := n3_; have BK265 := n4_; have HB := n5_; clear n0_ n1_ n2_ n3_ n4_ n5_; (try clear hb); (try clear hb2); (try clear hk); (try clear hi); (try clear ho0); (try clear ho1)) | ((with_reducible refine gate_dst (N := 4) rfl ?_); refine box_event ?hg (N := 4) ?hd (cs := #[.int .i64 0, .slice none 0 0, .slice none 0 0, .int .i64 0]) (t := 28) ?hr ?_; (case hd => rfl); (case hg => rfl); (case hr => first | (go_simp; done) | (go_simp; rfl)); intro gb283 hg w28 hbox hb; have n0_ := Aside0.mk (Kd.S_below (sz HO270) hb); have n1_ := Aside0.mk (Kd.R_below (rz HO273) hb); have n2_ := Aside0.mk (Kd.S_below (sz HO278) hb); have n3_ := Aside0.mk (Kd.R_below (rz HO281) hb); have n4_ := Aside0.mk (blk_below (bz BK265) hb); have n5_ := Aside0.mk (below_step bh hb); have n6_ := Aside0.mk (hbox); have n7_ := Aside0.mk ((gs (W0 := w) hg bh)); have n8_ := Aside0.mk ((gs (W0 := w) hg bh)); have n9_ := Aside0.mk ((gn hg (bz BK265))); have n10_ := Aside0.mk ((gm hg (bz BK265))); clear HO270 HO273 HO278 HO281 BK265 HB; have HO270 := n0_; have HO273 := n1_; have HO278 := n2_; have HO281 := n3_; have BK265 := n4_; have HB := n5_; have BK283 := n6_; have GW283 := n7_; have GE283 := n8_; have NB265_283 := n9_; have NB283_265 := n10_; clear n0_ n1_ n2_ n3_ n4_ n5_ n6_ n7_ n8_ n9_ n10_ hb hbox hg; have hnb29 := NB283_265.out; have hnc29 := NB265_283.out; have hcz30_0 := cz0 BK283; have hcz30_1 := cz1 BK283; have hcz30_2 := cz2 BK283; have hcz30_3 := cz3 BK283; have hfz30_0 := blk_frozen BK283.out 0; have hfz30_1 := blk_frozen BK283.out 1; have hfz30_2 := blk_frozen BK283.out 2; have hfz30_3 := blk_frozen BK283.out 3; obtain ⟨Ao31, co31, eo31⟩ := Kd.S_slice HO278.out; subst eo31; obtain ⟨Ao32, co32, eo32⟩ := Kd.R_slice HO281.out; subst eo32; have hcz33_0 := cz0 BK265; have hcz33_1 := cz1 BK265; have hcz33_2 := cz2 BK265; have hcz33_3 := cz3 BK265; have hfz33_0 := blk_frozen BK265.out 0; have hfz33_1 := blk_frozen BK265.out 1; have hfz33_2 := blk_frozen BK265.out 2; have hfz33_3 := blk_frozen BK265.out 3) | ((with_reducible refine gate_callee (f := 18) rfl ?_); refine goesL_ (some 20) rfl rfl Try.func18 kr rfl #[.agg #[.int .i64 a0_0, .slice A0_1 l0_1.length c0_1, .slice A0_2 l0_2.length c0_2, .int .i64 a0_3]] rfl lm ?_; (with_reducible refine (laws_toCourt.calls k a0_0 _ _ l0_1 _ _ l0_2 a0_3 t284 t285 t288 t291 _ ?side1 ?side2 ?side3 ?side4 A9.out).mono ?_); (case side1 => exact Kd.C_below HR0_1.out bh); (case side2 => exact HC0_1.out); (case side3 => exact Kd.C_below HR0_2.out bh); (case side4 => exact HC0_2.out); rintro e w34 ⟨v286, v289, rfl, ho0, ho1, hb⟩; refine ⟨_, rfl, ?_⟩; obtain ⟨Nm35, hNm35⟩ := S_num ho0; have n0_ := Aside0.mk (S_ltN (Kd.S_told (Kd.S_told (Kd.S_old (fS HO270 BK283) hb) (Kd.S_base ho0)) (Kd.R_base ho1)) hNm35); have n1_ := Aside0.mk (Kd.R_elder' (fR HO273 BK283) (Kd.R_base ho1) hb); have n2_ := Aside0.mk (S_ltN (Kd.S_told (Kd.S_told (Kd.S_old (fS HO278 BK283) hb) (Kd.S_base ho0)) (Kd.R_base ho1)) hNm35); have n3_ := Aside0.mk (Kd.R_elder' (fR HO281 BK283) (Kd.R_base ho1) hb); have n4_ := Aside0.mk (Kd.S_lower (Kd.S_new' (Kd.S_new' (Kd.S_new' (Kd.S_new' (S_geN ho0 hNm35) (Kd.S_lt (fS HO270 BK283))) (Kd.R_lt (fR HO273 BK283))) (Kd.S_lt (fS HO278 BK283))) (Kd.R_lt (fR HO281 BK283))) (below_size bh)); have n5_ := Aside0.mk (Kd.R_lower (Kd.R_new' (Kd.R_new' ho1 (Kd.R_lt (fR HO273 BK283))) (Kd.R_lt (fR HO281 BK283))) (below_size bh)); have n6_ := Aside0.mk (blk_below (g := gb265) (o := .cells #[.int .i64 a0_0, .slice A0_1 l0_1.length c0_1, .slice A0_2 l0_2.length c0_2, .int .i64 a0_3] 25 (0, 0)) (bf NB265_283 BK265) hb); have n7_ := Aside0.mk (blk_below (g := gb283) (o := .cells #[.int .i64 t275, .slice Ao31 t276.length co31, .slice Ao32 t279.length co32, .int .i64 t282] 28 (0, 0)) (bp BK283) hb); have n8_ := Aside0.mk (below_step bh hb); clear HO270 HO273 HO278 HO281 BK265 BK283 HB; have HO270 := n0_; have HO273 := n1_; have HO278 := n2_; have HO281 := n3_; have HO287 := n4_; have HO290 := n5_; have BK265 := n6_; have BK283 := n7_; have HB := n8_; clear n0_ n1_ n2_ n3_ n4_ n5_ n6_ n7_ n8_; (try clear hb); (try clear hb2); (try clear hk); (try clear hi); (try clear ho0); (try clear ho1)) | ((with_reducible refine gate_dst (N := 5) rfl ?_); refine box_event ?hg (N := 5) ?hd (cs := #[.int .i64 0, .slice none 0 0, .slice none 0 0, .int .i64 0]) (t := 28) ?hr ?_; (case hd => rfl); (case hg => rfl); (case hr => first | (go_simp; done) | (go_simp; rfl)); intro gb292 hg w36 hbox hb; have n0_ := Aside0.mk (Kd.S_below (sz HO270) hb); have n1_ := Aside0.mk (Kd.R_below (rz HO273) hb); have n2_ := Aside0.mk (Kd.S_below (sz HO278) hb); have n3_ := Aside0.mk (Kd.R_below (rz HO281) hb); have n4_ := Aside0.mk (Kd.S_below (sz HO287) hb); have n5_ := Aside0.mk (Kd.R_below (rz HO290) hb); have n6_ := Aside0.mk (blk_below (bz BK265) hb); have n7_ := Aside0.mk (blk_below (bz BK283) hb); have n8_ := Aside0.mk (below_step bh hb); have n9_ := Aside0.mk (hbox); have n10_ := Aside0.mk ((gs (W0 := w) hg bh)); have n11_ := Aside0.mk ((gs (W0 := w) hg bh)); have n12_ := Aside0.mk ((gn hg (bz BK265))); have n13_ := Aside0.mk ((gm hg (bz BK265))); have n14_ := Aside0.mk ((gn hg (bz BK283))); have n15_ := Aside0.mk ((gm hg (bz BK283))); clear HO270 HO273 HO278 HO281 HO287 HO290 BK265 BK283 HB; have HO270 := n0_; have HO273 := n1_; have HO278 := n2_; have HO281 := n3_; have HO287 := n4_; have HO290 := n5_; have BK265 := n6_; have BK283 := n7_; have HB := n8_; have BK292 := n9_; have GW292 := n10_; have GE292 := n11_; have NB265_292 := n12_; have NB292_265 := n13_; have NB283_292 := n14_; have NB292_283 := n15_; clear n0_ n1_ n2_ n3_ n4_ n5_ n6_ n7_ n8_ n9_ n10_ n11_ n12_ n13_ n14_ n15_ hb hbox hg; have hnb37 := NB292_265.out; have hnc37 := NB265_292.out; have hnb38 := NB292_283.out; have hnc38 := NB283_292.out; have hcz39_0 := cz0 BK292; have hcz39_1 := cz1 BK292; have hcz39_2 := cz2 BK292; have hcz39_3 := cz3 BK292; have hfz39_0 := blk_frozen BK292.out 0; have hfz39_1 := blk_frozen BK292.out 1; have hfz39_2 := blk_frozen BK292.out 2; have hfz39_3 := blk_frozen BK292.out 3; obtain ⟨Ao40, co40, eo40⟩ := Kd.S_slice HO287.out; subst eo40; obtain ⟨Ao41, co41, eo41⟩ := Kd.R_slice HO290.out; subst eo41) | ((with_reducible refine gate_callee (f := 34) rfl ?_); refine goesL_ (some 22) rfl rfl Try.func34 kr rfl #[.agg #[.int .i64 t284, .slice Ao40 t285.length co40, .slice Ao41 t288.length co41, .int .i64 t291]] rfl lm ?_; (with_reducible refine (impl_FilledCourt.calls k t284 _ _ t285 _ _ t288 t291 t293 t294 t297 t300 _ ?side1 ?side2 ?side3 ?side4 A10.out).mono ?_); (case side1 => refine (Kd.S_reads' (e := 23) (base := w.heap.size) (ok := fun k_ => (((((some k_ ≠ (.slice Ao41 t288.length co41 : Value).ownBlock ∧ Nm35 ≤ k_) ∧ some k_ ≠ (.slice Ao24 t268.length co24 : Value).ownBlock) ∧ some k_ ≠ (.slice Ao25 t271.length co25 : Value).ownBlock) ∧ some k_ ≠ (.slice Ao31 t276.length co31 : Value).ownBlock) ∧ some k_ ≠ (.slice Ao32 t279.length co32 : Value).ownBlock)) (n := t285.length) (c := co40) ?_).2.2; exact (fS HO287 BK292)); (case side2 => exact (Kd.S_reads' HO287.out).2.1); (case side3 => refine (Kd.R_reads' (e := 3) (base := w.heap.size) (ok := fun k_ => ((True ∧ some k_ ≠ (.slice Ao25 t271.length co25 : Value).ownBlock) ∧ some k_ ≠ (.slice Ao32 t279.length co32 : Value).ownBlock)) (n := t288.length) (c := co41) ?_).2.2; exact (fR HO290 BK292)); (case side4 => exact (Kd.R_reads' HO290.out).2.1); rintro e w42 ⟨v295, v298, rfl, ho0, ho1, hb⟩; refine ⟨_, rfl, ?_⟩; obtain ⟨Nm43, hNm43⟩ := S_num ho0; have n0_ := Aside0.mk (S_ltN (Kd.S_told (Kd.S_told (Kd.S_old (fS HO270 BK292) hb) (Kd.S_base ho0)) (Kd.R_base ho1)) hNm43); have n1_ := Aside0.mk (Kd.R_elder' (fR HO273 BK292) (Kd.R_base ho1) hb); have n2_ := Aside0.mk (S_ltN (Kd.S_told (Kd.S_told (Kd.S_old (fS HO278 BK292) hb) (Kd.S_base ho0)) (Kd.R_base ho1)) hNm43); have n3_ := Aside0.mk (Kd.R_elder' (fR HO281 BK292) (Kd.R_base ho1) hb); have n4_ := Aside0.mk (S_ltN (Kd.S_told (Kd.S_told (Kd.S_old (fS HO287 BK292) hb) (Kd.S_base ho0)) (Kd.R_base ho1)) hNm43); have n5_ := Aside0.mk (Kd.R_elder' (fR HO290 BK292) (Kd.R_base ho1) hb); have n6_ := Aside0.mk (Kd.S_lower (Kd.S_new' (Kd.S_new' (Kd.S_new' (Kd.S_new' (Kd.S_new' (Kd.S_new' (S_geN ho0 hNm43) (Kd.S_lt (fS HO270 BK292))) (Kd.R_lt (fR HO273 BK292))) (Kd.S_lt (fS HO278 BK292))) (Kd.R_lt (fR HO281 BK292))) (Kd.S_lt (fS HO287 BK292))) (Kd.R_lt (fR HO290 BK292))) (below_size bh)); have n7_ := Aside0.mk (Kd.R_lower (Kd.R_new' (Kd.R_new' (Kd.R_new' ho1 (Kd.R_lt (fR HO273 BK292))) (Kd.R_lt (fR HO281 BK292))) (Kd.R_lt (fR HO290 BK292))) (below_size bh)); have n8_ := Aside0.mk (blk_below (g := gb265) (o := .cells #[.int .i64 a0_0, .slice A0_1 l0_1.length c0_1, .slice A0_2 l0_2.length c0_2, .int .i64 a0_3] 25 (0, 0)) (bf NB265_292 BK265) hb); have n9_ := Aside0.mk (blk_below (g := gb283) (o := .cells #[.int .i64 t275, .slice Ao31 t276.length co31, .slice Ao32 t279.length co32, .int .i64 t282] 28 (0, 0)) (bf NB283_292 BK283) hb); have n10_ := Aside0.mk (blk_below (g := gb292) (o := .cells #[.int .i64 t284, .slice Ao40 t285.length co40, .slice Ao41 t288.length co41, .int .i64 t291] 28 (0, 0)) (bp BK292) hb); have n11_ := Aside0.mk (below_step bh hb); clear HO270 HO273 HO278 HO281 HO287 HO290 BK265 BK283 BK292 HB; have HO270 := n0_; have HO273 := n1_; have HO278 := n2_; have HO281 := n3_; have HO287 := n4_; have HO290 := n5_; have HO296 := n6_; have HO299 := n7_; have BK265 := n8_; have BK283 := n9_; have BK292 := n10_; have HB := n11_; clear n0_ n1_ n2_ n3_ n4_ n5_ n6_ n7_ n8_ n9_ n10_ n11_; (try clear hb); (try clear hb2); (try clear hk); (try clear hi); (try clear ho0); (try clear ho1)) | ((with_reducible refine gate_dst (N := 6) rfl ?_); refine box_event ?hg (N := 6) ?hd (cs := #[.int .i64 0, .slice none 0 0, .slice none 0 0, .int .i64 0]) (t := 28) ?hr ?_; (case hd => rfl); (case hg => rfl); (case hr => first | (go_simp; done) | (go_simp; rfl)); intro gb301 hg w44 hbox hb; have n0_ := Aside0.mk (Kd.S_below (sz HO270) hb); have n1_ := Aside0.mk (Kd.R_below (rz HO273) hb); have n2_ := Aside0.mk (Kd.S_below (sz HO278) hb); have n3_ := Aside0.mk (Kd.R_below (rz HO281) hb); have n4_ := Aside0.mk (Kd.S_below (sz HO287) hb); have n5_ := Aside0.mk (Kd.R_below (rz HO290) hb); have n6_ := Aside0.mk (Kd.S_below (sz HO296) hb); have n7_ := Aside0.mk (Kd.R_below (rz HO299) hb); have n8_ := Aside0.mk (blk_below (bz BK265) hb); have n9_ := Aside0.mk (blk_below (bz BK283) hb); have n10_ := Aside0.mk (blk_below (bz BK292) hb); have n11_ := Aside0.mk (below_step bh hb); have n12_ := Aside0.mk (hbox); have n13_ := Aside0.mk ((gs (W0 := w) hg bh)); have n14_ := Aside0.mk ((gs (W0 := w) hg bh)); have n15_ := Aside0.mk ((gn hg (bz BK265))); have n16_ := Aside0.mk ((gm hg (bz BK265))); have n17_ := Aside0.mk ((gn hg (bz BK283))); have n18_ := Aside0.mk ((gm hg (bz BK283))); have n19_ := Aside0.mk ((gn hg (bz BK292))); have n20_ := Aside0.mk ((gm hg (bz BK292))); clear HO270 HO273 HO278 HO281 HO287 HO290 HO296 HO299 BK265 BK283 BK292 HB; have HO270 := n0_; have HO273 := n1_; have HO278 := n2_; have HO281 := n3_; have HO287 := n4_; have HO290 := n5_; have HO296 := n6_; have HO299 := n7_; have BK265 := n8_; have BK283 := n9_; have BK292 := n10_; have HB := n11_; have BK301 := n12_; have GW301 := n13_; have GE301 := n14_; have NB265_301 := n15_; have NB301_265 := n16_; have NB283_301 := n17_; have NB301_283 := n18_; have NB292_301 := n19_; have NB301_292 := n20_; clear n0_ n1_ n2_ n3_ n4_ n5_ n6_ n7_ n8_ n9_ n10_ n11_ n12_ n13_ n14_ n15_ n16_ n17_ n18_ n19_ n20_ hb hbox hg; have hnb45 := NB301_265.out; have hnc45 := NB265_301.out; have hnb46 := NB301_283.out; have hnc46 := NB283_301.out; have hnb47 := NB301_292.out; have hnc47 := NB292_301.out; have hcz48_0 := cz0 BK301; have hcz48_1 := cz1 BK301; have hcz48_2 := cz2 BK301; have hcz48_3 := cz3 BK301; have hfz48_0 := blk_frozen BK301.out 0; have hfz48_1 := blk_frozen BK301.out 1; have hfz48_2 := blk_frozen BK301.out 2; have hfz48_3 := blk_frozen BK301.out 3; obtain ⟨Ao49, co49, eo49⟩ := Kd.S_slice HO296.out; subst eo49; obtain ⟨Ao50, co50, eo50⟩ := Kd.R_slice HO299.out; subst eo50; have hcz51_0 := cz0 BK283; have hcz51_1 := cz1 BK283; have hcz51_2 := cz2 BK283; have hcz51_3 := cz3 BK283; have hfz51_0 := blk_frozen BK283.out 0; have hfz51_1 := blk_frozen BK283.out 1; have hfz51_2 := blk_frozen BK283.out 2; have hfz51_3 := blk_frozen BK283.out 3) | ((with_reducible refine gate_callee (f := 20) rfl ?_); refine goesL_ (some 25) rfl rfl Try.func20 kr rfl #[.agg #[.int .i64 t293, .slice Ao49 t294.length co49, .slice Ao50 t297.length co50, .int .i64 t300], .agg #[.int .i64 t275, .slice Ao31 t276.length co31, .slice Ao32 t279.length co32, .int .i64 t282]] rfl lm ?_; (with_reducible refine (laws_eqCourt.calls k t293 _ _ t294 _ _ t297 t300 t275 _ _ t276 _ _ t279 t282 true _ ?side1 ?side2 ?side3 ?side4 ?side5 ?side6 ?side7 ?side8 A11.out).mono ?_); (case side1 => refine (Kd.S_reads' (e := 23) (base := w.heap.size) (ok := fun k_ => (((((((some k_ ≠ (.slice Ao50 t297.length co50 : Value).ownBlock ∧ Nm43 ≤ k_) ∧ some k_ ≠ (.slice Ao24 t268.length co24 : Value).ownBlock) ∧ some k_ ≠ (.slice Ao25 t271.length co25 : Value).ownBlock) ∧ some k_ ≠ (.slice Ao31 t276.length co31 : Value).ownBlock) ∧ some k_ ≠ (.slice Ao32 t279.length co32 : Value).ownBlock) ∧ some k_ ≠ (.slice Ao40 t285.length co40 : Value).ownBlock) ∧ some k_ ≠ (.slice Ao41 t288.length co41 : Value).ownBlock)) (n := t294.length) (c := co49) ?_).2.2; exact (fS HO296 BK301)); (case side2 => exact (Kd.S_reads' HO296.out).2.1); (case side3 => refine (Kd.R_reads' (e := 3) (base := w.heap.size) (ok := fun k_ => (((True ∧ some k_ ≠ (.slice Ao25 t271.length co25 : Value).ownBlock) ∧ some k_ ≠ (.slice Ao32 t279.length co32 : Value).ownBlock) ∧ some k_ ≠ (.slice Ao41 t288.length co41 : Value).ownBlock)) (n := t297.length) (c := co50) ?_).2.2; exact (fR HO299 BK301)); (case side4 => exact (Kd.R_reads' HO299.out).2.1); (case side5 => refine (Kd.S_reads' (e := 23) (base := w.heap.size) (ok := fun k_ => (((((((((some k_ ≠ (.slice Ao32 t279.length co32 : Value).ownBlock ∧ Nm27 ≤ k_) ∧ some k_ ≠ (.slice Ao24 t268.length co24 : Value).ownBlock) ∧ some k_ ≠ (.slice Ao25 t271.length co25 : Value).ownBlock) ∧ some k_ ≠ (.slice Ao40 t285.length co40 : Value).ownBlock) ∧ some k_ ≠ (.slice Ao41 t288.length co41 : Value).ownBlock) ∧ k_ < Nm35) ∧ some k_ ≠ (.slice Ao49 t294.length co49 : Value).ownBlock) ∧ some k_ ≠ (.slice Ao50 t297.length co50 : Value).ownBlock) ∧ k_ < Nm43)) (n := t276.length) (c := co31) ?_).2.2; exact (fS HO278 BK301)); (case side6 => exact (Kd.S_reads' HO278.out).2.1); (case side7 => refine (Kd.R_reads' (e := 3) (base := w.heap.size) (ok := fun k_ => (((True ∧ some k_ ≠ (.slice Ao25 t271.length co25 : Value).ownBlock) ∧ some k_ ≠ (.slice Ao41 t288.length co41 : Value).ownBlock) ∧ some k_ ≠ (.slice Ao50 t297.length co50 : Value).ownBlock)) (n := t279.length) (c := co32) ?_).2.2; exact (fR HO281 BK301)); (case side8 => exact (Kd.R_reads' HO281.out).2.1); rintro e w52 ⟨rfl, hb⟩; refine ⟨_, rfl, ?_⟩; have n0_ := Aside0.mk (Kd.S_below (fS HO270 BK301) hb); have n1_ := Aside0.mk (Kd.R_below (fR HO273 BK301) hb); have n2_ := Aside0.mk (Kd.S_below (fS HO278 BK301) hb); have n3_ := Aside0.mk (Kd.R_below (fR HO281 BK301) hb); have n4_ := Aside0.mk (Kd.S_below (fS HO287 BK301) hb); have n5_ := Aside0.mk (Kd.R_below (fR HO290 BK301) hb); have n6_ := Aside0.mk (Kd.S_below (fS HO296 BK301) hb); have n7_ := Aside0.mk (Kd.R_below (fR HO299 BK301) hb); have n8_ := Aside0.mk (blk_below (g := gb265) (o := .cells #[.int .i64 a0_0, .slice A0_1 l0_1.length c0_1, .slice A0_2 l0_2.length c0_2, .int .i64 a0_3] 25 (0, 0)) (bf NB265_301 BK265) hb); have n9_ := Aside0.mk (blk_below (g := gb283) (o := .cells #[.int .i64 t275, .slice Ao31 t276.length co31, .slice Ao32 t279.length co32, .int .i64 t282] 28 (0, 0)) (bf NB283_301 BK283) hb); have n10_ := Aside0.mk (blk_below (g := gb292) (o := .cells #[.int .i64 t284, .slice Ao40 t285.length co40, .slice Ao41 t288.length co41, .int .i64 t291] 28 (0, 0)) (bf NB292_301 BK292) hb); have n11_ := Aside0.mk (blk_below (g := gb301) (o := .cells #[.int .i64 t293, .slice Ao49 t294.length co49, .slice Ao50 t297.length co50, .int .i64 t300] 28 (0, 0)) (bp BK301) hb); have n12_ := Aside0.mk (below_step bh hb); clear HO270 HO273 HO278 HO281 HO287 HO290 HO296 HO299 BK265 BK283 BK292 BK301 HB; have HO270 := n0_; have HO273 := n1_; have HO278 := n2_; have HO281 := n3_; have HO287 := n4_; have HO290 := n5_; have HO296 := n6_; have HO299 := n7_; have BK265 := n8_; have BK283 := n9_; have BK292 := n10_; have BK301 := n11_; have HB := n12_; clear n0_ n1_ n2_ n3_ n4_ n5_ n6_ n7_ n8_ n9_ n10_ n11_ n12_; (try clear hb); (try clear hb2); (try clear hk); (try clear hi)))
    have n0_ := Aside0.mk (Kd.S_drew HO270.out)
    have n1_ := Aside0.mk (Kd.R_drew HO273.out)
    have n2_ := Aside0.mk (Kd.S_drew HO278.out)
    have n3_ := Aside0.mk (Kd.R_drew HO281.out)
    have n4_ := Aside0.mk (Kd.S_drew HO287.out)
    have n5_ := Aside0.mk (Kd.R_drew HO290.out)
    have n6_ := Aside0.mk (Kd.S_drew HO296.out)
    have n7_ := Aside0.mk (Kd.R_drew HO299.out)
    have n8_ := Aside0.mk (blk_drew BK265.out)
    have n9_ := Aside0.mk (blk_drew BK283.out)
    have n10_ := Aside0.mk (blk_drew BK292.out)
    have n11_ := Aside0.mk (blk_drew BK301.out)
    have n12_ := Aside0.mk (below_drew1 HB.out)
    clear HO270 HO273 HO278 HO281 HO287 HO290 HO296 HO299 BK265 BK283 BK292 BK301 HB
    have HO270 := n0_
    have HO273 := n1_
    have HO278 := n2_
    have HO281 := n3_
    have HO287 := n4_
    have HO290 := n5_
    have HO296 := n6_
    have HO299 := n7_
    have BK265 := n8_
    have BK283 := n9_
    have BK292 := n10_
    have BK301 := n11_
    have HB := n12_
    clear n0_ n1_ n2_ n3_ n4_ n5_ n6_ n7_ n8_ n9_ n10_ n11_ n12_
    refine start_ (n := 5) (S := fun w' => w'.cell? ⟨gb292, 0, none⟩ = some (.int .i64 t284) ∧ w'.cell? ⟨gb292, 1, none⟩ = some (.slice Ao40 t285.length co40) ∧ w'.cell? ⟨gb292, 2, none⟩ = some (.slice Ao41 t288.length co41) ∧ w'.cell? ⟨gb292, 3, none⟩ = some (.int .i64 t291) ∧ w'.cell? ⟨gb265, 0, none⟩ = some (.int .i64 a0_0) ∧ w'.cell? ⟨gb265, 1, none⟩ = some (.slice A0_1 l0_1.length c0_1) ∧ w'.cell? ⟨gb265, 2, none⟩ = some (.slice A0_2 l0_2.length c0_2) ∧ w'.cell? ⟨gb265, 3, none⟩ = some (.int .i64 a0_3)) (ds := []) #[F,F,F,F,F] kr rfl rfl ⟨cz0 BK292, cz1 BK292, cz2 BK292, cz3 BK292, cz0 BK265, cz1 BK265, cz2 BK265, cz3 BK265⟩ (fun hHeld => ?_)
    generalize w52.drew = w53 at HO270 HO273 HO278 HO281 HO287 HO290 HO296 HO299 BK265 BK283 BK292 BK301 HB hHeld ⊢
    refine tk8 0 (some 27) #[T,F,F,F,F] kr ?_
    refine tk8 1 (some 28) #[T,T,F,F,F] kr ?_
    refine one_ (i := 2) (N := some 29) #[T,T,T,F,F] rfl rfl kr (by decide) (fun K hK => ?_)
    refine goes_ Try.func18 kr rfl #[.agg #[.int .i64 a0_0, .slice A0_1 l0_1.length c0_1, .slice A0_2 l0_2.length c0_2, .int .i64 a0_3]] (by rfl) rfl rfl lm ?_
    with_reducible refine (laws_toCourt.calls k a0_0 _ _ l0_1 _ _ l0_2 a0_3 t303 t304 t307 t310 _ ?side1 ?side2 ?side3 ?side4 A13.out).mono ?_
    (case side1 => repeat (first | exact (Kd.C_below HR0_1.out HB.out) | (with_reducible refine Kd.C_alloc ?_ _) | (with_reducible refine Kd.C_drewN ?_ _) | (with_reducible refine Kd.C_drew ?_)))
    (case side2 => exact HC0_1.out)
    (case side3 => repeat (first | exact (Kd.C_below HR0_2.out HB.out) | (with_reducible refine Kd.C_alloc ?_ _) | (with_reducible refine Kd.C_drewN ?_ _) | (with_reducible refine Kd.C_drew ?_)))
    (case side4 => exact HC0_2.out)
    rintro e w54 ⟨v305, v308, rfl, ho0, ho1, hb⟩
    refine ⟨_, rfl, ?_⟩
    obtain ⟨Nm55, hNm55⟩ := S_num ho0
    have n0_ := Aside0.mk (S_ltN (Kd.S_told (Kd.S_told (Kd.S_old (sz HO270) hb) (Kd.S_base ho0)) (Kd.R_base ho1)) hNm55)
    have n1_ := Aside0.mk (Kd.R_elder' (rz HO273) (Kd.R_base ho1) hb)
    have n2_ := Aside0.mk (S_ltN (Kd.S_told (Kd.S_told (Kd.S_old (sz HO278) hb) (Kd.S_base ho0)) (Kd.R_base ho1)) hNm55)
    have n3_ := Aside0.mk (Kd.R_elder' (rz HO281) (Kd.R_base ho1) hb)
    have n4_ := Aside0.mk (S_ltN (Kd.S_told (Kd.S_told (Kd.S_old (sz HO287) hb) (Kd.S_base ho0)) (Kd.R_base ho1)) hNm55)
    have n5_ := Aside0.mk (Kd.R_elder' (rz HO290) (Kd.R_base ho1) hb)
    have n6_ := Aside0.mk (S_ltN (Kd.S_told (Kd.S_told (Kd.S_old (sz HO296) hb) (Kd.S_base ho0)) (Kd.R_base ho1)) hNm55)
    have n7_ := Aside0.mk (Kd.R_elder' (rz HO299) (Kd.R_base ho1) hb)
    have n8_ := Aside0.mk (Kd.S_lower (Kd.S_new' (Kd.S_new' (Kd.S_new' (Kd.S_new' (Kd.S_new' (Kd.S_new' (Kd.S_new' (Kd.S_new' (S_geN ho0 hNm55) (Kd.S_lt (sz HO270))) (Kd.R_lt (rz HO273))) (Kd.S_lt (sz HO278))) (Kd.R_lt (rz HO281))) (Kd.S_lt (sz HO287))) (Kd.R_lt (rz HO290))) (Kd.S_lt (sz HO296))) (Kd.R_lt (rz HO299))) (below_size bh))
    have n9_ := Aside0.mk (Kd.R_lower (Kd.R_new' (Kd.R_new' (Kd.R_new' (Kd.R_new' ho1 (Kd.R_lt (rz HO273))) (Kd.R_lt (rz HO281))) (Kd.R_lt (rz HO290))) (Kd.R_lt (rz HO299))) (below_size bh))
    have n10_ := Aside0.mk (blk_below (bz BK265) hb)
    have n11_ := Aside0.mk (blk_below (bz BK283) hb)
    have n12_ := Aside0.mk (blk_below (bz BK292) hb)
    have n13_ := Aside0.mk (blk_below (bz BK301) hb)
    have n14_ := Aside0.mk (below_step bh hb)
    clear HO270 HO273 HO278 HO281 HO287 HO290 HO296 HO299 BK265 BK283 BK292 BK301 HB
    have HO270 := n0_
    have HO273 := n1_
    have HO278 := n2_
    have HO281 := n3_
    have HO287 := n4_
    have HO290 := n5_
    have HO296 := n6_
    have HO299 := n7_
    have HO306 := n8_
    have HO309 := n9_
    have BK265 := n10_
    have BK283 := n11_
    have BK292 := n12_
    have BK301 := n13_
    have HB := n14_
    clear n0_ n1_ n2_ n3_ n4_ n5_ n6_ n7_ n8_ n9_ n10_ n11_ n12_ n13_ n14_
    (try clear hb)
    (try clear hb2)
    (try clear hk)
    (try clear hi)
    (try clear ho0)
    (try clear ho1)
    obtain ⟨Ao56, co56, eo56⟩ := Kd.S_slice HO306.out
    (first | subst eo56 | (injection eo56 with f1_ f2_ f3_; have f4_ := f1_.symm; have f5_ := f3_.symm; clear f1_ f2_ f3_; subst f4_; subst f5_))
    obtain ⟨Ao57, co57, eo57⟩ := Kd.R_slice HO309.out
    (first | subst eo57 | (injection eo57 with f1_ f2_ f3_; have f4_ := f1_.symm; have f5_ := f3_.symm; clear f1_ f2_ f3_; subst f4_; subst f5_))
    refine hK.out _ _ ⟨cz0 BK292, cz1 BK292, cz2 BK292, cz3 BK292, cz0 BK265, cz1 BK265, cz2 BK265, cz3 BK265⟩ (fun hHeld => ?_)
    clear hK K
    refine norm_ (a' := ?_) ?_ ?_
    rotate_left
    ·show Act.put _ (some 29) _ = _
     simp only [Act.put, List.setIfInBounds_toArray, List.set_cons_zero, List.set_cons_succ, i64_w, i32_w]
     rfl
    refine one_ (i := 3) (N := some 30) #[T,T,T,T,F] rfl rfl kr (by decide) (fun K hK => ?_)
    refine goes_ Try.func20 kr rfl #[.agg #[.int .i64 t284, .slice Ao40 t285.length co40, .slice Ao41 t288.length co41, .int .i64 t291], .agg #[.int .i64 t303, .slice Ao56 t304.length co56, .slice Ao57 t307.length co57, .int .i64 t310]] (by rfl) rfl rfl lm ?_
    with_reducible refine (laws_eqCourt.calls k t284 _ _ t285 _ _ t288 t291 t303 _ _ t304 _ _ t307 t310 true _ ?side1 ?side2 ?side3 ?side4 ?side5 ?side6 ?side7 ?side8 A14.out).mono ?_
    (case side1 => repeat (first | exact (Kd.S_reads' HO287.out).2.2 | (with_reducible refine Kd.C_alloc ?_ _) | (with_reducible refine Kd.C_drewN ?_ _) | (with_reducible refine Kd.C_drew ?_)))
    (case side2 => exact (Kd.S_reads' HO287.out).2.1)
    (case side3 => repeat (first | exact (Kd.R_reads' HO290.out).2.2 | (with_reducible refine Kd.C_alloc ?_ _) | (with_reducible refine Kd.C_drewN ?_ _) | (with_reducible refine Kd.C_drew ?_)))
    (case side4 => exact (Kd.R_reads' HO290.out).2.1)
    (case side5 => repeat (first | exact (Kd.S_reads' HO306.out).2.2 | (with_reducible refine Kd.C_alloc ?_ _) | (with_reducible refine Kd.C_drewN ?_ _) | (with_reducible refine Kd.C_drew ?_)))
    (case side6 => exact (Kd.S_reads' HO306.out).2.1)
    (case side7 => repeat (first | exact (Kd.R_reads' HO309.out).2.2 | (with_reducible refine Kd.C_alloc ?_ _) | (with_reducible refine Kd.C_drewN ?_ _) | (with_reducible refine Kd.C_drew ?_)))
    (case side8 => exact (Kd.R_reads' HO309.out).2.1)
    rintro e w58 ⟨rfl, hb⟩
    refine ⟨_, rfl, ?_⟩
    have n0_ := Aside0.mk (Kd.S_below (sz HO270) hb)
    have n1_ := Aside0.mk (Kd.R_below (rz HO273) hb)
    have n2_ := Aside0.mk (Kd.S_below (sz HO278) hb)
    have n3_ := Aside0.mk (Kd.R_below (rz HO281) hb)
    have n4_ := Aside0.mk (Kd.S_below (sz HO287) hb)
    have n5_ := Aside0.mk (Kd.R_below (rz HO290) hb)
    have n6_ := Aside0.mk (Kd.S_below (sz HO296) hb)
    have n7_ := Aside0.mk (Kd.R_below (rz HO299) hb)
    have n8_ := Aside0.mk (Kd.S_below (sz HO306) hb)
    have n9_ := Aside0.mk (Kd.R_below (rz HO309) hb)
    have n10_ := Aside0.mk (blk_below (bz BK265) hb)
    have n11_ := Aside0.mk (blk_below (bz BK283) hb)
    have n12_ := Aside0.mk (blk_below (bz BK292) hb)
    have n13_ := Aside0.mk (blk_below (bz BK301) hb)
    have n14_ := Aside0.mk (below_step bh hb)
    clear HO270 HO273 HO278 HO281 HO287 HO290 HO296 HO299 HO306 HO309 BK265 BK283 BK292 BK301 HB
    have HO270 := n0_
    have HO273 := n1_
    have HO278 := n2_
    have HO281 := n3_
    have HO287 := n4_
    have HO290 := n5_
    have HO296 := n6_
    have HO299 := n7_
    have HO306 := n8_
    have HO309 := n9_
    have BK265 := n10_
    have BK283 := n11_
    have BK292 := n12_
    have BK301 := n13_
    have HB := n14_
    clear n0_ n1_ n2_ n3_ n4_ n5_ n6_ n7_ n8_ n9_ n10_ n11_ n12_ n13_ n14_
    (try clear hb)
    (try clear hb2)
    (try clear hk)
    (try clear hi)
    refine hK.out _ _ ⟨cz0 BK292, cz1 BK292, cz2 BK292, cz3 BK292, cz0 BK265, cz1 BK265, cz2 BK265, cz3 BK265⟩ (fun hHeld => ?_)
    clear hK K
    refine norm_ (a' := ?_) ?_ ?_
    rotate_left
    ·show Act.put _ (some 30) _ = _
     simp only [Act.put, List.setIfInBounds_toArray, List.set_cons_zero, List.set_cons_succ, i64_w, i32_w]
     rfl
    refine pu 4 (some 31) #[T,T,T,T,T] kr ?_
    refine done_ kr ?_
    have hcz59_0 := cz0 BK292
    have hcz59_1 := cz1 BK292
    have hcz59_2 := cz2 BK292
    have hcz59_3 := cz3 BK292
    have hfz59_0 := blk_frozen BK292.out 0
    have hfz59_1 := blk_frozen BK292.out 1
    have hfz59_2 := blk_frozen BK292.out 2
    have hfz59_3 := blk_frozen BK292.out 3
    have n_ := Aside0.mk (Kd.S_mono (ok' := (fun k_ => some k_ ≠ (.slice Ao25 t271.length co25 : Value).ownBlock ∧ some k_ ≠ (.slice Ao31 t276.length co31 : Value).ownBlock ∧ some k_ ≠ (.slice Ao32 t279.length co32 : Value).ownBlock ∧ some k_ ≠ (.slice Ao40 t285.length co40 : Value).ownBlock ∧ some k_ ≠ (.slice Ao41 t288.length co41 : Value).ownBlock ∧ some k_ ≠ (.slice Ao49 t294.length co49 : Value).ownBlock ∧ some k_ ≠ (.slice Ao50 t297.length co50 : Value).ownBlock ∧ some k_ ≠ (.slice Ao56 t304.length co56 : Value).ownBlock ∧ some k_ ≠ (.slice Ao57 t307.length co57 : Value).ownBlock ∧ Nm23 ≤ k_ ∧ k_ < Nm27 ∧ k_ < Nm35 ∧ k_ < Nm43 ∧ k_ < Nm55)) HO270.out (by (intro k_; (try simp only [and_imp, and_assoc, true_and]); intros; repeat' (first | assumption | exact trivial | apply And.intro))))
    clear HO270
    have HO270 := n_
    clear n_
    have n_ := Aside0.mk (Kd.R_mono (ok' := (fun k_ => some k_ ≠ (.slice Ao32 t279.length co32 : Value).ownBlock ∧ some k_ ≠ (.slice Ao41 t288.length co41 : Value).ownBlock ∧ some k_ ≠ (.slice Ao50 t297.length co50 : Value).ownBlock ∧ some k_ ≠ (.slice Ao57 t307.length co57 : Value).ownBlock)) HO273.out (by (intro k_; (try simp only [and_imp, and_assoc, true_and]); intros; repeat' (first | assumption | exact trivial | apply And.intro))))
    clear HO273
    have HO273 := n_
    clear n_
    have n_ := Aside0.mk (Kd.S_mono (ok' := (fun k_ => some k_ ≠ (.slice Ao24 t268.length co24 : Value).ownBlock ∧ some k_ ≠ (.slice Ao25 t271.length co25 : Value).ownBlock ∧ some k_ ≠ (.slice Ao32 t279.length co32 : Value).ownBlock ∧ some k_ ≠ (.slice Ao40 t285.length co40 : Value).ownBlock ∧ some k_ ≠ (.slice Ao41 t288.length co41 : Value).ownBlock ∧ some k_ ≠ (.slice Ao49 t294.length co49 : Value).ownBlock ∧ some k_ ≠ (.slice Ao50 t297.length co50 : Value).ownBlock ∧ some k_ ≠ (.slice Ao56 t304.length co56 : Value).ownBlock ∧ some k_ ≠ (.slice Ao57 t307.length co57 : Value).ownBlock ∧ Nm27 ≤ k_ ∧ k_ < Nm35 ∧ k_ < Nm43 ∧ k_ < Nm55)) HO278.out (by (intro k_; (try simp only [and_imp, and_assoc, true_and]); intros; repeat' (first | assumption | exact trivial | apply And.intro))))
    clear HO278
    have HO278 := n_
    clear n_
    have n_ := Aside0.mk (Kd.R_mono (ok' := (fun k_ => some k_ ≠ (.slice Ao25 t271.length co25 : Value).ownBlock ∧ some k_ ≠ (.slice Ao41 t288.length co41 : Value).ownBlock ∧ some k_ ≠ (.slice Ao50 t297.length co50 : Value).ownBlock ∧ some k_ ≠ (.slice Ao57 t307.length co57 : Value).ownBlock)) HO281.out (by (intro k_; (try simp only [and_imp, and_assoc, true_and]); intros; repeat' (first | assumption | exact trivial | apply And.intro))))
    clear HO281
    have HO281 := n_
    clear n_
    have n_ := Aside0.mk (Kd.S_mono (ok' := (fun k_ => some k_ ≠ (.slice Ao24 t268.length co24 : Value).ownBlock ∧ some k_ ≠ (.slice Ao25 t271.length co25 : Value).ownBlock ∧ some k_ ≠ (.slice Ao31 t276.length co31 : Value).ownBlock ∧ some k_ ≠ (.slice Ao32 t279.length co32 : Value).ownBlock ∧ some k_ ≠ (.slice Ao41 t288.length co41 : Value).ownBlock ∧ some k_ ≠ (.slice Ao49 t294.length co49 : Value).ownBlock ∧ some k_ ≠ (.slice Ao50 t297.length co50 : Value).ownBlock ∧ some k_ ≠ (.slice Ao56 t304.length co56 : Value).ownBlock ∧ some k_ ≠ (.slice Ao57 t307.length co57 : Value).ownBlock ∧ Nm35 ≤ k_ ∧ k_ < Nm43 ∧ k_ < Nm55)) HO287.out (by (intro k_; (try simp only [and_imp, and_assoc, true_and]); intros; repeat' (first | assumption | exact trivial | apply And.intro))))
    clear HO287
    have HO287 := n_
    clear n_
    have n_ := Aside0.mk (Kd.R_mono (ok' := (fun k_ => some k_ ≠ (.slice Ao25 t271.length co25 : Value).ownBlock ∧ some k_ ≠ (.slice Ao32 t279.length co32 : Value).ownBlock ∧ some k_ ≠ (.slice Ao50 t297.length co50 : Value).ownBlock ∧ some k_ ≠ (.slice Ao57 t307.length co57 : Value).ownBlock)) HO290.out (by (intro k_; (try simp only [and_imp, and_assoc, true_and]); intros; repeat' (first | assumption | exact trivial | apply And.intro))))
    clear HO290
    have HO290 := n_
    clear n_
    have n_ := Aside0.mk (Kd.S_mono (ok' := (fun k_ => some k_ ≠ (.slice Ao24 t268.length co24 : Value).ownBlock ∧ some k_ ≠ (.slice Ao25 t271.length co25 : Value).ownBlock ∧ some k_ ≠ (.slice Ao31 t276.length co31 : Value).ownBlock ∧ some k_ ≠ (.slice Ao32 t279.length co32 : Value).ownBlock ∧ some k_ ≠ (.slice Ao40 t285.length co40 : Value).ownBlock ∧ some k_ ≠ (.slice Ao41 t288.length co41 : Value).ownBlock ∧ some k_ ≠ (.slice Ao50 t297.length co50 : Value).ownBlock ∧ some k_ ≠ (.slice Ao56 t304.length co56 : Value).ownBlock ∧ some k_ ≠ (.slice Ao57 t307.length co57 : Value).ownBlock ∧ Nm43 ≤ k_ ∧ k_ < Nm55)) HO296.out (by (intro k_; (try simp only [and_imp, and_assoc, true_and]); intros; repeat' (first | assumption | exact trivial | apply And.intro))))
    clear HO296
    have HO296 := n_
    clear n_
    have n_ := Aside0.mk (Kd.R_mono (ok' := (fun k_ => some k_ ≠ (.slice Ao25 t271.length co25 : Value).ownBlock ∧ some k_ ≠ (.slice Ao32 t279.length co32 : Value).ownBlock ∧ some k_ ≠ (.slice Ao41 t288.length co41 : Value).ownBlock ∧ some k_ ≠ (.slice Ao57 t307.length co57 : Value).ownBlock)) HO299.out (by (intro k_; (try simp only [and_imp, and_assoc, true_and]); intros; repeat' (first | assumption | exact trivial | apply And.intro))))
    clear HO299
    have HO299 := n_
    clear n_
    have n_ := Aside0.mk (Kd.S_mono (ok' := (fun k_ => some k_ ≠ (.slice Ao24 t268.length co24 : Value).ownBlock ∧ some k_ ≠ (.slice Ao25 t271.length co25 : Value).ownBlock ∧ some k_ ≠ (.slice Ao31 t276.length co31 : Value).ownBlock ∧ some k_ ≠ (.slice Ao32 t279.length co32 : Value).ownBlock ∧ some k_ ≠ (.slice Ao40 t285.length co40 : Value).ownBlock ∧ some k_ ≠ (.slice Ao41 t288.length co41 : Value).ownBlock ∧ some k_ ≠ (.slice Ao49 t294.length co49 : Value).ownBlock ∧ some k_ ≠ (.slice Ao50 t297.length co50 : Value).ownBlock ∧ some k_ ≠ (.slice Ao57 t307.length co57 : Value).ownBlock ∧ Nm55 ≤ k_)) HO306.out (by (intro k_; (try simp only [and_imp, and_assoc, true_and]); intros; repeat' (first | assumption | exact trivial | apply And.intro))))
    clear HO306
    have HO306 := n_
    clear n_
    have n_ := Aside0.mk (Kd.R_mono (ok' := (fun k_ => some k_ ≠ (.slice Ao25 t271.length co25 : Value).ownBlock ∧ some k_ ≠ (.slice Ao32 t279.length co32 : Value).ownBlock ∧ some k_ ≠ (.slice Ao41 t288.length co41 : Value).ownBlock ∧ some k_ ≠ (.slice Ao50 t297.length co50 : Value).ownBlock)) HO309.out (by (intro k_; (try simp only [and_imp, and_assoc, true_and]); intros; repeat' (first | assumption | exact trivial | apply And.intro))))
    clear HO309
    have HO309 := n_
    clear n_
    go_upto_region 14 with (first | ((with_reducible refine gate_callee (f := 28) rfl ?_); refine goesL_ (some 34) rfl rfl Try.func28 kr rfl #[.agg #[.int .i64 t284, .slice Ao40 t285.length co40, .slice Ao41 t288.length co41, .int .i64 t291], .int .i64 1] rfl lm ?_; (with_reducible refine (laws_markCourt.calls k t284 (fun k_ => ((some k_ ≠ (.slice Ao24 t268.length co24 : Value).ownBlock ∧ (some k_ ≠ (.slice Ao25 t271.length co25 : Value).ownBlock ∧ (some k_ ≠ (.slice Ao31 t276.length co31 : Value).ownBlock ∧ (some k_ ≠ (.slice Ao32 t279.length co32 : Value).ownBlock ∧ (some k_ ≠ (.slice Ao41 t288.length co41 : Value).ownBlock ∧ (some k_ ≠ (.slice Ao49 t294.length co49 : Value).ownBlock ∧ (some k_ ≠ (.slice Ao50 t297.length co50 : Value).ownBlock ∧ (some k_ ≠ (.slice Ao56 t304.length co56 : Value).ownBlock ∧ (some k_ ≠ (.slice Ao57 t307.length co57 : Value).ownBlock ∧ (Nm35 ≤ k_ ∧ (k_ < Nm43 ∧ k_ < Nm55)))))))))))) ∧ k_ ≠ gb265 ∧ k_ ≠ gb283 ∧ k_ ≠ gb292 ∧ k_ ≠ gb301) (.slice Ao40 t285.length co40) t285 (fun k_ => some k_ = (.slice Ao41 t288.length co41 : Value).ownBlock) (.slice Ao41 t288.length co41) t288 t291 1 t312 t313 t314 w _ ?side1 ?side2 ?side3 ?side4 A16.out).mono ?_); (case side1 => repeat (first | (with_reducible first | exact HB.out | apply below_alloc | apply pw_below_drewN | apply below_drew1 | refine below_set ?_ GE265.out | refine below_set ?_ GE283.out | refine below_set ?_ GE292.out | refine below_set ?_ GE301.out) | exact HB.out)); (case side2 => exact Kd.S_mono ((Kd.S_types (Kd.S_types (Kd.S_types (Kd.S_types HO287.out (bz BK265) (by decide)) (bz BK283) (by decide)) (bz BK292) (by decide)) (bz BK301) (by decide))) (by (intro k_; (try simp only [and_imp, and_assoc]); intros; repeat' (first | assumption | exact trivial | apply And.intro)))); (case side3 => exact fun k_ hp_ e_ => (hp_.1.2.2.2.2.1) e_); (case side4 => exact Kd.R_tight rfl HO290.out); rintro e w60 ⟨rfl, hy0, hy1, hb, hkp⟩; refine ⟨_, rfl, ?_⟩; have n0_ := Aside0.mk (blk_kept (bz BK265) hkp (fun hs_ => Or.elim hs_ (fun e_ => (fun e_ => (e_.2.1) rfl) e_) (fun e_ => (fun e_ => (Kd.R_ne HO290.out BK265.out (by decide)) e_) e_))); have n1_ := Aside0.mk (Kd.S_mono (ok' := fun k_ => some k_ ≠ (.slice Ao25 t271.length co25 : Value).ownBlock ∧ some k_ ≠ (.slice Ao31 t276.length co31 : Value).ownBlock ∧ some k_ ≠ (.slice Ao32 t279.length co32 : Value).ownBlock ∧ some k_ ≠ (.slice Ao40 t285.length co40 : Value).ownBlock ∧ some k_ ≠ (.slice Ao41 t288.length co41 : Value).ownBlock ∧ some k_ ≠ (.slice Ao49 t294.length co49 : Value).ownBlock ∧ some k_ ≠ (.slice Ao50 t297.length co50 : Value).ownBlock ∧ some k_ ≠ (.slice Ao56 t304.length co56 : Value).ownBlock ∧ some k_ ≠ (.slice Ao57 t307.length co57 : Value).ownBlock ∧ Nm23 ≤ k_ ∧ k_ < Nm27 ∧ k_ < Nm35 ∧ k_ < Nm43 ∧ k_ < Nm55) (Kd.S_keptB ((Kd.S_mono (ok' := fun k_ => (some k_ ≠ (.slice Ao25 t271.length co25 : Value).ownBlock ∧ (some k_ ≠ (.slice Ao31 t276.length co31 : Value).ownBlock ∧ (some k_ ≠ (.slice Ao32 t279.length co32 : Value).ownBlock ∧ (some k_ ≠ (.slice Ao40 t285.length co40 : Value).ownBlock ∧ (some k_ ≠ (.slice Ao41 t288.length co41 : Value).ownBlock ∧ (some k_ ≠ (.slice Ao49 t294.length co49 : Value).ownBlock ∧ (some k_ ≠ (.slice Ao50 t297.length co50 : Value).ownBlock ∧ (some k_ ≠ (.slice Ao56 t304.length co56 : Value).ownBlock ∧ (some k_ ≠ (.slice Ao57 t307.length co57 : Value).ownBlock ∧ (Nm23 ≤ k_ ∧ (k_ < Nm27 ∧ (k_ < Nm35 ∧ (k_ < Nm43 ∧ k_ < Nm55))))))))))))) ∧ ¬ (fun k_ => ((some k_ ≠ (.slice Ao24 t268.length co24 : Value).ownBlock ∧ (some k_ ≠ (.slice Ao25 t271.length co25 : Value).ownBlock ∧ (some k_ ≠ (.slice Ao31 t276.length co31 : Value).ownBlock ∧ (some k_ ≠ (.slice Ao32 t279.length co32 : Value).ownBlock ∧ (some k_ ≠ (.slice Ao41 t288.length co41 : Value).ownBlock ∧ (some k_ ≠ (.slice Ao49 t294.length co49 : Value).ownBlock ∧ (some k_ ≠ (.slice Ao50 t297.length co50 : Value).ownBlock ∧ (some k_ ≠ (.slice Ao56 t304.length co56 : Value).ownBlock ∧ (some k_ ≠ (.slice Ao57 t307.length co57 : Value).ownBlock ∧ (Nm35 ≤ k_ ∧ (k_ < Nm43 ∧ k_ < Nm55)))))))))))) ∧ k_ ≠ gb265 ∧ k_ ≠ gb283 ∧ k_ ≠ gb292 ∧ k_ ≠ gb301) k_) HO270.out (fun k_ hk => ⟨hk, fun hp_ => Nat.not_le.2 (hk.2.2.2.2.2.2.2.2.2.2.2.1) (hp_.1.2.2.2.2.2.2.2.2.2.1)⟩))) hkp (fun k_ hk_ hs_ => Or.elim hs_ (fun e_ => (hk_.2) e_) (fun e_ => (hk_.1.2.2.2.2.1) e_))) (fun k_ hk_ => ⟨hk_.1.1.1, hk_.1.1.2.1, hk_.1.1.2.2.1, hk_.1.1.2.2.2.1, hk_.1.1.2.2.2.2.1, hk_.1.1.2.2.2.2.2.1, hk_.1.1.2.2.2.2.2.2.1, hk_.1.1.2.2.2.2.2.2.2.1, hk_.1.1.2.2.2.2.2.2.2.2.1, hk_.1.1.2.2.2.2.2.2.2.2.2.1, hk_.1.1.2.2.2.2.2.2.2.2.2.2.1, hk_.1.1.2.2.2.2.2.2.2.2.2.2.2.1, hk_.1.1.2.2.2.2.2.2.2.2.2.2.2.2.1, hk_.1.1.2.2.2.2.2.2.2.2.2.2.2.2.2⟩)); have n2_ := Aside0.mk (Kd.R_mono (ok' := fun k_ => some k_ ≠ (.slice Ao32 t279.length co32 : Value).ownBlock ∧ some k_ ≠ (.slice Ao41 t288.length co41 : Value).ownBlock ∧ some k_ ≠ (.slice Ao50 t297.length co50 : Value).ownBlock ∧ some k_ ≠ (.slice Ao57 t307.length co57 : Value).ownBlock) (Kd.R_keptB ((Kd.R_mono (ok' := fun k_ => (some k_ ≠ (.slice Ao32 t279.length co32 : Value).ownBlock ∧ (some k_ ≠ (.slice Ao41 t288.length co41 : Value).ownBlock ∧ (some k_ ≠ (.slice Ao50 t297.length co50 : Value).ownBlock ∧ some k_ ≠ (.slice Ao57 t307.length co57 : Value).ownBlock))) ∧ ¬ (fun k_ => ((some k_ ≠ (.slice Ao24 t268.length co24 : Value).ownBlock ∧ (some k_ ≠ (.slice Ao25 t271.length co25 : Value).ownBlock ∧ (some k_ ≠ (.slice Ao31 t276.length co31 : Value).ownBlock ∧ (some k_ ≠ (.slice Ao32 t279.length co32 : Value).ownBlock ∧ (some k_ ≠ (.slice Ao41 t288.length co41 : Value).ownBlock ∧ (some k_ ≠ (.slice Ao49 t294.length co49 : Value).ownBlock ∧ (some k_ ≠ (.slice Ao50 t297.length co50 : Value).ownBlock ∧ (some k_ ≠ (.slice Ao56 t304.length co56 : Value).ownBlock ∧ (some k_ ≠ (.slice Ao57 t307.length co57 : Value).ownBlock ∧ (Nm35 ≤ k_ ∧ (k_ < Nm43 ∧ k_ < Nm55)))))))))))) ∧ k_ ≠ gb265 ∧ k_ ≠ gb283 ∧ k_ ≠ gb292 ∧ k_ ≠ gb301) k_) (Kd.R_tight2 rfl HO273.out) (fun k_ hk => ⟨hk.2, fun hp_ => (hp_.1.2.1) hk.1⟩))) hkp (fun k_ hk_ hs_ => Or.elim hs_ (fun e_ => (hk_.2) e_) (fun e_ => (hk_.1.2.1) e_))) (fun k_ hk_ => ⟨hk_.1.1.1, hk_.1.1.2.1, hk_.1.1.2.2.1, hk_.1.1.2.2.2⟩)); have n3_ := Aside0.mk (Kd.S_mono (ok' := fun k_ => some k_ ≠ (.slice Ao24 t268.length co24 : Value).ownBlock ∧ some k_ ≠ (.slice Ao25 t271.length co25 : Value).ownBlock ∧ some k_ ≠ (.slice Ao32 t279.length co32 : Value).ownBlock ∧ some k_ ≠ (.slice Ao40 t285.length co40 : Value).ownBlock ∧ some k_ ≠ (.slice Ao41 t288.length co41 : Value).ownBlock ∧ some k_ ≠ (.slice Ao49 t294.length co49 : Value).ownBlock ∧ some k_ ≠ (.slice Ao50 t297.length co50 : Value).ownBlock ∧ some k_ ≠ (.slice Ao56 t304.length co56 : Value).ownBlock ∧ some k_ ≠ (.slice Ao57 t307.length co57 : Value).ownBlock ∧ Nm27 ≤ k_ ∧ k_ < Nm35 ∧ k_ < Nm43 ∧ k_ < Nm55) (Kd.S_keptB ((Kd.S_mono (ok' := fun k_ => (some k_ ≠ (.slice Ao24 t268.length co24 : Value).ownBlock ∧ (some k_ ≠ (.slice Ao25 t271.length co25 : Value).ownBlock ∧ (some k_ ≠ (.slice Ao32 t279.length co32 : Value).ownBlock ∧ (some k_ ≠ (.slice Ao40 t285.length co40 : Value).ownBlock ∧ (some k_ ≠ (.slice Ao41 t288.length co41 : Value).ownBlock ∧ (some k_ ≠ (.slice Ao49 t294.length co49 : Value).ownBlock ∧ (some k_ ≠ (.slice Ao50 t297.length co50 : Value).ownBlock ∧ (some k_ ≠ (.slice Ao56 t304.length co56 : Value).ownBlock ∧ (some k_ ≠ (.slice Ao57 t307.length co57 : Value).ownBlock ∧ (Nm27 ≤ k_ ∧ (k_ < Nm35 ∧ (k_ < Nm43 ∧ k_ < Nm55)))))))))))) ∧ ¬ (fun k_ => ((some k_ ≠ (.slice Ao24 t268.length co24 : Value).ownBlock ∧ (some k_ ≠ (.slice Ao25 t271.length co25 : Value).ownBlock ∧ (some k_ ≠ (.slice Ao31 t276.length co31 : Value).ownBlock ∧ (some k_ ≠ (.slice Ao32 t279.length co32 : Value).ownBlock ∧ (some k_ ≠ (.slice Ao41 t288.length co41 : Value).ownBlock ∧ (some k_ ≠ (.slice Ao49 t294.length co49 : Value).ownBlock ∧ (some k_ ≠ (.slice Ao50 t297.length co50 : Value).ownBlock ∧ (some k_ ≠ (.slice Ao56 t304.length co56 : Value).ownBlock ∧ (some k_ ≠ (.slice Ao57 t307.length co57 : Value).ownBlock ∧ (Nm35 ≤ k_ ∧ (k_ < Nm43 ∧ k_ < Nm55)))))))))))) ∧ k_ ≠ gb265 ∧ k_ ≠ gb283 ∧ k_ ≠ gb292 ∧ k_ ≠ gb301) k_) HO278.out (fun k_ hk => ⟨hk, fun hp_ => Nat.not_le.2 (hk.2.2.2.2.2.2.2.2.2.2.1) (hp_.1.2.2.2.2.2.2.2.2.2.1)⟩))) hkp (fun k_ hk_ hs_ => Or.elim hs_ (fun e_ => (hk_.2) e_) (fun e_ => (hk_.1.2.2.2.2.1) e_))) (fun k_ hk_ => ⟨hk_.1.1.1, hk_.1.1.2.1, hk_.1.1.2.2.1, hk_.1.1.2.2.2.1, hk_.1.1.2.2.2.2.1, hk_.1.1.2.2.2.2.2.1, hk_.1.1.2.2.2.2.2.2.1, hk_.1.1.2.2.2.2.2.2.2.1, hk_.1.1.2.2.2.2.2.2.2.2.1, hk_.1.1.2.2.2.2.2.2.2.2.2.1, hk_.1.1.2.2.2.2.2.2.2.2.2.2.1, hk_.1.1.2.2.2.2.2.2.2.2.2.2.2.1, hk_.1.1.2.2.2.2.2.2.2.2.2.2.2.2⟩)); have n4_ := Aside0.mk (Kd.R_mono (ok' := fun k_ => some k_ ≠ (.slice Ao25 t271.length co25 : Value).ownBlock ∧ some k_ ≠ (.slice Ao41 t288.length co41 : Value).ownBlock ∧ some k_ ≠ (.slice Ao50 t297.length co50 : Value).ownBlock ∧ some k_ ≠ (.slice Ao57 t307.length co57 : Value).ownBlock) (Kd.R_keptB ((Kd.R_mono (ok' := fun k_ => (some k_ ≠ (.slice Ao25 t271.length co25 : Value).ownBlock ∧ (some k_ ≠ (.slice Ao41 t288.length co41 : Value).ownBlock ∧ (some k_ ≠ (.slice Ao50 t297.length co50 : Value).ownBlock ∧ some k_ ≠ (.slice Ao57 t307.length co57 : Value).ownBlock))) ∧ ¬ (fun k_ => ((some k_ ≠ (.slice Ao24 t268.length co24 : Value).ownBlock ∧ (some k_ ≠ (.slice Ao25 t271.length co25 : Value).ownBlock ∧ (some k_ ≠ (.slice Ao31 t276.length co31 : Value).ownBlock ∧ (some k_ ≠ (.slice Ao32 t279.length co32 : Value).ownBlock ∧ (some k_ ≠ (.slice Ao41 t288.length co41 : Value).ownBlock ∧ (some k_ ≠ (.slice Ao49 t294.length co49 : Value).ownBlock ∧ (some k_ ≠ (.slice Ao50 t297.length co50 : Value).ownBlock ∧ (some k_ ≠ (.slice Ao56 t304.length co56 : Value).ownBlock ∧ (some k_ ≠ (.slice Ao57 t307.length co57 : Value).ownBlock ∧ (Nm35 ≤ k_ ∧ (k_ < Nm43 ∧ k_ < Nm55)))))))))))) ∧ k_ ≠ gb265 ∧ k_ ≠ gb283 ∧ k_ ≠ gb292 ∧ k_ ≠ gb301) k_) (Kd.R_tight2 rfl HO281.out) (fun k_ hk => ⟨hk.2, fun hp_ => (hp_.1.2.2.2.1) hk.1⟩))) hkp (fun k_ hk_ hs_ => Or.elim hs_ (fun e_ => (hk_.2) e_) (fun e_ => (hk_.1.2.1) e_))) (fun k_ hk_ => ⟨hk_.1.1.1, hk_.1.1.2.1, hk_.1.1.2.2.1, hk_.1.1.2.2.2⟩)); have n5_ := Aside0.mk (blk_kept (bz BK283) hkp (fun hs_ => Or.elim hs_ (fun e_ => (fun e_ => (e_.2.2.1) rfl) e_) (fun e_ => (fun e_ => (Kd.R_ne HO290.out BK283.out (by decide)) e_) e_))); have n6_ := Aside0.mk (Kd.S_mono hy0 (fun k_ hk_ => hk_.1)); have n7_ := Aside0.mk (Kd.R_reok rfl hy1 (fun k_ e_ => HO290.out.1 k_ e_)); have n8_ := Aside0.mk (blk_kept (bz BK292) hkp (fun hs_ => Or.elim hs_ (fun e_ => (fun e_ => (e_.2.2.2.1) rfl) e_) (fun e_ => (fun e_ => (Kd.R_ne HO290.out BK292.out (by decide)) e_) e_))); have n9_ := Aside0.mk (Kd.S_mono (ok' := fun k_ => some k_ ≠ (.slice Ao24 t268.length co24 : Value).ownBlock ∧ some k_ ≠ (.slice Ao25 t271.length co25 : Value).ownBlock ∧ some k_ ≠ (.slice Ao31 t276.length co31 : Value).ownBlock ∧ some k_ ≠ (.slice Ao32 t279.length co32 : Value).ownBlock ∧ some k_ ≠ (.slice Ao40 t285.length co40 : Value).ownBlock ∧ some k_ ≠ (.slice Ao41 t288.length co41 : Value).ownBlock ∧ some k_ ≠ (.slice Ao50 t297.length co50 : Value).ownBlock ∧ some k_ ≠ (.slice Ao56 t304.length co56 : Value).ownBlock ∧ some k_ ≠ (.slice Ao57 t307.length co57 : Value).ownBlock ∧ Nm43 ≤ k_ ∧ k_ < Nm55) (Kd.S_keptB ((Kd.S_mono (ok' := fun k_ => (some k_ ≠ (.slice Ao24 t268.length co24 : Value).ownBlock ∧ (some k_ ≠ (.slice Ao25 t271.length co25 : Value).ownBlock ∧ (some k_ ≠ (.slice Ao31 t276.length co31 : Value).ownBlock ∧ (some k_ ≠ (.slice Ao32 t279.length co32 : Value).ownBlock ∧ (some k_ ≠ (.slice Ao40 t285.length co40 : Value).ownBlock ∧ (some k_ ≠ (.slice Ao41 t288.length co41 : Value).ownBlock ∧ (some k_ ≠ (.slice Ao50 t297.length co50 : Value).ownBlock ∧ (some k_ ≠ (.slice Ao56 t304.length co56 : Value).ownBlock ∧ (some k_ ≠ (.slice Ao57 t307.length co57 : Value).ownBlock ∧ (Nm43 ≤ k_ ∧ k_ < Nm55)))))))))) ∧ ¬ (fun k_ => ((some k_ ≠ (.slice Ao24 t268.length co24 : Value).ownBlock ∧ (some k_ ≠ (.slice Ao25 t271.length co25 : Value).ownBlock ∧ (some k_ ≠ (.slice Ao31 t276.length co31 : Value).ownBlock ∧ (some k_ ≠ (.slice Ao32 t279.length co32 : Value).ownBlock ∧ (some k_ ≠ (.slice Ao41 t288.length co41 : Value).ownBlock ∧ (some k_ ≠ (.slice Ao49 t294.length co49 : Value).ownBlock ∧ (some k_ ≠ (.slice Ao50 t297.length co50 : Value).ownBlock ∧ (some k_ ≠ (.slice Ao56 t304.length co56 : Value).ownBlock ∧ (some k_ ≠ (.slice Ao57 t307.length co57 : Value).ownBlock ∧ (Nm35 ≤ k_ ∧ (k_ < Nm43 ∧ k_ < Nm55)))))))))))) ∧ k_ ≠ gb265 ∧ k_ ≠ gb283 ∧ k_ ≠ gb292 ∧ k_ ≠ gb301) k_) HO296.out (fun k_ hk => ⟨hk, fun hp_ => Nat.not_le.2 (hp_.1.2.2.2.2.2.2.2.2.2.2.1) (hk.2.2.2.2.2.2.2.2.2.1)⟩))) hkp (fun k_ hk_ hs_ => Or.elim hs_ (fun e_ => (hk_.2) e_) (fun e_ => (hk_.1.2.2.2.2.2.1) e_))) (fun k_ hk_ => ⟨hk_.1.1.1, hk_.1.1.2.1, hk_.1.1.2.2.1, hk_.1.1.2.2.2.1, hk_.1.1.2.2.2.2.1, hk_.1.1.2.2.2.2.2.1, hk_.1.1.2.2.2.2.2.2.1, hk_.1.1.2.2.2.2.2.2.2.1, hk_.1.1.2.2.2.2.2.2.2.2.1, hk_.1.1.2.2.2.2.2.2.2.2.2.1, hk_.1.1.2.2.2.2.2.2.2.2.2.2⟩)); have n10_ := Aside0.mk (Kd.R_mono (ok' := fun k_ => some k_ ≠ (.slice Ao25 t271.length co25 : Value).ownBlock ∧ some k_ ≠ (.slice Ao32 t279.length co32 : Value).ownBlock ∧ some k_ ≠ (.slice Ao41 t288.length co41 : Value).ownBlock ∧ some k_ ≠ (.slice Ao57 t307.length co57 : Value).ownBlock) (Kd.R_keptB ((Kd.R_mono (ok' := fun k_ => (some k_ ≠ (.slice Ao25 t271.length co25 : Value).ownBlock ∧ (some k_ ≠ (.slice Ao32 t279.length co32 : Value).ownBlock ∧ (some k_ ≠ (.slice Ao41 t288.length co41 : Value).ownBlock ∧ some k_ ≠ (.slice Ao57 t307.length co57 : Value).ownBlock))) ∧ ¬ (fun k_ => ((some k_ ≠ (.slice Ao24 t268.length co24 : Value).ownBlock ∧ (some k_ ≠ (.slice Ao25 t271.length co25 : Value).ownBlock ∧ (some k_ ≠ (.slice Ao31 t276.length co31 : Value).ownBlock ∧ (some k_ ≠ (.slice Ao32 t279.length co32 : Value).ownBlock ∧ (some k_ ≠ (.slice Ao41 t288.length co41 : Value).ownBlock ∧ (some k_ ≠ (.slice Ao49 t294.length co49 : Value).ownBlock ∧ (some k_ ≠ (.slice Ao50 t297.length co50 : Value).ownBlock ∧ (some k_ ≠ (.slice Ao56 t304.length co56 : Value).ownBlock ∧ (some k_ ≠ (.slice Ao57 t307.length co57 : Value).ownBlock ∧ (Nm35 ≤ k_ ∧ (k_ < Nm43 ∧ k_ < Nm55)))))))))))) ∧ k_ ≠ gb265 ∧ k_ ≠ gb283 ∧ k_ ≠ gb292 ∧ k_ ≠ gb301) k_) (Kd.R_tight2 rfl HO299.out) (fun k_ hk => ⟨hk.2, fun hp_ => (hp_.1.2.2.2.2.2.2.1) hk.1⟩))) hkp (fun k_ hk_ hs_ => Or.elim hs_ (fun e_ => (hk_.2) e_) (fun e_ => (hk_.1.2.2.1) e_))) (fun k_ hk_ => ⟨hk_.1.1.1, hk_.1.1.2.1, hk_.1.1.2.2.1, hk_.1.1.2.2.2⟩)); have n11_ := Aside0.mk (blk_kept (bz BK301) hkp (fun hs_ => Or.elim hs_ (fun e_ => (fun e_ => (e_.2.2.2.2) rfl) e_) (fun e_ => (fun e_ => (Kd.R_ne HO290.out BK301.out (by decide)) e_) e_))); have n12_ := Aside0.mk (Kd.S_mono (ok' := fun k_ => some k_ ≠ (.slice Ao24 t268.length co24 : Value).ownBlock ∧ some k_ ≠ (.slice Ao25 t271.length co25 : Value).ownBlock ∧ some k_ ≠ (.slice Ao31 t276.length co31 : Value).ownBlock ∧ some k_ ≠ (.slice Ao32 t279.length co32 : Value).ownBlock ∧ some k_ ≠ (.slice Ao40 t285.length co40 : Value).ownBlock ∧ some k_ ≠ (.slice Ao41 t288.length co41 : Value).ownBlock ∧ some k_ ≠ (.slice Ao49 t294.length co49 : Value).ownBlock ∧ some k_ ≠ (.slice Ao50 t297.length co50 : Value).ownBlock ∧ some k_ ≠ (.slice Ao57 t307.length co57 : Value).ownBlock ∧ Nm55 ≤ k_) (Kd.S_keptB ((Kd.S_mono (ok' := fun k_ => (some k_ ≠ (.slice Ao24 t268.length co24 : Value).ownBlock ∧ (some k_ ≠ (.slice Ao25 t271.length co25 : Value).ownBlock ∧ (some k_ ≠ (.slice Ao31 t276.length co31 : Value).ownBlock ∧ (some k_ ≠ (.slice Ao32 t279.length co32 : Value).ownBlock ∧ (some k_ ≠ (.slice Ao40 t285.length co40 : Value).ownBlock ∧ (some k_ ≠ (.slice Ao41 t288.length co41 : Value).ownBlock ∧ (some k_ ≠ (.slice Ao49 t294.length co49 : Value).ownBlock ∧ (some k_ ≠ (.slice Ao50 t297.length co50 : Value).ownBlock ∧ (some k_ ≠ (.slice Ao57 t307.length co57 : Value).ownBlock ∧ Nm55 ≤ k_))))))))) ∧ ¬ (fun k_ => ((some k_ ≠ (.slice Ao24 t268.length co24 : Value).ownBlock ∧ (some k_ ≠ (.slice Ao25 t271.length co25 : Value).ownBlock ∧ (some k_ ≠ (.slice Ao31 t276.length co31 : Value).ownBlock ∧ (some k_ ≠ (.slice Ao32 t279.length co32 : Value).ownBlock ∧ (some k_ ≠ (.slice Ao41 t288.length co41 : Value).ownBlock ∧ (some k_ ≠ (.slice Ao49 t294.length co49 : Value).ownBlock ∧ (some k_ ≠ (.slice Ao50 t297.length co50 : Value).ownBlock ∧ (some k_ ≠ (.slice Ao56 t304.length co56 : Value).ownBlock ∧ (some k_ ≠ (.slice Ao57 t307.length co57 : Value).ownBlock ∧ (Nm35 ≤ k_ ∧ (k_ < Nm43 ∧ k_ < Nm55)))))))))))) ∧ k_ ≠ gb265 ∧ k_ ≠ gb283 ∧ k_ ≠ gb292 ∧ k_ ≠ gb301) k_) HO306.out (fun k_ hk => ⟨hk, fun hp_ => Nat.not_le.2 (hp_.1.2.2.2.2.2.2.2.2.2.2.2) (hk.2.2.2.2.2.2.2.2.2)⟩))) hkp (fun k_ hk_ hs_ => Or.elim hs_ (fun e_ => (hk_.2) e_) (fun e_ => (hk_.1.2.2.2.2.2.1) e_))) (fun k_ hk_ => ⟨hk_.1.1.1, hk_.1.1.2.1, hk_.1.1.2.2.1, hk_.1.1.2.2.2.1, hk_.1.1.2.2.2.2.1, hk_.1.1.2.2.2.2.2.1, hk_.1.1.2.2.2.2.2.2.1, hk_.1.1.2.2.2.2.2.2.2.1, hk_.1.1.2.2.2.2.2.2.2.2.1, hk_.1.1.2.2.2.2.2.2.2.2.2⟩)); have n13_ := Aside0.mk (Kd.R_mono (ok' := fun k_ => some k_ ≠ (.slice Ao25 t271.length co25 : Value).ownBlock ∧ some k_ ≠ (.slice Ao32 t279.length co32 : Value).ownBlock ∧ some k_ ≠ (.slice Ao41 t288.length co41 : Value).ownBlock ∧ some k_ ≠ (.slice Ao50 t297.length co50 : Value).ownBlock) (Kd.R_keptB ((Kd.R_mono (ok' := fun k_ => (some k_ ≠ (.slice Ao25 t271.length co25 : Value).ownBlock ∧ (some k_ ≠ (.slice Ao32 t279.length co32 : Value).ownBlock ∧ (some k_ ≠ (.slice Ao41 t288.length co41 : Value).ownBlock ∧ some k_ ≠ (.slice Ao50 t297.length co50 : Value).ownBlock))) ∧ ¬ (fun k_ => ((some k_ ≠ (.slice Ao24 t268.length co24 : Value).ownBlock ∧ (some k_ ≠ (.slice Ao25 t271.length co25 : Value).ownBlock ∧ (some k_ ≠ (.slice Ao31 t276.length co31 : Value).ownBlock ∧ (some k_ ≠ (.slice Ao32 t279.length co32 : Value).ownBlock ∧ (some k_ ≠ (.slice Ao41 t288.length co41 : Value).ownBlock ∧ (some k_ ≠ (.slice Ao49 t294.length co49 : Value).ownBlock ∧ (some k_ ≠ (.slice Ao50 t297.length co50 : Value).ownBlock ∧ (some k_ ≠ (.slice Ao56 t304.length co56 : Value).ownBlock ∧ (some k_ ≠ (.slice Ao57 t307.length co57 : Value).ownBlock ∧ (Nm35 ≤ k_ ∧ (k_ < Nm43 ∧ k_ < Nm55)))))))))))) ∧ k_ ≠ gb265 ∧ k_ ≠ gb283 ∧ k_ ≠ gb292 ∧ k_ ≠ gb301) k_) (Kd.R_tight2 rfl HO309.out) (fun k_ hk => ⟨hk.2, fun hp_ => (hp_.1.2.2.2.2.2.2.2.2.1) hk.1⟩))) hkp (fun k_ hk_ hs_ => Or.elim hs_ (fun e_ => (hk_.2) e_) (fun e_ => (hk_.1.2.2.1) e_))) (fun k_ hk_ => ⟨hk_.1.1.1, hk_.1.1.2.1, hk_.1.1.2.2.1, hk_.1.1.2.2.2⟩)); have n14_ := Aside0.mk (hb); clear BK265 HO270 HO273 HO278 HO281 BK283 HO287 HO290 BK292 HO296 HO299 BK301 HO306 HO309 HB; have BK265 := n0_; have HO270 := n1_; have HO273 := n2_; have HO278 := n3_; have HO281 := n4_; have BK283 := n5_; have HO287 := n6_; have HO290 := n7_; have BK292 := n8_; have HO296 := n9_; have HO299 := n10_; have BK301 := n11_; have HO306 := n12_; have HO309 := n13_; have HB := n14_; clear n0_ n1_ n2_ n3_ n4_ n5_ n6_ n7_ n8_ n9_ n10_ n11_ n12_ n13_ n14_; (try clear hb); (try clear hkp); (try clear hy0); (try clear hy1)))
    (try simp only [Act.put, List.setIfInBounds_toArray, List.set_cons_zero, List.set_cons_succ])
    go_cut [42] (fun v42 wc => ∃ (kq : Nat) (x42_16 : Bool), v42 = .bool x42_16 ∧ Aside0 (laws_FnExactFilledCourt.j0 kq x42_16 a0_0 l0_1 l0_2 a0_3 t275 t276 t279 t282 t293 t294 t297 t300 = some r) ∧ Aside0 (kq ≤ k) ∧ Aside0 (Kd.S (Kd.slice 3 (Kd.int .i64)) 23 wc w.heap.size (fun k_ => some k_ ≠ ((.slice Ao32 t279.length co32) : Value).ownBlock ∧ some k_ ≠ ((.slice Ao40 t285.length co40) : Value).ownBlock ∧ some k_ ≠ ((.slice Ao41 t288.length co41) : Value).ownBlock ∧ some k_ ≠ ((.slice Ao49 t294.length co49) : Value).ownBlock ∧ some k_ ≠ ((.slice Ao50 t297.length co50) : Value).ownBlock ∧ Nm27 ≤ k_ ∧ k_ < Nm35 ∧ k_ < Nm43 ∧ k_ < Nm55) (.slice Ao31 t276.length co31) t276) ∧ Aside0 (Kd.R (Kd.int .i64) 3 wc w.heap.size (fun k_ => some k_ ≠ ((.slice Ao41 t288.length co41) : Value).ownBlock ∧ some k_ ≠ ((.slice Ao50 t297.length co50) : Value).ownBlock) (.slice Ao32 t279.length co32) t279) ∧ Aside0 (Kd.S (Kd.slice 3 (Kd.int .i64)) 23 wc w.heap.size (fun k_ => some k_ ≠ ((.slice Ao31 t276.length co31) : Value).ownBlock ∧ some k_ ≠ ((.slice Ao32 t279.length co32) : Value).ownBlock ∧ some k_ ≠ ((.slice Ao41 t288.length co41) : Value).ownBlock ∧ some k_ ≠ ((.slice Ao49 t294.length co49) : Value).ownBlock ∧ some k_ ≠ ((.slice Ao50 t297.length co50) : Value).ownBlock ∧ Nm35 ≤ k_ ∧ k_ < Nm43 ∧ k_ < Nm55) (.slice Ao40 t285.length co40) t313) ∧ Aside0 (Kd.R (Kd.int .i64) 3 wc w.heap.size (fun k_ => some k_ ≠ ((.slice Ao32 t279.length co32) : Value).ownBlock ∧ some k_ ≠ ((.slice Ao50 t297.length co50) : Value).ownBlock) (.slice Ao41 t288.length co41) t314) ∧ Aside0 (Kd.S (Kd.slice 3 (Kd.int .i64)) 23 wc w.heap.size (fun k_ => some k_ ≠ ((.slice Ao31 t276.length co31) : Value).ownBlock ∧ some k_ ≠ ((.slice Ao32 t279.length co32) : Value).ownBlock ∧ some k_ ≠ ((.slice Ao40 t285.length co40) : Value).ownBlock ∧ some k_ ≠ ((.slice Ao41 t288.length co41) : Value).ownBlock ∧ some k_ ≠ ((.slice Ao50 t297.length co50) : Value).ownBlock ∧ Nm43 ≤ k_ ∧ k_ < Nm55) (.slice Ao49 t294.length co49) t294) ∧ Aside0 (Kd.R (Kd.int .i64) 3 wc w.heap.size (fun k_ => some k_ ≠ ((.slice Ao32 t279.length co32) : Value).ownBlock ∧ some k_ ≠ ((.slice Ao41 t288.length co41) : Value).ownBlock) (.slice Ao50 t297.length co50) t297) ∧ Aside0 (wc.heap[gb265]? = some (.cells #[.int .i64 a0_0, (.slice A0_1 l0_1.length c0_1), (.slice A0_2 l0_2.length c0_2), .int .i64 a0_3] 25 (0, 0))) ∧ Aside0 (wc.heap[gb283]? = some (.cells #[.int .i64 t275, (.slice Ao31 t276.length co31), (.slice Ao32 t279.length co32), .int .i64 t282] 28 (0, 0))) ∧ Aside0 (wc.heap[gb292]? = some (.cells #[.int .i64 t284, (.slice Ao40 t285.length co40), (.slice Ao41 t288.length co41), .int .i64 t291] 28 (0, 0))) ∧ Aside0 (wc.heap[gb301]? = some (.cells #[.int .i64 t293, (.slice Ao49 t294.length co49), (.slice Ao50 t297.length co50), .int .i64 t300] 28 (0, 0))) ∧ Aside0 (Below w.heap.size w wc))
    case first =>
     have H := HC17.out
     clear HC17
     by_cases c61 : t312 < 0
     ·rw [if_pos c61] at H
      have c61b0 : decide (t312 < 0) = true := decide_eq_true c61
      clear c61
      (first | rw [c61b0] | (simp only [i64_w, i32_w]; rw [c61b0]) | skip)
      have H' := Aside0.mk H
      clear H
      go_wp2
      go_meet
      case rel => exact ⟨_, (true), (by first | rfl | (simp; done) | (simp [*]; done)), H', ⟨by first | omega | exact Nat.le_refl _⟩, ⟨mS HO278⟩, ⟨mR HO281⟩, ⟨mS HO287⟩, ⟨mR HO290⟩, ⟨mS HO296⟩, ⟨mR HO299⟩, ⟨bz BK265⟩, ⟨bz BK283⟩, ⟨bz BK292⟩, ⟨bz BK301⟩, ⟨by exact bh⟩⟩
     ·rw [if_neg c61] at H
      have c61b0 : decide (t312 < 0) = false := decide_eq_false c61
      clear c61
      (first | rw [c61b0] | (simp only [i64_w, i32_w]; rw [c61b0]) | skip)
      replace H := Option.bind_eq_some_iff.mp H
      obtain ⟨t315, A620, H⟩ := H
      replace H : (laws_FnExactFilledCourt.j0 k (!t315) a0_0 l0_1 l0_2 a0_3 t275 t276 t279 t282 t293 t294 t297 t300) = some r := H
      have A62 := Aside0.mk A620
      clear A620
      have H' := Aside0.mk H
      clear H
      have hnb63 := NB301_265.out
      have hnc63 := NB265_301.out
      have hnb64 := NB301_283.out
      have hnc64 := NB283_301.out
      have hnb65 := NB301_292.out
      have hnc65 := NB292_301.out
      have hcz66_0 := cz0 BK301
      have hcz66_1 := cz1 BK301
      have hcz66_2 := cz2 BK301
      have hcz66_3 := cz3 BK301
      have hfz66_0 := blk_frozen BK301.out 0
      have hfz66_1 := blk_frozen BK301.out 1
      have hfz66_2 := blk_frozen BK301.out 2
      have hfz66_3 := blk_frozen BK301.out 3
      have hnb67 := NB283_265.out
      have hnc67 := NB265_283.out
      have hnb68 := NB283_292.out
      have hnc68 := NB292_283.out
      have hcz69_0 := cz0 BK283
      have hcz69_1 := cz1 BK283
      have hcz69_2 := cz2 BK283
      have hcz69_3 := cz3 BK283
      have hfz69_0 := blk_frozen BK283.out 0
      have hfz69_1 := blk_frozen BK283.out 1
      have hfz69_2 := blk_frozen BK283.out 2
      have hfz69_3 := blk_frozen BK283.out 3
      go_wp2_with (first | (go_at_call 20; (with_reducible refine (laws_eqCourt.calls k t293 _ _ t294 _ _ t297 t300 t275 _ _ t276 _ _ t279 t282 t315 _ ?side1 ?side2 ?side3 ?side4 ?side5 ?side6 ?side7 ?side8 A62.out).mono ?_); (case side1 => repeat (first | exact (Kd.S_reads' HO296.out).2.2 | (with_reducible refine Kd.C_alloc ?_ _) | (with_reducible refine Kd.C_drewN ?_ _) | (with_reducible refine Kd.C_drew ?_))); (case side2 => exact (Kd.S_reads' HO296.out).2.1); (case side3 => repeat (first | exact (Kd.R_reads' HO299.out).2.2 | (with_reducible refine Kd.C_alloc ?_ _) | (with_reducible refine Kd.C_drewN ?_ _) | (with_reducible refine Kd.C_drew ?_))); (case side4 => exact (Kd.R_reads' HO299.out).2.1); (case side5 => repeat (first | exact (Kd.S_reads' HO278.out).2.2 | (with_reducible refine Kd.C_alloc ?_ _) | (with_reducible refine Kd.C_drewN ?_ _) | (with_reducible refine Kd.C_drew ?_))); (case side6 => exact (Kd.S_reads' HO278.out).2.1); (case side7 => repeat (first | exact (Kd.R_reads' HO281.out).2.2 | (with_reducible refine Kd.C_alloc ?_ _) | (with_reducible refine Kd.C_drewN ?_ _) | (with_reducible refine Kd.C_drew ?_))); (case side8 => exact (Kd.R_reads' HO281.out).2.1); rintro e w70 ⟨rfl, hb⟩; have n0_ := Aside0.mk (Kd.S_below (sz HO270) hb); have n1_ := Aside0.mk (Kd.R_below (rz HO273) hb); have n2_ := Aside0.mk (Kd.S_below (sz HO278) hb); have n3_ := Aside0.mk (Kd.R_below (rz HO281) hb); have n4_ := Aside0.mk (Kd.S_below (sz HO287) hb); have n5_ := Aside0.mk (Kd.R_below (rz HO290) hb); have n6_ := Aside0.mk (Kd.S_below (sz HO296) hb); have n7_ := Aside0.mk (Kd.R_below (rz HO299) hb); have n8_ := Aside0.mk (Kd.S_below (sz HO306) hb); have n9_ := Aside0.mk (Kd.R_below (rz HO309) hb); have n10_ := Aside0.mk (blk_below (bz BK265) hb); have n11_ := Aside0.mk (blk_below (bz BK283) hb); have n12_ := Aside0.mk (blk_below (bz BK292) hb); have n13_ := Aside0.mk (blk_below (bz BK301) hb); have n14_ := Aside0.mk (below_step bh hb); clear HO270 HO273 HO278 HO281 HO287 HO290 HO296 HO299 HO306 HO309 BK265 BK283 BK292 BK301 HB; have HO270 := n0_; have HO273 := n1_; have HO278 := n2_; have HO281 := n3_; have HO287 := n4_; have HO290 := n5_; have HO296 := n6_; have HO299 := n7_; have HO306 := n8_; have HO309 := n9_; have BK265 := n10_; have BK283 := n11_; have BK292 := n12_; have BK301 := n13_; have HB := n14_; clear n0_ n1_ n2_ n3_ n4_ n5_ n6_ n7_ n8_ n9_ n10_ n11_ n12_ n13_ n14_; (try clear hb); (try clear hb2); (try clear hk); (try clear hi)))
      go_meet
      case rel => exact ⟨_, (!t315), (by first | rfl | (simp; done) | (simp [*]; done)), H', ⟨by first | omega | exact Nat.le_refl _⟩, ⟨mS HO278⟩, ⟨mR HO281⟩, ⟨mS HO287⟩, ⟨mR HO290⟩, ⟨mS HO296⟩, ⟨mR HO299⟩, ⟨bz BK265⟩, ⟨bz BK283⟩, ⟨bz BK292⟩, ⟨bz BK301⟩, ⟨by exact bh⟩⟩
    case rest =>
     clear HC17
     try clear c1
     try clear c2
     try clear p2
     try clear c3
     try clear c3b0
     try clear c4
     try clear c6
     try clear c11
     try clear c12
     try clear c15
     try clear c16
     try clear c18
     try clear c20
     try clear c28
     try clear c29
     try clear c34
     try clear c36
     try clear c37
     try clear c38
     try clear c45
     try clear c46
     try clear c47
     try clear c61
     try clear c61b0
     try clear c63
     try clear c64
     try clear c65
     try clear c67
     try clear c68
     try clear hcz19_0
     try clear hcz19_1
     try clear hcz19_2
     try clear hcz19_3
     try clear hcz21_0
     try clear hcz21_1
     try clear hcz21_2
     try clear hcz21_3
     try clear hcz30_0
     try clear hcz30_1
     try clear hcz30_2
     try clear hcz30_3
     try clear hcz33_0
     try clear hcz33_1
     try clear hcz33_2
     try clear hcz33_3
     try clear hcz39_0
     try clear hcz39_1
     try clear hcz39_2
     try clear hcz39_3
     try clear hcz48_0
     try clear hcz48_1
     try clear hcz48_2
     try clear hcz48_3
     try clear hcz51_0
     try clear hcz51_1
     try clear hcz51_2
     try clear hcz51_3
     try clear hcz59_0
     try clear hcz59_1
     try clear hcz59_2
     try clear hcz59_3
     try clear hcz5_0
     try clear hcz5_1
     try clear hcz5_2
     try clear hcz5_3
     try clear hcz66_0
     try clear hcz66_1
     try clear hcz66_2
     try clear hcz66_3
     try clear hcz69_0
     try clear hcz69_1
     try clear hcz69_2
     try clear hcz69_3
     try clear hfz19_0
     try clear hfz19_1
     try clear hfz19_2
     try clear hfz19_3
     try clear hfz21_0
     try clear hfz21_1
     try clear hfz21_2
     try clear hfz21_3
     try clear hfz30_0
     try clear hfz30_1
     try clear hfz30_2
     try clear hfz30_3
     try clear hfz33_0
     try clear hfz33_1
     try clear hfz33_2
     try clear hfz33_3
     try clear hfz39_0
     try clear hfz39_1
     try clear hfz39_2
     try clear hfz39_3
     try clear hfz48_0
     try clear hfz48_1
     try clear hfz48_2
     try clear hfz48_3
     try clear hfz51_0
     try clear hfz51_1
     try clear hfz51_2
     try clear hfz51_3
     try clear hfz59_0
     try clear hfz59_1
     try clear hfz59_2
     try clear hfz59_3
     try clear hfz5_0
     try clear hfz5_1
     try clear hfz5_2
     try clear hfz5_3
     try clear hfz66_0
     try clear hfz66_1
     try clear hfz66_2
     try clear hfz66_3
     try clear hfz69_0
     try clear hfz69_1
     try clear hfz69_2
     try clear hfz69_3
     obtain ⟨kq, x42_16, rfl, HA, HJ16, HO_284001, HO_284002, HO_293001, HO_293002, HO_302001, HO_302002, BK265, BK283, BK292, BK301, HB⟩ := hcut
     have hl293001_16 := (Kd.S_reads' HO_293001.out).1
     rw [hl293001_16] at HO_293001
     (try simp only [hl293001_16])
     (try simp only [hl293001_16] at BK265)
     (try simp only [hl293001_16] at BK283)
     (try simp only [hl293001_16] at BK292)
     (try simp only [hl293001_16] at BK301)
     (try simp only [hl293001_16] at HO_284001)
     (try simp only [hl293001_16] at HO_284002)
     (try simp only [hl293001_16] at HO_293002)
     (try simp only [hl293001_16] at HO_302001)
     (try simp only [hl293001_16] at HO_302002)
     have hl293002_16 := (Kd.R_reads' HO_293002.out).1
     rw [hl293002_16] at HO_293002
     (try simp only [hl293002_16])
     (try simp only [hl293002_16] at BK265)
     (try simp only [hl293002_16] at BK283)
     (try simp only [hl293002_16] at BK292)
     (try simp only [hl293002_16] at BK301)
     (try simp only [hl293002_16] at HO_284001)
     (try simp only [hl293002_16] at HO_284002)
     (try simp only [hl293002_16] at HO_293001)
     (try simp only [hl293002_16] at HO_302001)
     (try simp only [hl293002_16] at HO_302002)
     cases kq with
     | zero => exact absurd HA.out (by simp [laws_FnExactFilledCourt.j0])
     | succ kj16 =>
      have H := HA.out
      clear HA
      simp only [laws_FnExactFilledCourt.j0] at H
      by_cases c71 : x42_16 = true
      ·subst c71
       have H1 : (none) = some r := by rw [if_pos rfl] at H; exact H
       clear H
       have H := H1
       clear H1
       exact absurd H (by simp)
      ·replace c71 := Bool.eq_false_iff.mpr c71
       subst c71
       have H1 : ((laws_markCourt.f kj16 t293 t294 t297 t300 1).bind fun bt316 => ((laws_heldCourt.f kj16 t293 bt316.2.1 bt316.2.2 t300 1).bind fun t319 => (if t319 < 0 then (none) else (if t319 = bt316.1 then ((laws_toCourt.f kj16 a0_0 l0_1 l0_2 a0_3).bind fun bt320 => ((impl_FilledCourt.f kj16 bt320.1 bt320.2.1 bt320.2.2.1 bt320.2.2.2).bind fun bt328 => ((laws_eqCourt.f kj16 bt328.1 bt328.2.1 bt328.2.2.1 bt328.2.2.2 t275 t276 t279 t282).bind fun t337 => (if t337 = true then ((laws_heldCourt.f kj16 t293 bt316.2.1 bt316.2.2 t300 1).bind fun t338 => (if t338 < 0 then (none) else (if t338 = bt316.1 then (some true) else (none)))) else (none))))) else (none))))) = some r := by rw [if_neg (show ¬ (false = true) by decide)] at H; exact H
       clear H
       have H := H1
       clear H1
       replace H := Option.bind_eq_some_iff.mp H
       obtain ⟨⟨t316, t317, t318⟩, A720, H⟩ := H
       replace H : ((laws_heldCourt.f kj16 t293 t317 t318 t300 1).bind fun t319 => (if t319 < 0 then (none) else (if t319 = t316 then ((laws_toCourt.f kj16 a0_0 l0_1 l0_2 a0_3).bind fun bt320 => ((impl_FilledCourt.f kj16 bt320.1 bt320.2.1 bt320.2.2.1 bt320.2.2.2).bind fun bt328 => ((laws_eqCourt.f kj16 bt328.1 bt328.2.1 bt328.2.2.1 bt328.2.2.2 t275 t276 t279 t282).bind fun t337 => (if t337 = true then ((laws_heldCourt.f kj16 t293 t317 t318 t300 1).bind fun t338 => (if t338 < 0 then (none) else (if t338 = t316 then (some true) else (none)))) else (none))))) else (none)))) = some r := H
       have A72 := Aside0.mk A720
       clear A720
       replace H := Option.bind_eq_some_iff.mp H
       obtain ⟨t319, A730, H⟩ := H
       replace H : (if t319 < 0 then (none) else (if t319 = t316 then ((laws_toCourt.f kj16 a0_0 l0_1 l0_2 a0_3).bind fun bt320 => ((impl_FilledCourt.f kj16 bt320.1 bt320.2.1 bt320.2.2.1 bt320.2.2.2).bind fun bt328 => ((laws_eqCourt.f kj16 bt328.1 bt328.2.1 bt328.2.2.1 bt328.2.2.2 t275 t276 t279 t282).bind fun t337 => (if t337 = true then ((laws_heldCourt.f kj16 t293 t317 t318 t300 1).bind fun t338 => (if t338 < 0 then (none) else (if t338 = t316 then (some true) else (none)))) else (none))))) else (none))) = some r := H
       have A73 := Aside0.mk A730
       clear A730
       by_cases c74 : t319 < 0
       ·rw [if_pos c74] at H
        exact absurd H (by simp)
       ·rw [if_neg c74] at H
        have c74b0 : decide (t319 < 0) = false := decide_eq_false c74
        (try (have c74z0 := c74b0; simp only [hl293001_16] at c74z0))
        (try (have c74z1 := c74b1; simp only [hl293001_16] at c74z1))
        (try (have c74z0 := c74b0; simp only [hl293002_16] at c74z0))
        (try (have c74z1 := c74b1; simp only [hl293002_16] at c74z1))
        clear c74
        by_cases c75 : t319 = t316
        ·rw [if_pos c75] at H
         have c75b0 : (t319 == t316) = true := beq_iff_eq.mpr c75
         have c75b1 : (t319 != t316) = false := bne_eq_false_iff_eq.mpr c75
         (try (have c75z0 := c75b0; simp only [hl293001_16] at c75z0))
         (try (have c75z1 := c75b1; simp only [hl293001_16] at c75z1))
         (try (have c75z0 := c75b0; simp only [hl293002_16] at c75z0))
         (try (have c75z1 := c75b1; simp only [hl293002_16] at c75z1))
         clear c75
         replace H := Option.bind_eq_some_iff.mp H
         obtain ⟨⟨t320, t321, t324, t327⟩, A760, H⟩ := H
         replace H : ((impl_FilledCourt.f kj16 t320 t321 t324 t327).bind fun bt328 => ((laws_eqCourt.f kj16 bt328.1 bt328.2.1 bt328.2.2.1 bt328.2.2.2 t275 t276 t279 t282).bind fun t337 => (if t337 = true then ((laws_heldCourt.f kj16 t293 t317 t318 t300 1).bind fun t338 => (if t338 < 0 then (none) else (if t338 = t316 then (some true) else (none)))) else (none)))) = some r := H
         have A76 := Aside0.mk A760
         clear A760
         replace H := Option.bind_eq_some_iff.mp H
         obtain ⟨⟨t328, t329, t332, t335⟩, A770, H⟩ := H
         replace H : ((laws_eqCourt.f kj16 t328 t329 t332 t335 t275 t276 t279 t282).bind fun t337 => (if t337 = true then ((laws_heldCourt.f kj16 t293 t317 t318 t300 1).bind fun t338 => (if t338 < 0 then (none) else (if t338 = t316 then (some true) else (none)))) else (none))) = some r := H
         have A77 := Aside0.mk A770
         clear A770
         replace H := Option.bind_eq_some_iff.mp H
         obtain ⟨t337, A780, H⟩ := H
         replace H : (if t337 = true then ((laws_heldCourt.f kj16 t293 t317 t318 t300 1).bind fun t338 => (if t338 < 0 then (none) else (if t338 = t316 then (some true) else (none)))) else (none)) = some r := H
         have A78 := Aside0.mk A780
         clear A780
         by_cases c79 : t337 = true
         ·subst c79
          have H1 : ((laws_heldCourt.f kj16 t293 t317 t318 t300 1).bind fun t338 => (if t338 < 0 then (none) else (if t338 = t316 then (some true) else (none)))) = some r := by rw [if_pos rfl] at H; exact H
          clear H
          have H := H1
          clear H1
          replace H := Option.bind_eq_some_iff.mp H
          obtain ⟨t338, A800, H⟩ := H
          replace H : (if t338 < 0 then (none) else (if t338 = t316 then (some true) else (none))) = some r := H
          have A80 := Aside0.mk A800
          clear A800
          by_cases c81 : t338 < 0
          ·rw [if_pos c81] at H
           exact absurd H (by simp)
          ·rw [if_neg c81] at H
           have c81b0 : decide (t338 < 0) = false := decide_eq_false c81
           (try (have c81z0 := c81b0; simp only [hl293001_16] at c81z0))
           (try (have c81z1 := c81b1; simp only [hl293001_16] at c81z1))
           (try (have c81z0 := c81b0; simp only [hl293002_16] at c81z0))
           (try (have c81z1 := c81b1; simp only [hl293002_16] at c81z1))
           clear c81
           by_cases c82 : t338 = t316
           ·rw [if_pos c82] at H
            have c82b0 : (t338 == t316) = true := beq_iff_eq.mpr c82
            have c82b1 : (t338 != t316) = false := bne_eq_false_iff_eq.mpr c82
            (try (have c82z0 := c82b0; simp only [hl293001_16] at c82z0))
            (try (have c82z1 := c82b1; simp only [hl293001_16] at c82z1))
            (try (have c82z0 := c82b0; simp only [hl293002_16] at c82z0))
            (try (have c82z1 := c82b1; simp only [hl293002_16] at c82z1))
            clear c82
            obtain rfl := Option.some.inj H
            have hnb83 := NB301_265.out
            have hnc83 := NB265_301.out
            have hnb84 := NB301_283.out
            have hnc84 := NB283_301.out
            have hnb85 := NB301_292.out
            have hnc85 := NB292_301.out
            have hcz86_0 := cz0 BK301
            have hcz86_1 := cz1 BK301
            have hcz86_2 := cz2 BK301
            have hcz86_3 := cz3 BK301
            have hfz86_0 := blk_frozen BK301.out 0
            have hfz86_1 := blk_frozen BK301.out 1
            have hfz86_2 := blk_frozen BK301.out 2
            have hfz86_3 := blk_frozen BK301.out 3
            have n_ := Aside0.mk (Kd.S_mono (ok' := (fun k_ => some k_ ≠ (.slice Ao32 t279.length co32 : Value).ownBlock ∧ some k_ ≠ (.slice Ao40 t313.length co40 : Value).ownBlock ∧ some k_ ≠ (.slice Ao41 t314.length co41 : Value).ownBlock ∧ some k_ ≠ (.slice Ao49 t294.length co49 : Value).ownBlock ∧ some k_ ≠ (.slice Ao50 t297.length co50 : Value).ownBlock ∧ Nm27 ≤ k_ ∧ k_ < Nm35 ∧ k_ < Nm43 ∧ k_ < Nm55)) HO_284001.out (by (intro k_; (try simp only [and_imp, and_assoc, true_and]); intros; repeat' (first | assumption | exact trivial | apply And.intro))))
            clear HO_284001
            have HO_284001 := n_
            clear n_
            have n_ := Aside0.mk (Kd.R_mono (ok' := (fun k_ => some k_ ≠ (.slice Ao41 t314.length co41 : Value).ownBlock ∧ some k_ ≠ (.slice Ao50 t297.length co50 : Value).ownBlock)) HO_284002.out (by (intro k_; (try simp only [and_imp, and_assoc, true_and]); intros; repeat' (first | assumption | exact trivial | apply And.intro))))
            clear HO_284002
            have HO_284002 := n_
            clear n_
            have n_ := Aside0.mk (Kd.S_mono (ok' := (fun k_ => some k_ ≠ (.slice Ao31 t276.length co31 : Value).ownBlock ∧ some k_ ≠ (.slice Ao32 t279.length co32 : Value).ownBlock ∧ some k_ ≠ (.slice Ao41 t314.length co41 : Value).ownBlock ∧ some k_ ≠ (.slice Ao49 t294.length co49 : Value).ownBlock ∧ some k_ ≠ (.slice Ao50 t297.length co50 : Value).ownBlock ∧ Nm35 ≤ k_ ∧ k_ < Nm43 ∧ k_ < Nm55)) HO_293001.out (by (intro k_; (try simp only [and_imp, and_assoc, true_and]); intros; repeat' (first | assumption | exact trivial | apply And.intro))))
            clear HO_293001
            have HO_293001 := n_
            clear n_
            have n_ := Aside0.mk (Kd.R_mono (ok' := (fun k_ => some k_ ≠ (.slice Ao32 t279.length co32 : Value).ownBlock ∧ some k_ ≠ (.slice Ao50 t297.length co50 : Value).ownBlock)) HO_293002.out (by (intro k_; (try simp only [and_imp, and_assoc, true_and]); intros; repeat' (first | assumption | exact trivial | apply And.intro))))
            clear HO_293002
            have HO_293002 := n_
            clear n_
            have n_ := Aside0.mk (Kd.S_mono (ok' := (fun k_ => some k_ ≠ (.slice Ao31 t276.length co31 : Value).ownBlock ∧ some k_ ≠ (.slice Ao32 t279.length co32 : Value).ownBlock ∧ some k_ ≠ (.slice Ao40 t313.length co40 : Value).ownBlock ∧ some k_ ≠ (.slice Ao41 t314.length co41 : Value).ownBlock ∧ some k_ ≠ (.slice Ao50 t297.length co50 : Value).ownBlock ∧ Nm43 ≤ k_ ∧ k_ < Nm55)) HO_302001.out (by (intro k_; (try simp only [and_imp, and_assoc, true_and]); intros; repeat' (first | assumption | exact trivial | apply And.intro))))
            clear HO_302001
            have HO_302001 := n_
            clear n_
            have n_ := Aside0.mk (Kd.R_mono (ok' := (fun k_ => some k_ ≠ (.slice Ao32 t279.length co32 : Value).ownBlock ∧ some k_ ≠ (.slice Ao41 t314.length co41 : Value).ownBlock)) HO_302002.out (by (intro k_; (try simp only [and_imp, and_assoc, true_and]); intros; repeat' (first | assumption | exact trivial | apply And.intro))))
            clear HO_302002
            have HO_302002 := n_
            clear n_
            go_wp2_with (first | ((with_reducible refine gate_callee (f := 28) rfl ?_); refine goesL_ (some 45) rfl rfl Try.func28 kr rfl #[.agg #[.int .i64 t293, .slice Ao49 t294.length co49, .slice Ao50 t297.length co50, .int .i64 t300], .int .i64 1] rfl lm ?_; (with_reducible refine (laws_markCourt.calls kj16 t293 (fun k_ => ((some k_ ≠ (.slice Ao31 t276.length co31 : Value).ownBlock ∧ (some k_ ≠ (.slice Ao32 t279.length co32 : Value).ownBlock ∧ (some k_ ≠ (.slice Ao40 t313.length co40 : Value).ownBlock ∧ (some k_ ≠ (.slice Ao41 t314.length co41 : Value).ownBlock ∧ (some k_ ≠ (.slice Ao50 t297.length co50 : Value).ownBlock ∧ (Nm43 ≤ k_ ∧ k_ < Nm55))))))) ∧ k_ ≠ gb265 ∧ k_ ≠ gb283 ∧ k_ ≠ gb292 ∧ k_ ≠ gb301) (.slice Ao49 t294.length co49) t294 (fun k_ => some k_ = (.slice Ao50 t297.length co50 : Value).ownBlock) (.slice Ao50 t297.length co50) t297 t300 1 t316 t317 t318 w _ ?side1 ?side2 ?side3 ?side4 A72.out).mono ?_); (case side1 => repeat (first | (with_reducible first | exact HB.out | apply below_alloc | apply pw_below_drewN | apply below_drew1 | refine below_set ?_ GE265.out | refine below_set ?_ GE283.out | refine below_set ?_ GE292.out | refine below_set ?_ GE301.out) | exact HB.out)); (case side2 => exact Kd.S_mono ((Kd.S_types (Kd.S_types (Kd.S_types (Kd.S_types HO_302001.out (bz BK265) (by decide)) (bz BK283) (by decide)) (bz BK292) (by decide)) (bz BK301) (by decide))) (by (intro k_; (try simp only [and_imp, and_assoc]); intros; repeat' (first | assumption | exact trivial | apply And.intro)))); (case side3 => exact fun k_ hp_ e_ => (hp_.1.2.2.2.2.1) e_); (case side4 => exact Kd.R_tight rfl HO_302002.out); rintro e w87 ⟨rfl, hy0, hy1, hb, hkp⟩; refine ⟨_, rfl, ?_⟩; have n0_ := Aside0.mk (Kd.S_mono (ok' := fun k_ => some k_ ≠ (.slice Ao32 t279.length co32 : Value).ownBlock ∧ some k_ ≠ (.slice Ao40 t313.length co40 : Value).ownBlock ∧ some k_ ≠ (.slice Ao41 t314.length co41 : Value).ownBlock ∧ some k_ ≠ (.slice Ao49 t294.length co49 : Value).ownBlock ∧ some k_ ≠ (.slice Ao50 t297.length co50 : Value).ownBlock ∧ Nm27 ≤ k_ ∧ k_ < Nm35 ∧ k_ < Nm43 ∧ k_ < Nm55) (Kd.S_keptB ((Kd.S_mono (ok' := fun k_ => (some k_ ≠ (.slice Ao32 t279.length co32 : Value).ownBlock ∧ (some k_ ≠ (.slice Ao40 t313.length co40 : Value).ownBlock ∧ (some k_ ≠ (.slice Ao41 t314.length co41 : Value).ownBlock ∧ (some k_ ≠ (.slice Ao49 t294.length co49 : Value).ownBlock ∧ (some k_ ≠ (.slice Ao50 t297.length co50 : Value).ownBlock ∧ (Nm27 ≤ k_ ∧ (k_ < Nm35 ∧ (k_ < Nm43 ∧ k_ < Nm55)))))))) ∧ ¬ (fun k_ => ((some k_ ≠ (.slice Ao31 t276.length co31 : Value).ownBlock ∧ (some k_ ≠ (.slice Ao32 t279.length co32 : Value).ownBlock ∧ (some k_ ≠ (.slice Ao40 t313.length co40 : Value).ownBlock ∧ (some k_ ≠ (.slice Ao41 t314.length co41 : Value).ownBlock ∧ (some k_ ≠ (.slice Ao50 t297.length co50 : Value).ownBlock ∧ (Nm43 ≤ k_ ∧ k_ < Nm55))))))) ∧ k_ ≠ gb265 ∧ k_ ≠ gb283 ∧ k_ ≠ gb292 ∧ k_ ≠ gb301) k_) HO_284001.out (fun k_ hk => ⟨hk, fun hp_ => Nat.not_le.2 (hk.2.2.2.2.2.2.2.1) (hp_.1.2.2.2.2.2.1)⟩))) hkp (fun k_ hk_ hs_ => Or.elim hs_ (fun e_ => (hk_.2) e_) (fun e_ => (hk_.1.2.2.2.2.1) e_))) (fun k_ hk_ => ⟨hk_.1.1.1, hk_.1.1.2.1, hk_.1.1.2.2.1, hk_.1.1.2.2.2.1, hk_.1.1.2.2.2.2.1, hk_.1.1.2.2.2.2.2.1, hk_.1.1.2.2.2.2.2.2.1, hk_.1.1.2.2.2.2.2.2.2.1, hk_.1.1.2.2.2.2.2.2.2.2⟩)); have n1_ := Aside0.mk (Kd.R_mono (ok' := fun k_ => some k_ ≠ (.slice Ao41 t314.length co41 : Value).ownBlock ∧ some k_ ≠ (.slice Ao50 t297.length co50 : Value).ownBlock) (Kd.R_keptB ((Kd.R_mono (ok' := fun k_ => (some k_ ≠ (.slice Ao41 t314.length co41 : Value).ownBlock ∧ some k_ ≠ (.slice Ao50 t297.length co50 : Value).ownBlock) ∧ ¬ (fun k_ => ((some k_ ≠ (.slice Ao31 t276.length co31 : Value).ownBlock ∧ (some k_ ≠ (.slice Ao32 t279.length co32 : Value).ownBlock ∧ (some k_ ≠ (.slice Ao40 t313.length co40 : Value).ownBlock ∧ (some k_ ≠ (.slice Ao41 t314.length co41 : Value).ownBlock ∧ (some k_ ≠ (.slice Ao50 t297.length co50 : Value).ownBlock ∧ (Nm43 ≤ k_ ∧ k_ < Nm55))))))) ∧ k_ ≠ gb265 ∧ k_ ≠ gb283 ∧ k_ ≠ gb292 ∧ k_ ≠ gb301) k_) (Kd.R_tight2 rfl HO_284002.out) (fun k_ hk => ⟨hk.2, fun hp_ => (hp_.1.2.1) hk.1⟩))) hkp (fun k_ hk_ hs_ => Or.elim hs_ (fun e_ => (hk_.2) e_) (fun e_ => (hk_.1.2) e_))) (fun k_ hk_ => ⟨hk_.1.1.1, hk_.1.1.2⟩)); have n2_ := Aside0.mk (Kd.S_mono (ok' := fun k_ => some k_ ≠ (.slice Ao31 t276.length co31 : Value).ownBlock ∧ some k_ ≠ (.slice Ao32 t279.length co32 : Value).ownBlock ∧ some k_ ≠ (.slice Ao41 t314.length co41 : Value).ownBlock ∧ some k_ ≠ (.slice Ao49 t294.length co49 : Value).ownBlock ∧ some k_ ≠ (.slice Ao50 t297.length co50 : Value).ownBlock ∧ Nm35 ≤ k_ ∧ k_ < Nm43 ∧ k_ < Nm55) (Kd.S_keptB ((Kd.S_mono (ok' := fun k_ => (some k_ ≠ (.slice Ao31 t276.length co31 : Value).ownBlock ∧ (some k_ ≠ (.slice Ao32 t279.length co32 : Value).ownBlock ∧ (some k_ ≠ (.slice Ao41 t314.length co41 : Value).ownBlock ∧ (some k_ ≠ (.slice Ao49 t294.length co49 : Value).ownBlock ∧ (some k_ ≠ (.slice Ao50 t297.length co50 : Value).ownBlock ∧ (Nm35 ≤ k_ ∧ (k_ < Nm43 ∧ k_ < Nm55))))))) ∧ ¬ (fun k_ => ((some k_ ≠ (.slice Ao31 t276.length co31 : Value).ownBlock ∧ (some k_ ≠ (.slice Ao32 t279.length co32 : Value).ownBlock ∧ (some k_ ≠ (.slice Ao40 t313.length co40 : Value).ownBlock ∧ (some k_ ≠ (.slice Ao41 t314.length co41 : Value).ownBlock ∧ (some k_ ≠ (.slice Ao50 t297.length co50 : Value).ownBlock ∧ (Nm43 ≤ k_ ∧ k_ < Nm55))))))) ∧ k_ ≠ gb265 ∧ k_ ≠ gb283 ∧ k_ ≠ gb292 ∧ k_ ≠ gb301) k_) HO_293001.out (fun k_ hk => ⟨hk, fun hp_ => Nat.not_le.2 (hk.2.2.2.2.2.2.1) (hp_.1.2.2.2.2.2.1)⟩))) hkp (fun k_ hk_ hs_ => Or.elim hs_ (fun e_ => (hk_.2) e_) (fun e_ => (hk_.1.2.2.2.2.1) e_))) (fun k_ hk_ => ⟨hk_.1.1.1, hk_.1.1.2.1, hk_.1.1.2.2.1, hk_.1.1.2.2.2.1, hk_.1.1.2.2.2.2.1, hk_.1.1.2.2.2.2.2.1, hk_.1.1.2.2.2.2.2.2.1, hk_.1.1.2.2.2.2.2.2.2⟩)); have n3_ := Aside0.mk (Kd.R_mono (ok' := fun k_ => some k_ ≠ (.slice Ao32 t279.length co32 : Value).ownBlock ∧ some k_ ≠ (.slice Ao50 t297.length co50 : Value).ownBlock) (Kd.R_keptB ((Kd.R_mono (ok' := fun k_ => (some k_ ≠ (.slice Ao32 t279.length co32 : Value).ownBlock ∧ some k_ ≠ (.slice Ao50 t297.length co50 : Value).ownBlock) ∧ ¬ (fun k_ => ((some k_ ≠ (.slice Ao31 t276.length co31 : Value).ownBlock ∧ (some k_ ≠ (.slice Ao32 t279.length co32 : Value).ownBlock ∧ (some k_ ≠ (.slice Ao40 t313.length co40 : Value).ownBlock ∧ (some k_ ≠ (.slice Ao41 t314.length co41 : Value).ownBlock ∧ (some k_ ≠ (.slice Ao50 t297.length co50 : Value).ownBlock ∧ (Nm43 ≤ k_ ∧ k_ < Nm55))))))) ∧ k_ ≠ gb265 ∧ k_ ≠ gb283 ∧ k_ ≠ gb292 ∧ k_ ≠ gb301) k_) (Kd.R_tight2 rfl HO_293002.out) (fun k_ hk => ⟨hk.2, fun hp_ => (hp_.1.2.2.2.1) hk.1⟩))) hkp (fun k_ hk_ hs_ => Or.elim hs_ (fun e_ => (hk_.2) e_) (fun e_ => (hk_.1.2) e_))) (fun k_ hk_ => ⟨hk_.1.1.1, hk_.1.1.2⟩)); have n4_ := Aside0.mk (Kd.S_mono hy0 (fun k_ hk_ => hk_.1)); have n5_ := Aside0.mk (Kd.R_reok rfl hy1 (fun k_ e_ => HO_302002.out.1 k_ e_)); have n6_ := Aside0.mk (blk_kept (bz BK265) hkp (fun hs_ => Or.elim hs_ (fun e_ => (fun e_ => (e_.2.1) rfl) e_) (fun e_ => (fun e_ => (Kd.R_ne HO_302002.out BK265.out (by decide)) e_) e_))); have n7_ := Aside0.mk (blk_kept (bz BK283) hkp (fun hs_ => Or.elim hs_ (fun e_ => (fun e_ => (e_.2.2.1) rfl) e_) (fun e_ => (fun e_ => (Kd.R_ne HO_302002.out BK283.out (by decide)) e_) e_))); have n8_ := Aside0.mk (blk_kept (bz BK292) hkp (fun hs_ => Or.elim hs_ (fun e_ => (fun e_ => (e_.2.2.2.1) rfl) e_) (fun e_ => (fun e_ => (Kd.R_ne HO_302002.out BK292.out (by decide)) e_) e_))); have n9_ := Aside0.mk (blk_kept (bz BK301) hkp (fun hs_ => Or.elim hs_ (fun e_ => (fun e_ => (e_.2.2.2.2) rfl) e_) (fun e_ => (fun e_ => (Kd.R_ne HO_302002.out BK301.out (by decide)) e_) e_))); have n10_ := Aside0.mk (hb); clear HO_284001 HO_284002 HO_293001 HO_293002 HO_302001 HO_302002 BK265 BK283 BK292 BK301 HB; have HO_284001 := n0_; have HO_284002 := n1_; have HO_293001 := n2_; have HO_293002 := n3_; have HO_302001 := n4_; have HO_302002 := n5_; have BK265 := n6_; have BK283 := n7_; have BK292 := n8_; have BK301 := n9_; have HB := n10_; clear n0_ n1_ n2_ n3_ n4_ n5_ n6_ n7_ n8_ n9_ n10_; (try clear hb); (try clear hkp); (try clear hy0); (try clear hy1); have hcz88_0 := cz0 BK301; have hcz88_1 := cz1 BK301; have hcz88_2 := cz2 BK301; have hcz88_3 := cz3 BK301; have hfz88_0 := blk_frozen BK301.out 0; have hfz88_1 := blk_frozen BK301.out 1; have hfz88_2 := blk_frozen BK301.out 2; have hfz88_3 := blk_frozen BK301.out 3) | ((with_reducible refine gate_callee (f := 43) rfl ?_); refine goesL_ (some 48) rfl rfl Try.func43 kr rfl #[.agg #[.int .i64 t293, .slice Ao49 t317.length co49, .slice Ao50 t318.length co50, .int .i64 t300], .int .i64 1] rfl (by (try simp only [List.map_toArray, List.map_cons, List.map_nil]); first | done | (rw [show t317.length = t294.length from (Kd.S_reads' HO_302001.out).1.symm, show t318.length = t297.length from (Kd.R_reads' HO_302002.out).1.symm] <;> rfl) | rfl | (simp only [List.length_drop, List.length_take]; rfl)) ?_; (with_reducible refine (laws_heldCourt.calls kj16 t293 _ _ t317 _ _ t318 t300 1 t319 _ ?side1 ?side2 ?side3 ?side4 A73.out).mono ?_); (case side1 => repeat (first | exact (Kd.S_reads' HO_302001.out).2.2 | (with_reducible refine Kd.C_alloc ?_ _) | (with_reducible refine Kd.C_drewN ?_ _) | (with_reducible refine Kd.C_drew ?_))); (case side2 => rw [show t317.length = t294.length from (Kd.S_reads' HO_302001.out).1.symm]; exact (Kd.S_reads' HO_302001.out).2.1); (case side3 => repeat (first | exact (Kd.R_reads' HO_302002.out).2.2 | (with_reducible refine Kd.C_alloc ?_ _) | (with_reducible refine Kd.C_drewN ?_ _) | (with_reducible refine Kd.C_drew ?_))); (case side4 => rw [show t318.length = t297.length from (Kd.R_reads' HO_302002.out).1.symm]; exact (Kd.R_reads' HO_302002.out).2.1); rintro e w89 ⟨rfl, hb⟩; refine ⟨_, rfl, ?_⟩; have n0_ := Aside0.mk (Kd.S_below (sz HO_284001) hb); have n1_ := Aside0.mk (Kd.R_below (rz HO_284002) hb); have n2_ := Aside0.mk (Kd.S_below (sz HO_293001) hb); have n3_ := Aside0.mk (Kd.R_below (rz HO_293002) hb); have n4_ := Aside0.mk (Kd.S_below (sz HO_302001) hb); have n5_ := Aside0.mk (Kd.R_below (rz HO_302002) hb); have n6_ := Aside0.mk (blk_below (bz BK265) hb); have n7_ := Aside0.mk (blk_below (bz BK283) hb); have n8_ := Aside0.mk (blk_below (bz BK292) hb); have n9_ := Aside0.mk (blk_below (bz BK301) hb); have n10_ := Aside0.mk (below_step bh hb); clear HO_284001 HO_284002 HO_293001 HO_293002 HO_302001 HO_302002 BK265 BK283 BK292 BK301 HB; have HO_284001 := n0_; have HO_284002 := n1_; have HO_293001 := n2_; have HO_293002 := n3_; have HO_302001 := n4_; have HO_302002 := n5_; have BK265 := n6_; have BK283 := n7_; have BK292 := n8_; have BK301 := n9_; have HB := n10_; clear n0_ n1_ n2_ n3_ n4_ n5_ n6_ n7_ n8_ n9_ n10_; (try clear hb); (try clear hb2); (try clear hk); (try clear hi); have hnb90 := NB265_283.out; have hnc90 := NB283_265.out; have hnb91 := NB265_292.out; have hnc91 := NB292_265.out; have hcz92_0 := cz0 BK265; have hcz92_1 := cz1 BK265; have hcz92_2 := cz2 BK265; have hcz92_3 := cz3 BK265; have hfz92_0 := blk_frozen BK265.out 0; have hfz92_1 := blk_frozen BK265.out 1; have hfz92_2 := blk_frozen BK265.out 2; have hfz92_3 := blk_frozen BK265.out 3) | ((with_reducible refine gate_callee (f := 18) rfl ?_); refine goesL_ (some 55) rfl rfl Try.func18 kr rfl #[.agg #[.int .i64 a0_0, .slice A0_1 l0_1.length c0_1, .slice A0_2 l0_2.length c0_2, .int .i64 a0_3]] rfl lm ?_; (with_reducible refine (laws_toCourt.calls kj16 a0_0 _ _ l0_1 _ _ l0_2 a0_3 t320 t321 t324 t327 _ ?side1 ?side2 ?side3 ?side4 A76.out).mono ?_); (case side1 => repeat (first | exact (Kd.C_below HR0_1.out HB.out) | (with_reducible refine Kd.C_alloc ?_ _) | (with_reducible refine Kd.C_drewN ?_ _) | (with_reducible refine Kd.C_drew ?_))); (case side2 => exact HC0_1.out); (case side3 => repeat (first | exact (Kd.C_below HR0_2.out HB.out) | (with_reducible refine Kd.C_alloc ?_ _) | (with_reducible refine Kd.C_drewN ?_ _) | (with_reducible refine Kd.C_drew ?_))); (case side4 => exact HC0_2.out); rintro e w93 ⟨v322, v325, rfl, ho0, ho1, hb⟩; refine ⟨_, rfl, ?_⟩; obtain ⟨Nm94, hNm94⟩ := S_num ho0; have n0_ := Aside0.mk (S_ltN (Kd.S_told (Kd.S_told (Kd.S_old (sz HO_284001) hb) (Kd.S_base ho0)) (Kd.R_base ho1)) hNm94); have n1_ := Aside0.mk (Kd.R_elder' (rz HO_284002) (Kd.R_base ho1) hb); have n2_ := Aside0.mk (S_ltN (Kd.S_told (Kd.S_told (Kd.S_old (sz HO_293001) hb) (Kd.S_base ho0)) (Kd.R_base ho1)) hNm94); have n3_ := Aside0.mk (Kd.R_elder' (rz HO_293002) (Kd.R_base ho1) hb); have n4_ := Aside0.mk (S_ltN (Kd.S_told (Kd.S_told (Kd.S_old (sz HO_302001) hb) (Kd.S_base ho0)) (Kd.R_base ho1)) hNm94); have n5_ := Aside0.mk (Kd.R_elder' (rz HO_302002) (Kd.R_base ho1) hb); have n6_ := Aside0.mk (Kd.S_lower (Kd.S_new' (Kd.S_new' (Kd.S_new' (Kd.S_new' (Kd.S_new' (Kd.S_new' (S_geN ho0 hNm94) (Kd.S_lt (sz HO_284001))) (Kd.R_lt (rz HO_284002))) (Kd.S_lt (sz HO_293001))) (Kd.R_lt (rz HO_293002))) (Kd.S_lt (sz HO_302001))) (Kd.R_lt (rz HO_302002))) (below_size bh)); have n7_ := Aside0.mk (Kd.R_lower (Kd.R_new' (Kd.R_new' (Kd.R_new' ho1 (Kd.R_lt (rz HO_284002))) (Kd.R_lt (rz HO_293002))) (Kd.R_lt (rz HO_302002))) (below_size bh)); have n8_ := Aside0.mk (blk_below (bz BK265) hb); have n9_ := Aside0.mk (blk_below (bz BK283) hb); have n10_ := Aside0.mk (blk_below (bz BK292) hb); have n11_ := Aside0.mk (blk_below (bz BK301) hb); have n12_ := Aside0.mk (below_step bh hb); clear HO_284001 HO_284002 HO_293001 HO_293002 HO_302001 HO_302002 BK265 BK283 BK292 BK301 HB; have HO_284001 := n0_; have HO_284002 := n1_; have HO_293001 := n2_; have HO_293002 := n3_; have HO_302001 := n4_; have HO_302002 := n5_; have HO323 := n6_; have HO326 := n7_; have BK265 := n8_; have BK283 := n9_; have BK292 := n10_; have BK301 := n11_; have HB := n12_; clear n0_ n1_ n2_ n3_ n4_ n5_ n6_ n7_ n8_ n9_ n10_ n11_ n12_; (try clear hb); (try clear hb2); (try clear hk); (try clear hi); (try clear ho0); (try clear ho1); obtain ⟨Ao95, co95, eo95⟩ := Kd.S_slice HO323.out; subst eo95; obtain ⟨Ao96, co96, eo96⟩ := Kd.R_slice HO326.out; subst eo96) | ((with_reducible refine gate_callee (f := 34) rfl ?_); refine goesL_ (some 56) rfl rfl Try.func34 kr rfl #[.agg #[.int .i64 t320, .slice Ao95 t321.length co95, .slice Ao96 t324.length co96, .int .i64 t327]] rfl lm ?_; (with_reducible refine (impl_FilledCourt.calls kj16 t320 _ _ t321 _ _ t324 t327 t328 t329 t332 t335 _ ?side1 ?side2 ?side3 ?side4 A77.out).mono ?_); (case side1 => repeat (first | exact (Kd.S_reads' HO323.out).2.2 | (with_reducible refine Kd.C_alloc ?_ _) | (with_reducible refine Kd.C_drewN ?_ _) | (with_reducible refine Kd.C_drew ?_))); (case side2 => exact (Kd.S_reads' HO323.out).2.1); (case side3 => repeat (first | exact (Kd.R_reads' HO326.out).2.2 | (with_reducible refine Kd.C_alloc ?_ _) | (with_reducible refine Kd.C_drewN ?_ _) | (with_reducible refine Kd.C_drew ?_))); (case side4 => exact (Kd.R_reads' HO326.out).2.1); rintro e w97 ⟨v330, v333, rfl, ho0, ho1, hb⟩; refine ⟨_, rfl, ?_⟩; obtain ⟨Nm98, hNm98⟩ := S_num ho0; have n0_ := Aside0.mk (S_ltN (Kd.S_told (Kd.S_told (Kd.S_old (sz HO_284001) hb) (Kd.S_base ho0)) (Kd.R_base ho1)) hNm98); have n1_ := Aside0.mk (Kd.R_elder' (rz HO_284002) (Kd.R_base ho1) hb); have n2_ := Aside0.mk (S_ltN (Kd.S_told (Kd.S_told (Kd.S_old (sz HO_293001) hb) (Kd.S_base ho0)) (Kd.R_base ho1)) hNm98); have n3_ := Aside0.mk (Kd.R_elder' (rz HO_293002) (Kd.R_base ho1) hb); have n4_ := Aside0.mk (S_ltN (Kd.S_told (Kd.S_told (Kd.S_old (sz HO_302001) hb) (Kd.S_base ho0)) (Kd.R_base ho1)) hNm98); have n5_ := Aside0.mk (Kd.R_elder' (rz HO_302002) (Kd.R_base ho1) hb); have n6_ := Aside0.mk (S_ltN (Kd.S_told (Kd.S_told (Kd.S_old (sz HO323) hb) (Kd.S_base ho0)) (Kd.R_base ho1)) hNm98); have n7_ := Aside0.mk (Kd.R_elder' (rz HO326) (Kd.R_base ho1) hb); have n8_ := Aside0.mk (Kd.S_lower (Kd.S_new' (Kd.S_new' (Kd.S_new' (Kd.S_new' (Kd.S_new' (Kd.S_new' (Kd.S_new' (Kd.S_new' (S_geN ho0 hNm98) (Kd.S_lt (sz HO_284001))) (Kd.R_lt (rz HO_284002))) (Kd.S_lt (sz HO_293001))) (Kd.R_lt (rz HO_293002))) (Kd.S_lt (sz HO_302001))) (Kd.R_lt (rz HO_302002))) (Kd.S_lt (sz HO323))) (Kd.R_lt (rz HO326))) (below_size bh)); have n9_ := Aside0.mk (Kd.R_lower (Kd.R_new' (Kd.R_new' (Kd.R_new' (Kd.R_new' ho1 (Kd.R_lt (rz HO_284002))) (Kd.R_lt (rz HO_293002))) (Kd.R_lt (rz HO_302002))) (Kd.R_lt (rz HO326))) (below_size bh)); have n10_ := Aside0.mk (blk_below (bz BK265) hb); have n11_ := Aside0.mk (blk_below (bz BK283) hb); have n12_ := Aside0.mk (blk_below (bz BK292) hb); have n13_ := Aside0.mk (blk_below (bz BK301) hb); have n14_ := Aside0.mk (below_step bh hb); clear HO_284001 HO_284002 HO_293001 HO_293002 HO_302001 HO_302002 HO323 HO326 BK265 BK283 BK292 BK301 HB; have HO_284001 := n0_; have HO_284002 := n1_; have HO_293001 := n2_; have HO_293002 := n3_; have HO_302001 := n4_; have HO_302002 := n5_; have HO323 := n6_; have HO326 := n7_; have HO331 := n8_; have HO334 := n9_; have BK265 := n10_; have BK283 := n11_; have BK292 := n12_; have BK301 := n13_; have HB := n14_; clear n0_ n1_ n2_ n3_ n4_ n5_ n6_ n7_ n8_ n9_ n10_ n11_ n12_ n13_ n14_; (try clear hb); (try clear hb2); (try clear hk); (try clear hi); (try clear ho0); (try clear ho1)) | ((with_reducible refine gate_dst (N := 10) rfl ?_); refine box_event ?hg (N := 10) ?hd (cs := #[.int .i64 0, .slice none 0 0, .slice none 0 0, .int .i64 0]) (t := 28) ?hr ?_; (case hd => rfl); (case hg => rfl); (case hr => first | (go_simp; done) | (go_simp; rfl)); intro gb336 hg w99 hbox hb; have n0_ := Aside0.mk (Kd.S_below (sz HO_284001) hb); have n1_ := Aside0.mk (Kd.R_below (rz HO_284002) hb); have n2_ := Aside0.mk (Kd.S_below (sz HO_293001) hb); have n3_ := Aside0.mk (Kd.R_below (rz HO_293002) hb); have n4_ := Aside0.mk (Kd.S_below (sz HO_302001) hb); have n5_ := Aside0.mk (Kd.R_below (rz HO_302002) hb); have n6_ := Aside0.mk (Kd.S_below (sz HO323) hb); have n7_ := Aside0.mk (Kd.R_below (rz HO326) hb); have n8_ := Aside0.mk (Kd.S_below (sz HO331) hb); have n9_ := Aside0.mk (Kd.R_below (rz HO334) hb); have n10_ := Aside0.mk (blk_below (bz BK265) hb); have n11_ := Aside0.mk (blk_below (bz BK283) hb); have n12_ := Aside0.mk (blk_below (bz BK292) hb); have n13_ := Aside0.mk (blk_below (bz BK301) hb); have n14_ := Aside0.mk (below_step bh hb); have n15_ := Aside0.mk (hbox); have n16_ := Aside0.mk ((gs (W0 := w) hg bh)); have n17_ := Aside0.mk ((gs (W0 := w) hg bh)); have n18_ := Aside0.mk ((gn hg (bz BK265))); have n19_ := Aside0.mk ((gm hg (bz BK265))); have n20_ := Aside0.mk ((gn hg (bz BK283))); have n21_ := Aside0.mk ((gm hg (bz BK283))); have n22_ := Aside0.mk ((gn hg (bz BK292))); have n23_ := Aside0.mk ((gm hg (bz BK292))); have n24_ := Aside0.mk ((gn hg (bz BK301))); have n25_ := Aside0.mk ((gm hg (bz BK301))); clear HO_284001 HO_284002 HO_293001 HO_293002 HO_302001 HO_302002 HO323 HO326 HO331 HO334 BK265 BK283 BK292 BK301 HB; have HO_284001 := n0_; have HO_284002 := n1_; have HO_293001 := n2_; have HO_293002 := n3_; have HO_302001 := n4_; have HO_302002 := n5_; have HO323 := n6_; have HO326 := n7_; have HO331 := n8_; have HO334 := n9_; have BK265 := n10_; have BK283 := n11_; have BK292 := n12_; have BK301 := n13_; have HB := n14_; have BK336 := n15_; have GW336 := n16_; have GE336 := n17_; have NB265_336 := n18_; have NB336_265 := n19_; have NB283_336 := n20_; have NB336_283 := n21_; have NB292_336 := n22_; have NB336_292 := n23_; have NB301_336 := n24_; have NB336_301 := n25_; clear n0_ n1_ n2_ n3_ n4_ n5_ n6_ n7_ n8_ n9_ n10_ n11_ n12_ n13_ n14_ n15_ n16_ n17_ n18_ n19_ n20_ n21_ n22_ n23_ n24_ n25_ hb hbox hg; have hnb100 := NB336_265.out; have hnc100 := NB265_336.out; have hnb101 := NB336_283.out; have hnc101 := NB283_336.out; have hnb102 := NB336_292.out; have hnc102 := NB292_336.out; have hnb103 := NB336_301.out; have hnc103 := NB301_336.out; have hcz104_0 := cz0 BK336; have hcz104_1 := cz1 BK336; have hcz104_2 := cz2 BK336; have hcz104_3 := cz3 BK336; have hfz104_0 := blk_frozen BK336.out 0; have hfz104_1 := blk_frozen BK336.out 1; have hfz104_2 := blk_frozen BK336.out 2; have hfz104_3 := blk_frozen BK336.out 3; obtain ⟨Ao105, co105, eo105⟩ := Kd.S_slice HO331.out; subst eo105; obtain ⟨Ao106, co106, eo106⟩ := Kd.R_slice HO334.out; subst eo106; have hnb107 := NB283_292.out; have hnc107 := NB292_283.out; have hcz108_0 := cz0 BK283; have hcz108_1 := cz1 BK283; have hcz108_2 := cz2 BK283; have hcz108_3 := cz3 BK283; have hfz108_0 := blk_frozen BK283.out 0; have hfz108_1 := blk_frozen BK283.out 1; have hfz108_2 := blk_frozen BK283.out 2; have hfz108_3 := blk_frozen BK283.out 3) | ((with_reducible refine gate_callee (f := 20) rfl ?_); refine goesL_ (some 59) rfl rfl Try.func20 kr rfl #[.agg #[.int .i64 t328, .slice Ao105 t329.length co105, .slice Ao106 t332.length co106, .int .i64 t335], .agg #[.int .i64 t275, .slice Ao31 t276.length co31, .slice Ao32 t279.length co32, .int .i64 t282]] rfl lm ?_; (with_reducible refine (laws_eqCourt.calls kj16 t328 _ _ t329 _ _ t332 t335 t275 _ _ t276 _ _ t279 t282 true _ ?side1 ?side2 ?side3 ?side4 ?side5 ?side6 ?side7 ?side8 A78.out).mono ?_); (case side1 => refine (Kd.S_reads' (e := 23) (base := w.heap.size) (ok := fun k_ => (((((((((some k_ ≠ (.slice Ao106 t332.length co106 : Value).ownBlock ∧ Nm98 ≤ k_) ∧ some k_ ≠ (.slice Ao31 t276.length co31 : Value).ownBlock) ∧ some k_ ≠ (.slice Ao32 t279.length co32 : Value).ownBlock) ∧ some k_ ≠ (.slice Ao40 t313.length co40 : Value).ownBlock) ∧ some k_ ≠ (.slice Ao41 t314.length co41 : Value).ownBlock) ∧ some k_ ≠ (.slice Ao49 t294.length co49 : Value).ownBlock) ∧ some k_ ≠ (.slice Ao50 t297.length co50 : Value).ownBlock) ∧ some k_ ≠ (.slice Ao95 t321.length co95 : Value).ownBlock) ∧ some k_ ≠ (.slice Ao96 t324.length co96 : Value).ownBlock)) (n := t329.length) (c := co105) ?_).2.2; exact (fS HO331 BK336)); (case side2 => exact (Kd.S_reads' HO331.out).2.1); (case side3 => refine (Kd.R_reads' (e := 3) (base := w.heap.size) (ok := fun k_ => ((((True ∧ some k_ ≠ (.slice Ao32 t279.length co32 : Value).ownBlock) ∧ some k_ ≠ (.slice Ao41 t314.length co41 : Value).ownBlock) ∧ some k_ ≠ (.slice Ao50 t297.length co50 : Value).ownBlock) ∧ some k_ ≠ (.slice Ao96 t324.length co96 : Value).ownBlock)) (n := t332.length) (c := co106) ?_).2.2; exact (fR HO334 BK336)); (case side4 => exact (Kd.R_reads' HO334.out).2.1); (case side5 => refine (Kd.S_reads' (e := 23) (base := w.heap.size) (ok := fun k_ => (((((((some k_ ≠ (.slice Ao32 t279.length co32 : Value).ownBlock ∧ (some k_ ≠ (.slice Ao40 t313.length co40 : Value).ownBlock ∧ (some k_ ≠ (.slice Ao41 t314.length co41 : Value).ownBlock ∧ (some k_ ≠ (.slice Ao49 t294.length co49 : Value).ownBlock ∧ (some k_ ≠ (.slice Ao50 t297.length co50 : Value).ownBlock ∧ (Nm27 ≤ k_ ∧ (k_ < Nm35 ∧ (k_ < Nm43 ∧ k_ < Nm55)))))))) ∧ some k_ ≠ (.slice Ao95 t321.length co95 : Value).ownBlock) ∧ some k_ ≠ (.slice Ao96 t324.length co96 : Value).ownBlock) ∧ k_ < Nm94) ∧ some k_ ≠ (.slice Ao105 t329.length co105 : Value).ownBlock) ∧ some k_ ≠ (.slice Ao106 t332.length co106 : Value).ownBlock) ∧ k_ < Nm98)) (n := t276.length) (c := co31) ?_).2.2; exact (fS HO_284001 BK336)); (case side6 => exact (Kd.S_reads' HO_284001.out).2.1); (case side7 => refine (Kd.R_reads' (e := 3) (base := w.heap.size) (ok := fun k_ => (((some k_ ≠ (.slice Ao41 t314.length co41 : Value).ownBlock ∧ some k_ ≠ (.slice Ao50 t297.length co50 : Value).ownBlock) ∧ some k_ ≠ (.slice Ao96 t324.length co96 : Value).ownBlock) ∧ some k_ ≠ (.slice Ao106 t332.length co106 : Value).ownBlock)) (n := t279.length) (c := co32) ?_).2.2; exact (fR HO_284002 BK336)); (case side8 => exact (Kd.R_reads' HO_284002.out).2.1); rintro e w109 ⟨rfl, hb⟩; refine ⟨_, rfl, ?_⟩; have n0_ := Aside0.mk (Kd.S_below (fS HO_284001 BK336) hb); have n1_ := Aside0.mk (Kd.R_below (fR HO_284002 BK336) hb); have n2_ := Aside0.mk (Kd.S_below (fS HO_293001 BK336) hb); have n3_ := Aside0.mk (Kd.R_below (fR HO_293002 BK336) hb); have n4_ := Aside0.mk (Kd.S_below (fS HO_302001 BK336) hb); have n5_ := Aside0.mk (Kd.R_below (fR HO_302002 BK336) hb); have n6_ := Aside0.mk (Kd.S_below (fS HO323 BK336) hb); have n7_ := Aside0.mk (Kd.R_below (fR HO326 BK336) hb); have n8_ := Aside0.mk (Kd.S_below (fS HO331 BK336) hb); have n9_ := Aside0.mk (Kd.R_below (fR HO334 BK336) hb); have n10_ := Aside0.mk (blk_below (g := gb265) (o := .cells #[.int .i64 a0_0, .slice A0_1 l0_1.length c0_1, .slice A0_2 l0_2.length c0_2, .int .i64 a0_3] 25 (0, 0)) (bf NB265_336 BK265) hb); have n11_ := Aside0.mk (blk_below (g := gb283) (o := .cells #[.int .i64 t275, .slice Ao31 t276.length co31, .slice Ao32 t279.length co32, .int .i64 t282] 28 (0, 0)) (bf NB283_336 BK283) hb); have n12_ := Aside0.mk (blk_below (g := gb292) (o := .cells #[.int .i64 t284, .slice Ao40 t313.length co40, .slice Ao41 t314.length co41, .int .i64 t291] 28 (0, 0)) (bf NB292_336 BK292) hb); have n13_ := Aside0.mk (blk_below (g := gb301) (o := .cells #[.int .i64 t293, .slice Ao49 t294.length co49, .slice Ao50 t297.length co50, .int .i64 t300] 28 (0, 0)) (bf NB301_336 BK301) hb); have n14_ := Aside0.mk (blk_below (g := gb336) (o := .cells #[.int .i64 t328, .slice Ao105 t329.length co105, .slice Ao106 t332.length co106, .int .i64 t335] 28 (0, 0)) (bp BK336) hb); have n15_ := Aside0.mk (below_step bh hb); clear HO_284001 HO_284002 HO_293001 HO_293002 HO_302001 HO_302002 HO323 HO326 HO331 HO334 BK265 BK283 BK292 BK301 BK336 HB; have HO_284001 := n0_; have HO_284002 := n1_; have HO_293001 := n2_; have HO_293002 := n3_; have HO_302001 := n4_; have HO_302002 := n5_; have HO323 := n6_; have HO326 := n7_; have HO331 := n8_; have HO334 := n9_; have BK265 := n10_; have BK283 := n11_; have BK292 := n12_; have BK301 := n13_; have BK336 := n14_; have HB := n15_; clear n0_ n1_ n2_ n3_ n4_ n5_ n6_ n7_ n8_ n9_ n10_ n11_ n12_ n13_ n14_ n15_; (try clear hb); (try clear hb2); (try clear hk); (try clear hi); have hcz110_0 := cz0 BK301; have hcz110_1 := cz1 BK301; have hcz110_2 := cz2 BK301; have hcz110_3 := cz3 BK301; have hfz110_0 := blk_frozen BK301.out 0; have hfz110_1 := blk_frozen BK301.out 1; have hfz110_2 := blk_frozen BK301.out 2; have hfz110_3 := blk_frozen BK301.out 3) | ((with_reducible refine gate_callee (f := 43) rfl ?_); refine goesL_ (some 63) rfl rfl Try.func43 kr rfl #[.agg #[.int .i64 t293, .slice Ao49 t317.length co49, .slice Ao50 t318.length co50, .int .i64 t300], .int .i64 1] rfl (by (try simp only [List.map_toArray, List.map_cons, List.map_nil]); first | done | (rw [show t317.length = t294.length from (Kd.S_reads' HO_302001.out).1.symm, show t318.length = t297.length from (Kd.R_reads' HO_302002.out).1.symm] <;> rfl) | rfl | (simp only [List.length_drop, List.length_take]; rfl)) ?_; (with_reducible refine (laws_heldCourt.calls kj16 t293 _ _ t317 _ _ t318 t300 1 t338 _ ?side1 ?side2 ?side3 ?side4 A80.out).mono ?_); (case side1 => repeat (first | exact (Kd.S_reads' HO_302001.out).2.2 | (with_reducible refine Kd.C_alloc ?_ _) | (with_reducible refine Kd.C_drewN ?_ _) | (with_reducible refine Kd.C_drew ?_))); (case side2 => rw [show t317.length = t294.length from (Kd.S_reads' HO_302001.out).1.symm]; exact (Kd.S_reads' HO_302001.out).2.1); (case side3 => repeat (first | exact (Kd.R_reads' HO_302002.out).2.2 | (with_reducible refine Kd.C_alloc ?_ _) | (with_reducible refine Kd.C_drewN ?_ _) | (with_reducible refine Kd.C_drew ?_))); (case side4 => rw [show t318.length = t297.length from (Kd.R_reads' HO_302002.out).1.symm]; exact (Kd.R_reads' HO_302002.out).2.1); rintro e w111 ⟨rfl, hb⟩; refine ⟨_, rfl, ?_⟩; have n0_ := Aside0.mk (Kd.S_below (sz HO_284001) hb); have n1_ := Aside0.mk (Kd.R_below (rz HO_284002) hb); have n2_ := Aside0.mk (Kd.S_below (sz HO_293001) hb); have n3_ := Aside0.mk (Kd.R_below (rz HO_293002) hb); have n4_ := Aside0.mk (Kd.S_below (sz HO_302001) hb); have n5_ := Aside0.mk (Kd.R_below (rz HO_302002) hb); have n6_ := Aside0.mk (Kd.S_below (sz HO323) hb); have n7_ := Aside0.mk (Kd.R_below (rz HO326) hb); have n8_ := Aside0.mk (Kd.S_below (sz HO331) hb); have n9_ := Aside0.mk (Kd.R_below (rz HO334) hb); have n10_ := Aside0.mk (blk_below (bz BK265) hb); have n11_ := Aside0.mk (blk_below (bz BK283) hb); have n12_ := Aside0.mk (blk_below (bz BK292) hb); have n13_ := Aside0.mk (blk_below (bz BK301) hb); have n14_ := Aside0.mk (blk_below (bz BK336) hb); have n15_ := Aside0.mk (below_step bh hb); clear HO_284001 HO_284002 HO_293001 HO_293002 HO_302001 HO_302002 HO323 HO326 HO331 HO334 BK265 BK283 BK292 BK301 BK336 HB; have HO_284001 := n0_; have HO_284002 := n1_; have HO_293001 := n2_; have HO_293002 := n3_; have HO_302001 := n4_; have HO_302002 := n5_; have HO323 := n6_; have HO326 := n7_; have HO331 := n8_; have HO334 := n9_; have BK265 := n10_; have BK283 := n11_; have BK292 := n12_; have BK301 := n13_; have BK336 := n14_; have HB := n15_; clear n0_ n1_ n2_ n3_ n4_ n5_ n6_ n7_ n8_ n9_ n10_ n11_ n12_ n13_ n14_ n15_; (try clear hb); (try clear hb2); (try clear hk); (try clear hi)))
            go_ret
            exact ⟨by first | rfl | (simp [errW_none, errW_some] <;> rfl) | (simp [*, errW_none, errW_some] <;> rfl), by exact bh⟩
           ·rw [if_neg c82] at H
            exact absurd H (by simp)
         ·replace c79 := Bool.eq_false_iff.mpr c79
          subst c79
          have H1 : (none) = some r := by rw [if_neg (show ¬ (false = true) by decide)] at H; exact H
          clear H
          have H := H1
          clear H1
          exact absurd H (by simp)
        ·rw [if_neg c75] at H
         exact absurd H (by simp)
   ·replace c15 := Bool.eq_false_iff.mpr c15
    subst c15
    have H1 : (none) = some r := by rw [if_neg (show ¬ (false = true) by decide)] at H; exact H
    clear H
    have H := H1
    clear H1
    exact absurd H (by simp)
  ·replace c12 := Bool.eq_false_iff.mpr c12
   subst c12
   have H1 : (none) = some r := by rw [if_neg (show ¬ (false = true) by decide)] at H; exact H
   clear H
   have H := H1
   clear H1
   exact absurd H (by simp)

def laws_FnExactFilledCourt.Pure : Prop := ∀ (a0_0 : Int) (l0_1 : List (List Int)) (l0_2 : List Int) (a0_3 : Int), Opens.pInt .i64 a0_0 → Opens.pSlice (Opens.pSlice (Opens.pInt .i64)) l0_1 → Opens.pSlice (Opens.pInt .i64) l0_2 → Opens.pInt .i64 a0_3 → ∃ k, laws_FnExactFilledCourt.f k a0_0 l0_1 l0_2 a0_3 = some true

end Go.Proofs.Ytlpjkeejflogjaa.QFnExactFilledCourt
