-- Printed for this claim by a turned copy of the print (wip/myprint). Lean checks it. Squeezed. Worded. Tightened.
import Derived.Test.YtlpjkeejflogjaaQFnExactAfterDeathx0
import Derived.Test.YtlpjkeejflogjaaQFnExactAfterDeathx1
import Derived.Test.YtlpjkeejflogjaaQFnExactAfterDeathx2
import Derived.Test.YtlpjkeejflogjaaQFnExactAfterDeathx7
import Derived.Test.YtlpjkeejflogjaaQFnExactAfterDeathx12
namespace Go.Proofs.Ytlpjkeejflogjaa.QFnExactAfterDeath
open Go.RowKit Go.Proofs.YtlpjkeejflogjaaW.PrintWords Go.Proofs.YtlpjkeejflogjaaW.PrintLast Go.Proofs.YtlpjkeejflogjaaW.PrintMore
attribute [local go_sem] max2_int min2_int max_two min_two max_three min_three max_four min_four Opens.cell_twice   -- for this text's walks alone
set_option linter.unusedVariables false
set_option linter.unusedSimpArgs false

/-! ### laws_FnExactAfterDeath: function 13 -/
mutual
def laws_FnExactAfterDeath.j0 : Nat → Int → Bool → Bool → Bool → Int → List (List Int) → List Int → Int → Int → List (List Int) → List Int → Int → Int → List (List Int) → List Int → Int → Int → List (List Int) → List Int → Int → Option (Bool)
 | 0, _, _, _, _, _, _, _, _, _, _, _, _, _, _, _, _, _, _, _, _ => none
 | k + 1, x1, x7, x10, x44, x310000, x310001, x310002, x310003, x329000, x329001, x329002, x329003, x338000, x338001, x338002, x338003, x348000, x348001, x348002, x348003 => if x44 = true then (none) else ((laws_toCourt.f k x310000 x310001 x310002 x310003).bind fun bt349 => ((laws_eqCourt.f k x338000 x338001 x338002 x338003 bt349.1 bt349.2.1 bt349.2.2.1 bt349.2.2.2).bind fun t357 => (if t357 = true then ((laws_markCourt.f k x338000 x338001 x338002 x338003 1).bind fun bt358 => (if bt358.1 < 0 then (laws_FnExactAfterDeath.j1 k x1 x7 true x310000 x310001 x310002 x310003 x329000 x329001 x329002 x329003 x348000 x348001 x348002 x348003) else ((laws_eqCourt.f k x348000 x348001 x348002 x348003 x329000 x329001 x329002 x329003).bind fun t361 => (if t361 = true then (laws_FnExactAfterDeath.j1 k x1 x7 (x10 != x7) x310000 x310001 x310002 x310003 x329000 x329001 x329002 x329003 x348000 x348001 x348002 x348003) else (laws_FnExactAfterDeath.j1 k x1 x7 true x310000 x310001 x310002 x310003 x329000 x329001 x329002 x329003 x348000 x348001 x348002 x348003))))) else (none))))
def laws_FnExactAfterDeath.j1 : Nat → Int → Bool → Bool → Int → List (List Int) → List Int → Int → Int → List (List Int) → List Int → Int → Int → List (List Int) → List Int → Int → Option (Bool)
 | 0, _, _, _, _, _, _, _, _, _, _, _, _, _, _, _ => none
 | k + 1, x1, x7, x65, x310000, x310001, x310002, x310003, x329000, x329001, x329002, x329003, x348000, x348001, x348002, x348003 => if x65 = true then (none) else ((laws_markCourt.f k x348000 x348001 x348002 x348003 1).bind fun bt362 => ((laws_heldCourt.f k x348000 bt362.2.1 bt362.2.2 x348003 1).bind fun t365 => (if t365 < 0 then (none) else (if t365 = bt362.1 then ((laws_toCourt.f k x310000 x310001 x310002 x310003).bind fun bt366 => ((impl_AfterDeath.f k bt366.1 bt366.2.1 bt366.2.2.1 bt366.2.2.2 x1).bind fun bt374 => ((laws_eqCourt.f k bt374.1 bt374.2.1 bt374.2.2.1 bt374.2.2.2.1 x329000 x329001 x329002 x329003).bind fun t384 => (if t384 = true then (laws_FnExactAfterDeath.j2 k bt362.1 (bt374.2.2.2.2 != x7) x348000 bt362.2.1 bt362.2.2 x348003) else (laws_FnExactAfterDeath.j2 k bt362.1 true x348000 bt362.2.1 bt362.2.2 x348003))))) else (none)))))
def laws_FnExactAfterDeath.j2 : Nat → Int → Bool → Int → List (List Int) → List Int → Int → Option (Bool)
 | 0, _, _, _, _, _, _ => none
 | k + 1, x12, x92, x348000, x348001, x348002, x348003 => if x92 = true then (none) else ((laws_heldCourt.f k x348000 x348001 x348002 x348003 1).bind fun t385 => (if t385 < 0 then (none) else (if t385 = x12 then (some true) else (none))))
end
def laws_FnExactAfterDeath.f (k : Nat) (a0_0 : Int) (l0_1 : List (List Int)) (l0_2 : List Int) (a0_3 : Int) (a1 : Int) : Option (Bool) := (laws_szCourt.f k a0_0 l0_1 l0_2 a0_3 1048576).bind fun t310 => (if t310 < 0 then (some true) else ((laws_toCourt.f k a0_0 l0_1 l0_2 a0_3).bind fun bt311 => ((spec_AfterDeath.f k bt311.1 bt311.2.1 bt311.2.2.1 bt311.2.2.2 a1).bind fun bt319 => ((laws_toCourt.f k a0_0 l0_1 l0_2 a0_3).bind fun bt329 => ((impl_AfterDeath.f k bt329.1 bt329.2.1 bt329.2.2.1 bt329.2.2.2 a1).bind fun bt338 => ((laws_eqCourt.f k bt338.1 bt338.2.1 bt338.2.2.1 bt338.2.2.2.1 bt319.1 bt319.2.1 bt319.2.2.1 bt319.2.2.2.1).bind fun t348 => (if t348 = true then (laws_FnExactAfterDeath.j0 k a1 bt319.2.2.2.2 bt338.2.2.2.2 (bt338.2.2.2.2 != bt319.2.2.2.2) a0_0 l0_1 l0_2 a0_3 bt319.1 bt319.2.1 bt319.2.2.1 bt319.2.2.2.1 bt329.1 bt329.2.1 bt329.2.2.1 bt329.2.2.2 bt338.1 bt338.2.1 bt338.2.2.1 bt338.2.2.2.1) else (laws_FnExactAfterDeath.j0 k a1 bt319.2.2.2.2 bt338.2.2.2.2 true a0_0 l0_1 l0_2 a0_3 bt319.1 bt319.2.1 bt319.2.2.1 bt319.2.2.2.1 bt329.1 bt329.2.1 bt329.2.2.1 bt329.2.2.2 bt338.1 bt338.2.1 bt338.2.2.1 bt338.2.2.2.1))))))))
theorem laws_FnExactAfterDeath.mono_l : ∀ k, (∀ y0 y1 y2 y3 y4 y5 y6 y7 y8 y9 y10 y11 y12 y13 y14 y15 y16 y17 y18 y19, LeO (laws_FnExactAfterDeath.j0 k y0 y1 y2 y3 y4 y5 y6 y7 y8 y9 y10 y11 y12 y13 y14 y15 y16 y17 y18 y19) (laws_FnExactAfterDeath.j0 (k + 1) y0 y1 y2 y3 y4 y5 y6 y7 y8 y9 y10 y11 y12 y13 y14 y15 y16 y17 y18 y19)) ∧ (∀ y0 y1 y2 y3 y4 y5 y6 y7 y8 y9 y10 y11 y12 y13 y14, LeO (laws_FnExactAfterDeath.j1 k y0 y1 y2 y3 y4 y5 y6 y7 y8 y9 y10 y11 y12 y13 y14) (laws_FnExactAfterDeath.j1 (k + 1) y0 y1 y2 y3 y4 y5 y6 y7 y8 y9 y10 y11 y12 y13 y14)) ∧ (∀ y0 y1 y2 y3 y4 y5, LeO (laws_FnExactAfterDeath.j2 k y0 y1 y2 y3 y4 y5) (laws_FnExactAfterDeath.j2 (k + 1) y0 y1 y2 y3 y4 y5))
 | 0 => ⟨fun _ _ _ _ _ _ _ _ _ _ _ _ _ _ _ _ _ _ _ _ r h => by simp [laws_FnExactAfterDeath.j0] at h, fun _ _ _ _ _ _ _ _ _ _ _ _ _ _ _ r h => by simp [laws_FnExactAfterDeath.j1] at h, fun _ _ _ _ _ _ r h => by simp [laws_FnExactAfterDeath.j2] at h⟩
 | k + 1 => by
  obtain ⟨ih0, ih1, ih2⟩ := laws_FnExactAfterDeath.mono_l k
  refine ⟨?_, ?_, ?_⟩
  ·intro y0 y1 y2 y3 y4 y5 y6 y7 y8 y9 y10 y11 y12 y13 y14 y15 y16 y17 y18 y19
   unfold laws_FnExactAfterDeath.j0
   repeat' first
   | (with_reducible exact ih0 _ _ _ _ _ _ _ _ _ _ _ _ _ _ _ _ _ _ _ _)
   | (with_reducible exact ih1 _ _ _ _ _ _ _ _ _ _ _ _ _ _ _)
   | (with_reducible exact ih2 _ _ _ _ _ _)
   | (with_reducible exact impl_AfterDeath.mono _ _ _ _ _ _)
   | (with_reducible exact laws_eqCourt.mono _ _ _ _ _ _ _ _ _)
   | (with_reducible exact laws_heldCourt.mono _ _ _ _ _ _)
   | (with_reducible exact laws_markCourt.mono _ _ _ _ _ _)
   | (with_reducible exact laws_szCourt.mono _ _ _ _ _ _)
   | (with_reducible exact laws_toCourt.mono _ _ _ _ _)
   | (with_reducible exact spec_AfterDeath.mono _ _ _ _ _ _)
   | (with_reducible exact LeO.refl _)
   | (with_reducible exact LeO.none _)
   | (with_reducible refine LeO.ite ?_ ?_)
   | (with_reducible refine LeO.bind ?_ (fun _ => ?_))
   | exact ih0 _ _ _ _ _ _ _ _ _ _ _ _ _ _ _ _ _ _ _ _
   | exact ih1 _ _ _ _ _ _ _ _ _ _ _ _ _ _ _
   | exact ih2 _ _ _ _ _ _
   | exact impl_AfterDeath.mono _ _ _ _ _ _
   | exact laws_eqCourt.mono _ _ _ _ _ _ _ _ _
   | exact laws_heldCourt.mono _ _ _ _ _ _
   | exact laws_markCourt.mono _ _ _ _ _ _
   | exact laws_szCourt.mono _ _ _ _ _ _
   | exact laws_toCourt.mono _ _ _ _ _
   | exact spec_AfterDeath.mono _ _ _ _ _ _
   | exact LeO.none _
   | refine LeO.ite ?_ ?_
   | refine LeO.bind ?_ (fun _ => ?_)
  ·intro y0 y1 y2 y3 y4 y5 y6 y7 y8 y9 y10 y11 y12 y13 y14
   unfold laws_FnExactAfterDeath.j1
   repeat' first
   | (with_reducible exact ih0 _ _ _ _ _ _ _ _ _ _ _ _ _ _ _ _ _ _ _ _)
   | (with_reducible exact ih1 _ _ _ _ _ _ _ _ _ _ _ _ _ _ _)
   | (with_reducible exact ih2 _ _ _ _ _ _)
   | (with_reducible exact impl_AfterDeath.mono _ _ _ _ _ _)
   | (with_reducible exact laws_eqCourt.mono _ _ _ _ _ _ _ _ _)
   | (with_reducible exact laws_heldCourt.mono _ _ _ _ _ _)
   | (with_reducible exact laws_markCourt.mono _ _ _ _ _ _)
   | (with_reducible exact laws_szCourt.mono _ _ _ _ _ _)
   | (with_reducible exact laws_toCourt.mono _ _ _ _ _)
   | (with_reducible exact spec_AfterDeath.mono _ _ _ _ _ _)
   | (with_reducible exact LeO.refl _)
   | (with_reducible exact LeO.none _)
   | (with_reducible refine LeO.ite ?_ ?_)
   | (with_reducible refine LeO.bind ?_ (fun _ => ?_))
   | exact ih0 _ _ _ _ _ _ _ _ _ _ _ _ _ _ _ _ _ _ _ _
   | exact ih1 _ _ _ _ _ _ _ _ _ _ _ _ _ _ _
   | exact ih2 _ _ _ _ _ _
   | exact impl_AfterDeath.mono _ _ _ _ _ _
   | exact laws_eqCourt.mono _ _ _ _ _ _ _ _ _
   | exact laws_heldCourt.mono _ _ _ _ _ _
   | exact laws_markCourt.mono _ _ _ _ _ _
   | exact laws_szCourt.mono _ _ _ _ _ _
   | exact laws_toCourt.mono _ _ _ _ _
   | exact spec_AfterDeath.mono _ _ _ _ _ _
   | exact LeO.none _
   | refine LeO.ite ?_ ?_
   | refine LeO.bind ?_ (fun _ => ?_)
  ·intro y0 y1 y2 y3 y4 y5
   unfold laws_FnExactAfterDeath.j2
   repeat' first
   | (with_reducible exact ih0 _ _ _ _ _ _ _ _ _ _ _ _ _ _ _ _ _ _ _ _)
   | (with_reducible exact ih1 _ _ _ _ _ _ _ _ _ _ _ _ _ _ _)
   | (with_reducible exact ih2 _ _ _ _ _ _)
   | (with_reducible exact impl_AfterDeath.mono _ _ _ _ _ _)
   | (with_reducible exact laws_eqCourt.mono _ _ _ _ _ _ _ _ _)
   | (with_reducible exact laws_heldCourt.mono _ _ _ _ _ _)
   | (with_reducible exact laws_markCourt.mono _ _ _ _ _ _)
   | (with_reducible exact laws_szCourt.mono _ _ _ _ _ _)
   | (with_reducible exact laws_toCourt.mono _ _ _ _ _)
   | (with_reducible exact spec_AfterDeath.mono _ _ _ _ _ _)
   | (with_reducible exact LeO.refl _)
   | (with_reducible exact LeO.none _)
   | (with_reducible refine LeO.ite ?_ ?_)
   | (with_reducible refine LeO.bind ?_ (fun _ => ?_))
   | exact ih0 _ _ _ _ _ _ _ _ _ _ _ _ _ _ _ _ _ _ _ _
   | exact ih1 _ _ _ _ _ _ _ _ _ _ _ _ _ _ _
   | exact ih2 _ _ _ _ _ _
   | exact impl_AfterDeath.mono _ _ _ _ _ _
   | exact laws_eqCourt.mono _ _ _ _ _ _ _ _ _
   | exact laws_heldCourt.mono _ _ _ _ _ _
   | exact laws_markCourt.mono _ _ _ _ _ _
   | exact laws_szCourt.mono _ _ _ _ _ _
   | exact laws_toCourt.mono _ _ _ _ _
   | exact spec_AfterDeath.mono _ _ _ _ _ _
   | exact LeO.none _
   | refine LeO.ite ?_ ?_
   | refine LeO.bind ?_ (fun _ => ?_)
theorem laws_FnExactAfterDeath.mono : ∀ a0 a1 a2 a3 a4 k, LeO (laws_FnExactAfterDeath.f k a0 a1 a2 a3 a4) (laws_FnExactAfterDeath.f (k + 1) a0 a1 a2 a3 a4) := by
 intro a0 a1 a2 a3 a4 k
 obtain ⟨ih0, ih1, ih2⟩ := laws_FnExactAfterDeath.mono_l k
 unfold laws_FnExactAfterDeath.f
 repeat' first
   | (with_reducible exact ih0 _ _ _ _ _ _ _ _ _ _ _ _ _ _ _ _ _ _ _ _)
   | (with_reducible exact ih1 _ _ _ _ _ _ _ _ _ _ _ _ _ _ _)
   | (with_reducible exact ih2 _ _ _ _ _ _)
   | (with_reducible exact impl_AfterDeath.mono _ _ _ _ _ _)
   | (with_reducible exact laws_eqCourt.mono _ _ _ _ _ _ _ _ _)
   | (with_reducible exact laws_heldCourt.mono _ _ _ _ _ _)
   | (with_reducible exact laws_markCourt.mono _ _ _ _ _ _)
   | (with_reducible exact laws_szCourt.mono _ _ _ _ _ _)
   | (with_reducible exact laws_toCourt.mono _ _ _ _ _)
   | (with_reducible exact spec_AfterDeath.mono _ _ _ _ _ _)
   | (with_reducible exact LeO.refl _)
   | (with_reducible exact LeO.none _)
   | (with_reducible refine LeO.ite ?_ ?_)
   | (with_reducible refine LeO.bind ?_ (fun _ => ?_))
   | exact ih0 _ _ _ _ _ _ _ _ _ _ _ _ _ _ _ _ _ _ _ _
   | exact ih1 _ _ _ _ _ _ _ _ _ _ _ _ _ _ _
   | exact ih2 _ _ _ _ _ _
   | exact impl_AfterDeath.mono _ _ _ _ _ _
   | exact laws_eqCourt.mono _ _ _ _ _ _ _ _ _
   | exact laws_heldCourt.mono _ _ _ _ _ _
   | exact laws_markCourt.mono _ _ _ _ _ _
   | exact laws_szCourt.mono _ _ _ _ _ _
   | exact laws_toCourt.mono _ _ _ _ _
   | exact spec_AfterDeath.mono _ _ _ _ _ _
   | exact LeO.none _
   | refine LeO.ite ?_ ?_
   | refine LeO.bind ?_ (fun _ => ?_)
set_option maxHeartbeats 8000000 in
set_option maxRecDepth 100000 in
theorem laws_FnExactAfterDeath.calls (k : Nat) (a0_0 : Int) (A0_1 : Option Addr) (c0_1 : Nat) (l0_1 : List (List Int)) (A0_2 : Option Addr) (c0_2 : Nat) (l0_2 : List Int) (a0_3 : Int) (a1 : Int) (r : Bool) (w : World) (hr0_1 : Kd.C (Kd.slice 3 (Kd.int .i64)) w A0_1 l0_1.length l0_1) (hc0_1 : l0_1.length ≤ c0_1) (hr0_2 : Kd.C (Kd.int .i64) w A0_2 l0_2.length l0_2) (hc0_2 : l0_2.length ≤ c0_2) (h : laws_FnExactAfterDeath.f k a0_0 l0_1 l0_2 a0_3 a1 = some r) :
  Calls Try.prog 13 #[.agg #[.int .i64 a0_0, .slice A0_1 l0_1.length c0_1, .slice A0_2 l0_2.length c0_2, .int .i64 a0_3], .int .i64 a1] w fun e w' => e = .returned (.bool r) ∧ Below w.heap.size w w' := by
 have hu25 := Try.underlying25
 have hu28 := Try.underlying28
 have HR0_1 := Aside0.mk hr0_1
 have HC0_1 := Aside0.mk hc0_1
 clear hr0_1 hc0_1
 have HR0_2 := Aside0.mk hr0_2
 have HC0_2 := Aside0.mk hc0_2
 clear hr0_2 hc0_2
 have HB := Aside0.mk (Below.refl w.heap.size w)
 have H : ((laws_szCourt.f k a0_0 l0_1 l0_2 a0_3 1048576).bind fun t310 => (if t310 < 0 then (some true) else ((laws_toCourt.f k a0_0 l0_1 l0_2 a0_3).bind fun bt311 => ((spec_AfterDeath.f k bt311.1 bt311.2.1 bt311.2.2.1 bt311.2.2.2 a1).bind fun bt319 => ((laws_toCourt.f k a0_0 l0_1 l0_2 a0_3).bind fun bt329 => ((impl_AfterDeath.f k bt329.1 bt329.2.1 bt329.2.2.1 bt329.2.2.2 a1).bind fun bt338 => ((laws_eqCourt.f k bt338.1 bt338.2.1 bt338.2.2.1 bt338.2.2.2.1 bt319.1 bt319.2.1 bt319.2.2.1 bt319.2.2.2.1).bind fun t348 => (if t348 = true then (laws_FnExactAfterDeath.j0 k a1 bt319.2.2.2.2 bt338.2.2.2.2 (bt338.2.2.2.2 != bt319.2.2.2.2) a0_0 l0_1 l0_2 a0_3 bt319.1 bt319.2.1 bt319.2.2.1 bt319.2.2.2.1 bt329.1 bt329.2.1 bt329.2.2.1 bt329.2.2.2 bt338.1 bt338.2.1 bt338.2.2.1 bt338.2.2.2.1) else (laws_FnExactAfterDeath.j0 k a1 bt319.2.2.2.2 bt338.2.2.2.2 true a0_0 l0_1 l0_2 a0_3 bt319.1 bt319.2.1 bt319.2.2.1 bt319.2.2.2.1 bt329.1 bt329.2.1 bt329.2.2.1 bt329.2.2.2 bt338.1 bt338.2.1 bt338.2.2.1 bt338.2.2.2.1))))))))) = some r := h
 clear h
 replace H := Option.bind_eq_some_iff.mp H
 obtain ⟨t310, A30, H⟩ := H
 replace H : (if t310 < 0 then (some true) else ((laws_toCourt.f k a0_0 l0_1 l0_2 a0_3).bind fun bt311 => ((spec_AfterDeath.f k bt311.1 bt311.2.1 bt311.2.2.1 bt311.2.2.2 a1).bind fun bt319 => ((laws_toCourt.f k a0_0 l0_1 l0_2 a0_3).bind fun bt329 => ((impl_AfterDeath.f k bt329.1 bt329.2.1 bt329.2.2.1 bt329.2.2.2 a1).bind fun bt338 => ((laws_eqCourt.f k bt338.1 bt338.2.1 bt338.2.2.1 bt338.2.2.2.1 bt319.1 bt319.2.1 bt319.2.2.1 bt319.2.2.2.1).bind fun t348 => (if t348 = true then (laws_FnExactAfterDeath.j0 k a1 bt319.2.2.2.2 bt338.2.2.2.2 (bt338.2.2.2.2 != bt319.2.2.2.2) a0_0 l0_1 l0_2 a0_3 bt319.1 bt319.2.1 bt319.2.2.1 bt319.2.2.2.1 bt329.1 bt329.2.1 bt329.2.2.1 bt329.2.2.2 bt338.1 bt338.2.1 bt338.2.2.1 bt338.2.2.2.1) else (laws_FnExactAfterDeath.j0 k a1 bt319.2.2.2.2 bt338.2.2.2.2 true a0_0 l0_1 l0_2 a0_3 bt319.1 bt319.2.1 bt319.2.2.1 bt319.2.2.2.1 bt329.1 bt329.2.1 bt329.2.2.1 bt329.2.2.2 bt338.1 bt338.2.1 bt338.2.2.1 bt338.2.2.2.1)))))))) = some r := H
 have A3 := Aside0.mk A30
 clear A30
 by_cases c4 : t310 < 0
 ·rw [if_pos c4] at H
  have c4b0 : decide (t310 < 0) = true := decide_eq_true c4
  clear c4
  obtain rfl := Option.some.inj H
  go_enter Try.func13, Try.ntmps13
  go_wp2_with (first | ((with_reducible refine gate_dst (N := 2) rfl ?_); refine box_event ?hg (N := 2) ?hd (cs := #[.int .i64 a0_0, .slice A0_1 l0_1.length c0_1, .slice A0_2 l0_2.length c0_2, .int .i64 a0_3]) (t := 25) ?hr ?_; (case hd => rfl); (case hg => rfl); (case hr => first | (go_simp; done) | (go_simp; rfl)); intro gb309 hg w5 hbox hb; have n0_ := Aside0.mk (below_step bh hb); have n1_ := Aside0.mk (hbox); have n2_ := Aside0.mk ((gs (W0 := w) hg bh)); have n3_ := Aside0.mk ((gs (W0 := w) hg bh)); clear HB; have HB := n0_; have BK309 := n1_; have GW309 := n2_; have GE309 := n3_; clear n0_ n1_ n2_ n3_ hb hbox hg; have hcz6_0 := cz0 BK309; have hcz6_1 := cz1 BK309; have hcz6_2 := cz2 BK309; have hcz6_3 := cz3 BK309; have hfz6_0 := blk_frozen BK309.out 0; have hfz6_1 := blk_frozen BK309.out 1; have hfz6_2 := blk_frozen BK309.out 2; have hfz6_3 := blk_frozen BK309.out 3) | ((with_reducible refine gate_callee (f := 16) rfl ?_); refine goesL_ (some 18) rfl rfl Try.func16 kr rfl #[.agg #[.int .i64 a0_0, .slice A0_1 l0_1.length c0_1, .slice A0_2 l0_2.length c0_2, .int .i64 a0_3], .int .i64 1048576] rfl lm ?_; (with_reducible refine (laws_szCourt.calls k a0_0 _ _ l0_1 _ _ l0_2 a0_3 1048576 t310 _ ?side1 ?side2 ?side3 ?side4 A3.out).mono ?_); (case side1 => repeat (first | exact (Kd.C_below HR0_1.out HB.out) | (with_reducible refine Kd.C_alloc ?_ _) | (with_reducible refine Kd.C_drewN ?_ _) | (with_reducible refine Kd.C_drew ?_))); (case side2 => exact HC0_1.out); (case side3 => repeat (first | exact (Kd.C_below HR0_2.out HB.out) | (with_reducible refine Kd.C_alloc ?_ _) | (with_reducible refine Kd.C_drewN ?_ _) | (with_reducible refine Kd.C_drew ?_))); (case side4 => exact HC0_2.out); rintro e w7 ⟨rfl, hb⟩; refine ⟨_, rfl, ?_⟩; have n0_ := Aside0.mk (blk_below (bz BK309) hb); have n1_ := Aside0.mk (below_step bh hb); clear BK309 HB; have BK309 := n0_; have HB := n1_; clear n0_ n1_; (try clear hb); (try clear hb2); (try clear hk); (try clear hi)))
  go_ret
  exact ⟨by first | rfl | (simp [errW_none, errW_some] <;> rfl) | (simp [*, errW_none, errW_some] <;> rfl), by exact bh⟩
 ·rw [if_neg c4] at H
  have c4b0 : decide (t310 < 0) = false := decide_eq_false c4
  clear c4
  replace H := Option.bind_eq_some_iff.mp H
  obtain ⟨⟨t311, t312, t315, t318⟩, A80, H⟩ := H
  replace H : ((spec_AfterDeath.f k t311 t312 t315 t318 a1).bind fun bt319 => ((laws_toCourt.f k a0_0 l0_1 l0_2 a0_3).bind fun bt329 => ((impl_AfterDeath.f k bt329.1 bt329.2.1 bt329.2.2.1 bt329.2.2.2 a1).bind fun bt338 => ((laws_eqCourt.f k bt338.1 bt338.2.1 bt338.2.2.1 bt338.2.2.2.1 bt319.1 bt319.2.1 bt319.2.2.1 bt319.2.2.2.1).bind fun t348 => (if t348 = true then (laws_FnExactAfterDeath.j0 k a1 bt319.2.2.2.2 bt338.2.2.2.2 (bt338.2.2.2.2 != bt319.2.2.2.2) a0_0 l0_1 l0_2 a0_3 bt319.1 bt319.2.1 bt319.2.2.1 bt319.2.2.2.1 bt329.1 bt329.2.1 bt329.2.2.1 bt329.2.2.2 bt338.1 bt338.2.1 bt338.2.2.1 bt338.2.2.2.1) else (laws_FnExactAfterDeath.j0 k a1 bt319.2.2.2.2 bt338.2.2.2.2 true a0_0 l0_1 l0_2 a0_3 bt319.1 bt319.2.1 bt319.2.2.1 bt319.2.2.2.1 bt329.1 bt329.2.1 bt329.2.2.1 bt329.2.2.2 bt338.1 bt338.2.1 bt338.2.2.1 bt338.2.2.2.1)))))) = some r := H
  have A8 := Aside0.mk A80
  clear A80
  replace H := Option.bind_eq_some_iff.mp H
  obtain ⟨⟨t319, t320, t323, t326, t327⟩, A90, H⟩ := H
  replace H : ((laws_toCourt.f k a0_0 l0_1 l0_2 a0_3).bind fun bt329 => ((impl_AfterDeath.f k bt329.1 bt329.2.1 bt329.2.2.1 bt329.2.2.2 a1).bind fun bt338 => ((laws_eqCourt.f k bt338.1 bt338.2.1 bt338.2.2.1 bt338.2.2.2.1 t319 t320 t323 t326).bind fun t348 => (if t348 = true then (laws_FnExactAfterDeath.j0 k a1 t327 bt338.2.2.2.2 (bt338.2.2.2.2 != t327) a0_0 l0_1 l0_2 a0_3 t319 t320 t323 t326 bt329.1 bt329.2.1 bt329.2.2.1 bt329.2.2.2 bt338.1 bt338.2.1 bt338.2.2.1 bt338.2.2.2.1) else (laws_FnExactAfterDeath.j0 k a1 t327 bt338.2.2.2.2 true a0_0 l0_1 l0_2 a0_3 t319 t320 t323 t326 bt329.1 bt329.2.1 bt329.2.2.1 bt329.2.2.2 bt338.1 bt338.2.1 bt338.2.2.1 bt338.2.2.2.1))))) = some r := H
  have A9 := Aside0.mk A90
  clear A90
  replace H := Option.bind_eq_some_iff.mp H
  obtain ⟨⟨t329, t330, t333, t336⟩, A100, H⟩ := H
  replace H : ((impl_AfterDeath.f k t329 t330 t333 t336 a1).bind fun bt338 => ((laws_eqCourt.f k bt338.1 bt338.2.1 bt338.2.2.1 bt338.2.2.2.1 t319 t320 t323 t326).bind fun t348 => (if t348 = true then (laws_FnExactAfterDeath.j0 k a1 t327 bt338.2.2.2.2 (bt338.2.2.2.2 != t327) a0_0 l0_1 l0_2 a0_3 t319 t320 t323 t326 t329 t330 t333 t336 bt338.1 bt338.2.1 bt338.2.2.1 bt338.2.2.2.1) else (laws_FnExactAfterDeath.j0 k a1 t327 bt338.2.2.2.2 true a0_0 l0_1 l0_2 a0_3 t319 t320 t323 t326 t329 t330 t333 t336 bt338.1 bt338.2.1 bt338.2.2.1 bt338.2.2.2.1)))) = some r := H
  have A10 := Aside0.mk A100
  clear A100
  replace H := Option.bind_eq_some_iff.mp H
  obtain ⟨⟨t338, t339, t342, t345, t346⟩, A110, H⟩ := H
  replace H : ((laws_eqCourt.f k t338 t339 t342 t345 t319 t320 t323 t326).bind fun t348 => (if t348 = true then (laws_FnExactAfterDeath.j0 k a1 t327 t346 (t346 != t327) a0_0 l0_1 l0_2 a0_3 t319 t320 t323 t326 t329 t330 t333 t336 t338 t339 t342 t345) else (laws_FnExactAfterDeath.j0 k a1 t327 t346 true a0_0 l0_1 l0_2 a0_3 t319 t320 t323 t326 t329 t330 t333 t336 t338 t339 t342 t345))) = some r := H
  have A11 := Aside0.mk A110
  clear A110
  have HC12 := Aside0.mk H
  clear H
  go_enter Try.func13, Try.ntmps13
  go_upto_region 8 with (first | ((with_reducible refine gate_dst (N := 2) rfl ?_); refine box_event ?hg (N := 2) ?hd (cs := #[.int .i64 a0_0, .slice A0_1 l0_1.length c0_1, .slice A0_2 l0_2.length c0_2, .int .i64 a0_3]) (t := 25) ?hr ?_; (case hd => rfl); (case hg => rfl); (case hr => first | (go_simp; done) | (go_simp; rfl)); intro gb309 hg w13 hbox hb; have n0_ := Aside0.mk (below_step bh hb); have n1_ := Aside0.mk (hbox); have n2_ := Aside0.mk ((gs (W0 := w) hg bh)); have n3_ := Aside0.mk ((gs (W0 := w) hg bh)); clear HB; have HB := n0_; have BK309 := n1_; have GW309 := n2_; have GE309 := n3_; clear n0_ n1_ n2_ n3_ hb hbox hg; have hcz14_0 := cz0 BK309; have hcz14_1 := cz1 BK309; have hcz14_2 := cz2 BK309; have hcz14_3 := cz3 BK309; have hfz14_0 := blk_frozen BK309.out 0; have hfz14_1 := blk_frozen BK309.out 1; have hfz14_2 := blk_frozen BK309.out 2; have hfz14_3 := blk_frozen BK309.out 3) | ((with_reducible refine gate_callee (f := 16) rfl ?_); refine goesL_ (some 18) rfl rfl Try.func16 kr rfl #[.agg #[.int .i64 a0_0, .slice A0_1 l0_1.length c0_1, .slice A0_2 l0_2.length c0_2, .int .i64 a0_3], .int .i64 1048576] rfl lm ?_; (with_reducible refine (laws_szCourt.calls k a0_0 _ _ l0_1 _ _ l0_2 a0_3 1048576 t310 _ ?side1 ?side2 ?side3 ?side4 A3.out).mono ?_); (case side1 => repeat (first | exact (Kd.C_below HR0_1.out HB.out) | (with_reducible refine Kd.C_alloc ?_ _) | (with_reducible refine Kd.C_drewN ?_ _) | (with_reducible refine Kd.C_drew ?_))); (case side2 => exact HC0_1.out); (case side3 => repeat (first | exact (Kd.C_below HR0_2.out HB.out) | (with_reducible refine Kd.C_alloc ?_ _) | (with_reducible refine Kd.C_drewN ?_ _) | (with_reducible refine Kd.C_drew ?_))); (case side4 => exact HC0_2.out); rintro e w15 ⟨rfl, hb⟩; refine ⟨_, rfl, ?_⟩; have n0_ := Aside0.mk (blk_below (bz BK309) hb); have n1_ := Aside0.mk (below_step bh hb); clear BK309 HB; have BK309 := n0_; have HB := n1_; clear n0_ n1_; (try clear hb); (try clear hb2); (try clear hk); (try clear hi); have hcz16_0 := cz0 BK309; have hcz16_1 := cz1 BK309; have hcz16_2 := cz2 BK309; have hcz16_3 := cz3 BK309; have hfz16_0 := blk_frozen BK309.out 0; have hfz16_1 := blk_frozen BK309.out 1; have hfz16_2 := blk_frozen BK309.out 2; have hfz16_3 := blk_frozen BK309.out 3) | ((with_reducible refine gate_callee (f := 18) rfl ?_); refine goesL_ (some 23) rfl rfl Try.func18 kr rfl #[.agg #[.int .i64 a0_0, .slice A0_1 l0_1.length c0_1, .slice A0_2 l0_2.length c0_2, .int .i64 a0_3]] rfl lm ?_; (with_reducible refine (laws_toCourt.calls k a0_0 _ _ l0_1 _ _ l0_2 a0_3 t311 t312 t315 t318 _ ?side1 ?side2 ?side3 ?side4 A8.out).mono ?_); (case side1 => repeat (first | exact (Kd.C_below HR0_1.out HB.out) | (with_reducible refine Kd.C_alloc ?_ _) | (with_reducible refine Kd.C_drewN ?_ _) | (with_reducible refine Kd.C_drew ?_))); (case side2 => exact HC0_1.out); (case side3 => repeat (first | exact (Kd.C_below HR0_2.out HB.out) | (with_reducible refine Kd.C_alloc ?_ _) | (with_reducible refine Kd.C_drewN ?_ _) | (with_reducible refine Kd.C_drew ?_))); (case side4 => exact HC0_2.out); rintro e w17 ⟨v313, v316, rfl, ho0, ho1, hb⟩; refine ⟨_, rfl, ?_⟩; obtain ⟨Nm18, hNm18⟩ := S_num ho0; have n0_ := Aside0.mk (Kd.S_lower (S_geN ho0 hNm18) (below_size bh)); have n1_ := Aside0.mk (Kd.R_lower ho1 (below_size bh)); have n2_ := Aside0.mk (blk_below (bz BK309) hb); have n3_ := Aside0.mk (below_step bh hb); clear BK309 HB; have HO314 := n0_; have HO317 := n1_; have BK309 := n2_; have HB := n3_; clear n0_ n1_ n2_ n3_; (try clear hb); (try clear hb2); (try clear hk); (try clear hi); (try clear ho0); (try clear ho1); obtain ⟨Ao19, co19, eo19⟩ := Kd.S_slice HO314.out; subst eo19; obtain ⟨Ao20, co20, eo20⟩ := Kd.R_slice HO317.out; subst eo20) | ((with_reducible refine gate_callee (f := 46) rfl ?_); refine goesL_ (some 25) rfl rfl Try.func46 kr rfl #[.agg #[.int .i64 t311, .slice Ao19 t312.length co19, .slice Ao20 t315.length co20, .int .i64 t318], .int .i64 a1] rfl lm ?_; (with_reducible refine (spec_AfterDeath.calls k t311 _ _ t312 _ _ t315 t318 a1 t319 t320 t323 t326 t327 _ ?side1 ?side2 ?side3 ?side4 A9.out).mono ?_); (case side1 => repeat (first | exact (Kd.S_reads' HO314.out).2.2 | (with_reducible refine Kd.C_alloc ?_ _) | (with_reducible refine Kd.C_drewN ?_ _) | (with_reducible refine Kd.C_drew ?_))); (case side2 => exact (Kd.S_reads' HO314.out).2.1); (case side3 => repeat (first | exact (Kd.R_reads' HO317.out).2.2 | (with_reducible refine Kd.C_alloc ?_ _) | (with_reducible refine Kd.C_drewN ?_ _) | (with_reducible refine Kd.C_drew ?_))); (case side4 => exact (Kd.R_reads' HO317.out).2.1); rintro e w21 ⟨v321, v324, rfl, ho0, ho1, hb⟩; refine ⟨_, rfl, ?_⟩; obtain ⟨Nm22, hNm22⟩ := S_num ho0; have n0_ := Aside0.mk (S_ltN (Kd.S_told (Kd.S_told (Kd.S_old (sz HO314) hb) (Kd.S_base ho0)) (Kd.R_base ho1)) hNm22); have n1_ := Aside0.mk (Kd.R_elder' (rz HO317) (Kd.R_base ho1) hb); have n2_ := Aside0.mk (Kd.S_lower (Kd.S_new' (Kd.S_new' (S_geN ho0 hNm22) (Kd.S_lt (sz HO314))) (Kd.R_lt (rz HO317))) (below_size bh)); have n3_ := Aside0.mk (Kd.R_lower (Kd.R_new' ho1 (Kd.R_lt (rz HO317))) (below_size bh)); have n4_ := Aside0.mk (blk_below (bz BK309) hb); have n5_ := Aside0.mk (below_step bh hb); clear HO314 HO317 BK309 HB; have HO314 := n0_; have HO317 := n1_; have HO322 := n2_; have HO325 := n3_; have BK309 := n4_; have HB := n5_; clear n0_ n1_ n2_ n3_ n4_ n5_; (try clear hb); (try clear hb2); (try clear hk); (try clear hi); (try clear ho0); (try clear ho1)) | ((with_reducible refine gate_dst (N := 6) rfl ?_); refine box_event ?hg (N := 6) ?hd (cs := #[.int .i64 0, .slice none 0 0, .slice none 0 0, .int .i64 0]) (t := 28) ?hr ?_; (case hd => rfl); (case hg => rfl); (case hr => first | (go_simp; done) | (go_simp; rfl)); intro gb328 hg w23 hbox hb; have n0_ := Aside0.mk (Kd.S_below (sz HO314) hb); have n1_ := Aside0.mk (Kd.R_below (rz HO317) hb); have n2_ := Aside0.mk (Kd.S_below (sz HO322) hb); have n3_ := Aside0.mk (Kd.R_below (rz HO325) hb); have n4_ := Aside0.mk (blk_below (bz BK309) hb); have n5_ := Aside0.mk (below_step bh hb); have n6_ := Aside0.mk (hbox); have n7_ := Aside0.mk ((gs (W0 := w) hg bh)); have n8_ := Aside0.mk ((gs (W0 := w) hg bh)); have n9_ := Aside0.mk ((gn hg (bz BK309))); have n10_ := Aside0.mk ((gm hg (bz BK309))); clear HO314 HO317 HO322 HO325 BK309 HB; have HO314 := n0_; have HO317 := n1_; have HO322 := n2_; have HO325 := n3_; have BK309 := n4_; have HB := n5_; have BK328 := n6_; have GW328 := n7_; have GE328 := n8_; have NB309_328 := n9_; have NB328_309 := n10_; clear n0_ n1_ n2_ n3_ n4_ n5_ n6_ n7_ n8_ n9_ n10_ hb hbox hg; have hnb24 := NB328_309.out; have hnc24 := NB309_328.out; have hcz25_0 := cz0 BK328; have hcz25_1 := cz1 BK328; have hcz25_2 := cz2 BK328; have hcz25_3 := cz3 BK328; have hfz25_0 := blk_frozen BK328.out 0; have hfz25_1 := blk_frozen BK328.out 1; have hfz25_2 := blk_frozen BK328.out 2; have hfz25_3 := blk_frozen BK328.out 3; obtain ⟨Ao26, co26, eo26⟩ := Kd.S_slice HO322.out; subst eo26; obtain ⟨Ao27, co27, eo27⟩ := Kd.R_slice HO325.out; subst eo27; have hcz28_0 := cz0 BK309; have hcz28_1 := cz1 BK309; have hcz28_2 := cz2 BK309; have hcz28_3 := cz3 BK309; have hfz28_0 := blk_frozen BK309.out 0; have hfz28_1 := blk_frozen BK309.out 1; have hfz28_2 := blk_frozen BK309.out 2; have hfz28_3 := blk_frozen BK309.out 3) | ((with_reducible refine gate_callee (f := 18) rfl ?_); refine goesL_ (some 29) rfl rfl Try.func18 kr rfl #[.agg #[.int .i64 a0_0, .slice A0_1 l0_1.length c0_1, .slice A0_2 l0_2.length c0_2, .int .i64 a0_3]] rfl lm ?_; (with_reducible refine (laws_toCourt.calls k a0_0 _ _ l0_1 _ _ l0_2 a0_3 t329 t330 t333 t336 _ ?side1 ?side2 ?side3 ?side4 A10.out).mono ?_); (case side1 => exact Kd.C_below HR0_1.out bh); (case side2 => exact HC0_1.out); (case side3 => exact Kd.C_below HR0_2.out bh); (case side4 => exact HC0_2.out); rintro e w29 ⟨v331, v334, rfl, ho0, ho1, hb⟩; refine ⟨_, rfl, ?_⟩; obtain ⟨Nm30, hNm30⟩ := S_num ho0; have n0_ := Aside0.mk (S_ltN (Kd.S_told (Kd.S_told (Kd.S_old (fS HO314 BK328) hb) (Kd.S_base ho0)) (Kd.R_base ho1)) hNm30); have n1_ := Aside0.mk (Kd.R_elder' (fR HO317 BK328) (Kd.R_base ho1) hb); have n2_ := Aside0.mk (S_ltN (Kd.S_told (Kd.S_told (Kd.S_old (fS HO322 BK328) hb) (Kd.S_base ho0)) (Kd.R_base ho1)) hNm30); have n3_ := Aside0.mk (Kd.R_elder' (fR HO325 BK328) (Kd.R_base ho1) hb); have n4_ := Aside0.mk (Kd.S_lower (Kd.S_new' (Kd.S_new' (Kd.S_new' (Kd.S_new' (S_geN ho0 hNm30) (Kd.S_lt (fS HO314 BK328))) (Kd.R_lt (fR HO317 BK328))) (Kd.S_lt (fS HO322 BK328))) (Kd.R_lt (fR HO325 BK328))) (below_size bh)); have n5_ := Aside0.mk (Kd.R_lower (Kd.R_new' (Kd.R_new' ho1 (Kd.R_lt (fR HO317 BK328))) (Kd.R_lt (fR HO325 BK328))) (below_size bh)); have n6_ := Aside0.mk (blk_below (g := gb309) (o := .cells #[.int .i64 a0_0, .slice A0_1 l0_1.length c0_1, .slice A0_2 l0_2.length c0_2, .int .i64 a0_3] 25 (0, 0)) (bf NB309_328 BK309) hb); have n7_ := Aside0.mk (blk_below (g := gb328) (o := .cells #[.int .i64 t319, .slice Ao26 t320.length co26, .slice Ao27 t323.length co27, .int .i64 t326] 28 (0, 0)) (bp BK328) hb); have n8_ := Aside0.mk (below_step bh hb); clear HO314 HO317 HO322 HO325 BK309 BK328 HB; have HO314 := n0_; have HO317 := n1_; have HO322 := n2_; have HO325 := n3_; have HO332 := n4_; have HO335 := n5_; have BK309 := n6_; have BK328 := n7_; have HB := n8_; clear n0_ n1_ n2_ n3_ n4_ n5_ n6_ n7_ n8_; (try clear hb); (try clear hb2); (try clear hk); (try clear hi); (try clear ho0); (try clear ho1)) | ((with_reducible refine gate_dst (N := 8) rfl ?_); refine box_event ?hg (N := 8) ?hd (cs := #[.int .i64 0, .slice none 0 0, .slice none 0 0, .int .i64 0]) (t := 28) ?hr ?_; (case hd => rfl); (case hg => rfl); (case hr => first | (go_simp; done) | (go_simp; rfl)); intro gb337 hg w31 hbox hb; have n0_ := Aside0.mk (Kd.S_below (sz HO314) hb); have n1_ := Aside0.mk (Kd.R_below (rz HO317) hb); have n2_ := Aside0.mk (Kd.S_below (sz HO322) hb); have n3_ := Aside0.mk (Kd.R_below (rz HO325) hb); have n4_ := Aside0.mk (Kd.S_below (sz HO332) hb); have n5_ := Aside0.mk (Kd.R_below (rz HO335) hb); have n6_ := Aside0.mk (blk_below (bz BK309) hb); have n7_ := Aside0.mk (blk_below (bz BK328) hb); have n8_ := Aside0.mk (below_step bh hb); have n9_ := Aside0.mk (hbox); have n10_ := Aside0.mk ((gs (W0 := w) hg bh)); have n11_ := Aside0.mk ((gs (W0 := w) hg bh)); have n12_ := Aside0.mk ((gn hg (bz BK309))); have n13_ := Aside0.mk ((gm hg (bz BK309))); have n14_ := Aside0.mk ((gn hg (bz BK328))); have n15_ := Aside0.mk ((gm hg (bz BK328))); clear HO314 HO317 HO322 HO325 HO332 HO335 BK309 BK328 HB; have HO314 := n0_; have HO317 := n1_; have HO322 := n2_; have HO325 := n3_; have HO332 := n4_; have HO335 := n5_; have BK309 := n6_; have BK328 := n7_; have HB := n8_; have BK337 := n9_; have GW337 := n10_; have GE337 := n11_; have NB309_337 := n12_; have NB337_309 := n13_; have NB328_337 := n14_; have NB337_328 := n15_; clear n0_ n1_ n2_ n3_ n4_ n5_ n6_ n7_ n8_ n9_ n10_ n11_ n12_ n13_ n14_ n15_ hb hbox hg; have hnb32 := NB337_309.out; have hnc32 := NB309_337.out; have hnb33 := NB337_328.out; have hnc33 := NB328_337.out; have hcz34_0 := cz0 BK337; have hcz34_1 := cz1 BK337; have hcz34_2 := cz2 BK337; have hcz34_3 := cz3 BK337; have hfz34_0 := blk_frozen BK337.out 0; have hfz34_1 := blk_frozen BK337.out 1; have hfz34_2 := blk_frozen BK337.out 2; have hfz34_3 := blk_frozen BK337.out 3; obtain ⟨Ao35, co35, eo35⟩ := Kd.S_slice HO332.out; subst eo35; obtain ⟨Ao36, co36, eo36⟩ := Kd.R_slice HO335.out; subst eo36) | ((with_reducible refine gate_callee (f := 45) rfl ?_); refine goesL_ (some 33) rfl rfl Try.func45 kr rfl #[.agg #[.int .i64 t329, .slice Ao35 t330.length co35, .slice Ao36 t333.length co36, .int .i64 t336], .int .i64 a1] rfl lm ?_; (with_reducible refine (impl_AfterDeath.calls k t329 _ _ t330 _ _ t333 t336 a1 t338 t339 t342 t345 t346 _ ?side1 ?side2 ?side3 ?side4 A11.out).mono ?_); (case side1 => refine (Kd.S_reads' (e := 23) (base := w.heap.size) (ok := fun k_ => (((((some k_ ≠ (.slice Ao36 t333.length co36 : Value).ownBlock ∧ Nm30 ≤ k_) ∧ some k_ ≠ (.slice Ao19 t312.length co19 : Value).ownBlock) ∧ some k_ ≠ (.slice Ao20 t315.length co20 : Value).ownBlock) ∧ some k_ ≠ (.slice Ao26 t320.length co26 : Value).ownBlock) ∧ some k_ ≠ (.slice Ao27 t323.length co27 : Value).ownBlock)) (n := t330.length) (c := co35) ?_).2.2; exact (fS HO332 BK337)); (case side2 => exact (Kd.S_reads' HO332.out).2.1); (case side3 => refine (Kd.R_reads' (e := 3) (base := w.heap.size) (ok := fun k_ => ((True ∧ some k_ ≠ (.slice Ao20 t315.length co20 : Value).ownBlock) ∧ some k_ ≠ (.slice Ao27 t323.length co27 : Value).ownBlock)) (n := t333.length) (c := co36) ?_).2.2; exact (fR HO335 BK337)); (case side4 => exact (Kd.R_reads' HO335.out).2.1); rintro e w37 ⟨v340, v343, rfl, ho0, ho1, hb⟩; refine ⟨_, rfl, ?_⟩; obtain ⟨Nm38, hNm38⟩ := S_num ho0; have n0_ := Aside0.mk (S_ltN (Kd.S_told (Kd.S_told (Kd.S_old (fS HO314 BK337) hb) (Kd.S_base ho0)) (Kd.R_base ho1)) hNm38); have n1_ := Aside0.mk (Kd.R_elder' (fR HO317 BK337) (Kd.R_base ho1) hb); have n2_ := Aside0.mk (S_ltN (Kd.S_told (Kd.S_told (Kd.S_old (fS HO322 BK337) hb) (Kd.S_base ho0)) (Kd.R_base ho1)) hNm38); have n3_ := Aside0.mk (Kd.R_elder' (fR HO325 BK337) (Kd.R_base ho1) hb); have n4_ := Aside0.mk (S_ltN (Kd.S_told (Kd.S_told (Kd.S_old (fS HO332 BK337) hb) (Kd.S_base ho0)) (Kd.R_base ho1)) hNm38); have n5_ := Aside0.mk (Kd.R_elder' (fR HO335 BK337) (Kd.R_base ho1) hb); have n6_ := Aside0.mk (Kd.S_lower (Kd.S_new' (Kd.S_new' (Kd.S_new' (Kd.S_new' (Kd.S_new' (Kd.S_new' (S_geN ho0 hNm38) (Kd.S_lt (fS HO314 BK337))) (Kd.R_lt (fR HO317 BK337))) (Kd.S_lt (fS HO322 BK337))) (Kd.R_lt (fR HO325 BK337))) (Kd.S_lt (fS HO332 BK337))) (Kd.R_lt (fR HO335 BK337))) (below_size bh)); have n7_ := Aside0.mk (Kd.R_lower (Kd.R_new' (Kd.R_new' (Kd.R_new' ho1 (Kd.R_lt (fR HO317 BK337))) (Kd.R_lt (fR HO325 BK337))) (Kd.R_lt (fR HO335 BK337))) (below_size bh)); have n8_ := Aside0.mk (blk_below (g := gb309) (o := .cells #[.int .i64 a0_0, .slice A0_1 l0_1.length c0_1, .slice A0_2 l0_2.length c0_2, .int .i64 a0_3] 25 (0, 0)) (bf NB309_337 BK309) hb); have n9_ := Aside0.mk (blk_below (g := gb328) (o := .cells #[.int .i64 t319, .slice Ao26 t320.length co26, .slice Ao27 t323.length co27, .int .i64 t326] 28 (0, 0)) (bf NB328_337 BK328) hb); have n10_ := Aside0.mk (blk_below (g := gb337) (o := .cells #[.int .i64 t329, .slice Ao35 t330.length co35, .slice Ao36 t333.length co36, .int .i64 t336] 28 (0, 0)) (bp BK337) hb); have n11_ := Aside0.mk (below_step bh hb); clear HO314 HO317 HO322 HO325 HO332 HO335 BK309 BK328 BK337 HB; have HO314 := n0_; have HO317 := n1_; have HO322 := n2_; have HO325 := n3_; have HO332 := n4_; have HO335 := n5_; have HO341 := n6_; have HO344 := n7_; have BK309 := n8_; have BK328 := n9_; have BK337 := n10_; have HB := n11_; clear n0_ n1_ n2_ n3_ n4_ n5_ n6_ n7_ n8_ n9_ n10_ n11_; (try clear hb); (try clear hb2); (try clear hk); (try clear hi); (try clear ho0); (try clear ho1)) | ((with_reducible refine gate_dst (N := 9) rfl ?_); refine box_event ?hg (N := 9) ?hd (cs := #[.int .i64 0, .slice none 0 0, .slice none 0 0, .int .i64 0]) (t := 28) ?hr ?_; (case hd => rfl); (case hg => rfl); (case hr => first | (go_simp; done) | (go_simp; rfl)); intro gb347 hg w39 hbox hb; have n0_ := Aside0.mk (Kd.S_below (sz HO314) hb); have n1_ := Aside0.mk (Kd.R_below (rz HO317) hb); have n2_ := Aside0.mk (Kd.S_below (sz HO322) hb); have n3_ := Aside0.mk (Kd.R_below (rz HO325) hb); have n4_ := Aside0.mk (Kd.S_below (sz HO332) hb); have n5_ := Aside0.mk (Kd.R_below (rz HO335) hb); have n6_ := Aside0.mk (Kd.S_below (sz HO341) hb); have n7_ := Aside0.mk (Kd.R_below (rz HO344) hb); have n8_ := Aside0.mk (blk_below (bz BK309) hb); have n9_ := Aside0.mk (blk_below (bz BK328) hb); have n10_ := Aside0.mk (blk_below (bz BK337) hb); have n11_ := Aside0.mk (below_step bh hb); have n12_ := Aside0.mk (hbox); have n13_ := Aside0.mk ((gs (W0 := w) hg bh)); have n14_ := Aside0.mk ((gs (W0 := w) hg bh)); have n15_ := Aside0.mk ((gn hg (bz BK309))); have n16_ := Aside0.mk ((gm hg (bz BK309))); have n17_ := Aside0.mk ((gn hg (bz BK328))); have n18_ := Aside0.mk ((gm hg (bz BK328))); have n19_ := Aside0.mk ((gn hg (bz BK337))); have n20_ := Aside0.mk ((gm hg (bz BK337))); clear HO314 HO317 HO322 HO325 HO332 HO335 HO341 HO344 BK309 BK328 BK337 HB; have HO314 := n0_; have HO317 := n1_; have HO322 := n2_; have HO325 := n3_; have HO332 := n4_; have HO335 := n5_; have HO341 := n6_; have HO344 := n7_; have BK309 := n8_; have BK328 := n9_; have BK337 := n10_; have HB := n11_; have BK347 := n12_; have GW347 := n13_; have GE347 := n14_; have NB309_347 := n15_; have NB347_309 := n16_; have NB328_347 := n17_; have NB347_328 := n18_; have NB337_347 := n19_; have NB347_337 := n20_; clear n0_ n1_ n2_ n3_ n4_ n5_ n6_ n7_ n8_ n9_ n10_ n11_ n12_ n13_ n14_ n15_ n16_ n17_ n18_ n19_ n20_ hb hbox hg; have hnb40 := NB347_309.out; have hnc40 := NB309_347.out; have hnb41 := NB347_328.out; have hnc41 := NB328_347.out; have hnb42 := NB347_337.out; have hnc42 := NB337_347.out; have hcz43_0 := cz0 BK347; have hcz43_1 := cz1 BK347; have hcz43_2 := cz2 BK347; have hcz43_3 := cz3 BK347; have hfz43_0 := blk_frozen BK347.out 0; have hfz43_1 := blk_frozen BK347.out 1; have hfz43_2 := blk_frozen BK347.out 2; have hfz43_3 := blk_frozen BK347.out 3; obtain ⟨Ao44, co44, eo44⟩ := Kd.S_slice HO341.out; subst eo44; obtain ⟨Ao45, co45, eo45⟩ := Kd.R_slice HO344.out; subst eo45))
  (try simp only [Act.put, List.setIfInBounds_toArray, List.set_cons_zero, List.set_cons_succ])
  go_cut [44] (fun v44 wc => ∃ (kq : Nat) (x44_11 : Bool), v44 = .bool x44_11 ∧ Aside0 (laws_FnExactAfterDeath.j0 kq a1 t327 t346 x44_11 a0_0 l0_1 l0_2 a0_3 t319 t320 t323 t326 t329 t330 t333 t336 t338 t339 t342 t345 = some r) ∧ Aside0 (kq ≤ k) ∧ Aside0 (Kd.S (Kd.slice 3 (Kd.int .i64)) 23 wc w.heap.size (fun k_ => some k_ ≠ ((.slice Ao27 t323.length co27) : Value).ownBlock ∧ some k_ ≠ ((.slice Ao35 t330.length co35) : Value).ownBlock ∧ some k_ ≠ ((.slice Ao36 t333.length co36) : Value).ownBlock ∧ some k_ ≠ ((.slice Ao44 t339.length co44) : Value).ownBlock ∧ some k_ ≠ ((.slice Ao45 t342.length co45) : Value).ownBlock ∧ Nm22 ≤ k_ ∧ k_ < Nm30 ∧ k_ < Nm38) (.slice Ao26 t320.length co26) t320) ∧ Aside0 (Kd.R (Kd.int .i64) 3 wc w.heap.size (fun k_ => some k_ ≠ ((.slice Ao36 t333.length co36) : Value).ownBlock ∧ some k_ ≠ ((.slice Ao45 t342.length co45) : Value).ownBlock) (.slice Ao27 t323.length co27) t323) ∧ Aside0 (Kd.S (Kd.slice 3 (Kd.int .i64)) 23 wc w.heap.size (fun k_ => some k_ ≠ ((.slice Ao26 t320.length co26) : Value).ownBlock ∧ some k_ ≠ ((.slice Ao27 t323.length co27) : Value).ownBlock ∧ some k_ ≠ ((.slice Ao36 t333.length co36) : Value).ownBlock ∧ some k_ ≠ ((.slice Ao44 t339.length co44) : Value).ownBlock ∧ some k_ ≠ ((.slice Ao45 t342.length co45) : Value).ownBlock ∧ Nm30 ≤ k_ ∧ k_ < Nm38) (.slice Ao35 t330.length co35) t330) ∧ Aside0 (Kd.R (Kd.int .i64) 3 wc w.heap.size (fun k_ => some k_ ≠ ((.slice Ao27 t323.length co27) : Value).ownBlock ∧ some k_ ≠ ((.slice Ao45 t342.length co45) : Value).ownBlock) (.slice Ao36 t333.length co36) t333) ∧ Aside0 (Kd.S (Kd.slice 3 (Kd.int .i64)) 23 wc w.heap.size (fun k_ => some k_ ≠ ((.slice Ao26 t320.length co26) : Value).ownBlock ∧ some k_ ≠ ((.slice Ao27 t323.length co27) : Value).ownBlock ∧ some k_ ≠ ((.slice Ao35 t330.length co35) : Value).ownBlock ∧ some k_ ≠ ((.slice Ao36 t333.length co36) : Value).ownBlock ∧ some k_ ≠ ((.slice Ao45 t342.length co45) : Value).ownBlock ∧ Nm38 ≤ k_) (.slice Ao44 t339.length co44) t339) ∧ Aside0 (Kd.R (Kd.int .i64) 3 wc w.heap.size (fun k_ => some k_ ≠ ((.slice Ao27 t323.length co27) : Value).ownBlock ∧ some k_ ≠ ((.slice Ao36 t333.length co36) : Value).ownBlock) (.slice Ao45 t342.length co45) t342) ∧ Aside0 (wc.heap[gb309]? = some (.cells #[.int .i64 a0_0, (.slice A0_1 l0_1.length c0_1), (.slice A0_2 l0_2.length c0_2), .int .i64 a0_3] 25 (0, 0))) ∧ Aside0 (wc.heap[gb328]? = some (.cells #[.int .i64 t319, (.slice Ao26 t320.length co26), (.slice Ao27 t323.length co27), .int .i64 t326] 28 (0, 0))) ∧ Aside0 (wc.heap[gb337]? = some (.cells #[.int .i64 t329, (.slice Ao35 t330.length co35), (.slice Ao36 t333.length co36), .int .i64 t336] 28 (0, 0))) ∧ Aside0 (wc.heap[gb347]? = some (.cells #[.int .i64 t338, (.slice Ao44 t339.length co44), (.slice Ao45 t342.length co45), .int .i64 t345] 28 (0, 0))) ∧ Aside0 (Below w.heap.size w wc))
  case first =>
   have H := HC12.out
   clear HC12
   replace H := Option.bind_eq_some_iff.mp H
   obtain ⟨t348, A460, H⟩ := H
   replace H : (if t348 = true then (laws_FnExactAfterDeath.j0 k a1 t327 t346 (t346 != t327) a0_0 l0_1 l0_2 a0_3 t319 t320 t323 t326 t329 t330 t333 t336 t338 t339 t342 t345) else (laws_FnExactAfterDeath.j0 k a1 t327 t346 true a0_0 l0_1 l0_2 a0_3 t319 t320 t323 t326 t329 t330 t333 t336 t338 t339 t342 t345)) = some r := H
   have A46 := Aside0.mk A460
   clear A460
   by_cases c47 : t348 = true
   ·subst c47
    have H1 : (laws_FnExactAfterDeath.j0 k a1 t327 t346 (t346 != t327) a0_0 l0_1 l0_2 a0_3 t319 t320 t323 t326 t329 t330 t333 t336 t338 t339 t342 t345) = some r := by rw [if_pos rfl] at H; exact H
    clear H
    have H := H1
    clear H1
    have H' := Aside0.mk H
    clear H
    have hnb48 := NB347_309.out
    have hnc48 := NB309_347.out
    have hnb49 := NB347_328.out
    have hnc49 := NB328_347.out
    have hnb50 := NB347_337.out
    have hnc50 := NB337_347.out
    have hcz51_0 := cz0 BK347
    have hcz51_1 := cz1 BK347
    have hcz51_2 := cz2 BK347
    have hcz51_3 := cz3 BK347
    have hfz51_0 := blk_frozen BK347.out 0
    have hfz51_1 := blk_frozen BK347.out 1
    have hfz51_2 := blk_frozen BK347.out 2
    have hfz51_3 := blk_frozen BK347.out 3
    have hnb52 := NB328_309.out
    have hnc52 := NB309_328.out
    have hnb53 := NB328_337.out
    have hnc53 := NB337_328.out
    have hcz54_0 := cz0 BK328
    have hcz54_1 := cz1 BK328
    have hcz54_2 := cz2 BK328
    have hcz54_3 := cz3 BK328
    have hfz54_0 := blk_frozen BK328.out 0
    have hfz54_1 := blk_frozen BK328.out 1
    have hfz54_2 := blk_frozen BK328.out 2
    have hfz54_3 := blk_frozen BK328.out 3
    go_wp2_with (first | ((with_reducible refine gate_callee (f := 20) rfl ?_); refine goesL_ (some 38) rfl rfl Try.func20 kr rfl #[.agg #[.int .i64 t338, .slice Ao44 t339.length co44, .slice Ao45 t342.length co45, .int .i64 t345], .agg #[.int .i64 t319, .slice Ao26 t320.length co26, .slice Ao27 t323.length co27, .int .i64 t326]] rfl lm ?_; (with_reducible refine (laws_eqCourt.calls k t338 _ _ t339 _ _ t342 t345 t319 _ _ t320 _ _ t323 t326 true _ ?side1 ?side2 ?side3 ?side4 ?side5 ?side6 ?side7 ?side8 A46.out).mono ?_); (case side1 => refine (Kd.S_reads' (e := 23) (base := w.heap.size) (ok := fun k_ => (((((((some k_ ≠ (.slice Ao45 t342.length co45 : Value).ownBlock ∧ Nm38 ≤ k_) ∧ some k_ ≠ (.slice Ao19 t312.length co19 : Value).ownBlock) ∧ some k_ ≠ (.slice Ao20 t315.length co20 : Value).ownBlock) ∧ some k_ ≠ (.slice Ao26 t320.length co26 : Value).ownBlock) ∧ some k_ ≠ (.slice Ao27 t323.length co27 : Value).ownBlock) ∧ some k_ ≠ (.slice Ao35 t330.length co35 : Value).ownBlock) ∧ some k_ ≠ (.slice Ao36 t333.length co36 : Value).ownBlock)) (n := t339.length) (c := co44) ?_).2.2; exact (fS HO341 BK347)); (case side2 => exact (Kd.S_reads' HO341.out).2.1); (case side3 => refine (Kd.R_reads' (e := 3) (base := w.heap.size) (ok := fun k_ => (((True ∧ some k_ ≠ (.slice Ao20 t315.length co20 : Value).ownBlock) ∧ some k_ ≠ (.slice Ao27 t323.length co27 : Value).ownBlock) ∧ some k_ ≠ (.slice Ao36 t333.length co36 : Value).ownBlock)) (n := t342.length) (c := co45) ?_).2.2; exact (fR HO344 BK347)); (case side4 => exact (Kd.R_reads' HO344.out).2.1); (case side5 => refine (Kd.S_reads' (e := 23) (base := w.heap.size) (ok := fun k_ => (((((((((some k_ ≠ (.slice Ao27 t323.length co27 : Value).ownBlock ∧ Nm22 ≤ k_) ∧ some k_ ≠ (.slice Ao19 t312.length co19 : Value).ownBlock) ∧ some k_ ≠ (.slice Ao20 t315.length co20 : Value).ownBlock) ∧ some k_ ≠ (.slice Ao35 t330.length co35 : Value).ownBlock) ∧ some k_ ≠ (.slice Ao36 t333.length co36 : Value).ownBlock) ∧ k_ < Nm30) ∧ some k_ ≠ (.slice Ao44 t339.length co44 : Value).ownBlock) ∧ some k_ ≠ (.slice Ao45 t342.length co45 : Value).ownBlock) ∧ k_ < Nm38)) (n := t320.length) (c := co26) ?_).2.2; exact (fS HO322 BK347)); (case side6 => exact (Kd.S_reads' HO322.out).2.1); (case side7 => refine (Kd.R_reads' (e := 3) (base := w.heap.size) (ok := fun k_ => (((True ∧ some k_ ≠ (.slice Ao20 t315.length co20 : Value).ownBlock) ∧ some k_ ≠ (.slice Ao36 t333.length co36 : Value).ownBlock) ∧ some k_ ≠ (.slice Ao45 t342.length co45 : Value).ownBlock)) (n := t323.length) (c := co27) ?_).2.2; exact (fR HO325 BK347)); (case side8 => exact (Kd.R_reads' HO325.out).2.1); rintro e w55 ⟨rfl, hb⟩; refine ⟨_, rfl, ?_⟩; have n0_ := Aside0.mk (Kd.S_below (fS HO314 BK347) hb); have n1_ := Aside0.mk (Kd.R_below (fR HO317 BK347) hb); have n2_ := Aside0.mk (Kd.S_below (fS HO322 BK347) hb); have n3_ := Aside0.mk (Kd.R_below (fR HO325 BK347) hb); have n4_ := Aside0.mk (Kd.S_below (fS HO332 BK347) hb); have n5_ := Aside0.mk (Kd.R_below (fR HO335 BK347) hb); have n6_ := Aside0.mk (Kd.S_below (fS HO341 BK347) hb); have n7_ := Aside0.mk (Kd.R_below (fR HO344 BK347) hb); have n8_ := Aside0.mk (blk_below (g := gb309) (o := .cells #[.int .i64 a0_0, .slice A0_1 l0_1.length c0_1, .slice A0_2 l0_2.length c0_2, .int .i64 a0_3] 25 (0, 0)) (bf NB309_347 BK309) hb); have n9_ := Aside0.mk (blk_below (g := gb328) (o := .cells #[.int .i64 t319, .slice Ao26 t320.length co26, .slice Ao27 t323.length co27, .int .i64 t326] 28 (0, 0)) (bf NB328_347 BK328) hb); have n10_ := Aside0.mk (blk_below (g := gb337) (o := .cells #[.int .i64 t329, .slice Ao35 t330.length co35, .slice Ao36 t333.length co36, .int .i64 t336] 28 (0, 0)) (bf NB337_347 BK337) hb); have n11_ := Aside0.mk (blk_below (g := gb347) (o := .cells #[.int .i64 t338, .slice Ao44 t339.length co44, .slice Ao45 t342.length co45, .int .i64 t345] 28 (0, 0)) (bp BK347) hb); have n12_ := Aside0.mk (below_step bh hb); clear HO314 HO317 HO322 HO325 HO332 HO335 HO341 HO344 BK309 BK328 BK337 BK347 HB; have HO314 := n0_; have HO317 := n1_; have HO322 := n2_; have HO325 := n3_; have HO332 := n4_; have HO335 := n5_; have HO341 := n6_; have HO344 := n7_; have BK309 := n8_; have BK328 := n9_; have BK337 := n10_; have BK347 := n11_; have HB := n12_; clear n0_ n1_ n2_ n3_ n4_ n5_ n6_ n7_ n8_ n9_ n10_ n11_ n12_; (try clear hb); (try clear hb2); (try clear hk); (try clear hi)))
    go_meet
    case rel => exact ⟨_, ((t346 != t327)), (by first | rfl | (simp; done) | (simp [*]; done)), H', ⟨by first | omega | exact Nat.le_refl _⟩, ⟨mS HO322⟩, ⟨mR HO325⟩, ⟨mS HO332⟩, ⟨mR HO335⟩, ⟨mS HO341⟩, ⟨mR HO344⟩, ⟨bz BK309⟩, ⟨bz BK328⟩, ⟨bz BK337⟩, ⟨bz BK347⟩, ⟨by exact bh⟩⟩
   ·replace c47 := Bool.eq_false_iff.mpr c47
    subst c47
    have H1 : (laws_FnExactAfterDeath.j0 k a1 t327 t346 true a0_0 l0_1 l0_2 a0_3 t319 t320 t323 t326 t329 t330 t333 t336 t338 t339 t342 t345) = some r := by rw [if_neg (show ¬ (false = true) by decide)] at H; exact H
    clear H
    have H := H1
    clear H1
    have H' := Aside0.mk H
    clear H
    have hnb56 := NB347_309.out
    have hnc56 := NB309_347.out
    have hnb57 := NB347_328.out
    have hnc57 := NB328_347.out
    have hnb58 := NB347_337.out
    have hnc58 := NB337_347.out
    have hcz59_0 := cz0 BK347
    have hcz59_1 := cz1 BK347
    have hcz59_2 := cz2 BK347
    have hcz59_3 := cz3 BK347
    have hfz59_0 := blk_frozen BK347.out 0
    have hfz59_1 := blk_frozen BK347.out 1
    have hfz59_2 := blk_frozen BK347.out 2
    have hfz59_3 := blk_frozen BK347.out 3
    have hnb60 := NB328_309.out
    have hnc60 := NB309_328.out
    have hnb61 := NB328_337.out
    have hnc61 := NB337_328.out
    have hcz62_0 := cz0 BK328
    have hcz62_1 := cz1 BK328
    have hcz62_2 := cz2 BK328
    have hcz62_3 := cz3 BK328
    have hfz62_0 := blk_frozen BK328.out 0
    have hfz62_1 := blk_frozen BK328.out 1
    have hfz62_2 := blk_frozen BK328.out 2
    have hfz62_3 := blk_frozen BK328.out 3
    go_wp2_with (first | ((with_reducible refine gate_callee (f := 20) rfl ?_); refine goesL_ (some 38) rfl rfl Try.func20 kr rfl #[.agg #[.int .i64 t338, .slice Ao44 t339.length co44, .slice Ao45 t342.length co45, .int .i64 t345], .agg #[.int .i64 t319, .slice Ao26 t320.length co26, .slice Ao27 t323.length co27, .int .i64 t326]] rfl lm ?_; (with_reducible refine (laws_eqCourt.calls k t338 _ _ t339 _ _ t342 t345 t319 _ _ t320 _ _ t323 t326 false _ ?side1 ?side2 ?side3 ?side4 ?side5 ?side6 ?side7 ?side8 A46.out).mono ?_); (case side1 => refine (Kd.S_reads' (e := 23) (base := w.heap.size) (ok := fun k_ => (((((((some k_ ≠ (.slice Ao45 t342.length co45 : Value).ownBlock ∧ Nm38 ≤ k_) ∧ some k_ ≠ (.slice Ao19 t312.length co19 : Value).ownBlock) ∧ some k_ ≠ (.slice Ao20 t315.length co20 : Value).ownBlock) ∧ some k_ ≠ (.slice Ao26 t320.length co26 : Value).ownBlock) ∧ some k_ ≠ (.slice Ao27 t323.length co27 : Value).ownBlock) ∧ some k_ ≠ (.slice Ao35 t330.length co35 : Value).ownBlock) ∧ some k_ ≠ (.slice Ao36 t333.length co36 : Value).ownBlock)) (n := t339.length) (c := co44) ?_).2.2; exact (fS HO341 BK347)); (case side2 => exact (Kd.S_reads' HO341.out).2.1); (case side3 => refine (Kd.R_reads' (e := 3) (base := w.heap.size) (ok := fun k_ => (((True ∧ some k_ ≠ (.slice Ao20 t315.length co20 : Value).ownBlock) ∧ some k_ ≠ (.slice Ao27 t323.length co27 : Value).ownBlock) ∧ some k_ ≠ (.slice Ao36 t333.length co36 : Value).ownBlock)) (n := t342.length) (c := co45) ?_).2.2; exact (fR HO344 BK347)); (case side4 => exact (Kd.R_reads' HO344.out).2.1); (case side5 => refine (Kd.S_reads' (e := 23) (base := w.heap.size) (ok := fun k_ => (((((((((some k_ ≠ (.slice Ao27 t323.length co27 : Value).ownBlock ∧ Nm22 ≤ k_) ∧ some k_ ≠ (.slice Ao19 t312.length co19 : Value).ownBlock) ∧ some k_ ≠ (.slice Ao20 t315.length co20 : Value).ownBlock) ∧ some k_ ≠ (.slice Ao35 t330.length co35 : Value).ownBlock) ∧ some k_ ≠ (.slice Ao36 t333.length co36 : Value).ownBlock) ∧ k_ < Nm30) ∧ some k_ ≠ (.slice Ao44 t339.length co44 : Value).ownBlock) ∧ some k_ ≠ (.slice Ao45 t342.length co45 : Value).ownBlock) ∧ k_ < Nm38)) (n := t320.length) (c := co26) ?_).2.2; exact (fS HO322 BK347)); (case side6 => exact (Kd.S_reads' HO322.out).2.1); (case side7 => refine (Kd.R_reads' (e := 3) (base := w.heap.size) (ok := fun k_ => (((True ∧ some k_ ≠ (.slice Ao20 t315.length co20 : Value).ownBlock) ∧ some k_ ≠ (.slice Ao36 t333.length co36 : Value).ownBlock) ∧ some k_ ≠ (.slice Ao45 t342.length co45 : Value).ownBlock)) (n := t323.length) (c := co27) ?_).2.2; exact (fR HO325 BK347)); (case side8 => exact (Kd.R_reads' HO325.out).2.1); rintro e w63 ⟨rfl, hb⟩; refine ⟨_, rfl, ?_⟩; have n0_ := Aside0.mk (Kd.S_below (fS HO314 BK347) hb); have n1_ := Aside0.mk (Kd.R_below (fR HO317 BK347) hb); have n2_ := Aside0.mk (Kd.S_below (fS HO322 BK347) hb); have n3_ := Aside0.mk (Kd.R_below (fR HO325 BK347) hb); have n4_ := Aside0.mk (Kd.S_below (fS HO332 BK347) hb); have n5_ := Aside0.mk (Kd.R_below (fR HO335 BK347) hb); have n6_ := Aside0.mk (Kd.S_below (fS HO341 BK347) hb); have n7_ := Aside0.mk (Kd.R_below (fR HO344 BK347) hb); have n8_ := Aside0.mk (blk_below (g := gb309) (o := .cells #[.int .i64 a0_0, .slice A0_1 l0_1.length c0_1, .slice A0_2 l0_2.length c0_2, .int .i64 a0_3] 25 (0, 0)) (bf NB309_347 BK309) hb); have n9_ := Aside0.mk (blk_below (g := gb328) (o := .cells #[.int .i64 t319, .slice Ao26 t320.length co26, .slice Ao27 t323.length co27, .int .i64 t326] 28 (0, 0)) (bf NB328_347 BK328) hb); have n10_ := Aside0.mk (blk_below (g := gb337) (o := .cells #[.int .i64 t329, .slice Ao35 t330.length co35, .slice Ao36 t333.length co36, .int .i64 t336] 28 (0, 0)) (bf NB337_347 BK337) hb); have n11_ := Aside0.mk (blk_below (g := gb347) (o := .cells #[.int .i64 t338, .slice Ao44 t339.length co44, .slice Ao45 t342.length co45, .int .i64 t345] 28 (0, 0)) (bp BK347) hb); have n12_ := Aside0.mk (below_step bh hb); clear HO314 HO317 HO322 HO325 HO332 HO335 HO341 HO344 BK309 BK328 BK337 BK347 HB; have HO314 := n0_; have HO317 := n1_; have HO322 := n2_; have HO325 := n3_; have HO332 := n4_; have HO335 := n5_; have HO341 := n6_; have HO344 := n7_; have BK309 := n8_; have BK328 := n9_; have BK337 := n10_; have BK347 := n11_; have HB := n12_; clear n0_ n1_ n2_ n3_ n4_ n5_ n6_ n7_ n8_ n9_ n10_ n11_ n12_; (try clear hb); (try clear hb2); (try clear hk); (try clear hi)))
    go_meet
    case rel => exact ⟨_, (true), (by first | rfl | (simp; done) | (simp [*]; done)), H', ⟨by first | omega | exact Nat.le_refl _⟩, ⟨mS HO322⟩, ⟨mR HO325⟩, ⟨mS HO332⟩, ⟨mR HO335⟩, ⟨mS HO341⟩, ⟨mR HO344⟩, ⟨bz BK309⟩, ⟨bz BK328⟩, ⟨bz BK337⟩, ⟨bz BK347⟩, ⟨by exact bh⟩⟩
  case rest =>
   clear HC12
   try clear c1
   try clear c2
   try clear p2
   try clear c3
   try clear c4
   try clear c4b0
   try clear c5
   try clear c6
   try clear c13
   try clear c16
   try clear c18
   try clear c20
   try clear c24
   try clear c32
   try clear c33
   try clear c40
   try clear c41
   try clear c42
   try clear c45
   try clear c46
   try clear c47
   try clear c48
   try clear c49
   try clear c50
   try clear c52
   try clear c53
   try clear c56
   try clear c57
   try clear c58
   try clear c60
   try clear c61
   try clear hcz14_0
   try clear hcz14_1
   try clear hcz14_2
   try clear hcz14_3
   try clear hcz16_0
   try clear hcz16_1
   try clear hcz16_2
   try clear hcz16_3
   try clear hcz25_0
   try clear hcz25_1
   try clear hcz25_2
   try clear hcz25_3
   try clear hcz28_0
   try clear hcz28_1
   try clear hcz28_2
   try clear hcz28_3
   try clear hcz34_0
   try clear hcz34_1
   try clear hcz34_2
   try clear hcz34_3
   try clear hcz43_0
   try clear hcz43_1
   try clear hcz43_2
   try clear hcz43_3
   try clear hcz51_0
   try clear hcz51_1
   try clear hcz51_2
   try clear hcz51_3
   try clear hcz54_0
   try clear hcz54_1
   try clear hcz54_2
   try clear hcz54_3
   try clear hcz59_0
   try clear hcz59_1
   try clear hcz59_2
   try clear hcz59_3
   try clear hcz62_0
   try clear hcz62_1
   try clear hcz62_2
   try clear hcz62_3
   try clear hcz6_0
   try clear hcz6_1
   try clear hcz6_2
   try clear hcz6_3
   try clear hfz14_0
   try clear hfz14_1
   try clear hfz14_2
   try clear hfz14_3
   try clear hfz16_0
   try clear hfz16_1
   try clear hfz16_2
   try clear hfz16_3
   try clear hfz25_0
   try clear hfz25_1
   try clear hfz25_2
   try clear hfz25_3
   try clear hfz28_0
   try clear hfz28_1
   try clear hfz28_2
   try clear hfz28_3
   try clear hfz34_0
   try clear hfz34_1
   try clear hfz34_2
   try clear hfz34_3
   try clear hfz43_0
   try clear hfz43_1
   try clear hfz43_2
   try clear hfz43_3
   try clear hfz51_0
   try clear hfz51_1
   try clear hfz51_2
   try clear hfz51_3
   try clear hfz54_0
   try clear hfz54_1
   try clear hfz54_2
   try clear hfz54_3
   try clear hfz59_0
   try clear hfz59_1
   try clear hfz59_2
   try clear hfz59_3
   try clear hfz62_0
   try clear hfz62_1
   try clear hfz62_2
   try clear hfz62_3
   try clear hfz6_0
   try clear hfz6_1
   try clear hfz6_2
   try clear hfz6_3
   obtain ⟨kq, x44_11, rfl, HA, HJ11, HO_329001, HO_329002, HO_338001, HO_338002, HO_348001, HO_348002, BK309, BK328, BK337, BK347, HB⟩ := hcut
   cases kq with
   | zero => exact absurd HA.out (by simp [laws_FnExactAfterDeath.j0])
   | succ kj11 =>
    have H := HA.out
    clear HA
    simp only [laws_FnExactAfterDeath.j0] at H
    by_cases c64 : x44_11 = true
    ·subst c64
     have H1 : (none) = some r := by rw [if_pos rfl] at H; exact H
     clear H
     have H := H1
     clear H1
     exact absurd H (by simp)
    ·replace c64 := Bool.eq_false_iff.mpr c64
     subst c64
     have H1 : ((laws_toCourt.f kj11 a0_0 l0_1 l0_2 a0_3).bind fun bt349 => ((laws_eqCourt.f kj11 t329 t330 t333 t336 bt349.1 bt349.2.1 bt349.2.2.1 bt349.2.2.2).bind fun t357 => (if t357 = true then ((laws_markCourt.f kj11 t329 t330 t333 t336 1).bind fun bt358 => (if bt358.1 < 0 then (laws_FnExactAfterDeath.j1 kj11 a1 t327 true a0_0 l0_1 l0_2 a0_3 t319 t320 t323 t326 t338 t339 t342 t345) else ((laws_eqCourt.f kj11 t338 t339 t342 t345 t319 t320 t323 t326).bind fun t361 => (if t361 = true then (laws_FnExactAfterDeath.j1 kj11 a1 t327 (t346 != t327) a0_0 l0_1 l0_2 a0_3 t319 t320 t323 t326 t338 t339 t342 t345) else (laws_FnExactAfterDeath.j1 kj11 a1 t327 true a0_0 l0_1 l0_2 a0_3 t319 t320 t323 t326 t338 t339 t342 t345))))) else (none)))) = some r := by rw [if_neg (show ¬ (false = true) by decide)] at H; exact H
     clear H
     have H := H1
     clear H1
     replace H := Option.bind_eq_some_iff.mp H
     obtain ⟨⟨t349, t350, t353, t356⟩, A650, H⟩ := H
     replace H : ((laws_eqCourt.f kj11 t329 t330 t333 t336 t349 t350 t353 t356).bind fun t357 => (if t357 = true then ((laws_markCourt.f kj11 t329 t330 t333 t336 1).bind fun bt358 => (if bt358.1 < 0 then (laws_FnExactAfterDeath.j1 kj11 a1 t327 true a0_0 l0_1 l0_2 a0_3 t319 t320 t323 t326 t338 t339 t342 t345) else ((laws_eqCourt.f kj11 t338 t339 t342 t345 t319 t320 t323 t326).bind fun t361 => (if t361 = true then (laws_FnExactAfterDeath.j1 kj11 a1 t327 (t346 != t327) a0_0 l0_1 l0_2 a0_3 t319 t320 t323 t326 t338 t339 t342 t345) else (laws_FnExactAfterDeath.j1 kj11 a1 t327 true a0_0 l0_1 l0_2 a0_3 t319 t320 t323 t326 t338 t339 t342 t345))))) else (none))) = some r := H
     have A65 := Aside0.mk A650
     clear A650
     replace H := Option.bind_eq_some_iff.mp H
     obtain ⟨t357, A660, H⟩ := H
     replace H : (if t357 = true then ((laws_markCourt.f kj11 t329 t330 t333 t336 1).bind fun bt358 => (if bt358.1 < 0 then (laws_FnExactAfterDeath.j1 kj11 a1 t327 true a0_0 l0_1 l0_2 a0_3 t319 t320 t323 t326 t338 t339 t342 t345) else ((laws_eqCourt.f kj11 t338 t339 t342 t345 t319 t320 t323 t326).bind fun t361 => (if t361 = true then (laws_FnExactAfterDeath.j1 kj11 a1 t327 (t346 != t327) a0_0 l0_1 l0_2 a0_3 t319 t320 t323 t326 t338 t339 t342 t345) else (laws_FnExactAfterDeath.j1 kj11 a1 t327 true a0_0 l0_1 l0_2 a0_3 t319 t320 t323 t326 t338 t339 t342 t345))))) else (none)) = some r := H
     have A66 := Aside0.mk A660
     clear A660
     by_cases c67 : t357 = true
     ·subst c67
      have H1 : ((laws_markCourt.f kj11 t329 t330 t333 t336 1).bind fun bt358 => (if bt358.1 < 0 then (laws_FnExactAfterDeath.j1 kj11 a1 t327 true a0_0 l0_1 l0_2 a0_3 t319 t320 t323 t326 t338 t339 t342 t345) else ((laws_eqCourt.f kj11 t338 t339 t342 t345 t319 t320 t323 t326).bind fun t361 => (if t361 = true then (laws_FnExactAfterDeath.j1 kj11 a1 t327 (t346 != t327) a0_0 l0_1 l0_2 a0_3 t319 t320 t323 t326 t338 t339 t342 t345) else (laws_FnExactAfterDeath.j1 kj11 a1 t327 true a0_0 l0_1 l0_2 a0_3 t319 t320 t323 t326 t338 t339 t342 t345))))) = some r := by rw [if_pos rfl] at H; exact H
      clear H
      have H := H1
      clear H1
      replace H := Option.bind_eq_some_iff.mp H
      obtain ⟨⟨t358, t359, t360⟩, A680, H⟩ := H
      replace H : (if t358 < 0 then (laws_FnExactAfterDeath.j1 kj11 a1 t327 true a0_0 l0_1 l0_2 a0_3 t319 t320 t323 t326 t338 t339 t342 t345) else ((laws_eqCourt.f kj11 t338 t339 t342 t345 t319 t320 t323 t326).bind fun t361 => (if t361 = true then (laws_FnExactAfterDeath.j1 kj11 a1 t327 (t346 != t327) a0_0 l0_1 l0_2 a0_3 t319 t320 t323 t326 t338 t339 t342 t345) else (laws_FnExactAfterDeath.j1 kj11 a1 t327 true a0_0 l0_1 l0_2 a0_3 t319 t320 t323 t326 t338 t339 t342 t345)))) = some r := H
      have A68 := Aside0.mk A680
      clear A680
      have HC69 := Aside0.mk H
      clear H
      try go_wp2
      have n0_ := Aside0.mk (Kd.S_drew HO_329001.out)
      have n1_ := Aside0.mk (Kd.R_drew HO_329002.out)
      have n2_ := Aside0.mk (Kd.S_drew HO_338001.out)
      have n3_ := Aside0.mk (Kd.R_drew HO_338002.out)
      have n4_ := Aside0.mk (Kd.S_drew HO_348001.out)
      have n5_ := Aside0.mk (Kd.R_drew HO_348002.out)
      have n6_ := Aside0.mk (blk_drew BK309.out)
      have n7_ := Aside0.mk (blk_drew BK328.out)
      have n8_ := Aside0.mk (blk_drew BK337.out)
      have n9_ := Aside0.mk (blk_drew BK347.out)
      have n10_ := Aside0.mk (below_drew1 HB.out)
      clear HO_329001 HO_329002 HO_338001 HO_338002 HO_348001 HO_348002 BK309 BK328 BK337 BK347 HB
      have HO_329001 := n0_
      have HO_329002 := n1_
      have HO_338001 := n2_
      have HO_338002 := n3_
      have HO_348001 := n4_
      have HO_348002 := n5_
      have BK309 := n6_
      have BK328 := n7_
      have BK337 := n8_
      have BK347 := n9_
      have HB := n10_
      clear n0_ n1_ n2_ n3_ n4_ n5_ n6_ n7_ n8_ n9_ n10_
      refine start_ (n := 5) (S := fun w' => w'.cell? ⟨gb337, 0, none⟩ = some (.int .i64 t329) ∧ w'.cell? ⟨gb337, 1, none⟩ = some (.slice Ao35 t330.length co35) ∧ w'.cell? ⟨gb337, 2, none⟩ = some (.slice Ao36 t333.length co36) ∧ w'.cell? ⟨gb337, 3, none⟩ = some (.int .i64 t336) ∧ w'.cell? ⟨gb309, 0, none⟩ = some (.int .i64 a0_0) ∧ w'.cell? ⟨gb309, 1, none⟩ = some (.slice A0_1 l0_1.length c0_1) ∧ w'.cell? ⟨gb309, 2, none⟩ = some (.slice A0_2 l0_2.length c0_2) ∧ w'.cell? ⟨gb309, 3, none⟩ = some (.int .i64 a0_3)) (ds := []) #[F,F,F,F,F] kr rfl rfl ⟨cz0 BK337, cz1 BK337, cz2 BK337, cz3 BK337, cz0 BK309, cz1 BK309, cz2 BK309, cz3 BK309⟩ (fun hHeld => ?_)
      generalize wc.drew = w70 at HO_329001 HO_329002 HO_338001 HO_338002 HO_348001 HO_348002 BK309 BK328 BK337 BK347 HB hHeld ⊢
      refine tk8 0 (some 45) #[T,F,F,F,F] kr ?_
      refine tk8 1 (some 46) #[T,T,F,F,F] kr ?_
      refine one_ (i := 2) (N := some 47) #[T,T,T,F,F] rfl rfl kr (by decide) (fun K hK => ?_)
      refine goes_ Try.func18 kr rfl #[.agg #[.int .i64 a0_0, .slice A0_1 l0_1.length c0_1, .slice A0_2 l0_2.length c0_2, .int .i64 a0_3]] (by rfl) rfl rfl lm ?_
      with_reducible refine (laws_toCourt.calls kj11 a0_0 _ _ l0_1 _ _ l0_2 a0_3 t349 t350 t353 t356 _ ?side1 ?side2 ?side3 ?side4 A65.out).mono ?_
      (case side1 => repeat (first | exact (Kd.C_below HR0_1.out HB.out) | (with_reducible refine Kd.C_alloc ?_ _) | (with_reducible refine Kd.C_drewN ?_ _) | (with_reducible refine Kd.C_drew ?_)))
      (case side2 => exact HC0_1.out)
      (case side3 => repeat (first | exact (Kd.C_below HR0_2.out HB.out) | (with_reducible refine Kd.C_alloc ?_ _) | (with_reducible refine Kd.C_drewN ?_ _) | (with_reducible refine Kd.C_drew ?_)))
      (case side4 => exact HC0_2.out)
      rintro e w71 ⟨v351, v354, rfl, ho0, ho1, hb⟩
      refine ⟨_, rfl, ?_⟩
      obtain ⟨Nm72, hNm72⟩ := S_num ho0
      have n0_ := Aside0.mk (S_ltN (Kd.S_told (Kd.S_told (Kd.S_old (sz HO_329001) hb) (Kd.S_base ho0)) (Kd.R_base ho1)) hNm72)
      have n1_ := Aside0.mk (Kd.R_elder' (rz HO_329002) (Kd.R_base ho1) hb)
      have n2_ := Aside0.mk (S_ltN (Kd.S_told (Kd.S_told (Kd.S_old (sz HO_338001) hb) (Kd.S_base ho0)) (Kd.R_base ho1)) hNm72)
      have n3_ := Aside0.mk (Kd.R_elder' (rz HO_338002) (Kd.R_base ho1) hb)
      have n4_ := Aside0.mk (S_ltN (Kd.S_told (Kd.S_told (Kd.S_old (sz HO_348001) hb) (Kd.S_base ho0)) (Kd.R_base ho1)) hNm72)
      have n5_ := Aside0.mk (Kd.R_elder' (rz HO_348002) (Kd.R_base ho1) hb)
      have n6_ := Aside0.mk (Kd.S_lower (Kd.S_new' (Kd.S_new' (Kd.S_new' (Kd.S_new' (Kd.S_new' (Kd.S_new' (S_geN ho0 hNm72) (Kd.S_lt (sz HO_329001))) (Kd.R_lt (rz HO_329002))) (Kd.S_lt (sz HO_338001))) (Kd.R_lt (rz HO_338002))) (Kd.S_lt (sz HO_348001))) (Kd.R_lt (rz HO_348002))) (below_size bh))
      have n7_ := Aside0.mk (Kd.R_lower (Kd.R_new' (Kd.R_new' (Kd.R_new' ho1 (Kd.R_lt (rz HO_329002))) (Kd.R_lt (rz HO_338002))) (Kd.R_lt (rz HO_348002))) (below_size bh))
      have n8_ := Aside0.mk (blk_below (bz BK309) hb)
      have n9_ := Aside0.mk (blk_below (bz BK328) hb)
      have n10_ := Aside0.mk (blk_below (bz BK337) hb)
      have n11_ := Aside0.mk (blk_below (bz BK347) hb)
      have n12_ := Aside0.mk (below_step bh hb)
      clear HO_329001 HO_329002 HO_338001 HO_338002 HO_348001 HO_348002 BK309 BK328 BK337 BK347 HB
      have HO_329001 := n0_
      have HO_329002 := n1_
      have HO_338001 := n2_
      have HO_338002 := n3_
      have HO_348001 := n4_
      have HO_348002 := n5_
      have HO352 := n6_
      have HO355 := n7_
      have BK309 := n8_
      have BK328 := n9_
      have BK337 := n10_
      have BK347 := n11_
      have HB := n12_
      clear n0_ n1_ n2_ n3_ n4_ n5_ n6_ n7_ n8_ n9_ n10_ n11_ n12_
      (try clear hb)
      (try clear hb2)
      (try clear hk)
      (try clear hi)
      (try clear ho0)
      (try clear ho1)
      obtain ⟨Ao73, co73, eo73⟩ := Kd.S_slice HO352.out
      (first | subst eo73 | (injection eo73 with f1_ f2_ f3_; have f4_ := f1_.symm; have f5_ := f3_.symm; clear f1_ f2_ f3_; subst f4_; subst f5_))
      obtain ⟨Ao74, co74, eo74⟩ := Kd.R_slice HO355.out
      (first | subst eo74 | (injection eo74 with f1_ f2_ f3_; have f4_ := f1_.symm; have f5_ := f3_.symm; clear f1_ f2_ f3_; subst f4_; subst f5_))
      refine hK.out _ _ ⟨cz0 BK337, cz1 BK337, cz2 BK337, cz3 BK337, cz0 BK309, cz1 BK309, cz2 BK309, cz3 BK309⟩ (fun hHeld => ?_)
      clear hK K
      refine norm_ (a' := ?_) ?_ ?_
      rotate_left
      ·show Act.put _ (some 47) _ = _
       simp only [Act.put, List.setIfInBounds_toArray, List.set_cons_zero, List.set_cons_succ, i64_w, i32_w]
       rfl
      refine one_ (i := 3) (N := some 48) #[T,T,T,T,F] rfl rfl kr (by decide) (fun K hK => ?_)
      refine goes_ Try.func20 kr rfl #[.agg #[.int .i64 t329, .slice Ao35 t330.length co35, .slice Ao36 t333.length co36, .int .i64 t336], .agg #[.int .i64 t349, .slice Ao73 t350.length co73, .slice Ao74 t353.length co74, .int .i64 t356]] (by rfl) rfl rfl lm ?_
      with_reducible refine (laws_eqCourt.calls kj11 t329 _ _ t330 _ _ t333 t336 t349 _ _ t350 _ _ t353 t356 true _ ?side1 ?side2 ?side3 ?side4 ?side5 ?side6 ?side7 ?side8 A66.out).mono ?_
      (case side1 => repeat (first | exact (Kd.S_reads' HO_338001.out).2.2 | (with_reducible refine Kd.C_alloc ?_ _) | (with_reducible refine Kd.C_drewN ?_ _) | (with_reducible refine Kd.C_drew ?_)))
      (case side2 => exact (Kd.S_reads' HO_338001.out).2.1)
      (case side3 => repeat (first | exact (Kd.R_reads' HO_338002.out).2.2 | (with_reducible refine Kd.C_alloc ?_ _) | (with_reducible refine Kd.C_drewN ?_ _) | (with_reducible refine Kd.C_drew ?_)))
      (case side4 => exact (Kd.R_reads' HO_338002.out).2.1)
      (case side5 => repeat (first | exact (Kd.S_reads' HO352.out).2.2 | (with_reducible refine Kd.C_alloc ?_ _) | (with_reducible refine Kd.C_drewN ?_ _) | (with_reducible refine Kd.C_drew ?_)))
      (case side6 => exact (Kd.S_reads' HO352.out).2.1)
      (case side7 => repeat (first | exact (Kd.R_reads' HO355.out).2.2 | (with_reducible refine Kd.C_alloc ?_ _) | (with_reducible refine Kd.C_drewN ?_ _) | (with_reducible refine Kd.C_drew ?_)))
      (case side8 => exact (Kd.R_reads' HO355.out).2.1)
      rintro e w75 ⟨rfl, hb⟩
      refine ⟨_, rfl, ?_⟩
      have n0_ := Aside0.mk (Kd.S_below (sz HO_329001) hb)
      have n1_ := Aside0.mk (Kd.R_below (rz HO_329002) hb)
      have n2_ := Aside0.mk (Kd.S_below (sz HO_338001) hb)
      have n3_ := Aside0.mk (Kd.R_below (rz HO_338002) hb)
      have n4_ := Aside0.mk (Kd.S_below (sz HO_348001) hb)
      have n5_ := Aside0.mk (Kd.R_below (rz HO_348002) hb)
      have n6_ := Aside0.mk (Kd.S_below (sz HO352) hb)
      have n7_ := Aside0.mk (Kd.R_below (rz HO355) hb)
      have n8_ := Aside0.mk (blk_below (bz BK309) hb)
      have n9_ := Aside0.mk (blk_below (bz BK328) hb)
      have n10_ := Aside0.mk (blk_below (bz BK337) hb)
      have n11_ := Aside0.mk (blk_below (bz BK347) hb)
      have n12_ := Aside0.mk (below_step bh hb)
      clear HO_329001 HO_329002 HO_338001 HO_338002 HO_348001 HO_348002 HO352 HO355 BK309 BK328 BK337 BK347 HB
      have HO_329001 := n0_
      have HO_329002 := n1_
      have HO_338001 := n2_
      have HO_338002 := n3_
      have HO_348001 := n4_
      have HO_348002 := n5_
      have HO352 := n6_
      have HO355 := n7_
      have BK309 := n8_
      have BK328 := n9_
      have BK337 := n10_
      have BK347 := n11_
      have HB := n12_
      clear n0_ n1_ n2_ n3_ n4_ n5_ n6_ n7_ n8_ n9_ n10_ n11_ n12_
      (try clear hb)
      (try clear hb2)
      (try clear hk)
      (try clear hi)
      refine hK.out _ _ ⟨cz0 BK337, cz1 BK337, cz2 BK337, cz3 BK337, cz0 BK309, cz1 BK309, cz2 BK309, cz3 BK309⟩ (fun hHeld => ?_)
      clear hK K
      refine norm_ (a' := ?_) ?_ ?_
      rotate_left
      ·show Act.put _ (some 48) _ = _
       simp only [Act.put, List.setIfInBounds_toArray, List.set_cons_zero, List.set_cons_succ, i64_w, i32_w]
       rfl
      refine pu 4 (some 49) #[T,T,T,T,T] kr ?_
      refine done_ kr ?_
      have hnb76 := NB337_309.out
      have hnc76 := NB309_337.out
      have hnb77 := NB337_328.out
      have hnc77 := NB328_337.out
      have hnb78 := NB337_347.out
      have hnc78 := NB347_337.out
      have hcz79_0 := cz0 BK337
      have hcz79_1 := cz1 BK337
      have hcz79_2 := cz2 BK337
      have hcz79_3 := cz3 BK337
      have hfz79_0 := blk_frozen BK337.out 0
      have hfz79_1 := blk_frozen BK337.out 1
      have hfz79_2 := blk_frozen BK337.out 2
      have hfz79_3 := blk_frozen BK337.out 3
      have n_ := Aside0.mk (Kd.S_mono (ok' := (fun k_ => some k_ ≠ (.slice Ao27 t323.length co27 : Value).ownBlock ∧ some k_ ≠ (.slice Ao35 t330.length co35 : Value).ownBlock ∧ some k_ ≠ (.slice Ao36 t333.length co36 : Value).ownBlock ∧ some k_ ≠ (.slice Ao44 t339.length co44 : Value).ownBlock ∧ some k_ ≠ (.slice Ao45 t342.length co45 : Value).ownBlock ∧ some k_ ≠ (.slice Ao73 t350.length co73 : Value).ownBlock ∧ some k_ ≠ (.slice Ao74 t353.length co74 : Value).ownBlock ∧ Nm22 ≤ k_ ∧ k_ < Nm30 ∧ k_ < Nm38 ∧ k_ < Nm72)) HO_329001.out (by (intro k_; (try simp only [and_imp, and_assoc, true_and]); intros; repeat' (first | assumption | exact trivial | apply And.intro))))
      clear HO_329001
      have HO_329001 := n_
      clear n_
      have n_ := Aside0.mk (Kd.R_mono (ok' := (fun k_ => some k_ ≠ (.slice Ao36 t333.length co36 : Value).ownBlock ∧ some k_ ≠ (.slice Ao45 t342.length co45 : Value).ownBlock ∧ some k_ ≠ (.slice Ao74 t353.length co74 : Value).ownBlock)) HO_329002.out (by (intro k_; (try simp only [and_imp, and_assoc, true_and]); intros; repeat' (first | assumption | exact trivial | apply And.intro))))
      clear HO_329002
      have HO_329002 := n_
      clear n_
      have n_ := Aside0.mk (Kd.S_mono (ok' := (fun k_ => some k_ ≠ (.slice Ao26 t320.length co26 : Value).ownBlock ∧ some k_ ≠ (.slice Ao27 t323.length co27 : Value).ownBlock ∧ some k_ ≠ (.slice Ao36 t333.length co36 : Value).ownBlock ∧ some k_ ≠ (.slice Ao44 t339.length co44 : Value).ownBlock ∧ some k_ ≠ (.slice Ao45 t342.length co45 : Value).ownBlock ∧ some k_ ≠ (.slice Ao73 t350.length co73 : Value).ownBlock ∧ some k_ ≠ (.slice Ao74 t353.length co74 : Value).ownBlock ∧ Nm30 ≤ k_ ∧ k_ < Nm38 ∧ k_ < Nm72)) HO_338001.out (by (intro k_; (try simp only [and_imp, and_assoc, true_and]); intros; repeat' (first | assumption | exact trivial | apply And.intro))))
      clear HO_338001
      have HO_338001 := n_
      clear n_
      have n_ := Aside0.mk (Kd.R_mono (ok' := (fun k_ => some k_ ≠ (.slice Ao27 t323.length co27 : Value).ownBlock ∧ some k_ ≠ (.slice Ao45 t342.length co45 : Value).ownBlock ∧ some k_ ≠ (.slice Ao74 t353.length co74 : Value).ownBlock)) HO_338002.out (by (intro k_; (try simp only [and_imp, and_assoc, true_and]); intros; repeat' (first | assumption | exact trivial | apply And.intro))))
      clear HO_338002
      have HO_338002 := n_
      clear n_
      have n_ := Aside0.mk (Kd.S_mono (ok' := (fun k_ => some k_ ≠ (.slice Ao26 t320.length co26 : Value).ownBlock ∧ some k_ ≠ (.slice Ao27 t323.length co27 : Value).ownBlock ∧ some k_ ≠ (.slice Ao35 t330.length co35 : Value).ownBlock ∧ some k_ ≠ (.slice Ao36 t333.length co36 : Value).ownBlock ∧ some k_ ≠ (.slice Ao45 t342.length co45 : Value).ownBlock ∧ some k_ ≠ (.slice Ao73 t350.length co73 : Value).ownBlock ∧ some k_ ≠ (.slice Ao74 t353.length co74 : Value).ownBlock ∧ Nm38 ≤ k_ ∧ k_ < Nm72)) HO_348001.out (by (intro k_; (try simp only [and_imp, and_assoc, true_and]); intros; repeat' (first | assumption | exact trivial | apply And.intro))))
      clear HO_348001
      have HO_348001 := n_
      clear n_
      have n_ := Aside0.mk (Kd.R_mono (ok' := (fun k_ => some k_ ≠ (.slice Ao27 t323.length co27 : Value).ownBlock ∧ some k_ ≠ (.slice Ao36 t333.length co36 : Value).ownBlock ∧ some k_ ≠ (.slice Ao74 t353.length co74 : Value).ownBlock)) HO_348002.out (by (intro k_; (try simp only [and_imp, and_assoc, true_and]); intros; repeat' (first | assumption | exact trivial | apply And.intro))))
      clear HO_348002
      have HO_348002 := n_
      clear n_
      have n_ := Aside0.mk (Kd.S_mono (ok' := (fun k_ => some k_ ≠ (.slice Ao26 t320.length co26 : Value).ownBlock ∧ some k_ ≠ (.slice Ao27 t323.length co27 : Value).ownBlock ∧ some k_ ≠ (.slice Ao35 t330.length co35 : Value).ownBlock ∧ some k_ ≠ (.slice Ao36 t333.length co36 : Value).ownBlock ∧ some k_ ≠ (.slice Ao44 t339.length co44 : Value).ownBlock ∧ some k_ ≠ (.slice Ao45 t342.length co45 : Value).ownBlock ∧ some k_ ≠ (.slice Ao74 t353.length co74 : Value).ownBlock ∧ Nm72 ≤ k_)) HO352.out (by (intro k_; (try simp only [and_imp, and_assoc, true_and]); intros; repeat' (first | assumption | exact trivial | apply And.intro))))
      clear HO352
      have HO352 := n_
      clear n_
      have n_ := Aside0.mk (Kd.R_mono (ok' := (fun k_ => some k_ ≠ (.slice Ao27 t323.length co27 : Value).ownBlock ∧ some k_ ≠ (.slice Ao36 t333.length co36 : Value).ownBlock ∧ some k_ ≠ (.slice Ao45 t342.length co45 : Value).ownBlock)) HO355.out (by (intro k_; (try simp only [and_imp, and_assoc, true_and]); intros; repeat' (first | assumption | exact trivial | apply And.intro))))
      clear HO355
      have HO355 := n_
      clear n_
      go_upto_region 14 with (first | ((with_reducible refine gate_callee (f := 28) rfl ?_); refine goesL_ (some 52) rfl rfl Try.func28 kr rfl #[.agg #[.int .i64 t329, .slice Ao35 t330.length co35, .slice Ao36 t333.length co36, .int .i64 t336], .int .i64 1] rfl lm ?_; (with_reducible refine (laws_markCourt.calls kj11 t329 (fun k_ => ((some k_ ≠ (.slice Ao26 t320.length co26 : Value).ownBlock ∧ (some k_ ≠ (.slice Ao27 t323.length co27 : Value).ownBlock ∧ (some k_ ≠ (.slice Ao36 t333.length co36 : Value).ownBlock ∧ (some k_ ≠ (.slice Ao44 t339.length co44 : Value).ownBlock ∧ (some k_ ≠ (.slice Ao45 t342.length co45 : Value).ownBlock ∧ (some k_ ≠ (.slice Ao73 t350.length co73 : Value).ownBlock ∧ (some k_ ≠ (.slice Ao74 t353.length co74 : Value).ownBlock ∧ (Nm30 ≤ k_ ∧ (k_ < Nm38 ∧ k_ < Nm72)))))))))) ∧ k_ ≠ gb309 ∧ k_ ≠ gb328 ∧ k_ ≠ gb337 ∧ k_ ≠ gb347) (.slice Ao35 t330.length co35) t330 (fun k_ => some k_ = (.slice Ao36 t333.length co36 : Value).ownBlock) (.slice Ao36 t333.length co36) t333 t336 1 t358 t359 t360 w _ ?side1 ?side2 ?side3 ?side4 A68.out).mono ?_); (case side1 => repeat (first | (with_reducible first | exact HB.out | apply below_alloc | apply pw_below_drewN | apply below_drew1 | refine below_set ?_ GE309.out | refine below_set ?_ GE328.out | refine below_set ?_ GE337.out | refine below_set ?_ GE347.out) | exact HB.out)); (case side2 => exact Kd.S_mono ((Kd.S_types (Kd.S_types (Kd.S_types (Kd.S_types HO_338001.out (bz BK309) (by decide)) (bz BK328) (by decide)) (bz BK337) (by decide)) (bz BK347) (by decide))) (by (intro k_; (try simp only [and_imp, and_assoc]); intros; repeat' (first | assumption | exact trivial | apply And.intro)))); (case side3 => exact fun k_ hp_ e_ => (hp_.1.2.2.1) e_); (case side4 => exact Kd.R_tight rfl HO_338002.out); rintro e w80 ⟨rfl, hy0, hy1, hb, hkp⟩; refine ⟨_, rfl, ?_⟩; have n0_ := Aside0.mk (Kd.S_mono (ok' := fun k_ => some k_ ≠ (.slice Ao27 t323.length co27 : Value).ownBlock ∧ some k_ ≠ (.slice Ao35 t330.length co35 : Value).ownBlock ∧ some k_ ≠ (.slice Ao36 t333.length co36 : Value).ownBlock ∧ some k_ ≠ (.slice Ao44 t339.length co44 : Value).ownBlock ∧ some k_ ≠ (.slice Ao45 t342.length co45 : Value).ownBlock ∧ some k_ ≠ (.slice Ao73 t350.length co73 : Value).ownBlock ∧ some k_ ≠ (.slice Ao74 t353.length co74 : Value).ownBlock ∧ Nm22 ≤ k_ ∧ k_ < Nm30 ∧ k_ < Nm38 ∧ k_ < Nm72) (Kd.S_keptB ((Kd.S_mono (ok' := fun k_ => (some k_ ≠ (.slice Ao27 t323.length co27 : Value).ownBlock ∧ (some k_ ≠ (.slice Ao35 t330.length co35 : Value).ownBlock ∧ (some k_ ≠ (.slice Ao36 t333.length co36 : Value).ownBlock ∧ (some k_ ≠ (.slice Ao44 t339.length co44 : Value).ownBlock ∧ (some k_ ≠ (.slice Ao45 t342.length co45 : Value).ownBlock ∧ (some k_ ≠ (.slice Ao73 t350.length co73 : Value).ownBlock ∧ (some k_ ≠ (.slice Ao74 t353.length co74 : Value).ownBlock ∧ (Nm22 ≤ k_ ∧ (k_ < Nm30 ∧ (k_ < Nm38 ∧ k_ < Nm72)))))))))) ∧ ¬ (fun k_ => ((some k_ ≠ (.slice Ao26 t320.length co26 : Value).ownBlock ∧ (some k_ ≠ (.slice Ao27 t323.length co27 : Value).ownBlock ∧ (some k_ ≠ (.slice Ao36 t333.length co36 : Value).ownBlock ∧ (some k_ ≠ (.slice Ao44 t339.length co44 : Value).ownBlock ∧ (some k_ ≠ (.slice Ao45 t342.length co45 : Value).ownBlock ∧ (some k_ ≠ (.slice Ao73 t350.length co73 : Value).ownBlock ∧ (some k_ ≠ (.slice Ao74 t353.length co74 : Value).ownBlock ∧ (Nm30 ≤ k_ ∧ (k_ < Nm38 ∧ k_ < Nm72)))))))))) ∧ k_ ≠ gb309 ∧ k_ ≠ gb328 ∧ k_ ≠ gb337 ∧ k_ ≠ gb347) k_) HO_329001.out (fun k_ hk => ⟨hk, fun hp_ => Nat.not_le.2 (hk.2.2.2.2.2.2.2.2.1) (hp_.1.2.2.2.2.2.2.2.1)⟩))) hkp (fun k_ hk_ hs_ => Or.elim hs_ (fun e_ => (hk_.2) e_) (fun e_ => (hk_.1.2.2.1) e_))) (fun k_ hk_ => ⟨hk_.1.1.1, hk_.1.1.2.1, hk_.1.1.2.2.1, hk_.1.1.2.2.2.1, hk_.1.1.2.2.2.2.1, hk_.1.1.2.2.2.2.2.1, hk_.1.1.2.2.2.2.2.2.1, hk_.1.1.2.2.2.2.2.2.2.1, hk_.1.1.2.2.2.2.2.2.2.2.1, hk_.1.1.2.2.2.2.2.2.2.2.2.1, hk_.1.1.2.2.2.2.2.2.2.2.2.2⟩)); have n1_ := Aside0.mk (Kd.R_mono (ok' := fun k_ => some k_ ≠ (.slice Ao36 t333.length co36 : Value).ownBlock ∧ some k_ ≠ (.slice Ao45 t342.length co45 : Value).ownBlock ∧ some k_ ≠ (.slice Ao74 t353.length co74 : Value).ownBlock) (Kd.R_keptB ((Kd.R_mono (ok' := fun k_ => (some k_ ≠ (.slice Ao36 t333.length co36 : Value).ownBlock ∧ (some k_ ≠ (.slice Ao45 t342.length co45 : Value).ownBlock ∧ some k_ ≠ (.slice Ao74 t353.length co74 : Value).ownBlock)) ∧ ¬ (fun k_ => ((some k_ ≠ (.slice Ao26 t320.length co26 : Value).ownBlock ∧ (some k_ ≠ (.slice Ao27 t323.length co27 : Value).ownBlock ∧ (some k_ ≠ (.slice Ao36 t333.length co36 : Value).ownBlock ∧ (some k_ ≠ (.slice Ao44 t339.length co44 : Value).ownBlock ∧ (some k_ ≠ (.slice Ao45 t342.length co45 : Value).ownBlock ∧ (some k_ ≠ (.slice Ao73 t350.length co73 : Value).ownBlock ∧ (some k_ ≠ (.slice Ao74 t353.length co74 : Value).ownBlock ∧ (Nm30 ≤ k_ ∧ (k_ < Nm38 ∧ k_ < Nm72)))))))))) ∧ k_ ≠ gb309 ∧ k_ ≠ gb328 ∧ k_ ≠ gb337 ∧ k_ ≠ gb347) k_) (Kd.R_tight2 rfl HO_329002.out) (fun k_ hk => ⟨hk.2, fun hp_ => (hp_.1.2.1) hk.1⟩))) hkp (fun k_ hk_ hs_ => Or.elim hs_ (fun e_ => (hk_.2) e_) (fun e_ => (hk_.1.1) e_))) (fun k_ hk_ => ⟨hk_.1.1.1, hk_.1.1.2.1, hk_.1.1.2.2⟩)); have n2_ := Aside0.mk (Kd.S_mono hy0 (fun k_ hk_ => hk_.1)); have n3_ := Aside0.mk (Kd.R_reok rfl hy1 (fun k_ e_ => HO_338002.out.1 k_ e_)); have n4_ := Aside0.mk (Kd.S_mono (ok' := fun k_ => some k_ ≠ (.slice Ao26 t320.length co26 : Value).ownBlock ∧ some k_ ≠ (.slice Ao27 t323.length co27 : Value).ownBlock ∧ some k_ ≠ (.slice Ao35 t330.length co35 : Value).ownBlock ∧ some k_ ≠ (.slice Ao36 t333.length co36 : Value).ownBlock ∧ some k_ ≠ (.slice Ao45 t342.length co45 : Value).ownBlock ∧ some k_ ≠ (.slice Ao73 t350.length co73 : Value).ownBlock ∧ some k_ ≠ (.slice Ao74 t353.length co74 : Value).ownBlock ∧ Nm38 ≤ k_ ∧ k_ < Nm72) (Kd.S_keptB ((Kd.S_mono (ok' := fun k_ => (some k_ ≠ (.slice Ao26 t320.length co26 : Value).ownBlock ∧ (some k_ ≠ (.slice Ao27 t323.length co27 : Value).ownBlock ∧ (some k_ ≠ (.slice Ao35 t330.length co35 : Value).ownBlock ∧ (some k_ ≠ (.slice Ao36 t333.length co36 : Value).ownBlock ∧ (some k_ ≠ (.slice Ao45 t342.length co45 : Value).ownBlock ∧ (some k_ ≠ (.slice Ao73 t350.length co73 : Value).ownBlock ∧ (some k_ ≠ (.slice Ao74 t353.length co74 : Value).ownBlock ∧ (Nm38 ≤ k_ ∧ k_ < Nm72)))))))) ∧ ¬ (fun k_ => ((some k_ ≠ (.slice Ao26 t320.length co26 : Value).ownBlock ∧ (some k_ ≠ (.slice Ao27 t323.length co27 : Value).ownBlock ∧ (some k_ ≠ (.slice Ao36 t333.length co36 : Value).ownBlock ∧ (some k_ ≠ (.slice Ao44 t339.length co44 : Value).ownBlock ∧ (some k_ ≠ (.slice Ao45 t342.length co45 : Value).ownBlock ∧ (some k_ ≠ (.slice Ao73 t350.length co73 : Value).ownBlock ∧ (some k_ ≠ (.slice Ao74 t353.length co74 : Value).ownBlock ∧ (Nm30 ≤ k_ ∧ (k_ < Nm38 ∧ k_ < Nm72)))))))))) ∧ k_ ≠ gb309 ∧ k_ ≠ gb328 ∧ k_ ≠ gb337 ∧ k_ ≠ gb347) k_) HO_348001.out (fun k_ hk => ⟨hk, fun hp_ => Nat.not_le.2 (hp_.1.2.2.2.2.2.2.2.2.1) (hk.2.2.2.2.2.2.2.1)⟩))) hkp (fun k_ hk_ hs_ => Or.elim hs_ (fun e_ => (hk_.2) e_) (fun e_ => (hk_.1.2.2.2.1) e_))) (fun k_ hk_ => ⟨hk_.1.1.1, hk_.1.1.2.1, hk_.1.1.2.2.1, hk_.1.1.2.2.2.1, hk_.1.1.2.2.2.2.1, hk_.1.1.2.2.2.2.2.1, hk_.1.1.2.2.2.2.2.2.1, hk_.1.1.2.2.2.2.2.2.2.1, hk_.1.1.2.2.2.2.2.2.2.2⟩)); have n5_ := Aside0.mk (Kd.R_mono (ok' := fun k_ => some k_ ≠ (.slice Ao27 t323.length co27 : Value).ownBlock ∧ some k_ ≠ (.slice Ao36 t333.length co36 : Value).ownBlock ∧ some k_ ≠ (.slice Ao74 t353.length co74 : Value).ownBlock) (Kd.R_keptB ((Kd.R_mono (ok' := fun k_ => (some k_ ≠ (.slice Ao27 t323.length co27 : Value).ownBlock ∧ (some k_ ≠ (.slice Ao36 t333.length co36 : Value).ownBlock ∧ some k_ ≠ (.slice Ao74 t353.length co74 : Value).ownBlock)) ∧ ¬ (fun k_ => ((some k_ ≠ (.slice Ao26 t320.length co26 : Value).ownBlock ∧ (some k_ ≠ (.slice Ao27 t323.length co27 : Value).ownBlock ∧ (some k_ ≠ (.slice Ao36 t333.length co36 : Value).ownBlock ∧ (some k_ ≠ (.slice Ao44 t339.length co44 : Value).ownBlock ∧ (some k_ ≠ (.slice Ao45 t342.length co45 : Value).ownBlock ∧ (some k_ ≠ (.slice Ao73 t350.length co73 : Value).ownBlock ∧ (some k_ ≠ (.slice Ao74 t353.length co74 : Value).ownBlock ∧ (Nm30 ≤ k_ ∧ (k_ < Nm38 ∧ k_ < Nm72)))))))))) ∧ k_ ≠ gb309 ∧ k_ ≠ gb328 ∧ k_ ≠ gb337 ∧ k_ ≠ gb347) k_) (Kd.R_tight2 rfl HO_348002.out) (fun k_ hk => ⟨hk.2, fun hp_ => (hp_.1.2.2.2.2.1) hk.1⟩))) hkp (fun k_ hk_ hs_ => Or.elim hs_ (fun e_ => (hk_.2) e_) (fun e_ => (hk_.1.2.1) e_))) (fun k_ hk_ => ⟨hk_.1.1.1, hk_.1.1.2.1, hk_.1.1.2.2⟩)); have n6_ := Aside0.mk (blk_kept (bz BK309) hkp (fun hs_ => Or.elim hs_ (fun e_ => (fun e_ => (e_.2.1) rfl) e_) (fun e_ => (fun e_ => (Kd.R_ne HO_338002.out BK309.out (by decide)) e_) e_))); have n7_ := Aside0.mk (blk_kept (bz BK328) hkp (fun hs_ => Or.elim hs_ (fun e_ => (fun e_ => (e_.2.2.1) rfl) e_) (fun e_ => (fun e_ => (Kd.R_ne HO_338002.out BK328.out (by decide)) e_) e_))); have n8_ := Aside0.mk (blk_kept (bz BK337) hkp (fun hs_ => Or.elim hs_ (fun e_ => (fun e_ => (e_.2.2.2.1) rfl) e_) (fun e_ => (fun e_ => (Kd.R_ne HO_338002.out BK337.out (by decide)) e_) e_))); have n9_ := Aside0.mk (blk_kept (bz BK347) hkp (fun hs_ => Or.elim hs_ (fun e_ => (fun e_ => (e_.2.2.2.2) rfl) e_) (fun e_ => (fun e_ => (Kd.R_ne HO_338002.out BK347.out (by decide)) e_) e_))); have n10_ := Aside0.mk (Kd.S_mono (ok' := fun k_ => some k_ ≠ (.slice Ao26 t320.length co26 : Value).ownBlock ∧ some k_ ≠ (.slice Ao27 t323.length co27 : Value).ownBlock ∧ some k_ ≠ (.slice Ao35 t330.length co35 : Value).ownBlock ∧ some k_ ≠ (.slice Ao36 t333.length co36 : Value).ownBlock ∧ some k_ ≠ (.slice Ao44 t339.length co44 : Value).ownBlock ∧ some k_ ≠ (.slice Ao45 t342.length co45 : Value).ownBlock ∧ some k_ ≠ (.slice Ao74 t353.length co74 : Value).ownBlock ∧ Nm72 ≤ k_) (Kd.S_keptB ((Kd.S_mono (ok' := fun k_ => (some k_ ≠ (.slice Ao26 t320.length co26 : Value).ownBlock ∧ (some k_ ≠ (.slice Ao27 t323.length co27 : Value).ownBlock ∧ (some k_ ≠ (.slice Ao35 t330.length co35 : Value).ownBlock ∧ (some k_ ≠ (.slice Ao36 t333.length co36 : Value).ownBlock ∧ (some k_ ≠ (.slice Ao44 t339.length co44 : Value).ownBlock ∧ (some k_ ≠ (.slice Ao45 t342.length co45 : Value).ownBlock ∧ (some k_ ≠ (.slice Ao74 t353.length co74 : Value).ownBlock ∧ Nm72 ≤ k_))))))) ∧ ¬ (fun k_ => ((some k_ ≠ (.slice Ao26 t320.length co26 : Value).ownBlock ∧ (some k_ ≠ (.slice Ao27 t323.length co27 : Value).ownBlock ∧ (some k_ ≠ (.slice Ao36 t333.length co36 : Value).ownBlock ∧ (some k_ ≠ (.slice Ao44 t339.length co44 : Value).ownBlock ∧ (some k_ ≠ (.slice Ao45 t342.length co45 : Value).ownBlock ∧ (some k_ ≠ (.slice Ao73 t350.length co73 : Value).ownBlock ∧ (some k_ ≠ (.slice Ao74 t353.length co74 : Value).ownBlock ∧ (Nm30 ≤ k_ ∧ (k_ < Nm38 ∧ k_ < Nm72)))))))))) ∧ k_ ≠ gb309 ∧ k_ ≠ gb328 ∧ k_ ≠ gb337 ∧ k_ ≠ gb347) k_) HO352.out (fun k_ hk => ⟨hk, fun hp_ => Nat.not_le.2 (hp_.1.2.2.2.2.2.2.2.2.2) (hk.2.2.2.2.2.2.2)⟩))) hkp (fun k_ hk_ hs_ => Or.elim hs_ (fun e_ => (hk_.2) e_) (fun e_ => (hk_.1.2.2.2.1) e_))) (fun k_ hk_ => ⟨hk_.1.1.1, hk_.1.1.2.1, hk_.1.1.2.2.1, hk_.1.1.2.2.2.1, hk_.1.1.2.2.2.2.1, hk_.1.1.2.2.2.2.2.1, hk_.1.1.2.2.2.2.2.2.1, hk_.1.1.2.2.2.2.2.2.2⟩)); have n11_ := Aside0.mk (Kd.R_mono (ok' := fun k_ => some k_ ≠ (.slice Ao27 t323.length co27 : Value).ownBlock ∧ some k_ ≠ (.slice Ao36 t333.length co36 : Value).ownBlock ∧ some k_ ≠ (.slice Ao45 t342.length co45 : Value).ownBlock) (Kd.R_keptB ((Kd.R_mono (ok' := fun k_ => (some k_ ≠ (.slice Ao27 t323.length co27 : Value).ownBlock ∧ (some k_ ≠ (.slice Ao36 t333.length co36 : Value).ownBlock ∧ some k_ ≠ (.slice Ao45 t342.length co45 : Value).ownBlock)) ∧ ¬ (fun k_ => ((some k_ ≠ (.slice Ao26 t320.length co26 : Value).ownBlock ∧ (some k_ ≠ (.slice Ao27 t323.length co27 : Value).ownBlock ∧ (some k_ ≠ (.slice Ao36 t333.length co36 : Value).ownBlock ∧ (some k_ ≠ (.slice Ao44 t339.length co44 : Value).ownBlock ∧ (some k_ ≠ (.slice Ao45 t342.length co45 : Value).ownBlock ∧ (some k_ ≠ (.slice Ao73 t350.length co73 : Value).ownBlock ∧ (some k_ ≠ (.slice Ao74 t353.length co74 : Value).ownBlock ∧ (Nm30 ≤ k_ ∧ (k_ < Nm38 ∧ k_ < Nm72)))))))))) ∧ k_ ≠ gb309 ∧ k_ ≠ gb328 ∧ k_ ≠ gb337 ∧ k_ ≠ gb347) k_) (Kd.R_tight2 rfl HO355.out) (fun k_ hk => ⟨hk.2, fun hp_ => (hp_.1.2.2.2.2.2.2.1) hk.1⟩))) hkp (fun k_ hk_ hs_ => Or.elim hs_ (fun e_ => (hk_.2) e_) (fun e_ => (hk_.1.2.1) e_))) (fun k_ hk_ => ⟨hk_.1.1.1, hk_.1.1.2.1, hk_.1.1.2.2⟩)); have n12_ := Aside0.mk (hb); clear HO_329001 HO_329002 HO_338001 HO_338002 HO_348001 HO_348002 BK309 BK328 BK337 BK347 HO352 HO355 HB; have HO_329001 := n0_; have HO_329002 := n1_; have HO_338001 := n2_; have HO_338002 := n3_; have HO_348001 := n4_; have HO_348002 := n5_; have BK309 := n6_; have BK328 := n7_; have BK337 := n8_; have BK347 := n9_; have HO352 := n10_; have HO355 := n11_; have HB := n12_; clear n0_ n1_ n2_ n3_ n4_ n5_ n6_ n7_ n8_ n9_ n10_ n11_ n12_; (try clear hb); (try clear hkp); (try clear hy0); (try clear hy1)))
      (try simp only [Act.put, List.setIfInBounds_toArray, List.set_cons_zero, List.set_cons_succ])
      go_cut [65] (fun v65 wc => ∃ (kq : Nat) (x65_68 : Bool), v65 = .bool x65_68 ∧ Aside0 (laws_FnExactAfterDeath.j1 kq a1 t327 x65_68 a0_0 l0_1 l0_2 a0_3 t319 t320 t323 t326 t338 t339 t342 t345 = some r) ∧ Aside0 (kq ≤ kj11) ∧ Aside0 (Kd.S (Kd.slice 3 (Kd.int .i64)) 23 wc w.heap.size (fun k_ => some k_ ≠ ((.slice Ao27 t323.length co27) : Value).ownBlock ∧ some k_ ≠ ((.slice Ao35 t330.length co35) : Value).ownBlock ∧ some k_ ≠ ((.slice Ao36 t333.length co36) : Value).ownBlock ∧ some k_ ≠ ((.slice Ao44 t339.length co44) : Value).ownBlock ∧ some k_ ≠ ((.slice Ao45 t342.length co45) : Value).ownBlock ∧ Nm22 ≤ k_ ∧ k_ < Nm30 ∧ k_ < Nm38 ∧ k_ < Nm72) (.slice Ao26 t320.length co26) t320) ∧ Aside0 (Kd.R (Kd.int .i64) 3 wc w.heap.size (fun k_ => some k_ ≠ ((.slice Ao36 t333.length co36) : Value).ownBlock ∧ some k_ ≠ ((.slice Ao45 t342.length co45) : Value).ownBlock) (.slice Ao27 t323.length co27) t323) ∧ Aside0 (Kd.S (Kd.slice 3 (Kd.int .i64)) 23 wc w.heap.size (fun k_ => some k_ ≠ ((.slice Ao26 t320.length co26) : Value).ownBlock ∧ some k_ ≠ ((.slice Ao27 t323.length co27) : Value).ownBlock ∧ some k_ ≠ ((.slice Ao36 t333.length co36) : Value).ownBlock ∧ some k_ ≠ ((.slice Ao44 t339.length co44) : Value).ownBlock ∧ some k_ ≠ ((.slice Ao45 t342.length co45) : Value).ownBlock ∧ Nm30 ≤ k_ ∧ k_ < Nm38 ∧ k_ < Nm72) (.slice Ao35 t330.length co35) t359) ∧ Aside0 (Kd.R (Kd.int .i64) 3 wc w.heap.size (fun k_ => some k_ ≠ ((.slice Ao27 t323.length co27) : Value).ownBlock ∧ some k_ ≠ ((.slice Ao45 t342.length co45) : Value).ownBlock) (.slice Ao36 t333.length co36) t360) ∧ Aside0 (Kd.S (Kd.slice 3 (Kd.int .i64)) 23 wc w.heap.size (fun k_ => some k_ ≠ ((.slice Ao26 t320.length co26) : Value).ownBlock ∧ some k_ ≠ ((.slice Ao27 t323.length co27) : Value).ownBlock ∧ some k_ ≠ ((.slice Ao35 t330.length co35) : Value).ownBlock ∧ some k_ ≠ ((.slice Ao36 t333.length co36) : Value).ownBlock ∧ some k_ ≠ ((.slice Ao45 t342.length co45) : Value).ownBlock ∧ Nm38 ≤ k_ ∧ k_ < Nm72) (.slice Ao44 t339.length co44) t339) ∧ Aside0 (Kd.R (Kd.int .i64) 3 wc w.heap.size (fun k_ => some k_ ≠ ((.slice Ao27 t323.length co27) : Value).ownBlock ∧ some k_ ≠ ((.slice Ao36 t333.length co36) : Value).ownBlock) (.slice Ao45 t342.length co45) t342) ∧ Aside0 (wc.heap[gb309]? = some (.cells #[.int .i64 a0_0, (.slice A0_1 l0_1.length c0_1), (.slice A0_2 l0_2.length c0_2), .int .i64 a0_3] 25 (0, 0))) ∧ Aside0 (wc.heap[gb328]? = some (.cells #[.int .i64 t319, (.slice Ao26 t320.length co26), (.slice Ao27 t323.length co27), .int .i64 t326] 28 (0, 0))) ∧ Aside0 (wc.heap[gb337]? = some (.cells #[.int .i64 t329, (.slice Ao35 t330.length co35), (.slice Ao36 t333.length co36), .int .i64 t336] 28 (0, 0))) ∧ Aside0 (wc.heap[gb347]? = some (.cells #[.int .i64 t338, (.slice Ao44 t339.length co44), (.slice Ao45 t342.length co45), .int .i64 t345] 28 (0, 0))) ∧ Aside0 (Below w.heap.size w wc))
      case first =>
       have H := HC69.out
       clear HC69
       by_cases c81 : t358 < 0
       ·rw [if_pos c81] at H
        have c81b0 : decide (t358 < 0) = true := decide_eq_true c81
        clear c81
        (first | rw [c81b0] | (simp only [i64_w, i32_w]; rw [c81b0]) | skip)
        have H' := Aside0.mk H
        clear H
        go_wp2
        go_meet
        case rel => exact ⟨_, (true), (by first | rfl | (simp; done) | (simp [*]; done)), H', ⟨by have := HJ11.out; first | omega | exact Nat.le_refl _⟩, ⟨mS HO_329001⟩, ⟨mR HO_329002⟩, ⟨mS HO_338001⟩, ⟨mR HO_338002⟩, ⟨mS HO_348001⟩, ⟨mR HO_348002⟩, ⟨bz BK309⟩, ⟨bz BK328⟩, ⟨bz BK337⟩, ⟨bz BK347⟩, ⟨by exact bh⟩⟩
       ·rw [if_neg c81] at H
        have c81b0 : decide (t358 < 0) = false := decide_eq_false c81
        clear c81
        (first | rw [c81b0] | (simp only [i64_w, i32_w]; rw [c81b0]) | skip)
        replace H := Option.bind_eq_some_iff.mp H
        obtain ⟨t361, A820, H⟩ := H
        replace H : (if t361 = true then (laws_FnExactAfterDeath.j1 kj11 a1 t327 (t346 != t327) a0_0 l0_1 l0_2 a0_3 t319 t320 t323 t326 t338 t339 t342 t345) else (laws_FnExactAfterDeath.j1 kj11 a1 t327 true a0_0 l0_1 l0_2 a0_3 t319 t320 t323 t326 t338 t339 t342 t345)) = some r := H
        have A82 := Aside0.mk A820
        clear A820
        by_cases c83 : t361 = true
        ·subst c83
         have H1 : (laws_FnExactAfterDeath.j1 kj11 a1 t327 (t346 != t327) a0_0 l0_1 l0_2 a0_3 t319 t320 t323 t326 t338 t339 t342 t345) = some r := by rw [if_pos rfl] at H; exact H
         clear H
         have H := H1
         clear H1
         have H' := Aside0.mk H
         clear H
         have hnb84 := NB347_309.out
         have hnc84 := NB309_347.out
         have hnb85 := NB347_328.out
         have hnc85 := NB328_347.out
         have hnb86 := NB347_337.out
         have hnc86 := NB337_347.out
         have hcz87_0 := cz0 BK347
         have hcz87_1 := cz1 BK347
         have hcz87_2 := cz2 BK347
         have hcz87_3 := cz3 BK347
         have hfz87_0 := blk_frozen BK347.out 0
         have hfz87_1 := blk_frozen BK347.out 1
         have hfz87_2 := blk_frozen BK347.out 2
         have hfz87_3 := blk_frozen BK347.out 3
         have hnb88 := NB328_309.out
         have hnc88 := NB309_328.out
         have hnb89 := NB328_337.out
         have hnc89 := NB337_328.out
         have hcz90_0 := cz0 BK328
         have hcz90_1 := cz1 BK328
         have hcz90_2 := cz2 BK328
         have hcz90_3 := cz3 BK328
         have hfz90_0 := blk_frozen BK328.out 0
         have hfz90_1 := blk_frozen BK328.out 1
         have hfz90_2 := blk_frozen BK328.out 2
         have hfz90_3 := blk_frozen BK328.out 3
         go_wp2_with (first | (go_at_call 20; (with_reducible refine (laws_eqCourt.calls kj11 t338 _ _ t339 _ _ t342 t345 t319 _ _ t320 _ _ t323 t326 true _ ?side1 ?side2 ?side3 ?side4 ?side5 ?side6 ?side7 ?side8 A82.out).mono ?_); (case side1 => repeat (first | exact (Kd.S_reads' HO_348001.out).2.2 | (with_reducible refine Kd.C_alloc ?_ _) | (with_reducible refine Kd.C_drewN ?_ _) | (with_reducible refine Kd.C_drew ?_))); (case side2 => exact (Kd.S_reads' HO_348001.out).2.1); (case side3 => repeat (first | exact (Kd.R_reads' HO_348002.out).2.2 | (with_reducible refine Kd.C_alloc ?_ _) | (with_reducible refine Kd.C_drewN ?_ _) | (with_reducible refine Kd.C_drew ?_))); (case side4 => exact (Kd.R_reads' HO_348002.out).2.1); (case side5 => repeat (first | exact (Kd.S_reads' HO_329001.out).2.2 | (with_reducible refine Kd.C_alloc ?_ _) | (with_reducible refine Kd.C_drewN ?_ _) | (with_reducible refine Kd.C_drew ?_))); (case side6 => exact (Kd.S_reads' HO_329001.out).2.1); (case side7 => repeat (first | exact (Kd.R_reads' HO_329002.out).2.2 | (with_reducible refine Kd.C_alloc ?_ _) | (with_reducible refine Kd.C_drewN ?_ _) | (with_reducible refine Kd.C_drew ?_))); (case side8 => exact (Kd.R_reads' HO_329002.out).2.1); rintro e w91 ⟨rfl, hb⟩; have n0_ := Aside0.mk (Kd.S_below (sz HO_329001) hb); have n1_ := Aside0.mk (Kd.R_below (rz HO_329002) hb); have n2_ := Aside0.mk (Kd.S_below (sz HO_338001) hb); have n3_ := Aside0.mk (Kd.R_below (rz HO_338002) hb); have n4_ := Aside0.mk (Kd.S_below (sz HO_348001) hb); have n5_ := Aside0.mk (Kd.R_below (rz HO_348002) hb); have n6_ := Aside0.mk (Kd.S_below (sz HO352) hb); have n7_ := Aside0.mk (Kd.R_below (rz HO355) hb); have n8_ := Aside0.mk (blk_below (bz BK309) hb); have n9_ := Aside0.mk (blk_below (bz BK328) hb); have n10_ := Aside0.mk (blk_below (bz BK337) hb); have n11_ := Aside0.mk (blk_below (bz BK347) hb); have n12_ := Aside0.mk (below_step bh hb); clear HO_329001 HO_329002 HO_338001 HO_338002 HO_348001 HO_348002 HO352 HO355 BK309 BK328 BK337 BK347 HB; have HO_329001 := n0_; have HO_329002 := n1_; have HO_338001 := n2_; have HO_338002 := n3_; have HO_348001 := n4_; have HO_348002 := n5_; have HO352 := n6_; have HO355 := n7_; have BK309 := n8_; have BK328 := n9_; have BK337 := n10_; have BK347 := n11_; have HB := n12_; clear n0_ n1_ n2_ n3_ n4_ n5_ n6_ n7_ n8_ n9_ n10_ n11_ n12_; (try clear hb); (try clear hb2); (try clear hk); (try clear hi)))
         go_meet
         case rel => exact ⟨_, ((t346 != t327)), (by first | rfl | (simp; done) | (simp [*]; done)), H', ⟨by have := HJ11.out; first | omega | exact Nat.le_refl _⟩, ⟨mS HO_329001⟩, ⟨mR HO_329002⟩, ⟨mS HO_338001⟩, ⟨mR HO_338002⟩, ⟨mS HO_348001⟩, ⟨mR HO_348002⟩, ⟨bz BK309⟩, ⟨bz BK328⟩, ⟨bz BK337⟩, ⟨bz BK347⟩, ⟨by exact bh⟩⟩
        ·replace c83 := Bool.eq_false_iff.mpr c83
         subst c83
         have H1 : (laws_FnExactAfterDeath.j1 kj11 a1 t327 true a0_0 l0_1 l0_2 a0_3 t319 t320 t323 t326 t338 t339 t342 t345) = some r := by rw [if_neg (show ¬ (false = true) by decide)] at H; exact H
         clear H
         have H := H1
         clear H1
         have H' := Aside0.mk H
         clear H
         have hnb92 := NB347_309.out
         have hnc92 := NB309_347.out
         have hnb93 := NB347_328.out
         have hnc93 := NB328_347.out
         have hnb94 := NB347_337.out
         have hnc94 := NB337_347.out
         have hcz95_0 := cz0 BK347
         have hcz95_1 := cz1 BK347
         have hcz95_2 := cz2 BK347
         have hcz95_3 := cz3 BK347
         have hfz95_0 := blk_frozen BK347.out 0
         have hfz95_1 := blk_frozen BK347.out 1
         have hfz95_2 := blk_frozen BK347.out 2
         have hfz95_3 := blk_frozen BK347.out 3
         have hnb96 := NB328_309.out
         have hnc96 := NB309_328.out
         have hnb97 := NB328_337.out
         have hnc97 := NB337_328.out
         have hcz98_0 := cz0 BK328
         have hcz98_1 := cz1 BK328
         have hcz98_2 := cz2 BK328
         have hcz98_3 := cz3 BK328
         have hfz98_0 := blk_frozen BK328.out 0
         have hfz98_1 := blk_frozen BK328.out 1
         have hfz98_2 := blk_frozen BK328.out 2
         have hfz98_3 := blk_frozen BK328.out 3
         go_wp2_with (first | (go_at_call 20; (with_reducible refine (laws_eqCourt.calls kj11 t338 _ _ t339 _ _ t342 t345 t319 _ _ t320 _ _ t323 t326 false _ ?side1 ?side2 ?side3 ?side4 ?side5 ?side6 ?side7 ?side8 A82.out).mono ?_); (case side1 => repeat (first | exact (Kd.S_reads' HO_348001.out).2.2 | (with_reducible refine Kd.C_alloc ?_ _) | (with_reducible refine Kd.C_drewN ?_ _) | (with_reducible refine Kd.C_drew ?_))); (case side2 => exact (Kd.S_reads' HO_348001.out).2.1); (case side3 => repeat (first | exact (Kd.R_reads' HO_348002.out).2.2 | (with_reducible refine Kd.C_alloc ?_ _) | (with_reducible refine Kd.C_drewN ?_ _) | (with_reducible refine Kd.C_drew ?_))); (case side4 => exact (Kd.R_reads' HO_348002.out).2.1); (case side5 => repeat (first | exact (Kd.S_reads' HO_329001.out).2.2 | (with_reducible refine Kd.C_alloc ?_ _) | (with_reducible refine Kd.C_drewN ?_ _) | (with_reducible refine Kd.C_drew ?_))); (case side6 => exact (Kd.S_reads' HO_329001.out).2.1); (case side7 => repeat (first | exact (Kd.R_reads' HO_329002.out).2.2 | (with_reducible refine Kd.C_alloc ?_ _) | (with_reducible refine Kd.C_drewN ?_ _) | (with_reducible refine Kd.C_drew ?_))); (case side8 => exact (Kd.R_reads' HO_329002.out).2.1); rintro e w99 ⟨rfl, hb⟩; have n0_ := Aside0.mk (Kd.S_below (sz HO_329001) hb); have n1_ := Aside0.mk (Kd.R_below (rz HO_329002) hb); have n2_ := Aside0.mk (Kd.S_below (sz HO_338001) hb); have n3_ := Aside0.mk (Kd.R_below (rz HO_338002) hb); have n4_ := Aside0.mk (Kd.S_below (sz HO_348001) hb); have n5_ := Aside0.mk (Kd.R_below (rz HO_348002) hb); have n6_ := Aside0.mk (Kd.S_below (sz HO352) hb); have n7_ := Aside0.mk (Kd.R_below (rz HO355) hb); have n8_ := Aside0.mk (blk_below (bz BK309) hb); have n9_ := Aside0.mk (blk_below (bz BK328) hb); have n10_ := Aside0.mk (blk_below (bz BK337) hb); have n11_ := Aside0.mk (blk_below (bz BK347) hb); have n12_ := Aside0.mk (below_step bh hb); clear HO_329001 HO_329002 HO_338001 HO_338002 HO_348001 HO_348002 HO352 HO355 BK309 BK328 BK337 BK347 HB; have HO_329001 := n0_; have HO_329002 := n1_; have HO_338001 := n2_; have HO_338002 := n3_; have HO_348001 := n4_; have HO_348002 := n5_; have HO352 := n6_; have HO355 := n7_; have BK309 := n8_; have BK328 := n9_; have BK337 := n10_; have BK347 := n11_; have HB := n12_; clear n0_ n1_ n2_ n3_ n4_ n5_ n6_ n7_ n8_ n9_ n10_ n11_ n12_; (try clear hb); (try clear hb2); (try clear hk); (try clear hi)))
         go_meet
         case rel => exact ⟨_, (true), (by first | rfl | (simp; done) | (simp [*]; done)), H', ⟨by have := HJ11.out; first | omega | exact Nat.le_refl _⟩, ⟨mS HO_329001⟩, ⟨mR HO_329002⟩, ⟨mS HO_338001⟩, ⟨mR HO_338002⟩, ⟨mS HO_348001⟩, ⟨mR HO_348002⟩, ⟨bz BK309⟩, ⟨bz BK328⟩, ⟨bz BK337⟩, ⟨bz BK347⟩, ⟨by exact bh⟩⟩
      case rest =>
       clear HC69
       try clear c1
       try clear c2
       try clear p2
       try clear c3
       try clear c4
       try clear c4b0
       try clear c5
       try clear c6
       try clear c7
       try clear c8
       try clear c9
       try clear c13
       try clear c16
       try clear c18
       try clear c20
       try clear c24
       try clear c28
       try clear c32
       try clear c33
       try clear c40
       try clear c41
       try clear c42
       try clear c45
       try clear c46
       try clear c47
       try clear c48
       try clear c49
       try clear c50
       try clear c52
       try clear c53
       try clear c56
       try clear c57
       try clear c58
       try clear c60
       try clear c61
       try clear c64
       try clear c67
       try clear c76
       try clear c77
       try clear c78
       try clear c81
       try clear c81b0
       try clear c83
       try clear c84
       try clear c85
       try clear c86
       try clear c88
       try clear c89
       try clear c92
       try clear c93
       try clear c94
       try clear c96
       try clear c97
       try clear hcz14_0
       try clear hcz14_1
       try clear hcz14_2
       try clear hcz14_3
       try clear hcz16_0
       try clear hcz16_1
       try clear hcz16_2
       try clear hcz16_3
       try clear hcz25_0
       try clear hcz25_1
       try clear hcz25_2
       try clear hcz25_3
       try clear hcz28_0
       try clear hcz28_1
       try clear hcz28_2
       try clear hcz28_3
       try clear hcz34_0
       try clear hcz34_1
       try clear hcz34_2
       try clear hcz34_3
       try clear hcz43_0
       try clear hcz43_1
       try clear hcz43_2
       try clear hcz43_3
       try clear hcz51_0
       try clear hcz51_1
       try clear hcz51_2
       try clear hcz51_3
       try clear hcz54_0
       try clear hcz54_1
       try clear hcz54_2
       try clear hcz54_3
       try clear hcz59_0
       try clear hcz59_1
       try clear hcz59_2
       try clear hcz59_3
       try clear hcz62_0
       try clear hcz62_1
       try clear hcz62_2
       try clear hcz62_3
       try clear hcz6_0
       try clear hcz6_1
       try clear hcz6_2
       try clear hcz6_3
       try clear hcz79_0
       try clear hcz79_1
       try clear hcz79_2
       try clear hcz79_3
       try clear hcz87_0
       try clear hcz87_1
       try clear hcz87_2
       try clear hcz87_3
       try clear hcz90_0
       try clear hcz90_1
       try clear hcz90_2
       try clear hcz90_3
       try clear hcz95_0
       try clear hcz95_1
       try clear hcz95_2
       try clear hcz95_3
       try clear hcz98_0
       try clear hcz98_1
       try clear hcz98_2
       try clear hcz98_3
       try clear hfz14_0
       try clear hfz14_1
       try clear hfz14_2
       try clear hfz14_3
       try clear hfz16_0
       try clear hfz16_1
       try clear hfz16_2
       try clear hfz16_3
       try clear hfz25_0
       try clear hfz25_1
       try clear hfz25_2
       try clear hfz25_3
       try clear hfz28_0
       try clear hfz28_1
       try clear hfz28_2
       try clear hfz28_3
       try clear hfz34_0
       try clear hfz34_1
       try clear hfz34_2
       try clear hfz34_3
       try clear hfz43_0
       try clear hfz43_1
       try clear hfz43_2
       try clear hfz43_3
       try clear hfz51_0
       try clear hfz51_1
       try clear hfz51_2
       try clear hfz51_3
       try clear hfz54_0
       try clear hfz54_1
       try clear hfz54_2
       try clear hfz54_3
       try clear hfz59_0
       try clear hfz59_1
       try clear hfz59_2
       try clear hfz59_3
       try clear hfz62_0
       try clear hfz62_1
       try clear hfz62_2
       try clear hfz62_3
       try clear hfz6_0
       try clear hfz6_1
       try clear hfz6_2
       try clear hfz6_3
       try clear hfz79_0
       try clear hfz79_1
       try clear hfz79_2
       try clear hfz79_3
       try clear hfz87_0
       try clear hfz87_1
       try clear hfz87_2
       try clear hfz87_3
       try clear hfz90_0
       try clear hfz90_1
       try clear hfz90_2
       try clear hfz90_3
       try clear hfz95_0
       try clear hfz95_1
       try clear hfz95_2
       try clear hfz95_3
       try clear hfz98_0
       try clear hfz98_1
       try clear hfz98_2
       try clear hfz98_3
       try clear p2
       obtain ⟨kq, x65_68, rfl, HA, HJ68, HO_329001, HO_329002, HO_338001, HO_338002, HO_348001, HO_348002, BK309, BK328, BK337, BK347, HB⟩ := hcut
       have hl338001_68 := (Kd.S_reads' HO_338001.out).1
       rw [hl338001_68] at HO_338001
       (try simp only [hl338001_68])
       (try simp only [hl338001_68] at BK309)
       (try simp only [hl338001_68] at BK328)
       (try simp only [hl338001_68] at BK337)
       (try simp only [hl338001_68] at BK347)
       (try simp only [hl338001_68] at HO_329001)
       (try simp only [hl338001_68] at HO_329002)
       (try simp only [hl338001_68] at HO_338002)
       (try simp only [hl338001_68] at HO_348001)
       (try simp only [hl338001_68] at HO_348002)
       have hl338002_68 := (Kd.R_reads' HO_338002.out).1
       rw [hl338002_68] at HO_338002
       (try simp only [hl338002_68])
       (try simp only [hl338002_68] at BK309)
       (try simp only [hl338002_68] at BK328)
       (try simp only [hl338002_68] at BK337)
       (try simp only [hl338002_68] at BK347)
       (try simp only [hl338002_68] at HO_329001)
       (try simp only [hl338002_68] at HO_329002)
       (try simp only [hl338002_68] at HO_338001)
       (try simp only [hl338002_68] at HO_348001)
       (try simp only [hl338002_68] at HO_348002)
       cases kq with
       | zero => exact absurd HA.out (by simp [laws_FnExactAfterDeath.j1])
       | succ kj68 =>
        have H := HA.out
        clear HA
        simp only [laws_FnExactAfterDeath.j1] at H
        by_cases c100 : x65_68 = true
        ·subst c100
         have H1 : (none) = some r := by rw [if_pos rfl] at H; exact H
         clear H
         have H := H1
         clear H1
         exact absurd H (by simp)
        ·replace c100 := Bool.eq_false_iff.mpr c100
         subst c100
         have H1 : ((laws_markCourt.f kj68 t338 t339 t342 t345 1).bind fun bt362 => ((laws_heldCourt.f kj68 t338 bt362.2.1 bt362.2.2 t345 1).bind fun t365 => (if t365 < 0 then (none) else (if t365 = bt362.1 then ((laws_toCourt.f kj68 a0_0 l0_1 l0_2 a0_3).bind fun bt366 => ((impl_AfterDeath.f kj68 bt366.1 bt366.2.1 bt366.2.2.1 bt366.2.2.2 a1).bind fun bt374 => ((laws_eqCourt.f kj68 bt374.1 bt374.2.1 bt374.2.2.1 bt374.2.2.2.1 t319 t320 t323 t326).bind fun t384 => (if t384 = true then (laws_FnExactAfterDeath.j2 kj68 bt362.1 (bt374.2.2.2.2 != t327) t338 bt362.2.1 bt362.2.2 t345) else (laws_FnExactAfterDeath.j2 kj68 bt362.1 true t338 bt362.2.1 bt362.2.2 t345))))) else (none))))) = some r := by rw [if_neg (show ¬ (false = true) by decide)] at H; exact H
         clear H
         have H := H1
         clear H1
         replace H := Option.bind_eq_some_iff.mp H
         obtain ⟨⟨t362, t363, t364⟩, A1010, H⟩ := H
         replace H : ((laws_heldCourt.f kj68 t338 t363 t364 t345 1).bind fun t365 => (if t365 < 0 then (none) else (if t365 = t362 then ((laws_toCourt.f kj68 a0_0 l0_1 l0_2 a0_3).bind fun bt366 => ((impl_AfterDeath.f kj68 bt366.1 bt366.2.1 bt366.2.2.1 bt366.2.2.2 a1).bind fun bt374 => ((laws_eqCourt.f kj68 bt374.1 bt374.2.1 bt374.2.2.1 bt374.2.2.2.1 t319 t320 t323 t326).bind fun t384 => (if t384 = true then (laws_FnExactAfterDeath.j2 kj68 t362 (bt374.2.2.2.2 != t327) t338 t363 t364 t345) else (laws_FnExactAfterDeath.j2 kj68 t362 true t338 t363 t364 t345))))) else (none)))) = some r := H
         have A101 := Aside0.mk A1010
         clear A1010
         replace H := Option.bind_eq_some_iff.mp H
         obtain ⟨t365, A1020, H⟩ := H
         replace H : (if t365 < 0 then (none) else (if t365 = t362 then ((laws_toCourt.f kj68 a0_0 l0_1 l0_2 a0_3).bind fun bt366 => ((impl_AfterDeath.f kj68 bt366.1 bt366.2.1 bt366.2.2.1 bt366.2.2.2 a1).bind fun bt374 => ((laws_eqCourt.f kj68 bt374.1 bt374.2.1 bt374.2.2.1 bt374.2.2.2.1 t319 t320 t323 t326).bind fun t384 => (if t384 = true then (laws_FnExactAfterDeath.j2 kj68 t362 (bt374.2.2.2.2 != t327) t338 t363 t364 t345) else (laws_FnExactAfterDeath.j2 kj68 t362 true t338 t363 t364 t345))))) else (none))) = some r := H
         have A102 := Aside0.mk A1020
         clear A1020
         by_cases c103 : t365 < 0
         ·rw [if_pos c103] at H
          exact absurd H (by simp)
         ·rw [if_neg c103] at H
          have c103b0 : decide (t365 < 0) = false := decide_eq_false c103
          (try (have c103z0 := c103b0; simp only [hl338001_68] at c103z0))
          (try (have c103z1 := c103b1; simp only [hl338001_68] at c103z1))
          (try (have c103z0 := c103b0; simp only [hl338002_68] at c103z0))
          (try (have c103z1 := c103b1; simp only [hl338002_68] at c103z1))
          clear c103
          by_cases c104 : t365 = t362
          ·rw [if_pos c104] at H
           have c104b0 : (t365 == t362) = true := beq_iff_eq.mpr c104
           have c104b1 : (t365 != t362) = false := bne_eq_false_iff_eq.mpr c104
           (try (have c104z0 := c104b0; simp only [hl338001_68] at c104z0))
           (try (have c104z1 := c104b1; simp only [hl338001_68] at c104z1))
           (try (have c104z0 := c104b0; simp only [hl338002_68] at c104z0))
           (try (have c104z1 := c104b1; simp only [hl338002_68] at c104z1))
           clear c104
           replace H := Option.bind_eq_some_iff.mp H
           obtain ⟨⟨t366, t367, t370, t373⟩, A1050, H⟩ := H
           replace H : ((impl_AfterDeath.f kj68 t366 t367 t370 t373 a1).bind fun bt374 => ((laws_eqCourt.f kj68 bt374.1 bt374.2.1 bt374.2.2.1 bt374.2.2.2.1 t319 t320 t323 t326).bind fun t384 => (if t384 = true then (laws_FnExactAfterDeath.j2 kj68 t362 (bt374.2.2.2.2 != t327) t338 t363 t364 t345) else (laws_FnExactAfterDeath.j2 kj68 t362 true t338 t363 t364 t345)))) = some r := H
           have A105 := Aside0.mk A1050
           clear A1050
           replace H := Option.bind_eq_some_iff.mp H
           obtain ⟨⟨t374, t375, t378, t381, t382⟩, A1060, H⟩ := H
           replace H : ((laws_eqCourt.f kj68 t374 t375 t378 t381 t319 t320 t323 t326).bind fun t384 => (if t384 = true then (laws_FnExactAfterDeath.j2 kj68 t362 (t382 != t327) t338 t363 t364 t345) else (laws_FnExactAfterDeath.j2 kj68 t362 true t338 t363 t364 t345))) = some r := H
           have A106 := Aside0.mk A1060
           clear A1060
           have HC107 := Aside0.mk H
           clear H
           have hnb108 := NB347_309.out
           have hnc108 := NB309_347.out
           have hnb109 := NB347_328.out
           have hnc109 := NB328_347.out
           have hnb110 := NB347_337.out
           have hnc110 := NB337_347.out
           have hcz111_0 := cz0 BK347
           have hcz111_1 := cz1 BK347
           have hcz111_2 := cz2 BK347
           have hcz111_3 := cz3 BK347
           have hfz111_0 := blk_frozen BK347.out 0
           have hfz111_1 := blk_frozen BK347.out 1
           have hfz111_2 := blk_frozen BK347.out 2
           have hfz111_3 := blk_frozen BK347.out 3
           have n_ := Aside0.mk (Kd.S_mono (ok' := (fun k_ => some k_ ≠ (.slice Ao27 t323.length co27 : Value).ownBlock ∧ some k_ ≠ (.slice Ao35 t359.length co35 : Value).ownBlock ∧ some k_ ≠ (.slice Ao36 t360.length co36 : Value).ownBlock ∧ some k_ ≠ (.slice Ao44 t339.length co44 : Value).ownBlock ∧ some k_ ≠ (.slice Ao45 t342.length co45 : Value).ownBlock ∧ Nm22 ≤ k_ ∧ k_ < Nm30 ∧ k_ < Nm38 ∧ k_ < Nm72)) HO_329001.out (by (intro k_; (try simp only [and_imp, and_assoc, true_and]); intros; repeat' (first | assumption | exact trivial | apply And.intro))))
           clear HO_329001
           have HO_329001 := n_
           clear n_
           have n_ := Aside0.mk (Kd.R_mono (ok' := (fun k_ => some k_ ≠ (.slice Ao36 t360.length co36 : Value).ownBlock ∧ some k_ ≠ (.slice Ao45 t342.length co45 : Value).ownBlock)) HO_329002.out (by (intro k_; (try simp only [and_imp, and_assoc, true_and]); intros; repeat' (first | assumption | exact trivial | apply And.intro))))
           clear HO_329002
           have HO_329002 := n_
           clear n_
           have n_ := Aside0.mk (Kd.S_mono (ok' := (fun k_ => some k_ ≠ (.slice Ao26 t320.length co26 : Value).ownBlock ∧ some k_ ≠ (.slice Ao27 t323.length co27 : Value).ownBlock ∧ some k_ ≠ (.slice Ao36 t360.length co36 : Value).ownBlock ∧ some k_ ≠ (.slice Ao44 t339.length co44 : Value).ownBlock ∧ some k_ ≠ (.slice Ao45 t342.length co45 : Value).ownBlock ∧ Nm30 ≤ k_ ∧ k_ < Nm38 ∧ k_ < Nm72)) HO_338001.out (by (intro k_; (try simp only [and_imp, and_assoc, true_and]); intros; repeat' (first | assumption | exact trivial | apply And.intro))))
           clear HO_338001
           have HO_338001 := n_
           clear n_
           have n_ := Aside0.mk (Kd.R_mono (ok' := (fun k_ => some k_ ≠ (.slice Ao27 t323.length co27 : Value).ownBlock ∧ some k_ ≠ (.slice Ao45 t342.length co45 : Value).ownBlock)) HO_338002.out (by (intro k_; (try simp only [and_imp, and_assoc, true_and]); intros; repeat' (first | assumption | exact trivial | apply And.intro))))
           clear HO_338002
           have HO_338002 := n_
           clear n_
           have n_ := Aside0.mk (Kd.S_mono (ok' := (fun k_ => some k_ ≠ (.slice Ao26 t320.length co26 : Value).ownBlock ∧ some k_ ≠ (.slice Ao27 t323.length co27 : Value).ownBlock ∧ some k_ ≠ (.slice Ao35 t359.length co35 : Value).ownBlock ∧ some k_ ≠ (.slice Ao36 t360.length co36 : Value).ownBlock ∧ some k_ ≠ (.slice Ao45 t342.length co45 : Value).ownBlock ∧ Nm38 ≤ k_ ∧ k_ < Nm72)) HO_348001.out (by (intro k_; (try simp only [and_imp, and_assoc, true_and]); intros; repeat' (first | assumption | exact trivial | apply And.intro))))
           clear HO_348001
           have HO_348001 := n_
           clear n_
           have n_ := Aside0.mk (Kd.R_mono (ok' := (fun k_ => some k_ ≠ (.slice Ao27 t323.length co27 : Value).ownBlock ∧ some k_ ≠ (.slice Ao36 t360.length co36 : Value).ownBlock)) HO_348002.out (by (intro k_; (try simp only [and_imp, and_assoc, true_and]); intros; repeat' (first | assumption | exact trivial | apply And.intro))))
           clear HO_348002
           have HO_348002 := n_
           clear n_
           go_upto_region 25 with (first | ((with_reducible refine gate_callee (f := 28) rfl ?_); refine goesL_ (some 68) rfl rfl Try.func28 kr rfl #[.agg #[.int .i64 t338, .slice Ao44 t339.length co44, .slice Ao45 t342.length co45, .int .i64 t345], .int .i64 1] rfl lm ?_; (with_reducible refine (laws_markCourt.calls kj68 t338 (fun k_ => ((some k_ ≠ (.slice Ao26 t320.length co26 : Value).ownBlock ∧ (some k_ ≠ (.slice Ao27 t323.length co27 : Value).ownBlock ∧ (some k_ ≠ (.slice Ao35 t359.length co35 : Value).ownBlock ∧ (some k_ ≠ (.slice Ao36 t360.length co36 : Value).ownBlock ∧ (some k_ ≠ (.slice Ao45 t342.length co45 : Value).ownBlock ∧ (Nm38 ≤ k_ ∧ k_ < Nm72))))))) ∧ k_ ≠ gb309 ∧ k_ ≠ gb328 ∧ k_ ≠ gb337 ∧ k_ ≠ gb347) (.slice Ao44 t339.length co44) t339 (fun k_ => some k_ = (.slice Ao45 t342.length co45 : Value).ownBlock) (.slice Ao45 t342.length co45) t342 t345 1 t362 t363 t364 w _ ?side1 ?side2 ?side3 ?side4 A101.out).mono ?_); (case side1 => repeat (first | (with_reducible first | exact HB.out | apply below_alloc | apply pw_below_drewN | apply below_drew1 | refine below_set ?_ GE309.out | refine below_set ?_ GE328.out | refine below_set ?_ GE337.out | refine below_set ?_ GE347.out) | exact HB.out)); (case side2 => exact Kd.S_mono ((Kd.S_types (Kd.S_types (Kd.S_types (Kd.S_types HO_348001.out (bz BK309) (by decide)) (bz BK328) (by decide)) (bz BK337) (by decide)) (bz BK347) (by decide))) (by (intro k_; (try simp only [and_imp, and_assoc]); intros; repeat' (first | assumption | exact trivial | apply And.intro)))); (case side3 => exact fun k_ hp_ e_ => (hp_.1.2.2.2.2.1) e_); (case side4 => exact Kd.R_tight rfl HO_348002.out); rintro e w112 ⟨rfl, hy0, hy1, hb, hkp⟩; refine ⟨_, rfl, ?_⟩; have n0_ := Aside0.mk (Kd.S_mono (ok' := fun k_ => some k_ ≠ (.slice Ao27 t323.length co27 : Value).ownBlock ∧ some k_ ≠ (.slice Ao35 t359.length co35 : Value).ownBlock ∧ some k_ ≠ (.slice Ao36 t360.length co36 : Value).ownBlock ∧ some k_ ≠ (.slice Ao44 t339.length co44 : Value).ownBlock ∧ some k_ ≠ (.slice Ao45 t342.length co45 : Value).ownBlock ∧ Nm22 ≤ k_ ∧ k_ < Nm30 ∧ k_ < Nm38 ∧ k_ < Nm72) (Kd.S_keptB ((Kd.S_mono (ok' := fun k_ => (some k_ ≠ (.slice Ao27 t323.length co27 : Value).ownBlock ∧ (some k_ ≠ (.slice Ao35 t359.length co35 : Value).ownBlock ∧ (some k_ ≠ (.slice Ao36 t360.length co36 : Value).ownBlock ∧ (some k_ ≠ (.slice Ao44 t339.length co44 : Value).ownBlock ∧ (some k_ ≠ (.slice Ao45 t342.length co45 : Value).ownBlock ∧ (Nm22 ≤ k_ ∧ (k_ < Nm30 ∧ (k_ < Nm38 ∧ k_ < Nm72)))))))) ∧ ¬ (fun k_ => ((some k_ ≠ (.slice Ao26 t320.length co26 : Value).ownBlock ∧ (some k_ ≠ (.slice Ao27 t323.length co27 : Value).ownBlock ∧ (some k_ ≠ (.slice Ao35 t359.length co35 : Value).ownBlock ∧ (some k_ ≠ (.slice Ao36 t360.length co36 : Value).ownBlock ∧ (some k_ ≠ (.slice Ao45 t342.length co45 : Value).ownBlock ∧ (Nm38 ≤ k_ ∧ k_ < Nm72))))))) ∧ k_ ≠ gb309 ∧ k_ ≠ gb328 ∧ k_ ≠ gb337 ∧ k_ ≠ gb347) k_) HO_329001.out (fun k_ hk => ⟨hk, fun hp_ => Nat.not_le.2 (hk.2.2.2.2.2.2.2.1) (hp_.1.2.2.2.2.2.1)⟩))) hkp (fun k_ hk_ hs_ => Or.elim hs_ (fun e_ => (hk_.2) e_) (fun e_ => (hk_.1.2.2.2.2.1) e_))) (fun k_ hk_ => ⟨hk_.1.1.1, hk_.1.1.2.1, hk_.1.1.2.2.1, hk_.1.1.2.2.2.1, hk_.1.1.2.2.2.2.1, hk_.1.1.2.2.2.2.2.1, hk_.1.1.2.2.2.2.2.2.1, hk_.1.1.2.2.2.2.2.2.2.1, hk_.1.1.2.2.2.2.2.2.2.2⟩)); have n1_ := Aside0.mk (Kd.R_mono (ok' := fun k_ => some k_ ≠ (.slice Ao36 t360.length co36 : Value).ownBlock ∧ some k_ ≠ (.slice Ao45 t342.length co45 : Value).ownBlock) (Kd.R_keptB ((Kd.R_mono (ok' := fun k_ => (some k_ ≠ (.slice Ao36 t360.length co36 : Value).ownBlock ∧ some k_ ≠ (.slice Ao45 t342.length co45 : Value).ownBlock) ∧ ¬ (fun k_ => ((some k_ ≠ (.slice Ao26 t320.length co26 : Value).ownBlock ∧ (some k_ ≠ (.slice Ao27 t323.length co27 : Value).ownBlock ∧ (some k_ ≠ (.slice Ao35 t359.length co35 : Value).ownBlock ∧ (some k_ ≠ (.slice Ao36 t360.length co36 : Value).ownBlock ∧ (some k_ ≠ (.slice Ao45 t342.length co45 : Value).ownBlock ∧ (Nm38 ≤ k_ ∧ k_ < Nm72))))))) ∧ k_ ≠ gb309 ∧ k_ ≠ gb328 ∧ k_ ≠ gb337 ∧ k_ ≠ gb347) k_) (Kd.R_tight2 rfl HO_329002.out) (fun k_ hk => ⟨hk.2, fun hp_ => (hp_.1.2.1) hk.1⟩))) hkp (fun k_ hk_ hs_ => Or.elim hs_ (fun e_ => (hk_.2) e_) (fun e_ => (hk_.1.2) e_))) (fun k_ hk_ => ⟨hk_.1.1.1, hk_.1.1.2⟩)); have n2_ := Aside0.mk (Kd.S_mono (ok' := fun k_ => some k_ ≠ (.slice Ao26 t320.length co26 : Value).ownBlock ∧ some k_ ≠ (.slice Ao27 t323.length co27 : Value).ownBlock ∧ some k_ ≠ (.slice Ao36 t360.length co36 : Value).ownBlock ∧ some k_ ≠ (.slice Ao44 t339.length co44 : Value).ownBlock ∧ some k_ ≠ (.slice Ao45 t342.length co45 : Value).ownBlock ∧ Nm30 ≤ k_ ∧ k_ < Nm38 ∧ k_ < Nm72) (Kd.S_keptB ((Kd.S_mono (ok' := fun k_ => (some k_ ≠ (.slice Ao26 t320.length co26 : Value).ownBlock ∧ (some k_ ≠ (.slice Ao27 t323.length co27 : Value).ownBlock ∧ (some k_ ≠ (.slice Ao36 t360.length co36 : Value).ownBlock ∧ (some k_ ≠ (.slice Ao44 t339.length co44 : Value).ownBlock ∧ (some k_ ≠ (.slice Ao45 t342.length co45 : Value).ownBlock ∧ (Nm30 ≤ k_ ∧ (k_ < Nm38 ∧ k_ < Nm72))))))) ∧ ¬ (fun k_ => ((some k_ ≠ (.slice Ao26 t320.length co26 : Value).ownBlock ∧ (some k_ ≠ (.slice Ao27 t323.length co27 : Value).ownBlock ∧ (some k_ ≠ (.slice Ao35 t359.length co35 : Value).ownBlock ∧ (some k_ ≠ (.slice Ao36 t360.length co36 : Value).ownBlock ∧ (some k_ ≠ (.slice Ao45 t342.length co45 : Value).ownBlock ∧ (Nm38 ≤ k_ ∧ k_ < Nm72))))))) ∧ k_ ≠ gb309 ∧ k_ ≠ gb328 ∧ k_ ≠ gb337 ∧ k_ ≠ gb347) k_) HO_338001.out (fun k_ hk => ⟨hk, fun hp_ => Nat.not_le.2 (hk.2.2.2.2.2.2.1) (hp_.1.2.2.2.2.2.1)⟩))) hkp (fun k_ hk_ hs_ => Or.elim hs_ (fun e_ => (hk_.2) e_) (fun e_ => (hk_.1.2.2.2.2.1) e_))) (fun k_ hk_ => ⟨hk_.1.1.1, hk_.1.1.2.1, hk_.1.1.2.2.1, hk_.1.1.2.2.2.1, hk_.1.1.2.2.2.2.1, hk_.1.1.2.2.2.2.2.1, hk_.1.1.2.2.2.2.2.2.1, hk_.1.1.2.2.2.2.2.2.2⟩)); have n3_ := Aside0.mk (Kd.R_mono (ok' := fun k_ => some k_ ≠ (.slice Ao27 t323.length co27 : Value).ownBlock ∧ some k_ ≠ (.slice Ao45 t342.length co45 : Value).ownBlock) (Kd.R_keptB ((Kd.R_mono (ok' := fun k_ => (some k_ ≠ (.slice Ao27 t323.length co27 : Value).ownBlock ∧ some k_ ≠ (.slice Ao45 t342.length co45 : Value).ownBlock) ∧ ¬ (fun k_ => ((some k_ ≠ (.slice Ao26 t320.length co26 : Value).ownBlock ∧ (some k_ ≠ (.slice Ao27 t323.length co27 : Value).ownBlock ∧ (some k_ ≠ (.slice Ao35 t359.length co35 : Value).ownBlock ∧ (some k_ ≠ (.slice Ao36 t360.length co36 : Value).ownBlock ∧ (some k_ ≠ (.slice Ao45 t342.length co45 : Value).ownBlock ∧ (Nm38 ≤ k_ ∧ k_ < Nm72))))))) ∧ k_ ≠ gb309 ∧ k_ ≠ gb328 ∧ k_ ≠ gb337 ∧ k_ ≠ gb347) k_) (Kd.R_tight2 rfl HO_338002.out) (fun k_ hk => ⟨hk.2, fun hp_ => (hp_.1.2.2.2.1) hk.1⟩))) hkp (fun k_ hk_ hs_ => Or.elim hs_ (fun e_ => (hk_.2) e_) (fun e_ => (hk_.1.2) e_))) (fun k_ hk_ => ⟨hk_.1.1.1, hk_.1.1.2⟩)); have n4_ := Aside0.mk (Kd.S_mono hy0 (fun k_ hk_ => hk_.1)); have n5_ := Aside0.mk (Kd.R_reok rfl hy1 (fun k_ e_ => HO_348002.out.1 k_ e_)); have n6_ := Aside0.mk (blk_kept (bz BK309) hkp (fun hs_ => Or.elim hs_ (fun e_ => (fun e_ => (e_.2.1) rfl) e_) (fun e_ => (fun e_ => (Kd.R_ne HO_348002.out BK309.out (by decide)) e_) e_))); have n7_ := Aside0.mk (blk_kept (bz BK328) hkp (fun hs_ => Or.elim hs_ (fun e_ => (fun e_ => (e_.2.2.1) rfl) e_) (fun e_ => (fun e_ => (Kd.R_ne HO_348002.out BK328.out (by decide)) e_) e_))); have n8_ := Aside0.mk (blk_kept (bz BK337) hkp (fun hs_ => Or.elim hs_ (fun e_ => (fun e_ => (e_.2.2.2.1) rfl) e_) (fun e_ => (fun e_ => (Kd.R_ne HO_348002.out BK337.out (by decide)) e_) e_))); have n9_ := Aside0.mk (blk_kept (bz BK347) hkp (fun hs_ => Or.elim hs_ (fun e_ => (fun e_ => (e_.2.2.2.2) rfl) e_) (fun e_ => (fun e_ => (Kd.R_ne HO_348002.out BK347.out (by decide)) e_) e_))); have n10_ := Aside0.mk (hb); clear HO_329001 HO_329002 HO_338001 HO_338002 HO_348001 HO_348002 BK309 BK328 BK337 BK347 HB; have HO_329001 := n0_; have HO_329002 := n1_; have HO_338001 := n2_; have HO_338002 := n3_; have HO_348001 := n4_; have HO_348002 := n5_; have BK309 := n6_; have BK328 := n7_; have BK337 := n8_; have BK347 := n9_; have HB := n10_; clear n0_ n1_ n2_ n3_ n4_ n5_ n6_ n7_ n8_ n9_ n10_; (try clear hb); (try clear hkp); (try clear hy0); (try clear hy1); have hcz113_0 := cz0 BK347; have hcz113_1 := cz1 BK347; have hcz113_2 := cz2 BK347; have hcz113_3 := cz3 BK347; have hfz113_0 := blk_frozen BK347.out 0; have hfz113_1 := blk_frozen BK347.out 1; have hfz113_2 := blk_frozen BK347.out 2; have hfz113_3 := blk_frozen BK347.out 3) | ((with_reducible refine gate_callee (f := 43) rfl ?_); refine goesL_ (some 71) rfl rfl Try.func43 kr rfl #[.agg #[.int .i64 t338, .slice Ao44 t363.length co44, .slice Ao45 t364.length co45, .int .i64 t345], .int .i64 1] rfl (by (try simp only [List.map_toArray, List.map_cons, List.map_nil]); first | done | (rw [show t363.length = t339.length from (Kd.S_reads' HO_348001.out).1.symm, show t364.length = t342.length from (Kd.R_reads' HO_348002.out).1.symm] <;> rfl) | rfl | (simp only [List.length_drop, List.length_take]; rfl)) ?_; (with_reducible refine (laws_heldCourt.calls kj68 t338 _ _ t363 _ _ t364 t345 1 t365 _ ?side1 ?side2 ?side3 ?side4 A102.out).mono ?_); (case side1 => repeat (first | exact (Kd.S_reads' HO_348001.out).2.2 | (with_reducible refine Kd.C_alloc ?_ _) | (with_reducible refine Kd.C_drewN ?_ _) | (with_reducible refine Kd.C_drew ?_))); (case side2 => rw [show t363.length = t339.length from (Kd.S_reads' HO_348001.out).1.symm]; exact (Kd.S_reads' HO_348001.out).2.1); (case side3 => repeat (first | exact (Kd.R_reads' HO_348002.out).2.2 | (with_reducible refine Kd.C_alloc ?_ _) | (with_reducible refine Kd.C_drewN ?_ _) | (with_reducible refine Kd.C_drew ?_))); (case side4 => rw [show t364.length = t342.length from (Kd.R_reads' HO_348002.out).1.symm]; exact (Kd.R_reads' HO_348002.out).2.1); rintro e w114 ⟨rfl, hb⟩; refine ⟨_, rfl, ?_⟩; have n0_ := Aside0.mk (Kd.S_below (sz HO_329001) hb); have n1_ := Aside0.mk (Kd.R_below (rz HO_329002) hb); have n2_ := Aside0.mk (Kd.S_below (sz HO_338001) hb); have n3_ := Aside0.mk (Kd.R_below (rz HO_338002) hb); have n4_ := Aside0.mk (Kd.S_below (sz HO_348001) hb); have n5_ := Aside0.mk (Kd.R_below (rz HO_348002) hb); have n6_ := Aside0.mk (blk_below (bz BK309) hb); have n7_ := Aside0.mk (blk_below (bz BK328) hb); have n8_ := Aside0.mk (blk_below (bz BK337) hb); have n9_ := Aside0.mk (blk_below (bz BK347) hb); have n10_ := Aside0.mk (below_step bh hb); clear HO_329001 HO_329002 HO_338001 HO_338002 HO_348001 HO_348002 BK309 BK328 BK337 BK347 HB; have HO_329001 := n0_; have HO_329002 := n1_; have HO_338001 := n2_; have HO_338002 := n3_; have HO_348001 := n4_; have HO_348002 := n5_; have BK309 := n6_; have BK328 := n7_; have BK337 := n8_; have BK347 := n9_; have HB := n10_; clear n0_ n1_ n2_ n3_ n4_ n5_ n6_ n7_ n8_ n9_ n10_; (try clear hb); (try clear hb2); (try clear hk); (try clear hi); have hnb115 := NB309_328.out; have hnc115 := NB328_309.out; have hnb116 := NB309_337.out; have hnc116 := NB337_309.out; have hcz117_0 := cz0 BK309; have hcz117_1 := cz1 BK309; have hcz117_2 := cz2 BK309; have hcz117_3 := cz3 BK309; have hfz117_0 := blk_frozen BK309.out 0; have hfz117_1 := blk_frozen BK309.out 1; have hfz117_2 := blk_frozen BK309.out 2; have hfz117_3 := blk_frozen BK309.out 3) | ((with_reducible refine gate_callee (f := 18) rfl ?_); refine goesL_ (some 79) rfl rfl Try.func18 kr rfl #[.agg #[.int .i64 a0_0, .slice A0_1 l0_1.length c0_1, .slice A0_2 l0_2.length c0_2, .int .i64 a0_3]] rfl lm ?_; (with_reducible refine (laws_toCourt.calls kj68 a0_0 _ _ l0_1 _ _ l0_2 a0_3 t366 t367 t370 t373 _ ?side1 ?side2 ?side3 ?side4 A105.out).mono ?_); (case side1 => repeat (first | exact (Kd.C_below HR0_1.out HB.out) | (with_reducible refine Kd.C_alloc ?_ _) | (with_reducible refine Kd.C_drewN ?_ _) | (with_reducible refine Kd.C_drew ?_))); (case side2 => exact HC0_1.out); (case side3 => repeat (first | exact (Kd.C_below HR0_2.out HB.out) | (with_reducible refine Kd.C_alloc ?_ _) | (with_reducible refine Kd.C_drewN ?_ _) | (with_reducible refine Kd.C_drew ?_))); (case side4 => exact HC0_2.out); rintro e w118 ⟨v368, v371, rfl, ho0, ho1, hb⟩; refine ⟨_, rfl, ?_⟩; obtain ⟨Nm119, hNm119⟩ := S_num ho0; have n0_ := Aside0.mk (S_ltN (Kd.S_told (Kd.S_told (Kd.S_old (sz HO_329001) hb) (Kd.S_base ho0)) (Kd.R_base ho1)) hNm119); have n1_ := Aside0.mk (Kd.R_elder' (rz HO_329002) (Kd.R_base ho1) hb); have n2_ := Aside0.mk (S_ltN (Kd.S_told (Kd.S_told (Kd.S_old (sz HO_338001) hb) (Kd.S_base ho0)) (Kd.R_base ho1)) hNm119); have n3_ := Aside0.mk (Kd.R_elder' (rz HO_338002) (Kd.R_base ho1) hb); have n4_ := Aside0.mk (S_ltN (Kd.S_told (Kd.S_told (Kd.S_old (sz HO_348001) hb) (Kd.S_base ho0)) (Kd.R_base ho1)) hNm119); have n5_ := Aside0.mk (Kd.R_elder' (rz HO_348002) (Kd.R_base ho1) hb); have n6_ := Aside0.mk (Kd.S_lower (Kd.S_new' (Kd.S_new' (Kd.S_new' (Kd.S_new' (Kd.S_new' (Kd.S_new' (S_geN ho0 hNm119) (Kd.S_lt (sz HO_329001))) (Kd.R_lt (rz HO_329002))) (Kd.S_lt (sz HO_338001))) (Kd.R_lt (rz HO_338002))) (Kd.S_lt (sz HO_348001))) (Kd.R_lt (rz HO_348002))) (below_size bh)); have n7_ := Aside0.mk (Kd.R_lower (Kd.R_new' (Kd.R_new' (Kd.R_new' ho1 (Kd.R_lt (rz HO_329002))) (Kd.R_lt (rz HO_338002))) (Kd.R_lt (rz HO_348002))) (below_size bh)); have n8_ := Aside0.mk (blk_below (bz BK309) hb); have n9_ := Aside0.mk (blk_below (bz BK328) hb); have n10_ := Aside0.mk (blk_below (bz BK337) hb); have n11_ := Aside0.mk (blk_below (bz BK347) hb); have n12_ := Aside0.mk (below_step bh hb); clear HO_329001 HO_329002 HO_338001 HO_338002 HO_348001 HO_348002 BK309 BK328 BK337 BK347 HB; have HO_329001 := n0_; have HO_329002 := n1_; have HO_338001 := n2_; have HO_338002 := n3_; have HO_348001 := n4_; have HO_348002 := n5_; have HO369 := n6_; have HO372 := n7_; have BK309 := n8_; have BK328 := n9_; have BK337 := n10_; have BK347 := n11_; have HB := n12_; clear n0_ n1_ n2_ n3_ n4_ n5_ n6_ n7_ n8_ n9_ n10_ n11_ n12_; (try clear hb); (try clear hb2); (try clear hk); (try clear hi); (try clear ho0); (try clear ho1); obtain ⟨Ao120, co120, eo120⟩ := Kd.S_slice HO369.out; subst eo120; obtain ⟨Ao121, co121, eo121⟩ := Kd.R_slice HO372.out; subst eo121) | ((with_reducible refine gate_callee (f := 45) rfl ?_); refine goesL_ (some 81) rfl rfl Try.func45 kr rfl #[.agg #[.int .i64 t366, .slice Ao120 t367.length co120, .slice Ao121 t370.length co121, .int .i64 t373], .int .i64 a1] rfl lm ?_; (with_reducible refine (impl_AfterDeath.calls kj68 t366 _ _ t367 _ _ t370 t373 a1 t374 t375 t378 t381 t382 _ ?side1 ?side2 ?side3 ?side4 A106.out).mono ?_); (case side1 => repeat (first | exact (Kd.S_reads' HO369.out).2.2 | (with_reducible refine Kd.C_alloc ?_ _) | (with_reducible refine Kd.C_drewN ?_ _) | (with_reducible refine Kd.C_drew ?_))); (case side2 => exact (Kd.S_reads' HO369.out).2.1); (case side3 => repeat (first | exact (Kd.R_reads' HO372.out).2.2 | (with_reducible refine Kd.C_alloc ?_ _) | (with_reducible refine Kd.C_drewN ?_ _) | (with_reducible refine Kd.C_drew ?_))); (case side4 => exact (Kd.R_reads' HO372.out).2.1); rintro e w122 ⟨v376, v379, rfl, ho0, ho1, hb⟩; refine ⟨_, rfl, ?_⟩; obtain ⟨Nm123, hNm123⟩ := S_num ho0; have n0_ := Aside0.mk (S_ltN (Kd.S_told (Kd.S_told (Kd.S_old (sz HO_329001) hb) (Kd.S_base ho0)) (Kd.R_base ho1)) hNm123); have n1_ := Aside0.mk (Kd.R_elder' (rz HO_329002) (Kd.R_base ho1) hb); have n2_ := Aside0.mk (S_ltN (Kd.S_told (Kd.S_told (Kd.S_old (sz HO_338001) hb) (Kd.S_base ho0)) (Kd.R_base ho1)) hNm123); have n3_ := Aside0.mk (Kd.R_elder' (rz HO_338002) (Kd.R_base ho1) hb); have n4_ := Aside0.mk (S_ltN (Kd.S_told (Kd.S_told (Kd.S_old (sz HO_348001) hb) (Kd.S_base ho0)) (Kd.R_base ho1)) hNm123); have n5_ := Aside0.mk (Kd.R_elder' (rz HO_348002) (Kd.R_base ho1) hb); have n6_ := Aside0.mk (S_ltN (Kd.S_told (Kd.S_told (Kd.S_old (sz HO369) hb) (Kd.S_base ho0)) (Kd.R_base ho1)) hNm123); have n7_ := Aside0.mk (Kd.R_elder' (rz HO372) (Kd.R_base ho1) hb); have n8_ := Aside0.mk (Kd.S_lower (Kd.S_new' (Kd.S_new' (Kd.S_new' (Kd.S_new' (Kd.S_new' (Kd.S_new' (Kd.S_new' (Kd.S_new' (S_geN ho0 hNm123) (Kd.S_lt (sz HO_329001))) (Kd.R_lt (rz HO_329002))) (Kd.S_lt (sz HO_338001))) (Kd.R_lt (rz HO_338002))) (Kd.S_lt (sz HO_348001))) (Kd.R_lt (rz HO_348002))) (Kd.S_lt (sz HO369))) (Kd.R_lt (rz HO372))) (below_size bh)); have n9_ := Aside0.mk (Kd.R_lower (Kd.R_new' (Kd.R_new' (Kd.R_new' (Kd.R_new' ho1 (Kd.R_lt (rz HO_329002))) (Kd.R_lt (rz HO_338002))) (Kd.R_lt (rz HO_348002))) (Kd.R_lt (rz HO372))) (below_size bh)); have n10_ := Aside0.mk (blk_below (bz BK309) hb); have n11_ := Aside0.mk (blk_below (bz BK328) hb); have n12_ := Aside0.mk (blk_below (bz BK337) hb); have n13_ := Aside0.mk (blk_below (bz BK347) hb); have n14_ := Aside0.mk (below_step bh hb); clear HO_329001 HO_329002 HO_338001 HO_338002 HO_348001 HO_348002 HO369 HO372 BK309 BK328 BK337 BK347 HB; have HO_329001 := n0_; have HO_329002 := n1_; have HO_338001 := n2_; have HO_338002 := n3_; have HO_348001 := n4_; have HO_348002 := n5_; have HO369 := n6_; have HO372 := n7_; have HO377 := n8_; have HO380 := n9_; have BK309 := n10_; have BK328 := n11_; have BK337 := n12_; have BK347 := n13_; have HB := n14_; clear n0_ n1_ n2_ n3_ n4_ n5_ n6_ n7_ n8_ n9_ n10_ n11_ n12_ n13_ n14_; (try clear hb); (try clear hb2); (try clear hk); (try clear hi); (try clear ho0); (try clear ho1)) | ((with_reducible refine gate_dst (N := 14) rfl ?_); refine box_event ?hg (N := 14) ?hd (cs := #[.int .i64 0, .slice none 0 0, .slice none 0 0, .int .i64 0]) (t := 28) ?hr ?_; (case hd => rfl); (case hg => rfl); (case hr => first | (go_simp; done) | (go_simp; rfl)); intro gb383 hg w124 hbox hb; have n0_ := Aside0.mk (Kd.S_below (sz HO_329001) hb); have n1_ := Aside0.mk (Kd.R_below (rz HO_329002) hb); have n2_ := Aside0.mk (Kd.S_below (sz HO_338001) hb); have n3_ := Aside0.mk (Kd.R_below (rz HO_338002) hb); have n4_ := Aside0.mk (Kd.S_below (sz HO_348001) hb); have n5_ := Aside0.mk (Kd.R_below (rz HO_348002) hb); have n6_ := Aside0.mk (Kd.S_below (sz HO369) hb); have n7_ := Aside0.mk (Kd.R_below (rz HO372) hb); have n8_ := Aside0.mk (Kd.S_below (sz HO377) hb); have n9_ := Aside0.mk (Kd.R_below (rz HO380) hb); have n10_ := Aside0.mk (blk_below (bz BK309) hb); have n11_ := Aside0.mk (blk_below (bz BK328) hb); have n12_ := Aside0.mk (blk_below (bz BK337) hb); have n13_ := Aside0.mk (blk_below (bz BK347) hb); have n14_ := Aside0.mk (below_step bh hb); have n15_ := Aside0.mk (hbox); have n16_ := Aside0.mk ((gs (W0 := w) hg bh)); have n17_ := Aside0.mk ((gs (W0 := w) hg bh)); have n18_ := Aside0.mk ((gn hg (bz BK309))); have n19_ := Aside0.mk ((gm hg (bz BK309))); have n20_ := Aside0.mk ((gn hg (bz BK328))); have n21_ := Aside0.mk ((gm hg (bz BK328))); have n22_ := Aside0.mk ((gn hg (bz BK337))); have n23_ := Aside0.mk ((gm hg (bz BK337))); have n24_ := Aside0.mk ((gn hg (bz BK347))); have n25_ := Aside0.mk ((gm hg (bz BK347))); clear HO_329001 HO_329002 HO_338001 HO_338002 HO_348001 HO_348002 HO369 HO372 HO377 HO380 BK309 BK328 BK337 BK347 HB; have HO_329001 := n0_; have HO_329002 := n1_; have HO_338001 := n2_; have HO_338002 := n3_; have HO_348001 := n4_; have HO_348002 := n5_; have HO369 := n6_; have HO372 := n7_; have HO377 := n8_; have HO380 := n9_; have BK309 := n10_; have BK328 := n11_; have BK337 := n12_; have BK347 := n13_; have HB := n14_; have BK383 := n15_; have GW383 := n16_; have GE383 := n17_; have NB309_383 := n18_; have NB383_309 := n19_; have NB328_383 := n20_; have NB383_328 := n21_; have NB337_383 := n22_; have NB383_337 := n23_; have NB347_383 := n24_; have NB383_347 := n25_; clear n0_ n1_ n2_ n3_ n4_ n5_ n6_ n7_ n8_ n9_ n10_ n11_ n12_ n13_ n14_ n15_ n16_ n17_ n18_ n19_ n20_ n21_ n22_ n23_ n24_ n25_ hb hbox hg; have hnb125 := NB383_309.out; have hnc125 := NB309_383.out; have hnb126 := NB383_328.out; have hnc126 := NB328_383.out; have hnb127 := NB383_337.out; have hnc127 := NB337_383.out; have hnb128 := NB383_347.out; have hnc128 := NB347_383.out; have hcz129_0 := cz0 BK383; have hcz129_1 := cz1 BK383; have hcz129_2 := cz2 BK383; have hcz129_3 := cz3 BK383; have hfz129_0 := blk_frozen BK383.out 0; have hfz129_1 := blk_frozen BK383.out 1; have hfz129_2 := blk_frozen BK383.out 2; have hfz129_3 := blk_frozen BK383.out 3; obtain ⟨Ao130, co130, eo130⟩ := Kd.S_slice HO377.out; subst eo130; obtain ⟨Ao131, co131, eo131⟩ := Kd.R_slice HO380.out; subst eo131))
           (try simp only [Act.put, List.setIfInBounds_toArray, List.set_cons_zero, List.set_cons_succ])
           go_cut [92] (fun v92 wc => ∃ (kq : Nat) (x92_106 : Bool), v92 = .bool x92_106 ∧ Aside0 (laws_FnExactAfterDeath.j2 kq t362 x92_106 t338 t363 t364 t345 = some r) ∧ Aside0 (kq ≤ kj68) ∧ Aside0 (Kd.S (Kd.slice 3 (Kd.int .i64)) 23 wc w.heap.size (fun k_ => some k_ ≠ ((.slice Ao27 t323.length co27) : Value).ownBlock ∧ some k_ ≠ ((.slice Ao35 t359.length co35) : Value).ownBlock ∧ some k_ ≠ ((.slice Ao36 t360.length co36) : Value).ownBlock ∧ some k_ ≠ ((.slice Ao44 t339.length co44) : Value).ownBlock ∧ some k_ ≠ ((.slice Ao45 t342.length co45) : Value).ownBlock ∧ some k_ ≠ ((.slice Ao130 t375.length co130) : Value).ownBlock ∧ some k_ ≠ ((.slice Ao131 t378.length co131) : Value).ownBlock ∧ Nm22 ≤ k_ ∧ k_ < Nm30 ∧ k_ < Nm38 ∧ k_ < Nm72 ∧ k_ < Nm119 ∧ k_ < Nm123) (.slice Ao26 t320.length co26) t320) ∧ Aside0 (Kd.R (Kd.int .i64) 3 wc w.heap.size (fun k_ => some k_ ≠ ((.slice Ao36 t360.length co36) : Value).ownBlock ∧ some k_ ≠ ((.slice Ao45 t342.length co45) : Value).ownBlock ∧ some k_ ≠ ((.slice Ao131 t378.length co131) : Value).ownBlock) (.slice Ao27 t323.length co27) t323) ∧ Aside0 (Kd.S (Kd.slice 3 (Kd.int .i64)) 23 wc w.heap.size (fun k_ => some k_ ≠ ((.slice Ao26 t320.length co26) : Value).ownBlock ∧ some k_ ≠ ((.slice Ao27 t323.length co27) : Value).ownBlock ∧ some k_ ≠ ((.slice Ao36 t360.length co36) : Value).ownBlock ∧ some k_ ≠ ((.slice Ao44 t339.length co44) : Value).ownBlock ∧ some k_ ≠ ((.slice Ao45 t342.length co45) : Value).ownBlock ∧ some k_ ≠ ((.slice Ao130 t375.length co130) : Value).ownBlock ∧ some k_ ≠ ((.slice Ao131 t378.length co131) : Value).ownBlock ∧ Nm30 ≤ k_ ∧ k_ < Nm38 ∧ k_ < Nm72 ∧ k_ < Nm119 ∧ k_ < Nm123) (.slice Ao35 t359.length co35) t359) ∧ Aside0 (Kd.R (Kd.int .i64) 3 wc w.heap.size (fun k_ => some k_ ≠ ((.slice Ao27 t323.length co27) : Value).ownBlock ∧ some k_ ≠ ((.slice Ao45 t342.length co45) : Value).ownBlock ∧ some k_ ≠ ((.slice Ao131 t378.length co131) : Value).ownBlock) (.slice Ao36 t360.length co36) t360) ∧ Aside0 (Kd.S (Kd.slice 3 (Kd.int .i64)) 23 wc w.heap.size (fun k_ => some k_ ≠ ((.slice Ao26 t320.length co26) : Value).ownBlock ∧ some k_ ≠ ((.slice Ao27 t323.length co27) : Value).ownBlock ∧ some k_ ≠ ((.slice Ao35 t359.length co35) : Value).ownBlock ∧ some k_ ≠ ((.slice Ao36 t360.length co36) : Value).ownBlock ∧ some k_ ≠ ((.slice Ao45 t342.length co45) : Value).ownBlock ∧ some k_ ≠ ((.slice Ao130 t375.length co130) : Value).ownBlock ∧ some k_ ≠ ((.slice Ao131 t378.length co131) : Value).ownBlock ∧ Nm38 ≤ k_ ∧ k_ < Nm72 ∧ k_ < Nm119 ∧ k_ < Nm123) (.slice Ao44 t339.length co44) t363) ∧ Aside0 (Kd.R (Kd.int .i64) 3 wc w.heap.size (fun k_ => some k_ ≠ ((.slice Ao27 t323.length co27) : Value).ownBlock ∧ some k_ ≠ ((.slice Ao36 t360.length co36) : Value).ownBlock ∧ some k_ ≠ ((.slice Ao131 t378.length co131) : Value).ownBlock) (.slice Ao45 t342.length co45) t364) ∧ Aside0 (Kd.S (Kd.slice 3 (Kd.int .i64)) 23 wc w.heap.size (fun k_ => some k_ ≠ ((.slice Ao26 t320.length co26) : Value).ownBlock ∧ some k_ ≠ ((.slice Ao27 t323.length co27) : Value).ownBlock ∧ some k_ ≠ ((.slice Ao35 t359.length co35) : Value).ownBlock ∧ some k_ ≠ ((.slice Ao36 t360.length co36) : Value).ownBlock ∧ some k_ ≠ ((.slice Ao44 t339.length co44) : Value).ownBlock ∧ some k_ ≠ ((.slice Ao45 t342.length co45) : Value).ownBlock ∧ some k_ ≠ ((.slice Ao131 t378.length co131) : Value).ownBlock ∧ Nm123 ≤ k_) (.slice Ao130 t375.length co130) t375) ∧ Aside0 (Kd.R (Kd.int .i64) 3 wc w.heap.size (fun k_ => some k_ ≠ ((.slice Ao27 t323.length co27) : Value).ownBlock ∧ some k_ ≠ ((.slice Ao36 t360.length co36) : Value).ownBlock ∧ some k_ ≠ ((.slice Ao45 t342.length co45) : Value).ownBlock) (.slice Ao131 t378.length co131) t378) ∧ Aside0 (wc.heap[gb309]? = some (.cells #[.int .i64 a0_0, (.slice A0_1 l0_1.length c0_1), (.slice A0_2 l0_2.length c0_2), .int .i64 a0_3] 25 (0, 0))) ∧ Aside0 (wc.heap[gb328]? = some (.cells #[.int .i64 t319, (.slice Ao26 t320.length co26), (.slice Ao27 t323.length co27), .int .i64 t326] 28 (0, 0))) ∧ Aside0 (wc.heap[gb337]? = some (.cells #[.int .i64 t329, (.slice Ao35 t359.length co35), (.slice Ao36 t360.length co36), .int .i64 t336] 28 (0, 0))) ∧ Aside0 (wc.heap[gb347]? = some (.cells #[.int .i64 t338, (.slice Ao44 t339.length co44), (.slice Ao45 t342.length co45), .int .i64 t345] 28 (0, 0))) ∧ Aside0 (wc.heap[gb383]? = some (.cells #[.int .i64 t374, (.slice Ao130 t375.length co130), (.slice Ao131 t378.length co131), .int .i64 t381] 28 (0, 0))) ∧ Aside0 (Below w.heap.size w wc))
           case first =>
            have H := HC107.out
            clear HC107
            replace H := Option.bind_eq_some_iff.mp H
            obtain ⟨t384, A1320, H⟩ := H
            replace H : (if t384 = true then (laws_FnExactAfterDeath.j2 kj68 t362 (t382 != t327) t338 t363 t364 t345) else (laws_FnExactAfterDeath.j2 kj68 t362 true t338 t363 t364 t345)) = some r := H
            have A132 := Aside0.mk A1320
            clear A1320
            by_cases c133 : t384 = true
            ·subst c133
             have H1 : (laws_FnExactAfterDeath.j2 kj68 t362 (t382 != t327) t338 t363 t364 t345) = some r := by rw [if_pos rfl] at H; exact H
             clear H
             have H := H1
             clear H1
             have H' := Aside0.mk H
             clear H
             have hnb134 := NB383_309.out
             have hnc134 := NB309_383.out
             have hnb135 := NB383_328.out
             have hnc135 := NB328_383.out
             have hnb136 := NB383_337.out
             have hnc136 := NB337_383.out
             have hnb137 := NB383_347.out
             have hnc137 := NB347_383.out
             have hcz138_0 := cz0 BK383
             have hcz138_1 := cz1 BK383
             have hcz138_2 := cz2 BK383
             have hcz138_3 := cz3 BK383
             have hfz138_0 := blk_frozen BK383.out 0
             have hfz138_1 := blk_frozen BK383.out 1
             have hfz138_2 := blk_frozen BK383.out 2
             have hfz138_3 := blk_frozen BK383.out 3
             have hnb139 := NB328_309.out
             have hnc139 := NB309_328.out
             have hnb140 := NB328_337.out
             have hnc140 := NB337_328.out
             have hnb141 := NB328_347.out
             have hnc141 := NB347_328.out
             have hcz142_0 := cz0 BK328
             have hcz142_1 := cz1 BK328
             have hcz142_2 := cz2 BK328
             have hcz142_3 := cz3 BK328
             have hfz142_0 := blk_frozen BK328.out 0
             have hfz142_1 := blk_frozen BK328.out 1
             have hfz142_2 := blk_frozen BK328.out 2
             have hfz142_3 := blk_frozen BK328.out 3
             go_wp2_with (first | ((with_reducible refine gate_callee (f := 20) rfl ?_); refine goesL_ (some 86) rfl rfl Try.func20 kr rfl #[.agg #[.int .i64 t374, .slice Ao130 t375.length co130, .slice Ao131 t378.length co131, .int .i64 t381], .agg #[.int .i64 t319, .slice Ao26 t320.length co26, .slice Ao27 t323.length co27, .int .i64 t326]] rfl lm ?_; (with_reducible refine (laws_eqCourt.calls kj68 t374 _ _ t375 _ _ t378 t381 t319 _ _ t320 _ _ t323 t326 true _ ?side1 ?side2 ?side3 ?side4 ?side5 ?side6 ?side7 ?side8 A132.out).mono ?_); (case side1 => refine (Kd.S_reads' (e := 23) (base := w.heap.size) (ok := fun k_ => (((((((((some k_ ≠ (.slice Ao131 t378.length co131 : Value).ownBlock ∧ Nm123 ≤ k_) ∧ some k_ ≠ (.slice Ao26 t320.length co26 : Value).ownBlock) ∧ some k_ ≠ (.slice Ao27 t323.length co27 : Value).ownBlock) ∧ some k_ ≠ (.slice Ao35 t359.length co35 : Value).ownBlock) ∧ some k_ ≠ (.slice Ao36 t360.length co36 : Value).ownBlock) ∧ some k_ ≠ (.slice Ao44 t339.length co44 : Value).ownBlock) ∧ some k_ ≠ (.slice Ao45 t342.length co45 : Value).ownBlock) ∧ some k_ ≠ (.slice Ao120 t367.length co120 : Value).ownBlock) ∧ some k_ ≠ (.slice Ao121 t370.length co121 : Value).ownBlock)) (n := t375.length) (c := co130) ?_).2.2; exact (fS HO377 BK383)); (case side2 => exact (Kd.S_reads' HO377.out).2.1); (case side3 => refine (Kd.R_reads' (e := 3) (base := w.heap.size) (ok := fun k_ => ((((True ∧ some k_ ≠ (.slice Ao27 t323.length co27 : Value).ownBlock) ∧ some k_ ≠ (.slice Ao36 t360.length co36 : Value).ownBlock) ∧ some k_ ≠ (.slice Ao45 t342.length co45 : Value).ownBlock) ∧ some k_ ≠ (.slice Ao121 t370.length co121 : Value).ownBlock)) (n := t378.length) (c := co131) ?_).2.2; exact (fR HO380 BK383)); (case side4 => exact (Kd.R_reads' HO380.out).2.1); (case side5 => refine (Kd.S_reads' (e := 23) (base := w.heap.size) (ok := fun k_ => (((((((some k_ ≠ (.slice Ao27 t323.length co27 : Value).ownBlock ∧ (some k_ ≠ (.slice Ao35 t359.length co35 : Value).ownBlock ∧ (some k_ ≠ (.slice Ao36 t360.length co36 : Value).ownBlock ∧ (some k_ ≠ (.slice Ao44 t339.length co44 : Value).ownBlock ∧ (some k_ ≠ (.slice Ao45 t342.length co45 : Value).ownBlock ∧ (Nm22 ≤ k_ ∧ (k_ < Nm30 ∧ (k_ < Nm38 ∧ k_ < Nm72)))))))) ∧ some k_ ≠ (.slice Ao120 t367.length co120 : Value).ownBlock) ∧ some k_ ≠ (.slice Ao121 t370.length co121 : Value).ownBlock) ∧ k_ < Nm119) ∧ some k_ ≠ (.slice Ao130 t375.length co130 : Value).ownBlock) ∧ some k_ ≠ (.slice Ao131 t378.length co131 : Value).ownBlock) ∧ k_ < Nm123)) (n := t320.length) (c := co26) ?_).2.2; exact (fS HO_329001 BK383)); (case side6 => exact (Kd.S_reads' HO_329001.out).2.1); (case side7 => refine (Kd.R_reads' (e := 3) (base := w.heap.size) (ok := fun k_ => (((some k_ ≠ (.slice Ao36 t360.length co36 : Value).ownBlock ∧ some k_ ≠ (.slice Ao45 t342.length co45 : Value).ownBlock) ∧ some k_ ≠ (.slice Ao121 t370.length co121 : Value).ownBlock) ∧ some k_ ≠ (.slice Ao131 t378.length co131 : Value).ownBlock)) (n := t323.length) (c := co27) ?_).2.2; exact (fR HO_329002 BK383)); (case side8 => exact (Kd.R_reads' HO_329002.out).2.1); rintro e w143 ⟨rfl, hb⟩; refine ⟨_, rfl, ?_⟩; have n0_ := Aside0.mk (Kd.S_below (fS HO_329001 BK383) hb); have n1_ := Aside0.mk (Kd.R_below (fR HO_329002 BK383) hb); have n2_ := Aside0.mk (Kd.S_below (fS HO_338001 BK383) hb); have n3_ := Aside0.mk (Kd.R_below (fR HO_338002 BK383) hb); have n4_ := Aside0.mk (Kd.S_below (fS HO_348001 BK383) hb); have n5_ := Aside0.mk (Kd.R_below (fR HO_348002 BK383) hb); have n6_ := Aside0.mk (Kd.S_below (fS HO369 BK383) hb); have n7_ := Aside0.mk (Kd.R_below (fR HO372 BK383) hb); have n8_ := Aside0.mk (Kd.S_below (fS HO377 BK383) hb); have n9_ := Aside0.mk (Kd.R_below (fR HO380 BK383) hb); have n10_ := Aside0.mk (blk_below (g := gb309) (o := .cells #[.int .i64 a0_0, .slice A0_1 l0_1.length c0_1, .slice A0_2 l0_2.length c0_2, .int .i64 a0_3] 25 (0, 0)) (bf NB309_383 BK309) hb); have n11_ := Aside0.mk (blk_below (g := gb328) (o := .cells #[.int .i64 t319, .slice Ao26 t320.length co26, .slice Ao27 t323.length co27, .int .i64 t326] 28 (0, 0)) (bf NB328_383 BK328) hb); have n12_ := Aside0.mk (blk_below (g := gb337) (o := .cells #[.int .i64 t329, .slice Ao35 t359.length co35, .slice Ao36 t360.length co36, .int .i64 t336] 28 (0, 0)) (bf NB337_383 BK337) hb); have n13_ := Aside0.mk (blk_below (g := gb347) (o := .cells #[.int .i64 t338, .slice Ao44 t339.length co44, .slice Ao45 t342.length co45, .int .i64 t345] 28 (0, 0)) (bf NB347_383 BK347) hb); have n14_ := Aside0.mk (blk_below (g := gb383) (o := .cells #[.int .i64 t374, .slice Ao130 t375.length co130, .slice Ao131 t378.length co131, .int .i64 t381] 28 (0, 0)) (bp BK383) hb); have n15_ := Aside0.mk (below_step bh hb); clear HO_329001 HO_329002 HO_338001 HO_338002 HO_348001 HO_348002 HO369 HO372 HO377 HO380 BK309 BK328 BK337 BK347 BK383 HB; have HO_329001 := n0_; have HO_329002 := n1_; have HO_338001 := n2_; have HO_338002 := n3_; have HO_348001 := n4_; have HO_348002 := n5_; have HO369 := n6_; have HO372 := n7_; have HO377 := n8_; have HO380 := n9_; have BK309 := n10_; have BK328 := n11_; have BK337 := n12_; have BK347 := n13_; have BK383 := n14_; have HB := n15_; clear n0_ n1_ n2_ n3_ n4_ n5_ n6_ n7_ n8_ n9_ n10_ n11_ n12_ n13_ n14_ n15_; (try clear hb); (try clear hb2); (try clear hk); (try clear hi)))
             go_meet
             case rel => exact ⟨_, ((t382 != t327)), (by first | rfl | (simp; done) | (simp [*]; done)), H', ⟨by have := HJ11.out; have := HJ68.out; first | omega | exact Nat.le_refl _⟩, ⟨by (try simp only [hl338001_68]); (try simp only [hl338002_68]); (with_reducible repeat (first | apply Kd.S_alloc | apply Kd.S_drewN | apply Kd.S_drew)); exact Kd.S_mono HO_329001.out (fun _ hk => ⟨hk.1.1.1.1.1.1.1, ⟨hk.1.1.1.1.1.1.2.1, ⟨hk.1.1.1.1.1.1.2.2.1, ⟨hk.1.1.1.1.1.1.2.2.2.1, ⟨hk.1.1.1.1.1.1.2.2.2.2.1, ⟨hk.1.1.2, ⟨hk.1.2, ⟨hk.1.1.1.1.1.1.2.2.2.2.2.1, ⟨hk.1.1.1.1.1.1.2.2.2.2.2.2.1, ⟨hk.1.1.1.1.1.1.2.2.2.2.2.2.2.1, ⟨hk.1.1.1.1.1.1.2.2.2.2.2.2.2.2, ⟨hk.1.1.1.2, hk.2⟩⟩⟩⟩⟩⟩⟩⟩⟩⟩⟩⟩)⟩, ⟨by (try simp only [hl338001_68]); (try simp only [hl338002_68]); (with_reducible repeat (first | apply Kd.R_alloc | apply Kd.R_drewN | apply Kd.R_drew)); exact Kd.R_mono HO_329002.out (fun _ hk => ⟨hk.1.1.1, ⟨hk.1.1.2, hk.2⟩⟩)⟩, ⟨by (try simp only [hl338001_68]); (try simp only [hl338002_68]); (with_reducible repeat (first | apply Kd.S_alloc | apply Kd.S_drewN | apply Kd.S_drew)); exact Kd.S_mono HO_338001.out (fun _ hk => ⟨hk.1.1.1.1.1.1.1, ⟨hk.1.1.1.1.1.1.2.1, ⟨hk.1.1.1.1.1.1.2.2.1, ⟨hk.1.1.1.1.1.1.2.2.2.1, ⟨hk.1.1.1.1.1.1.2.2.2.2.1, ⟨hk.1.1.2, ⟨hk.1.2, ⟨hk.1.1.1.1.1.1.2.2.2.2.2.1, ⟨hk.1.1.1.1.1.1.2.2.2.2.2.2.1, ⟨hk.1.1.1.1.1.1.2.2.2.2.2.2.2, ⟨hk.1.1.1.2, hk.2⟩⟩⟩⟩⟩⟩⟩⟩⟩⟩⟩)⟩, ⟨by (try simp only [hl338001_68]); (try simp only [hl338002_68]); (with_reducible repeat (first | apply Kd.R_alloc | apply Kd.R_drewN | apply Kd.R_drew)); exact Kd.R_mono HO_338002.out (fun _ hk => ⟨hk.1.1.1, ⟨hk.1.1.2, hk.2⟩⟩)⟩, ⟨by (try simp only [hl338001_68]); (try simp only [hl338002_68]); (with_reducible repeat (first | apply Kd.S_alloc | apply Kd.S_drewN | apply Kd.S_drew)); exact Kd.S_mono HO_348001.out (fun _ hk => ⟨hk.1.1.1.1.1.1.1, ⟨hk.1.1.1.1.1.1.2.1, ⟨hk.1.1.1.1.1.1.2.2.1, ⟨hk.1.1.1.1.1.1.2.2.2.1, ⟨hk.1.1.1.1.1.1.2.2.2.2.1, ⟨hk.1.1.2, ⟨hk.1.2, ⟨hk.1.1.1.1.1.1.2.2.2.2.2.1, ⟨hk.1.1.1.1.1.1.2.2.2.2.2.2, ⟨hk.1.1.1.2, hk.2⟩⟩⟩⟩⟩⟩⟩⟩⟩⟩)⟩, ⟨by (try simp only [hl338001_68]); (try simp only [hl338002_68]); (with_reducible repeat (first | apply Kd.R_alloc | apply Kd.R_drewN | apply Kd.R_drew)); exact Kd.R_mono HO_348002.out (fun _ hk => ⟨hk.1.1.1, ⟨hk.1.1.2, hk.2⟩⟩)⟩, ⟨by (try simp only [hl338001_68]); (try simp only [hl338002_68]); (with_reducible repeat (first | apply Kd.S_alloc | apply Kd.S_drewN | apply Kd.S_drew)); exact Kd.S_mono HO377.out (fun _ hk => ⟨hk.1.1.1.1.1.1.1.2, ⟨hk.1.1.1.1.1.1.2, ⟨hk.1.1.1.1.1.2, ⟨hk.1.1.1.1.2, ⟨hk.1.1.1.2, ⟨hk.1.1.2, ⟨hk.1.1.1.1.1.1.1.1.1, hk.1.1.1.1.1.1.1.1.2⟩⟩⟩⟩⟩⟩⟩)⟩, ⟨by (try simp only [hl338001_68]); (try simp only [hl338002_68]); (with_reducible repeat (first | apply Kd.R_alloc | apply Kd.R_drewN | apply Kd.R_drew)); exact Kd.R_mono HO380.out (fun _ hk => ⟨hk.1.1.1.2, ⟨hk.1.1.2, hk.1.2⟩⟩)⟩, ⟨by (try simp only [hl338001_68]); (try simp only [hl338002_68]); (with_reducible repeat (first | refine blk_drewN ?_ _ | refine blk_drew ?_ | refine blk_alloc ?_ _)); exact BK309.out⟩, ⟨by (try simp only [hl338001_68]); (try simp only [hl338002_68]); (with_reducible repeat (first | refine blk_drewN ?_ _ | refine blk_drew ?_ | refine blk_alloc ?_ _)); exact BK328.out⟩, ⟨by (try simp only [hl338001_68]); (try simp only [hl338002_68]); (with_reducible repeat (first | refine blk_drewN ?_ _ | refine blk_drew ?_ | refine blk_alloc ?_ _)); exact BK337.out⟩, ⟨by (try simp only [hl338001_68]); (try simp only [hl338002_68]); (with_reducible repeat (first | refine blk_drewN ?_ _ | refine blk_drew ?_ | refine blk_alloc ?_ _)); exact BK347.out⟩, ⟨by (try simp only [hl338001_68]); (try simp only [hl338002_68]); (with_reducible repeat (first | refine blk_drewN ?_ _ | refine blk_drew ?_ | refine blk_alloc ?_ _)); exact BK383.out⟩, ⟨by exact bh⟩⟩
            ·replace c133 := Bool.eq_false_iff.mpr c133
             subst c133
             have H1 : (laws_FnExactAfterDeath.j2 kj68 t362 true t338 t363 t364 t345) = some r := by rw [if_neg (show ¬ (false = true) by decide)] at H; exact H
             clear H
             have H := H1
             clear H1
             have H' := Aside0.mk H
             clear H
             have hnb144 := NB383_309.out
             have hnc144 := NB309_383.out
             have hnb145 := NB383_328.out
             have hnc145 := NB328_383.out
             have hnb146 := NB383_337.out
             have hnc146 := NB337_383.out
             have hnb147 := NB383_347.out
             have hnc147 := NB347_383.out
             have hcz148_0 := cz0 BK383
             have hcz148_1 := cz1 BK383
             have hcz148_2 := cz2 BK383
             have hcz148_3 := cz3 BK383
             have hfz148_0 := blk_frozen BK383.out 0
             have hfz148_1 := blk_frozen BK383.out 1
             have hfz148_2 := blk_frozen BK383.out 2
             have hfz148_3 := blk_frozen BK383.out 3
             have hnb149 := NB328_309.out
             have hnc149 := NB309_328.out
             have hnb150 := NB328_337.out
             have hnc150 := NB337_328.out
             have hnb151 := NB328_347.out
             have hnc151 := NB347_328.out
             have hcz152_0 := cz0 BK328
             have hcz152_1 := cz1 BK328
             have hcz152_2 := cz2 BK328
             have hcz152_3 := cz3 BK328
             have hfz152_0 := blk_frozen BK328.out 0
             have hfz152_1 := blk_frozen BK328.out 1
             have hfz152_2 := blk_frozen BK328.out 2
             have hfz152_3 := blk_frozen BK328.out 3
             go_wp2_with (first | ((with_reducible refine gate_callee (f := 20) rfl ?_); refine goesL_ (some 86) rfl rfl Try.func20 kr rfl #[.agg #[.int .i64 t374, .slice Ao130 t375.length co130, .slice Ao131 t378.length co131, .int .i64 t381], .agg #[.int .i64 t319, .slice Ao26 t320.length co26, .slice Ao27 t323.length co27, .int .i64 t326]] rfl lm ?_; (with_reducible refine (laws_eqCourt.calls kj68 t374 _ _ t375 _ _ t378 t381 t319 _ _ t320 _ _ t323 t326 false _ ?side1 ?side2 ?side3 ?side4 ?side5 ?side6 ?side7 ?side8 A132.out).mono ?_); (case side1 => refine (Kd.S_reads' (e := 23) (base := w.heap.size) (ok := fun k_ => (((((((((some k_ ≠ (.slice Ao131 t378.length co131 : Value).ownBlock ∧ Nm123 ≤ k_) ∧ some k_ ≠ (.slice Ao26 t320.length co26 : Value).ownBlock) ∧ some k_ ≠ (.slice Ao27 t323.length co27 : Value).ownBlock) ∧ some k_ ≠ (.slice Ao35 t359.length co35 : Value).ownBlock) ∧ some k_ ≠ (.slice Ao36 t360.length co36 : Value).ownBlock) ∧ some k_ ≠ (.slice Ao44 t339.length co44 : Value).ownBlock) ∧ some k_ ≠ (.slice Ao45 t342.length co45 : Value).ownBlock) ∧ some k_ ≠ (.slice Ao120 t367.length co120 : Value).ownBlock) ∧ some k_ ≠ (.slice Ao121 t370.length co121 : Value).ownBlock)) (n := t375.length) (c := co130) ?_).2.2; exact (fS HO377 BK383)); (case side2 => exact (Kd.S_reads' HO377.out).2.1); (case side3 => refine (Kd.R_reads' (e := 3) (base := w.heap.size) (ok := fun k_ => ((((True ∧ some k_ ≠ (.slice Ao27 t323.length co27 : Value).ownBlock) ∧ some k_ ≠ (.slice Ao36 t360.length co36 : Value).ownBlock) ∧ some k_ ≠ (.slice Ao45 t342.length co45 : Value).ownBlock) ∧ some k_ ≠ (.slice Ao121 t370.length co121 : Value).ownBlock)) (n := t378.length) (c := co131) ?_).2.2; exact (fR HO380 BK383)); (case side4 => exact (Kd.R_reads' HO380.out).2.1); (case side5 => refine (Kd.S_reads' (e := 23) (base := w.heap.size) (ok := fun k_ => (((((((some k_ ≠ (.slice Ao27 t323.length co27 : Value).ownBlock ∧ (some k_ ≠ (.slice Ao35 t359.length co35 : Value).ownBlock ∧ (some k_ ≠ (.slice Ao36 t360.length co36 : Value).ownBlock ∧ (some k_ ≠ (.slice Ao44 t339.length co44 : Value).ownBlock ∧ (some k_ ≠ (.slice Ao45 t342.length co45 : Value).ownBlock ∧ (Nm22 ≤ k_ ∧ (k_ < Nm30 ∧ (k_ < Nm38 ∧ k_ < Nm72)))))))) ∧ some k_ ≠ (.slice Ao120 t367.length co120 : Value).ownBlock) ∧ some k_ ≠ (.slice Ao121 t370.length co121 : Value).ownBlock) ∧ k_ < Nm119) ∧ some k_ ≠ (.slice Ao130 t375.length co130 : Value).ownBlock) ∧ some k_ ≠ (.slice Ao131 t378.length co131 : Value).ownBlock) ∧ k_ < Nm123)) (n := t320.length) (c := co26) ?_).2.2; exact (fS HO_329001 BK383)); (case side6 => exact (Kd.S_reads' HO_329001.out).2.1); (case side7 => refine (Kd.R_reads' (e := 3) (base := w.heap.size) (ok := fun k_ => (((some k_ ≠ (.slice Ao36 t360.length co36 : Value).ownBlock ∧ some k_ ≠ (.slice Ao45 t342.length co45 : Value).ownBlock) ∧ some k_ ≠ (.slice Ao121 t370.length co121 : Value).ownBlock) ∧ some k_ ≠ (.slice Ao131 t378.length co131 : Value).ownBlock)) (n := t323.length) (c := co27) ?_).2.2; exact (fR HO_329002 BK383)); (case side8 => exact (Kd.R_reads' HO_329002.out).2.1); rintro e w153 ⟨rfl, hb⟩; refine ⟨_, rfl, ?_⟩; have n0_ := Aside0.mk (Kd.S_below (fS HO_329001 BK383) hb); have n1_ := Aside0.mk (Kd.R_below (fR HO_329002 BK383) hb); have n2_ := Aside0.mk (Kd.S_below (fS HO_338001 BK383) hb); have n3_ := Aside0.mk (Kd.R_below (fR HO_338002 BK383) hb); have n4_ := Aside0.mk (Kd.S_below (fS HO_348001 BK383) hb); have n5_ := Aside0.mk (Kd.R_below (fR HO_348002 BK383) hb); have n6_ := Aside0.mk (Kd.S_below (fS HO369 BK383) hb); have n7_ := Aside0.mk (Kd.R_below (fR HO372 BK383) hb); have n8_ := Aside0.mk (Kd.S_below (fS HO377 BK383) hb); have n9_ := Aside0.mk (Kd.R_below (fR HO380 BK383) hb); have n10_ := Aside0.mk (blk_below (g := gb309) (o := .cells #[.int .i64 a0_0, .slice A0_1 l0_1.length c0_1, .slice A0_2 l0_2.length c0_2, .int .i64 a0_3] 25 (0, 0)) (bf NB309_383 BK309) hb); have n11_ := Aside0.mk (blk_below (g := gb328) (o := .cells #[.int .i64 t319, .slice Ao26 t320.length co26, .slice Ao27 t323.length co27, .int .i64 t326] 28 (0, 0)) (bf NB328_383 BK328) hb); have n12_ := Aside0.mk (blk_below (g := gb337) (o := .cells #[.int .i64 t329, .slice Ao35 t359.length co35, .slice Ao36 t360.length co36, .int .i64 t336] 28 (0, 0)) (bf NB337_383 BK337) hb); have n13_ := Aside0.mk (blk_below (g := gb347) (o := .cells #[.int .i64 t338, .slice Ao44 t339.length co44, .slice Ao45 t342.length co45, .int .i64 t345] 28 (0, 0)) (bf NB347_383 BK347) hb); have n14_ := Aside0.mk (blk_below (g := gb383) (o := .cells #[.int .i64 t374, .slice Ao130 t375.length co130, .slice Ao131 t378.length co131, .int .i64 t381] 28 (0, 0)) (bp BK383) hb); have n15_ := Aside0.mk (below_step bh hb); clear HO_329001 HO_329002 HO_338001 HO_338002 HO_348001 HO_348002 HO369 HO372 HO377 HO380 BK309 BK328 BK337 BK347 BK383 HB; have HO_329001 := n0_; have HO_329002 := n1_; have HO_338001 := n2_; have HO_338002 := n3_; have HO_348001 := n4_; have HO_348002 := n5_; have HO369 := n6_; have HO372 := n7_; have HO377 := n8_; have HO380 := n9_; have BK309 := n10_; have BK328 := n11_; have BK337 := n12_; have BK347 := n13_; have BK383 := n14_; have HB := n15_; clear n0_ n1_ n2_ n3_ n4_ n5_ n6_ n7_ n8_ n9_ n10_ n11_ n12_ n13_ n14_ n15_; (try clear hb); (try clear hb2); (try clear hk); (try clear hi)))
             go_meet
             case rel => exact ⟨_, (true), (by first | rfl | (simp; done) | (simp [*]; done)), H', ⟨by have := HJ11.out; have := HJ68.out; first | omega | exact Nat.le_refl _⟩, ⟨by (try simp only [hl338001_68]); (try simp only [hl338002_68]); (with_reducible repeat (first | apply Kd.S_alloc | apply Kd.S_drewN | apply Kd.S_drew)); exact Kd.S_mono HO_329001.out (fun _ hk => ⟨hk.1.1.1.1.1.1.1, ⟨hk.1.1.1.1.1.1.2.1, ⟨hk.1.1.1.1.1.1.2.2.1, ⟨hk.1.1.1.1.1.1.2.2.2.1, ⟨hk.1.1.1.1.1.1.2.2.2.2.1, ⟨hk.1.1.2, ⟨hk.1.2, ⟨hk.1.1.1.1.1.1.2.2.2.2.2.1, ⟨hk.1.1.1.1.1.1.2.2.2.2.2.2.1, ⟨hk.1.1.1.1.1.1.2.2.2.2.2.2.2.1, ⟨hk.1.1.1.1.1.1.2.2.2.2.2.2.2.2, ⟨hk.1.1.1.2, hk.2⟩⟩⟩⟩⟩⟩⟩⟩⟩⟩⟩⟩)⟩, ⟨by (try simp only [hl338001_68]); (try simp only [hl338002_68]); (with_reducible repeat (first | apply Kd.R_alloc | apply Kd.R_drewN | apply Kd.R_drew)); exact Kd.R_mono HO_329002.out (fun _ hk => ⟨hk.1.1.1, ⟨hk.1.1.2, hk.2⟩⟩)⟩, ⟨by (try simp only [hl338001_68]); (try simp only [hl338002_68]); (with_reducible repeat (first | apply Kd.S_alloc | apply Kd.S_drewN | apply Kd.S_drew)); exact Kd.S_mono HO_338001.out (fun _ hk => ⟨hk.1.1.1.1.1.1.1, ⟨hk.1.1.1.1.1.1.2.1, ⟨hk.1.1.1.1.1.1.2.2.1, ⟨hk.1.1.1.1.1.1.2.2.2.1, ⟨hk.1.1.1.1.1.1.2.2.2.2.1, ⟨hk.1.1.2, ⟨hk.1.2, ⟨hk.1.1.1.1.1.1.2.2.2.2.2.1, ⟨hk.1.1.1.1.1.1.2.2.2.2.2.2.1, ⟨hk.1.1.1.1.1.1.2.2.2.2.2.2.2, ⟨hk.1.1.1.2, hk.2⟩⟩⟩⟩⟩⟩⟩⟩⟩⟩⟩)⟩, ⟨by (try simp only [hl338001_68]); (try simp only [hl338002_68]); (with_reducible repeat (first | apply Kd.R_alloc | apply Kd.R_drewN | apply Kd.R_drew)); exact Kd.R_mono HO_338002.out (fun _ hk => ⟨hk.1.1.1, ⟨hk.1.1.2, hk.2⟩⟩)⟩, ⟨by (try simp only [hl338001_68]); (try simp only [hl338002_68]); (with_reducible repeat (first | apply Kd.S_alloc | apply Kd.S_drewN | apply Kd.S_drew)); exact Kd.S_mono HO_348001.out (fun _ hk => ⟨hk.1.1.1.1.1.1.1, ⟨hk.1.1.1.1.1.1.2.1, ⟨hk.1.1.1.1.1.1.2.2.1, ⟨hk.1.1.1.1.1.1.2.2.2.1, ⟨hk.1.1.1.1.1.1.2.2.2.2.1, ⟨hk.1.1.2, ⟨hk.1.2, ⟨hk.1.1.1.1.1.1.2.2.2.2.2.1, ⟨hk.1.1.1.1.1.1.2.2.2.2.2.2, ⟨hk.1.1.1.2, hk.2⟩⟩⟩⟩⟩⟩⟩⟩⟩⟩)⟩, ⟨by (try simp only [hl338001_68]); (try simp only [hl338002_68]); (with_reducible repeat (first | apply Kd.R_alloc | apply Kd.R_drewN | apply Kd.R_drew)); exact Kd.R_mono HO_348002.out (fun _ hk => ⟨hk.1.1.1, ⟨hk.1.1.2, hk.2⟩⟩)⟩, ⟨by (try simp only [hl338001_68]); (try simp only [hl338002_68]); (with_reducible repeat (first | apply Kd.S_alloc | apply Kd.S_drewN | apply Kd.S_drew)); exact Kd.S_mono HO377.out (fun _ hk => ⟨hk.1.1.1.1.1.1.1.2, ⟨hk.1.1.1.1.1.1.2, ⟨hk.1.1.1.1.1.2, ⟨hk.1.1.1.1.2, ⟨hk.1.1.1.2, ⟨hk.1.1.2, ⟨hk.1.1.1.1.1.1.1.1.1, hk.1.1.1.1.1.1.1.1.2⟩⟩⟩⟩⟩⟩⟩)⟩, ⟨by (try simp only [hl338001_68]); (try simp only [hl338002_68]); (with_reducible repeat (first | apply Kd.R_alloc | apply Kd.R_drewN | apply Kd.R_drew)); exact Kd.R_mono HO380.out (fun _ hk => ⟨hk.1.1.1.2, ⟨hk.1.1.2, hk.1.2⟩⟩)⟩, ⟨by (try simp only [hl338001_68]); (try simp only [hl338002_68]); (with_reducible repeat (first | refine blk_drewN ?_ _ | refine blk_drew ?_ | refine blk_alloc ?_ _)); exact BK309.out⟩, ⟨by (try simp only [hl338001_68]); (try simp only [hl338002_68]); (with_reducible repeat (first | refine blk_drewN ?_ _ | refine blk_drew ?_ | refine blk_alloc ?_ _)); exact BK328.out⟩, ⟨by (try simp only [hl338001_68]); (try simp only [hl338002_68]); (with_reducible repeat (first | refine blk_drewN ?_ _ | refine blk_drew ?_ | refine blk_alloc ?_ _)); exact BK337.out⟩, ⟨by (try simp only [hl338001_68]); (try simp only [hl338002_68]); (with_reducible repeat (first | refine blk_drewN ?_ _ | refine blk_drew ?_ | refine blk_alloc ?_ _)); exact BK347.out⟩, ⟨by (try simp only [hl338001_68]); (try simp only [hl338002_68]); (with_reducible repeat (first | refine blk_drewN ?_ _ | refine blk_drew ?_ | refine blk_alloc ?_ _)); exact BK383.out⟩, ⟨by exact bh⟩⟩
           case rest =>
            clear HC107
            try clear c1
            try clear c2
            try clear p2
            try clear c3
            try clear c4
            try clear c4b0
            try clear c5
            try clear c6
            try clear c7
            try clear c8
            try clear c9
            try clear c10
            try clear c11
            try clear c12
            try clear c13
            try clear c14
            try clear c15
            try clear c16
            try clear c18
            try clear c20
            try clear c24
            try clear c28
            try clear c32
            try clear c33
            try clear c40
            try clear c41
            try clear c42
            try clear c43
            try clear c45
            try clear c46
            try clear c47
            try clear c48
            try clear c49
            try clear c50
            try clear c52
            try clear c53
            try clear c56
            try clear c57
            try clear c58
            try clear c60
            try clear c61
            try clear c64
            try clear c67
            try clear c76
            try clear c77
            try clear c78
            try clear c81
            try clear c81b0
            try clear c83
            try clear c84
            try clear c85
            try clear c86
            try clear c88
            try clear c89
            try clear c92
            try clear c93
            try clear c94
            try clear c96
            try clear c97
            try clear c100
            try clear c103
            try clear c103b0
            try clear c103b1
            try clear c104
            try clear c104b0
            try clear c104b1
            try clear c108
            try clear c109
            try clear c110
            try clear c115
            try clear c116
            try clear c125
            try clear c126
            try clear c127
            try clear c128
            try clear c133
            try clear c134
            try clear c135
            try clear c136
            try clear c137
            try clear c139
            try clear c140
            try clear c141
            try clear c144
            try clear c145
            try clear c146
            try clear c147
            try clear c149
            try clear c150
            try clear c151
            try clear hcz111_0
            try clear hcz111_1
            try clear hcz111_2
            try clear hcz111_3
            try clear hcz113_0
            try clear hcz113_1
            try clear hcz113_2
            try clear hcz113_3
            try clear hcz117_0
            try clear hcz117_1
            try clear hcz117_2
            try clear hcz117_3
            try clear hcz129_0
            try clear hcz129_1
            try clear hcz129_2
            try clear hcz129_3
            try clear hcz138_0
            try clear hcz138_1
            try clear hcz138_2
            try clear hcz138_3
            try clear hcz142_0
            try clear hcz142_1
            try clear hcz142_2
            try clear hcz142_3
            try clear hcz148_0
            try clear hcz148_1
            try clear hcz148_2
            try clear hcz148_3
            try clear hcz14_0
            try clear hcz14_1
            try clear hcz14_2
            try clear hcz14_3
            try clear hcz152_0
            try clear hcz152_1
            try clear hcz152_2
            try clear hcz152_3
            try clear hcz16_0
            try clear hcz16_1
            try clear hcz16_2
            try clear hcz16_3
            try clear hcz25_0
            try clear hcz25_1
            try clear hcz25_2
            try clear hcz25_3
            try clear hcz28_0
            try clear hcz28_1
            try clear hcz28_2
            try clear hcz28_3
            try clear hcz34_0
            try clear hcz34_1
            try clear hcz34_2
            try clear hcz34_3
            try clear hcz43_0
            try clear hcz43_1
            try clear hcz43_2
            try clear hcz43_3
            try clear hcz51_0
            try clear hcz51_1
            try clear hcz51_2
            try clear hcz51_3
            try clear hcz54_0
            try clear hcz54_1
            try clear hcz54_2
            try clear hcz54_3
            try clear hcz59_0
            try clear hcz59_1
            try clear hcz59_2
            try clear hcz59_3
            try clear hcz62_0
            try clear hcz62_1
            try clear hcz62_2
            try clear hcz62_3
            try clear hcz6_0
            try clear hcz6_1
            try clear hcz6_2
            try clear hcz6_3
            try clear hcz79_0
            try clear hcz79_1
            try clear hcz79_2
            try clear hcz79_3
            try clear hcz87_0
            try clear hcz87_1
            try clear hcz87_2
            try clear hcz87_3
            try clear hcz90_0
            try clear hcz90_1
            try clear hcz90_2
            try clear hcz90_3
            try clear hcz95_0
            try clear hcz95_1
            try clear hcz95_2
            try clear hcz95_3
            try clear hcz98_0
            try clear hcz98_1
            try clear hcz98_2
            try clear hcz98_3
            try clear hfz111_0
            try clear hfz111_1
            try clear hfz111_2
            try clear hfz111_3
            try clear hfz113_0
            try clear hfz113_1
            try clear hfz113_2
            try clear hfz113_3
            try clear hfz117_0
            try clear hfz117_1
            try clear hfz117_2
            try clear hfz117_3
            try clear hfz129_0
            try clear hfz129_1
            try clear hfz129_2
            try clear hfz129_3
            try clear hfz138_0
            try clear hfz138_1
            try clear hfz138_2
            try clear hfz138_3
            try clear hfz142_0
            try clear hfz142_1
            try clear hfz142_2
            try clear hfz142_3
            try clear hfz148_0
            try clear hfz148_1
            try clear hfz148_2
            try clear hfz148_3
            try clear hfz14_0
            try clear hfz14_1
            try clear hfz14_2
            try clear hfz14_3
            try clear hfz152_0
            try clear hfz152_1
            try clear hfz152_2
            try clear hfz152_3
            try clear hfz16_0
            try clear hfz16_1
            try clear hfz16_2
            try clear hfz16_3
            try clear hfz25_0
            try clear hfz25_1
            try clear hfz25_2
            try clear hfz25_3
            try clear hfz28_0
            try clear hfz28_1
            try clear hfz28_2
            try clear hfz28_3
            try clear hfz34_0
            try clear hfz34_1
            try clear hfz34_2
            try clear hfz34_3
            try clear hfz43_0
            try clear hfz43_1
            try clear hfz43_2
            try clear hfz43_3
            try clear hfz51_0
            try clear hfz51_1
            try clear hfz51_2
            try clear hfz51_3
            try clear hfz54_0
            try clear hfz54_1
            try clear hfz54_2
            try clear hfz54_3
            try clear hfz59_0
            try clear hfz59_1
            try clear hfz59_2
            try clear hfz59_3
            try clear hfz62_0
            try clear hfz62_1
            try clear hfz62_2
            try clear hfz62_3
            try clear hfz6_0
            try clear hfz6_1
            try clear hfz6_2
            try clear hfz6_3
            try clear hfz79_0
            try clear hfz79_1
            try clear hfz79_2
            try clear hfz79_3
            try clear hfz87_0
            try clear hfz87_1
            try clear hfz87_2
            try clear hfz87_3
            try clear hfz90_0
            try clear hfz90_1
            try clear hfz90_2
            try clear hfz90_3
            try clear hfz95_0
            try clear hfz95_1
            try clear hfz95_2
            try clear hfz95_3
            try clear hfz98_0
            try clear hfz98_1
            try clear hfz98_2
            try clear hfz98_3
            try clear p2
            obtain ⟨kq, x92_106, rfl, HA, HJ106, HO_329001, HO_329002, HO_338001, HO_338002, HO_348001, HO_348002, HO_384001, HO_384002, BK309, BK328, BK337, BK347, BK383, HB⟩ := hcut
            have hl348001_106 := (Kd.S_reads' HO_348001.out).1
            rw [hl348001_106] at HO_348001
            (try simp only [hl348001_106])
            (try simp only [hl348001_106] at BK309)
            (try simp only [hl348001_106] at BK328)
            (try simp only [hl348001_106] at BK337)
            (try simp only [hl348001_106] at BK347)
            (try simp only [hl348001_106] at BK383)
            (try simp only [hl348001_106] at HO_329001)
            (try simp only [hl348001_106] at HO_329002)
            (try simp only [hl348001_106] at HO_338001)
            (try simp only [hl348001_106] at HO_338002)
            (try simp only [hl348001_106] at HO_348002)
            (try simp only [hl348001_106] at HO_384001)
            (try simp only [hl348001_106] at HO_384002)
            have hl348002_106 := (Kd.R_reads' HO_348002.out).1
            rw [hl348002_106] at HO_348002
            (try simp only [hl348002_106])
            (try simp only [hl348002_106] at BK309)
            (try simp only [hl348002_106] at BK328)
            (try simp only [hl348002_106] at BK337)
            (try simp only [hl348002_106] at BK347)
            (try simp only [hl348002_106] at BK383)
            (try simp only [hl348002_106] at HO_329001)
            (try simp only [hl348002_106] at HO_329002)
            (try simp only [hl348002_106] at HO_338001)
            (try simp only [hl348002_106] at HO_338002)
            (try simp only [hl348002_106] at HO_348001)
            (try simp only [hl348002_106] at HO_384001)
            (try simp only [hl348002_106] at HO_384002)
            cases kq with
            | zero => exact absurd HA.out (by simp [laws_FnExactAfterDeath.j2])
            | succ kj106 =>
             have H := HA.out
             clear HA
             simp only [laws_FnExactAfterDeath.j2] at H
             by_cases c154 : x92_106 = true
             ·subst c154
              have H1 : (none) = some r := by rw [if_pos rfl] at H; exact H
              clear H
              have H := H1
              clear H1
              exact absurd H (by simp)
             ·replace c154 := Bool.eq_false_iff.mpr c154
              subst c154
              have H1 : ((laws_heldCourt.f kj106 t338 t363 t364 t345 1).bind fun t385 => (if t385 < 0 then (none) else (if t385 = t362 then (some true) else (none)))) = some r := by rw [if_neg (show ¬ (false = true) by decide)] at H; exact H
              clear H
              have H := H1
              clear H1
              replace H := Option.bind_eq_some_iff.mp H
              obtain ⟨t385, A1550, H⟩ := H
              replace H : (if t385 < 0 then (none) else (if t385 = t362 then (some true) else (none))) = some r := H
              have A155 := Aside0.mk A1550
              clear A1550
              by_cases c156 : t385 < 0
              ·rw [if_pos c156] at H
               exact absurd H (by simp)
              ·rw [if_neg c156] at H
               have c156b0 : decide (t385 < 0) = false := decide_eq_false c156
               (try (have c156z0 := c156b0; simp only [hl338001_68] at c156z0))
               (try (have c156z1 := c156b1; simp only [hl338001_68] at c156z1))
               (try (have c156z0 := c156b0; simp only [hl338002_68] at c156z0))
               (try (have c156z1 := c156b1; simp only [hl338002_68] at c156z1))
               (try (have c156z0 := c156b0; simp only [hl348001_106] at c156z0))
               (try (have c156z1 := c156b1; simp only [hl348001_106] at c156z1))
               (try (have c156z0 := c156b0; simp only [hl348002_106] at c156z0))
               (try (have c156z1 := c156b1; simp only [hl348002_106] at c156z1))
               clear c156
               by_cases c157 : t385 = t362
               ·rw [if_pos c157] at H
                have c157b0 : (t385 == t362) = true := beq_iff_eq.mpr c157
                have c157b1 : (t385 != t362) = false := bne_eq_false_iff_eq.mpr c157
                (try (have c157z0 := c157b0; simp only [hl338001_68] at c157z0))
                (try (have c157z1 := c157b1; simp only [hl338001_68] at c157z1))
                (try (have c157z0 := c157b0; simp only [hl338002_68] at c157z0))
                (try (have c157z1 := c157b1; simp only [hl338002_68] at c157z1))
                (try (have c157z0 := c157b0; simp only [hl348001_106] at c157z0))
                (try (have c157z1 := c157b1; simp only [hl348001_106] at c157z1))
                (try (have c157z0 := c157b0; simp only [hl348002_106] at c157z0))
                (try (have c157z1 := c157b1; simp only [hl348002_106] at c157z1))
                clear c157
                obtain rfl := Option.some.inj H
                have hnb158 := NB347_309.out
                have hnc158 := NB309_347.out
                have hnb159 := NB347_328.out
                have hnc159 := NB328_347.out
                have hnb160 := NB347_337.out
                have hnc160 := NB337_347.out
                have hnb161 := NB347_383.out
                have hnc161 := NB383_347.out
                have hcz162_0 := cz0 BK347
                have hcz162_1 := cz1 BK347
                have hcz162_2 := cz2 BK347
                have hcz162_3 := cz3 BK347
                have hfz162_0 := blk_frozen BK347.out 0
                have hfz162_1 := blk_frozen BK347.out 1
                have hfz162_2 := blk_frozen BK347.out 2
                have hfz162_3 := blk_frozen BK347.out 3
                go_wp2_with (first | ((with_reducible refine gate_callee (f := 43) rfl ?_); refine goesL_ (some 95) rfl rfl Try.func43 kr rfl #[.agg #[.int .i64 t338, .slice Ao44 t363.length co44, .slice Ao45 t364.length co45, .int .i64 t345], .int .i64 1] rfl lm ?_; (with_reducible refine (laws_heldCourt.calls kj106 t338 _ _ t363 _ _ t364 t345 1 t385 _ ?side1 ?side2 ?side3 ?side4 A155.out).mono ?_); (case side1 => repeat (first | exact (Kd.S_reads' HO_348001.out).2.2 | (with_reducible refine Kd.C_alloc ?_ _) | (with_reducible refine Kd.C_drewN ?_ _) | (with_reducible refine Kd.C_drew ?_))); (case side2 => exact (Kd.S_reads' HO_348001.out).2.1); (case side3 => repeat (first | exact (Kd.R_reads' HO_348002.out).2.2 | (with_reducible refine Kd.C_alloc ?_ _) | (with_reducible refine Kd.C_drewN ?_ _) | (with_reducible refine Kd.C_drew ?_))); (case side4 => exact (Kd.R_reads' HO_348002.out).2.1); rintro e w163 ⟨rfl, hb⟩; refine ⟨_, rfl, ?_⟩; have n0_ := Aside0.mk (Kd.S_below (sz HO_329001) hb); have n1_ := Aside0.mk (Kd.R_below (rz HO_329002) hb); have n2_ := Aside0.mk (Kd.S_below (sz HO_338001) hb); have n3_ := Aside0.mk (Kd.R_below (rz HO_338002) hb); have n4_ := Aside0.mk (Kd.S_below (sz HO_348001) hb); have n5_ := Aside0.mk (Kd.R_below (rz HO_348002) hb); have n6_ := Aside0.mk (Kd.S_below (sz HO_384001) hb); have n7_ := Aside0.mk (Kd.R_below (rz HO_384002) hb); have n8_ := Aside0.mk (blk_below (bz BK309) hb); have n9_ := Aside0.mk (blk_below (bz BK328) hb); have n10_ := Aside0.mk (blk_below (bz BK337) hb); have n11_ := Aside0.mk (blk_below (bz BK347) hb); have n12_ := Aside0.mk (blk_below (bz BK383) hb); have n13_ := Aside0.mk (below_step bh hb); clear HO_329001 HO_329002 HO_338001 HO_338002 HO_348001 HO_348002 HO_384001 HO_384002 BK309 BK328 BK337 BK347 BK383 HB; have HO_329001 := n0_; have HO_329002 := n1_; have HO_338001 := n2_; have HO_338002 := n3_; have HO_348001 := n4_; have HO_348002 := n5_; have HO_384001 := n6_; have HO_384002 := n7_; have BK309 := n8_; have BK328 := n9_; have BK337 := n10_; have BK347 := n11_; have BK383 := n12_; have HB := n13_; clear n0_ n1_ n2_ n3_ n4_ n5_ n6_ n7_ n8_ n9_ n10_ n11_ n12_ n13_; (try clear hb); (try clear hb2); (try clear hk); (try clear hi)))
                go_ret
                exact ⟨by first | rfl | (simp [errW_none, errW_some] <;> rfl) | (simp [*, errW_none, errW_some] <;> rfl), by exact bh⟩
               ·rw [if_neg c157] at H
                exact absurd H (by simp)
          ·rw [if_neg c104] at H
           exact absurd H (by simp)
     ·replace c67 := Bool.eq_false_iff.mpr c67
      subst c67
      have H1 : (none) = some r := by rw [if_neg (show ¬ (false = true) by decide)] at H; exact H
      clear H
      have H := H1
      clear H1
      exact absurd H (by simp)

def laws_FnExactAfterDeath.Pure : Prop := ∀ (a0_0 : Int) (l0_1 : List (List Int)) (l0_2 : List Int) (a0_3 : Int) (a1 : Int), Opens.pInt .i64 a0_0 → Opens.pSlice (Opens.pSlice (Opens.pInt .i64)) l0_1 → Opens.pSlice (Opens.pInt .i64) l0_2 → Opens.pInt .i64 a0_3 → Opens.pInt .i64 a1 → ∃ k, laws_FnExactAfterDeath.f k a0_0 l0_1 l0_2 a0_3 a1 = some true

end Go.Proofs.Ytlpjkeejflogjaa.QFnExactAfterDeath
