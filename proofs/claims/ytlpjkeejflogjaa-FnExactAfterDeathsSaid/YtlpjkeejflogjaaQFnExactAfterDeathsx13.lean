-- Printed for this claim by a turned copy of the print (wip/myprint). Lean checks it. Squeezed. Worded. Tightened.
import Derived.Test.YtlpjkeejflogjaaQFnExactAfterDeathsx0
import Derived.Test.YtlpjkeejflogjaaQFnExactAfterDeathsx1
import Derived.Test.YtlpjkeejflogjaaQFnExactAfterDeathsx2
import Derived.Test.YtlpjkeejflogjaaQFnExactAfterDeathsx6
import Derived.Test.YtlpjkeejflogjaaQFnExactAfterDeathsx12
namespace Go.Proofs.Ytlpjkeejflogjaa.QFnExactAfterDeaths
open Go.RowKit Go.Proofs.YtlpjkeejflogjaaW.PrintWords Go.Proofs.YtlpjkeejflogjaaW.PrintLast Go.Proofs.YtlpjkeejflogjaaW.PrintMore
attribute [local go_sem] max2_int min2_int max_two min_two max_three min_three max_four min_four Opens.cell_twice   -- for this text's walks alone
set_option linter.unusedVariables false
set_option linter.unusedSimpArgs false

/-! ### laws_FnExactAfterDeaths: function 14 -/
mutual
def laws_FnExactAfterDeaths.j0 : Nat → List Int → Int → List Int → Int → Bool → Int → List (List Int) → List Int → Int → Int → List (List Int) → List Int → Int → Int → List (List Int) → List Int → Int → Int → List (List Int) → List Int → Int → Option (Bool)
 | 0, _, _, _, _, _, _, _, _, _, _, _, _, _, _, _, _, _, _, _, _, _ => none
 | k + 1, x1, x7, x9, x11, x51, x342000, x342001, x342002, x342003, x364000, x364001, x364002, x364003, x373000, x373001, x373002, x373003, x386000, x386001, x386002, x386003 => if x51 = true then (none) else ((laws_toCourt.f k x342000 x342001 x342002 x342003).bind fun bt387 => ((laws_eqCourt.f k x373000 x373001 x373002 x373003 bt387.1 bt387.2.1 bt387.2.2.1 bt387.2.2.2).bind fun t395 => (if t395 = true then ((laws_toIntS.f k x1).bind fun t396 => ((laws_eqIntS.f k x9 t396).bind fun t399 => (if t399 = true then ((laws_markCourt.f k x373000 x373001 x373002 x373003 1).bind fun bt400 => ((laws_markIntS.f k x9 bt400.1).bind fun bt403 => (if bt403.1 < 0 then (laws_FnExactAfterDeaths.j1 k x1 x7 true x342000 x342001 x342002 x342003 x364000 x364001 x364002 x364003 x386000 x386001 x386002 x386003) else ((laws_eqCourt.f k x386000 x386001 x386002 x386003 x364000 x364001 x364002 x364003).bind fun t405 => (if t405 = true then (laws_FnExactAfterDeaths.j1 k x1 x7 (x11 != x7) x342000 x342001 x342002 x342003 x364000 x364001 x364002 x364003 x386000 x386001 x386002 x386003) else (laws_FnExactAfterDeaths.j1 k x1 x7 true x342000 x342001 x342002 x342003 x364000 x364001 x364002 x364003 x386000 x386001 x386002 x386003)))))) else (none)))) else (none))))
def laws_FnExactAfterDeaths.j1 : Nat → List Int → Int → Bool → Int → List (List Int) → List Int → Int → Int → List (List Int) → List Int → Int → Int → List (List Int) → List Int → Int → Option (Bool)
 | 0, _, _, _, _, _, _, _, _, _, _, _, _, _, _, _ => none
 | k + 1, x1, x7, x80, x342000, x342001, x342002, x342003, x364000, x364001, x364002, x364003, x386000, x386001, x386002, x386003 => if x80 = true then (none) else ((laws_markCourt.f k x386000 x386001 x386002 x386003 1).bind fun bt406 => ((laws_heldCourt.f k x386000 bt406.2.1 bt406.2.2 x386003 1).bind fun t409 => (if t409 < 0 then (none) else (if t409 = bt406.1 then ((laws_toCourt.f k x342000 x342001 x342002 x342003).bind fun bt410 => ((laws_toIntS.f k x1).bind fun t418 => ((impl_AfterDeaths.f k bt410.1 bt410.2.1 bt410.2.2.1 bt410.2.2.2 t418).bind fun bt421 => ((laws_eqCourt.f k bt421.1 bt421.2.1 bt421.2.2.1 bt421.2.2.2.1 x364000 x364001 x364002 x364003).bind fun t431 => (if t431 = true then (laws_FnExactAfterDeaths.j2 k bt406.1 (bt421.2.2.2.2 != x7) x386000 bt406.2.1 bt406.2.2 x386003) else (laws_FnExactAfterDeaths.j2 k bt406.1 true x386000 bt406.2.1 bt406.2.2 x386003)))))) else (none)))))
def laws_FnExactAfterDeaths.j2 : Nat → Int → Bool → Int → List (List Int) → List Int → Int → Option (Bool)
 | 0, _, _, _, _, _, _ => none
 | k + 1, x13, x108, x386000, x386001, x386002, x386003 => if x108 = true then (none) else ((laws_heldCourt.f k x386000 x386001 x386002 x386003 1).bind fun t432 => (if t432 < 0 then (none) else (if t432 = x13 then (some true) else (none))))
end
def laws_FnExactAfterDeaths.f (k : Nat) (a0_0 : Int) (l0_1 : List (List Int)) (l0_2 : List Int) (a0_3 : Int) (l1 : List Int) : Option (Bool) := if (l1.length : Int) > 1048576 then (some true) else ((laws_szCourt.f k a0_0 l0_1 l0_2 a0_3 1048576).bind fun t342 => (if t342 < 0 then (some true) else ((laws_toCourt.f k a0_0 l0_1 l0_2 a0_3).bind fun bt343 => ((laws_toIntS.f k l1).bind fun t351 => ((spec_AfterDeaths.f k bt343.1 bt343.2.1 bt343.2.2.1 bt343.2.2.2 t351).bind fun bt354 => ((laws_toCourt.f k a0_0 l0_1 l0_2 a0_3).bind fun bt364 => ((laws_toIntS.f k l1).bind fun t373 => ((impl_AfterDeaths.f k bt364.1 bt364.2.1 bt364.2.2.1 bt364.2.2.2 t373).bind fun bt376 => ((laws_eqCourt.f k bt376.1 bt376.2.1 bt376.2.2.1 bt376.2.2.2.1 bt354.1 bt354.2.1 bt354.2.2.1 bt354.2.2.2.1).bind fun t386 => (if t386 = true then (laws_FnExactAfterDeaths.j0 k l1 bt354.2.2.2.2 t373 bt376.2.2.2.2 (bt376.2.2.2.2 != bt354.2.2.2.2) a0_0 l0_1 l0_2 a0_3 bt354.1 bt354.2.1 bt354.2.2.1 bt354.2.2.2.1 bt364.1 bt364.2.1 bt364.2.2.1 bt364.2.2.2 bt376.1 bt376.2.1 bt376.2.2.1 bt376.2.2.2.1) else (laws_FnExactAfterDeaths.j0 k l1 bt354.2.2.2.2 t373 bt376.2.2.2.2 true a0_0 l0_1 l0_2 a0_3 bt354.1 bt354.2.1 bt354.2.2.1 bt354.2.2.2.1 bt364.1 bt364.2.1 bt364.2.2.1 bt364.2.2.2 bt376.1 bt376.2.1 bt376.2.2.1 bt376.2.2.2.1)))))))))))
theorem laws_FnExactAfterDeaths.mono_l : ∀ k, (∀ y0 y1 y2 y3 y4 y5 y6 y7 y8 y9 y10 y11 y12 y13 y14 y15 y16 y17 y18 y19 y20, LeO (laws_FnExactAfterDeaths.j0 k y0 y1 y2 y3 y4 y5 y6 y7 y8 y9 y10 y11 y12 y13 y14 y15 y16 y17 y18 y19 y20) (laws_FnExactAfterDeaths.j0 (k + 1) y0 y1 y2 y3 y4 y5 y6 y7 y8 y9 y10 y11 y12 y13 y14 y15 y16 y17 y18 y19 y20)) ∧ (∀ y0 y1 y2 y3 y4 y5 y6 y7 y8 y9 y10 y11 y12 y13 y14, LeO (laws_FnExactAfterDeaths.j1 k y0 y1 y2 y3 y4 y5 y6 y7 y8 y9 y10 y11 y12 y13 y14) (laws_FnExactAfterDeaths.j1 (k + 1) y0 y1 y2 y3 y4 y5 y6 y7 y8 y9 y10 y11 y12 y13 y14)) ∧ (∀ y0 y1 y2 y3 y4 y5, LeO (laws_FnExactAfterDeaths.j2 k y0 y1 y2 y3 y4 y5) (laws_FnExactAfterDeaths.j2 (k + 1) y0 y1 y2 y3 y4 y5))
 | 0 => ⟨fun _ _ _ _ _ _ _ _ _ _ _ _ _ _ _ _ _ _ _ _ _ r h => by simp [laws_FnExactAfterDeaths.j0] at h, fun _ _ _ _ _ _ _ _ _ _ _ _ _ _ _ r h => by simp [laws_FnExactAfterDeaths.j1] at h, fun _ _ _ _ _ _ r h => by simp [laws_FnExactAfterDeaths.j2] at h⟩
 | k + 1 => by
  obtain ⟨ih0, ih1, ih2⟩ := laws_FnExactAfterDeaths.mono_l k
  refine ⟨?_, ?_, ?_⟩
  ·intro y0 y1 y2 y3 y4 y5 y6 y7 y8 y9 y10 y11 y12 y13 y14 y15 y16 y17 y18 y19 y20
   unfold laws_FnExactAfterDeaths.j0
   repeat' first
   | (with_reducible exact ih0 _ _ _ _ _ _ _ _ _ _ _ _ _ _ _ _ _ _ _ _ _)
   | (with_reducible exact ih1 _ _ _ _ _ _ _ _ _ _ _ _ _ _ _)
   | (with_reducible exact ih2 _ _ _ _ _ _)
   | (with_reducible exact impl_AfterDeaths.mono _ _ _ _ _ _)
   | (with_reducible exact laws_eqCourt.mono _ _ _ _ _ _ _ _ _)
   | (with_reducible exact laws_eqIntS.mono _ _ _)
   | (with_reducible exact laws_heldCourt.mono _ _ _ _ _ _)
   | (with_reducible exact laws_markCourt.mono _ _ _ _ _ _)
   | (with_reducible exact laws_markIntS.mono _ _ _)
   | (with_reducible exact laws_szCourt.mono _ _ _ _ _ _)
   | (with_reducible exact laws_toCourt.mono _ _ _ _ _)
   | (with_reducible exact laws_toIntS.mono _ _)
   | (with_reducible exact spec_AfterDeaths.mono _ _ _ _ _ _)
   | (with_reducible exact LeO.refl _)
   | (with_reducible exact LeO.none _)
   | (with_reducible refine LeO.ite ?_ ?_)
   | (with_reducible refine LeO.bind ?_ (fun _ => ?_))
   | exact ih0 _ _ _ _ _ _ _ _ _ _ _ _ _ _ _ _ _ _ _ _ _
   | exact ih1 _ _ _ _ _ _ _ _ _ _ _ _ _ _ _
   | exact ih2 _ _ _ _ _ _
   | exact impl_AfterDeaths.mono _ _ _ _ _ _
   | exact laws_eqCourt.mono _ _ _ _ _ _ _ _ _
   | exact laws_eqIntS.mono _ _ _
   | exact laws_heldCourt.mono _ _ _ _ _ _
   | exact laws_markCourt.mono _ _ _ _ _ _
   | exact laws_markIntS.mono _ _ _
   | exact laws_szCourt.mono _ _ _ _ _ _
   | exact laws_toCourt.mono _ _ _ _ _
   | exact laws_toIntS.mono _ _
   | exact spec_AfterDeaths.mono _ _ _ _ _ _
   | exact LeO.none _
   | refine LeO.ite ?_ ?_
   | refine LeO.bind ?_ (fun _ => ?_)
  ·intro y0 y1 y2 y3 y4 y5 y6 y7 y8 y9 y10 y11 y12 y13 y14
   unfold laws_FnExactAfterDeaths.j1
   repeat' first
   | (with_reducible exact ih0 _ _ _ _ _ _ _ _ _ _ _ _ _ _ _ _ _ _ _ _ _)
   | (with_reducible exact ih1 _ _ _ _ _ _ _ _ _ _ _ _ _ _ _)
   | (with_reducible exact ih2 _ _ _ _ _ _)
   | (with_reducible exact impl_AfterDeaths.mono _ _ _ _ _ _)
   | (with_reducible exact laws_eqCourt.mono _ _ _ _ _ _ _ _ _)
   | (with_reducible exact laws_eqIntS.mono _ _ _)
   | (with_reducible exact laws_heldCourt.mono _ _ _ _ _ _)
   | (with_reducible exact laws_markCourt.mono _ _ _ _ _ _)
   | (with_reducible exact laws_markIntS.mono _ _ _)
   | (with_reducible exact laws_szCourt.mono _ _ _ _ _ _)
   | (with_reducible exact laws_toCourt.mono _ _ _ _ _)
   | (with_reducible exact laws_toIntS.mono _ _)
   | (with_reducible exact spec_AfterDeaths.mono _ _ _ _ _ _)
   | (with_reducible exact LeO.refl _)
   | (with_reducible exact LeO.none _)
   | (with_reducible refine LeO.ite ?_ ?_)
   | (with_reducible refine LeO.bind ?_ (fun _ => ?_))
   | exact ih0 _ _ _ _ _ _ _ _ _ _ _ _ _ _ _ _ _ _ _ _ _
   | exact ih1 _ _ _ _ _ _ _ _ _ _ _ _ _ _ _
   | exact ih2 _ _ _ _ _ _
   | exact impl_AfterDeaths.mono _ _ _ _ _ _
   | exact laws_eqCourt.mono _ _ _ _ _ _ _ _ _
   | exact laws_eqIntS.mono _ _ _
   | exact laws_heldCourt.mono _ _ _ _ _ _
   | exact laws_markCourt.mono _ _ _ _ _ _
   | exact laws_markIntS.mono _ _ _
   | exact laws_szCourt.mono _ _ _ _ _ _
   | exact laws_toCourt.mono _ _ _ _ _
   | exact laws_toIntS.mono _ _
   | exact spec_AfterDeaths.mono _ _ _ _ _ _
   | exact LeO.none _
   | refine LeO.ite ?_ ?_
   | refine LeO.bind ?_ (fun _ => ?_)
  ·intro y0 y1 y2 y3 y4 y5
   unfold laws_FnExactAfterDeaths.j2
   repeat' first
   | (with_reducible exact ih0 _ _ _ _ _ _ _ _ _ _ _ _ _ _ _ _ _ _ _ _ _)
   | (with_reducible exact ih1 _ _ _ _ _ _ _ _ _ _ _ _ _ _ _)
   | (with_reducible exact ih2 _ _ _ _ _ _)
   | (with_reducible exact impl_AfterDeaths.mono _ _ _ _ _ _)
   | (with_reducible exact laws_eqCourt.mono _ _ _ _ _ _ _ _ _)
   | (with_reducible exact laws_eqIntS.mono _ _ _)
   | (with_reducible exact laws_heldCourt.mono _ _ _ _ _ _)
   | (with_reducible exact laws_markCourt.mono _ _ _ _ _ _)
   | (with_reducible exact laws_markIntS.mono _ _ _)
   | (with_reducible exact laws_szCourt.mono _ _ _ _ _ _)
   | (with_reducible exact laws_toCourt.mono _ _ _ _ _)
   | (with_reducible exact laws_toIntS.mono _ _)
   | (with_reducible exact spec_AfterDeaths.mono _ _ _ _ _ _)
   | (with_reducible exact LeO.refl _)
   | (with_reducible exact LeO.none _)
   | (with_reducible refine LeO.ite ?_ ?_)
   | (with_reducible refine LeO.bind ?_ (fun _ => ?_))
   | exact ih0 _ _ _ _ _ _ _ _ _ _ _ _ _ _ _ _ _ _ _ _ _
   | exact ih1 _ _ _ _ _ _ _ _ _ _ _ _ _ _ _
   | exact ih2 _ _ _ _ _ _
   | exact impl_AfterDeaths.mono _ _ _ _ _ _
   | exact laws_eqCourt.mono _ _ _ _ _ _ _ _ _
   | exact laws_eqIntS.mono _ _ _
   | exact laws_heldCourt.mono _ _ _ _ _ _
   | exact laws_markCourt.mono _ _ _ _ _ _
   | exact laws_markIntS.mono _ _ _
   | exact laws_szCourt.mono _ _ _ _ _ _
   | exact laws_toCourt.mono _ _ _ _ _
   | exact laws_toIntS.mono _ _
   | exact spec_AfterDeaths.mono _ _ _ _ _ _
   | exact LeO.none _
   | refine LeO.ite ?_ ?_
   | refine LeO.bind ?_ (fun _ => ?_)
theorem laws_FnExactAfterDeaths.mono : ∀ a0 a1 a2 a3 a4 k, LeO (laws_FnExactAfterDeaths.f k a0 a1 a2 a3 a4) (laws_FnExactAfterDeaths.f (k + 1) a0 a1 a2 a3 a4) := by
 intro a0 a1 a2 a3 a4 k
 obtain ⟨ih0, ih1, ih2⟩ := laws_FnExactAfterDeaths.mono_l k
 unfold laws_FnExactAfterDeaths.f
 repeat' first
   | (with_reducible exact ih0 _ _ _ _ _ _ _ _ _ _ _ _ _ _ _ _ _ _ _ _ _)
   | (with_reducible exact ih1 _ _ _ _ _ _ _ _ _ _ _ _ _ _ _)
   | (with_reducible exact ih2 _ _ _ _ _ _)
   | (with_reducible exact impl_AfterDeaths.mono _ _ _ _ _ _)
   | (with_reducible exact laws_eqCourt.mono _ _ _ _ _ _ _ _ _)
   | (with_reducible exact laws_eqIntS.mono _ _ _)
   | (with_reducible exact laws_heldCourt.mono _ _ _ _ _ _)
   | (with_reducible exact laws_markCourt.mono _ _ _ _ _ _)
   | (with_reducible exact laws_markIntS.mono _ _ _)
   | (with_reducible exact laws_szCourt.mono _ _ _ _ _ _)
   | (with_reducible exact laws_toCourt.mono _ _ _ _ _)
   | (with_reducible exact laws_toIntS.mono _ _)
   | (with_reducible exact spec_AfterDeaths.mono _ _ _ _ _ _)
   | (with_reducible exact LeO.refl _)
   | (with_reducible exact LeO.none _)
   | (with_reducible refine LeO.ite ?_ ?_)
   | (with_reducible refine LeO.bind ?_ (fun _ => ?_))
   | exact ih0 _ _ _ _ _ _ _ _ _ _ _ _ _ _ _ _ _ _ _ _ _
   | exact ih1 _ _ _ _ _ _ _ _ _ _ _ _ _ _ _
   | exact ih2 _ _ _ _ _ _
   | exact impl_AfterDeaths.mono _ _ _ _ _ _
   | exact laws_eqCourt.mono _ _ _ _ _ _ _ _ _
   | exact laws_eqIntS.mono _ _ _
   | exact laws_heldCourt.mono _ _ _ _ _ _
   | exact laws_markCourt.mono _ _ _ _ _ _
   | exact laws_markIntS.mono _ _ _
   | exact laws_szCourt.mono _ _ _ _ _ _
   | exact laws_toCourt.mono _ _ _ _ _
   | exact laws_toIntS.mono _ _
   | exact spec_AfterDeaths.mono _ _ _ _ _ _
   | exact LeO.none _
   | refine LeO.ite ?_ ?_
   | refine LeO.bind ?_ (fun _ => ?_)
set_option maxHeartbeats 8000000 in
set_option maxRecDepth 100000 in
theorem laws_FnExactAfterDeaths.calls (k : Nat) (a0_0 : Int) (A0_1 : Option Addr) (c0_1 : Nat) (l0_1 : List (List Int)) (A0_2 : Option Addr) (c0_2 : Nat) (l0_2 : List Int) (a0_3 : Int) (A1 : Option Addr) (c1 : Nat) (l1 : List Int) (r : Bool) (w : World) (hr0_1 : Kd.C (Kd.slice 3 (Kd.int .i64)) w A0_1 l0_1.length l0_1) (hc0_1 : l0_1.length ≤ c0_1) (hr0_2 : Kd.C (Kd.int .i64) w A0_2 l0_2.length l0_2) (hc0_2 : l0_2.length ≤ c0_2) (hr1 : Kd.C (Kd.int .i64) w A1 l1.length l1) (hc1 : l1.length ≤ c1) (h : laws_FnExactAfterDeaths.f k a0_0 l0_1 l0_2 a0_3 l1 = some r) :
  Calls Try.prog 14 #[.agg #[.int .i64 a0_0, .slice A0_1 l0_1.length c0_1, .slice A0_2 l0_2.length c0_2, .int .i64 a0_3], .slice A1 l1.length c1] w fun e w' => e = .returned (.bool r) ∧ Below w.heap.size w w' := by
 have hu25 := Try.underlying25
 have hu28 := Try.underlying28
 have HR0_1 := Aside0.mk hr0_1
 have HC0_1 := Aside0.mk hc0_1
 clear hr0_1 hc0_1
 have HR0_2 := Aside0.mk hr0_2
 have HC0_2 := Aside0.mk hc0_2
 clear hr0_2 hc0_2
 have HR1 := Aside0.mk hr1
 have HC1 := Aside0.mk hc1
 clear hr1 hc1
 have HB := Aside0.mk (Below.refl w.heap.size w)
 have H : (if (l1.length : Int) > 1048576 then (some true) else ((laws_szCourt.f k a0_0 l0_1 l0_2 a0_3 1048576).bind fun t342 => (if t342 < 0 then (some true) else ((laws_toCourt.f k a0_0 l0_1 l0_2 a0_3).bind fun bt343 => ((laws_toIntS.f k l1).bind fun t351 => ((spec_AfterDeaths.f k bt343.1 bt343.2.1 bt343.2.2.1 bt343.2.2.2 t351).bind fun bt354 => ((laws_toCourt.f k a0_0 l0_1 l0_2 a0_3).bind fun bt364 => ((laws_toIntS.f k l1).bind fun t373 => ((impl_AfterDeaths.f k bt364.1 bt364.2.1 bt364.2.2.1 bt364.2.2.2 t373).bind fun bt376 => ((laws_eqCourt.f k bt376.1 bt376.2.1 bt376.2.2.1 bt376.2.2.2.1 bt354.1 bt354.2.1 bt354.2.2.1 bt354.2.2.2.1).bind fun t386 => (if t386 = true then (laws_FnExactAfterDeaths.j0 k l1 bt354.2.2.2.2 t373 bt376.2.2.2.2 (bt376.2.2.2.2 != bt354.2.2.2.2) a0_0 l0_1 l0_2 a0_3 bt354.1 bt354.2.1 bt354.2.2.1 bt354.2.2.2.1 bt364.1 bt364.2.1 bt364.2.2.1 bt364.2.2.2 bt376.1 bt376.2.1 bt376.2.2.1 bt376.2.2.2.1) else (laws_FnExactAfterDeaths.j0 k l1 bt354.2.2.2.2 t373 bt376.2.2.2.2 true a0_0 l0_1 l0_2 a0_3 bt354.1 bt354.2.1 bt354.2.2.1 bt354.2.2.2.1 bt364.1 bt364.2.1 bt364.2.2.1 bt364.2.2.2 bt376.1 bt376.2.1 bt376.2.2.1 bt376.2.2.2.1)))))))))))) = some r := h
 clear h
 by_cases c3 : (l1.length : Int) > 1048576
 ·rw [if_pos c3] at H
  have c3b0 : decide (1048576 < (l1.length : Int)) = true := decide_eq_true c3
  have c3b1 : decide (1048576 < l1.length) = true := decide_eq_true (by omega)
  clear c3
  obtain rfl := Option.some.inj H
  go_enter Try.func14, Try.ntmps14
  go_wp2_with (first | ((with_reducible refine gate_dst (N := 2) rfl ?_); refine box_event ?hg (N := 2) ?hd (cs := #[.int .i64 a0_0, .slice A0_1 l0_1.length c0_1, .slice A0_2 l0_2.length c0_2, .int .i64 a0_3]) (t := 25) ?hr ?_; (case hd => rfl); (case hg => rfl); (case hr => first | (go_simp; done) | (go_simp; rfl)); intro gb341 hg w4 hbox hb; have n0_ := Aside0.mk (below_step bh hb); have n1_ := Aside0.mk (hbox); have n2_ := Aside0.mk ((gs (W0 := w) hg bh)); have n3_ := Aside0.mk ((gs (W0 := w) hg bh)); clear HB; have HB := n0_; have BK341 := n1_; have GW341 := n2_; have GE341 := n3_; clear n0_ n1_ n2_ n3_ hb hbox hg))
  go_ret
  exact ⟨by first | rfl | (simp [errW_none, errW_some] <;> rfl) | (simp [*, errW_none, errW_some] <;> rfl), by exact bh⟩
 ·rw [if_neg c3] at H
  have c3b0 : decide (1048576 < (l1.length : Int)) = false := decide_eq_false c3
  have c3b1 : decide (1048576 < l1.length) = false := decide_eq_false (by omega)
  clear c3
  replace H := Option.bind_eq_some_iff.mp H
  obtain ⟨t342, A50, H⟩ := H
  replace H : (if t342 < 0 then (some true) else ((laws_toCourt.f k a0_0 l0_1 l0_2 a0_3).bind fun bt343 => ((laws_toIntS.f k l1).bind fun t351 => ((spec_AfterDeaths.f k bt343.1 bt343.2.1 bt343.2.2.1 bt343.2.2.2 t351).bind fun bt354 => ((laws_toCourt.f k a0_0 l0_1 l0_2 a0_3).bind fun bt364 => ((laws_toIntS.f k l1).bind fun t373 => ((impl_AfterDeaths.f k bt364.1 bt364.2.1 bt364.2.2.1 bt364.2.2.2 t373).bind fun bt376 => ((laws_eqCourt.f k bt376.1 bt376.2.1 bt376.2.2.1 bt376.2.2.2.1 bt354.1 bt354.2.1 bt354.2.2.1 bt354.2.2.2.1).bind fun t386 => (if t386 = true then (laws_FnExactAfterDeaths.j0 k l1 bt354.2.2.2.2 t373 bt376.2.2.2.2 (bt376.2.2.2.2 != bt354.2.2.2.2) a0_0 l0_1 l0_2 a0_3 bt354.1 bt354.2.1 bt354.2.2.1 bt354.2.2.2.1 bt364.1 bt364.2.1 bt364.2.2.1 bt364.2.2.2 bt376.1 bt376.2.1 bt376.2.2.1 bt376.2.2.2.1) else (laws_FnExactAfterDeaths.j0 k l1 bt354.2.2.2.2 t373 bt376.2.2.2.2 true a0_0 l0_1 l0_2 a0_3 bt354.1 bt354.2.1 bt354.2.2.1 bt354.2.2.2.1 bt364.1 bt364.2.1 bt364.2.2.1 bt364.2.2.2 bt376.1 bt376.2.1 bt376.2.2.1 bt376.2.2.2.1)))))))))) = some r := H
  have A5 := Aside0.mk A50
  clear A50
  by_cases c6 : t342 < 0
  ·rw [if_pos c6] at H
   have c6b0 : decide (t342 < 0) = true := decide_eq_true c6
   clear c6
   obtain rfl := Option.some.inj H
   go_enter Try.func14, Try.ntmps14
   go_wp2_with (first | ((with_reducible refine gate_dst (N := 2) rfl ?_); refine box_event ?hg (N := 2) ?hd (cs := #[.int .i64 a0_0, .slice A0_1 l0_1.length c0_1, .slice A0_2 l0_2.length c0_2, .int .i64 a0_3]) (t := 25) ?hr ?_; (case hd => rfl); (case hg => rfl); (case hr => first | (go_simp; done) | (go_simp; rfl)); intro gb341 hg w7 hbox hb; have n0_ := Aside0.mk (below_step bh hb); have n1_ := Aside0.mk (hbox); have n2_ := Aside0.mk ((gs (W0 := w) hg bh)); have n3_ := Aside0.mk ((gs (W0 := w) hg bh)); clear HB; have HB := n0_; have BK341 := n1_; have GW341 := n2_; have GE341 := n3_; clear n0_ n1_ n2_ n3_ hb hbox hg; have hcz8_0 := cz0 BK341; have hcz8_1 := cz1 BK341; have hcz8_2 := cz2 BK341; have hcz8_3 := cz3 BK341; have hfz8_0 := blk_frozen BK341.out 0; have hfz8_1 := blk_frozen BK341.out 1; have hfz8_2 := blk_frozen BK341.out 2; have hfz8_3 := blk_frozen BK341.out 3) | ((with_reducible refine gate_callee (f := 16) rfl ?_); refine goesL_ (some 22) rfl rfl Try.func16 kr rfl #[.agg #[.int .i64 a0_0, .slice A0_1 l0_1.length c0_1, .slice A0_2 l0_2.length c0_2, .int .i64 a0_3], .int .i64 1048576] rfl lm ?_; (with_reducible refine (laws_szCourt.calls k a0_0 _ _ l0_1 _ _ l0_2 a0_3 1048576 t342 _ ?side1 ?side2 ?side3 ?side4 A5.out).mono ?_); (case side1 => repeat (first | exact (Kd.C_below HR0_1.out HB.out) | (with_reducible refine Kd.C_alloc ?_ _) | (with_reducible refine Kd.C_drewN ?_ _) | (with_reducible refine Kd.C_drew ?_))); (case side2 => exact HC0_1.out); (case side3 => repeat (first | exact (Kd.C_below HR0_2.out HB.out) | (with_reducible refine Kd.C_alloc ?_ _) | (with_reducible refine Kd.C_drewN ?_ _) | (with_reducible refine Kd.C_drew ?_))); (case side4 => exact HC0_2.out); rintro e w9 ⟨rfl, hb⟩; refine ⟨_, rfl, ?_⟩; have n0_ := Aside0.mk (blk_below (bz BK341) hb); have n1_ := Aside0.mk (below_step bh hb); clear BK341 HB; have BK341 := n0_; have HB := n1_; clear n0_ n1_; (try clear hb); (try clear hb2); (try clear hk); (try clear hi)))
   go_ret
   exact ⟨by first | rfl | (simp [errW_none, errW_some] <;> rfl) | (simp [*, errW_none, errW_some] <;> rfl), by exact bh⟩
  ·rw [if_neg c6] at H
   have c6b0 : decide (t342 < 0) = false := decide_eq_false c6
   clear c6
   replace H := Option.bind_eq_some_iff.mp H
   obtain ⟨⟨t343, t344, t347, t350⟩, A100, H⟩ := H
   replace H : ((laws_toIntS.f k l1).bind fun t351 => ((spec_AfterDeaths.f k t343 t344 t347 t350 t351).bind fun bt354 => ((laws_toCourt.f k a0_0 l0_1 l0_2 a0_3).bind fun bt364 => ((laws_toIntS.f k l1).bind fun t373 => ((impl_AfterDeaths.f k bt364.1 bt364.2.1 bt364.2.2.1 bt364.2.2.2 t373).bind fun bt376 => ((laws_eqCourt.f k bt376.1 bt376.2.1 bt376.2.2.1 bt376.2.2.2.1 bt354.1 bt354.2.1 bt354.2.2.1 bt354.2.2.2.1).bind fun t386 => (if t386 = true then (laws_FnExactAfterDeaths.j0 k l1 bt354.2.2.2.2 t373 bt376.2.2.2.2 (bt376.2.2.2.2 != bt354.2.2.2.2) a0_0 l0_1 l0_2 a0_3 bt354.1 bt354.2.1 bt354.2.2.1 bt354.2.2.2.1 bt364.1 bt364.2.1 bt364.2.2.1 bt364.2.2.2 bt376.1 bt376.2.1 bt376.2.2.1 bt376.2.2.2.1) else (laws_FnExactAfterDeaths.j0 k l1 bt354.2.2.2.2 t373 bt376.2.2.2.2 true a0_0 l0_1 l0_2 a0_3 bt354.1 bt354.2.1 bt354.2.2.1 bt354.2.2.2.1 bt364.1 bt364.2.1 bt364.2.2.1 bt364.2.2.2 bt376.1 bt376.2.1 bt376.2.2.1 bt376.2.2.2.1)))))))) = some r := H
   have A10 := Aside0.mk A100
   clear A100
   replace H := Option.bind_eq_some_iff.mp H
   obtain ⟨t351, A110, H⟩ := H
   replace H : ((spec_AfterDeaths.f k t343 t344 t347 t350 t351).bind fun bt354 => ((laws_toCourt.f k a0_0 l0_1 l0_2 a0_3).bind fun bt364 => ((laws_toIntS.f k l1).bind fun t373 => ((impl_AfterDeaths.f k bt364.1 bt364.2.1 bt364.2.2.1 bt364.2.2.2 t373).bind fun bt376 => ((laws_eqCourt.f k bt376.1 bt376.2.1 bt376.2.2.1 bt376.2.2.2.1 bt354.1 bt354.2.1 bt354.2.2.1 bt354.2.2.2.1).bind fun t386 => (if t386 = true then (laws_FnExactAfterDeaths.j0 k l1 bt354.2.2.2.2 t373 bt376.2.2.2.2 (bt376.2.2.2.2 != bt354.2.2.2.2) a0_0 l0_1 l0_2 a0_3 bt354.1 bt354.2.1 bt354.2.2.1 bt354.2.2.2.1 bt364.1 bt364.2.1 bt364.2.2.1 bt364.2.2.2 bt376.1 bt376.2.1 bt376.2.2.1 bt376.2.2.2.1) else (laws_FnExactAfterDeaths.j0 k l1 bt354.2.2.2.2 t373 bt376.2.2.2.2 true a0_0 l0_1 l0_2 a0_3 bt354.1 bt354.2.1 bt354.2.2.1 bt354.2.2.2.1 bt364.1 bt364.2.1 bt364.2.2.1 bt364.2.2.2 bt376.1 bt376.2.1 bt376.2.2.1 bt376.2.2.2.1))))))) = some r := H
   have A11 := Aside0.mk A110
   clear A110
   replace H := Option.bind_eq_some_iff.mp H
   obtain ⟨⟨t354, t355, t358, t361, t362⟩, A120, H⟩ := H
   replace H : ((laws_toCourt.f k a0_0 l0_1 l0_2 a0_3).bind fun bt364 => ((laws_toIntS.f k l1).bind fun t373 => ((impl_AfterDeaths.f k bt364.1 bt364.2.1 bt364.2.2.1 bt364.2.2.2 t373).bind fun bt376 => ((laws_eqCourt.f k bt376.1 bt376.2.1 bt376.2.2.1 bt376.2.2.2.1 t354 t355 t358 t361).bind fun t386 => (if t386 = true then (laws_FnExactAfterDeaths.j0 k l1 t362 t373 bt376.2.2.2.2 (bt376.2.2.2.2 != t362) a0_0 l0_1 l0_2 a0_3 t354 t355 t358 t361 bt364.1 bt364.2.1 bt364.2.2.1 bt364.2.2.2 bt376.1 bt376.2.1 bt376.2.2.1 bt376.2.2.2.1) else (laws_FnExactAfterDeaths.j0 k l1 t362 t373 bt376.2.2.2.2 true a0_0 l0_1 l0_2 a0_3 t354 t355 t358 t361 bt364.1 bt364.2.1 bt364.2.2.1 bt364.2.2.2 bt376.1 bt376.2.1 bt376.2.2.1 bt376.2.2.2.1)))))) = some r := H
   have A12 := Aside0.mk A120
   clear A120
   replace H := Option.bind_eq_some_iff.mp H
   obtain ⟨⟨t364, t365, t368, t371⟩, A130, H⟩ := H
   replace H : ((laws_toIntS.f k l1).bind fun t373 => ((impl_AfterDeaths.f k t364 t365 t368 t371 t373).bind fun bt376 => ((laws_eqCourt.f k bt376.1 bt376.2.1 bt376.2.2.1 bt376.2.2.2.1 t354 t355 t358 t361).bind fun t386 => (if t386 = true then (laws_FnExactAfterDeaths.j0 k l1 t362 t373 bt376.2.2.2.2 (bt376.2.2.2.2 != t362) a0_0 l0_1 l0_2 a0_3 t354 t355 t358 t361 t364 t365 t368 t371 bt376.1 bt376.2.1 bt376.2.2.1 bt376.2.2.2.1) else (laws_FnExactAfterDeaths.j0 k l1 t362 t373 bt376.2.2.2.2 true a0_0 l0_1 l0_2 a0_3 t354 t355 t358 t361 t364 t365 t368 t371 bt376.1 bt376.2.1 bt376.2.2.1 bt376.2.2.2.1))))) = some r := H
   have A13 := Aside0.mk A130
   clear A130
   replace H := Option.bind_eq_some_iff.mp H
   obtain ⟨t373, A140, H⟩ := H
   replace H : ((impl_AfterDeaths.f k t364 t365 t368 t371 t373).bind fun bt376 => ((laws_eqCourt.f k bt376.1 bt376.2.1 bt376.2.2.1 bt376.2.2.2.1 t354 t355 t358 t361).bind fun t386 => (if t386 = true then (laws_FnExactAfterDeaths.j0 k l1 t362 t373 bt376.2.2.2.2 (bt376.2.2.2.2 != t362) a0_0 l0_1 l0_2 a0_3 t354 t355 t358 t361 t364 t365 t368 t371 bt376.1 bt376.2.1 bt376.2.2.1 bt376.2.2.2.1) else (laws_FnExactAfterDeaths.j0 k l1 t362 t373 bt376.2.2.2.2 true a0_0 l0_1 l0_2 a0_3 t354 t355 t358 t361 t364 t365 t368 t371 bt376.1 bt376.2.1 bt376.2.2.1 bt376.2.2.2.1)))) = some r := H
   have A14 := Aside0.mk A140
   clear A140
   replace H := Option.bind_eq_some_iff.mp H
   obtain ⟨⟨t376, t377, t380, t383, t384⟩, A150, H⟩ := H
   replace H : ((laws_eqCourt.f k t376 t377 t380 t383 t354 t355 t358 t361).bind fun t386 => (if t386 = true then (laws_FnExactAfterDeaths.j0 k l1 t362 t373 t384 (t384 != t362) a0_0 l0_1 l0_2 a0_3 t354 t355 t358 t361 t364 t365 t368 t371 t376 t377 t380 t383) else (laws_FnExactAfterDeaths.j0 k l1 t362 t373 t384 true a0_0 l0_1 l0_2 a0_3 t354 t355 t358 t361 t364 t365 t368 t371 t376 t377 t380 t383))) = some r := H
   have A15 := Aside0.mk A150
   clear A150
   have HC16 := Aside0.mk H
   clear H
   go_enter Try.func14, Try.ntmps14
   go_upto_region 11 with (first | ((with_reducible refine gate_dst (N := 2) rfl ?_); refine box_event ?hg (N := 2) ?hd (cs := #[.int .i64 a0_0, .slice A0_1 l0_1.length c0_1, .slice A0_2 l0_2.length c0_2, .int .i64 a0_3]) (t := 25) ?hr ?_; (case hd => rfl); (case hg => rfl); (case hr => first | (go_simp; done) | (go_simp; rfl)); intro gb341 hg w17 hbox hb; have n0_ := Aside0.mk (below_step bh hb); have n1_ := Aside0.mk (hbox); have n2_ := Aside0.mk ((gs (W0 := w) hg bh)); have n3_ := Aside0.mk ((gs (W0 := w) hg bh)); clear HB; have HB := n0_; have BK341 := n1_; have GW341 := n2_; have GE341 := n3_; clear n0_ n1_ n2_ n3_ hb hbox hg; have hcz18_0 := cz0 BK341; have hcz18_1 := cz1 BK341; have hcz18_2 := cz2 BK341; have hcz18_3 := cz3 BK341; have hfz18_0 := blk_frozen BK341.out 0; have hfz18_1 := blk_frozen BK341.out 1; have hfz18_2 := blk_frozen BK341.out 2; have hfz18_3 := blk_frozen BK341.out 3) | ((with_reducible refine gate_callee (f := 16) rfl ?_); refine goesL_ (some 22) rfl rfl Try.func16 kr rfl #[.agg #[.int .i64 a0_0, .slice A0_1 l0_1.length c0_1, .slice A0_2 l0_2.length c0_2, .int .i64 a0_3], .int .i64 1048576] rfl lm ?_; (with_reducible refine (laws_szCourt.calls k a0_0 _ _ l0_1 _ _ l0_2 a0_3 1048576 t342 _ ?side1 ?side2 ?side3 ?side4 A5.out).mono ?_); (case side1 => repeat (first | exact (Kd.C_below HR0_1.out HB.out) | (with_reducible refine Kd.C_alloc ?_ _) | (with_reducible refine Kd.C_drewN ?_ _) | (with_reducible refine Kd.C_drew ?_))); (case side2 => exact HC0_1.out); (case side3 => repeat (first | exact (Kd.C_below HR0_2.out HB.out) | (with_reducible refine Kd.C_alloc ?_ _) | (with_reducible refine Kd.C_drewN ?_ _) | (with_reducible refine Kd.C_drew ?_))); (case side4 => exact HC0_2.out); rintro e w19 ⟨rfl, hb⟩; refine ⟨_, rfl, ?_⟩; have n0_ := Aside0.mk (blk_below (bz BK341) hb); have n1_ := Aside0.mk (below_step bh hb); clear BK341 HB; have BK341 := n0_; have HB := n1_; clear n0_ n1_; (try clear hb); (try clear hb2); (try clear hk); (try clear hi); have hcz20_0 := cz0 BK341; have hcz20_1 := cz1 BK341; have hcz20_2 := cz2 BK341; have hcz20_3 := cz3 BK341; have hfz20_0 := blk_frozen BK341.out 0; have hfz20_1 := blk_frozen BK341.out 1; have hfz20_2 := blk_frozen BK341.out 2; have hfz20_3 := blk_frozen BK341.out 3) | ((with_reducible refine gate_callee (f := 18) rfl ?_); refine goesL_ (some 27) rfl rfl Try.func18 kr rfl #[.agg #[.int .i64 a0_0, .slice A0_1 l0_1.length c0_1, .slice A0_2 l0_2.length c0_2, .int .i64 a0_3]] rfl lm ?_; (with_reducible refine (laws_toCourt.calls k a0_0 _ _ l0_1 _ _ l0_2 a0_3 t343 t344 t347 t350 _ ?side1 ?side2 ?side3 ?side4 A10.out).mono ?_); (case side1 => repeat (first | exact (Kd.C_below HR0_1.out HB.out) | (with_reducible refine Kd.C_alloc ?_ _) | (with_reducible refine Kd.C_drewN ?_ _) | (with_reducible refine Kd.C_drew ?_))); (case side2 => exact HC0_1.out); (case side3 => repeat (first | exact (Kd.C_below HR0_2.out HB.out) | (with_reducible refine Kd.C_alloc ?_ _) | (with_reducible refine Kd.C_drewN ?_ _) | (with_reducible refine Kd.C_drew ?_))); (case side4 => exact HC0_2.out); rintro e w21 ⟨v345, v348, rfl, ho0, ho1, hb⟩; refine ⟨_, rfl, ?_⟩; obtain ⟨Nm22, hNm22⟩ := S_num ho0; have n0_ := Aside0.mk (Kd.S_lower (S_geN ho0 hNm22) (below_size bh)); have n1_ := Aside0.mk (Kd.R_lower ho1 (below_size bh)); have n2_ := Aside0.mk (blk_below (bz BK341) hb); have n3_ := Aside0.mk (below_step bh hb); clear BK341 HB; have HO346 := n0_; have HO349 := n1_; have BK341 := n2_; have HB := n3_; clear n0_ n1_ n2_ n3_; (try clear hb); (try clear hb2); (try clear hk); (try clear hi); (try clear ho0); (try clear ho1)) | ((with_reducible refine gate_callee (f := 48) rfl ?_); refine goesL_ (some 29) rfl rfl Try.func48 kr rfl #[.slice A1 l1.length c1] rfl lm ?_; (with_reducible refine (laws_toIntS.calls k _ _ l1 t351 _ ?side1 ?side2 A11.out).mono ?_); (case side1 => repeat (first | exact (Kd.C_below HR1.out HB.out) | (with_reducible refine Kd.C_alloc ?_ _) | (with_reducible refine Kd.C_drewN ?_ _) | (with_reducible refine Kd.C_drew ?_))); (case side2 => exact HC1.out); rintro e w23 ⟨v352, rfl, ho0, hb⟩; refine ⟨_, rfl, ?_⟩; have n0_ := Aside0.mk (Kd.S_elder' (sz HO346) (Kd.R_base ho0) hb); have n1_ := Aside0.mk (Kd.R_elder' (rz HO349) (Kd.R_base ho0) hb); have n2_ := Aside0.mk (Kd.R_lower (Kd.R_new' ho0 (Kd.R_lt (rz HO349))) (below_size bh)); have n3_ := Aside0.mk (blk_below (bz BK341) hb); have n4_ := Aside0.mk (below_step bh hb); clear HO346 HO349 BK341 HB; have HO346 := n0_; have HO349 := n1_; have HO353 := n2_; have BK341 := n3_; have HB := n4_; clear n0_ n1_ n2_ n3_ n4_; (try clear hb); (try clear hb2); (try clear hk); (try clear hi); (try clear ho0); obtain ⟨Ao24, co24, eo24⟩ := Kd.S_slice HO346.out; subst eo24; obtain ⟨Ao25, co25, eo25⟩ := Kd.R_slice HO349.out; subst eo25; obtain ⟨Ao26, co26, eo26⟩ := Kd.R_slice HO353.out; subst eo26) | ((with_reducible refine gate_callee (f := 47) rfl ?_); refine goesL_ (some 30) rfl rfl Try.func47 kr rfl #[.agg #[.int .i64 t343, .slice Ao24 t344.length co24, .slice Ao25 t347.length co25, .int .i64 t350], .slice Ao26 t351.length co26] rfl lm ?_; (with_reducible refine (spec_AfterDeaths.calls k t343 _ _ t344 _ _ t347 t350 _ _ t351 t354 t355 t358 t361 t362 _ ?side1 ?side2 ?side3 ?side4 ?side5 ?side6 A12.out).mono ?_); (case side1 => repeat (first | exact (Kd.S_reads' HO346.out).2.2 | (with_reducible refine Kd.C_alloc ?_ _) | (with_reducible refine Kd.C_drewN ?_ _) | (with_reducible refine Kd.C_drew ?_))); (case side2 => exact (Kd.S_reads' HO346.out).2.1); (case side3 => repeat (first | exact (Kd.R_reads' HO349.out).2.2 | (with_reducible refine Kd.C_alloc ?_ _) | (with_reducible refine Kd.C_drewN ?_ _) | (with_reducible refine Kd.C_drew ?_))); (case side4 => exact (Kd.R_reads' HO349.out).2.1); (case side5 => repeat (first | exact (Kd.R_reads' HO353.out).2.2 | (with_reducible refine Kd.C_alloc ?_ _) | (with_reducible refine Kd.C_drewN ?_ _) | (with_reducible refine Kd.C_drew ?_))); (case side6 => exact (Kd.R_reads' HO353.out).2.1); rintro e w27 ⟨v356, v359, rfl, ho0, ho1, hb⟩; refine ⟨_, rfl, ?_⟩; obtain ⟨Nm28, hNm28⟩ := S_num ho0; have n0_ := Aside0.mk (S_ltN (Kd.S_told (Kd.S_told (Kd.S_old (sz HO346) hb) (Kd.S_base ho0)) (Kd.R_base ho1)) hNm28); have n1_ := Aside0.mk (Kd.R_elder' (rz HO349) (Kd.R_base ho1) hb); have n2_ := Aside0.mk (Kd.R_elder' (rz HO353) (Kd.R_base ho1) hb); have n3_ := Aside0.mk (Kd.S_lower (Kd.S_new' (Kd.S_new' (Kd.S_new' (S_geN ho0 hNm28) (Kd.S_lt (sz HO346))) (Kd.R_lt (rz HO349))) (Kd.R_lt (rz HO353))) (below_size bh)); have n4_ := Aside0.mk (Kd.R_lower (Kd.R_new' (Kd.R_new' ho1 (Kd.R_lt (rz HO349))) (Kd.R_lt (rz HO353))) (below_size bh)); have n5_ := Aside0.mk (blk_below (bz BK341) hb); have n6_ := Aside0.mk (below_step bh hb); clear HO346 HO349 HO353 BK341 HB; have HO346 := n0_; have HO349 := n1_; have HO353 := n2_; have HO357 := n3_; have HO360 := n4_; have BK341 := n5_; have HB := n6_; clear n0_ n1_ n2_ n3_ n4_ n5_ n6_; (try clear hb); (try clear hb2); (try clear hk); (try clear hi); (try clear ho0); (try clear ho1)) | ((with_reducible refine gate_dst (N := 6) rfl ?_); refine box_event ?hg (N := 6) ?hd (cs := #[.int .i64 0, .slice none 0 0, .slice none 0 0, .int .i64 0]) (t := 28) ?hr ?_; (case hd => rfl); (case hg => rfl); (case hr => first | (go_simp; done) | (go_simp; rfl)); intro gb363 hg w29 hbox hb; have n0_ := Aside0.mk (Kd.S_below (sz HO346) hb); have n1_ := Aside0.mk (Kd.R_below (rz HO349) hb); have n2_ := Aside0.mk (Kd.R_below (rz HO353) hb); have n3_ := Aside0.mk (Kd.S_below (sz HO357) hb); have n4_ := Aside0.mk (Kd.R_below (rz HO360) hb); have n5_ := Aside0.mk (blk_below (bz BK341) hb); have n6_ := Aside0.mk (below_step bh hb); have n7_ := Aside0.mk (hbox); have n8_ := Aside0.mk ((gs (W0 := w) hg bh)); have n9_ := Aside0.mk ((gs (W0 := w) hg bh)); have n10_ := Aside0.mk ((gn hg (bz BK341))); have n11_ := Aside0.mk ((gm hg (bz BK341))); clear HO346 HO349 HO353 HO357 HO360 BK341 HB; have HO346 := n0_; have HO349 := n1_; have HO353 := n2_; have HO357 := n3_; have HO360 := n4_; have BK341 := n5_; have HB := n6_; have BK363 := n7_; have GW363 := n8_; have GE363 := n9_; have NB341_363 := n10_; have NB363_341 := n11_; clear n0_ n1_ n2_ n3_ n4_ n5_ n6_ n7_ n8_ n9_ n10_ n11_ hb hbox hg; have hnb30 := NB363_341.out; have hnc30 := NB341_363.out; have hcz31_0 := cz0 BK363; have hcz31_1 := cz1 BK363; have hcz31_2 := cz2 BK363; have hcz31_3 := cz3 BK363; have hfz31_0 := blk_frozen BK363.out 0; have hfz31_1 := blk_frozen BK363.out 1; have hfz31_2 := blk_frozen BK363.out 2; have hfz31_3 := blk_frozen BK363.out 3; obtain ⟨Ao32, co32, eo32⟩ := Kd.S_slice HO357.out; subst eo32; obtain ⟨Ao33, co33, eo33⟩ := Kd.R_slice HO360.out; subst eo33; have hcz34_0 := cz0 BK341; have hcz34_1 := cz1 BK341; have hcz34_2 := cz2 BK341; have hcz34_3 := cz3 BK341; have hfz34_0 := blk_frozen BK341.out 0; have hfz34_1 := blk_frozen BK341.out 1; have hfz34_2 := blk_frozen BK341.out 2; have hfz34_3 := blk_frozen BK341.out 3) | ((with_reducible refine gate_callee (f := 18) rfl ?_); refine goesL_ (some 34) rfl rfl Try.func18 kr rfl #[.agg #[.int .i64 a0_0, .slice A0_1 l0_1.length c0_1, .slice A0_2 l0_2.length c0_2, .int .i64 a0_3]] rfl lm ?_; (with_reducible refine (laws_toCourt.calls k a0_0 _ _ l0_1 _ _ l0_2 a0_3 t364 t365 t368 t371 _ ?side1 ?side2 ?side3 ?side4 A13.out).mono ?_); (case side1 => exact Kd.C_below HR0_1.out bh); (case side2 => exact HC0_1.out); (case side3 => exact Kd.C_below HR0_2.out bh); (case side4 => exact HC0_2.out); rintro e w35 ⟨v366, v369, rfl, ho0, ho1, hb⟩; refine ⟨_, rfl, ?_⟩; obtain ⟨Nm36, hNm36⟩ := S_num ho0; have n0_ := Aside0.mk (S_ltN (Kd.S_told (Kd.S_told (Kd.S_old (fS HO346 BK363) hb) (Kd.S_base ho0)) (Kd.R_base ho1)) hNm36); have n1_ := Aside0.mk (Kd.R_elder' (fR HO349 BK363) (Kd.R_base ho1) hb); have n2_ := Aside0.mk (Kd.R_elder' (fR HO353 BK363) (Kd.R_base ho1) hb); have n3_ := Aside0.mk (S_ltN (Kd.S_told (Kd.S_told (Kd.S_old (fS HO357 BK363) hb) (Kd.S_base ho0)) (Kd.R_base ho1)) hNm36); have n4_ := Aside0.mk (Kd.R_elder' (fR HO360 BK363) (Kd.R_base ho1) hb); have n5_ := Aside0.mk (Kd.S_lower (Kd.S_new' (Kd.S_new' (Kd.S_new' (Kd.S_new' (Kd.S_new' (S_geN ho0 hNm36) (Kd.S_lt (fS HO346 BK363))) (Kd.R_lt (fR HO349 BK363))) (Kd.R_lt (fR HO353 BK363))) (Kd.S_lt (fS HO357 BK363))) (Kd.R_lt (fR HO360 BK363))) (below_size bh)); have n6_ := Aside0.mk (Kd.R_lower (Kd.R_new' (Kd.R_new' (Kd.R_new' ho1 (Kd.R_lt (fR HO349 BK363))) (Kd.R_lt (fR HO353 BK363))) (Kd.R_lt (fR HO360 BK363))) (below_size bh)); have n7_ := Aside0.mk (blk_below (g := gb341) (o := .cells #[.int .i64 a0_0, .slice A0_1 l0_1.length c0_1, .slice A0_2 l0_2.length c0_2, .int .i64 a0_3] 25 (0, 0)) (bf NB341_363 BK341) hb); have n8_ := Aside0.mk (blk_below (g := gb363) (o := .cells #[.int .i64 t354, .slice Ao32 t355.length co32, .slice Ao33 t358.length co33, .int .i64 t361] 28 (0, 0)) (bp BK363) hb); have n9_ := Aside0.mk (below_step bh hb); clear HO346 HO349 HO353 HO357 HO360 BK341 BK363 HB; have HO346 := n0_; have HO349 := n1_; have HO353 := n2_; have HO357 := n3_; have HO360 := n4_; have HO367 := n5_; have HO370 := n6_; have BK341 := n7_; have BK363 := n8_; have HB := n9_; clear n0_ n1_ n2_ n3_ n4_ n5_ n6_ n7_ n8_ n9_; (try clear hb); (try clear hb2); (try clear hk); (try clear hi); (try clear ho0); (try clear ho1)) | ((with_reducible refine gate_dst (N := 8) rfl ?_); refine box_event ?hg (N := 8) ?hd (cs := #[.int .i64 0, .slice none 0 0, .slice none 0 0, .int .i64 0]) (t := 28) ?hr ?_; (case hd => rfl); (case hg => rfl); (case hr => first | (go_simp; done) | (go_simp; rfl)); intro gb372 hg w37 hbox hb; have n0_ := Aside0.mk (Kd.S_below (sz HO346) hb); have n1_ := Aside0.mk (Kd.R_below (rz HO349) hb); have n2_ := Aside0.mk (Kd.R_below (rz HO353) hb); have n3_ := Aside0.mk (Kd.S_below (sz HO357) hb); have n4_ := Aside0.mk (Kd.R_below (rz HO360) hb); have n5_ := Aside0.mk (Kd.S_below (sz HO367) hb); have n6_ := Aside0.mk (Kd.R_below (rz HO370) hb); have n7_ := Aside0.mk (blk_below (bz BK341) hb); have n8_ := Aside0.mk (blk_below (bz BK363) hb); have n9_ := Aside0.mk (below_step bh hb); have n10_ := Aside0.mk (hbox); have n11_ := Aside0.mk ((gs (W0 := w) hg bh)); have n12_ := Aside0.mk ((gs (W0 := w) hg bh)); have n13_ := Aside0.mk ((gn hg (bz BK341))); have n14_ := Aside0.mk ((gm hg (bz BK341))); have n15_ := Aside0.mk ((gn hg (bz BK363))); have n16_ := Aside0.mk ((gm hg (bz BK363))); clear HO346 HO349 HO353 HO357 HO360 HO367 HO370 BK341 BK363 HB; have HO346 := n0_; have HO349 := n1_; have HO353 := n2_; have HO357 := n3_; have HO360 := n4_; have HO367 := n5_; have HO370 := n6_; have BK341 := n7_; have BK363 := n8_; have HB := n9_; have BK372 := n10_; have GW372 := n11_; have GE372 := n12_; have NB341_372 := n13_; have NB372_341 := n14_; have NB363_372 := n15_; have NB372_363 := n16_; clear n0_ n1_ n2_ n3_ n4_ n5_ n6_ n7_ n8_ n9_ n10_ n11_ n12_ n13_ n14_ n15_ n16_ hb hbox hg; have hnb38 := NB372_341.out; have hnc38 := NB341_372.out; have hnb39 := NB372_363.out; have hnc39 := NB363_372.out; have hcz40_0 := cz0 BK372; have hcz40_1 := cz1 BK372; have hcz40_2 := cz2 BK372; have hcz40_3 := cz3 BK372; have hfz40_0 := blk_frozen BK372.out 0; have hfz40_1 := blk_frozen BK372.out 1; have hfz40_2 := blk_frozen BK372.out 2; have hfz40_3 := blk_frozen BK372.out 3; obtain ⟨Ao41, co41, eo41⟩ := Kd.S_slice HO367.out; subst eo41; obtain ⟨Ao42, co42, eo42⟩ := Kd.R_slice HO370.out; subst eo42) | ((with_reducible refine gate_callee (f := 48) rfl ?_); refine goesL_ (some 36) rfl rfl Try.func48 kr rfl #[.slice A1 l1.length c1] rfl lm ?_; (with_reducible refine (laws_toIntS.calls k _ _ l1 t373 _ ?side1 ?side2 A14.out).mono ?_); (case side1 => exact Kd.C_below HR1.out bh); (case side2 => exact HC1.out); rintro e w43 ⟨v374, rfl, ho0, hb⟩; refine ⟨_, rfl, ?_⟩; have n0_ := Aside0.mk (Kd.S_elder' (fS HO346 BK372) (Kd.R_base ho0) hb); have n1_ := Aside0.mk (Kd.R_elder' (fR HO349 BK372) (Kd.R_base ho0) hb); have n2_ := Aside0.mk (Kd.R_elder' (fR HO353 BK372) (Kd.R_base ho0) hb); have n3_ := Aside0.mk (Kd.S_elder' (fS HO357 BK372) (Kd.R_base ho0) hb); have n4_ := Aside0.mk (Kd.R_elder' (fR HO360 BK372) (Kd.R_base ho0) hb); have n5_ := Aside0.mk (Kd.S_elder' (fS HO367 BK372) (Kd.R_base ho0) hb); have n6_ := Aside0.mk (Kd.R_elder' (fR HO370 BK372) (Kd.R_base ho0) hb); have n7_ := Aside0.mk (Kd.R_lower (Kd.R_new' (Kd.R_new' (Kd.R_new' (Kd.R_new' ho0 (Kd.R_lt (fR HO349 BK372))) (Kd.R_lt (fR HO353 BK372))) (Kd.R_lt (fR HO360 BK372))) (Kd.R_lt (fR HO370 BK372))) (below_size bh)); have n8_ := Aside0.mk (blk_below (g := gb341) (o := .cells #[.int .i64 a0_0, .slice A0_1 l0_1.length c0_1, .slice A0_2 l0_2.length c0_2, .int .i64 a0_3] 25 (0, 0)) (bf NB341_372 BK341) hb); have n9_ := Aside0.mk (blk_below (g := gb363) (o := .cells #[.int .i64 t354, .slice Ao32 t355.length co32, .slice Ao33 t358.length co33, .int .i64 t361] 28 (0, 0)) (bf NB363_372 BK363) hb); have n10_ := Aside0.mk (blk_below (g := gb372) (o := .cells #[.int .i64 t364, .slice Ao41 t365.length co41, .slice Ao42 t368.length co42, .int .i64 t371] 28 (0, 0)) (bp BK372) hb); have n11_ := Aside0.mk (below_step bh hb); clear HO346 HO349 HO353 HO357 HO360 HO367 HO370 BK341 BK363 BK372 HB; have HO346 := n0_; have HO349 := n1_; have HO353 := n2_; have HO357 := n3_; have HO360 := n4_; have HO367 := n5_; have HO370 := n6_; have HO375 := n7_; have BK341 := n8_; have BK363 := n9_; have BK372 := n10_; have HB := n11_; clear n0_ n1_ n2_ n3_ n4_ n5_ n6_ n7_ n8_ n9_ n10_ n11_; (try clear hb); (try clear hb2); (try clear hk); (try clear hi); (try clear ho0); have hcz44_0 := cz0 BK372; have hcz44_1 := cz1 BK372; have hcz44_2 := cz2 BK372; have hcz44_3 := cz3 BK372; have hfz44_0 := blk_frozen BK372.out 0; have hfz44_1 := blk_frozen BK372.out 1; have hfz44_2 := blk_frozen BK372.out 2; have hfz44_3 := blk_frozen BK372.out 3; obtain ⟨Ao45, co45, eo45⟩ := Kd.R_slice HO375.out; subst eo45) | ((with_reducible refine gate_callee (f := 32) rfl ?_); refine goesL_ (some 40) rfl rfl Try.func32 kr rfl #[.agg #[.int .i64 t364, .slice Ao41 t365.length co41, .slice Ao42 t368.length co42, .int .i64 t371], .slice Ao45 t373.length co45] rfl lm ?_; (with_reducible refine (impl_AfterDeaths.calls k t364 _ _ t365 _ _ t368 t371 _ _ t373 t376 t377 t380 t383 t384 _ ?side1 ?side2 ?side3 ?side4 ?side5 ?side6 A15.out).mono ?_); (case side1 => repeat (first | exact (Kd.S_reads' HO367.out).2.2 | (with_reducible refine Kd.C_alloc ?_ _) | (with_reducible refine Kd.C_drewN ?_ _) | (with_reducible refine Kd.C_drew ?_))); (case side2 => exact (Kd.S_reads' HO367.out).2.1); (case side3 => repeat (first | exact (Kd.R_reads' HO370.out).2.2 | (with_reducible refine Kd.C_alloc ?_ _) | (with_reducible refine Kd.C_drewN ?_ _) | (with_reducible refine Kd.C_drew ?_))); (case side4 => exact (Kd.R_reads' HO370.out).2.1); (case side5 => repeat (first | exact (Kd.R_reads' HO375.out).2.2 | (with_reducible refine Kd.C_alloc ?_ _) | (with_reducible refine Kd.C_drewN ?_ _) | (with_reducible refine Kd.C_drew ?_))); (case side6 => exact (Kd.R_reads' HO375.out).2.1); rintro e w46 ⟨v378, v381, rfl, ho0, ho1, hb⟩; refine ⟨_, rfl, ?_⟩; obtain ⟨Nm47, hNm47⟩ := S_num ho0; have n0_ := Aside0.mk (S_ltN (Kd.S_told (Kd.S_told (Kd.S_old (sz HO346) hb) (Kd.S_base ho0)) (Kd.R_base ho1)) hNm47); have n1_ := Aside0.mk (Kd.R_elder' (rz HO349) (Kd.R_base ho1) hb); have n2_ := Aside0.mk (Kd.R_elder' (rz HO353) (Kd.R_base ho1) hb); have n3_ := Aside0.mk (S_ltN (Kd.S_told (Kd.S_told (Kd.S_old (sz HO357) hb) (Kd.S_base ho0)) (Kd.R_base ho1)) hNm47); have n4_ := Aside0.mk (Kd.R_elder' (rz HO360) (Kd.R_base ho1) hb); have n5_ := Aside0.mk (S_ltN (Kd.S_told (Kd.S_told (Kd.S_old (sz HO367) hb) (Kd.S_base ho0)) (Kd.R_base ho1)) hNm47); have n6_ := Aside0.mk (Kd.R_elder' (rz HO370) (Kd.R_base ho1) hb); have n7_ := Aside0.mk (Kd.R_elder' (rz HO375) (Kd.R_base ho1) hb); have n8_ := Aside0.mk (Kd.S_lower (Kd.S_new' (Kd.S_new' (Kd.S_new' (Kd.S_new' (Kd.S_new' (Kd.S_new' (Kd.S_new' (Kd.S_new' (S_geN ho0 hNm47) (Kd.S_lt (sz HO346))) (Kd.R_lt (rz HO349))) (Kd.R_lt (rz HO353))) (Kd.S_lt (sz HO357))) (Kd.R_lt (rz HO360))) (Kd.S_lt (sz HO367))) (Kd.R_lt (rz HO370))) (Kd.R_lt (rz HO375))) (below_size bh)); have n9_ := Aside0.mk (Kd.R_lower (Kd.R_new' (Kd.R_new' (Kd.R_new' (Kd.R_new' (Kd.R_new' ho1 (Kd.R_lt (rz HO349))) (Kd.R_lt (rz HO353))) (Kd.R_lt (rz HO360))) (Kd.R_lt (rz HO370))) (Kd.R_lt (rz HO375))) (below_size bh)); have n10_ := Aside0.mk (blk_below (bz BK341) hb); have n11_ := Aside0.mk (blk_below (bz BK363) hb); have n12_ := Aside0.mk (blk_below (bz BK372) hb); have n13_ := Aside0.mk (below_step bh hb); clear HO346 HO349 HO353 HO357 HO360 HO367 HO370 HO375 BK341 BK363 BK372 HB; have HO346 := n0_; have HO349 := n1_; have HO353 := n2_; have HO357 := n3_; have HO360 := n4_; have HO367 := n5_; have HO370 := n6_; have HO375 := n7_; have HO379 := n8_; have HO382 := n9_; have BK341 := n10_; have BK363 := n11_; have BK372 := n12_; have HB := n13_; clear n0_ n1_ n2_ n3_ n4_ n5_ n6_ n7_ n8_ n9_ n10_ n11_ n12_ n13_; (try clear hb); (try clear hb2); (try clear hk); (try clear hi); (try clear ho0); (try clear ho1)) | ((with_reducible refine gate_dst (N := 10) rfl ?_); refine box_event ?hg (N := 10) ?hd (cs := #[.int .i64 0, .slice none 0 0, .slice none 0 0, .int .i64 0]) (t := 28) ?hr ?_; (case hd => rfl); (case hg => rfl); (case hr => first | (go_simp; done) | (go_simp; rfl)); intro gb385 hg w48 hbox hb; have n0_ := Aside0.mk (Kd.S_below (sz HO346) hb); have n1_ := Aside0.mk (Kd.R_below (rz HO349) hb); have n2_ := Aside0.mk (Kd.R_below (rz HO353) hb); have n3_ := Aside0.mk (Kd.S_below (sz HO357) hb); have n4_ := Aside0.mk (Kd.R_below (rz HO360) hb); have n5_ := Aside0.mk (Kd.S_below (sz HO367) hb); have n6_ := Aside0.mk (Kd.R_below (rz HO370) hb); have n7_ := Aside0.mk (Kd.R_below (rz HO375) hb); have n8_ := Aside0.mk (Kd.S_below (sz HO379) hb); have n9_ := Aside0.mk (Kd.R_below (rz HO382) hb); have n10_ := Aside0.mk (blk_below (bz BK341) hb); have n11_ := Aside0.mk (blk_below (bz BK363) hb); have n12_ := Aside0.mk (blk_below (bz BK372) hb); have n13_ := Aside0.mk (below_step bh hb); have n14_ := Aside0.mk (hbox); have n15_ := Aside0.mk ((gs (W0 := w) hg bh)); have n16_ := Aside0.mk ((gs (W0 := w) hg bh)); have n17_ := Aside0.mk ((gn hg (bz BK341))); have n18_ := Aside0.mk ((gm hg (bz BK341))); have n19_ := Aside0.mk ((gn hg (bz BK363))); have n20_ := Aside0.mk ((gm hg (bz BK363))); have n21_ := Aside0.mk ((gn hg (bz BK372))); have n22_ := Aside0.mk ((gm hg (bz BK372))); clear HO346 HO349 HO353 HO357 HO360 HO367 HO370 HO375 HO379 HO382 BK341 BK363 BK372 HB; have HO346 := n0_; have HO349 := n1_; have HO353 := n2_; have HO357 := n3_; have HO360 := n4_; have HO367 := n5_; have HO370 := n6_; have HO375 := n7_; have HO379 := n8_; have HO382 := n9_; have BK341 := n10_; have BK363 := n11_; have BK372 := n12_; have HB := n13_; have BK385 := n14_; have GW385 := n15_; have GE385 := n16_; have NB341_385 := n17_; have NB385_341 := n18_; have NB363_385 := n19_; have NB385_363 := n20_; have NB372_385 := n21_; have NB385_372 := n22_; clear n0_ n1_ n2_ n3_ n4_ n5_ n6_ n7_ n8_ n9_ n10_ n11_ n12_ n13_ n14_ n15_ n16_ n17_ n18_ n19_ n20_ n21_ n22_ hb hbox hg; have hnb49 := NB385_341.out; have hnc49 := NB341_385.out; have hnb50 := NB385_363.out; have hnc50 := NB363_385.out; have hnb51 := NB385_372.out; have hnc51 := NB372_385.out; have hcz52_0 := cz0 BK385; have hcz52_1 := cz1 BK385; have hcz52_2 := cz2 BK385; have hcz52_3 := cz3 BK385; have hfz52_0 := blk_frozen BK385.out 0; have hfz52_1 := blk_frozen BK385.out 1; have hfz52_2 := blk_frozen BK385.out 2; have hfz52_3 := blk_frozen BK385.out 3; obtain ⟨Ao53, co53, eo53⟩ := Kd.S_slice HO379.out; subst eo53; obtain ⟨Ao54, co54, eo54⟩ := Kd.R_slice HO382.out; subst eo54))
   (try simp only [Act.put, List.setIfInBounds_toArray, List.set_cons_zero, List.set_cons_succ])
   go_cut [51] (fun v51 wc => ∃ (kq : Nat) (x51_15 : Bool), v51 = .bool x51_15 ∧ Aside0 (laws_FnExactAfterDeaths.j0 kq l1 t362 t373 t384 x51_15 a0_0 l0_1 l0_2 a0_3 t354 t355 t358 t361 t364 t365 t368 t371 t376 t377 t380 t383 = some r) ∧ Aside0 (kq ≤ k) ∧ Aside0 (Kd.R (Kd.int .i64) 3 wc w.heap.size (fun k_ => some k_ ≠ ((.slice Ao33 t358.length co33) : Value).ownBlock ∧ some k_ ≠ ((.slice Ao42 t368.length co42) : Value).ownBlock ∧ some k_ ≠ ((.slice Ao54 t380.length co54) : Value).ownBlock) (.slice Ao45 t373.length co45) t373) ∧ Aside0 (Kd.S (Kd.slice 3 (Kd.int .i64)) 23 wc w.heap.size (fun k_ => some k_ ≠ ((.slice Ao45 t373.length co45) : Value).ownBlock ∧ some k_ ≠ ((.slice Ao33 t358.length co33) : Value).ownBlock ∧ some k_ ≠ ((.slice Ao41 t365.length co41) : Value).ownBlock ∧ some k_ ≠ ((.slice Ao42 t368.length co42) : Value).ownBlock ∧ some k_ ≠ ((.slice Ao53 t377.length co53) : Value).ownBlock ∧ some k_ ≠ ((.slice Ao54 t380.length co54) : Value).ownBlock ∧ Nm28 ≤ k_ ∧ k_ < Nm36 ∧ k_ < Nm47) (.slice Ao32 t355.length co32) t355) ∧ Aside0 (Kd.R (Kd.int .i64) 3 wc w.heap.size (fun k_ => some k_ ≠ ((.slice Ao45 t373.length co45) : Value).ownBlock ∧ some k_ ≠ ((.slice Ao42 t368.length co42) : Value).ownBlock ∧ some k_ ≠ ((.slice Ao54 t380.length co54) : Value).ownBlock) (.slice Ao33 t358.length co33) t358) ∧ Aside0 (Kd.S (Kd.slice 3 (Kd.int .i64)) 23 wc w.heap.size (fun k_ => some k_ ≠ ((.slice Ao45 t373.length co45) : Value).ownBlock ∧ some k_ ≠ ((.slice Ao32 t355.length co32) : Value).ownBlock ∧ some k_ ≠ ((.slice Ao33 t358.length co33) : Value).ownBlock ∧ some k_ ≠ ((.slice Ao42 t368.length co42) : Value).ownBlock ∧ some k_ ≠ ((.slice Ao53 t377.length co53) : Value).ownBlock ∧ some k_ ≠ ((.slice Ao54 t380.length co54) : Value).ownBlock ∧ Nm36 ≤ k_ ∧ k_ < Nm47) (.slice Ao41 t365.length co41) t365) ∧ Aside0 (Kd.R (Kd.int .i64) 3 wc w.heap.size (fun k_ => some k_ ≠ ((.slice Ao45 t373.length co45) : Value).ownBlock ∧ some k_ ≠ ((.slice Ao33 t358.length co33) : Value).ownBlock ∧ some k_ ≠ ((.slice Ao54 t380.length co54) : Value).ownBlock) (.slice Ao42 t368.length co42) t368) ∧ Aside0 (Kd.S (Kd.slice 3 (Kd.int .i64)) 23 wc w.heap.size (fun k_ => some k_ ≠ ((.slice Ao45 t373.length co45) : Value).ownBlock ∧ some k_ ≠ ((.slice Ao32 t355.length co32) : Value).ownBlock ∧ some k_ ≠ ((.slice Ao33 t358.length co33) : Value).ownBlock ∧ some k_ ≠ ((.slice Ao41 t365.length co41) : Value).ownBlock ∧ some k_ ≠ ((.slice Ao42 t368.length co42) : Value).ownBlock ∧ some k_ ≠ ((.slice Ao54 t380.length co54) : Value).ownBlock ∧ Nm47 ≤ k_) (.slice Ao53 t377.length co53) t377) ∧ Aside0 (Kd.R (Kd.int .i64) 3 wc w.heap.size (fun k_ => some k_ ≠ ((.slice Ao45 t373.length co45) : Value).ownBlock ∧ some k_ ≠ ((.slice Ao33 t358.length co33) : Value).ownBlock ∧ some k_ ≠ ((.slice Ao42 t368.length co42) : Value).ownBlock) (.slice Ao54 t380.length co54) t380) ∧ Aside0 (wc.heap[gb341]? = some (.cells #[.int .i64 a0_0, (.slice A0_1 l0_1.length c0_1), (.slice A0_2 l0_2.length c0_2), .int .i64 a0_3] 25 (0, 0))) ∧ Aside0 (wc.heap[gb363]? = some (.cells #[.int .i64 t354, (.slice Ao32 t355.length co32), (.slice Ao33 t358.length co33), .int .i64 t361] 28 (0, 0))) ∧ Aside0 (wc.heap[gb372]? = some (.cells #[.int .i64 t364, (.slice Ao41 t365.length co41), (.slice Ao42 t368.length co42), .int .i64 t371] 28 (0, 0))) ∧ Aside0 (wc.heap[gb385]? = some (.cells #[.int .i64 t376, (.slice Ao53 t377.length co53), (.slice Ao54 t380.length co54), .int .i64 t383] 28 (0, 0))) ∧ Aside0 (Below w.heap.size w wc))
   case first =>
    have H := HC16.out
    clear HC16
    replace H := Option.bind_eq_some_iff.mp H
    obtain ⟨t386, A550, H⟩ := H
    replace H : (if t386 = true then (laws_FnExactAfterDeaths.j0 k l1 t362 t373 t384 (t384 != t362) a0_0 l0_1 l0_2 a0_3 t354 t355 t358 t361 t364 t365 t368 t371 t376 t377 t380 t383) else (laws_FnExactAfterDeaths.j0 k l1 t362 t373 t384 true a0_0 l0_1 l0_2 a0_3 t354 t355 t358 t361 t364 t365 t368 t371 t376 t377 t380 t383)) = some r := H
    have A55 := Aside0.mk A550
    clear A550
    by_cases c56 : t386 = true
    ·subst c56
     have H1 : (laws_FnExactAfterDeaths.j0 k l1 t362 t373 t384 (t384 != t362) a0_0 l0_1 l0_2 a0_3 t354 t355 t358 t361 t364 t365 t368 t371 t376 t377 t380 t383) = some r := by rw [if_pos rfl] at H; exact H
     clear H
     have H := H1
     clear H1
     have H' := Aside0.mk H
     clear H
     have hnb57 := NB385_341.out
     have hnc57 := NB341_385.out
     have hnb58 := NB385_363.out
     have hnc58 := NB363_385.out
     have hnb59 := NB385_372.out
     have hnc59 := NB372_385.out
     have hcz60_0 := cz0 BK385
     have hcz60_1 := cz1 BK385
     have hcz60_2 := cz2 BK385
     have hcz60_3 := cz3 BK385
     have hfz60_0 := blk_frozen BK385.out 0
     have hfz60_1 := blk_frozen BK385.out 1
     have hfz60_2 := blk_frozen BK385.out 2
     have hfz60_3 := blk_frozen BK385.out 3
     have hnb61 := NB363_341.out
     have hnc61 := NB341_363.out
     have hnb62 := NB363_372.out
     have hnc62 := NB372_363.out
     have hcz63_0 := cz0 BK363
     have hcz63_1 := cz1 BK363
     have hcz63_2 := cz2 BK363
     have hcz63_3 := cz3 BK363
     have hfz63_0 := blk_frozen BK363.out 0
     have hfz63_1 := blk_frozen BK363.out 1
     have hfz63_2 := blk_frozen BK363.out 2
     have hfz63_3 := blk_frozen BK363.out 3
     go_wp2_with (first | ((with_reducible refine gate_callee (f := 20) rfl ?_); refine goesL_ (some 45) rfl rfl Try.func20 kr rfl #[.agg #[.int .i64 t376, .slice Ao53 t377.length co53, .slice Ao54 t380.length co54, .int .i64 t383], .agg #[.int .i64 t354, .slice Ao32 t355.length co32, .slice Ao33 t358.length co33, .int .i64 t361]] rfl lm ?_; (with_reducible refine (laws_eqCourt.calls k t376 _ _ t377 _ _ t380 t383 t354 _ _ t355 _ _ t358 t361 true _ ?side1 ?side2 ?side3 ?side4 ?side5 ?side6 ?side7 ?side8 A55.out).mono ?_); (case side1 => refine (Kd.S_reads' (e := 23) (base := w.heap.size) (ok := fun k_ => (((((((((some k_ ≠ (.slice Ao54 t380.length co54 : Value).ownBlock ∧ Nm47 ≤ k_) ∧ some k_ ≠ (.slice Ao24 t344.length co24 : Value).ownBlock) ∧ some k_ ≠ (.slice Ao25 t347.length co25 : Value).ownBlock) ∧ some k_ ≠ (.slice Ao26 t351.length co26 : Value).ownBlock) ∧ some k_ ≠ (.slice Ao32 t355.length co32 : Value).ownBlock) ∧ some k_ ≠ (.slice Ao33 t358.length co33 : Value).ownBlock) ∧ some k_ ≠ (.slice Ao41 t365.length co41 : Value).ownBlock) ∧ some k_ ≠ (.slice Ao42 t368.length co42 : Value).ownBlock) ∧ some k_ ≠ (.slice Ao45 t373.length co45 : Value).ownBlock)) (n := t377.length) (c := co53) ?_).2.2; exact (fS HO379 BK385)); (case side2 => exact (Kd.S_reads' HO379.out).2.1); (case side3 => refine (Kd.R_reads' (e := 3) (base := w.heap.size) (ok := fun k_ => (((((True ∧ some k_ ≠ (.slice Ao25 t347.length co25 : Value).ownBlock) ∧ some k_ ≠ (.slice Ao26 t351.length co26 : Value).ownBlock) ∧ some k_ ≠ (.slice Ao33 t358.length co33 : Value).ownBlock) ∧ some k_ ≠ (.slice Ao42 t368.length co42 : Value).ownBlock) ∧ some k_ ≠ (.slice Ao45 t373.length co45 : Value).ownBlock)) (n := t380.length) (c := co54) ?_).2.2; exact (fR HO382 BK385)); (case side4 => exact (Kd.R_reads' HO382.out).2.1); (case side5 => refine (Kd.S_reads' (e := 23) (base := w.heap.size) (ok := fun k_ => (((((((((((some k_ ≠ (.slice Ao33 t358.length co33 : Value).ownBlock ∧ Nm28 ≤ k_) ∧ some k_ ≠ (.slice Ao24 t344.length co24 : Value).ownBlock) ∧ some k_ ≠ (.slice Ao25 t347.length co25 : Value).ownBlock) ∧ some k_ ≠ (.slice Ao26 t351.length co26 : Value).ownBlock) ∧ some k_ ≠ (.slice Ao41 t365.length co41 : Value).ownBlock) ∧ some k_ ≠ (.slice Ao42 t368.length co42 : Value).ownBlock) ∧ k_ < Nm36) ∧ some k_ ≠ (.slice Ao45 t373.length co45 : Value).ownBlock) ∧ some k_ ≠ (.slice Ao53 t377.length co53 : Value).ownBlock) ∧ some k_ ≠ (.slice Ao54 t380.length co54 : Value).ownBlock) ∧ k_ < Nm47)) (n := t355.length) (c := co32) ?_).2.2; exact (fS HO357 BK385)); (case side6 => exact (Kd.S_reads' HO357.out).2.1); (case side7 => refine (Kd.R_reads' (e := 3) (base := w.heap.size) (ok := fun k_ => (((((True ∧ some k_ ≠ (.slice Ao25 t347.length co25 : Value).ownBlock) ∧ some k_ ≠ (.slice Ao26 t351.length co26 : Value).ownBlock) ∧ some k_ ≠ (.slice Ao42 t368.length co42 : Value).ownBlock) ∧ some k_ ≠ (.slice Ao45 t373.length co45 : Value).ownBlock) ∧ some k_ ≠ (.slice Ao54 t380.length co54 : Value).ownBlock)) (n := t358.length) (c := co33) ?_).2.2; exact (fR HO360 BK385)); (case side8 => exact (Kd.R_reads' HO360.out).2.1); rintro e w64 ⟨rfl, hb⟩; refine ⟨_, rfl, ?_⟩; have n0_ := Aside0.mk (Kd.S_below (fS HO346 BK385) hb); have n1_ := Aside0.mk (Kd.R_below (fR HO349 BK385) hb); have n2_ := Aside0.mk (Kd.R_below (fR HO353 BK385) hb); have n3_ := Aside0.mk (Kd.S_below (fS HO357 BK385) hb); have n4_ := Aside0.mk (Kd.R_below (fR HO360 BK385) hb); have n5_ := Aside0.mk (Kd.S_below (fS HO367 BK385) hb); have n6_ := Aside0.mk (Kd.R_below (fR HO370 BK385) hb); have n7_ := Aside0.mk (Kd.R_below (fR HO375 BK385) hb); have n8_ := Aside0.mk (Kd.S_below (fS HO379 BK385) hb); have n9_ := Aside0.mk (Kd.R_below (fR HO382 BK385) hb); have n10_ := Aside0.mk (blk_below (g := gb341) (o := .cells #[.int .i64 a0_0, .slice A0_1 l0_1.length c0_1, .slice A0_2 l0_2.length c0_2, .int .i64 a0_3] 25 (0, 0)) (bf NB341_385 BK341) hb); have n11_ := Aside0.mk (blk_below (g := gb363) (o := .cells #[.int .i64 t354, .slice Ao32 t355.length co32, .slice Ao33 t358.length co33, .int .i64 t361] 28 (0, 0)) (bf NB363_385 BK363) hb); have n12_ := Aside0.mk (blk_below (g := gb372) (o := .cells #[.int .i64 t364, .slice Ao41 t365.length co41, .slice Ao42 t368.length co42, .int .i64 t371] 28 (0, 0)) (bf NB372_385 BK372) hb); have n13_ := Aside0.mk (blk_below (g := gb385) (o := .cells #[.int .i64 t376, .slice Ao53 t377.length co53, .slice Ao54 t380.length co54, .int .i64 t383] 28 (0, 0)) (bp BK385) hb); have n14_ := Aside0.mk (below_step bh hb); clear HO346 HO349 HO353 HO357 HO360 HO367 HO370 HO375 HO379 HO382 BK341 BK363 BK372 BK385 HB; have HO346 := n0_; have HO349 := n1_; have HO353 := n2_; have HO357 := n3_; have HO360 := n4_; have HO367 := n5_; have HO370 := n6_; have HO375 := n7_; have HO379 := n8_; have HO382 := n9_; have BK341 := n10_; have BK363 := n11_; have BK372 := n12_; have BK385 := n13_; have HB := n14_; clear n0_ n1_ n2_ n3_ n4_ n5_ n6_ n7_ n8_ n9_ n10_ n11_ n12_ n13_ n14_; (try clear hb); (try clear hb2); (try clear hk); (try clear hi)))
     go_meet
     case rel => exact ⟨_, ((t384 != t362)), (by first | rfl | (simp; done) | (simp [*]; done)), H', ⟨by first | omega | exact Nat.le_refl _⟩, ⟨mR HO375⟩, ⟨mS HO357⟩, ⟨mR HO360⟩, ⟨mS HO367⟩, ⟨mR HO370⟩, ⟨mS HO379⟩, ⟨mR HO382⟩, ⟨bz BK341⟩, ⟨bz BK363⟩, ⟨bz BK372⟩, ⟨bz BK385⟩, ⟨by exact bh⟩⟩
    ·replace c56 := Bool.eq_false_iff.mpr c56
     subst c56
     have H1 : (laws_FnExactAfterDeaths.j0 k l1 t362 t373 t384 true a0_0 l0_1 l0_2 a0_3 t354 t355 t358 t361 t364 t365 t368 t371 t376 t377 t380 t383) = some r := by rw [if_neg (show ¬ (false = true) by decide)] at H; exact H
     clear H
     have H := H1
     clear H1
     have H' := Aside0.mk H
     clear H
     have hnb65 := NB385_341.out
     have hnc65 := NB341_385.out
     have hnb66 := NB385_363.out
     have hnc66 := NB363_385.out
     have hnb67 := NB385_372.out
     have hnc67 := NB372_385.out
     have hcz68_0 := cz0 BK385
     have hcz68_1 := cz1 BK385
     have hcz68_2 := cz2 BK385
     have hcz68_3 := cz3 BK385
     have hfz68_0 := blk_frozen BK385.out 0
     have hfz68_1 := blk_frozen BK385.out 1
     have hfz68_2 := blk_frozen BK385.out 2
     have hfz68_3 := blk_frozen BK385.out 3
     have hnb69 := NB363_341.out
     have hnc69 := NB341_363.out
     have hnb70 := NB363_372.out
     have hnc70 := NB372_363.out
     have hcz71_0 := cz0 BK363
     have hcz71_1 := cz1 BK363
     have hcz71_2 := cz2 BK363
     have hcz71_3 := cz3 BK363
     have hfz71_0 := blk_frozen BK363.out 0
     have hfz71_1 := blk_frozen BK363.out 1
     have hfz71_2 := blk_frozen BK363.out 2
     have hfz71_3 := blk_frozen BK363.out 3
     go_wp2_with (first | ((with_reducible refine gate_callee (f := 20) rfl ?_); refine goesL_ (some 45) rfl rfl Try.func20 kr rfl #[.agg #[.int .i64 t376, .slice Ao53 t377.length co53, .slice Ao54 t380.length co54, .int .i64 t383], .agg #[.int .i64 t354, .slice Ao32 t355.length co32, .slice Ao33 t358.length co33, .int .i64 t361]] rfl lm ?_; (with_reducible refine (laws_eqCourt.calls k t376 _ _ t377 _ _ t380 t383 t354 _ _ t355 _ _ t358 t361 false _ ?side1 ?side2 ?side3 ?side4 ?side5 ?side6 ?side7 ?side8 A55.out).mono ?_); (case side1 => refine (Kd.S_reads' (e := 23) (base := w.heap.size) (ok := fun k_ => (((((((((some k_ ≠ (.slice Ao54 t380.length co54 : Value).ownBlock ∧ Nm47 ≤ k_) ∧ some k_ ≠ (.slice Ao24 t344.length co24 : Value).ownBlock) ∧ some k_ ≠ (.slice Ao25 t347.length co25 : Value).ownBlock) ∧ some k_ ≠ (.slice Ao26 t351.length co26 : Value).ownBlock) ∧ some k_ ≠ (.slice Ao32 t355.length co32 : Value).ownBlock) ∧ some k_ ≠ (.slice Ao33 t358.length co33 : Value).ownBlock) ∧ some k_ ≠ (.slice Ao41 t365.length co41 : Value).ownBlock) ∧ some k_ ≠ (.slice Ao42 t368.length co42 : Value).ownBlock) ∧ some k_ ≠ (.slice Ao45 t373.length co45 : Value).ownBlock)) (n := t377.length) (c := co53) ?_).2.2; exact (fS HO379 BK385)); (case side2 => exact (Kd.S_reads' HO379.out).2.1); (case side3 => refine (Kd.R_reads' (e := 3) (base := w.heap.size) (ok := fun k_ => (((((True ∧ some k_ ≠ (.slice Ao25 t347.length co25 : Value).ownBlock) ∧ some k_ ≠ (.slice Ao26 t351.length co26 : Value).ownBlock) ∧ some k_ ≠ (.slice Ao33 t358.length co33 : Value).ownBlock) ∧ some k_ ≠ (.slice Ao42 t368.length co42 : Value).ownBlock) ∧ some k_ ≠ (.slice Ao45 t373.length co45 : Value).ownBlock)) (n := t380.length) (c := co54) ?_).2.2; exact (fR HO382 BK385)); (case side4 => exact (Kd.R_reads' HO382.out).2.1); (case side5 => refine (Kd.S_reads' (e := 23) (base := w.heap.size) (ok := fun k_ => (((((((((((some k_ ≠ (.slice Ao33 t358.length co33 : Value).ownBlock ∧ Nm28 ≤ k_) ∧ some k_ ≠ (.slice Ao24 t344.length co24 : Value).ownBlock) ∧ some k_ ≠ (.slice Ao25 t347.length co25 : Value).ownBlock) ∧ some k_ ≠ (.slice Ao26 t351.length co26 : Value).ownBlock) ∧ some k_ ≠ (.slice Ao41 t365.length co41 : Value).ownBlock) ∧ some k_ ≠ (.slice Ao42 t368.length co42 : Value).ownBlock) ∧ k_ < Nm36) ∧ some k_ ≠ (.slice Ao45 t373.length co45 : Value).ownBlock) ∧ some k_ ≠ (.slice Ao53 t377.length co53 : Value).ownBlock) ∧ some k_ ≠ (.slice Ao54 t380.length co54 : Value).ownBlock) ∧ k_ < Nm47)) (n := t355.length) (c := co32) ?_).2.2; exact (fS HO357 BK385)); (case side6 => exact (Kd.S_reads' HO357.out).2.1); (case side7 => refine (Kd.R_reads' (e := 3) (base := w.heap.size) (ok := fun k_ => (((((True ∧ some k_ ≠ (.slice Ao25 t347.length co25 : Value).ownBlock) ∧ some k_ ≠ (.slice Ao26 t351.length co26 : Value).ownBlock) ∧ some k_ ≠ (.slice Ao42 t368.length co42 : Value).ownBlock) ∧ some k_ ≠ (.slice Ao45 t373.length co45 : Value).ownBlock) ∧ some k_ ≠ (.slice Ao54 t380.length co54 : Value).ownBlock)) (n := t358.length) (c := co33) ?_).2.2; exact (fR HO360 BK385)); (case side8 => exact (Kd.R_reads' HO360.out).2.1); rintro e w72 ⟨rfl, hb⟩; refine ⟨_, rfl, ?_⟩; have n0_ := Aside0.mk (Kd.S_below (fS HO346 BK385) hb); have n1_ := Aside0.mk (Kd.R_below (fR HO349 BK385) hb); have n2_ := Aside0.mk (Kd.R_below (fR HO353 BK385) hb); have n3_ := Aside0.mk (Kd.S_below (fS HO357 BK385) hb); have n4_ := Aside0.mk (Kd.R_below (fR HO360 BK385) hb); have n5_ := Aside0.mk (Kd.S_below (fS HO367 BK385) hb); have n6_ := Aside0.mk (Kd.R_below (fR HO370 BK385) hb); have n7_ := Aside0.mk (Kd.R_below (fR HO375 BK385) hb); have n8_ := Aside0.mk (Kd.S_below (fS HO379 BK385) hb); have n9_ := Aside0.mk (Kd.R_below (fR HO382 BK385) hb); have n10_ := Aside0.mk (blk_below (g := gb341) (o := .cells #[.int .i64 a0_0, .slice A0_1 l0_1.length c0_1, .slice A0_2 l0_2.length c0_2, .int .i64 a0_3] 25 (0, 0)) (bf NB341_385 BK341) hb); have n11_ := Aside0.mk (blk_below (g := gb363) (o := .cells #[.int .i64 t354, .slice Ao32 t355.length co32, .slice Ao33 t358.length co33, .int .i64 t361] 28 (0, 0)) (bf NB363_385 BK363) hb); have n12_ := Aside0.mk (blk_below (g := gb372) (o := .cells #[.int .i64 t364, .slice Ao41 t365.length co41, .slice Ao42 t368.length co42, .int .i64 t371] 28 (0, 0)) (bf NB372_385 BK372) hb); have n13_ := Aside0.mk (blk_below (g := gb385) (o := .cells #[.int .i64 t376, .slice Ao53 t377.length co53, .slice Ao54 t380.length co54, .int .i64 t383] 28 (0, 0)) (bp BK385) hb); have n14_ := Aside0.mk (below_step bh hb); clear HO346 HO349 HO353 HO357 HO360 HO367 HO370 HO375 HO379 HO382 BK341 BK363 BK372 BK385 HB; have HO346 := n0_; have HO349 := n1_; have HO353 := n2_; have HO357 := n3_; have HO360 := n4_; have HO367 := n5_; have HO370 := n6_; have HO375 := n7_; have HO379 := n8_; have HO382 := n9_; have BK341 := n10_; have BK363 := n11_; have BK372 := n12_; have BK385 := n13_; have HB := n14_; clear n0_ n1_ n2_ n3_ n4_ n5_ n6_ n7_ n8_ n9_ n10_ n11_ n12_ n13_ n14_; (try clear hb); (try clear hb2); (try clear hk); (try clear hi)))
     go_meet
     case rel => exact ⟨_, (true), (by first | rfl | (simp; done) | (simp [*]; done)), H', ⟨by first | omega | exact Nat.le_refl _⟩, ⟨mR HO375⟩, ⟨mS HO357⟩, ⟨mR HO360⟩, ⟨mS HO367⟩, ⟨mR HO370⟩, ⟨mS HO379⟩, ⟨mR HO382⟩, ⟨bz BK341⟩, ⟨bz BK363⟩, ⟨bz BK372⟩, ⟨bz BK385⟩, ⟨by exact bh⟩⟩
   case rest =>
    clear HC16
    try clear c1
    try clear c2
    try clear p2
    try clear c3
    try clear c3b0
    try clear c3b1
    try clear c4
    try clear c5
    try clear c6
    try clear c6b0
    try clear c7
    try clear c14
    try clear c16
    try clear c18
    try clear c20
    try clear c30
    try clear c32
    try clear c38
    try clear c39
    try clear c47
    try clear c48
    try clear c49
    try clear c50
    try clear c51
    try clear c56
    try clear c57
    try clear c58
    try clear c59
    try clear c61
    try clear c62
    try clear c65
    try clear c66
    try clear c67
    try clear c69
    try clear c70
    try clear hcz18_0
    try clear hcz18_1
    try clear hcz18_2
    try clear hcz18_3
    try clear hcz20_0
    try clear hcz20_1
    try clear hcz20_2
    try clear hcz20_3
    try clear hcz31_0
    try clear hcz31_1
    try clear hcz31_2
    try clear hcz31_3
    try clear hcz34_0
    try clear hcz34_1
    try clear hcz34_2
    try clear hcz34_3
    try clear hcz40_0
    try clear hcz40_1
    try clear hcz40_2
    try clear hcz40_3
    try clear hcz44_0
    try clear hcz44_1
    try clear hcz44_2
    try clear hcz44_3
    try clear hcz52_0
    try clear hcz52_1
    try clear hcz52_2
    try clear hcz52_3
    try clear hcz60_0
    try clear hcz60_1
    try clear hcz60_2
    try clear hcz60_3
    try clear hcz63_0
    try clear hcz63_1
    try clear hcz63_2
    try clear hcz63_3
    try clear hcz68_0
    try clear hcz68_1
    try clear hcz68_2
    try clear hcz68_3
    try clear hcz71_0
    try clear hcz71_1
    try clear hcz71_2
    try clear hcz71_3
    try clear hcz8_0
    try clear hcz8_1
    try clear hcz8_2
    try clear hcz8_3
    try clear hfz18_0
    try clear hfz18_1
    try clear hfz18_2
    try clear hfz18_3
    try clear hfz20_0
    try clear hfz20_1
    try clear hfz20_2
    try clear hfz20_3
    try clear hfz31_0
    try clear hfz31_1
    try clear hfz31_2
    try clear hfz31_3
    try clear hfz34_0
    try clear hfz34_1
    try clear hfz34_2
    try clear hfz34_3
    try clear hfz40_0
    try clear hfz40_1
    try clear hfz40_2
    try clear hfz40_3
    try clear hfz44_0
    try clear hfz44_1
    try clear hfz44_2
    try clear hfz44_3
    try clear hfz52_0
    try clear hfz52_1
    try clear hfz52_2
    try clear hfz52_3
    try clear hfz60_0
    try clear hfz60_1
    try clear hfz60_2
    try clear hfz60_3
    try clear hfz63_0
    try clear hfz63_1
    try clear hfz63_2
    try clear hfz63_3
    try clear hfz68_0
    try clear hfz68_1
    try clear hfz68_2
    try clear hfz68_3
    try clear hfz71_0
    try clear hfz71_1
    try clear hfz71_2
    try clear hfz71_3
    try clear hfz8_0
    try clear hfz8_1
    try clear hfz8_2
    try clear hfz8_3
    obtain ⟨kq, x51_15, rfl, HA, HJ15, HO_9, HO_364001, HO_364002, HO_373001, HO_373002, HO_386001, HO_386002, BK341, BK363, BK372, BK385, HB⟩ := hcut
    cases kq with
    | zero => exact absurd HA.out (by simp [laws_FnExactAfterDeaths.j0])
    | succ kj15 =>
     have H := HA.out
     clear HA
     simp only [laws_FnExactAfterDeaths.j0] at H
     by_cases c73 : x51_15 = true
     ·subst c73
      have H1 : (none) = some r := by rw [if_pos rfl] at H; exact H
      clear H
      have H := H1
      clear H1
      exact absurd H (by simp)
     ·replace c73 := Bool.eq_false_iff.mpr c73
      subst c73
      have H1 : ((laws_toCourt.f kj15 a0_0 l0_1 l0_2 a0_3).bind fun bt387 => ((laws_eqCourt.f kj15 t364 t365 t368 t371 bt387.1 bt387.2.1 bt387.2.2.1 bt387.2.2.2).bind fun t395 => (if t395 = true then ((laws_toIntS.f kj15 l1).bind fun t396 => ((laws_eqIntS.f kj15 t373 t396).bind fun t399 => (if t399 = true then ((laws_markCourt.f kj15 t364 t365 t368 t371 1).bind fun bt400 => ((laws_markIntS.f kj15 t373 bt400.1).bind fun bt403 => (if bt403.1 < 0 then (laws_FnExactAfterDeaths.j1 kj15 l1 t362 true a0_0 l0_1 l0_2 a0_3 t354 t355 t358 t361 t376 t377 t380 t383) else ((laws_eqCourt.f kj15 t376 t377 t380 t383 t354 t355 t358 t361).bind fun t405 => (if t405 = true then (laws_FnExactAfterDeaths.j1 kj15 l1 t362 (t384 != t362) a0_0 l0_1 l0_2 a0_3 t354 t355 t358 t361 t376 t377 t380 t383) else (laws_FnExactAfterDeaths.j1 kj15 l1 t362 true a0_0 l0_1 l0_2 a0_3 t354 t355 t358 t361 t376 t377 t380 t383)))))) else (none)))) else (none)))) = some r := by rw [if_neg (show ¬ (false = true) by decide)] at H; exact H
      clear H
      have H := H1
      clear H1
      replace H := Option.bind_eq_some_iff.mp H
      obtain ⟨⟨t387, t388, t391, t394⟩, A740, H⟩ := H
      replace H : ((laws_eqCourt.f kj15 t364 t365 t368 t371 t387 t388 t391 t394).bind fun t395 => (if t395 = true then ((laws_toIntS.f kj15 l1).bind fun t396 => ((laws_eqIntS.f kj15 t373 t396).bind fun t399 => (if t399 = true then ((laws_markCourt.f kj15 t364 t365 t368 t371 1).bind fun bt400 => ((laws_markIntS.f kj15 t373 bt400.1).bind fun bt403 => (if bt403.1 < 0 then (laws_FnExactAfterDeaths.j1 kj15 l1 t362 true a0_0 l0_1 l0_2 a0_3 t354 t355 t358 t361 t376 t377 t380 t383) else ((laws_eqCourt.f kj15 t376 t377 t380 t383 t354 t355 t358 t361).bind fun t405 => (if t405 = true then (laws_FnExactAfterDeaths.j1 kj15 l1 t362 (t384 != t362) a0_0 l0_1 l0_2 a0_3 t354 t355 t358 t361 t376 t377 t380 t383) else (laws_FnExactAfterDeaths.j1 kj15 l1 t362 true a0_0 l0_1 l0_2 a0_3 t354 t355 t358 t361 t376 t377 t380 t383)))))) else (none)))) else (none))) = some r := H
      have A74 := Aside0.mk A740
      clear A740
      replace H := Option.bind_eq_some_iff.mp H
      obtain ⟨t395, A750, H⟩ := H
      replace H : (if t395 = true then ((laws_toIntS.f kj15 l1).bind fun t396 => ((laws_eqIntS.f kj15 t373 t396).bind fun t399 => (if t399 = true then ((laws_markCourt.f kj15 t364 t365 t368 t371 1).bind fun bt400 => ((laws_markIntS.f kj15 t373 bt400.1).bind fun bt403 => (if bt403.1 < 0 then (laws_FnExactAfterDeaths.j1 kj15 l1 t362 true a0_0 l0_1 l0_2 a0_3 t354 t355 t358 t361 t376 t377 t380 t383) else ((laws_eqCourt.f kj15 t376 t377 t380 t383 t354 t355 t358 t361).bind fun t405 => (if t405 = true then (laws_FnExactAfterDeaths.j1 kj15 l1 t362 (t384 != t362) a0_0 l0_1 l0_2 a0_3 t354 t355 t358 t361 t376 t377 t380 t383) else (laws_FnExactAfterDeaths.j1 kj15 l1 t362 true a0_0 l0_1 l0_2 a0_3 t354 t355 t358 t361 t376 t377 t380 t383)))))) else (none)))) else (none)) = some r := H
      have A75 := Aside0.mk A750
      clear A750
      by_cases c76 : t395 = true
      ·subst c76
       have H1 : ((laws_toIntS.f kj15 l1).bind fun t396 => ((laws_eqIntS.f kj15 t373 t396).bind fun t399 => (if t399 = true then ((laws_markCourt.f kj15 t364 t365 t368 t371 1).bind fun bt400 => ((laws_markIntS.f kj15 t373 bt400.1).bind fun bt403 => (if bt403.1 < 0 then (laws_FnExactAfterDeaths.j1 kj15 l1 t362 true a0_0 l0_1 l0_2 a0_3 t354 t355 t358 t361 t376 t377 t380 t383) else ((laws_eqCourt.f kj15 t376 t377 t380 t383 t354 t355 t358 t361).bind fun t405 => (if t405 = true then (laws_FnExactAfterDeaths.j1 kj15 l1 t362 (t384 != t362) a0_0 l0_1 l0_2 a0_3 t354 t355 t358 t361 t376 t377 t380 t383) else (laws_FnExactAfterDeaths.j1 kj15 l1 t362 true a0_0 l0_1 l0_2 a0_3 t354 t355 t358 t361 t376 t377 t380 t383)))))) else (none)))) = some r := by rw [if_pos rfl] at H; exact H
       clear H
       have H := H1
       clear H1
       replace H := Option.bind_eq_some_iff.mp H
       obtain ⟨t396, A770, H⟩ := H
       replace H : ((laws_eqIntS.f kj15 t373 t396).bind fun t399 => (if t399 = true then ((laws_markCourt.f kj15 t364 t365 t368 t371 1).bind fun bt400 => ((laws_markIntS.f kj15 t373 bt400.1).bind fun bt403 => (if bt403.1 < 0 then (laws_FnExactAfterDeaths.j1 kj15 l1 t362 true a0_0 l0_1 l0_2 a0_3 t354 t355 t358 t361 t376 t377 t380 t383) else ((laws_eqCourt.f kj15 t376 t377 t380 t383 t354 t355 t358 t361).bind fun t405 => (if t405 = true then (laws_FnExactAfterDeaths.j1 kj15 l1 t362 (t384 != t362) a0_0 l0_1 l0_2 a0_3 t354 t355 t358 t361 t376 t377 t380 t383) else (laws_FnExactAfterDeaths.j1 kj15 l1 t362 true a0_0 l0_1 l0_2 a0_3 t354 t355 t358 t361 t376 t377 t380 t383)))))) else (none))) = some r := H
       have A77 := Aside0.mk A770
       clear A770
       replace H := Option.bind_eq_some_iff.mp H
       obtain ⟨t399, A780, H⟩ := H
       replace H : (if t399 = true then ((laws_markCourt.f kj15 t364 t365 t368 t371 1).bind fun bt400 => ((laws_markIntS.f kj15 t373 bt400.1).bind fun bt403 => (if bt403.1 < 0 then (laws_FnExactAfterDeaths.j1 kj15 l1 t362 true a0_0 l0_1 l0_2 a0_3 t354 t355 t358 t361 t376 t377 t380 t383) else ((laws_eqCourt.f kj15 t376 t377 t380 t383 t354 t355 t358 t361).bind fun t405 => (if t405 = true then (laws_FnExactAfterDeaths.j1 kj15 l1 t362 (t384 != t362) a0_0 l0_1 l0_2 a0_3 t354 t355 t358 t361 t376 t377 t380 t383) else (laws_FnExactAfterDeaths.j1 kj15 l1 t362 true a0_0 l0_1 l0_2 a0_3 t354 t355 t358 t361 t376 t377 t380 t383)))))) else (none)) = some r := H
       have A78 := Aside0.mk A780
       clear A780
       by_cases c79 : t399 = true
       ·subst c79
        have H1 : ((laws_markCourt.f kj15 t364 t365 t368 t371 1).bind fun bt400 => ((laws_markIntS.f kj15 t373 bt400.1).bind fun bt403 => (if bt403.1 < 0 then (laws_FnExactAfterDeaths.j1 kj15 l1 t362 true a0_0 l0_1 l0_2 a0_3 t354 t355 t358 t361 t376 t377 t380 t383) else ((laws_eqCourt.f kj15 t376 t377 t380 t383 t354 t355 t358 t361).bind fun t405 => (if t405 = true then (laws_FnExactAfterDeaths.j1 kj15 l1 t362 (t384 != t362) a0_0 l0_1 l0_2 a0_3 t354 t355 t358 t361 t376 t377 t380 t383) else (laws_FnExactAfterDeaths.j1 kj15 l1 t362 true a0_0 l0_1 l0_2 a0_3 t354 t355 t358 t361 t376 t377 t380 t383)))))) = some r := by rw [if_pos rfl] at H; exact H
        clear H
        have H := H1
        clear H1
        replace H := Option.bind_eq_some_iff.mp H
        obtain ⟨⟨t400, t401, t402⟩, A800, H⟩ := H
        replace H : ((laws_markIntS.f kj15 t373 t400).bind fun bt403 => (if bt403.1 < 0 then (laws_FnExactAfterDeaths.j1 kj15 l1 t362 true a0_0 l0_1 l0_2 a0_3 t354 t355 t358 t361 t376 t377 t380 t383) else ((laws_eqCourt.f kj15 t376 t377 t380 t383 t354 t355 t358 t361).bind fun t405 => (if t405 = true then (laws_FnExactAfterDeaths.j1 kj15 l1 t362 (t384 != t362) a0_0 l0_1 l0_2 a0_3 t354 t355 t358 t361 t376 t377 t380 t383) else (laws_FnExactAfterDeaths.j1 kj15 l1 t362 true a0_0 l0_1 l0_2 a0_3 t354 t355 t358 t361 t376 t377 t380 t383))))) = some r := H
        have A80 := Aside0.mk A800
        clear A800
        replace H := Option.bind_eq_some_iff.mp H
        obtain ⟨⟨t403, t404⟩, A810, H⟩ := H
        replace H : (if t403 < 0 then (laws_FnExactAfterDeaths.j1 kj15 l1 t362 true a0_0 l0_1 l0_2 a0_3 t354 t355 t358 t361 t376 t377 t380 t383) else ((laws_eqCourt.f kj15 t376 t377 t380 t383 t354 t355 t358 t361).bind fun t405 => (if t405 = true then (laws_FnExactAfterDeaths.j1 kj15 l1 t362 (t384 != t362) a0_0 l0_1 l0_2 a0_3 t354 t355 t358 t361 t376 t377 t380 t383) else (laws_FnExactAfterDeaths.j1 kj15 l1 t362 true a0_0 l0_1 l0_2 a0_3 t354 t355 t358 t361 t376 t377 t380 t383)))) = some r := H
        have A81 := Aside0.mk A810
        clear A810
        have HC82 := Aside0.mk H
        clear H
        try go_wp2
        have n0_ := Aside0.mk (Kd.R_drew HO_9.out)
        have n1_ := Aside0.mk (Kd.S_drew HO_364001.out)
        have n2_ := Aside0.mk (Kd.R_drew HO_364002.out)
        have n3_ := Aside0.mk (Kd.S_drew HO_373001.out)
        have n4_ := Aside0.mk (Kd.R_drew HO_373002.out)
        have n5_ := Aside0.mk (Kd.S_drew HO_386001.out)
        have n6_ := Aside0.mk (Kd.R_drew HO_386002.out)
        have n7_ := Aside0.mk (blk_drew BK341.out)
        have n8_ := Aside0.mk (blk_drew BK363.out)
        have n9_ := Aside0.mk (blk_drew BK372.out)
        have n10_ := Aside0.mk (blk_drew BK385.out)
        have n11_ := Aside0.mk (below_drew1 HB.out)
        clear HO_9 HO_364001 HO_364002 HO_373001 HO_373002 HO_386001 HO_386002 BK341 BK363 BK372 BK385 HB
        have HO_9 := n0_
        have HO_364001 := n1_
        have HO_364002 := n2_
        have HO_373001 := n3_
        have HO_373002 := n4_
        have HO_386001 := n5_
        have HO_386002 := n6_
        have BK341 := n7_
        have BK363 := n8_
        have BK372 := n9_
        have BK385 := n10_
        have HB := n11_
        clear n0_ n1_ n2_ n3_ n4_ n5_ n6_ n7_ n8_ n9_ n10_ n11_
        refine start_ (n := 5) (S := fun w' => w'.cell? ⟨gb372, 0, none⟩ = some (.int .i64 t364) ∧ w'.cell? ⟨gb372, 1, none⟩ = some (.slice Ao41 t365.length co41) ∧ w'.cell? ⟨gb372, 2, none⟩ = some (.slice Ao42 t368.length co42) ∧ w'.cell? ⟨gb372, 3, none⟩ = some (.int .i64 t371) ∧ w'.cell? ⟨gb341, 0, none⟩ = some (.int .i64 a0_0) ∧ w'.cell? ⟨gb341, 1, none⟩ = some (.slice A0_1 l0_1.length c0_1) ∧ w'.cell? ⟨gb341, 2, none⟩ = some (.slice A0_2 l0_2.length c0_2) ∧ w'.cell? ⟨gb341, 3, none⟩ = some (.int .i64 a0_3)) (ds := []) #[F,F,F,F,F] kr rfl rfl ⟨cz0 BK372, cz1 BK372, cz2 BK372, cz3 BK372, cz0 BK341, cz1 BK341, cz2 BK341, cz3 BK341⟩ (fun hHeld => ?_)
        generalize wc.drew = w83 at HO_9 HO_364001 HO_364002 HO_373001 HO_373002 HO_386001 HO_386002 BK341 BK363 BK372 BK385 HB hHeld ⊢
        refine tk8 0 (some 52) #[T,F,F,F,F] kr ?_
        refine tk8 1 (some 53) #[T,T,F,F,F] kr ?_
        refine one_ (i := 2) (N := some 54) #[T,T,T,F,F] rfl rfl kr (by decide) (fun K hK => ?_)
        refine goes_ Try.func18 kr rfl #[.agg #[.int .i64 a0_0, .slice A0_1 l0_1.length c0_1, .slice A0_2 l0_2.length c0_2, .int .i64 a0_3]] (by rfl) rfl rfl lm ?_
        with_reducible refine (laws_toCourt.calls kj15 a0_0 _ _ l0_1 _ _ l0_2 a0_3 t387 t388 t391 t394 _ ?side1 ?side2 ?side3 ?side4 A74.out).mono ?_
        (case side1 => repeat (first | exact (Kd.C_below HR0_1.out HB.out) | (with_reducible refine Kd.C_alloc ?_ _) | (with_reducible refine Kd.C_drewN ?_ _) | (with_reducible refine Kd.C_drew ?_)))
        (case side2 => exact HC0_1.out)
        (case side3 => repeat (first | exact (Kd.C_below HR0_2.out HB.out) | (with_reducible refine Kd.C_alloc ?_ _) | (with_reducible refine Kd.C_drewN ?_ _) | (with_reducible refine Kd.C_drew ?_)))
        (case side4 => exact HC0_2.out)
        rintro e w84 ⟨v389, v392, rfl, ho0, ho1, hb⟩
        refine ⟨_, rfl, ?_⟩
        obtain ⟨Nm85, hNm85⟩ := S_num ho0
        have n0_ := Aside0.mk (Kd.R_elder' (rz HO_9) (Kd.R_base ho1) hb)
        have n1_ := Aside0.mk (S_ltN (Kd.S_told (Kd.S_told (Kd.S_old (sz HO_364001) hb) (Kd.S_base ho0)) (Kd.R_base ho1)) hNm85)
        have n2_ := Aside0.mk (Kd.R_elder' (rz HO_364002) (Kd.R_base ho1) hb)
        have n3_ := Aside0.mk (S_ltN (Kd.S_told (Kd.S_told (Kd.S_old (sz HO_373001) hb) (Kd.S_base ho0)) (Kd.R_base ho1)) hNm85)
        have n4_ := Aside0.mk (Kd.R_elder' (rz HO_373002) (Kd.R_base ho1) hb)
        have n5_ := Aside0.mk (S_ltN (Kd.S_told (Kd.S_told (Kd.S_old (sz HO_386001) hb) (Kd.S_base ho0)) (Kd.R_base ho1)) hNm85)
        have n6_ := Aside0.mk (Kd.R_elder' (rz HO_386002) (Kd.R_base ho1) hb)
        have n7_ := Aside0.mk (Kd.S_lower (Kd.S_new' (Kd.S_new' (Kd.S_new' (Kd.S_new' (Kd.S_new' (Kd.S_new' (Kd.S_new' (S_geN ho0 hNm85) (Kd.R_lt (rz HO_9))) (Kd.S_lt (sz HO_364001))) (Kd.R_lt (rz HO_364002))) (Kd.S_lt (sz HO_373001))) (Kd.R_lt (rz HO_373002))) (Kd.S_lt (sz HO_386001))) (Kd.R_lt (rz HO_386002))) (below_size bh))
        have n8_ := Aside0.mk (Kd.R_lower (Kd.R_new' (Kd.R_new' (Kd.R_new' (Kd.R_new' ho1 (Kd.R_lt (rz HO_9))) (Kd.R_lt (rz HO_364002))) (Kd.R_lt (rz HO_373002))) (Kd.R_lt (rz HO_386002))) (below_size bh))
        have n9_ := Aside0.mk (blk_below (bz BK341) hb)
        have n10_ := Aside0.mk (blk_below (bz BK363) hb)
        have n11_ := Aside0.mk (blk_below (bz BK372) hb)
        have n12_ := Aside0.mk (blk_below (bz BK385) hb)
        have n13_ := Aside0.mk (below_step bh hb)
        clear HO_9 HO_364001 HO_364002 HO_373001 HO_373002 HO_386001 HO_386002 BK341 BK363 BK372 BK385 HB
        have HO_9 := n0_
        have HO_364001 := n1_
        have HO_364002 := n2_
        have HO_373001 := n3_
        have HO_373002 := n4_
        have HO_386001 := n5_
        have HO_386002 := n6_
        have HO390 := n7_
        have HO393 := n8_
        have BK341 := n9_
        have BK363 := n10_
        have BK372 := n11_
        have BK385 := n12_
        have HB := n13_
        clear n0_ n1_ n2_ n3_ n4_ n5_ n6_ n7_ n8_ n9_ n10_ n11_ n12_ n13_
        (try clear hb)
        (try clear hb2)
        (try clear hk)
        (try clear hi)
        (try clear ho0)
        (try clear ho1)
        obtain ⟨Ao86, co86, eo86⟩ := Kd.S_slice HO390.out
        (first | subst eo86 | (injection eo86 with f1_ f2_ f3_; have f4_ := f1_.symm; have f5_ := f3_.symm; clear f1_ f2_ f3_; subst f4_; subst f5_))
        obtain ⟨Ao87, co87, eo87⟩ := Kd.R_slice HO393.out
        (first | subst eo87 | (injection eo87 with f1_ f2_ f3_; have f4_ := f1_.symm; have f5_ := f3_.symm; clear f1_ f2_ f3_; subst f4_; subst f5_))
        refine hK.out _ _ ⟨cz0 BK372, cz1 BK372, cz2 BK372, cz3 BK372, cz0 BK341, cz1 BK341, cz2 BK341, cz3 BK341⟩ (fun hHeld => ?_)
        clear hK K
        refine norm_ (a' := ?_) ?_ ?_
        rotate_left
        ·show Act.put _ (some 54) _ = _
         simp only [Act.put, List.setIfInBounds_toArray, List.set_cons_zero, List.set_cons_succ, i64_w, i32_w]
         rfl
        refine one_ (i := 3) (N := some 55) #[T,T,T,T,F] rfl rfl kr (by decide) (fun K hK => ?_)
        refine goes_ Try.func20 kr rfl #[.agg #[.int .i64 t364, .slice Ao41 t365.length co41, .slice Ao42 t368.length co42, .int .i64 t371], .agg #[.int .i64 t387, .slice Ao86 t388.length co86, .slice Ao87 t391.length co87, .int .i64 t394]] (by rfl) rfl rfl lm ?_
        with_reducible refine (laws_eqCourt.calls kj15 t364 _ _ t365 _ _ t368 t371 t387 _ _ t388 _ _ t391 t394 true _ ?side1 ?side2 ?side3 ?side4 ?side5 ?side6 ?side7 ?side8 A75.out).mono ?_
        (case side1 => repeat (first | exact (Kd.S_reads' HO_373001.out).2.2 | (with_reducible refine Kd.C_alloc ?_ _) | (with_reducible refine Kd.C_drewN ?_ _) | (with_reducible refine Kd.C_drew ?_)))
        (case side2 => exact (Kd.S_reads' HO_373001.out).2.1)
        (case side3 => repeat (first | exact (Kd.R_reads' HO_373002.out).2.2 | (with_reducible refine Kd.C_alloc ?_ _) | (with_reducible refine Kd.C_drewN ?_ _) | (with_reducible refine Kd.C_drew ?_)))
        (case side4 => exact (Kd.R_reads' HO_373002.out).2.1)
        (case side5 => repeat (first | exact (Kd.S_reads' HO390.out).2.2 | (with_reducible refine Kd.C_alloc ?_ _) | (with_reducible refine Kd.C_drewN ?_ _) | (with_reducible refine Kd.C_drew ?_)))
        (case side6 => exact (Kd.S_reads' HO390.out).2.1)
        (case side7 => repeat (first | exact (Kd.R_reads' HO393.out).2.2 | (with_reducible refine Kd.C_alloc ?_ _) | (with_reducible refine Kd.C_drewN ?_ _) | (with_reducible refine Kd.C_drew ?_)))
        (case side8 => exact (Kd.R_reads' HO393.out).2.1)
        rintro e w88 ⟨rfl, hb⟩
        refine ⟨_, rfl, ?_⟩
        have n0_ := Aside0.mk (Kd.R_below (rz HO_9) hb)
        have n1_ := Aside0.mk (Kd.S_below (sz HO_364001) hb)
        have n2_ := Aside0.mk (Kd.R_below (rz HO_364002) hb)
        have n3_ := Aside0.mk (Kd.S_below (sz HO_373001) hb)
        have n4_ := Aside0.mk (Kd.R_below (rz HO_373002) hb)
        have n5_ := Aside0.mk (Kd.S_below (sz HO_386001) hb)
        have n6_ := Aside0.mk (Kd.R_below (rz HO_386002) hb)
        have n7_ := Aside0.mk (Kd.S_below (sz HO390) hb)
        have n8_ := Aside0.mk (Kd.R_below (rz HO393) hb)
        have n9_ := Aside0.mk (blk_below (bz BK341) hb)
        have n10_ := Aside0.mk (blk_below (bz BK363) hb)
        have n11_ := Aside0.mk (blk_below (bz BK372) hb)
        have n12_ := Aside0.mk (blk_below (bz BK385) hb)
        have n13_ := Aside0.mk (below_step bh hb)
        clear HO_9 HO_364001 HO_364002 HO_373001 HO_373002 HO_386001 HO_386002 HO390 HO393 BK341 BK363 BK372 BK385 HB
        have HO_9 := n0_
        have HO_364001 := n1_
        have HO_364002 := n2_
        have HO_373001 := n3_
        have HO_373002 := n4_
        have HO_386001 := n5_
        have HO_386002 := n6_
        have HO390 := n7_
        have HO393 := n8_
        have BK341 := n9_
        have BK363 := n10_
        have BK372 := n11_
        have BK385 := n12_
        have HB := n13_
        clear n0_ n1_ n2_ n3_ n4_ n5_ n6_ n7_ n8_ n9_ n10_ n11_ n12_ n13_
        (try clear hb)
        (try clear hb2)
        (try clear hk)
        (try clear hi)
        refine hK.out _ _ ⟨cz0 BK372, cz1 BK372, cz2 BK372, cz3 BK372, cz0 BK341, cz1 BK341, cz2 BK341, cz3 BK341⟩ (fun hHeld => ?_)
        clear hK K
        refine norm_ (a' := ?_) ?_ ?_
        rotate_left
        ·show Act.put _ (some 55) _ = _
         simp only [Act.put, List.setIfInBounds_toArray, List.set_cons_zero, List.set_cons_succ, i64_w, i32_w]
         rfl
        refine pu 4 (some 56) #[T,T,T,T,T] kr ?_
        refine done_ kr ?_
        go_upto_region 20 with (first | ((with_reducible refine gate_callee (f := 48) rfl ?_); refine goesL_ (some 59) rfl rfl Try.func48 kr rfl #[.slice A1 l1.length c1] rfl lm ?_; (with_reducible refine (laws_toIntS.calls kj15 _ _ l1 t396 _ ?side1 ?side2 A77.out).mono ?_); (case side1 => repeat (first | exact (Kd.C_below HR1.out HB.out) | (with_reducible refine Kd.C_alloc ?_ _) | (with_reducible refine Kd.C_drewN ?_ _) | (with_reducible refine Kd.C_drew ?_))); (case side2 => exact HC1.out); rintro e w89 ⟨v397, rfl, ho0, hb⟩; refine ⟨_, rfl, ?_⟩; have n0_ := Aside0.mk (Kd.R_elder' (rz HO_9) (Kd.R_base ho0) hb); have n1_ := Aside0.mk (Kd.S_elder' (sz HO_364001) (Kd.R_base ho0) hb); have n2_ := Aside0.mk (Kd.R_elder' (rz HO_364002) (Kd.R_base ho0) hb); have n3_ := Aside0.mk (Kd.S_elder' (sz HO_373001) (Kd.R_base ho0) hb); have n4_ := Aside0.mk (Kd.R_elder' (rz HO_373002) (Kd.R_base ho0) hb); have n5_ := Aside0.mk (Kd.S_elder' (sz HO_386001) (Kd.R_base ho0) hb); have n6_ := Aside0.mk (Kd.R_elder' (rz HO_386002) (Kd.R_base ho0) hb); have n7_ := Aside0.mk (Kd.S_elder' (sz HO390) (Kd.R_base ho0) hb); have n8_ := Aside0.mk (Kd.R_elder' (rz HO393) (Kd.R_base ho0) hb); have n9_ := Aside0.mk (Kd.R_lower (Kd.R_new' (Kd.R_new' (Kd.R_new' (Kd.R_new' (Kd.R_new' ho0 (Kd.R_lt (rz HO_9))) (Kd.R_lt (rz HO_364002))) (Kd.R_lt (rz HO_373002))) (Kd.R_lt (rz HO_386002))) (Kd.R_lt (rz HO393))) (below_size bh)); have n10_ := Aside0.mk (blk_below (bz BK341) hb); have n11_ := Aside0.mk (blk_below (bz BK363) hb); have n12_ := Aside0.mk (blk_below (bz BK372) hb); have n13_ := Aside0.mk (blk_below (bz BK385) hb); have n14_ := Aside0.mk (below_step bh hb); clear HO_9 HO_364001 HO_364002 HO_373001 HO_373002 HO_386001 HO_386002 HO390 HO393 BK341 BK363 BK372 BK385 HB; have HO_9 := n0_; have HO_364001 := n1_; have HO_364002 := n2_; have HO_373001 := n3_; have HO_373002 := n4_; have HO_386001 := n5_; have HO_386002 := n6_; have HO390 := n7_; have HO393 := n8_; have HO398 := n9_; have BK341 := n10_; have BK363 := n11_; have BK372 := n12_; have BK385 := n13_; have HB := n14_; clear n0_ n1_ n2_ n3_ n4_ n5_ n6_ n7_ n8_ n9_ n10_ n11_ n12_ n13_ n14_; (try clear hb); (try clear hb2); (try clear hk); (try clear hi); (try clear ho0); obtain ⟨Ao90, co90, eo90⟩ := Kd.R_slice HO398.out; subst eo90) | ((with_reducible refine gate_callee (f := 27) rfl ?_); refine goesL_ (some 60) rfl rfl Try.func27 kr rfl #[.slice Ao45 t373.length co45, .slice Ao90 t396.length co90] rfl lm ?_; (with_reducible refine (laws_eqIntS.calls kj15 _ _ t373 _ _ t396 true _ ?side1 ?side2 ?side3 ?side4 A78.out).mono ?_); (case side1 => repeat (first | exact (Kd.R_reads' HO_9.out).2.2 | (with_reducible refine Kd.C_alloc ?_ _) | (with_reducible refine Kd.C_drewN ?_ _) | (with_reducible refine Kd.C_drew ?_))); (case side2 => exact (Kd.R_reads' HO_9.out).2.1); (case side3 => repeat (first | exact (Kd.R_reads' HO398.out).2.2 | (with_reducible refine Kd.C_alloc ?_ _) | (with_reducible refine Kd.C_drewN ?_ _) | (with_reducible refine Kd.C_drew ?_))); (case side4 => exact (Kd.R_reads' HO398.out).2.1); rintro e w' ⟨rfl, ⟨nd, rfl⟩⟩; refine ⟨_, rfl, ?_⟩; have hnb91 := NB372_341.out; have hnc91 := NB341_372.out; have hnb92 := NB372_363.out; have hnc92 := NB363_372.out; have hnb93 := NB372_385.out; have hnc93 := NB385_372.out; have hcz94_0 := cz0 BK372; have hcz94_1 := cz1 BK372; have hcz94_2 := cz2 BK372; have hcz94_3 := cz3 BK372; have hfz94_0 := blk_frozen BK372.out 0; have hfz94_1 := blk_frozen BK372.out 1; have hfz94_2 := blk_frozen BK372.out 2; have hfz94_3 := blk_frozen BK372.out 3; have n_ := Aside0.mk (Kd.R_mono (ok' := (fun k_ => some k_ ≠ (.slice Ao33 t358.length co33 : Value).ownBlock ∧ some k_ ≠ (.slice Ao42 t368.length co42 : Value).ownBlock ∧ some k_ ≠ (.slice Ao54 t380.length co54 : Value).ownBlock ∧ some k_ ≠ (.slice Ao87 t391.length co87 : Value).ownBlock ∧ some k_ ≠ (.slice Ao90 t396.length co90 : Value).ownBlock)) HO_9.out (by (intro k_; (try simp only [and_imp, and_assoc, true_and]); intros; repeat' (first | assumption | exact trivial | apply And.intro)))); clear HO_9; have HO_9 := n_; clear n_; have n_ := Aside0.mk (Kd.S_mono (ok' := (fun k_ => some k_ ≠ (.slice Ao45 t373.length co45 : Value).ownBlock ∧ some k_ ≠ (.slice Ao33 t358.length co33 : Value).ownBlock ∧ some k_ ≠ (.slice Ao41 t365.length co41 : Value).ownBlock ∧ some k_ ≠ (.slice Ao42 t368.length co42 : Value).ownBlock ∧ some k_ ≠ (.slice Ao53 t377.length co53 : Value).ownBlock ∧ some k_ ≠ (.slice Ao54 t380.length co54 : Value).ownBlock ∧ some k_ ≠ (.slice Ao86 t388.length co86 : Value).ownBlock ∧ some k_ ≠ (.slice Ao87 t391.length co87 : Value).ownBlock ∧ some k_ ≠ (.slice Ao90 t396.length co90 : Value).ownBlock ∧ Nm28 ≤ k_ ∧ k_ < Nm36 ∧ k_ < Nm47 ∧ k_ < Nm85)) HO_364001.out (by (intro k_; (try simp only [and_imp, and_assoc, true_and]); intros; repeat' (first | assumption | exact trivial | apply And.intro)))); clear HO_364001; have HO_364001 := n_; clear n_; have n_ := Aside0.mk (Kd.R_mono (ok' := (fun k_ => some k_ ≠ (.slice Ao45 t373.length co45 : Value).ownBlock ∧ some k_ ≠ (.slice Ao42 t368.length co42 : Value).ownBlock ∧ some k_ ≠ (.slice Ao54 t380.length co54 : Value).ownBlock ∧ some k_ ≠ (.slice Ao87 t391.length co87 : Value).ownBlock ∧ some k_ ≠ (.slice Ao90 t396.length co90 : Value).ownBlock)) HO_364002.out (by (intro k_; (try simp only [and_imp, and_assoc, true_and]); intros; repeat' (first | assumption | exact trivial | apply And.intro)))); clear HO_364002; have HO_364002 := n_; clear n_; have n_ := Aside0.mk (Kd.S_mono (ok' := (fun k_ => some k_ ≠ (.slice Ao45 t373.length co45 : Value).ownBlock ∧ some k_ ≠ (.slice Ao32 t355.length co32 : Value).ownBlock ∧ some k_ ≠ (.slice Ao33 t358.length co33 : Value).ownBlock ∧ some k_ ≠ (.slice Ao42 t368.length co42 : Value).ownBlock ∧ some k_ ≠ (.slice Ao53 t377.length co53 : Value).ownBlock ∧ some k_ ≠ (.slice Ao54 t380.length co54 : Value).ownBlock ∧ some k_ ≠ (.slice Ao86 t388.length co86 : Value).ownBlock ∧ some k_ ≠ (.slice Ao87 t391.length co87 : Value).ownBlock ∧ some k_ ≠ (.slice Ao90 t396.length co90 : Value).ownBlock ∧ Nm36 ≤ k_ ∧ k_ < Nm47 ∧ k_ < Nm85)) HO_373001.out (by (intro k_; (try simp only [and_imp, and_assoc, true_and]); intros; repeat' (first | assumption | exact trivial | apply And.intro)))); clear HO_373001; have HO_373001 := n_; clear n_; have n_ := Aside0.mk (Kd.R_mono (ok' := (fun k_ => some k_ ≠ (.slice Ao45 t373.length co45 : Value).ownBlock ∧ some k_ ≠ (.slice Ao33 t358.length co33 : Value).ownBlock ∧ some k_ ≠ (.slice Ao54 t380.length co54 : Value).ownBlock ∧ some k_ ≠ (.slice Ao87 t391.length co87 : Value).ownBlock ∧ some k_ ≠ (.slice Ao90 t396.length co90 : Value).ownBlock)) HO_373002.out (by (intro k_; (try simp only [and_imp, and_assoc, true_and]); intros; repeat' (first | assumption | exact trivial | apply And.intro)))); clear HO_373002; have HO_373002 := n_; clear n_; have n_ := Aside0.mk (Kd.S_mono (ok' := (fun k_ => some k_ ≠ (.slice Ao45 t373.length co45 : Value).ownBlock ∧ some k_ ≠ (.slice Ao32 t355.length co32 : Value).ownBlock ∧ some k_ ≠ (.slice Ao33 t358.length co33 : Value).ownBlock ∧ some k_ ≠ (.slice Ao41 t365.length co41 : Value).ownBlock ∧ some k_ ≠ (.slice Ao42 t368.length co42 : Value).ownBlock ∧ some k_ ≠ (.slice Ao54 t380.length co54 : Value).ownBlock ∧ some k_ ≠ (.slice Ao86 t388.length co86 : Value).ownBlock ∧ some k_ ≠ (.slice Ao87 t391.length co87 : Value).ownBlock ∧ some k_ ≠ (.slice Ao90 t396.length co90 : Value).ownBlock ∧ Nm47 ≤ k_ ∧ k_ < Nm85)) HO_386001.out (by (intro k_; (try simp only [and_imp, and_assoc, true_and]); intros; repeat' (first | assumption | exact trivial | apply And.intro)))); clear HO_386001; have HO_386001 := n_; clear n_; have n_ := Aside0.mk (Kd.R_mono (ok' := (fun k_ => some k_ ≠ (.slice Ao45 t373.length co45 : Value).ownBlock ∧ some k_ ≠ (.slice Ao33 t358.length co33 : Value).ownBlock ∧ some k_ ≠ (.slice Ao42 t368.length co42 : Value).ownBlock ∧ some k_ ≠ (.slice Ao87 t391.length co87 : Value).ownBlock ∧ some k_ ≠ (.slice Ao90 t396.length co90 : Value).ownBlock)) HO_386002.out (by (intro k_; (try simp only [and_imp, and_assoc, true_and]); intros; repeat' (first | assumption | exact trivial | apply And.intro)))); clear HO_386002; have HO_386002 := n_; clear n_; have n_ := Aside0.mk (Kd.S_mono (ok' := (fun k_ => some k_ ≠ (.slice Ao45 t373.length co45 : Value).ownBlock ∧ some k_ ≠ (.slice Ao32 t355.length co32 : Value).ownBlock ∧ some k_ ≠ (.slice Ao33 t358.length co33 : Value).ownBlock ∧ some k_ ≠ (.slice Ao41 t365.length co41 : Value).ownBlock ∧ some k_ ≠ (.slice Ao42 t368.length co42 : Value).ownBlock ∧ some k_ ≠ (.slice Ao53 t377.length co53 : Value).ownBlock ∧ some k_ ≠ (.slice Ao54 t380.length co54 : Value).ownBlock ∧ some k_ ≠ (.slice Ao87 t391.length co87 : Value).ownBlock ∧ some k_ ≠ (.slice Ao90 t396.length co90 : Value).ownBlock ∧ Nm85 ≤ k_)) HO390.out (by (intro k_; (try simp only [and_imp, and_assoc, true_and]); intros; repeat' (first | assumption | exact trivial | apply And.intro)))); clear HO390; have HO390 := n_; clear n_; have n_ := Aside0.mk (Kd.R_mono (ok' := (fun k_ => some k_ ≠ (.slice Ao45 t373.length co45 : Value).ownBlock ∧ some k_ ≠ (.slice Ao33 t358.length co33 : Value).ownBlock ∧ some k_ ≠ (.slice Ao42 t368.length co42 : Value).ownBlock ∧ some k_ ≠ (.slice Ao54 t380.length co54 : Value).ownBlock ∧ some k_ ≠ (.slice Ao90 t396.length co90 : Value).ownBlock)) HO393.out (by (intro k_; (try simp only [and_imp, and_assoc, true_and]); intros; repeat' (first | assumption | exact trivial | apply And.intro)))); clear HO393; have HO393 := n_; clear n_; have n_ := Aside0.mk (Kd.R_mono (ok' := (fun k_ => some k_ ≠ (.slice Ao45 t373.length co45 : Value).ownBlock ∧ some k_ ≠ (.slice Ao33 t358.length co33 : Value).ownBlock ∧ some k_ ≠ (.slice Ao42 t368.length co42 : Value).ownBlock ∧ some k_ ≠ (.slice Ao54 t380.length co54 : Value).ownBlock ∧ some k_ ≠ (.slice Ao87 t391.length co87 : Value).ownBlock)) HO398.out (by (intro k_; (try simp only [and_imp, and_assoc, true_and]); intros; repeat' (first | assumption | exact trivial | apply And.intro)))); clear HO398; have HO398 := n_; clear n_) | ((with_reducible refine gate_callee (f := 28) rfl ?_); refine goesL_ (some 64) rfl rfl Try.func28 kr rfl #[.agg #[.int .i64 t364, .slice Ao41 t365.length co41, .slice Ao42 t368.length co42, .int .i64 t371], .int .i64 1] rfl lm ?_; (with_reducible refine (laws_markCourt.calls kj15 t364 (fun k_ => ((some k_ ≠ (.slice Ao45 t373.length co45 : Value).ownBlock ∧ (some k_ ≠ (.slice Ao32 t355.length co32 : Value).ownBlock ∧ (some k_ ≠ (.slice Ao33 t358.length co33 : Value).ownBlock ∧ (some k_ ≠ (.slice Ao42 t368.length co42 : Value).ownBlock ∧ (some k_ ≠ (.slice Ao53 t377.length co53 : Value).ownBlock ∧ (some k_ ≠ (.slice Ao54 t380.length co54 : Value).ownBlock ∧ (some k_ ≠ (.slice Ao86 t388.length co86 : Value).ownBlock ∧ (some k_ ≠ (.slice Ao87 t391.length co87 : Value).ownBlock ∧ (some k_ ≠ (.slice Ao90 t396.length co90 : Value).ownBlock ∧ (Nm36 ≤ k_ ∧ (k_ < Nm47 ∧ k_ < Nm85)))))))))))) ∧ k_ ≠ gb341 ∧ k_ ≠ gb363 ∧ k_ ≠ gb372 ∧ k_ ≠ gb385) (.slice Ao41 t365.length co41) t365 (fun k_ => some k_ = (.slice Ao42 t368.length co42 : Value).ownBlock) (.slice Ao42 t368.length co42) t368 t371 1 t400 t401 t402 w _ ?side1 ?side2 ?side3 ?side4 A80.out).mono ?_); (case side1 => repeat (first | (with_reducible first | exact HB.out | apply below_alloc | apply pw_below_drewN | apply below_drew1 | refine below_set ?_ GE341.out | refine below_set ?_ GE363.out | refine below_set ?_ GE372.out | refine below_set ?_ GE385.out) | exact HB.out)); (case side2 => exact Kd.S_mono ((Kd.S_types (Kd.S_types (Kd.S_types (Kd.S_types HO_373001.out (bz BK341) (by decide)) (bz BK363) (by decide)) (bz BK372) (by decide)) (bz BK385) (by decide))) (by (intro k_; (try simp only [and_imp, and_assoc]); intros; repeat' (first | assumption | exact trivial | apply And.intro)))); (case side3 => exact fun k_ hp_ e_ => (hp_.1.2.2.2.1) e_); (case side4 => exact Kd.R_tight rfl HO_373002.out); rintro e w95 ⟨rfl, hy0, hy1, hb, hkp⟩; refine ⟨_, rfl, ?_⟩; have n0_ := Aside0.mk (Kd.R_mono (ok' := fun k_ => some k_ ≠ (.slice Ao33 t358.length co33 : Value).ownBlock ∧ some k_ ≠ (.slice Ao42 t368.length co42 : Value).ownBlock ∧ some k_ ≠ (.slice Ao54 t380.length co54 : Value).ownBlock ∧ some k_ ≠ (.slice Ao87 t391.length co87 : Value).ownBlock ∧ some k_ ≠ (.slice Ao90 t396.length co90 : Value).ownBlock) (Kd.R_keptB ((Kd.R_mono (ok' := fun k_ => (some k_ ≠ (.slice Ao33 t358.length co33 : Value).ownBlock ∧ (some k_ ≠ (.slice Ao42 t368.length co42 : Value).ownBlock ∧ (some k_ ≠ (.slice Ao54 t380.length co54 : Value).ownBlock ∧ (some k_ ≠ (.slice Ao87 t391.length co87 : Value).ownBlock ∧ some k_ ≠ (.slice Ao90 t396.length co90 : Value).ownBlock)))) ∧ ¬ (fun k_ => ((some k_ ≠ (.slice Ao45 t373.length co45 : Value).ownBlock ∧ (some k_ ≠ (.slice Ao32 t355.length co32 : Value).ownBlock ∧ (some k_ ≠ (.slice Ao33 t358.length co33 : Value).ownBlock ∧ (some k_ ≠ (.slice Ao42 t368.length co42 : Value).ownBlock ∧ (some k_ ≠ (.slice Ao53 t377.length co53 : Value).ownBlock ∧ (some k_ ≠ (.slice Ao54 t380.length co54 : Value).ownBlock ∧ (some k_ ≠ (.slice Ao86 t388.length co86 : Value).ownBlock ∧ (some k_ ≠ (.slice Ao87 t391.length co87 : Value).ownBlock ∧ (some k_ ≠ (.slice Ao90 t396.length co90 : Value).ownBlock ∧ (Nm36 ≤ k_ ∧ (k_ < Nm47 ∧ k_ < Nm85)))))))))))) ∧ k_ ≠ gb341 ∧ k_ ≠ gb363 ∧ k_ ≠ gb372 ∧ k_ ≠ gb385) k_) (Kd.R_tight2 rfl HO_9.out) (fun k_ hk => ⟨hk.2, fun hp_ => (hp_.1.1) hk.1⟩))) hkp (fun k_ hk_ hs_ => Or.elim hs_ (fun e_ => (hk_.2) e_) (fun e_ => (hk_.1.2.1) e_))) (fun k_ hk_ => ⟨hk_.1.1.1, hk_.1.1.2.1, hk_.1.1.2.2.1, hk_.1.1.2.2.2.1, hk_.1.1.2.2.2.2⟩)); have n1_ := Aside0.mk (Kd.S_mono (ok' := fun k_ => some k_ ≠ (.slice Ao45 t373.length co45 : Value).ownBlock ∧ some k_ ≠ (.slice Ao33 t358.length co33 : Value).ownBlock ∧ some k_ ≠ (.slice Ao41 t365.length co41 : Value).ownBlock ∧ some k_ ≠ (.slice Ao42 t368.length co42 : Value).ownBlock ∧ some k_ ≠ (.slice Ao53 t377.length co53 : Value).ownBlock ∧ some k_ ≠ (.slice Ao54 t380.length co54 : Value).ownBlock ∧ some k_ ≠ (.slice Ao86 t388.length co86 : Value).ownBlock ∧ some k_ ≠ (.slice Ao87 t391.length co87 : Value).ownBlock ∧ some k_ ≠ (.slice Ao90 t396.length co90 : Value).ownBlock ∧ Nm28 ≤ k_ ∧ k_ < Nm36 ∧ k_ < Nm47 ∧ k_ < Nm85) (Kd.S_keptB ((Kd.S_mono (ok' := fun k_ => (some k_ ≠ (.slice Ao45 t373.length co45 : Value).ownBlock ∧ (some k_ ≠ (.slice Ao33 t358.length co33 : Value).ownBlock ∧ (some k_ ≠ (.slice Ao41 t365.length co41 : Value).ownBlock ∧ (some k_ ≠ (.slice Ao42 t368.length co42 : Value).ownBlock ∧ (some k_ ≠ (.slice Ao53 t377.length co53 : Value).ownBlock ∧ (some k_ ≠ (.slice Ao54 t380.length co54 : Value).ownBlock ∧ (some k_ ≠ (.slice Ao86 t388.length co86 : Value).ownBlock ∧ (some k_ ≠ (.slice Ao87 t391.length co87 : Value).ownBlock ∧ (some k_ ≠ (.slice Ao90 t396.length co90 : Value).ownBlock ∧ (Nm28 ≤ k_ ∧ (k_ < Nm36 ∧ (k_ < Nm47 ∧ k_ < Nm85)))))))))))) ∧ ¬ (fun k_ => ((some k_ ≠ (.slice Ao45 t373.length co45 : Value).ownBlock ∧ (some k_ ≠ (.slice Ao32 t355.length co32 : Value).ownBlock ∧ (some k_ ≠ (.slice Ao33 t358.length co33 : Value).ownBlock ∧ (some k_ ≠ (.slice Ao42 t368.length co42 : Value).ownBlock ∧ (some k_ ≠ (.slice Ao53 t377.length co53 : Value).ownBlock ∧ (some k_ ≠ (.slice Ao54 t380.length co54 : Value).ownBlock ∧ (some k_ ≠ (.slice Ao86 t388.length co86 : Value).ownBlock ∧ (some k_ ≠ (.slice Ao87 t391.length co87 : Value).ownBlock ∧ (some k_ ≠ (.slice Ao90 t396.length co90 : Value).ownBlock ∧ (Nm36 ≤ k_ ∧ (k_ < Nm47 ∧ k_ < Nm85)))))))))))) ∧ k_ ≠ gb341 ∧ k_ ≠ gb363 ∧ k_ ≠ gb372 ∧ k_ ≠ gb385) k_) HO_364001.out (fun k_ hk => ⟨hk, fun hp_ => Nat.not_le.2 (hk.2.2.2.2.2.2.2.2.2.2.1) (hp_.1.2.2.2.2.2.2.2.2.2.1)⟩))) hkp (fun k_ hk_ hs_ => Or.elim hs_ (fun e_ => (hk_.2) e_) (fun e_ => (hk_.1.2.2.2.1) e_))) (fun k_ hk_ => ⟨hk_.1.1.1, hk_.1.1.2.1, hk_.1.1.2.2.1, hk_.1.1.2.2.2.1, hk_.1.1.2.2.2.2.1, hk_.1.1.2.2.2.2.2.1, hk_.1.1.2.2.2.2.2.2.1, hk_.1.1.2.2.2.2.2.2.2.1, hk_.1.1.2.2.2.2.2.2.2.2.1, hk_.1.1.2.2.2.2.2.2.2.2.2.1, hk_.1.1.2.2.2.2.2.2.2.2.2.2.1, hk_.1.1.2.2.2.2.2.2.2.2.2.2.2.1, hk_.1.1.2.2.2.2.2.2.2.2.2.2.2.2⟩)); have n2_ := Aside0.mk (Kd.R_mono (ok' := fun k_ => some k_ ≠ (.slice Ao45 t373.length co45 : Value).ownBlock ∧ some k_ ≠ (.slice Ao42 t368.length co42 : Value).ownBlock ∧ some k_ ≠ (.slice Ao54 t380.length co54 : Value).ownBlock ∧ some k_ ≠ (.slice Ao87 t391.length co87 : Value).ownBlock ∧ some k_ ≠ (.slice Ao90 t396.length co90 : Value).ownBlock) (Kd.R_keptB ((Kd.R_mono (ok' := fun k_ => (some k_ ≠ (.slice Ao45 t373.length co45 : Value).ownBlock ∧ (some k_ ≠ (.slice Ao42 t368.length co42 : Value).ownBlock ∧ (some k_ ≠ (.slice Ao54 t380.length co54 : Value).ownBlock ∧ (some k_ ≠ (.slice Ao87 t391.length co87 : Value).ownBlock ∧ some k_ ≠ (.slice Ao90 t396.length co90 : Value).ownBlock)))) ∧ ¬ (fun k_ => ((some k_ ≠ (.slice Ao45 t373.length co45 : Value).ownBlock ∧ (some k_ ≠ (.slice Ao32 t355.length co32 : Value).ownBlock ∧ (some k_ ≠ (.slice Ao33 t358.length co33 : Value).ownBlock ∧ (some k_ ≠ (.slice Ao42 t368.length co42 : Value).ownBlock ∧ (some k_ ≠ (.slice Ao53 t377.length co53 : Value).ownBlock ∧ (some k_ ≠ (.slice Ao54 t380.length co54 : Value).ownBlock ∧ (some k_ ≠ (.slice Ao86 t388.length co86 : Value).ownBlock ∧ (some k_ ≠ (.slice Ao87 t391.length co87 : Value).ownBlock ∧ (some k_ ≠ (.slice Ao90 t396.length co90 : Value).ownBlock ∧ (Nm36 ≤ k_ ∧ (k_ < Nm47 ∧ k_ < Nm85)))))))))))) ∧ k_ ≠ gb341 ∧ k_ ≠ gb363 ∧ k_ ≠ gb372 ∧ k_ ≠ gb385) k_) (Kd.R_tight2 rfl HO_364002.out) (fun k_ hk => ⟨hk.2, fun hp_ => (hp_.1.2.2.1) hk.1⟩))) hkp (fun k_ hk_ hs_ => Or.elim hs_ (fun e_ => (hk_.2) e_) (fun e_ => (hk_.1.2.1) e_))) (fun k_ hk_ => ⟨hk_.1.1.1, hk_.1.1.2.1, hk_.1.1.2.2.1, hk_.1.1.2.2.2.1, hk_.1.1.2.2.2.2⟩)); have n3_ := Aside0.mk (Kd.S_mono hy0 (fun k_ hk_ => hk_.1)); have n4_ := Aside0.mk (Kd.R_reok rfl hy1 (fun k_ e_ => HO_373002.out.1 k_ e_)); have n5_ := Aside0.mk (Kd.S_mono (ok' := fun k_ => some k_ ≠ (.slice Ao45 t373.length co45 : Value).ownBlock ∧ some k_ ≠ (.slice Ao32 t355.length co32 : Value).ownBlock ∧ some k_ ≠ (.slice Ao33 t358.length co33 : Value).ownBlock ∧ some k_ ≠ (.slice Ao41 t365.length co41 : Value).ownBlock ∧ some k_ ≠ (.slice Ao42 t368.length co42 : Value).ownBlock ∧ some k_ ≠ (.slice Ao54 t380.length co54 : Value).ownBlock ∧ some k_ ≠ (.slice Ao86 t388.length co86 : Value).ownBlock ∧ some k_ ≠ (.slice Ao87 t391.length co87 : Value).ownBlock ∧ some k_ ≠ (.slice Ao90 t396.length co90 : Value).ownBlock ∧ Nm47 ≤ k_ ∧ k_ < Nm85) (Kd.S_keptB ((Kd.S_mono (ok' := fun k_ => (some k_ ≠ (.slice Ao45 t373.length co45 : Value).ownBlock ∧ (some k_ ≠ (.slice Ao32 t355.length co32 : Value).ownBlock ∧ (some k_ ≠ (.slice Ao33 t358.length co33 : Value).ownBlock ∧ (some k_ ≠ (.slice Ao41 t365.length co41 : Value).ownBlock ∧ (some k_ ≠ (.slice Ao42 t368.length co42 : Value).ownBlock ∧ (some k_ ≠ (.slice Ao54 t380.length co54 : Value).ownBlock ∧ (some k_ ≠ (.slice Ao86 t388.length co86 : Value).ownBlock ∧ (some k_ ≠ (.slice Ao87 t391.length co87 : Value).ownBlock ∧ (some k_ ≠ (.slice Ao90 t396.length co90 : Value).ownBlock ∧ (Nm47 ≤ k_ ∧ k_ < Nm85)))))))))) ∧ ¬ (fun k_ => ((some k_ ≠ (.slice Ao45 t373.length co45 : Value).ownBlock ∧ (some k_ ≠ (.slice Ao32 t355.length co32 : Value).ownBlock ∧ (some k_ ≠ (.slice Ao33 t358.length co33 : Value).ownBlock ∧ (some k_ ≠ (.slice Ao42 t368.length co42 : Value).ownBlock ∧ (some k_ ≠ (.slice Ao53 t377.length co53 : Value).ownBlock ∧ (some k_ ≠ (.slice Ao54 t380.length co54 : Value).ownBlock ∧ (some k_ ≠ (.slice Ao86 t388.length co86 : Value).ownBlock ∧ (some k_ ≠ (.slice Ao87 t391.length co87 : Value).ownBlock ∧ (some k_ ≠ (.slice Ao90 t396.length co90 : Value).ownBlock ∧ (Nm36 ≤ k_ ∧ (k_ < Nm47 ∧ k_ < Nm85)))))))))))) ∧ k_ ≠ gb341 ∧ k_ ≠ gb363 ∧ k_ ≠ gb372 ∧ k_ ≠ gb385) k_) HO_386001.out (fun k_ hk => ⟨hk, fun hp_ => Nat.not_le.2 (hp_.1.2.2.2.2.2.2.2.2.2.2.1) (hk.2.2.2.2.2.2.2.2.2.1)⟩))) hkp (fun k_ hk_ hs_ => Or.elim hs_ (fun e_ => (hk_.2) e_) (fun e_ => (hk_.1.2.2.2.2.1) e_))) (fun k_ hk_ => ⟨hk_.1.1.1, hk_.1.1.2.1, hk_.1.1.2.2.1, hk_.1.1.2.2.2.1, hk_.1.1.2.2.2.2.1, hk_.1.1.2.2.2.2.2.1, hk_.1.1.2.2.2.2.2.2.1, hk_.1.1.2.2.2.2.2.2.2.1, hk_.1.1.2.2.2.2.2.2.2.2.1, hk_.1.1.2.2.2.2.2.2.2.2.2.1, hk_.1.1.2.2.2.2.2.2.2.2.2.2⟩)); have n6_ := Aside0.mk (Kd.R_mono (ok' := fun k_ => some k_ ≠ (.slice Ao45 t373.length co45 : Value).ownBlock ∧ some k_ ≠ (.slice Ao33 t358.length co33 : Value).ownBlock ∧ some k_ ≠ (.slice Ao42 t368.length co42 : Value).ownBlock ∧ some k_ ≠ (.slice Ao87 t391.length co87 : Value).ownBlock ∧ some k_ ≠ (.slice Ao90 t396.length co90 : Value).ownBlock) (Kd.R_keptB ((Kd.R_mono (ok' := fun k_ => (some k_ ≠ (.slice Ao45 t373.length co45 : Value).ownBlock ∧ (some k_ ≠ (.slice Ao33 t358.length co33 : Value).ownBlock ∧ (some k_ ≠ (.slice Ao42 t368.length co42 : Value).ownBlock ∧ (some k_ ≠ (.slice Ao87 t391.length co87 : Value).ownBlock ∧ some k_ ≠ (.slice Ao90 t396.length co90 : Value).ownBlock)))) ∧ ¬ (fun k_ => ((some k_ ≠ (.slice Ao45 t373.length co45 : Value).ownBlock ∧ (some k_ ≠ (.slice Ao32 t355.length co32 : Value).ownBlock ∧ (some k_ ≠ (.slice Ao33 t358.length co33 : Value).ownBlock ∧ (some k_ ≠ (.slice Ao42 t368.length co42 : Value).ownBlock ∧ (some k_ ≠ (.slice Ao53 t377.length co53 : Value).ownBlock ∧ (some k_ ≠ (.slice Ao54 t380.length co54 : Value).ownBlock ∧ (some k_ ≠ (.slice Ao86 t388.length co86 : Value).ownBlock ∧ (some k_ ≠ (.slice Ao87 t391.length co87 : Value).ownBlock ∧ (some k_ ≠ (.slice Ao90 t396.length co90 : Value).ownBlock ∧ (Nm36 ≤ k_ ∧ (k_ < Nm47 ∧ k_ < Nm85)))))))))))) ∧ k_ ≠ gb341 ∧ k_ ≠ gb363 ∧ k_ ≠ gb372 ∧ k_ ≠ gb385) k_) (Kd.R_tight2 rfl HO_386002.out) (fun k_ hk => ⟨hk.2, fun hp_ => (hp_.1.2.2.2.2.2.1) hk.1⟩))) hkp (fun k_ hk_ hs_ => Or.elim hs_ (fun e_ => (hk_.2) e_) (fun e_ => (hk_.1.2.2.1) e_))) (fun k_ hk_ => ⟨hk_.1.1.1, hk_.1.1.2.1, hk_.1.1.2.2.1, hk_.1.1.2.2.2.1, hk_.1.1.2.2.2.2⟩)); have n7_ := Aside0.mk (blk_kept (bz BK341) hkp (fun hs_ => Or.elim hs_ (fun e_ => (fun e_ => (e_.2.1) rfl) e_) (fun e_ => (fun e_ => (Kd.R_ne HO_373002.out BK341.out (by decide)) e_) e_))); have n8_ := Aside0.mk (blk_kept (bz BK363) hkp (fun hs_ => Or.elim hs_ (fun e_ => (fun e_ => (e_.2.2.1) rfl) e_) (fun e_ => (fun e_ => (Kd.R_ne HO_373002.out BK363.out (by decide)) e_) e_))); have n9_ := Aside0.mk (blk_kept (bz BK372) hkp (fun hs_ => Or.elim hs_ (fun e_ => (fun e_ => (e_.2.2.2.1) rfl) e_) (fun e_ => (fun e_ => (Kd.R_ne HO_373002.out BK372.out (by decide)) e_) e_))); have n10_ := Aside0.mk (blk_kept (bz BK385) hkp (fun hs_ => Or.elim hs_ (fun e_ => (fun e_ => (e_.2.2.2.2) rfl) e_) (fun e_ => (fun e_ => (Kd.R_ne HO_373002.out BK385.out (by decide)) e_) e_))); have n11_ := Aside0.mk (Kd.S_mono (ok' := fun k_ => some k_ ≠ (.slice Ao45 t373.length co45 : Value).ownBlock ∧ some k_ ≠ (.slice Ao32 t355.length co32 : Value).ownBlock ∧ some k_ ≠ (.slice Ao33 t358.length co33 : Value).ownBlock ∧ some k_ ≠ (.slice Ao41 t365.length co41 : Value).ownBlock ∧ some k_ ≠ (.slice Ao42 t368.length co42 : Value).ownBlock ∧ some k_ ≠ (.slice Ao53 t377.length co53 : Value).ownBlock ∧ some k_ ≠ (.slice Ao54 t380.length co54 : Value).ownBlock ∧ some k_ ≠ (.slice Ao87 t391.length co87 : Value).ownBlock ∧ some k_ ≠ (.slice Ao90 t396.length co90 : Value).ownBlock ∧ Nm85 ≤ k_) (Kd.S_keptB ((Kd.S_mono (ok' := fun k_ => (some k_ ≠ (.slice Ao45 t373.length co45 : Value).ownBlock ∧ (some k_ ≠ (.slice Ao32 t355.length co32 : Value).ownBlock ∧ (some k_ ≠ (.slice Ao33 t358.length co33 : Value).ownBlock ∧ (some k_ ≠ (.slice Ao41 t365.length co41 : Value).ownBlock ∧ (some k_ ≠ (.slice Ao42 t368.length co42 : Value).ownBlock ∧ (some k_ ≠ (.slice Ao53 t377.length co53 : Value).ownBlock ∧ (some k_ ≠ (.slice Ao54 t380.length co54 : Value).ownBlock ∧ (some k_ ≠ (.slice Ao87 t391.length co87 : Value).ownBlock ∧ (some k_ ≠ (.slice Ao90 t396.length co90 : Value).ownBlock ∧ Nm85 ≤ k_))))))))) ∧ ¬ (fun k_ => ((some k_ ≠ (.slice Ao45 t373.length co45 : Value).ownBlock ∧ (some k_ ≠ (.slice Ao32 t355.length co32 : Value).ownBlock ∧ (some k_ ≠ (.slice Ao33 t358.length co33 : Value).ownBlock ∧ (some k_ ≠ (.slice Ao42 t368.length co42 : Value).ownBlock ∧ (some k_ ≠ (.slice Ao53 t377.length co53 : Value).ownBlock ∧ (some k_ ≠ (.slice Ao54 t380.length co54 : Value).ownBlock ∧ (some k_ ≠ (.slice Ao86 t388.length co86 : Value).ownBlock ∧ (some k_ ≠ (.slice Ao87 t391.length co87 : Value).ownBlock ∧ (some k_ ≠ (.slice Ao90 t396.length co90 : Value).ownBlock ∧ (Nm36 ≤ k_ ∧ (k_ < Nm47 ∧ k_ < Nm85)))))))))))) ∧ k_ ≠ gb341 ∧ k_ ≠ gb363 ∧ k_ ≠ gb372 ∧ k_ ≠ gb385) k_) HO390.out (fun k_ hk => ⟨hk, fun hp_ => Nat.not_le.2 (hp_.1.2.2.2.2.2.2.2.2.2.2.2) (hk.2.2.2.2.2.2.2.2.2)⟩))) hkp (fun k_ hk_ hs_ => Or.elim hs_ (fun e_ => (hk_.2) e_) (fun e_ => (hk_.1.2.2.2.2.1) e_))) (fun k_ hk_ => ⟨hk_.1.1.1, hk_.1.1.2.1, hk_.1.1.2.2.1, hk_.1.1.2.2.2.1, hk_.1.1.2.2.2.2.1, hk_.1.1.2.2.2.2.2.1, hk_.1.1.2.2.2.2.2.2.1, hk_.1.1.2.2.2.2.2.2.2.1, hk_.1.1.2.2.2.2.2.2.2.2.1, hk_.1.1.2.2.2.2.2.2.2.2.2⟩)); have n12_ := Aside0.mk (Kd.R_mono (ok' := fun k_ => some k_ ≠ (.slice Ao45 t373.length co45 : Value).ownBlock ∧ some k_ ≠ (.slice Ao33 t358.length co33 : Value).ownBlock ∧ some k_ ≠ (.slice Ao42 t368.length co42 : Value).ownBlock ∧ some k_ ≠ (.slice Ao54 t380.length co54 : Value).ownBlock ∧ some k_ ≠ (.slice Ao90 t396.length co90 : Value).ownBlock) (Kd.R_keptB ((Kd.R_mono (ok' := fun k_ => (some k_ ≠ (.slice Ao45 t373.length co45 : Value).ownBlock ∧ (some k_ ≠ (.slice Ao33 t358.length co33 : Value).ownBlock ∧ (some k_ ≠ (.slice Ao42 t368.length co42 : Value).ownBlock ∧ (some k_ ≠ (.slice Ao54 t380.length co54 : Value).ownBlock ∧ some k_ ≠ (.slice Ao90 t396.length co90 : Value).ownBlock)))) ∧ ¬ (fun k_ => ((some k_ ≠ (.slice Ao45 t373.length co45 : Value).ownBlock ∧ (some k_ ≠ (.slice Ao32 t355.length co32 : Value).ownBlock ∧ (some k_ ≠ (.slice Ao33 t358.length co33 : Value).ownBlock ∧ (some k_ ≠ (.slice Ao42 t368.length co42 : Value).ownBlock ∧ (some k_ ≠ (.slice Ao53 t377.length co53 : Value).ownBlock ∧ (some k_ ≠ (.slice Ao54 t380.length co54 : Value).ownBlock ∧ (some k_ ≠ (.slice Ao86 t388.length co86 : Value).ownBlock ∧ (some k_ ≠ (.slice Ao87 t391.length co87 : Value).ownBlock ∧ (some k_ ≠ (.slice Ao90 t396.length co90 : Value).ownBlock ∧ (Nm36 ≤ k_ ∧ (k_ < Nm47 ∧ k_ < Nm85)))))))))))) ∧ k_ ≠ gb341 ∧ k_ ≠ gb363 ∧ k_ ≠ gb372 ∧ k_ ≠ gb385) k_) (Kd.R_tight2 rfl HO393.out) (fun k_ hk => ⟨hk.2, fun hp_ => (hp_.1.2.2.2.2.2.2.2.1) hk.1⟩))) hkp (fun k_ hk_ hs_ => Or.elim hs_ (fun e_ => (hk_.2) e_) (fun e_ => (hk_.1.2.2.1) e_))) (fun k_ hk_ => ⟨hk_.1.1.1, hk_.1.1.2.1, hk_.1.1.2.2.1, hk_.1.1.2.2.2.1, hk_.1.1.2.2.2.2⟩)); have n13_ := Aside0.mk (Kd.R_mono (ok' := fun k_ => some k_ ≠ (.slice Ao45 t373.length co45 : Value).ownBlock ∧ some k_ ≠ (.slice Ao33 t358.length co33 : Value).ownBlock ∧ some k_ ≠ (.slice Ao42 t368.length co42 : Value).ownBlock ∧ some k_ ≠ (.slice Ao54 t380.length co54 : Value).ownBlock ∧ some k_ ≠ (.slice Ao87 t391.length co87 : Value).ownBlock) (Kd.R_keptB ((Kd.R_mono (ok' := fun k_ => (some k_ ≠ (.slice Ao45 t373.length co45 : Value).ownBlock ∧ (some k_ ≠ (.slice Ao33 t358.length co33 : Value).ownBlock ∧ (some k_ ≠ (.slice Ao42 t368.length co42 : Value).ownBlock ∧ (some k_ ≠ (.slice Ao54 t380.length co54 : Value).ownBlock ∧ some k_ ≠ (.slice Ao87 t391.length co87 : Value).ownBlock)))) ∧ ¬ (fun k_ => ((some k_ ≠ (.slice Ao45 t373.length co45 : Value).ownBlock ∧ (some k_ ≠ (.slice Ao32 t355.length co32 : Value).ownBlock ∧ (some k_ ≠ (.slice Ao33 t358.length co33 : Value).ownBlock ∧ (some k_ ≠ (.slice Ao42 t368.length co42 : Value).ownBlock ∧ (some k_ ≠ (.slice Ao53 t377.length co53 : Value).ownBlock ∧ (some k_ ≠ (.slice Ao54 t380.length co54 : Value).ownBlock ∧ (some k_ ≠ (.slice Ao86 t388.length co86 : Value).ownBlock ∧ (some k_ ≠ (.slice Ao87 t391.length co87 : Value).ownBlock ∧ (some k_ ≠ (.slice Ao90 t396.length co90 : Value).ownBlock ∧ (Nm36 ≤ k_ ∧ (k_ < Nm47 ∧ k_ < Nm85)))))))))))) ∧ k_ ≠ gb341 ∧ k_ ≠ gb363 ∧ k_ ≠ gb372 ∧ k_ ≠ gb385) k_) (Kd.R_tight2 rfl HO398.out) (fun k_ hk => ⟨hk.2, fun hp_ => (hp_.1.2.2.2.2.2.2.2.2.1) hk.1⟩))) hkp (fun k_ hk_ hs_ => Or.elim hs_ (fun e_ => (hk_.2) e_) (fun e_ => (hk_.1.2.2.1) e_))) (fun k_ hk_ => ⟨hk_.1.1.1, hk_.1.1.2.1, hk_.1.1.2.2.1, hk_.1.1.2.2.2.1, hk_.1.1.2.2.2.2⟩)); have n14_ := Aside0.mk (hb); clear HO_9 HO_364001 HO_364002 HO_373001 HO_373002 HO_386001 HO_386002 BK341 BK363 BK372 BK385 HO390 HO393 HO398 HB; have HO_9 := n0_; have HO_364001 := n1_; have HO_364002 := n2_; have HO_373001 := n3_; have HO_373002 := n4_; have HO_386001 := n5_; have HO_386002 := n6_; have BK341 := n7_; have BK363 := n8_; have BK372 := n9_; have BK385 := n10_; have HO390 := n11_; have HO393 := n12_; have HO398 := n13_; have HB := n14_; clear n0_ n1_ n2_ n3_ n4_ n5_ n6_ n7_ n8_ n9_ n10_ n11_ n12_ n13_ n14_; (try clear hb); (try clear hkp); (try clear hy0); (try clear hy1)) | ((with_reducible refine gate_callee (f := 29) rfl ?_); refine goesL_ (some 67) rfl rfl Try.func29 kr rfl #[.slice Ao45 t373.length co45, .int .i64 t400] rfl lm ?_; (with_reducible refine (laws_markIntS.calls kj15 (fun k_ => some k_ = (.slice Ao45 t373.length co45 : Value).ownBlock) (.slice Ao45 t373.length co45) t373 t400 t403 t404 w _ ?side1 ?side2 A81.out).mono ?_); (case side1 => repeat (first | (with_reducible first | exact HB.out | apply below_alloc | apply pw_below_drewN | apply below_drew1 | refine below_set ?_ GE341.out | refine below_set ?_ GE363.out | refine below_set ?_ GE372.out | refine below_set ?_ GE385.out) | exact HB.out)); (case side2 => exact Kd.R_tight rfl HO_9.out); rintro e w96 ⟨rfl, hy0, hb, hkp⟩; refine ⟨_, rfl, ?_⟩; have n0_ := Aside0.mk (Kd.R_reok rfl hy0 (fun k_ e_ => HO_9.out.1 k_ e_)); have n1_ := Aside0.mk (Kd.S_mono (ok' := fun k_ => some k_ ≠ (.slice Ao45 t373.length co45 : Value).ownBlock ∧ some k_ ≠ (.slice Ao33 t358.length co33 : Value).ownBlock ∧ some k_ ≠ (.slice Ao41 t365.length co41 : Value).ownBlock ∧ some k_ ≠ (.slice Ao42 t368.length co42 : Value).ownBlock ∧ some k_ ≠ (.slice Ao53 t377.length co53 : Value).ownBlock ∧ some k_ ≠ (.slice Ao54 t380.length co54 : Value).ownBlock ∧ some k_ ≠ (.slice Ao86 t388.length co86 : Value).ownBlock ∧ some k_ ≠ (.slice Ao87 t391.length co87 : Value).ownBlock ∧ some k_ ≠ (.slice Ao90 t396.length co90 : Value).ownBlock ∧ Nm28 ≤ k_ ∧ k_ < Nm36 ∧ k_ < Nm47 ∧ k_ < Nm85) (Kd.S_keptB (HO_364001.out) hkp (fun k_ hk_ hs_ => (hk_.1) hs_)) (fun k_ hk_ => ⟨hk_.1.1, hk_.1.2.1, hk_.1.2.2.1, hk_.1.2.2.2.1, hk_.1.2.2.2.2.1, hk_.1.2.2.2.2.2.1, hk_.1.2.2.2.2.2.2.1, hk_.1.2.2.2.2.2.2.2.1, hk_.1.2.2.2.2.2.2.2.2.1, hk_.1.2.2.2.2.2.2.2.2.2.1, hk_.1.2.2.2.2.2.2.2.2.2.2.1, hk_.1.2.2.2.2.2.2.2.2.2.2.2.1, hk_.1.2.2.2.2.2.2.2.2.2.2.2.2⟩)); have n2_ := Aside0.mk (Kd.R_mono (ok' := fun k_ => some k_ ≠ (.slice Ao45 t373.length co45 : Value).ownBlock ∧ some k_ ≠ (.slice Ao42 t368.length co42 : Value).ownBlock ∧ some k_ ≠ (.slice Ao54 t380.length co54 : Value).ownBlock ∧ some k_ ≠ (.slice Ao87 t391.length co87 : Value).ownBlock ∧ some k_ ≠ (.slice Ao90 t396.length co90 : Value).ownBlock) (Kd.R_keptB (HO_364002.out) hkp (fun k_ hk_ hs_ => (hk_.1) hs_)) (fun k_ hk_ => ⟨hk_.1.1, hk_.1.2.1, hk_.1.2.2.1, hk_.1.2.2.2.1, hk_.1.2.2.2.2⟩)); have n3_ := Aside0.mk (Kd.S_mono (ok' := fun k_ => some k_ ≠ (.slice Ao45 t373.length co45 : Value).ownBlock ∧ some k_ ≠ (.slice Ao32 t355.length co32 : Value).ownBlock ∧ some k_ ≠ (.slice Ao33 t358.length co33 : Value).ownBlock ∧ some k_ ≠ (.slice Ao42 t368.length co42 : Value).ownBlock ∧ some k_ ≠ (.slice Ao53 t377.length co53 : Value).ownBlock ∧ some k_ ≠ (.slice Ao54 t380.length co54 : Value).ownBlock ∧ some k_ ≠ (.slice Ao86 t388.length co86 : Value).ownBlock ∧ some k_ ≠ (.slice Ao87 t391.length co87 : Value).ownBlock ∧ some k_ ≠ (.slice Ao90 t396.length co90 : Value).ownBlock ∧ Nm36 ≤ k_ ∧ k_ < Nm47 ∧ k_ < Nm85) (Kd.S_keptB (HO_373001.out) hkp (fun k_ hk_ hs_ => (hk_.1) hs_)) (fun k_ hk_ => ⟨hk_.1.1, hk_.1.2.1, hk_.1.2.2.1, hk_.1.2.2.2.1, hk_.1.2.2.2.2.1, hk_.1.2.2.2.2.2.1, hk_.1.2.2.2.2.2.2.1, hk_.1.2.2.2.2.2.2.2.1, hk_.1.2.2.2.2.2.2.2.2.1, hk_.1.2.2.2.2.2.2.2.2.2.1, hk_.1.2.2.2.2.2.2.2.2.2.2.1, hk_.1.2.2.2.2.2.2.2.2.2.2.2⟩)); have n4_ := Aside0.mk (Kd.R_mono (ok' := fun k_ => some k_ ≠ (.slice Ao45 t373.length co45 : Value).ownBlock ∧ some k_ ≠ (.slice Ao33 t358.length co33 : Value).ownBlock ∧ some k_ ≠ (.slice Ao54 t380.length co54 : Value).ownBlock ∧ some k_ ≠ (.slice Ao87 t391.length co87 : Value).ownBlock ∧ some k_ ≠ (.slice Ao90 t396.length co90 : Value).ownBlock) (Kd.R_keptB (HO_373002.out) hkp (fun k_ hk_ hs_ => (hk_.1) hs_)) (fun k_ hk_ => ⟨hk_.1.1, hk_.1.2.1, hk_.1.2.2.1, hk_.1.2.2.2.1, hk_.1.2.2.2.2⟩)); have n5_ := Aside0.mk (Kd.S_mono (ok' := fun k_ => some k_ ≠ (.slice Ao45 t373.length co45 : Value).ownBlock ∧ some k_ ≠ (.slice Ao32 t355.length co32 : Value).ownBlock ∧ some k_ ≠ (.slice Ao33 t358.length co33 : Value).ownBlock ∧ some k_ ≠ (.slice Ao41 t365.length co41 : Value).ownBlock ∧ some k_ ≠ (.slice Ao42 t368.length co42 : Value).ownBlock ∧ some k_ ≠ (.slice Ao54 t380.length co54 : Value).ownBlock ∧ some k_ ≠ (.slice Ao86 t388.length co86 : Value).ownBlock ∧ some k_ ≠ (.slice Ao87 t391.length co87 : Value).ownBlock ∧ some k_ ≠ (.slice Ao90 t396.length co90 : Value).ownBlock ∧ Nm47 ≤ k_ ∧ k_ < Nm85) (Kd.S_keptB (HO_386001.out) hkp (fun k_ hk_ hs_ => (hk_.1) hs_)) (fun k_ hk_ => ⟨hk_.1.1, hk_.1.2.1, hk_.1.2.2.1, hk_.1.2.2.2.1, hk_.1.2.2.2.2.1, hk_.1.2.2.2.2.2.1, hk_.1.2.2.2.2.2.2.1, hk_.1.2.2.2.2.2.2.2.1, hk_.1.2.2.2.2.2.2.2.2.1, hk_.1.2.2.2.2.2.2.2.2.2.1, hk_.1.2.2.2.2.2.2.2.2.2.2⟩)); have n6_ := Aside0.mk (Kd.R_mono (ok' := fun k_ => some k_ ≠ (.slice Ao45 t373.length co45 : Value).ownBlock ∧ some k_ ≠ (.slice Ao33 t358.length co33 : Value).ownBlock ∧ some k_ ≠ (.slice Ao42 t368.length co42 : Value).ownBlock ∧ some k_ ≠ (.slice Ao87 t391.length co87 : Value).ownBlock ∧ some k_ ≠ (.slice Ao90 t396.length co90 : Value).ownBlock) (Kd.R_keptB (HO_386002.out) hkp (fun k_ hk_ hs_ => (hk_.1) hs_)) (fun k_ hk_ => ⟨hk_.1.1, hk_.1.2.1, hk_.1.2.2.1, hk_.1.2.2.2.1, hk_.1.2.2.2.2⟩)); have n7_ := Aside0.mk (blk_kept (bz BK341) hkp (fun hs_ => (fun e_ => (Kd.R_ne HO_9.out BK341.out (by decide)) e_) hs_)); have n8_ := Aside0.mk (blk_kept (bz BK363) hkp (fun hs_ => (fun e_ => (Kd.R_ne HO_9.out BK363.out (by decide)) e_) hs_)); have n9_ := Aside0.mk (blk_kept (bz BK372) hkp (fun hs_ => (fun e_ => (Kd.R_ne HO_9.out BK372.out (by decide)) e_) hs_)); have n10_ := Aside0.mk (blk_kept (bz BK385) hkp (fun hs_ => (fun e_ => (Kd.R_ne HO_9.out BK385.out (by decide)) e_) hs_)); have n11_ := Aside0.mk (Kd.S_mono (ok' := fun k_ => some k_ ≠ (.slice Ao45 t373.length co45 : Value).ownBlock ∧ some k_ ≠ (.slice Ao32 t355.length co32 : Value).ownBlock ∧ some k_ ≠ (.slice Ao33 t358.length co33 : Value).ownBlock ∧ some k_ ≠ (.slice Ao41 t365.length co41 : Value).ownBlock ∧ some k_ ≠ (.slice Ao42 t368.length co42 : Value).ownBlock ∧ some k_ ≠ (.slice Ao53 t377.length co53 : Value).ownBlock ∧ some k_ ≠ (.slice Ao54 t380.length co54 : Value).ownBlock ∧ some k_ ≠ (.slice Ao87 t391.length co87 : Value).ownBlock ∧ some k_ ≠ (.slice Ao90 t396.length co90 : Value).ownBlock ∧ Nm85 ≤ k_) (Kd.S_keptB (HO390.out) hkp (fun k_ hk_ hs_ => (hk_.1) hs_)) (fun k_ hk_ => ⟨hk_.1.1, hk_.1.2.1, hk_.1.2.2.1, hk_.1.2.2.2.1, hk_.1.2.2.2.2.1, hk_.1.2.2.2.2.2.1, hk_.1.2.2.2.2.2.2.1, hk_.1.2.2.2.2.2.2.2.1, hk_.1.2.2.2.2.2.2.2.2.1, hk_.1.2.2.2.2.2.2.2.2.2⟩)); have n12_ := Aside0.mk (Kd.R_mono (ok' := fun k_ => some k_ ≠ (.slice Ao45 t373.length co45 : Value).ownBlock ∧ some k_ ≠ (.slice Ao33 t358.length co33 : Value).ownBlock ∧ some k_ ≠ (.slice Ao42 t368.length co42 : Value).ownBlock ∧ some k_ ≠ (.slice Ao54 t380.length co54 : Value).ownBlock ∧ some k_ ≠ (.slice Ao90 t396.length co90 : Value).ownBlock) (Kd.R_keptB (HO393.out) hkp (fun k_ hk_ hs_ => (hk_.1) hs_)) (fun k_ hk_ => ⟨hk_.1.1, hk_.1.2.1, hk_.1.2.2.1, hk_.1.2.2.2.1, hk_.1.2.2.2.2⟩)); have n13_ := Aside0.mk (Kd.R_mono (ok' := fun k_ => some k_ ≠ (.slice Ao45 t373.length co45 : Value).ownBlock ∧ some k_ ≠ (.slice Ao33 t358.length co33 : Value).ownBlock ∧ some k_ ≠ (.slice Ao42 t368.length co42 : Value).ownBlock ∧ some k_ ≠ (.slice Ao54 t380.length co54 : Value).ownBlock ∧ some k_ ≠ (.slice Ao87 t391.length co87 : Value).ownBlock) (Kd.R_keptB (HO398.out) hkp (fun k_ hk_ hs_ => (hk_.1) hs_)) (fun k_ hk_ => ⟨hk_.1.1, hk_.1.2.1, hk_.1.2.2.1, hk_.1.2.2.2.1, hk_.1.2.2.2.2⟩)); have n14_ := Aside0.mk (hb); clear HO_9 HO_364001 HO_364002 HO_373001 HO_373002 HO_386001 HO_386002 BK341 BK363 BK372 BK385 HO390 HO393 HO398 HB; have HO_9 := n0_; have HO_364001 := n1_; have HO_364002 := n2_; have HO_373001 := n3_; have HO_373002 := n4_; have HO_386001 := n5_; have HO_386002 := n6_; have BK341 := n7_; have BK363 := n8_; have BK372 := n9_; have BK385 := n10_; have HO390 := n11_; have HO393 := n12_; have HO398 := n13_; have HB := n14_; clear n0_ n1_ n2_ n3_ n4_ n5_ n6_ n7_ n8_ n9_ n10_ n11_ n12_ n13_ n14_; (try clear hb); (try clear hkp); (try clear hy0)))
        (try simp only [Act.put, List.setIfInBounds_toArray, List.set_cons_zero, List.set_cons_succ])
        go_cut [80] (fun v80 wc => ∃ (kq : Nat) (x80_81 : Bool), v80 = .bool x80_81 ∧ Aside0 (laws_FnExactAfterDeaths.j1 kq l1 t362 x80_81 a0_0 l0_1 l0_2 a0_3 t354 t355 t358 t361 t376 t377 t380 t383 = some r) ∧ Aside0 (kq ≤ kj15) ∧ Aside0 (Kd.S (Kd.slice 3 (Kd.int .i64)) 23 wc w.heap.size (fun k_ => some k_ ≠ ((.slice Ao33 t358.length co33) : Value).ownBlock ∧ some k_ ≠ ((.slice Ao41 t365.length co41) : Value).ownBlock ∧ some k_ ≠ ((.slice Ao42 t368.length co42) : Value).ownBlock ∧ some k_ ≠ ((.slice Ao53 t377.length co53) : Value).ownBlock ∧ some k_ ≠ ((.slice Ao54 t380.length co54) : Value).ownBlock ∧ Nm28 ≤ k_ ∧ k_ < Nm36 ∧ k_ < Nm47 ∧ k_ < Nm85) (.slice Ao32 t355.length co32) t355) ∧ Aside0 (Kd.R (Kd.int .i64) 3 wc w.heap.size (fun k_ => some k_ ≠ ((.slice Ao42 t368.length co42) : Value).ownBlock ∧ some k_ ≠ ((.slice Ao54 t380.length co54) : Value).ownBlock) (.slice Ao33 t358.length co33) t358) ∧ Aside0 (Kd.S (Kd.slice 3 (Kd.int .i64)) 23 wc w.heap.size (fun k_ => some k_ ≠ ((.slice Ao32 t355.length co32) : Value).ownBlock ∧ some k_ ≠ ((.slice Ao33 t358.length co33) : Value).ownBlock ∧ some k_ ≠ ((.slice Ao42 t368.length co42) : Value).ownBlock ∧ some k_ ≠ ((.slice Ao53 t377.length co53) : Value).ownBlock ∧ some k_ ≠ ((.slice Ao54 t380.length co54) : Value).ownBlock ∧ Nm36 ≤ k_ ∧ k_ < Nm47 ∧ k_ < Nm85) (.slice Ao41 t365.length co41) t401) ∧ Aside0 (Kd.R (Kd.int .i64) 3 wc w.heap.size (fun k_ => some k_ ≠ ((.slice Ao33 t358.length co33) : Value).ownBlock ∧ some k_ ≠ ((.slice Ao54 t380.length co54) : Value).ownBlock) (.slice Ao42 t368.length co42) t402) ∧ Aside0 (Kd.S (Kd.slice 3 (Kd.int .i64)) 23 wc w.heap.size (fun k_ => some k_ ≠ ((.slice Ao32 t355.length co32) : Value).ownBlock ∧ some k_ ≠ ((.slice Ao33 t358.length co33) : Value).ownBlock ∧ some k_ ≠ ((.slice Ao41 t365.length co41) : Value).ownBlock ∧ some k_ ≠ ((.slice Ao42 t368.length co42) : Value).ownBlock ∧ some k_ ≠ ((.slice Ao54 t380.length co54) : Value).ownBlock ∧ Nm47 ≤ k_ ∧ k_ < Nm85) (.slice Ao53 t377.length co53) t377) ∧ Aside0 (Kd.R (Kd.int .i64) 3 wc w.heap.size (fun k_ => some k_ ≠ ((.slice Ao33 t358.length co33) : Value).ownBlock ∧ some k_ ≠ ((.slice Ao42 t368.length co42) : Value).ownBlock) (.slice Ao54 t380.length co54) t380) ∧ Aside0 (wc.heap[gb341]? = some (.cells #[.int .i64 a0_0, (.slice A0_1 l0_1.length c0_1), (.slice A0_2 l0_2.length c0_2), .int .i64 a0_3] 25 (0, 0))) ∧ Aside0 (wc.heap[gb363]? = some (.cells #[.int .i64 t354, (.slice Ao32 t355.length co32), (.slice Ao33 t358.length co33), .int .i64 t361] 28 (0, 0))) ∧ Aside0 (wc.heap[gb372]? = some (.cells #[.int .i64 t364, (.slice Ao41 t365.length co41), (.slice Ao42 t368.length co42), .int .i64 t371] 28 (0, 0))) ∧ Aside0 (wc.heap[gb385]? = some (.cells #[.int .i64 t376, (.slice Ao53 t377.length co53), (.slice Ao54 t380.length co54), .int .i64 t383] 28 (0, 0))) ∧ Aside0 (Below w.heap.size w wc))
        case first =>
         have H := HC82.out
         clear HC82
         by_cases c97 : t403 < 0
         ·rw [if_pos c97] at H
          have c97b0 : decide (t403 < 0) = true := decide_eq_true c97
          clear c97
          (first | rw [c97b0] | (simp only [i64_w, i32_w]; rw [c97b0]) | skip)
          have H' := Aside0.mk H
          clear H
          go_wp2
          go_meet
          case rel => exact ⟨_, (true), (by first | rfl | (simp; done) | (simp [*]; done)), H', ⟨by have := HJ15.out; first | omega | exact Nat.le_refl _⟩, ⟨mS HO_364001⟩, ⟨mR HO_364002⟩, ⟨mS HO_373001⟩, ⟨mR HO_373002⟩, ⟨mS HO_386001⟩, ⟨mR HO_386002⟩, ⟨bz BK341⟩, ⟨bz BK363⟩, ⟨bz BK372⟩, ⟨bz BK385⟩, ⟨by exact bh⟩⟩
         ·rw [if_neg c97] at H
          have c97b0 : decide (t403 < 0) = false := decide_eq_false c97
          clear c97
          (first | rw [c97b0] | (simp only [i64_w, i32_w]; rw [c97b0]) | skip)
          replace H := Option.bind_eq_some_iff.mp H
          obtain ⟨t405, A980, H⟩ := H
          replace H : (if t405 = true then (laws_FnExactAfterDeaths.j1 kj15 l1 t362 (t384 != t362) a0_0 l0_1 l0_2 a0_3 t354 t355 t358 t361 t376 t377 t380 t383) else (laws_FnExactAfterDeaths.j1 kj15 l1 t362 true a0_0 l0_1 l0_2 a0_3 t354 t355 t358 t361 t376 t377 t380 t383)) = some r := H
          have A98 := Aside0.mk A980
          clear A980
          by_cases c99 : t405 = true
          ·subst c99
           have H1 : (laws_FnExactAfterDeaths.j1 kj15 l1 t362 (t384 != t362) a0_0 l0_1 l0_2 a0_3 t354 t355 t358 t361 t376 t377 t380 t383) = some r := by rw [if_pos rfl] at H; exact H
           clear H
           have H := H1
           clear H1
           have H' := Aside0.mk H
           clear H
           have hnb100 := NB385_341.out
           have hnc100 := NB341_385.out
           have hnb101 := NB385_363.out
           have hnc101 := NB363_385.out
           have hnb102 := NB385_372.out
           have hnc102 := NB372_385.out
           have hcz103_0 := cz0 BK385
           have hcz103_1 := cz1 BK385
           have hcz103_2 := cz2 BK385
           have hcz103_3 := cz3 BK385
           have hfz103_0 := blk_frozen BK385.out 0
           have hfz103_1 := blk_frozen BK385.out 1
           have hfz103_2 := blk_frozen BK385.out 2
           have hfz103_3 := blk_frozen BK385.out 3
           have hnb104 := NB363_341.out
           have hnc104 := NB341_363.out
           have hnb105 := NB363_372.out
           have hnc105 := NB372_363.out
           have hcz106_0 := cz0 BK363
           have hcz106_1 := cz1 BK363
           have hcz106_2 := cz2 BK363
           have hcz106_3 := cz3 BK363
           have hfz106_0 := blk_frozen BK363.out 0
           have hfz106_1 := blk_frozen BK363.out 1
           have hfz106_2 := blk_frozen BK363.out 2
           have hfz106_3 := blk_frozen BK363.out 3
           go_wp2_with (first | (go_at_call 20; (with_reducible refine (laws_eqCourt.calls kj15 t376 _ _ t377 _ _ t380 t383 t354 _ _ t355 _ _ t358 t361 true _ ?side1 ?side2 ?side3 ?side4 ?side5 ?side6 ?side7 ?side8 A98.out).mono ?_); (case side1 => repeat (first | exact (Kd.S_reads' HO_386001.out).2.2 | (with_reducible refine Kd.C_alloc ?_ _) | (with_reducible refine Kd.C_drewN ?_ _) | (with_reducible refine Kd.C_drew ?_))); (case side2 => exact (Kd.S_reads' HO_386001.out).2.1); (case side3 => repeat (first | exact (Kd.R_reads' HO_386002.out).2.2 | (with_reducible refine Kd.C_alloc ?_ _) | (with_reducible refine Kd.C_drewN ?_ _) | (with_reducible refine Kd.C_drew ?_))); (case side4 => exact (Kd.R_reads' HO_386002.out).2.1); (case side5 => repeat (first | exact (Kd.S_reads' HO_364001.out).2.2 | (with_reducible refine Kd.C_alloc ?_ _) | (with_reducible refine Kd.C_drewN ?_ _) | (with_reducible refine Kd.C_drew ?_))); (case side6 => exact (Kd.S_reads' HO_364001.out).2.1); (case side7 => repeat (first | exact (Kd.R_reads' HO_364002.out).2.2 | (with_reducible refine Kd.C_alloc ?_ _) | (with_reducible refine Kd.C_drewN ?_ _) | (with_reducible refine Kd.C_drew ?_))); (case side8 => exact (Kd.R_reads' HO_364002.out).2.1); rintro e w107 ⟨rfl, hb⟩; have n0_ := Aside0.mk (Kd.R_below (rz HO_9) hb); have n1_ := Aside0.mk (Kd.S_below (sz HO_364001) hb); have n2_ := Aside0.mk (Kd.R_below (rz HO_364002) hb); have n3_ := Aside0.mk (Kd.S_below (sz HO_373001) hb); have n4_ := Aside0.mk (Kd.R_below (rz HO_373002) hb); have n5_ := Aside0.mk (Kd.S_below (sz HO_386001) hb); have n6_ := Aside0.mk (Kd.R_below (rz HO_386002) hb); have n7_ := Aside0.mk (Kd.S_below (sz HO390) hb); have n8_ := Aside0.mk (Kd.R_below (rz HO393) hb); have n9_ := Aside0.mk (Kd.R_below (rz HO398) hb); have n10_ := Aside0.mk (blk_below (bz BK341) hb); have n11_ := Aside0.mk (blk_below (bz BK363) hb); have n12_ := Aside0.mk (blk_below (bz BK372) hb); have n13_ := Aside0.mk (blk_below (bz BK385) hb); have n14_ := Aside0.mk (below_step bh hb); clear HO_9 HO_364001 HO_364002 HO_373001 HO_373002 HO_386001 HO_386002 HO390 HO393 HO398 BK341 BK363 BK372 BK385 HB; have HO_9 := n0_; have HO_364001 := n1_; have HO_364002 := n2_; have HO_373001 := n3_; have HO_373002 := n4_; have HO_386001 := n5_; have HO_386002 := n6_; have HO390 := n7_; have HO393 := n8_; have HO398 := n9_; have BK341 := n10_; have BK363 := n11_; have BK372 := n12_; have BK385 := n13_; have HB := n14_; clear n0_ n1_ n2_ n3_ n4_ n5_ n6_ n7_ n8_ n9_ n10_ n11_ n12_ n13_ n14_; (try clear hb); (try clear hb2); (try clear hk); (try clear hi)))
           go_meet
           case rel => exact ⟨_, ((t384 != t362)), (by first | rfl | (simp; done) | (simp [*]; done)), H', ⟨by have := HJ15.out; first | omega | exact Nat.le_refl _⟩, ⟨mS HO_364001⟩, ⟨mR HO_364002⟩, ⟨mS HO_373001⟩, ⟨mR HO_373002⟩, ⟨mS HO_386001⟩, ⟨mR HO_386002⟩, ⟨bz BK341⟩, ⟨bz BK363⟩, ⟨bz BK372⟩, ⟨bz BK385⟩, ⟨by exact bh⟩⟩
          ·replace c99 := Bool.eq_false_iff.mpr c99
           subst c99
           have H1 : (laws_FnExactAfterDeaths.j1 kj15 l1 t362 true a0_0 l0_1 l0_2 a0_3 t354 t355 t358 t361 t376 t377 t380 t383) = some r := by rw [if_neg (show ¬ (false = true) by decide)] at H; exact H
           clear H
           have H := H1
           clear H1
           have H' := Aside0.mk H
           clear H
           have hnb108 := NB385_341.out
           have hnc108 := NB341_385.out
           have hnb109 := NB385_363.out
           have hnc109 := NB363_385.out
           have hnb110 := NB385_372.out
           have hnc110 := NB372_385.out
           have hcz111_0 := cz0 BK385
           have hcz111_1 := cz1 BK385
           have hcz111_2 := cz2 BK385
           have hcz111_3 := cz3 BK385
           have hfz111_0 := blk_frozen BK385.out 0
           have hfz111_1 := blk_frozen BK385.out 1
           have hfz111_2 := blk_frozen BK385.out 2
           have hfz111_3 := blk_frozen BK385.out 3
           have hnb112 := NB363_341.out
           have hnc112 := NB341_363.out
           have hnb113 := NB363_372.out
           have hnc113 := NB372_363.out
           have hcz114_0 := cz0 BK363
           have hcz114_1 := cz1 BK363
           have hcz114_2 := cz2 BK363
           have hcz114_3 := cz3 BK363
           have hfz114_0 := blk_frozen BK363.out 0
           have hfz114_1 := blk_frozen BK363.out 1
           have hfz114_2 := blk_frozen BK363.out 2
           have hfz114_3 := blk_frozen BK363.out 3
           go_wp2_with (first | (go_at_call 20; (with_reducible refine (laws_eqCourt.calls kj15 t376 _ _ t377 _ _ t380 t383 t354 _ _ t355 _ _ t358 t361 false _ ?side1 ?side2 ?side3 ?side4 ?side5 ?side6 ?side7 ?side8 A98.out).mono ?_); (case side1 => repeat (first | exact (Kd.S_reads' HO_386001.out).2.2 | (with_reducible refine Kd.C_alloc ?_ _) | (with_reducible refine Kd.C_drewN ?_ _) | (with_reducible refine Kd.C_drew ?_))); (case side2 => exact (Kd.S_reads' HO_386001.out).2.1); (case side3 => repeat (first | exact (Kd.R_reads' HO_386002.out).2.2 | (with_reducible refine Kd.C_alloc ?_ _) | (with_reducible refine Kd.C_drewN ?_ _) | (with_reducible refine Kd.C_drew ?_))); (case side4 => exact (Kd.R_reads' HO_386002.out).2.1); (case side5 => repeat (first | exact (Kd.S_reads' HO_364001.out).2.2 | (with_reducible refine Kd.C_alloc ?_ _) | (with_reducible refine Kd.C_drewN ?_ _) | (with_reducible refine Kd.C_drew ?_))); (case side6 => exact (Kd.S_reads' HO_364001.out).2.1); (case side7 => repeat (first | exact (Kd.R_reads' HO_364002.out).2.2 | (with_reducible refine Kd.C_alloc ?_ _) | (with_reducible refine Kd.C_drewN ?_ _) | (with_reducible refine Kd.C_drew ?_))); (case side8 => exact (Kd.R_reads' HO_364002.out).2.1); rintro e w115 ⟨rfl, hb⟩; have n0_ := Aside0.mk (Kd.R_below (rz HO_9) hb); have n1_ := Aside0.mk (Kd.S_below (sz HO_364001) hb); have n2_ := Aside0.mk (Kd.R_below (rz HO_364002) hb); have n3_ := Aside0.mk (Kd.S_below (sz HO_373001) hb); have n4_ := Aside0.mk (Kd.R_below (rz HO_373002) hb); have n5_ := Aside0.mk (Kd.S_below (sz HO_386001) hb); have n6_ := Aside0.mk (Kd.R_below (rz HO_386002) hb); have n7_ := Aside0.mk (Kd.S_below (sz HO390) hb); have n8_ := Aside0.mk (Kd.R_below (rz HO393) hb); have n9_ := Aside0.mk (Kd.R_below (rz HO398) hb); have n10_ := Aside0.mk (blk_below (bz BK341) hb); have n11_ := Aside0.mk (blk_below (bz BK363) hb); have n12_ := Aside0.mk (blk_below (bz BK372) hb); have n13_ := Aside0.mk (blk_below (bz BK385) hb); have n14_ := Aside0.mk (below_step bh hb); clear HO_9 HO_364001 HO_364002 HO_373001 HO_373002 HO_386001 HO_386002 HO390 HO393 HO398 BK341 BK363 BK372 BK385 HB; have HO_9 := n0_; have HO_364001 := n1_; have HO_364002 := n2_; have HO_373001 := n3_; have HO_373002 := n4_; have HO_386001 := n5_; have HO_386002 := n6_; have HO390 := n7_; have HO393 := n8_; have HO398 := n9_; have BK341 := n10_; have BK363 := n11_; have BK372 := n12_; have BK385 := n13_; have HB := n14_; clear n0_ n1_ n2_ n3_ n4_ n5_ n6_ n7_ n8_ n9_ n10_ n11_ n12_ n13_ n14_; (try clear hb); (try clear hb2); (try clear hk); (try clear hi)))
           go_meet
           case rel => exact ⟨_, (true), (by first | rfl | (simp; done) | (simp [*]; done)), H', ⟨by have := HJ15.out; first | omega | exact Nat.le_refl _⟩, ⟨mS HO_364001⟩, ⟨mR HO_364002⟩, ⟨mS HO_373001⟩, ⟨mR HO_373002⟩, ⟨mS HO_386001⟩, ⟨mR HO_386002⟩, ⟨bz BK341⟩, ⟨bz BK363⟩, ⟨bz BK372⟩, ⟨bz BK385⟩, ⟨by exact bh⟩⟩
        case rest =>
         clear HC82
         try clear c1
         try clear c2
         try clear p2
         try clear c3
         try clear c3b0
         try clear c3b1
         try clear c4
         try clear c5
         try clear c6
         try clear c6b0
         try clear c7
         try clear c9
         try clear c10
         try clear c11
         try clear c14
         try clear c16
         try clear c18
         try clear c20
         try clear c27
         try clear c28
         try clear c29
         try clear c30
         try clear c32
         try clear c38
         try clear c39
         try clear c47
         try clear c48
         try clear c49
         try clear c50
         try clear c51
         try clear c56
         try clear c57
         try clear c58
         try clear c59
         try clear c61
         try clear c62
         try clear c65
         try clear c66
         try clear c67
         try clear c69
         try clear c70
         try clear c73
         try clear c76
         try clear c79
         try clear c91
         try clear c92
         try clear c93
         try clear c97
         try clear c97b0
         try clear c99
         try clear c100
         try clear c101
         try clear c102
         try clear c104
         try clear c105
         try clear c108
         try clear c109
         try clear c110
         try clear c112
         try clear c113
         try clear hcz103_0
         try clear hcz103_1
         try clear hcz103_2
         try clear hcz103_3
         try clear hcz106_0
         try clear hcz106_1
         try clear hcz106_2
         try clear hcz106_3
         try clear hcz111_0
         try clear hcz111_1
         try clear hcz111_2
         try clear hcz111_3
         try clear hcz114_0
         try clear hcz114_1
         try clear hcz114_2
         try clear hcz114_3
         try clear hcz18_0
         try clear hcz18_1
         try clear hcz18_2
         try clear hcz18_3
         try clear hcz20_0
         try clear hcz20_1
         try clear hcz20_2
         try clear hcz20_3
         try clear hcz31_0
         try clear hcz31_1
         try clear hcz31_2
         try clear hcz31_3
         try clear hcz34_0
         try clear hcz34_1
         try clear hcz34_2
         try clear hcz34_3
         try clear hcz40_0
         try clear hcz40_1
         try clear hcz40_2
         try clear hcz40_3
         try clear hcz44_0
         try clear hcz44_1
         try clear hcz44_2
         try clear hcz44_3
         try clear hcz52_0
         try clear hcz52_1
         try clear hcz52_2
         try clear hcz52_3
         try clear hcz60_0
         try clear hcz60_1
         try clear hcz60_2
         try clear hcz60_3
         try clear hcz63_0
         try clear hcz63_1
         try clear hcz63_2
         try clear hcz63_3
         try clear hcz68_0
         try clear hcz68_1
         try clear hcz68_2
         try clear hcz68_3
         try clear hcz71_0
         try clear hcz71_1
         try clear hcz71_2
         try clear hcz71_3
         try clear hcz8_0
         try clear hcz8_1
         try clear hcz8_2
         try clear hcz8_3
         try clear hcz94_0
         try clear hcz94_1
         try clear hcz94_2
         try clear hcz94_3
         try clear hfz103_0
         try clear hfz103_1
         try clear hfz103_2
         try clear hfz103_3
         try clear hfz106_0
         try clear hfz106_1
         try clear hfz106_2
         try clear hfz106_3
         try clear hfz111_0
         try clear hfz111_1
         try clear hfz111_2
         try clear hfz111_3
         try clear hfz114_0
         try clear hfz114_1
         try clear hfz114_2
         try clear hfz114_3
         try clear hfz18_0
         try clear hfz18_1
         try clear hfz18_2
         try clear hfz18_3
         try clear hfz20_0
         try clear hfz20_1
         try clear hfz20_2
         try clear hfz20_3
         try clear hfz31_0
         try clear hfz31_1
         try clear hfz31_2
         try clear hfz31_3
         try clear hfz34_0
         try clear hfz34_1
         try clear hfz34_2
         try clear hfz34_3
         try clear hfz40_0
         try clear hfz40_1
         try clear hfz40_2
         try clear hfz40_3
         try clear hfz44_0
         try clear hfz44_1
         try clear hfz44_2
         try clear hfz44_3
         try clear hfz52_0
         try clear hfz52_1
         try clear hfz52_2
         try clear hfz52_3
         try clear hfz60_0
         try clear hfz60_1
         try clear hfz60_2
         try clear hfz60_3
         try clear hfz63_0
         try clear hfz63_1
         try clear hfz63_2
         try clear hfz63_3
         try clear hfz68_0
         try clear hfz68_1
         try clear hfz68_2
         try clear hfz68_3
         try clear hfz71_0
         try clear hfz71_1
         try clear hfz71_2
         try clear hfz71_3
         try clear hfz8_0
         try clear hfz8_1
         try clear hfz8_2
         try clear hfz8_3
         try clear hfz94_0
         try clear hfz94_1
         try clear hfz94_2
         try clear hfz94_3
         try clear p2
         obtain ⟨kq, x80_81, rfl, HA, HJ81, HO_364001, HO_364002, HO_373001, HO_373002, HO_386001, HO_386002, BK341, BK363, BK372, BK385, HB⟩ := hcut
         have hl373001_81 := (Kd.S_reads' HO_373001.out).1
         rw [hl373001_81] at HO_373001
         (try simp only [hl373001_81])
         (try simp only [hl373001_81] at BK341)
         (try simp only [hl373001_81] at BK363)
         (try simp only [hl373001_81] at BK372)
         (try simp only [hl373001_81] at BK385)
         (try simp only [hl373001_81] at HO_364001)
         (try simp only [hl373001_81] at HO_364002)
         (try simp only [hl373001_81] at HO_373002)
         (try simp only [hl373001_81] at HO_386001)
         (try simp only [hl373001_81] at HO_386002)
         have hl373002_81 := (Kd.R_reads' HO_373002.out).1
         rw [hl373002_81] at HO_373002
         (try simp only [hl373002_81])
         (try simp only [hl373002_81] at BK341)
         (try simp only [hl373002_81] at BK363)
         (try simp only [hl373002_81] at BK372)
         (try simp only [hl373002_81] at BK385)
         (try simp only [hl373002_81] at HO_364001)
         (try simp only [hl373002_81] at HO_364002)
         (try simp only [hl373002_81] at HO_373001)
         (try simp only [hl373002_81] at HO_386001)
         (try simp only [hl373002_81] at HO_386002)
         cases kq with
         | zero => exact absurd HA.out (by simp [laws_FnExactAfterDeaths.j1])
         | succ kj81 =>
          have H := HA.out
          clear HA
          simp only [laws_FnExactAfterDeaths.j1] at H
          by_cases c116 : x80_81 = true
          ·subst c116
           have H1 : (none) = some r := by rw [if_pos rfl] at H; exact H
           clear H
           have H := H1
           clear H1
           exact absurd H (by simp)
          ·replace c116 := Bool.eq_false_iff.mpr c116
           subst c116
           have H1 : ((laws_markCourt.f kj81 t376 t377 t380 t383 1).bind fun bt406 => ((laws_heldCourt.f kj81 t376 bt406.2.1 bt406.2.2 t383 1).bind fun t409 => (if t409 < 0 then (none) else (if t409 = bt406.1 then ((laws_toCourt.f kj81 a0_0 l0_1 l0_2 a0_3).bind fun bt410 => ((laws_toIntS.f kj81 l1).bind fun t418 => ((impl_AfterDeaths.f kj81 bt410.1 bt410.2.1 bt410.2.2.1 bt410.2.2.2 t418).bind fun bt421 => ((laws_eqCourt.f kj81 bt421.1 bt421.2.1 bt421.2.2.1 bt421.2.2.2.1 t354 t355 t358 t361).bind fun t431 => (if t431 = true then (laws_FnExactAfterDeaths.j2 kj81 bt406.1 (bt421.2.2.2.2 != t362) t376 bt406.2.1 bt406.2.2 t383) else (laws_FnExactAfterDeaths.j2 kj81 bt406.1 true t376 bt406.2.1 bt406.2.2 t383)))))) else (none))))) = some r := by rw [if_neg (show ¬ (false = true) by decide)] at H; exact H
           clear H
           have H := H1
           clear H1
           replace H := Option.bind_eq_some_iff.mp H
           obtain ⟨⟨t406, t407, t408⟩, A1170, H⟩ := H
           replace H : ((laws_heldCourt.f kj81 t376 t407 t408 t383 1).bind fun t409 => (if t409 < 0 then (none) else (if t409 = t406 then ((laws_toCourt.f kj81 a0_0 l0_1 l0_2 a0_3).bind fun bt410 => ((laws_toIntS.f kj81 l1).bind fun t418 => ((impl_AfterDeaths.f kj81 bt410.1 bt410.2.1 bt410.2.2.1 bt410.2.2.2 t418).bind fun bt421 => ((laws_eqCourt.f kj81 bt421.1 bt421.2.1 bt421.2.2.1 bt421.2.2.2.1 t354 t355 t358 t361).bind fun t431 => (if t431 = true then (laws_FnExactAfterDeaths.j2 kj81 t406 (bt421.2.2.2.2 != t362) t376 t407 t408 t383) else (laws_FnExactAfterDeaths.j2 kj81 t406 true t376 t407 t408 t383)))))) else (none)))) = some r := H
           have A117 := Aside0.mk A1170
           clear A1170
           replace H := Option.bind_eq_some_iff.mp H
           obtain ⟨t409, A1180, H⟩ := H
           replace H : (if t409 < 0 then (none) else (if t409 = t406 then ((laws_toCourt.f kj81 a0_0 l0_1 l0_2 a0_3).bind fun bt410 => ((laws_toIntS.f kj81 l1).bind fun t418 => ((impl_AfterDeaths.f kj81 bt410.1 bt410.2.1 bt410.2.2.1 bt410.2.2.2 t418).bind fun bt421 => ((laws_eqCourt.f kj81 bt421.1 bt421.2.1 bt421.2.2.1 bt421.2.2.2.1 t354 t355 t358 t361).bind fun t431 => (if t431 = true then (laws_FnExactAfterDeaths.j2 kj81 t406 (bt421.2.2.2.2 != t362) t376 t407 t408 t383) else (laws_FnExactAfterDeaths.j2 kj81 t406 true t376 t407 t408 t383)))))) else (none))) = some r := H
           have A118 := Aside0.mk A1180
           clear A1180
           by_cases c119 : t409 < 0
           ·rw [if_pos c119] at H
            exact absurd H (by simp)
           ·rw [if_neg c119] at H
            have c119b0 : decide (t409 < 0) = false := decide_eq_false c119
            (try (have c119z0 := c119b0; simp only [hl373001_81] at c119z0))
            (try (have c119z1 := c119b1; simp only [hl373001_81] at c119z1))
            (try (have c119z0 := c119b0; simp only [hl373002_81] at c119z0))
            (try (have c119z1 := c119b1; simp only [hl373002_81] at c119z1))
            clear c119
            by_cases c120 : t409 = t406
            ·rw [if_pos c120] at H
             have c120b0 : (t409 == t406) = true := beq_iff_eq.mpr c120
             have c120b1 : (t409 != t406) = false := bne_eq_false_iff_eq.mpr c120
             (try (have c120z0 := c120b0; simp only [hl373001_81] at c120z0))
             (try (have c120z1 := c120b1; simp only [hl373001_81] at c120z1))
             (try (have c120z0 := c120b0; simp only [hl373002_81] at c120z0))
             (try (have c120z1 := c120b1; simp only [hl373002_81] at c120z1))
             clear c120
             replace H := Option.bind_eq_some_iff.mp H
             obtain ⟨⟨t410, t411, t414, t417⟩, A1210, H⟩ := H
             replace H : ((laws_toIntS.f kj81 l1).bind fun t418 => ((impl_AfterDeaths.f kj81 t410 t411 t414 t417 t418).bind fun bt421 => ((laws_eqCourt.f kj81 bt421.1 bt421.2.1 bt421.2.2.1 bt421.2.2.2.1 t354 t355 t358 t361).bind fun t431 => (if t431 = true then (laws_FnExactAfterDeaths.j2 kj81 t406 (bt421.2.2.2.2 != t362) t376 t407 t408 t383) else (laws_FnExactAfterDeaths.j2 kj81 t406 true t376 t407 t408 t383))))) = some r := H
             have A121 := Aside0.mk A1210
             clear A1210
             replace H := Option.bind_eq_some_iff.mp H
             obtain ⟨t418, A1220, H⟩ := H
             replace H : ((impl_AfterDeaths.f kj81 t410 t411 t414 t417 t418).bind fun bt421 => ((laws_eqCourt.f kj81 bt421.1 bt421.2.1 bt421.2.2.1 bt421.2.2.2.1 t354 t355 t358 t361).bind fun t431 => (if t431 = true then (laws_FnExactAfterDeaths.j2 kj81 t406 (bt421.2.2.2.2 != t362) t376 t407 t408 t383) else (laws_FnExactAfterDeaths.j2 kj81 t406 true t376 t407 t408 t383)))) = some r := H
             have A122 := Aside0.mk A1220
             clear A1220
             replace H := Option.bind_eq_some_iff.mp H
             obtain ⟨⟨t421, t422, t425, t428, t429⟩, A1230, H⟩ := H
             replace H : ((laws_eqCourt.f kj81 t421 t422 t425 t428 t354 t355 t358 t361).bind fun t431 => (if t431 = true then (laws_FnExactAfterDeaths.j2 kj81 t406 (t429 != t362) t376 t407 t408 t383) else (laws_FnExactAfterDeaths.j2 kj81 t406 true t376 t407 t408 t383))) = some r := H
             have A123 := Aside0.mk A1230
             clear A1230
             have HC124 := Aside0.mk H
             clear H
             have hnb125 := NB385_341.out
             have hnc125 := NB341_385.out
             have hnb126 := NB385_363.out
             have hnc126 := NB363_385.out
             have hnb127 := NB385_372.out
             have hnc127 := NB372_385.out
             have hcz128_0 := cz0 BK385
             have hcz128_1 := cz1 BK385
             have hcz128_2 := cz2 BK385
             have hcz128_3 := cz3 BK385
             have hfz128_0 := blk_frozen BK385.out 0
             have hfz128_1 := blk_frozen BK385.out 1
             have hfz128_2 := blk_frozen BK385.out 2
             have hfz128_3 := blk_frozen BK385.out 3
             have n_ := Aside0.mk (Kd.S_mono (ok' := (fun k_ => some k_ ≠ (.slice Ao33 t358.length co33 : Value).ownBlock ∧ some k_ ≠ (.slice Ao41 t401.length co41 : Value).ownBlock ∧ some k_ ≠ (.slice Ao42 t402.length co42 : Value).ownBlock ∧ some k_ ≠ (.slice Ao53 t377.length co53 : Value).ownBlock ∧ some k_ ≠ (.slice Ao54 t380.length co54 : Value).ownBlock ∧ Nm28 ≤ k_ ∧ k_ < Nm36 ∧ k_ < Nm47 ∧ k_ < Nm85)) HO_364001.out (by (intro k_; (try simp only [and_imp, and_assoc, true_and]); intros; repeat' (first | assumption | exact trivial | apply And.intro))))
             clear HO_364001
             have HO_364001 := n_
             clear n_
             have n_ := Aside0.mk (Kd.R_mono (ok' := (fun k_ => some k_ ≠ (.slice Ao42 t402.length co42 : Value).ownBlock ∧ some k_ ≠ (.slice Ao54 t380.length co54 : Value).ownBlock)) HO_364002.out (by (intro k_; (try simp only [and_imp, and_assoc, true_and]); intros; repeat' (first | assumption | exact trivial | apply And.intro))))
             clear HO_364002
             have HO_364002 := n_
             clear n_
             have n_ := Aside0.mk (Kd.S_mono (ok' := (fun k_ => some k_ ≠ (.slice Ao32 t355.length co32 : Value).ownBlock ∧ some k_ ≠ (.slice Ao33 t358.length co33 : Value).ownBlock ∧ some k_ ≠ (.slice Ao42 t402.length co42 : Value).ownBlock ∧ some k_ ≠ (.slice Ao53 t377.length co53 : Value).ownBlock ∧ some k_ ≠ (.slice Ao54 t380.length co54 : Value).ownBlock ∧ Nm36 ≤ k_ ∧ k_ < Nm47 ∧ k_ < Nm85)) HO_373001.out (by (intro k_; (try simp only [and_imp, and_assoc, true_and]); intros; repeat' (first | assumption | exact trivial | apply And.intro))))
             clear HO_373001
             have HO_373001 := n_
             clear n_
             have n_ := Aside0.mk (Kd.R_mono (ok' := (fun k_ => some k_ ≠ (.slice Ao33 t358.length co33 : Value).ownBlock ∧ some k_ ≠ (.slice Ao54 t380.length co54 : Value).ownBlock)) HO_373002.out (by (intro k_; (try simp only [and_imp, and_assoc, true_and]); intros; repeat' (first | assumption | exact trivial | apply And.intro))))
             clear HO_373002
             have HO_373002 := n_
             clear n_
             have n_ := Aside0.mk (Kd.S_mono (ok' := (fun k_ => some k_ ≠ (.slice Ao32 t355.length co32 : Value).ownBlock ∧ some k_ ≠ (.slice Ao33 t358.length co33 : Value).ownBlock ∧ some k_ ≠ (.slice Ao41 t401.length co41 : Value).ownBlock ∧ some k_ ≠ (.slice Ao42 t402.length co42 : Value).ownBlock ∧ some k_ ≠ (.slice Ao54 t380.length co54 : Value).ownBlock ∧ Nm47 ≤ k_ ∧ k_ < Nm85)) HO_386001.out (by (intro k_; (try simp only [and_imp, and_assoc, true_and]); intros; repeat' (first | assumption | exact trivial | apply And.intro))))
             clear HO_386001
             have HO_386001 := n_
             clear n_
             have n_ := Aside0.mk (Kd.R_mono (ok' := (fun k_ => some k_ ≠ (.slice Ao33 t358.length co33 : Value).ownBlock ∧ some k_ ≠ (.slice Ao42 t402.length co42 : Value).ownBlock)) HO_386002.out (by (intro k_; (try simp only [and_imp, and_assoc, true_and]); intros; repeat' (first | assumption | exact trivial | apply And.intro))))
             clear HO_386002
             have HO_386002 := n_
             clear n_
             go_upto_region 31 with (first | ((with_reducible refine gate_callee (f := 28) rfl ?_); refine goesL_ (some 83) rfl rfl Try.func28 kr rfl #[.agg #[.int .i64 t376, .slice Ao53 t377.length co53, .slice Ao54 t380.length co54, .int .i64 t383], .int .i64 1] rfl lm ?_; (with_reducible refine (laws_markCourt.calls kj81 t376 (fun k_ => ((some k_ ≠ (.slice Ao32 t355.length co32 : Value).ownBlock ∧ (some k_ ≠ (.slice Ao33 t358.length co33 : Value).ownBlock ∧ (some k_ ≠ (.slice Ao41 t401.length co41 : Value).ownBlock ∧ (some k_ ≠ (.slice Ao42 t402.length co42 : Value).ownBlock ∧ (some k_ ≠ (.slice Ao54 t380.length co54 : Value).ownBlock ∧ (Nm47 ≤ k_ ∧ k_ < Nm85))))))) ∧ k_ ≠ gb341 ∧ k_ ≠ gb363 ∧ k_ ≠ gb372 ∧ k_ ≠ gb385) (.slice Ao53 t377.length co53) t377 (fun k_ => some k_ = (.slice Ao54 t380.length co54 : Value).ownBlock) (.slice Ao54 t380.length co54) t380 t383 1 t406 t407 t408 w _ ?side1 ?side2 ?side3 ?side4 A117.out).mono ?_); (case side1 => repeat (first | (with_reducible first | exact HB.out | apply below_alloc | apply pw_below_drewN | apply below_drew1 | refine below_set ?_ GE341.out | refine below_set ?_ GE363.out | refine below_set ?_ GE372.out | refine below_set ?_ GE385.out) | exact HB.out)); (case side2 => exact Kd.S_mono ((Kd.S_types (Kd.S_types (Kd.S_types (Kd.S_types HO_386001.out (bz BK341) (by decide)) (bz BK363) (by decide)) (bz BK372) (by decide)) (bz BK385) (by decide))) (by (intro k_; (try simp only [and_imp, and_assoc]); intros; repeat' (first | assumption | exact trivial | apply And.intro)))); (case side3 => exact fun k_ hp_ e_ => (hp_.1.2.2.2.2.1) e_); (case side4 => exact Kd.R_tight rfl HO_386002.out); rintro e w129 ⟨rfl, hy0, hy1, hb, hkp⟩; refine ⟨_, rfl, ?_⟩; have n0_ := Aside0.mk (Kd.S_mono (ok' := fun k_ => some k_ ≠ (.slice Ao33 t358.length co33 : Value).ownBlock ∧ some k_ ≠ (.slice Ao41 t401.length co41 : Value).ownBlock ∧ some k_ ≠ (.slice Ao42 t402.length co42 : Value).ownBlock ∧ some k_ ≠ (.slice Ao53 t377.length co53 : Value).ownBlock ∧ some k_ ≠ (.slice Ao54 t380.length co54 : Value).ownBlock ∧ Nm28 ≤ k_ ∧ k_ < Nm36 ∧ k_ < Nm47 ∧ k_ < Nm85) (Kd.S_keptB ((Kd.S_mono (ok' := fun k_ => (some k_ ≠ (.slice Ao33 t358.length co33 : Value).ownBlock ∧ (some k_ ≠ (.slice Ao41 t401.length co41 : Value).ownBlock ∧ (some k_ ≠ (.slice Ao42 t402.length co42 : Value).ownBlock ∧ (some k_ ≠ (.slice Ao53 t377.length co53 : Value).ownBlock ∧ (some k_ ≠ (.slice Ao54 t380.length co54 : Value).ownBlock ∧ (Nm28 ≤ k_ ∧ (k_ < Nm36 ∧ (k_ < Nm47 ∧ k_ < Nm85)))))))) ∧ ¬ (fun k_ => ((some k_ ≠ (.slice Ao32 t355.length co32 : Value).ownBlock ∧ (some k_ ≠ (.slice Ao33 t358.length co33 : Value).ownBlock ∧ (some k_ ≠ (.slice Ao41 t401.length co41 : Value).ownBlock ∧ (some k_ ≠ (.slice Ao42 t402.length co42 : Value).ownBlock ∧ (some k_ ≠ (.slice Ao54 t380.length co54 : Value).ownBlock ∧ (Nm47 ≤ k_ ∧ k_ < Nm85))))))) ∧ k_ ≠ gb341 ∧ k_ ≠ gb363 ∧ k_ ≠ gb372 ∧ k_ ≠ gb385) k_) HO_364001.out (fun k_ hk => ⟨hk, fun hp_ => Nat.not_le.2 (hk.2.2.2.2.2.2.2.1) (hp_.1.2.2.2.2.2.1)⟩))) hkp (fun k_ hk_ hs_ => Or.elim hs_ (fun e_ => (hk_.2) e_) (fun e_ => (hk_.1.2.2.2.2.1) e_))) (fun k_ hk_ => ⟨hk_.1.1.1, hk_.1.1.2.1, hk_.1.1.2.2.1, hk_.1.1.2.2.2.1, hk_.1.1.2.2.2.2.1, hk_.1.1.2.2.2.2.2.1, hk_.1.1.2.2.2.2.2.2.1, hk_.1.1.2.2.2.2.2.2.2.1, hk_.1.1.2.2.2.2.2.2.2.2⟩)); have n1_ := Aside0.mk (Kd.R_mono (ok' := fun k_ => some k_ ≠ (.slice Ao42 t402.length co42 : Value).ownBlock ∧ some k_ ≠ (.slice Ao54 t380.length co54 : Value).ownBlock) (Kd.R_keptB ((Kd.R_mono (ok' := fun k_ => (some k_ ≠ (.slice Ao42 t402.length co42 : Value).ownBlock ∧ some k_ ≠ (.slice Ao54 t380.length co54 : Value).ownBlock) ∧ ¬ (fun k_ => ((some k_ ≠ (.slice Ao32 t355.length co32 : Value).ownBlock ∧ (some k_ ≠ (.slice Ao33 t358.length co33 : Value).ownBlock ∧ (some k_ ≠ (.slice Ao41 t401.length co41 : Value).ownBlock ∧ (some k_ ≠ (.slice Ao42 t402.length co42 : Value).ownBlock ∧ (some k_ ≠ (.slice Ao54 t380.length co54 : Value).ownBlock ∧ (Nm47 ≤ k_ ∧ k_ < Nm85))))))) ∧ k_ ≠ gb341 ∧ k_ ≠ gb363 ∧ k_ ≠ gb372 ∧ k_ ≠ gb385) k_) (Kd.R_tight2 rfl HO_364002.out) (fun k_ hk => ⟨hk.2, fun hp_ => (hp_.1.2.1) hk.1⟩))) hkp (fun k_ hk_ hs_ => Or.elim hs_ (fun e_ => (hk_.2) e_) (fun e_ => (hk_.1.2) e_))) (fun k_ hk_ => ⟨hk_.1.1.1, hk_.1.1.2⟩)); have n2_ := Aside0.mk (Kd.S_mono (ok' := fun k_ => some k_ ≠ (.slice Ao32 t355.length co32 : Value).ownBlock ∧ some k_ ≠ (.slice Ao33 t358.length co33 : Value).ownBlock ∧ some k_ ≠ (.slice Ao42 t402.length co42 : Value).ownBlock ∧ some k_ ≠ (.slice Ao53 t377.length co53 : Value).ownBlock ∧ some k_ ≠ (.slice Ao54 t380.length co54 : Value).ownBlock ∧ Nm36 ≤ k_ ∧ k_ < Nm47 ∧ k_ < Nm85) (Kd.S_keptB ((Kd.S_mono (ok' := fun k_ => (some k_ ≠ (.slice Ao32 t355.length co32 : Value).ownBlock ∧ (some k_ ≠ (.slice Ao33 t358.length co33 : Value).ownBlock ∧ (some k_ ≠ (.slice Ao42 t402.length co42 : Value).ownBlock ∧ (some k_ ≠ (.slice Ao53 t377.length co53 : Value).ownBlock ∧ (some k_ ≠ (.slice Ao54 t380.length co54 : Value).ownBlock ∧ (Nm36 ≤ k_ ∧ (k_ < Nm47 ∧ k_ < Nm85))))))) ∧ ¬ (fun k_ => ((some k_ ≠ (.slice Ao32 t355.length co32 : Value).ownBlock ∧ (some k_ ≠ (.slice Ao33 t358.length co33 : Value).ownBlock ∧ (some k_ ≠ (.slice Ao41 t401.length co41 : Value).ownBlock ∧ (some k_ ≠ (.slice Ao42 t402.length co42 : Value).ownBlock ∧ (some k_ ≠ (.slice Ao54 t380.length co54 : Value).ownBlock ∧ (Nm47 ≤ k_ ∧ k_ < Nm85))))))) ∧ k_ ≠ gb341 ∧ k_ ≠ gb363 ∧ k_ ≠ gb372 ∧ k_ ≠ gb385) k_) HO_373001.out (fun k_ hk => ⟨hk, fun hp_ => Nat.not_le.2 (hk.2.2.2.2.2.2.1) (hp_.1.2.2.2.2.2.1)⟩))) hkp (fun k_ hk_ hs_ => Or.elim hs_ (fun e_ => (hk_.2) e_) (fun e_ => (hk_.1.2.2.2.2.1) e_))) (fun k_ hk_ => ⟨hk_.1.1.1, hk_.1.1.2.1, hk_.1.1.2.2.1, hk_.1.1.2.2.2.1, hk_.1.1.2.2.2.2.1, hk_.1.1.2.2.2.2.2.1, hk_.1.1.2.2.2.2.2.2.1, hk_.1.1.2.2.2.2.2.2.2⟩)); have n3_ := Aside0.mk (Kd.R_mono (ok' := fun k_ => some k_ ≠ (.slice Ao33 t358.length co33 : Value).ownBlock ∧ some k_ ≠ (.slice Ao54 t380.length co54 : Value).ownBlock) (Kd.R_keptB ((Kd.R_mono (ok' := fun k_ => (some k_ ≠ (.slice Ao33 t358.length co33 : Value).ownBlock ∧ some k_ ≠ (.slice Ao54 t380.length co54 : Value).ownBlock) ∧ ¬ (fun k_ => ((some k_ ≠ (.slice Ao32 t355.length co32 : Value).ownBlock ∧ (some k_ ≠ (.slice Ao33 t358.length co33 : Value).ownBlock ∧ (some k_ ≠ (.slice Ao41 t401.length co41 : Value).ownBlock ∧ (some k_ ≠ (.slice Ao42 t402.length co42 : Value).ownBlock ∧ (some k_ ≠ (.slice Ao54 t380.length co54 : Value).ownBlock ∧ (Nm47 ≤ k_ ∧ k_ < Nm85))))))) ∧ k_ ≠ gb341 ∧ k_ ≠ gb363 ∧ k_ ≠ gb372 ∧ k_ ≠ gb385) k_) (Kd.R_tight2 rfl HO_373002.out) (fun k_ hk => ⟨hk.2, fun hp_ => (hp_.1.2.2.2.1) hk.1⟩))) hkp (fun k_ hk_ hs_ => Or.elim hs_ (fun e_ => (hk_.2) e_) (fun e_ => (hk_.1.2) e_))) (fun k_ hk_ => ⟨hk_.1.1.1, hk_.1.1.2⟩)); have n4_ := Aside0.mk (Kd.S_mono hy0 (fun k_ hk_ => hk_.1)); have n5_ := Aside0.mk (Kd.R_reok rfl hy1 (fun k_ e_ => HO_386002.out.1 k_ e_)); have n6_ := Aside0.mk (blk_kept (bz BK341) hkp (fun hs_ => Or.elim hs_ (fun e_ => (fun e_ => (e_.2.1) rfl) e_) (fun e_ => (fun e_ => (Kd.R_ne HO_386002.out BK341.out (by decide)) e_) e_))); have n7_ := Aside0.mk (blk_kept (bz BK363) hkp (fun hs_ => Or.elim hs_ (fun e_ => (fun e_ => (e_.2.2.1) rfl) e_) (fun e_ => (fun e_ => (Kd.R_ne HO_386002.out BK363.out (by decide)) e_) e_))); have n8_ := Aside0.mk (blk_kept (bz BK372) hkp (fun hs_ => Or.elim hs_ (fun e_ => (fun e_ => (e_.2.2.2.1) rfl) e_) (fun e_ => (fun e_ => (Kd.R_ne HO_386002.out BK372.out (by decide)) e_) e_))); have n9_ := Aside0.mk (blk_kept (bz BK385) hkp (fun hs_ => Or.elim hs_ (fun e_ => (fun e_ => (e_.2.2.2.2) rfl) e_) (fun e_ => (fun e_ => (Kd.R_ne HO_386002.out BK385.out (by decide)) e_) e_))); have n10_ := Aside0.mk (hb); clear HO_364001 HO_364002 HO_373001 HO_373002 HO_386001 HO_386002 BK341 BK363 BK372 BK385 HB; have HO_364001 := n0_; have HO_364002 := n1_; have HO_373001 := n2_; have HO_373002 := n3_; have HO_386001 := n4_; have HO_386002 := n5_; have BK341 := n6_; have BK363 := n7_; have BK372 := n8_; have BK385 := n9_; have HB := n10_; clear n0_ n1_ n2_ n3_ n4_ n5_ n6_ n7_ n8_ n9_ n10_; (try clear hb); (try clear hkp); (try clear hy0); (try clear hy1); have hcz130_0 := cz0 BK385; have hcz130_1 := cz1 BK385; have hcz130_2 := cz2 BK385; have hcz130_3 := cz3 BK385; have hfz130_0 := blk_frozen BK385.out 0; have hfz130_1 := blk_frozen BK385.out 1; have hfz130_2 := blk_frozen BK385.out 2; have hfz130_3 := blk_frozen BK385.out 3) | ((with_reducible refine gate_callee (f := 43) rfl ?_); refine goesL_ (some 86) rfl rfl Try.func43 kr rfl #[.agg #[.int .i64 t376, .slice Ao53 t407.length co53, .slice Ao54 t408.length co54, .int .i64 t383], .int .i64 1] rfl (by (try simp only [List.map_toArray, List.map_cons, List.map_nil]); first | done | (rw [show t407.length = t377.length from (Kd.S_reads' HO_386001.out).1.symm, show t408.length = t380.length from (Kd.R_reads' HO_386002.out).1.symm] <;> rfl) | rfl | (simp only [List.length_drop, List.length_take]; rfl)) ?_; (with_reducible refine (laws_heldCourt.calls kj81 t376 _ _ t407 _ _ t408 t383 1 t409 _ ?side1 ?side2 ?side3 ?side4 A118.out).mono ?_); (case side1 => repeat (first | exact (Kd.S_reads' HO_386001.out).2.2 | (with_reducible refine Kd.C_alloc ?_ _) | (with_reducible refine Kd.C_drewN ?_ _) | (with_reducible refine Kd.C_drew ?_))); (case side2 => rw [show t407.length = t377.length from (Kd.S_reads' HO_386001.out).1.symm]; exact (Kd.S_reads' HO_386001.out).2.1); (case side3 => repeat (first | exact (Kd.R_reads' HO_386002.out).2.2 | (with_reducible refine Kd.C_alloc ?_ _) | (with_reducible refine Kd.C_drewN ?_ _) | (with_reducible refine Kd.C_drew ?_))); (case side4 => rw [show t408.length = t380.length from (Kd.R_reads' HO_386002.out).1.symm]; exact (Kd.R_reads' HO_386002.out).2.1); rintro e w131 ⟨rfl, hb⟩; refine ⟨_, rfl, ?_⟩; have n0_ := Aside0.mk (Kd.S_below (sz HO_364001) hb); have n1_ := Aside0.mk (Kd.R_below (rz HO_364002) hb); have n2_ := Aside0.mk (Kd.S_below (sz HO_373001) hb); have n3_ := Aside0.mk (Kd.R_below (rz HO_373002) hb); have n4_ := Aside0.mk (Kd.S_below (sz HO_386001) hb); have n5_ := Aside0.mk (Kd.R_below (rz HO_386002) hb); have n6_ := Aside0.mk (blk_below (bz BK341) hb); have n7_ := Aside0.mk (blk_below (bz BK363) hb); have n8_ := Aside0.mk (blk_below (bz BK372) hb); have n9_ := Aside0.mk (blk_below (bz BK385) hb); have n10_ := Aside0.mk (below_step bh hb); clear HO_364001 HO_364002 HO_373001 HO_373002 HO_386001 HO_386002 BK341 BK363 BK372 BK385 HB; have HO_364001 := n0_; have HO_364002 := n1_; have HO_373001 := n2_; have HO_373002 := n3_; have HO_386001 := n4_; have HO_386002 := n5_; have BK341 := n6_; have BK363 := n7_; have BK372 := n8_; have BK385 := n9_; have HB := n10_; clear n0_ n1_ n2_ n3_ n4_ n5_ n6_ n7_ n8_ n9_ n10_; (try clear hb); (try clear hb2); (try clear hk); (try clear hi); have hnb132 := NB341_363.out; have hnc132 := NB363_341.out; have hnb133 := NB341_372.out; have hnc133 := NB372_341.out; have hcz134_0 := cz0 BK341; have hcz134_1 := cz1 BK341; have hcz134_2 := cz2 BK341; have hcz134_3 := cz3 BK341; have hfz134_0 := blk_frozen BK341.out 0; have hfz134_1 := blk_frozen BK341.out 1; have hfz134_2 := blk_frozen BK341.out 2; have hfz134_3 := blk_frozen BK341.out 3) | ((with_reducible refine gate_callee (f := 18) rfl ?_); refine goesL_ (some 94) rfl rfl Try.func18 kr rfl #[.agg #[.int .i64 a0_0, .slice A0_1 l0_1.length c0_1, .slice A0_2 l0_2.length c0_2, .int .i64 a0_3]] rfl lm ?_; (with_reducible refine (laws_toCourt.calls kj81 a0_0 _ _ l0_1 _ _ l0_2 a0_3 t410 t411 t414 t417 _ ?side1 ?side2 ?side3 ?side4 A121.out).mono ?_); (case side1 => repeat (first | exact (Kd.C_below HR0_1.out HB.out) | (with_reducible refine Kd.C_alloc ?_ _) | (with_reducible refine Kd.C_drewN ?_ _) | (with_reducible refine Kd.C_drew ?_))); (case side2 => exact HC0_1.out); (case side3 => repeat (first | exact (Kd.C_below HR0_2.out HB.out) | (with_reducible refine Kd.C_alloc ?_ _) | (with_reducible refine Kd.C_drewN ?_ _) | (with_reducible refine Kd.C_drew ?_))); (case side4 => exact HC0_2.out); rintro e w135 ⟨v412, v415, rfl, ho0, ho1, hb⟩; refine ⟨_, rfl, ?_⟩; obtain ⟨Nm136, hNm136⟩ := S_num ho0; have n0_ := Aside0.mk (S_ltN (Kd.S_told (Kd.S_told (Kd.S_old (sz HO_364001) hb) (Kd.S_base ho0)) (Kd.R_base ho1)) hNm136); have n1_ := Aside0.mk (Kd.R_elder' (rz HO_364002) (Kd.R_base ho1) hb); have n2_ := Aside0.mk (S_ltN (Kd.S_told (Kd.S_told (Kd.S_old (sz HO_373001) hb) (Kd.S_base ho0)) (Kd.R_base ho1)) hNm136); have n3_ := Aside0.mk (Kd.R_elder' (rz HO_373002) (Kd.R_base ho1) hb); have n4_ := Aside0.mk (S_ltN (Kd.S_told (Kd.S_told (Kd.S_old (sz HO_386001) hb) (Kd.S_base ho0)) (Kd.R_base ho1)) hNm136); have n5_ := Aside0.mk (Kd.R_elder' (rz HO_386002) (Kd.R_base ho1) hb); have n6_ := Aside0.mk (Kd.S_lower (Kd.S_new' (Kd.S_new' (Kd.S_new' (Kd.S_new' (Kd.S_new' (Kd.S_new' (S_geN ho0 hNm136) (Kd.S_lt (sz HO_364001))) (Kd.R_lt (rz HO_364002))) (Kd.S_lt (sz HO_373001))) (Kd.R_lt (rz HO_373002))) (Kd.S_lt (sz HO_386001))) (Kd.R_lt (rz HO_386002))) (below_size bh)); have n7_ := Aside0.mk (Kd.R_lower (Kd.R_new' (Kd.R_new' (Kd.R_new' ho1 (Kd.R_lt (rz HO_364002))) (Kd.R_lt (rz HO_373002))) (Kd.R_lt (rz HO_386002))) (below_size bh)); have n8_ := Aside0.mk (blk_below (bz BK341) hb); have n9_ := Aside0.mk (blk_below (bz BK363) hb); have n10_ := Aside0.mk (blk_below (bz BK372) hb); have n11_ := Aside0.mk (blk_below (bz BK385) hb); have n12_ := Aside0.mk (below_step bh hb); clear HO_364001 HO_364002 HO_373001 HO_373002 HO_386001 HO_386002 BK341 BK363 BK372 BK385 HB; have HO_364001 := n0_; have HO_364002 := n1_; have HO_373001 := n2_; have HO_373002 := n3_; have HO_386001 := n4_; have HO_386002 := n5_; have HO413 := n6_; have HO416 := n7_; have BK341 := n8_; have BK363 := n9_; have BK372 := n10_; have BK385 := n11_; have HB := n12_; clear n0_ n1_ n2_ n3_ n4_ n5_ n6_ n7_ n8_ n9_ n10_ n11_ n12_; (try clear hb); (try clear hb2); (try clear hk); (try clear hi); (try clear ho0); (try clear ho1)) | ((with_reducible refine gate_callee (f := 48) rfl ?_); refine goesL_ (some 96) rfl rfl Try.func48 kr rfl #[.slice A1 l1.length c1] rfl lm ?_; (with_reducible refine (laws_toIntS.calls kj81 _ _ l1 t418 _ ?side1 ?side2 A122.out).mono ?_); (case side1 => repeat (first | exact (Kd.C_below HR1.out HB.out) | (with_reducible refine Kd.C_alloc ?_ _) | (with_reducible refine Kd.C_drewN ?_ _) | (with_reducible refine Kd.C_drew ?_))); (case side2 => exact HC1.out); rintro e w137 ⟨v419, rfl, ho0, hb⟩; refine ⟨_, rfl, ?_⟩; have n0_ := Aside0.mk (Kd.S_elder' (sz HO_364001) (Kd.R_base ho0) hb); have n1_ := Aside0.mk (Kd.R_elder' (rz HO_364002) (Kd.R_base ho0) hb); have n2_ := Aside0.mk (Kd.S_elder' (sz HO_373001) (Kd.R_base ho0) hb); have n3_ := Aside0.mk (Kd.R_elder' (rz HO_373002) (Kd.R_base ho0) hb); have n4_ := Aside0.mk (Kd.S_elder' (sz HO_386001) (Kd.R_base ho0) hb); have n5_ := Aside0.mk (Kd.R_elder' (rz HO_386002) (Kd.R_base ho0) hb); have n6_ := Aside0.mk (Kd.S_elder' (sz HO413) (Kd.R_base ho0) hb); have n7_ := Aside0.mk (Kd.R_elder' (rz HO416) (Kd.R_base ho0) hb); have n8_ := Aside0.mk (Kd.R_lower (Kd.R_new' (Kd.R_new' (Kd.R_new' (Kd.R_new' ho0 (Kd.R_lt (rz HO_364002))) (Kd.R_lt (rz HO_373002))) (Kd.R_lt (rz HO_386002))) (Kd.R_lt (rz HO416))) (below_size bh)); have n9_ := Aside0.mk (blk_below (bz BK341) hb); have n10_ := Aside0.mk (blk_below (bz BK363) hb); have n11_ := Aside0.mk (blk_below (bz BK372) hb); have n12_ := Aside0.mk (blk_below (bz BK385) hb); have n13_ := Aside0.mk (below_step bh hb); clear HO_364001 HO_364002 HO_373001 HO_373002 HO_386001 HO_386002 HO413 HO416 BK341 BK363 BK372 BK385 HB; have HO_364001 := n0_; have HO_364002 := n1_; have HO_373001 := n2_; have HO_373002 := n3_; have HO_386001 := n4_; have HO_386002 := n5_; have HO413 := n6_; have HO416 := n7_; have HO420 := n8_; have BK341 := n9_; have BK363 := n10_; have BK372 := n11_; have BK385 := n12_; have HB := n13_; clear n0_ n1_ n2_ n3_ n4_ n5_ n6_ n7_ n8_ n9_ n10_ n11_ n12_ n13_; (try clear hb); (try clear hb2); (try clear hk); (try clear hi); (try clear ho0); obtain ⟨Ao138, co138, eo138⟩ := Kd.S_slice HO413.out; subst eo138; obtain ⟨Ao139, co139, eo139⟩ := Kd.R_slice HO416.out; subst eo139; obtain ⟨Ao140, co140, eo140⟩ := Kd.R_slice HO420.out; subst eo140) | ((with_reducible refine gate_callee (f := 32) rfl ?_); refine goesL_ (some 97) rfl rfl Try.func32 kr rfl #[.agg #[.int .i64 t410, .slice Ao138 t411.length co138, .slice Ao139 t414.length co139, .int .i64 t417], .slice Ao140 t418.length co140] rfl lm ?_; (with_reducible refine (impl_AfterDeaths.calls kj81 t410 _ _ t411 _ _ t414 t417 _ _ t418 t421 t422 t425 t428 t429 _ ?side1 ?side2 ?side3 ?side4 ?side5 ?side6 A123.out).mono ?_); (case side1 => repeat (first | exact (Kd.S_reads' HO413.out).2.2 | (with_reducible refine Kd.C_alloc ?_ _) | (with_reducible refine Kd.C_drewN ?_ _) | (with_reducible refine Kd.C_drew ?_))); (case side2 => exact (Kd.S_reads' HO413.out).2.1); (case side3 => repeat (first | exact (Kd.R_reads' HO416.out).2.2 | (with_reducible refine Kd.C_alloc ?_ _) | (with_reducible refine Kd.C_drewN ?_ _) | (with_reducible refine Kd.C_drew ?_))); (case side4 => exact (Kd.R_reads' HO416.out).2.1); (case side5 => repeat (first | exact (Kd.R_reads' HO420.out).2.2 | (with_reducible refine Kd.C_alloc ?_ _) | (with_reducible refine Kd.C_drewN ?_ _) | (with_reducible refine Kd.C_drew ?_))); (case side6 => exact (Kd.R_reads' HO420.out).2.1); rintro e w141 ⟨v423, v426, rfl, ho0, ho1, hb⟩; refine ⟨_, rfl, ?_⟩; obtain ⟨Nm142, hNm142⟩ := S_num ho0; have n0_ := Aside0.mk (S_ltN (Kd.S_told (Kd.S_told (Kd.S_old (sz HO_364001) hb) (Kd.S_base ho0)) (Kd.R_base ho1)) hNm142); have n1_ := Aside0.mk (Kd.R_elder' (rz HO_364002) (Kd.R_base ho1) hb); have n2_ := Aside0.mk (S_ltN (Kd.S_told (Kd.S_told (Kd.S_old (sz HO_373001) hb) (Kd.S_base ho0)) (Kd.R_base ho1)) hNm142); have n3_ := Aside0.mk (Kd.R_elder' (rz HO_373002) (Kd.R_base ho1) hb); have n4_ := Aside0.mk (S_ltN (Kd.S_told (Kd.S_told (Kd.S_old (sz HO_386001) hb) (Kd.S_base ho0)) (Kd.R_base ho1)) hNm142); have n5_ := Aside0.mk (Kd.R_elder' (rz HO_386002) (Kd.R_base ho1) hb); have n6_ := Aside0.mk (S_ltN (Kd.S_told (Kd.S_told (Kd.S_old (sz HO413) hb) (Kd.S_base ho0)) (Kd.R_base ho1)) hNm142); have n7_ := Aside0.mk (Kd.R_elder' (rz HO416) (Kd.R_base ho1) hb); have n8_ := Aside0.mk (Kd.R_elder' (rz HO420) (Kd.R_base ho1) hb); have n9_ := Aside0.mk (Kd.S_lower (Kd.S_new' (Kd.S_new' (Kd.S_new' (Kd.S_new' (Kd.S_new' (Kd.S_new' (Kd.S_new' (Kd.S_new' (Kd.S_new' (S_geN ho0 hNm142) (Kd.S_lt (sz HO_364001))) (Kd.R_lt (rz HO_364002))) (Kd.S_lt (sz HO_373001))) (Kd.R_lt (rz HO_373002))) (Kd.S_lt (sz HO_386001))) (Kd.R_lt (rz HO_386002))) (Kd.S_lt (sz HO413))) (Kd.R_lt (rz HO416))) (Kd.R_lt (rz HO420))) (below_size bh)); have n10_ := Aside0.mk (Kd.R_lower (Kd.R_new' (Kd.R_new' (Kd.R_new' (Kd.R_new' (Kd.R_new' ho1 (Kd.R_lt (rz HO_364002))) (Kd.R_lt (rz HO_373002))) (Kd.R_lt (rz HO_386002))) (Kd.R_lt (rz HO416))) (Kd.R_lt (rz HO420))) (below_size bh)); have n11_ := Aside0.mk (blk_below (bz BK341) hb); have n12_ := Aside0.mk (blk_below (bz BK363) hb); have n13_ := Aside0.mk (blk_below (bz BK372) hb); have n14_ := Aside0.mk (blk_below (bz BK385) hb); have n15_ := Aside0.mk (below_step bh hb); clear HO_364001 HO_364002 HO_373001 HO_373002 HO_386001 HO_386002 HO413 HO416 HO420 BK341 BK363 BK372 BK385 HB; have HO_364001 := n0_; have HO_364002 := n1_; have HO_373001 := n2_; have HO_373002 := n3_; have HO_386001 := n4_; have HO_386002 := n5_; have HO413 := n6_; have HO416 := n7_; have HO420 := n8_; have HO424 := n9_; have HO427 := n10_; have BK341 := n11_; have BK363 := n12_; have BK372 := n13_; have BK385 := n14_; have HB := n15_; clear n0_ n1_ n2_ n3_ n4_ n5_ n6_ n7_ n8_ n9_ n10_ n11_ n12_ n13_ n14_ n15_; (try clear hb); (try clear hb2); (try clear hk); (try clear hi); (try clear ho0); (try clear ho1)) | ((with_reducible refine gate_dst (N := 15) rfl ?_); refine box_event ?hg (N := 15) ?hd (cs := #[.int .i64 0, .slice none 0 0, .slice none 0 0, .int .i64 0]) (t := 28) ?hr ?_; (case hd => rfl); (case hg => rfl); (case hr => first | (go_simp; done) | (go_simp; rfl)); intro gb430 hg w143 hbox hb; have n0_ := Aside0.mk (Kd.S_below (sz HO_364001) hb); have n1_ := Aside0.mk (Kd.R_below (rz HO_364002) hb); have n2_ := Aside0.mk (Kd.S_below (sz HO_373001) hb); have n3_ := Aside0.mk (Kd.R_below (rz HO_373002) hb); have n4_ := Aside0.mk (Kd.S_below (sz HO_386001) hb); have n5_ := Aside0.mk (Kd.R_below (rz HO_386002) hb); have n6_ := Aside0.mk (Kd.S_below (sz HO413) hb); have n7_ := Aside0.mk (Kd.R_below (rz HO416) hb); have n8_ := Aside0.mk (Kd.R_below (rz HO420) hb); have n9_ := Aside0.mk (Kd.S_below (sz HO424) hb); have n10_ := Aside0.mk (Kd.R_below (rz HO427) hb); have n11_ := Aside0.mk (blk_below (bz BK341) hb); have n12_ := Aside0.mk (blk_below (bz BK363) hb); have n13_ := Aside0.mk (blk_below (bz BK372) hb); have n14_ := Aside0.mk (blk_below (bz BK385) hb); have n15_ := Aside0.mk (below_step bh hb); have n16_ := Aside0.mk (hbox); have n17_ := Aside0.mk ((gs (W0 := w) hg bh)); have n18_ := Aside0.mk ((gs (W0 := w) hg bh)); have n19_ := Aside0.mk ((gn hg (bz BK341))); have n20_ := Aside0.mk ((gm hg (bz BK341))); have n21_ := Aside0.mk ((gn hg (bz BK363))); have n22_ := Aside0.mk ((gm hg (bz BK363))); have n23_ := Aside0.mk ((gn hg (bz BK372))); have n24_ := Aside0.mk ((gm hg (bz BK372))); have n25_ := Aside0.mk ((gn hg (bz BK385))); have n26_ := Aside0.mk ((gm hg (bz BK385))); clear HO_364001 HO_364002 HO_373001 HO_373002 HO_386001 HO_386002 HO413 HO416 HO420 HO424 HO427 BK341 BK363 BK372 BK385 HB; have HO_364001 := n0_; have HO_364002 := n1_; have HO_373001 := n2_; have HO_373002 := n3_; have HO_386001 := n4_; have HO_386002 := n5_; have HO413 := n6_; have HO416 := n7_; have HO420 := n8_; have HO424 := n9_; have HO427 := n10_; have BK341 := n11_; have BK363 := n12_; have BK372 := n13_; have BK385 := n14_; have HB := n15_; have BK430 := n16_; have GW430 := n17_; have GE430 := n18_; have NB341_430 := n19_; have NB430_341 := n20_; have NB363_430 := n21_; have NB430_363 := n22_; have NB372_430 := n23_; have NB430_372 := n24_; have NB385_430 := n25_; have NB430_385 := n26_; clear n0_ n1_ n2_ n3_ n4_ n5_ n6_ n7_ n8_ n9_ n10_ n11_ n12_ n13_ n14_ n15_ n16_ n17_ n18_ n19_ n20_ n21_ n22_ n23_ n24_ n25_ n26_ hb hbox hg; have hnb144 := NB430_341.out; have hnc144 := NB341_430.out; have hnb145 := NB430_363.out; have hnc145 := NB363_430.out; have hnb146 := NB430_372.out; have hnc146 := NB372_430.out; have hnb147 := NB430_385.out; have hnc147 := NB385_430.out; have hcz148_0 := cz0 BK430; have hcz148_1 := cz1 BK430; have hcz148_2 := cz2 BK430; have hcz148_3 := cz3 BK430; have hfz148_0 := blk_frozen BK430.out 0; have hfz148_1 := blk_frozen BK430.out 1; have hfz148_2 := blk_frozen BK430.out 2; have hfz148_3 := blk_frozen BK430.out 3; obtain ⟨Ao149, co149, eo149⟩ := Kd.S_slice HO424.out; subst eo149; obtain ⟨Ao150, co150, eo150⟩ := Kd.R_slice HO427.out; subst eo150))
             (try simp only [Act.put, List.setIfInBounds_toArray, List.set_cons_zero, List.set_cons_succ])
             go_cut [108] (fun v108 wc => ∃ (kq : Nat) (x108_123 : Bool), v108 = .bool x108_123 ∧ Aside0 (laws_FnExactAfterDeaths.j2 kq t406 x108_123 t376 t407 t408 t383 = some r) ∧ Aside0 (kq ≤ kj81) ∧ Aside0 (Kd.S (Kd.slice 3 (Kd.int .i64)) 23 wc w.heap.size (fun k_ => some k_ ≠ ((.slice Ao33 t358.length co33) : Value).ownBlock ∧ some k_ ≠ ((.slice Ao41 t401.length co41) : Value).ownBlock ∧ some k_ ≠ ((.slice Ao42 t402.length co42) : Value).ownBlock ∧ some k_ ≠ ((.slice Ao53 t377.length co53) : Value).ownBlock ∧ some k_ ≠ ((.slice Ao54 t380.length co54) : Value).ownBlock ∧ some k_ ≠ ((.slice Ao149 t422.length co149) : Value).ownBlock ∧ some k_ ≠ ((.slice Ao150 t425.length co150) : Value).ownBlock ∧ Nm28 ≤ k_ ∧ k_ < Nm36 ∧ k_ < Nm47 ∧ k_ < Nm85 ∧ k_ < Nm136 ∧ k_ < Nm142) (.slice Ao32 t355.length co32) t355) ∧ Aside0 (Kd.R (Kd.int .i64) 3 wc w.heap.size (fun k_ => some k_ ≠ ((.slice Ao42 t402.length co42) : Value).ownBlock ∧ some k_ ≠ ((.slice Ao54 t380.length co54) : Value).ownBlock ∧ some k_ ≠ ((.slice Ao150 t425.length co150) : Value).ownBlock) (.slice Ao33 t358.length co33) t358) ∧ Aside0 (Kd.S (Kd.slice 3 (Kd.int .i64)) 23 wc w.heap.size (fun k_ => some k_ ≠ ((.slice Ao32 t355.length co32) : Value).ownBlock ∧ some k_ ≠ ((.slice Ao33 t358.length co33) : Value).ownBlock ∧ some k_ ≠ ((.slice Ao42 t402.length co42) : Value).ownBlock ∧ some k_ ≠ ((.slice Ao53 t377.length co53) : Value).ownBlock ∧ some k_ ≠ ((.slice Ao54 t380.length co54) : Value).ownBlock ∧ some k_ ≠ ((.slice Ao149 t422.length co149) : Value).ownBlock ∧ some k_ ≠ ((.slice Ao150 t425.length co150) : Value).ownBlock ∧ Nm36 ≤ k_ ∧ k_ < Nm47 ∧ k_ < Nm85 ∧ k_ < Nm136 ∧ k_ < Nm142) (.slice Ao41 t401.length co41) t401) ∧ Aside0 (Kd.R (Kd.int .i64) 3 wc w.heap.size (fun k_ => some k_ ≠ ((.slice Ao33 t358.length co33) : Value).ownBlock ∧ some k_ ≠ ((.slice Ao54 t380.length co54) : Value).ownBlock ∧ some k_ ≠ ((.slice Ao150 t425.length co150) : Value).ownBlock) (.slice Ao42 t402.length co42) t402) ∧ Aside0 (Kd.S (Kd.slice 3 (Kd.int .i64)) 23 wc w.heap.size (fun k_ => some k_ ≠ ((.slice Ao32 t355.length co32) : Value).ownBlock ∧ some k_ ≠ ((.slice Ao33 t358.length co33) : Value).ownBlock ∧ some k_ ≠ ((.slice Ao41 t401.length co41) : Value).ownBlock ∧ some k_ ≠ ((.slice Ao42 t402.length co42) : Value).ownBlock ∧ some k_ ≠ ((.slice Ao54 t380.length co54) : Value).ownBlock ∧ some k_ ≠ ((.slice Ao149 t422.length co149) : Value).ownBlock ∧ some k_ ≠ ((.slice Ao150 t425.length co150) : Value).ownBlock ∧ Nm47 ≤ k_ ∧ k_ < Nm85 ∧ k_ < Nm136 ∧ k_ < Nm142) (.slice Ao53 t377.length co53) t407) ∧ Aside0 (Kd.R (Kd.int .i64) 3 wc w.heap.size (fun k_ => some k_ ≠ ((.slice Ao33 t358.length co33) : Value).ownBlock ∧ some k_ ≠ ((.slice Ao42 t402.length co42) : Value).ownBlock ∧ some k_ ≠ ((.slice Ao150 t425.length co150) : Value).ownBlock) (.slice Ao54 t380.length co54) t408) ∧ Aside0 (Kd.S (Kd.slice 3 (Kd.int .i64)) 23 wc w.heap.size (fun k_ => some k_ ≠ ((.slice Ao32 t355.length co32) : Value).ownBlock ∧ some k_ ≠ ((.slice Ao33 t358.length co33) : Value).ownBlock ∧ some k_ ≠ ((.slice Ao41 t401.length co41) : Value).ownBlock ∧ some k_ ≠ ((.slice Ao42 t402.length co42) : Value).ownBlock ∧ some k_ ≠ ((.slice Ao53 t377.length co53) : Value).ownBlock ∧ some k_ ≠ ((.slice Ao54 t380.length co54) : Value).ownBlock ∧ some k_ ≠ ((.slice Ao150 t425.length co150) : Value).ownBlock ∧ Nm142 ≤ k_) (.slice Ao149 t422.length co149) t422) ∧ Aside0 (Kd.R (Kd.int .i64) 3 wc w.heap.size (fun k_ => some k_ ≠ ((.slice Ao33 t358.length co33) : Value).ownBlock ∧ some k_ ≠ ((.slice Ao42 t402.length co42) : Value).ownBlock ∧ some k_ ≠ ((.slice Ao54 t380.length co54) : Value).ownBlock) (.slice Ao150 t425.length co150) t425) ∧ Aside0 (wc.heap[gb341]? = some (.cells #[.int .i64 a0_0, (.slice A0_1 l0_1.length c0_1), (.slice A0_2 l0_2.length c0_2), .int .i64 a0_3] 25 (0, 0))) ∧ Aside0 (wc.heap[gb363]? = some (.cells #[.int .i64 t354, (.slice Ao32 t355.length co32), (.slice Ao33 t358.length co33), .int .i64 t361] 28 (0, 0))) ∧ Aside0 (wc.heap[gb372]? = some (.cells #[.int .i64 t364, (.slice Ao41 t401.length co41), (.slice Ao42 t402.length co42), .int .i64 t371] 28 (0, 0))) ∧ Aside0 (wc.heap[gb385]? = some (.cells #[.int .i64 t376, (.slice Ao53 t377.length co53), (.slice Ao54 t380.length co54), .int .i64 t383] 28 (0, 0))) ∧ Aside0 (wc.heap[gb430]? = some (.cells #[.int .i64 t421, (.slice Ao149 t422.length co149), (.slice Ao150 t425.length co150), .int .i64 t428] 28 (0, 0))) ∧ Aside0 (Below w.heap.size w wc))
             case first =>
              have H := HC124.out
              clear HC124
              replace H := Option.bind_eq_some_iff.mp H
              obtain ⟨t431, A1510, H⟩ := H
              replace H : (if t431 = true then (laws_FnExactAfterDeaths.j2 kj81 t406 (t429 != t362) t376 t407 t408 t383) else (laws_FnExactAfterDeaths.j2 kj81 t406 true t376 t407 t408 t383)) = some r := H
              have A151 := Aside0.mk A1510
              clear A1510
              by_cases c152 : t431 = true
              ·subst c152
               have H1 : (laws_FnExactAfterDeaths.j2 kj81 t406 (t429 != t362) t376 t407 t408 t383) = some r := by rw [if_pos rfl] at H; exact H
               clear H
               have H := H1
               clear H1
               have H' := Aside0.mk H
               clear H
               have hnb153 := NB430_341.out
               have hnc153 := NB341_430.out
               have hnb154 := NB430_363.out
               have hnc154 := NB363_430.out
               have hnb155 := NB430_372.out
               have hnc155 := NB372_430.out
               have hnb156 := NB430_385.out
               have hnc156 := NB385_430.out
               have hcz157_0 := cz0 BK430
               have hcz157_1 := cz1 BK430
               have hcz157_2 := cz2 BK430
               have hcz157_3 := cz3 BK430
               have hfz157_0 := blk_frozen BK430.out 0
               have hfz157_1 := blk_frozen BK430.out 1
               have hfz157_2 := blk_frozen BK430.out 2
               have hfz157_3 := blk_frozen BK430.out 3
               have hnb158 := NB363_341.out
               have hnc158 := NB341_363.out
               have hnb159 := NB363_372.out
               have hnc159 := NB372_363.out
               have hnb160 := NB363_385.out
               have hnc160 := NB385_363.out
               have hcz161_0 := cz0 BK363
               have hcz161_1 := cz1 BK363
               have hcz161_2 := cz2 BK363
               have hcz161_3 := cz3 BK363
               have hfz161_0 := blk_frozen BK363.out 0
               have hfz161_1 := blk_frozen BK363.out 1
               have hfz161_2 := blk_frozen BK363.out 2
               have hfz161_3 := blk_frozen BK363.out 3
               go_wp2_with (first | ((with_reducible refine gate_callee (f := 20) rfl ?_); refine goesL_ (some 102) rfl rfl Try.func20 kr rfl #[.agg #[.int .i64 t421, .slice Ao149 t422.length co149, .slice Ao150 t425.length co150, .int .i64 t428], .agg #[.int .i64 t354, .slice Ao32 t355.length co32, .slice Ao33 t358.length co33, .int .i64 t361]] rfl lm ?_; (with_reducible refine (laws_eqCourt.calls kj81 t421 _ _ t422 _ _ t425 t428 t354 _ _ t355 _ _ t358 t361 true _ ?side1 ?side2 ?side3 ?side4 ?side5 ?side6 ?side7 ?side8 A151.out).mono ?_); (case side1 => refine (Kd.S_reads' (e := 23) (base := w.heap.size) (ok := fun k_ => ((((((((((some k_ ≠ (.slice Ao150 t425.length co150 : Value).ownBlock ∧ Nm142 ≤ k_) ∧ some k_ ≠ (.slice Ao32 t355.length co32 : Value).ownBlock) ∧ some k_ ≠ (.slice Ao33 t358.length co33 : Value).ownBlock) ∧ some k_ ≠ (.slice Ao41 t401.length co41 : Value).ownBlock) ∧ some k_ ≠ (.slice Ao42 t402.length co42 : Value).ownBlock) ∧ some k_ ≠ (.slice Ao53 t377.length co53 : Value).ownBlock) ∧ some k_ ≠ (.slice Ao54 t380.length co54 : Value).ownBlock) ∧ some k_ ≠ (.slice Ao138 t411.length co138 : Value).ownBlock) ∧ some k_ ≠ (.slice Ao139 t414.length co139 : Value).ownBlock) ∧ some k_ ≠ (.slice Ao140 t418.length co140 : Value).ownBlock)) (n := t422.length) (c := co149) ?_).2.2; exact (fS HO424 BK430)); (case side2 => exact (Kd.S_reads' HO424.out).2.1); (case side3 => refine (Kd.R_reads' (e := 3) (base := w.heap.size) (ok := fun k_ => (((((True ∧ some k_ ≠ (.slice Ao33 t358.length co33 : Value).ownBlock) ∧ some k_ ≠ (.slice Ao42 t402.length co42 : Value).ownBlock) ∧ some k_ ≠ (.slice Ao54 t380.length co54 : Value).ownBlock) ∧ some k_ ≠ (.slice Ao139 t414.length co139 : Value).ownBlock) ∧ some k_ ≠ (.slice Ao140 t418.length co140 : Value).ownBlock)) (n := t425.length) (c := co150) ?_).2.2; exact (fR HO427 BK430)); (case side4 => exact (Kd.R_reads' HO427.out).2.1); (case side5 => refine (Kd.S_reads' (e := 23) (base := w.heap.size) (ok := fun k_ => ((((((((some k_ ≠ (.slice Ao33 t358.length co33 : Value).ownBlock ∧ (some k_ ≠ (.slice Ao41 t401.length co41 : Value).ownBlock ∧ (some k_ ≠ (.slice Ao42 t402.length co42 : Value).ownBlock ∧ (some k_ ≠ (.slice Ao53 t377.length co53 : Value).ownBlock ∧ (some k_ ≠ (.slice Ao54 t380.length co54 : Value).ownBlock ∧ (Nm28 ≤ k_ ∧ (k_ < Nm36 ∧ (k_ < Nm47 ∧ k_ < Nm85)))))))) ∧ some k_ ≠ (.slice Ao138 t411.length co138 : Value).ownBlock) ∧ some k_ ≠ (.slice Ao139 t414.length co139 : Value).ownBlock) ∧ k_ < Nm136) ∧ some k_ ≠ (.slice Ao140 t418.length co140 : Value).ownBlock) ∧ some k_ ≠ (.slice Ao149 t422.length co149 : Value).ownBlock) ∧ some k_ ≠ (.slice Ao150 t425.length co150 : Value).ownBlock) ∧ k_ < Nm142)) (n := t355.length) (c := co32) ?_).2.2; exact (fS HO_364001 BK430)); (case side6 => exact (Kd.S_reads' HO_364001.out).2.1); (case side7 => refine (Kd.R_reads' (e := 3) (base := w.heap.size) (ok := fun k_ => ((((some k_ ≠ (.slice Ao42 t402.length co42 : Value).ownBlock ∧ some k_ ≠ (.slice Ao54 t380.length co54 : Value).ownBlock) ∧ some k_ ≠ (.slice Ao139 t414.length co139 : Value).ownBlock) ∧ some k_ ≠ (.slice Ao140 t418.length co140 : Value).ownBlock) ∧ some k_ ≠ (.slice Ao150 t425.length co150 : Value).ownBlock)) (n := t358.length) (c := co33) ?_).2.2; exact (fR HO_364002 BK430)); (case side8 => exact (Kd.R_reads' HO_364002.out).2.1); rintro e w162 ⟨rfl, hb⟩; refine ⟨_, rfl, ?_⟩; have n0_ := Aside0.mk (Kd.S_below (fS HO_364001 BK430) hb); have n1_ := Aside0.mk (Kd.R_below (fR HO_364002 BK430) hb); have n2_ := Aside0.mk (Kd.S_below (fS HO_373001 BK430) hb); have n3_ := Aside0.mk (Kd.R_below (fR HO_373002 BK430) hb); have n4_ := Aside0.mk (Kd.S_below (fS HO_386001 BK430) hb); have n5_ := Aside0.mk (Kd.R_below (fR HO_386002 BK430) hb); have n6_ := Aside0.mk (Kd.S_below (fS HO413 BK430) hb); have n7_ := Aside0.mk (Kd.R_below (fR HO416 BK430) hb); have n8_ := Aside0.mk (Kd.R_below (fR HO420 BK430) hb); have n9_ := Aside0.mk (Kd.S_below (fS HO424 BK430) hb); have n10_ := Aside0.mk (Kd.R_below (fR HO427 BK430) hb); have n11_ := Aside0.mk (blk_below (g := gb341) (o := .cells #[.int .i64 a0_0, .slice A0_1 l0_1.length c0_1, .slice A0_2 l0_2.length c0_2, .int .i64 a0_3] 25 (0, 0)) (bf NB341_430 BK341) hb); have n12_ := Aside0.mk (blk_below (g := gb363) (o := .cells #[.int .i64 t354, .slice Ao32 t355.length co32, .slice Ao33 t358.length co33, .int .i64 t361] 28 (0, 0)) (bf NB363_430 BK363) hb); have n13_ := Aside0.mk (blk_below (g := gb372) (o := .cells #[.int .i64 t364, .slice Ao41 t401.length co41, .slice Ao42 t402.length co42, .int .i64 t371] 28 (0, 0)) (bf NB372_430 BK372) hb); have n14_ := Aside0.mk (blk_below (g := gb385) (o := .cells #[.int .i64 t376, .slice Ao53 t377.length co53, .slice Ao54 t380.length co54, .int .i64 t383] 28 (0, 0)) (bf NB385_430 BK385) hb); have n15_ := Aside0.mk (blk_below (g := gb430) (o := .cells #[.int .i64 t421, .slice Ao149 t422.length co149, .slice Ao150 t425.length co150, .int .i64 t428] 28 (0, 0)) (bp BK430) hb); have n16_ := Aside0.mk (below_step bh hb); clear HO_364001 HO_364002 HO_373001 HO_373002 HO_386001 HO_386002 HO413 HO416 HO420 HO424 HO427 BK341 BK363 BK372 BK385 BK430 HB; have HO_364001 := n0_; have HO_364002 := n1_; have HO_373001 := n2_; have HO_373002 := n3_; have HO_386001 := n4_; have HO_386002 := n5_; have HO413 := n6_; have HO416 := n7_; have HO420 := n8_; have HO424 := n9_; have HO427 := n10_; have BK341 := n11_; have BK363 := n12_; have BK372 := n13_; have BK385 := n14_; have BK430 := n15_; have HB := n16_; clear n0_ n1_ n2_ n3_ n4_ n5_ n6_ n7_ n8_ n9_ n10_ n11_ n12_ n13_ n14_ n15_ n16_; (try clear hb); (try clear hb2); (try clear hk); (try clear hi)))
               go_meet
               case rel => exact ⟨_, ((t429 != t362)), (by first | rfl | (simp; done) | (simp [*]; done)), H', ⟨by have := HJ15.out; have := HJ81.out; first | omega | exact Nat.le_refl _⟩, ⟨by (try simp only [hl373001_81]); (try simp only [hl373002_81]); (with_reducible repeat (first | apply Kd.S_alloc | apply Kd.S_drewN | apply Kd.S_drew)); exact Kd.S_mono HO_364001.out (fun _ hk => ⟨hk.1.1.1.1.1.1.1.1, ⟨hk.1.1.1.1.1.1.1.2.1, ⟨hk.1.1.1.1.1.1.1.2.2.1, ⟨hk.1.1.1.1.1.1.1.2.2.2.1, ⟨hk.1.1.1.1.1.1.1.2.2.2.2.1, ⟨hk.1.1.2, ⟨hk.1.2, ⟨hk.1.1.1.1.1.1.1.2.2.2.2.2.1, ⟨hk.1.1.1.1.1.1.1.2.2.2.2.2.2.1, ⟨hk.1.1.1.1.1.1.1.2.2.2.2.2.2.2.1, ⟨hk.1.1.1.1.1.1.1.2.2.2.2.2.2.2.2, ⟨hk.1.1.1.1.2, hk.2⟩⟩⟩⟩⟩⟩⟩⟩⟩⟩⟩⟩)⟩, ⟨by (try simp only [hl373001_81]); (try simp only [hl373002_81]); (with_reducible repeat (first | apply Kd.R_alloc | apply Kd.R_drewN | apply Kd.R_drew)); exact Kd.R_mono HO_364002.out (fun _ hk => ⟨hk.1.1.1.1, ⟨hk.1.1.1.2, hk.2⟩⟩)⟩, ⟨by (try simp only [hl373001_81]); (try simp only [hl373002_81]); (with_reducible repeat (first | apply Kd.S_alloc | apply Kd.S_drewN | apply Kd.S_drew)); exact Kd.S_mono HO_373001.out (fun _ hk => ⟨hk.1.1.1.1.1.1.1.1, ⟨hk.1.1.1.1.1.1.1.2.1, ⟨hk.1.1.1.1.1.1.1.2.2.1, ⟨hk.1.1.1.1.1.1.1.2.2.2.1, ⟨hk.1.1.1.1.1.1.1.2.2.2.2.1, ⟨hk.1.1.2, ⟨hk.1.2, ⟨hk.1.1.1.1.1.1.1.2.2.2.2.2.1, ⟨hk.1.1.1.1.1.1.1.2.2.2.2.2.2.1, ⟨hk.1.1.1.1.1.1.1.2.2.2.2.2.2.2, ⟨hk.1.1.1.1.2, hk.2⟩⟩⟩⟩⟩⟩⟩⟩⟩⟩⟩)⟩, ⟨by (try simp only [hl373001_81]); (try simp only [hl373002_81]); (with_reducible repeat (first | apply Kd.R_alloc | apply Kd.R_drewN | apply Kd.R_drew)); exact Kd.R_mono HO_373002.out (fun _ hk => ⟨hk.1.1.1.1, ⟨hk.1.1.1.2, hk.2⟩⟩)⟩, ⟨by (try simp only [hl373001_81]); (try simp only [hl373002_81]); (with_reducible repeat (first | apply Kd.S_alloc | apply Kd.S_drewN | apply Kd.S_drew)); exact Kd.S_mono HO_386001.out (fun _ hk => ⟨hk.1.1.1.1.1.1.1.1, ⟨hk.1.1.1.1.1.1.1.2.1, ⟨hk.1.1.1.1.1.1.1.2.2.1, ⟨hk.1.1.1.1.1.1.1.2.2.2.1, ⟨hk.1.1.1.1.1.1.1.2.2.2.2.1, ⟨hk.1.1.2, ⟨hk.1.2, ⟨hk.1.1.1.1.1.1.1.2.2.2.2.2.1, ⟨hk.1.1.1.1.1.1.1.2.2.2.2.2.2, ⟨hk.1.1.1.1.2, hk.2⟩⟩⟩⟩⟩⟩⟩⟩⟩⟩)⟩, ⟨by (try simp only [hl373001_81]); (try simp only [hl373002_81]); (with_reducible repeat (first | apply Kd.R_alloc | apply Kd.R_drewN | apply Kd.R_drew)); exact Kd.R_mono HO_386002.out (fun _ hk => ⟨hk.1.1.1.1, ⟨hk.1.1.1.2, hk.2⟩⟩)⟩, ⟨by (try simp only [hl373001_81]); (try simp only [hl373002_81]); (with_reducible repeat (first | apply Kd.S_alloc | apply Kd.S_drewN | apply Kd.S_drew)); exact Kd.S_mono HO424.out (fun _ hk => ⟨hk.1.1.1.1.1.1.1.1.2, ⟨hk.1.1.1.1.1.1.1.2, ⟨hk.1.1.1.1.1.1.2, ⟨hk.1.1.1.1.1.2, ⟨hk.1.1.1.1.2, ⟨hk.1.1.1.2, ⟨hk.1.1.1.1.1.1.1.1.1.1, hk.1.1.1.1.1.1.1.1.1.2⟩⟩⟩⟩⟩⟩⟩)⟩, ⟨by (try simp only [hl373001_81]); (try simp only [hl373002_81]); (with_reducible repeat (first | apply Kd.R_alloc | apply Kd.R_drewN | apply Kd.R_drew)); exact Kd.R_mono HO427.out (fun _ hk => ⟨hk.1.1.1.1.2, ⟨hk.1.1.1.2, hk.1.1.2⟩⟩)⟩, ⟨by (try simp only [hl373001_81]); (try simp only [hl373002_81]); (with_reducible repeat (first | refine blk_drewN ?_ _ | refine blk_drew ?_ | refine blk_alloc ?_ _)); exact BK341.out⟩, ⟨by (try simp only [hl373001_81]); (try simp only [hl373002_81]); (with_reducible repeat (first | refine blk_drewN ?_ _ | refine blk_drew ?_ | refine blk_alloc ?_ _)); exact BK363.out⟩, ⟨by (try simp only [hl373001_81]); (try simp only [hl373002_81]); (with_reducible repeat (first | refine blk_drewN ?_ _ | refine blk_drew ?_ | refine blk_alloc ?_ _)); exact BK372.out⟩, ⟨by (try simp only [hl373001_81]); (try simp only [hl373002_81]); (with_reducible repeat (first | refine blk_drewN ?_ _ | refine blk_drew ?_ | refine blk_alloc ?_ _)); exact BK385.out⟩, ⟨by (try simp only [hl373001_81]); (try simp only [hl373002_81]); (with_reducible repeat (first | refine blk_drewN ?_ _ | refine blk_drew ?_ | refine blk_alloc ?_ _)); exact BK430.out⟩, ⟨by exact bh⟩⟩
              ·replace c152 := Bool.eq_false_iff.mpr c152
               subst c152
               have H1 : (laws_FnExactAfterDeaths.j2 kj81 t406 true t376 t407 t408 t383) = some r := by rw [if_neg (show ¬ (false = true) by decide)] at H; exact H
               clear H
               have H := H1
               clear H1
               have H' := Aside0.mk H
               clear H
               have hnb163 := NB430_341.out
               have hnc163 := NB341_430.out
               have hnb164 := NB430_363.out
               have hnc164 := NB363_430.out
               have hnb165 := NB430_372.out
               have hnc165 := NB372_430.out
               have hnb166 := NB430_385.out
               have hnc166 := NB385_430.out
               have hcz167_0 := cz0 BK430
               have hcz167_1 := cz1 BK430
               have hcz167_2 := cz2 BK430
               have hcz167_3 := cz3 BK430
               have hfz167_0 := blk_frozen BK430.out 0
               have hfz167_1 := blk_frozen BK430.out 1
               have hfz167_2 := blk_frozen BK430.out 2
               have hfz167_3 := blk_frozen BK430.out 3
               have hnb168 := NB363_341.out
               have hnc168 := NB341_363.out
               have hnb169 := NB363_372.out
               have hnc169 := NB372_363.out
               have hnb170 := NB363_385.out
               have hnc170 := NB385_363.out
               have hcz171_0 := cz0 BK363
               have hcz171_1 := cz1 BK363
               have hcz171_2 := cz2 BK363
               have hcz171_3 := cz3 BK363
               have hfz171_0 := blk_frozen BK363.out 0
               have hfz171_1 := blk_frozen BK363.out 1
               have hfz171_2 := blk_frozen BK363.out 2
               have hfz171_3 := blk_frozen BK363.out 3
               go_wp2_with (first | ((with_reducible refine gate_callee (f := 20) rfl ?_); refine goesL_ (some 102) rfl rfl Try.func20 kr rfl #[.agg #[.int .i64 t421, .slice Ao149 t422.length co149, .slice Ao150 t425.length co150, .int .i64 t428], .agg #[.int .i64 t354, .slice Ao32 t355.length co32, .slice Ao33 t358.length co33, .int .i64 t361]] rfl lm ?_; (with_reducible refine (laws_eqCourt.calls kj81 t421 _ _ t422 _ _ t425 t428 t354 _ _ t355 _ _ t358 t361 false _ ?side1 ?side2 ?side3 ?side4 ?side5 ?side6 ?side7 ?side8 A151.out).mono ?_); (case side1 => refine (Kd.S_reads' (e := 23) (base := w.heap.size) (ok := fun k_ => ((((((((((some k_ ≠ (.slice Ao150 t425.length co150 : Value).ownBlock ∧ Nm142 ≤ k_) ∧ some k_ ≠ (.slice Ao32 t355.length co32 : Value).ownBlock) ∧ some k_ ≠ (.slice Ao33 t358.length co33 : Value).ownBlock) ∧ some k_ ≠ (.slice Ao41 t401.length co41 : Value).ownBlock) ∧ some k_ ≠ (.slice Ao42 t402.length co42 : Value).ownBlock) ∧ some k_ ≠ (.slice Ao53 t377.length co53 : Value).ownBlock) ∧ some k_ ≠ (.slice Ao54 t380.length co54 : Value).ownBlock) ∧ some k_ ≠ (.slice Ao138 t411.length co138 : Value).ownBlock) ∧ some k_ ≠ (.slice Ao139 t414.length co139 : Value).ownBlock) ∧ some k_ ≠ (.slice Ao140 t418.length co140 : Value).ownBlock)) (n := t422.length) (c := co149) ?_).2.2; exact (fS HO424 BK430)); (case side2 => exact (Kd.S_reads' HO424.out).2.1); (case side3 => refine (Kd.R_reads' (e := 3) (base := w.heap.size) (ok := fun k_ => (((((True ∧ some k_ ≠ (.slice Ao33 t358.length co33 : Value).ownBlock) ∧ some k_ ≠ (.slice Ao42 t402.length co42 : Value).ownBlock) ∧ some k_ ≠ (.slice Ao54 t380.length co54 : Value).ownBlock) ∧ some k_ ≠ (.slice Ao139 t414.length co139 : Value).ownBlock) ∧ some k_ ≠ (.slice Ao140 t418.length co140 : Value).ownBlock)) (n := t425.length) (c := co150) ?_).2.2; exact (fR HO427 BK430)); (case side4 => exact (Kd.R_reads' HO427.out).2.1); (case side5 => refine (Kd.S_reads' (e := 23) (base := w.heap.size) (ok := fun k_ => ((((((((some k_ ≠ (.slice Ao33 t358.length co33 : Value).ownBlock ∧ (some k_ ≠ (.slice Ao41 t401.length co41 : Value).ownBlock ∧ (some k_ ≠ (.slice Ao42 t402.length co42 : Value).ownBlock ∧ (some k_ ≠ (.slice Ao53 t377.length co53 : Value).ownBlock ∧ (some k_ ≠ (.slice Ao54 t380.length co54 : Value).ownBlock ∧ (Nm28 ≤ k_ ∧ (k_ < Nm36 ∧ (k_ < Nm47 ∧ k_ < Nm85)))))))) ∧ some k_ ≠ (.slice Ao138 t411.length co138 : Value).ownBlock) ∧ some k_ ≠ (.slice Ao139 t414.length co139 : Value).ownBlock) ∧ k_ < Nm136) ∧ some k_ ≠ (.slice Ao140 t418.length co140 : Value).ownBlock) ∧ some k_ ≠ (.slice Ao149 t422.length co149 : Value).ownBlock) ∧ some k_ ≠ (.slice Ao150 t425.length co150 : Value).ownBlock) ∧ k_ < Nm142)) (n := t355.length) (c := co32) ?_).2.2; exact (fS HO_364001 BK430)); (case side6 => exact (Kd.S_reads' HO_364001.out).2.1); (case side7 => refine (Kd.R_reads' (e := 3) (base := w.heap.size) (ok := fun k_ => ((((some k_ ≠ (.slice Ao42 t402.length co42 : Value).ownBlock ∧ some k_ ≠ (.slice Ao54 t380.length co54 : Value).ownBlock) ∧ some k_ ≠ (.slice Ao139 t414.length co139 : Value).ownBlock) ∧ some k_ ≠ (.slice Ao140 t418.length co140 : Value).ownBlock) ∧ some k_ ≠ (.slice Ao150 t425.length co150 : Value).ownBlock)) (n := t358.length) (c := co33) ?_).2.2; exact (fR HO_364002 BK430)); (case side8 => exact (Kd.R_reads' HO_364002.out).2.1); rintro e w172 ⟨rfl, hb⟩; refine ⟨_, rfl, ?_⟩; have n0_ := Aside0.mk (Kd.S_below (fS HO_364001 BK430) hb); have n1_ := Aside0.mk (Kd.R_below (fR HO_364002 BK430) hb); have n2_ := Aside0.mk (Kd.S_below (fS HO_373001 BK430) hb); have n3_ := Aside0.mk (Kd.R_below (fR HO_373002 BK430) hb); have n4_ := Aside0.mk (Kd.S_below (fS HO_386001 BK430) hb); have n5_ := Aside0.mk (Kd.R_below (fR HO_386002 BK430) hb); have n6_ := Aside0.mk (Kd.S_below (fS HO413 BK430) hb); have n7_ := Aside0.mk (Kd.R_below (fR HO416 BK430) hb); have n8_ := Aside0.mk (Kd.R_below (fR HO420 BK430) hb); have n9_ := Aside0.mk (Kd.S_below (fS HO424 BK430) hb); have n10_ := Aside0.mk (Kd.R_below (fR HO427 BK430) hb); have n11_ := Aside0.mk (blk_below (g := gb341) (o := .cells #[.int .i64 a0_0, .slice A0_1 l0_1.length c0_1, .slice A0_2 l0_2.length c0_2, .int .i64 a0_3] 25 (0, 0)) (bf NB341_430 BK341) hb); have n12_ := Aside0.mk (blk_below (g := gb363) (o := .cells #[.int .i64 t354, .slice Ao32 t355.length co32, .slice Ao33 t358.length co33, .int .i64 t361] 28 (0, 0)) (bf NB363_430 BK363) hb); have n13_ := Aside0.mk (blk_below (g := gb372) (o := .cells #[.int .i64 t364, .slice Ao41 t401.length co41, .slice Ao42 t402.length co42, .int .i64 t371] 28 (0, 0)) (bf NB372_430 BK372) hb); have n14_ := Aside0.mk (blk_below (g := gb385) (o := .cells #[.int .i64 t376, .slice Ao53 t377.length co53, .slice Ao54 t380.length co54, .int .i64 t383] 28 (0, 0)) (bf NB385_430 BK385) hb); have n15_ := Aside0.mk (blk_below (g := gb430) (o := .cells #[.int .i64 t421, .slice Ao149 t422.length co149, .slice Ao150 t425.length co150, .int .i64 t428] 28 (0, 0)) (bp BK430) hb); have n16_ := Aside0.mk (below_step bh hb); clear HO_364001 HO_364002 HO_373001 HO_373002 HO_386001 HO_386002 HO413 HO416 HO420 HO424 HO427 BK341 BK363 BK372 BK385 BK430 HB; have HO_364001 := n0_; have HO_364002 := n1_; have HO_373001 := n2_; have HO_373002 := n3_; have HO_386001 := n4_; have HO_386002 := n5_; have HO413 := n6_; have HO416 := n7_; have HO420 := n8_; have HO424 := n9_; have HO427 := n10_; have BK341 := n11_; have BK363 := n12_; have BK372 := n13_; have BK385 := n14_; have BK430 := n15_; have HB := n16_; clear n0_ n1_ n2_ n3_ n4_ n5_ n6_ n7_ n8_ n9_ n10_ n11_ n12_ n13_ n14_ n15_ n16_; (try clear hb); (try clear hb2); (try clear hk); (try clear hi)))
               go_meet
               case rel => exact ⟨_, (true), (by first | rfl | (simp; done) | (simp [*]; done)), H', ⟨by have := HJ15.out; have := HJ81.out; first | omega | exact Nat.le_refl _⟩, ⟨by (try simp only [hl373001_81]); (try simp only [hl373002_81]); (with_reducible repeat (first | apply Kd.S_alloc | apply Kd.S_drewN | apply Kd.S_drew)); exact Kd.S_mono HO_364001.out (fun _ hk => ⟨hk.1.1.1.1.1.1.1.1, ⟨hk.1.1.1.1.1.1.1.2.1, ⟨hk.1.1.1.1.1.1.1.2.2.1, ⟨hk.1.1.1.1.1.1.1.2.2.2.1, ⟨hk.1.1.1.1.1.1.1.2.2.2.2.1, ⟨hk.1.1.2, ⟨hk.1.2, ⟨hk.1.1.1.1.1.1.1.2.2.2.2.2.1, ⟨hk.1.1.1.1.1.1.1.2.2.2.2.2.2.1, ⟨hk.1.1.1.1.1.1.1.2.2.2.2.2.2.2.1, ⟨hk.1.1.1.1.1.1.1.2.2.2.2.2.2.2.2, ⟨hk.1.1.1.1.2, hk.2⟩⟩⟩⟩⟩⟩⟩⟩⟩⟩⟩⟩)⟩, ⟨by (try simp only [hl373001_81]); (try simp only [hl373002_81]); (with_reducible repeat (first | apply Kd.R_alloc | apply Kd.R_drewN | apply Kd.R_drew)); exact Kd.R_mono HO_364002.out (fun _ hk => ⟨hk.1.1.1.1, ⟨hk.1.1.1.2, hk.2⟩⟩)⟩, ⟨by (try simp only [hl373001_81]); (try simp only [hl373002_81]); (with_reducible repeat (first | apply Kd.S_alloc | apply Kd.S_drewN | apply Kd.S_drew)); exact Kd.S_mono HO_373001.out (fun _ hk => ⟨hk.1.1.1.1.1.1.1.1, ⟨hk.1.1.1.1.1.1.1.2.1, ⟨hk.1.1.1.1.1.1.1.2.2.1, ⟨hk.1.1.1.1.1.1.1.2.2.2.1, ⟨hk.1.1.1.1.1.1.1.2.2.2.2.1, ⟨hk.1.1.2, ⟨hk.1.2, ⟨hk.1.1.1.1.1.1.1.2.2.2.2.2.1, ⟨hk.1.1.1.1.1.1.1.2.2.2.2.2.2.1, ⟨hk.1.1.1.1.1.1.1.2.2.2.2.2.2.2, ⟨hk.1.1.1.1.2, hk.2⟩⟩⟩⟩⟩⟩⟩⟩⟩⟩⟩)⟩, ⟨by (try simp only [hl373001_81]); (try simp only [hl373002_81]); (with_reducible repeat (first | apply Kd.R_alloc | apply Kd.R_drewN | apply Kd.R_drew)); exact Kd.R_mono HO_373002.out (fun _ hk => ⟨hk.1.1.1.1, ⟨hk.1.1.1.2, hk.2⟩⟩)⟩, ⟨by (try simp only [hl373001_81]); (try simp only [hl373002_81]); (with_reducible repeat (first | apply Kd.S_alloc | apply Kd.S_drewN | apply Kd.S_drew)); exact Kd.S_mono HO_386001.out (fun _ hk => ⟨hk.1.1.1.1.1.1.1.1, ⟨hk.1.1.1.1.1.1.1.2.1, ⟨hk.1.1.1.1.1.1.1.2.2.1, ⟨hk.1.1.1.1.1.1.1.2.2.2.1, ⟨hk.1.1.1.1.1.1.1.2.2.2.2.1, ⟨hk.1.1.2, ⟨hk.1.2, ⟨hk.1.1.1.1.1.1.1.2.2.2.2.2.1, ⟨hk.1.1.1.1.1.1.1.2.2.2.2.2.2, ⟨hk.1.1.1.1.2, hk.2⟩⟩⟩⟩⟩⟩⟩⟩⟩⟩)⟩, ⟨by (try simp only [hl373001_81]); (try simp only [hl373002_81]); (with_reducible repeat (first | apply Kd.R_alloc | apply Kd.R_drewN | apply Kd.R_drew)); exact Kd.R_mono HO_386002.out (fun _ hk => ⟨hk.1.1.1.1, ⟨hk.1.1.1.2, hk.2⟩⟩)⟩, ⟨by (try simp only [hl373001_81]); (try simp only [hl373002_81]); (with_reducible repeat (first | apply Kd.S_alloc | apply Kd.S_drewN | apply Kd.S_drew)); exact Kd.S_mono HO424.out (fun _ hk => ⟨hk.1.1.1.1.1.1.1.1.2, ⟨hk.1.1.1.1.1.1.1.2, ⟨hk.1.1.1.1.1.1.2, ⟨hk.1.1.1.1.1.2, ⟨hk.1.1.1.1.2, ⟨hk.1.1.1.2, ⟨hk.1.1.1.1.1.1.1.1.1.1, hk.1.1.1.1.1.1.1.1.1.2⟩⟩⟩⟩⟩⟩⟩)⟩, ⟨by (try simp only [hl373001_81]); (try simp only [hl373002_81]); (with_reducible repeat (first | apply Kd.R_alloc | apply Kd.R_drewN | apply Kd.R_drew)); exact Kd.R_mono HO427.out (fun _ hk => ⟨hk.1.1.1.1.2, ⟨hk.1.1.1.2, hk.1.1.2⟩⟩)⟩, ⟨by (try simp only [hl373001_81]); (try simp only [hl373002_81]); (with_reducible repeat (first | refine blk_drewN ?_ _ | refine blk_drew ?_ | refine blk_alloc ?_ _)); exact BK341.out⟩, ⟨by (try simp only [hl373001_81]); (try simp only [hl373002_81]); (with_reducible repeat (first | refine blk_drewN ?_ _ | refine blk_drew ?_ | refine blk_alloc ?_ _)); exact BK363.out⟩, ⟨by (try simp only [hl373001_81]); (try simp only [hl373002_81]); (with_reducible repeat (first | refine blk_drewN ?_ _ | refine blk_drew ?_ | refine blk_alloc ?_ _)); exact BK372.out⟩, ⟨by (try simp only [hl373001_81]); (try simp only [hl373002_81]); (with_reducible repeat (first | refine blk_drewN ?_ _ | refine blk_drew ?_ | refine blk_alloc ?_ _)); exact BK385.out⟩, ⟨by (try simp only [hl373001_81]); (try simp only [hl373002_81]); (with_reducible repeat (first | refine blk_drewN ?_ _ | refine blk_drew ?_ | refine blk_alloc ?_ _)); exact BK430.out⟩, ⟨by exact bh⟩⟩
             case rest =>
              clear HC124
              try clear c1
              try clear c2
              try clear p2
              try clear c3
              try clear c3b0
              try clear c3b1
              try clear c4
              try clear c5
              try clear c6
              try clear c6b0
              try clear c7
              try clear c9
              try clear c10
              try clear c11
              try clear c12
              try clear c13
              try clear c14
              try clear c15
              try clear c16
              try clear c17
              try clear c18
              try clear c20
              try clear c27
              try clear c28
              try clear c29
              try clear c30
              try clear c32
              try clear c38
              try clear c39
              try clear c43
              try clear c47
              try clear c48
              try clear c49
              try clear c50
              try clear c51
              try clear c56
              try clear c57
              try clear c58
              try clear c59
              try clear c61
              try clear c62
              try clear c65
              try clear c66
              try clear c67
              try clear c69
              try clear c70
              try clear c73
              try clear c76
              try clear c79
              try clear c91
              try clear c92
              try clear c93
              try clear c97
              try clear c97b0
              try clear c99
              try clear c100
              try clear c101
              try clear c102
              try clear c104
              try clear c105
              try clear c108
              try clear c109
              try clear c110
              try clear c112
              try clear c113
              try clear c116
              try clear c119
              try clear c119b0
              try clear c119b1
              try clear c120
              try clear c120b0
              try clear c120b1
              try clear c125
              try clear c126
              try clear c127
              try clear c132
              try clear c133
              try clear c144
              try clear c145
              try clear c146
              try clear c147
              try clear c152
              try clear c153
              try clear c154
              try clear c155
              try clear c156
              try clear c158
              try clear c159
              try clear c160
              try clear c163
              try clear c164
              try clear c165
              try clear c166
              try clear c168
              try clear c169
              try clear c170
              try clear hcz103_0
              try clear hcz103_1
              try clear hcz103_2
              try clear hcz103_3
              try clear hcz106_0
              try clear hcz106_1
              try clear hcz106_2
              try clear hcz106_3
              try clear hcz111_0
              try clear hcz111_1
              try clear hcz111_2
              try clear hcz111_3
              try clear hcz114_0
              try clear hcz114_1
              try clear hcz114_2
              try clear hcz114_3
              try clear hcz128_0
              try clear hcz128_1
              try clear hcz128_2
              try clear hcz128_3
              try clear hcz130_0
              try clear hcz130_1
              try clear hcz130_2
              try clear hcz130_3
              try clear hcz134_0
              try clear hcz134_1
              try clear hcz134_2
              try clear hcz134_3
              try clear hcz148_0
              try clear hcz148_1
              try clear hcz148_2
              try clear hcz148_3
              try clear hcz157_0
              try clear hcz157_1
              try clear hcz157_2
              try clear hcz157_3
              try clear hcz161_0
              try clear hcz161_1
              try clear hcz161_2
              try clear hcz161_3
              try clear hcz167_0
              try clear hcz167_1
              try clear hcz167_2
              try clear hcz167_3
              try clear hcz171_0
              try clear hcz171_1
              try clear hcz171_2
              try clear hcz171_3
              try clear hcz18_0
              try clear hcz18_1
              try clear hcz18_2
              try clear hcz18_3
              try clear hcz20_0
              try clear hcz20_1
              try clear hcz20_2
              try clear hcz20_3
              try clear hcz31_0
              try clear hcz31_1
              try clear hcz31_2
              try clear hcz31_3
              try clear hcz34_0
              try clear hcz34_1
              try clear hcz34_2
              try clear hcz34_3
              try clear hcz40_0
              try clear hcz40_1
              try clear hcz40_2
              try clear hcz40_3
              try clear hcz44_0
              try clear hcz44_1
              try clear hcz44_2
              try clear hcz44_3
              try clear hcz52_0
              try clear hcz52_1
              try clear hcz52_2
              try clear hcz52_3
              try clear hcz60_0
              try clear hcz60_1
              try clear hcz60_2
              try clear hcz60_3
              try clear hcz63_0
              try clear hcz63_1
              try clear hcz63_2
              try clear hcz63_3
              try clear hcz68_0
              try clear hcz68_1
              try clear hcz68_2
              try clear hcz68_3
              try clear hcz71_0
              try clear hcz71_1
              try clear hcz71_2
              try clear hcz71_3
              try clear hcz8_0
              try clear hcz8_1
              try clear hcz8_2
              try clear hcz8_3
              try clear hcz94_0
              try clear hcz94_1
              try clear hcz94_2
              try clear hcz94_3
              try clear hfz103_0
              try clear hfz103_1
              try clear hfz103_2
              try clear hfz103_3
              try clear hfz106_0
              try clear hfz106_1
              try clear hfz106_2
              try clear hfz106_3
              try clear hfz111_0
              try clear hfz111_1
              try clear hfz111_2
              try clear hfz111_3
              try clear hfz114_0
              try clear hfz114_1
              try clear hfz114_2
              try clear hfz114_3
              try clear hfz128_0
              try clear hfz128_1
              try clear hfz128_2
              try clear hfz128_3
              try clear hfz130_0
              try clear hfz130_1
              try clear hfz130_2
              try clear hfz130_3
              try clear hfz134_0
              try clear hfz134_1
              try clear hfz134_2
              try clear hfz134_3
              try clear hfz148_0
              try clear hfz148_1
              try clear hfz148_2
              try clear hfz148_3
              try clear hfz157_0
              try clear hfz157_1
              try clear hfz157_2
              try clear hfz157_3
              try clear hfz161_0
              try clear hfz161_1
              try clear hfz161_2
              try clear hfz161_3
              try clear hfz167_0
              try clear hfz167_1
              try clear hfz167_2
              try clear hfz167_3
              try clear hfz171_0
              try clear hfz171_1
              try clear hfz171_2
              try clear hfz171_3
              try clear hfz18_0
              try clear hfz18_1
              try clear hfz18_2
              try clear hfz18_3
              try clear hfz20_0
              try clear hfz20_1
              try clear hfz20_2
              try clear hfz20_3
              try clear hfz31_0
              try clear hfz31_1
              try clear hfz31_2
              try clear hfz31_3
              try clear hfz34_0
              try clear hfz34_1
              try clear hfz34_2
              try clear hfz34_3
              try clear hfz40_0
              try clear hfz40_1
              try clear hfz40_2
              try clear hfz40_3
              try clear hfz44_0
              try clear hfz44_1
              try clear hfz44_2
              try clear hfz44_3
              try clear hfz52_0
              try clear hfz52_1
              try clear hfz52_2
              try clear hfz52_3
              try clear hfz60_0
              try clear hfz60_1
              try clear hfz60_2
              try clear hfz60_3
              try clear hfz63_0
              try clear hfz63_1
              try clear hfz63_2
              try clear hfz63_3
              try clear hfz68_0
              try clear hfz68_1
              try clear hfz68_2
              try clear hfz68_3
              try clear hfz71_0
              try clear hfz71_1
              try clear hfz71_2
              try clear hfz71_3
              try clear hfz8_0
              try clear hfz8_1
              try clear hfz8_2
              try clear hfz8_3
              try clear hfz94_0
              try clear hfz94_1
              try clear hfz94_2
              try clear hfz94_3
              try clear p2
              obtain ⟨kq, x108_123, rfl, HA, HJ123, HO_364001, HO_364002, HO_373001, HO_373002, HO_386001, HO_386002, HO_431001, HO_431002, BK341, BK363, BK372, BK385, BK430, HB⟩ := hcut
              have hl386001_123 := (Kd.S_reads' HO_386001.out).1
              rw [hl386001_123] at HO_386001
              (try simp only [hl386001_123])
              (try simp only [hl386001_123] at BK341)
              (try simp only [hl386001_123] at BK363)
              (try simp only [hl386001_123] at BK372)
              (try simp only [hl386001_123] at BK385)
              (try simp only [hl386001_123] at BK430)
              (try simp only [hl386001_123] at HO_364001)
              (try simp only [hl386001_123] at HO_364002)
              (try simp only [hl386001_123] at HO_373001)
              (try simp only [hl386001_123] at HO_373002)
              (try simp only [hl386001_123] at HO_386002)
              (try simp only [hl386001_123] at HO_431001)
              (try simp only [hl386001_123] at HO_431002)
              have hl386002_123 := (Kd.R_reads' HO_386002.out).1
              rw [hl386002_123] at HO_386002
              (try simp only [hl386002_123])
              (try simp only [hl386002_123] at BK341)
              (try simp only [hl386002_123] at BK363)
              (try simp only [hl386002_123] at BK372)
              (try simp only [hl386002_123] at BK385)
              (try simp only [hl386002_123] at BK430)
              (try simp only [hl386002_123] at HO_364001)
              (try simp only [hl386002_123] at HO_364002)
              (try simp only [hl386002_123] at HO_373001)
              (try simp only [hl386002_123] at HO_373002)
              (try simp only [hl386002_123] at HO_386001)
              (try simp only [hl386002_123] at HO_431001)
              (try simp only [hl386002_123] at HO_431002)
              cases kq with
              | zero => exact absurd HA.out (by simp [laws_FnExactAfterDeaths.j2])
              | succ kj123 =>
               have H := HA.out
               clear HA
               simp only [laws_FnExactAfterDeaths.j2] at H
               by_cases c173 : x108_123 = true
               ·subst c173
                have H1 : (none) = some r := by rw [if_pos rfl] at H; exact H
                clear H
                have H := H1
                clear H1
                exact absurd H (by simp)
               ·replace c173 := Bool.eq_false_iff.mpr c173
                subst c173
                have H1 : ((laws_heldCourt.f kj123 t376 t407 t408 t383 1).bind fun t432 => (if t432 < 0 then (none) else (if t432 = t406 then (some true) else (none)))) = some r := by rw [if_neg (show ¬ (false = true) by decide)] at H; exact H
                clear H
                have H := H1
                clear H1
                replace H := Option.bind_eq_some_iff.mp H
                obtain ⟨t432, A1740, H⟩ := H
                replace H : (if t432 < 0 then (none) else (if t432 = t406 then (some true) else (none))) = some r := H
                have A174 := Aside0.mk A1740
                clear A1740
                by_cases c175 : t432 < 0
                ·rw [if_pos c175] at H
                 exact absurd H (by simp)
                ·rw [if_neg c175] at H
                 have c175b0 : decide (t432 < 0) = false := decide_eq_false c175
                 (try (have c175z0 := c175b0; simp only [hl373001_81] at c175z0))
                 (try (have c175z1 := c175b1; simp only [hl373001_81] at c175z1))
                 (try (have c175z0 := c175b0; simp only [hl373002_81] at c175z0))
                 (try (have c175z1 := c175b1; simp only [hl373002_81] at c175z1))
                 (try (have c175z0 := c175b0; simp only [hl386001_123] at c175z0))
                 (try (have c175z1 := c175b1; simp only [hl386001_123] at c175z1))
                 (try (have c175z0 := c175b0; simp only [hl386002_123] at c175z0))
                 (try (have c175z1 := c175b1; simp only [hl386002_123] at c175z1))
                 clear c175
                 by_cases c176 : t432 = t406
                 ·rw [if_pos c176] at H
                  have c176b0 : (t432 == t406) = true := beq_iff_eq.mpr c176
                  have c176b1 : (t432 != t406) = false := bne_eq_false_iff_eq.mpr c176
                  (try (have c176z0 := c176b0; simp only [hl373001_81] at c176z0))
                  (try (have c176z1 := c176b1; simp only [hl373001_81] at c176z1))
                  (try (have c176z0 := c176b0; simp only [hl373002_81] at c176z0))
                  (try (have c176z1 := c176b1; simp only [hl373002_81] at c176z1))
                  (try (have c176z0 := c176b0; simp only [hl386001_123] at c176z0))
                  (try (have c176z1 := c176b1; simp only [hl386001_123] at c176z1))
                  (try (have c176z0 := c176b0; simp only [hl386002_123] at c176z0))
                  (try (have c176z1 := c176b1; simp only [hl386002_123] at c176z1))
                  clear c176
                  obtain rfl := Option.some.inj H
                  have hnb177 := NB385_341.out
                  have hnc177 := NB341_385.out
                  have hnb178 := NB385_363.out
                  have hnc178 := NB363_385.out
                  have hnb179 := NB385_372.out
                  have hnc179 := NB372_385.out
                  have hnb180 := NB385_430.out
                  have hnc180 := NB430_385.out
                  have hcz181_0 := cz0 BK385
                  have hcz181_1 := cz1 BK385
                  have hcz181_2 := cz2 BK385
                  have hcz181_3 := cz3 BK385
                  have hfz181_0 := blk_frozen BK385.out 0
                  have hfz181_1 := blk_frozen BK385.out 1
                  have hfz181_2 := blk_frozen BK385.out 2
                  have hfz181_3 := blk_frozen BK385.out 3
                  go_wp2_with (first | ((with_reducible refine gate_callee (f := 43) rfl ?_); refine goesL_ (some 111) rfl rfl Try.func43 kr rfl #[.agg #[.int .i64 t376, .slice Ao53 t407.length co53, .slice Ao54 t408.length co54, .int .i64 t383], .int .i64 1] rfl lm ?_; (with_reducible refine (laws_heldCourt.calls kj123 t376 _ _ t407 _ _ t408 t383 1 t432 _ ?side1 ?side2 ?side3 ?side4 A174.out).mono ?_); (case side1 => repeat (first | exact (Kd.S_reads' HO_386001.out).2.2 | (with_reducible refine Kd.C_alloc ?_ _) | (with_reducible refine Kd.C_drewN ?_ _) | (with_reducible refine Kd.C_drew ?_))); (case side2 => exact (Kd.S_reads' HO_386001.out).2.1); (case side3 => repeat (first | exact (Kd.R_reads' HO_386002.out).2.2 | (with_reducible refine Kd.C_alloc ?_ _) | (with_reducible refine Kd.C_drewN ?_ _) | (with_reducible refine Kd.C_drew ?_))); (case side4 => exact (Kd.R_reads' HO_386002.out).2.1); rintro e w182 ⟨rfl, hb⟩; refine ⟨_, rfl, ?_⟩; have n0_ := Aside0.mk (Kd.S_below (sz HO_364001) hb); have n1_ := Aside0.mk (Kd.R_below (rz HO_364002) hb); have n2_ := Aside0.mk (Kd.S_below (sz HO_373001) hb); have n3_ := Aside0.mk (Kd.R_below (rz HO_373002) hb); have n4_ := Aside0.mk (Kd.S_below (sz HO_386001) hb); have n5_ := Aside0.mk (Kd.R_below (rz HO_386002) hb); have n6_ := Aside0.mk (Kd.S_below (sz HO_431001) hb); have n7_ := Aside0.mk (Kd.R_below (rz HO_431002) hb); have n8_ := Aside0.mk (blk_below (bz BK341) hb); have n9_ := Aside0.mk (blk_below (bz BK363) hb); have n10_ := Aside0.mk (blk_below (bz BK372) hb); have n11_ := Aside0.mk (blk_below (bz BK385) hb); have n12_ := Aside0.mk (blk_below (bz BK430) hb); have n13_ := Aside0.mk (below_step bh hb); clear HO_364001 HO_364002 HO_373001 HO_373002 HO_386001 HO_386002 HO_431001 HO_431002 BK341 BK363 BK372 BK385 BK430 HB; have HO_364001 := n0_; have HO_364002 := n1_; have HO_373001 := n2_; have HO_373002 := n3_; have HO_386001 := n4_; have HO_386002 := n5_; have HO_431001 := n6_; have HO_431002 := n7_; have BK341 := n8_; have BK363 := n9_; have BK372 := n10_; have BK385 := n11_; have BK430 := n12_; have HB := n13_; clear n0_ n1_ n2_ n3_ n4_ n5_ n6_ n7_ n8_ n9_ n10_ n11_ n12_ n13_; (try clear hb); (try clear hb2); (try clear hk); (try clear hi)))
                  go_ret
                  exact ⟨by first | rfl | (simp [errW_none, errW_some] <;> rfl) | (simp [*, errW_none, errW_some] <;> rfl), by exact bh⟩
                 ·rw [if_neg c176] at H
                  exact absurd H (by simp)
            ·rw [if_neg c120] at H
             exact absurd H (by simp)
       ·replace c79 := Bool.eq_false_iff.mpr c79
        subst c79
        have H1 : (none) = some r := by rw [if_neg (show ¬ (false = true) by decide)] at H; exact H
        clear H
        have H := H1
        clear H1
        exact absurd H (by simp)
      ·replace c76 := Bool.eq_false_iff.mpr c76
       subst c76
       have H1 : (none) = some r := by rw [if_neg (show ¬ (false = true) by decide)] at H; exact H
       clear H
       have H := H1
       clear H1
       exact absurd H (by simp)

def laws_FnExactAfterDeaths.Pure : Prop := ∀ (a0_0 : Int) (l0_1 : List (List Int)) (l0_2 : List Int) (a0_3 : Int) (l1 : List Int), Opens.pInt .i64 a0_0 → Opens.pSlice (Opens.pSlice (Opens.pInt .i64)) l0_1 → Opens.pSlice (Opens.pInt .i64) l0_2 → Opens.pInt .i64 a0_3 → Opens.pSlice (Opens.pInt .i64) l1 → ∃ k, laws_FnExactAfterDeaths.f k a0_0 l0_1 l0_2 a0_3 l1 = some true

end Go.Proofs.Ytlpjkeejflogjaa.QFnExactAfterDeaths
