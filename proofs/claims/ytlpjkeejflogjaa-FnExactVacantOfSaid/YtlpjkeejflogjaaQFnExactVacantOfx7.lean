-- Printed for this claim by a turned copy of the print (wip/myprint). Lean checks it.
import Derived.Test.YtlpjkeejflogjaaQFnExactVacantOfx0
import Derived.Test.YtlpjkeejflogjaaQFnExactVacantOfx1
import Derived.Test.YtlpjkeejflogjaaQFnExactVacantOfx2
import Derived.Test.YtlpjkeejflogjaaQFnExactVacantOfx4
import Derived.Test.YtlpjkeejflogjaaQFnExactVacantOfx6
namespace Go.Proofs.Ytlpjkeejflogjaa.QFnExactVacantOf
open Go.RowKit Go.Proofs.YtlpjkeejflogjaaW.PrintWords Go.Proofs.YtlpjkeejflogjaaW.PrintLast Go.Proofs.YtlpjkeejflogjaaW.PrintMore
attribute [local go_sem] max2_int min2_int max_two min_two max_three min_three max_four min_four Opens.cell_twice   -- for this text's walks alone
set_option linter.unusedVariables false
set_option linter.unusedSimpArgs false

/-! ### laws_FnExactVacantOf: function 6 -/
def laws_FnExactVacantOf.j0 : Nat → List Int → List Int → Bool → Int → List (List Int) → List Int → Int → Option (Bool)
  | 0, _, _, _, _, _, _, _ => none
  | k + 1, x4, x6, x42, x192000, x192001, x192002, x192003 => if x42 = true then (none) else ((laws_markIntS.f k x6 1).bind fun bt228 => ((laws_heldIntS.f k bt228.2 1).bind fun t230 => (if t230 < 0 then (none) else (if t230 = bt228.1 then ((laws_toCourt.f k x192000 x192001 x192002 x192003).bind fun bt231 => ((impl_VacantOf.f k bt231.1 bt231.2.1 bt231.2.2.1 bt231.2.2.2).bind fun t239 => ((laws_eqIntS.f k t239 x4).bind fun t242 => (if t242 = true then ((laws_heldIntS.f k bt228.2 1).bind fun t243 => (if t243 < 0 then (none) else (if t243 = bt228.1 then (some true) else (none)))) else (none))))) else (none)))))
def laws_FnExactVacantOf.f (k : Nat) (a0_0 : Int) (l0_1 : List (List Int)) (l0_2 : List Int) (a0_3 : Int) : Option (Bool) := (laws_szCourt.f k a0_0 l0_1 l0_2 a0_3 1048576).bind fun t192 => (if t192 < 0 then (some true) else ((laws_toCourt.f k a0_0 l0_1 l0_2 a0_3).bind fun bt193 => ((spec_VacantOf.f k bt193.1 bt193.2.1 bt193.2.2.1 bt193.2.2.2).bind fun t201 => ((laws_toCourt.f k a0_0 l0_1 l0_2 a0_3).bind fun bt204 => ((impl_VacantOf.f k bt204.1 bt204.2.1 bt204.2.2.1 bt204.2.2.2).bind fun t213 => ((laws_eqIntS.f k t213 t201).bind fun t216 => (if t216 = true then ((laws_toCourt.f k a0_0 l0_1 l0_2 a0_3).bind fun bt217 => ((laws_eqCourt.f k bt204.1 bt204.2.1 bt204.2.2.1 bt204.2.2.2 bt217.1 bt217.2.1 bt217.2.2.1 bt217.2.2.2).bind fun t225 => (if t225 = true then ((laws_markCourt.f k bt204.1 bt204.2.1 bt204.2.2.1 bt204.2.2.2 1).bind fun t226 => (if t226 < 0 then (laws_FnExactVacantOf.j0 k t201 t213 true a0_0 l0_1 l0_2 a0_3) else ((laws_eqIntS.f k t213 t201).bind fun t227 => (laws_FnExactVacantOf.j0 k t201 t213 (!t227) a0_0 l0_1 l0_2 a0_3)))) else (none)))) else (none))))))))
theorem laws_FnExactVacantOf.mono_l : ∀ k, (∀ y0 y1 y2 y3 y4 y5 y6, LeO (laws_FnExactVacantOf.j0 k y0 y1 y2 y3 y4 y5 y6) (laws_FnExactVacantOf.j0 (k + 1) y0 y1 y2 y3 y4 y5 y6))
  | 0 => fun _ _ _ _ _ _ _ r h => by simp [laws_FnExactVacantOf.j0] at h
  | k + 1 => by
    have ih0 := laws_FnExactVacantOf.mono_l k
    · intro y0 y1 y2 y3 y4 y5 y6
      unfold laws_FnExactVacantOf.j0
      repeat' first
      | (with_reducible exact ih0 _ _ _ _ _ _ _)
      | (with_reducible exact impl_VacantOf.mono _ _ _ _ _)
      | (with_reducible exact laws_eqCourt.mono _ _ _ _ _ _ _ _ _)
      | (with_reducible exact laws_eqIntS.mono _ _ _)
      | (with_reducible exact laws_heldIntS.mono _ _ _)
      | (with_reducible exact laws_markCourt.mono _ _ _ _ _ _)
      | (with_reducible exact laws_markIntS.mono _ _ _)
      | (with_reducible exact laws_szCourt.mono _ _ _ _ _ _)
      | (with_reducible exact laws_toCourt.mono _ _ _ _ _)
      | (with_reducible exact spec_VacantOf.mono _ _ _ _ _)
      | (with_reducible exact LeO.refl _)
      | (with_reducible exact LeO.none _)
      | (with_reducible refine LeO.ite ?_ ?_)
      | (with_reducible refine LeO.bind ?_ (fun _ => ?_))
      | exact ih0 _ _ _ _ _ _ _
      | exact impl_VacantOf.mono _ _ _ _ _
      | exact laws_eqCourt.mono _ _ _ _ _ _ _ _ _
      | exact laws_eqIntS.mono _ _ _
      | exact laws_heldIntS.mono _ _ _
      | exact laws_markCourt.mono _ _ _ _ _ _
      | exact laws_markIntS.mono _ _ _
      | exact laws_szCourt.mono _ _ _ _ _ _
      | exact laws_toCourt.mono _ _ _ _ _
      | exact spec_VacantOf.mono _ _ _ _ _
      | exact LeO.none _
      | refine LeO.ite ?_ ?_
      | refine LeO.bind ?_ (fun _ => ?_)
theorem laws_FnExactVacantOf.mono : ∀ a0 a1 a2 a3 k, LeO (laws_FnExactVacantOf.f k a0 a1 a2 a3) (laws_FnExactVacantOf.f (k + 1) a0 a1 a2 a3) := by
  intro a0 a1 a2 a3 k
  have ih0 := laws_FnExactVacantOf.mono_l k
  unfold laws_FnExactVacantOf.f
  repeat' first
      | (with_reducible exact ih0 _ _ _ _ _ _ _)
      | (with_reducible exact impl_VacantOf.mono _ _ _ _ _)
      | (with_reducible exact laws_eqCourt.mono _ _ _ _ _ _ _ _ _)
      | (with_reducible exact laws_eqIntS.mono _ _ _)
      | (with_reducible exact laws_heldIntS.mono _ _ _)
      | (with_reducible exact laws_markCourt.mono _ _ _ _ _ _)
      | (with_reducible exact laws_markIntS.mono _ _ _)
      | (with_reducible exact laws_szCourt.mono _ _ _ _ _ _)
      | (with_reducible exact laws_toCourt.mono _ _ _ _ _)
      | (with_reducible exact spec_VacantOf.mono _ _ _ _ _)
      | (with_reducible exact LeO.refl _)
      | (with_reducible exact LeO.none _)
      | (with_reducible refine LeO.ite ?_ ?_)
      | (with_reducible refine LeO.bind ?_ (fun _ => ?_))
      | exact ih0 _ _ _ _ _ _ _
      | exact impl_VacantOf.mono _ _ _ _ _
      | exact laws_eqCourt.mono _ _ _ _ _ _ _ _ _
      | exact laws_eqIntS.mono _ _ _
      | exact laws_heldIntS.mono _ _ _
      | exact laws_markCourt.mono _ _ _ _ _ _
      | exact laws_markIntS.mono _ _ _
      | exact laws_szCourt.mono _ _ _ _ _ _
      | exact laws_toCourt.mono _ _ _ _ _
      | exact spec_VacantOf.mono _ _ _ _ _
      | exact LeO.none _
      | refine LeO.ite ?_ ?_
      | refine LeO.bind ?_ (fun _ => ?_)
set_option maxHeartbeats 8000000 in
set_option maxRecDepth 100000 in
theorem laws_FnExactVacantOf.calls (k : Nat) (a0_0 : Int) (A0_1 : Option Addr) (c0_1 : Nat) (l0_1 : List (List Int)) (A0_2 : Option Addr) (c0_2 : Nat) (l0_2 : List Int) (a0_3 : Int) (r : Bool) (w : World) (hr0_1 : Kd.C (Kd.slice 3 (Kd.int .i64)) w A0_1 l0_1.length l0_1) (hc0_1 : l0_1.length ≤ c0_1) (hr0_2 : Kd.C (Kd.int .i64) w A0_2 l0_2.length l0_2) (hc0_2 : l0_2.length ≤ c0_2) (h : laws_FnExactVacantOf.f k a0_0 l0_1 l0_2 a0_3 = some r) :
    Calls Try.prog 6 #[.agg #[.int .i64 a0_0, .slice A0_1 l0_1.length c0_1, .slice A0_2 l0_2.length c0_2, .int .i64 a0_3]] w fun e w' => e = .returned (.bool r) ∧ Below w.heap.size w w' := by
  have hu25 := Try.underlying25
  have hu28 := Try.underlying28
  have HR0_1 := Aside0.mk hr0_1
  have HC0_1 := Aside0.mk hc0_1
  clear hr0_1 hc0_1
  have HR0_2 := Aside0.mk hr0_2
  have HC0_2 := Aside0.mk hc0_2
  clear hr0_2 hc0_2
  have HB := Aside0.mk (Below.refl w.heap.size w)
  have H : ((laws_szCourt.f k a0_0 l0_1 l0_2 a0_3 1048576).bind fun t192 => (if t192 < 0 then (some true) else ((laws_toCourt.f k a0_0 l0_1 l0_2 a0_3).bind fun bt193 => ((spec_VacantOf.f k bt193.1 bt193.2.1 bt193.2.2.1 bt193.2.2.2).bind fun t201 => ((laws_toCourt.f k a0_0 l0_1 l0_2 a0_3).bind fun bt204 => ((impl_VacantOf.f k bt204.1 bt204.2.1 bt204.2.2.1 bt204.2.2.2).bind fun t213 => ((laws_eqIntS.f k t213 t201).bind fun t216 => (if t216 = true then ((laws_toCourt.f k a0_0 l0_1 l0_2 a0_3).bind fun bt217 => ((laws_eqCourt.f k bt204.1 bt204.2.1 bt204.2.2.1 bt204.2.2.2 bt217.1 bt217.2.1 bt217.2.2.1 bt217.2.2.2).bind fun t225 => (if t225 = true then ((laws_markCourt.f k bt204.1 bt204.2.1 bt204.2.2.1 bt204.2.2.2 1).bind fun t226 => (if t226 < 0 then (laws_FnExactVacantOf.j0 k t201 t213 true a0_0 l0_1 l0_2 a0_3) else ((laws_eqIntS.f k t213 t201).bind fun t227 => (laws_FnExactVacantOf.j0 k t201 t213 (!t227) a0_0 l0_1 l0_2 a0_3)))) else (none)))) else (none))))))))) = some r := h
  clear h
  replace H := Option.bind_eq_some_iff.mp H
  obtain ⟨t192, A20, H⟩ := H
  replace H : (if t192 < 0 then (some true) else ((laws_toCourt.f k a0_0 l0_1 l0_2 a0_3).bind fun bt193 => ((spec_VacantOf.f k bt193.1 bt193.2.1 bt193.2.2.1 bt193.2.2.2).bind fun t201 => ((laws_toCourt.f k a0_0 l0_1 l0_2 a0_3).bind fun bt204 => ((impl_VacantOf.f k bt204.1 bt204.2.1 bt204.2.2.1 bt204.2.2.2).bind fun t213 => ((laws_eqIntS.f k t213 t201).bind fun t216 => (if t216 = true then ((laws_toCourt.f k a0_0 l0_1 l0_2 a0_3).bind fun bt217 => ((laws_eqCourt.f k bt204.1 bt204.2.1 bt204.2.2.1 bt204.2.2.2 bt217.1 bt217.2.1 bt217.2.2.1 bt217.2.2.2).bind fun t225 => (if t225 = true then ((laws_markCourt.f k bt204.1 bt204.2.1 bt204.2.2.1 bt204.2.2.2 1).bind fun t226 => (if t226 < 0 then (laws_FnExactVacantOf.j0 k t201 t213 true a0_0 l0_1 l0_2 a0_3) else ((laws_eqIntS.f k t213 t201).bind fun t227 => (laws_FnExactVacantOf.j0 k t201 t213 (!t227) a0_0 l0_1 l0_2 a0_3)))) else (none)))) else (none)))))))) = some r := H
  have A2 := Aside0.mk A20
  clear A20
  by_cases c3 : t192 < 0
  · rw [if_pos c3] at H
    have c3b0 : decide (t192 < 0) = true := decide_eq_true c3
    clear c3
    obtain rfl := Option.some.inj H
    go_enter Try.func6, Try.ntmps6
    go_wp2_with (first | ((with_reducible refine gate_dst (N := 1) rfl ?_); refine box_event ?hg (N := 1) ?hd (cs := #[.int .i64 a0_0, .slice A0_1 l0_1.length c0_1, .slice A0_2 l0_2.length c0_2, .int .i64 a0_3]) (t := 25) ?hr ?_; (case hd => rfl); (case hg => rfl); (case hr => first | (go_simp; done) | (go_simp; rfl)); intro gb191 hg w4 hbox hb; have n0_ := Aside0.mk (below_step (by repeat (first | (with_reducible first | exact HB.out | apply below_alloc | apply pw_below_drewN | apply below_drew1) | exact HB.out)) hb); have n1_ := Aside0.mk (hbox); have n2_ := Aside0.mk ((by rw [hg]; exact (below_size (by repeat (first | (with_reducible first | exact HB.out | apply below_alloc | apply pw_below_drewN | apply below_drew1) | exact HB.out))) : w.heap.size ≤ gb191)); have n3_ := Aside0.mk ((by rw [hg]; exact (below_size (by repeat (first | (with_reducible first | exact HB.out | apply below_alloc | apply pw_below_drewN | apply below_drew1) | exact HB.out))) : w.heap.size ≤ gb191)); clear HB; have HB := n0_; have BK191 := n1_; have GW191 := n2_; have GE191 := n3_; clear n0_ n1_ n2_ n3_; clear hb hbox hg; have hcz5_0 : w4.cell? ⟨gb191, 0, none⟩ = some (.int .i64 a0_0) := (blk_cell BK191.out 0).trans rfl; have hcz5_1 : w4.cell? ⟨gb191, 1, none⟩ = some (.slice A0_1 l0_1.length c0_1) := (blk_cell BK191.out 1).trans rfl; have hcz5_2 : w4.cell? ⟨gb191, 2, none⟩ = some (.slice A0_2 l0_2.length c0_2) := (blk_cell BK191.out 2).trans rfl; have hcz5_3 : w4.cell? ⟨gb191, 3, none⟩ = some (.int .i64 a0_3) := (blk_cell BK191.out 3).trans rfl; have hfz5_0 := blk_frozen BK191.out 0; have hfz5_1 := blk_frozen BK191.out 1; have hfz5_2 := blk_frozen BK191.out 2; have hfz5_3 := blk_frozen BK191.out 3) | ((with_reducible refine gate_callee (f := 16) rfl ?_); refine goesL_ (some 13) rfl rfl Try.func16 (by kernel_rfl) rfl #[.agg #[.int .i64 a0_0, .slice A0_1 l0_1.length c0_1, .slice A0_2 l0_2.length c0_2, .int .i64 a0_3], .int .i64 1048576] rfl (by (try simp only [List.map_toArray, List.map_cons, List.map_nil]); first | done | rfl | (simp only [List.length_drop, List.length_take]; rfl)) ?_; (with_reducible refine (laws_szCourt.calls k a0_0 _ _ l0_1 _ _ l0_2 a0_3 1048576 t192 _ ?side1 ?side2 ?side3 ?side4 A2.out).mono ?_); (case side1 => repeat (first | exact (Kd.C_below HR0_1.out HB.out) | (with_reducible refine Kd.C_alloc ?_ _) | (with_reducible refine Kd.C_drewN ?_ _) | (with_reducible refine Kd.C_drew ?_))); (case side2 => exact HC0_1.out); (case side3 => repeat (first | exact (Kd.C_below HR0_2.out HB.out) | (with_reducible refine Kd.C_alloc ?_ _) | (with_reducible refine Kd.C_drewN ?_ _) | (with_reducible refine Kd.C_drew ?_))); (case side4 => exact HC0_2.out); rintro e w6 ⟨rfl, hb⟩; refine ⟨_, rfl, ?_⟩; have n0_ := Aside0.mk (blk_below (g := gb191) (o := .cells #[.int .i64 a0_0, .slice A0_1 l0_1.length c0_1, .slice A0_2 l0_2.length c0_2, .int .i64 a0_3] 25 (0, 0)) (by (with_reducible repeat (first | refine blk_drewN ?_ _ | refine blk_drew ?_ | refine blk_alloc ?_ _)); exact BK191.out) hb); have n1_ := Aside0.mk (below_step (by repeat (first | (with_reducible first | exact HB.out | apply below_alloc | apply pw_below_drewN | apply below_drew1 | refine below_set ?_ GE191.out) | exact HB.out)) hb); clear BK191; clear HB; have BK191 := n0_; have HB := n1_; clear n0_ n1_; (try clear hb); (try clear hb2); (try clear hk); (try clear hi)))
    go_ret
    exact ⟨by first | rfl | (simp [errW_none, errW_some] <;> rfl) | (simp [*, errW_none, errW_some] <;> rfl), by repeat (first | (with_reducible first | exact HB.out | apply below_alloc | apply pw_below_drewN | apply below_drew1 | refine below_set ?_ GE191.out) | exact HB.out)⟩
  · rw [if_neg c3] at H
    have c3b0 : decide (t192 < 0) = false := decide_eq_false c3
    clear c3
    replace H := Option.bind_eq_some_iff.mp H
    obtain ⟨⟨t193, t194, t197, t200⟩, A70, H⟩ := H
    replace H : ((spec_VacantOf.f k t193 t194 t197 t200).bind fun t201 => ((laws_toCourt.f k a0_0 l0_1 l0_2 a0_3).bind fun bt204 => ((impl_VacantOf.f k bt204.1 bt204.2.1 bt204.2.2.1 bt204.2.2.2).bind fun t213 => ((laws_eqIntS.f k t213 t201).bind fun t216 => (if t216 = true then ((laws_toCourt.f k a0_0 l0_1 l0_2 a0_3).bind fun bt217 => ((laws_eqCourt.f k bt204.1 bt204.2.1 bt204.2.2.1 bt204.2.2.2 bt217.1 bt217.2.1 bt217.2.2.1 bt217.2.2.2).bind fun t225 => (if t225 = true then ((laws_markCourt.f k bt204.1 bt204.2.1 bt204.2.2.1 bt204.2.2.2 1).bind fun t226 => (if t226 < 0 then (laws_FnExactVacantOf.j0 k t201 t213 true a0_0 l0_1 l0_2 a0_3) else ((laws_eqIntS.f k t213 t201).bind fun t227 => (laws_FnExactVacantOf.j0 k t201 t213 (!t227) a0_0 l0_1 l0_2 a0_3)))) else (none)))) else (none)))))) = some r := H
    have A7 := Aside0.mk A70
    clear A70
    replace H := Option.bind_eq_some_iff.mp H
    obtain ⟨t201, A80, H⟩ := H
    replace H : ((laws_toCourt.f k a0_0 l0_1 l0_2 a0_3).bind fun bt204 => ((impl_VacantOf.f k bt204.1 bt204.2.1 bt204.2.2.1 bt204.2.2.2).bind fun t213 => ((laws_eqIntS.f k t213 t201).bind fun t216 => (if t216 = true then ((laws_toCourt.f k a0_0 l0_1 l0_2 a0_3).bind fun bt217 => ((laws_eqCourt.f k bt204.1 bt204.2.1 bt204.2.2.1 bt204.2.2.2 bt217.1 bt217.2.1 bt217.2.2.1 bt217.2.2.2).bind fun t225 => (if t225 = true then ((laws_markCourt.f k bt204.1 bt204.2.1 bt204.2.2.1 bt204.2.2.2 1).bind fun t226 => (if t226 < 0 then (laws_FnExactVacantOf.j0 k t201 t213 true a0_0 l0_1 l0_2 a0_3) else ((laws_eqIntS.f k t213 t201).bind fun t227 => (laws_FnExactVacantOf.j0 k t201 t213 (!t227) a0_0 l0_1 l0_2 a0_3)))) else (none)))) else (none))))) = some r := H
    have A8 := Aside0.mk A80
    clear A80
    replace H := Option.bind_eq_some_iff.mp H
    obtain ⟨⟨t204, t205, t208, t211⟩, A90, H⟩ := H
    replace H : ((impl_VacantOf.f k t204 t205 t208 t211).bind fun t213 => ((laws_eqIntS.f k t213 t201).bind fun t216 => (if t216 = true then ((laws_toCourt.f k a0_0 l0_1 l0_2 a0_3).bind fun bt217 => ((laws_eqCourt.f k t204 t205 t208 t211 bt217.1 bt217.2.1 bt217.2.2.1 bt217.2.2.2).bind fun t225 => (if t225 = true then ((laws_markCourt.f k t204 t205 t208 t211 1).bind fun t226 => (if t226 < 0 then (laws_FnExactVacantOf.j0 k t201 t213 true a0_0 l0_1 l0_2 a0_3) else ((laws_eqIntS.f k t213 t201).bind fun t227 => (laws_FnExactVacantOf.j0 k t201 t213 (!t227) a0_0 l0_1 l0_2 a0_3)))) else (none)))) else (none)))) = some r := H
    have A9 := Aside0.mk A90
    clear A90
    replace H := Option.bind_eq_some_iff.mp H
    obtain ⟨t213, A100, H⟩ := H
    replace H : ((laws_eqIntS.f k t213 t201).bind fun t216 => (if t216 = true then ((laws_toCourt.f k a0_0 l0_1 l0_2 a0_3).bind fun bt217 => ((laws_eqCourt.f k t204 t205 t208 t211 bt217.1 bt217.2.1 bt217.2.2.1 bt217.2.2.2).bind fun t225 => (if t225 = true then ((laws_markCourt.f k t204 t205 t208 t211 1).bind fun t226 => (if t226 < 0 then (laws_FnExactVacantOf.j0 k t201 t213 true a0_0 l0_1 l0_2 a0_3) else ((laws_eqIntS.f k t213 t201).bind fun t227 => (laws_FnExactVacantOf.j0 k t201 t213 (!t227) a0_0 l0_1 l0_2 a0_3)))) else (none)))) else (none))) = some r := H
    have A10 := Aside0.mk A100
    clear A100
    replace H := Option.bind_eq_some_iff.mp H
    obtain ⟨t216, A110, H⟩ := H
    replace H : (if t216 = true then ((laws_toCourt.f k a0_0 l0_1 l0_2 a0_3).bind fun bt217 => ((laws_eqCourt.f k t204 t205 t208 t211 bt217.1 bt217.2.1 bt217.2.2.1 bt217.2.2.2).bind fun t225 => (if t225 = true then ((laws_markCourt.f k t204 t205 t208 t211 1).bind fun t226 => (if t226 < 0 then (laws_FnExactVacantOf.j0 k t201 t213 true a0_0 l0_1 l0_2 a0_3) else ((laws_eqIntS.f k t213 t201).bind fun t227 => (laws_FnExactVacantOf.j0 k t201 t213 (!t227) a0_0 l0_1 l0_2 a0_3)))) else (none)))) else (none)) = some r := H
    have A11 := Aside0.mk A110
    clear A110
    by_cases c12 : t216 = true
    · subst c12
      have H1 : ((laws_toCourt.f k a0_0 l0_1 l0_2 a0_3).bind fun bt217 => ((laws_eqCourt.f k t204 t205 t208 t211 bt217.1 bt217.2.1 bt217.2.2.1 bt217.2.2.2).bind fun t225 => (if t225 = true then ((laws_markCourt.f k t204 t205 t208 t211 1).bind fun t226 => (if t226 < 0 then (laws_FnExactVacantOf.j0 k t201 t213 true a0_0 l0_1 l0_2 a0_3) else ((laws_eqIntS.f k t213 t201).bind fun t227 => (laws_FnExactVacantOf.j0 k t201 t213 (!t227) a0_0 l0_1 l0_2 a0_3)))) else (none)))) = some r := by rw [if_pos rfl] at H; exact H
      clear H
      have H := H1
      clear H1
      replace H := Option.bind_eq_some_iff.mp H
      obtain ⟨⟨t217, t218, t221, t224⟩, A130, H⟩ := H
      replace H : ((laws_eqCourt.f k t204 t205 t208 t211 t217 t218 t221 t224).bind fun t225 => (if t225 = true then ((laws_markCourt.f k t204 t205 t208 t211 1).bind fun t226 => (if t226 < 0 then (laws_FnExactVacantOf.j0 k t201 t213 true a0_0 l0_1 l0_2 a0_3) else ((laws_eqIntS.f k t213 t201).bind fun t227 => (laws_FnExactVacantOf.j0 k t201 t213 (!t227) a0_0 l0_1 l0_2 a0_3)))) else (none))) = some r := H
      have A13 := Aside0.mk A130
      clear A130
      replace H := Option.bind_eq_some_iff.mp H
      obtain ⟨t225, A140, H⟩ := H
      replace H : (if t225 = true then ((laws_markCourt.f k t204 t205 t208 t211 1).bind fun t226 => (if t226 < 0 then (laws_FnExactVacantOf.j0 k t201 t213 true a0_0 l0_1 l0_2 a0_3) else ((laws_eqIntS.f k t213 t201).bind fun t227 => (laws_FnExactVacantOf.j0 k t201 t213 (!t227) a0_0 l0_1 l0_2 a0_3)))) else (none)) = some r := H
      have A14 := Aside0.mk A140
      clear A140
      by_cases c15 : t225 = true
      · subst c15
        have H1 : ((laws_markCourt.f k t204 t205 t208 t211 1).bind fun t226 => (if t226 < 0 then (laws_FnExactVacantOf.j0 k t201 t213 true a0_0 l0_1 l0_2 a0_3) else ((laws_eqIntS.f k t213 t201).bind fun t227 => (laws_FnExactVacantOf.j0 k t201 t213 (!t227) a0_0 l0_1 l0_2 a0_3)))) = some r := by rw [if_pos rfl] at H; exact H
        clear H
        have H := H1
        clear H1
        replace H := Option.bind_eq_some_iff.mp H
        obtain ⟨t226, A160, H⟩ := H
        replace H : (if t226 < 0 then (laws_FnExactVacantOf.j0 k t201 t213 true a0_0 l0_1 l0_2 a0_3) else ((laws_eqIntS.f k t213 t201).bind fun t227 => (laws_FnExactVacantOf.j0 k t201 t213 (!t227) a0_0 l0_1 l0_2 a0_3))) = some r := H
        have A16 := Aside0.mk A160
        clear A160
        have HC17 := Aside0.mk H
        clear H
        go_enter Try.func6, Try.ntmps6
        try go_wp2_with (first | ((with_reducible refine gate_dst (N := 1) rfl ?_); refine box_event ?hg (N := 1) ?hd (cs := #[.int .i64 a0_0, .slice A0_1 l0_1.length c0_1, .slice A0_2 l0_2.length c0_2, .int .i64 a0_3]) (t := 25) ?hr ?_; (case hd => rfl); (case hg => rfl); (case hr => first | (go_simp; done) | (go_simp; rfl)); intro gb191 hg w18 hbox hb; have n0_ := Aside0.mk (below_step (by repeat (first | (with_reducible first | exact HB.out | apply below_alloc | apply pw_below_drewN | apply below_drew1) | exact HB.out)) hb); have n1_ := Aside0.mk (hbox); have n2_ := Aside0.mk ((by rw [hg]; exact (below_size (by repeat (first | (with_reducible first | exact HB.out | apply below_alloc | apply pw_below_drewN | apply below_drew1) | exact HB.out))) : w.heap.size ≤ gb191)); have n3_ := Aside0.mk ((by rw [hg]; exact (below_size (by repeat (first | (with_reducible first | exact HB.out | apply below_alloc | apply pw_below_drewN | apply below_drew1) | exact HB.out))) : w.heap.size ≤ gb191)); clear HB; have HB := n0_; have BK191 := n1_; have GW191 := n2_; have GE191 := n3_; clear n0_ n1_ n2_ n3_; clear hb hbox hg; have hcz19_0 : w18.cell? ⟨gb191, 0, none⟩ = some (.int .i64 a0_0) := (blk_cell BK191.out 0).trans rfl; have hcz19_1 : w18.cell? ⟨gb191, 1, none⟩ = some (.slice A0_1 l0_1.length c0_1) := (blk_cell BK191.out 1).trans rfl; have hcz19_2 : w18.cell? ⟨gb191, 2, none⟩ = some (.slice A0_2 l0_2.length c0_2) := (blk_cell BK191.out 2).trans rfl; have hcz19_3 : w18.cell? ⟨gb191, 3, none⟩ = some (.int .i64 a0_3) := (blk_cell BK191.out 3).trans rfl; have hfz19_0 := blk_frozen BK191.out 0; have hfz19_1 := blk_frozen BK191.out 1; have hfz19_2 := blk_frozen BK191.out 2; have hfz19_3 := blk_frozen BK191.out 3) | ((with_reducible refine gate_callee (f := 16) rfl ?_); refine goesL_ (some 13) rfl rfl Try.func16 (by kernel_rfl) rfl #[.agg #[.int .i64 a0_0, .slice A0_1 l0_1.length c0_1, .slice A0_2 l0_2.length c0_2, .int .i64 a0_3], .int .i64 1048576] rfl (by (try simp only [List.map_toArray, List.map_cons, List.map_nil]); first | done | rfl | (simp only [List.length_drop, List.length_take]; rfl)) ?_; (with_reducible refine (laws_szCourt.calls k a0_0 _ _ l0_1 _ _ l0_2 a0_3 1048576 t192 _ ?side1 ?side2 ?side3 ?side4 A2.out).mono ?_); (case side1 => repeat (first | exact (Kd.C_below HR0_1.out HB.out) | (with_reducible refine Kd.C_alloc ?_ _) | (with_reducible refine Kd.C_drewN ?_ _) | (with_reducible refine Kd.C_drew ?_))); (case side2 => exact HC0_1.out); (case side3 => repeat (first | exact (Kd.C_below HR0_2.out HB.out) | (with_reducible refine Kd.C_alloc ?_ _) | (with_reducible refine Kd.C_drewN ?_ _) | (with_reducible refine Kd.C_drew ?_))); (case side4 => exact HC0_2.out); rintro e w20 ⟨rfl, hb⟩; refine ⟨_, rfl, ?_⟩; have n0_ := Aside0.mk (blk_below (g := gb191) (o := .cells #[.int .i64 a0_0, .slice A0_1 l0_1.length c0_1, .slice A0_2 l0_2.length c0_2, .int .i64 a0_3] 25 (0, 0)) (by (with_reducible repeat (first | refine blk_drewN ?_ _ | refine blk_drew ?_ | refine blk_alloc ?_ _)); exact BK191.out) hb); have n1_ := Aside0.mk (below_step (by repeat (first | (with_reducible first | exact HB.out | apply below_alloc | apply pw_below_drewN | apply below_drew1 | refine below_set ?_ GE191.out) | exact HB.out)) hb); clear BK191; clear HB; have BK191 := n0_; have HB := n1_; clear n0_ n1_; (try clear hb); (try clear hb2); (try clear hk); (try clear hi); have hcz21_0 : w20.cell? ⟨gb191, 0, none⟩ = some (.int .i64 a0_0) := (blk_cell BK191.out 0).trans rfl; have hcz21_1 : w20.cell? ⟨gb191, 1, none⟩ = some (.slice A0_1 l0_1.length c0_1) := (blk_cell BK191.out 1).trans rfl; have hcz21_2 : w20.cell? ⟨gb191, 2, none⟩ = some (.slice A0_2 l0_2.length c0_2) := (blk_cell BK191.out 2).trans rfl; have hcz21_3 : w20.cell? ⟨gb191, 3, none⟩ = some (.int .i64 a0_3) := (blk_cell BK191.out 3).trans rfl; have hfz21_0 := blk_frozen BK191.out 0; have hfz21_1 := blk_frozen BK191.out 1; have hfz21_2 := blk_frozen BK191.out 2; have hfz21_3 := blk_frozen BK191.out 3) | ((with_reducible refine gate_callee (f := 18) rfl ?_); refine goesL_ (some 17) rfl rfl Try.func18 (by kernel_rfl) rfl #[.agg #[.int .i64 a0_0, .slice A0_1 l0_1.length c0_1, .slice A0_2 l0_2.length c0_2, .int .i64 a0_3]] rfl (by (try simp only [List.map_toArray, List.map_cons, List.map_nil]); first | done | rfl | (simp only [List.length_drop, List.length_take]; rfl)) ?_; (with_reducible refine (laws_toCourt.calls k a0_0 _ _ l0_1 _ _ l0_2 a0_3 t193 t194 t197 t200 _ ?side1 ?side2 ?side3 ?side4 A7.out).mono ?_); (case side1 => repeat (first | exact (Kd.C_below HR0_1.out HB.out) | (with_reducible refine Kd.C_alloc ?_ _) | (with_reducible refine Kd.C_drewN ?_ _) | (with_reducible refine Kd.C_drew ?_))); (case side2 => exact HC0_1.out); (case side3 => repeat (first | exact (Kd.C_below HR0_2.out HB.out) | (with_reducible refine Kd.C_alloc ?_ _) | (with_reducible refine Kd.C_drewN ?_ _) | (with_reducible refine Kd.C_drew ?_))); (case side4 => exact HC0_2.out); rintro e w22 ⟨v195, v198, rfl, ho0, ho1, hb⟩; refine ⟨_, rfl, ?_⟩; have n0_ := Aside0.mk (Kd.S_lower ho0 (below_size (by repeat (first | (with_reducible first | exact HB.out | apply below_alloc | apply pw_below_drewN | apply below_drew1 | refine below_set ?_ GE191.out) | exact HB.out)))); have n1_ := Aside0.mk (Kd.R_lower ho1 (below_size (by repeat (first | (with_reducible first | exact HB.out | apply below_alloc | apply pw_below_drewN | apply below_drew1 | refine below_set ?_ GE191.out) | exact HB.out)))); have n2_ := Aside0.mk (blk_below (g := gb191) (o := .cells #[.int .i64 a0_0, .slice A0_1 l0_1.length c0_1, .slice A0_2 l0_2.length c0_2, .int .i64 a0_3] 25 (0, 0)) (by (with_reducible repeat (first | refine blk_drewN ?_ _ | refine blk_drew ?_ | refine blk_alloc ?_ _)); exact BK191.out) hb); have n3_ := Aside0.mk (below_step (by repeat (first | (with_reducible first | exact HB.out | apply below_alloc | apply pw_below_drewN | apply below_drew1 | refine below_set ?_ GE191.out) | exact HB.out)) hb); clear BK191; clear HB; have HO196 := n0_; have HO199 := n1_; have BK191 := n2_; have HB := n3_; clear n0_ n1_ n2_ n3_; (try clear hb); (try clear hb2); (try clear hk); (try clear hi); (try clear ho0); (try clear ho1); obtain ⟨Ao23, co23, eo23⟩ := Kd.S_slice HO196.out; subst eo23; obtain ⟨Ao24, co24, eo24⟩ := Kd.R_slice HO199.out; subst eo24) | ((with_reducible refine gate_callee (f := 25) rfl ?_); refine goesL_ (some 18) rfl rfl Try.func25 (by kernel_rfl) rfl #[.agg #[.int .i64 t193, .slice Ao23 t194.length co23, .slice Ao24 t197.length co24, .int .i64 t200]] rfl (by (try simp only [List.map_toArray, List.map_cons, List.map_nil]); first | done | rfl | (simp only [List.length_drop, List.length_take]; rfl)) ?_; (with_reducible refine (spec_VacantOf.calls k t193 _ _ t194 _ _ t197 t200 t201 _ ?side1 ?side2 ?side3 ?side4 A8.out).mono ?_); (case side1 => repeat (first | exact (Kd.S_reads' HO196.out).2.2 | (with_reducible refine Kd.C_alloc ?_ _) | (with_reducible refine Kd.C_drewN ?_ _) | (with_reducible refine Kd.C_drew ?_))); (case side2 => exact (Kd.S_reads' HO196.out).2.1); (case side3 => repeat (first | exact (Kd.R_reads' HO199.out).2.2 | (with_reducible refine Kd.C_alloc ?_ _) | (with_reducible refine Kd.C_drewN ?_ _) | (with_reducible refine Kd.C_drew ?_))); (case side4 => exact (Kd.R_reads' HO199.out).2.1); rintro e w25 ⟨v202, rfl, ho0, hb⟩; refine ⟨_, rfl, ?_⟩; have n0_ := Aside0.mk (Kd.S_elder' (by (with_reducible repeat (first | apply Kd.S_alloc | apply Kd.S_drewN | apply Kd.S_drew)); exact HO196.out) (Kd.R_base ho0) hb); have n1_ := Aside0.mk (Kd.R_elder' (by (with_reducible repeat (first | apply Kd.R_alloc | apply Kd.R_drewN | apply Kd.R_drew)); exact HO199.out) (Kd.R_base ho0) hb); have n2_ := Aside0.mk (Kd.R_lower (Kd.R_new' ho0 (Kd.R_lt (by (with_reducible repeat (first | apply Kd.R_alloc | apply Kd.R_drewN | apply Kd.R_drew)); exact HO199.out))) (below_size (by repeat (first | (with_reducible first | exact HB.out | apply below_alloc | apply pw_below_drewN | apply below_drew1 | refine below_set ?_ GE191.out) | exact HB.out)))); have n3_ := Aside0.mk (blk_below (g := gb191) (o := .cells #[.int .i64 a0_0, .slice A0_1 l0_1.length c0_1, .slice A0_2 l0_2.length c0_2, .int .i64 a0_3] 25 (0, 0)) (by (with_reducible repeat (first | refine blk_drewN ?_ _ | refine blk_drew ?_ | refine blk_alloc ?_ _)); exact BK191.out) hb); have n4_ := Aside0.mk (below_step (by repeat (first | (with_reducible first | exact HB.out | apply below_alloc | apply pw_below_drewN | apply below_drew1 | refine below_set ?_ GE191.out) | exact HB.out)) hb); clear HO196; clear HO199; clear BK191; clear HB; have HO196 := n0_; have HO199 := n1_; have HO203 := n2_; have BK191 := n3_; have HB := n4_; clear n0_ n1_ n2_ n3_ n4_; (try clear hb); (try clear hb2); (try clear hk); (try clear hi); (try clear ho0); have hcz26_0 : w25.cell? ⟨gb191, 0, none⟩ = some (.int .i64 a0_0) := (blk_cell BK191.out 0).trans rfl; have hcz26_1 : w25.cell? ⟨gb191, 1, none⟩ = some (.slice A0_1 l0_1.length c0_1) := (blk_cell BK191.out 1).trans rfl; have hcz26_2 : w25.cell? ⟨gb191, 2, none⟩ = some (.slice A0_2 l0_2.length c0_2) := (blk_cell BK191.out 2).trans rfl; have hcz26_3 : w25.cell? ⟨gb191, 3, none⟩ = some (.int .i64 a0_3) := (blk_cell BK191.out 3).trans rfl; have hfz26_0 := blk_frozen BK191.out 0; have hfz26_1 := blk_frozen BK191.out 1; have hfz26_2 := blk_frozen BK191.out 2; have hfz26_3 := blk_frozen BK191.out 3) | ((with_reducible refine gate_callee (f := 18) rfl ?_); refine goesL_ (some 20) rfl rfl Try.func18 (by kernel_rfl) rfl #[.agg #[.int .i64 a0_0, .slice A0_1 l0_1.length c0_1, .slice A0_2 l0_2.length c0_2, .int .i64 a0_3]] rfl (by (try simp only [List.map_toArray, List.map_cons, List.map_nil]); first | done | rfl | (simp only [List.length_drop, List.length_take]; rfl)) ?_; (with_reducible refine (laws_toCourt.calls k a0_0 _ _ l0_1 _ _ l0_2 a0_3 t204 t205 t208 t211 _ ?side1 ?side2 ?side3 ?side4 A9.out).mono ?_); (case side1 => repeat (first | exact (Kd.C_below HR0_1.out HB.out) | (with_reducible refine Kd.C_alloc ?_ _) | (with_reducible refine Kd.C_drewN ?_ _) | (with_reducible refine Kd.C_drew ?_))); (case side2 => exact HC0_1.out); (case side3 => repeat (first | exact (Kd.C_below HR0_2.out HB.out) | (with_reducible refine Kd.C_alloc ?_ _) | (with_reducible refine Kd.C_drewN ?_ _) | (with_reducible refine Kd.C_drew ?_))); (case side4 => exact HC0_2.out); rintro e w27 ⟨v206, v209, rfl, ho0, ho1, hb⟩; refine ⟨_, rfl, ?_⟩; have n0_ := Aside0.mk (Kd.S_mono (Kd.S_told (Kd.S_told (Kd.S_old (by (with_reducible repeat (first | apply Kd.S_alloc | apply Kd.S_drewN | apply Kd.S_drew)); exact HO196.out) hb) (Kd.S_base ho0)) (Kd.R_base ho1)) (fun _ h_ => h_.1)); have n1_ := Aside0.mk (Kd.R_elder' (by (with_reducible repeat (first | apply Kd.R_alloc | apply Kd.R_drewN | apply Kd.R_drew)); exact HO199.out) (Kd.R_base ho1) hb); have n2_ := Aside0.mk (Kd.R_elder' (by (with_reducible repeat (first | apply Kd.R_alloc | apply Kd.R_drewN | apply Kd.R_drew)); exact HO203.out) (Kd.R_base ho1) hb); have n3_ := Aside0.mk (Kd.S_lower (Kd.S_new' (Kd.S_new' (Kd.S_new' ho0 (Kd.S_lt (by (with_reducible repeat (first | apply Kd.S_alloc | apply Kd.S_drewN | apply Kd.S_drew)); exact HO196.out))) (Kd.R_lt (by (with_reducible repeat (first | apply Kd.R_alloc | apply Kd.R_drewN | apply Kd.R_drew)); exact HO199.out))) (Kd.R_lt (by (with_reducible repeat (first | apply Kd.R_alloc | apply Kd.R_drewN | apply Kd.R_drew)); exact HO203.out))) (below_size (by repeat (first | (with_reducible first | exact HB.out | apply below_alloc | apply pw_below_drewN | apply below_drew1 | refine below_set ?_ GE191.out) | exact HB.out)))); have n4_ := Aside0.mk (Kd.R_lower (Kd.R_new' (Kd.R_new' ho1 (Kd.R_lt (by (with_reducible repeat (first | apply Kd.R_alloc | apply Kd.R_drewN | apply Kd.R_drew)); exact HO199.out))) (Kd.R_lt (by (with_reducible repeat (first | apply Kd.R_alloc | apply Kd.R_drewN | apply Kd.R_drew)); exact HO203.out))) (below_size (by repeat (first | (with_reducible first | exact HB.out | apply below_alloc | apply pw_below_drewN | apply below_drew1 | refine below_set ?_ GE191.out) | exact HB.out)))); have n5_ := Aside0.mk (blk_below (g := gb191) (o := .cells #[.int .i64 a0_0, .slice A0_1 l0_1.length c0_1, .slice A0_2 l0_2.length c0_2, .int .i64 a0_3] 25 (0, 0)) (by (with_reducible repeat (first | refine blk_drewN ?_ _ | refine blk_drew ?_ | refine blk_alloc ?_ _)); exact BK191.out) hb); have n6_ := Aside0.mk (below_step (by repeat (first | (with_reducible first | exact HB.out | apply below_alloc | apply pw_below_drewN | apply below_drew1 | refine below_set ?_ GE191.out) | exact HB.out)) hb); clear HO196; clear HO199; clear HO203; clear BK191; clear HB; have HO196 := n0_; have HO199 := n1_; have HO203 := n2_; have HO207 := n3_; have HO210 := n4_; have BK191 := n5_; have HB := n6_; clear n0_ n1_ n2_ n3_ n4_ n5_ n6_; (try clear hb); (try clear hb2); (try clear hk); (try clear hi); (try clear ho0); (try clear ho1)) | ((with_reducible refine gate_dst (N := 5) rfl ?_); refine box_event ?hg (N := 5) ?hd (cs := #[.int .i64 0, .slice none 0 0, .slice none 0 0, .int .i64 0]) (t := 28) ?hr ?_; (case hd => rfl); (case hg => rfl); (case hr => first | (go_simp; done) | (go_simp; rfl)); intro gb212 hg w28 hbox hb; have n0_ := Aside0.mk (Kd.S_below (by (with_reducible repeat (first | apply Kd.S_alloc | apply Kd.S_drewN | apply Kd.S_drew)); exact HO196.out) hb); have n1_ := Aside0.mk (Kd.R_below (by (with_reducible repeat (first | apply Kd.R_alloc | apply Kd.R_drewN | apply Kd.R_drew)); exact HO199.out) hb); have n2_ := Aside0.mk (Kd.R_below (by (with_reducible repeat (first | apply Kd.R_alloc | apply Kd.R_drewN | apply Kd.R_drew)); exact HO203.out) hb); have n3_ := Aside0.mk (Kd.S_below (by (with_reducible repeat (first | apply Kd.S_alloc | apply Kd.S_drewN | apply Kd.S_drew)); exact HO207.out) hb); have n4_ := Aside0.mk (Kd.R_below (by (with_reducible repeat (first | apply Kd.R_alloc | apply Kd.R_drewN | apply Kd.R_drew)); exact HO210.out) hb); have n5_ := Aside0.mk (blk_below (g := gb191) (o := .cells #[.int .i64 a0_0, .slice A0_1 l0_1.length c0_1, .slice A0_2 l0_2.length c0_2, .int .i64 a0_3] 25 (0, 0)) (by (with_reducible repeat (first | refine blk_drewN ?_ _ | refine blk_drew ?_ | refine blk_alloc ?_ _)); exact BK191.out) hb); have n6_ := Aside0.mk (below_step (by repeat (first | (with_reducible first | exact HB.out | apply below_alloc | apply pw_below_drewN | apply below_drew1 | refine below_set ?_ GE191.out) | exact HB.out)) hb); have n7_ := Aside0.mk (hbox); have n8_ := Aside0.mk ((by rw [hg]; exact (below_size (by repeat (first | (with_reducible first | exact HB.out | apply below_alloc | apply pw_below_drewN | apply below_drew1 | refine below_set ?_ GE191.out) | exact HB.out))) : w.heap.size ≤ gb212)); have n9_ := Aside0.mk ((by rw [hg]; exact (below_size (by repeat (first | (with_reducible first | exact HB.out | apply below_alloc | apply pw_below_drewN | apply below_drew1 | refine below_set ?_ GE191.out) | exact HB.out))) : w.heap.size ≤ gb212)); have n10_ := Aside0.mk ((by rw [hg]; exact Nat.ne_of_lt (blk_lt (g := gb191) (o := .cells #[.int .i64 a0_0, .slice A0_1 l0_1.length c0_1, .slice A0_2 l0_2.length c0_2, .int .i64 a0_3] 25 (0, 0)) (by (with_reducible repeat (first | refine blk_drewN ?_ _ | refine blk_drew ?_ | refine blk_alloc ?_ _)); exact BK191.out)) : gb191 ≠ gb212)); have n11_ := Aside0.mk ((by rw [hg]; exact Nat.ne_of_gt (blk_lt (g := gb191) (o := .cells #[.int .i64 a0_0, .slice A0_1 l0_1.length c0_1, .slice A0_2 l0_2.length c0_2, .int .i64 a0_3] 25 (0, 0)) (by (with_reducible repeat (first | refine blk_drewN ?_ _ | refine blk_drew ?_ | refine blk_alloc ?_ _)); exact BK191.out)) : gb212 ≠ gb191)); clear HO196; clear HO199; clear HO203; clear HO207; clear HO210; clear BK191; clear HB; have HO196 := n0_; have HO199 := n1_; have HO203 := n2_; have HO207 := n3_; have HO210 := n4_; have BK191 := n5_; have HB := n6_; have BK212 := n7_; have GW212 := n8_; have GE212 := n9_; have NB191_212 := n10_; have NB212_191 := n11_; clear n0_ n1_ n2_ n3_ n4_ n5_ n6_ n7_ n8_ n9_ n10_ n11_; clear hb hbox hg; have hnb29 := NB212_191.out; have hnc29 := NB191_212.out; have hcz30_0 : w28.cell? ⟨gb212, 0, none⟩ = some (.int .i64 0) := (blk_cell BK212.out 0).trans rfl; have hcz30_1 : w28.cell? ⟨gb212, 1, none⟩ = some (.slice none 0 0) := (blk_cell BK212.out 1).trans rfl; have hcz30_2 : w28.cell? ⟨gb212, 2, none⟩ = some (.slice none 0 0) := (blk_cell BK212.out 2).trans rfl; have hcz30_3 : w28.cell? ⟨gb212, 3, none⟩ = some (.int .i64 0) := (blk_cell BK212.out 3).trans rfl; have hfz30_0 := blk_frozen BK212.out 0; have hfz30_1 := blk_frozen BK212.out 1; have hfz30_2 := blk_frozen BK212.out 2; have hfz30_3 := blk_frozen BK212.out 3; obtain ⟨Ao31, co31, eo31⟩ := Kd.S_slice HO207.out; subst eo31; obtain ⟨Ao32, co32, eo32⟩ := Kd.R_slice HO210.out; subst eo32) | ((with_reducible refine gate_callee (f := 26) rfl ?_); refine goesL_ (some 22) rfl rfl Try.func26 (by kernel_rfl) rfl #[.agg #[.int .i64 t204, .slice Ao31 t205.length co31, .slice Ao32 t208.length co32, .int .i64 t211]] rfl (by (try simp only [List.map_toArray, List.map_cons, List.map_nil]); first | done | rfl | (simp only [List.length_drop, List.length_take]; rfl)) ?_; (with_reducible refine (impl_VacantOf.calls k t204 _ _ t205 _ _ t208 t211 t213 _ ?side1 ?side2 ?side3 ?side4 A10.out).mono ?_); (case side1 => refine (Kd.S_reads' (e := 23) (base := w.heap.size) (ok := fun k_ => (((some k_ ≠ (.slice Ao32 t208.length co32 : Value).ownBlock ∧ some k_ ≠ (.slice Ao23 t194.length co23 : Value).ownBlock) ∧ some k_ ≠ (.slice Ao24 t197.length co24 : Value).ownBlock) ∧ some k_ ≠ (v202 : Value).ownBlock)) (n := t205.length) (c := co31) ?_).2.2; exact (by (with_reducible repeat (first | apply Kd.S_alloc | apply Kd.S_drewN | apply Kd.S_drew)); exact (Kd.S_mono (Kd.S_far (p := ⟨gb212, 3, none⟩) (Kd.S_far (p := ⟨gb212, 2, none⟩) (Kd.S_far (p := ⟨gb212, 1, none⟩) (Kd.S_far (p := ⟨gb212, 0, none⟩) (Kd.S_types HO207.out BK212.out (by decide)) (fun _ hk => hk.2) (.int .i64 t204)) (fun _ hk => hk.2) (.slice Ao31 t205.length co31)) (fun _ hk => hk.2) (.slice Ao32 t208.length co32)) (fun _ hk => hk.2) (.int .i64 t211)) (fun _ h_ => h_.1)))); (case side2 => exact (Kd.S_reads' HO207.out).2.1); (case side3 => refine (Kd.R_reads' (e := 3) (base := w.heap.size) (ok := fun k_ => ((True ∧ some k_ ≠ (.slice Ao24 t197.length co24 : Value).ownBlock) ∧ some k_ ≠ (v202 : Value).ownBlock)) (n := t208.length) (c := co32) ?_).2.2; exact (by (with_reducible repeat (first | apply Kd.R_alloc | apply Kd.R_drewN | apply Kd.R_drew)); exact (Kd.R_mono (Kd.R_far (p := ⟨gb212, 3, none⟩) (Kd.R_far (p := ⟨gb212, 2, none⟩) (Kd.R_far (p := ⟨gb212, 1, none⟩) (Kd.R_far (p := ⟨gb212, 0, none⟩) (Kd.R_types HO210.out BK212.out (by decide)) (fun _ hk => hk.2) (.int .i64 t204)) (fun _ hk => hk.2) (.slice Ao31 t205.length co31)) (fun _ hk => hk.2) (.slice Ao32 t208.length co32)) (fun _ hk => hk.2) (.int .i64 t211)) (fun _ h_ => h_.1)))); (case side4 => exact (Kd.R_reads' HO210.out).2.1); rintro e w33 ⟨v214, rfl, ho0, hb⟩; refine ⟨_, rfl, ?_⟩; have n0_ := Aside0.mk (Kd.S_elder' (by (with_reducible repeat (first | apply Kd.S_alloc | apply Kd.S_drewN | apply Kd.S_drew)); exact (Kd.S_mono (Kd.S_far (p := ⟨gb212, 3, none⟩) (Kd.S_far (p := ⟨gb212, 2, none⟩) (Kd.S_far (p := ⟨gb212, 1, none⟩) (Kd.S_far (p := ⟨gb212, 0, none⟩) (Kd.S_types HO196.out BK212.out (by decide)) (fun _ hk => hk.2) (.int .i64 t204)) (fun _ hk => hk.2) (.slice Ao31 t205.length co31)) (fun _ hk => hk.2) (.slice Ao32 t208.length co32)) (fun _ hk => hk.2) (.int .i64 t211)) (fun _ h_ => h_.1))) (Kd.R_base ho0) hb); have n1_ := Aside0.mk (Kd.R_elder' (by (with_reducible repeat (first | apply Kd.R_alloc | apply Kd.R_drewN | apply Kd.R_drew)); exact (Kd.R_mono (Kd.R_far (p := ⟨gb212, 3, none⟩) (Kd.R_far (p := ⟨gb212, 2, none⟩) (Kd.R_far (p := ⟨gb212, 1, none⟩) (Kd.R_far (p := ⟨gb212, 0, none⟩) (Kd.R_types HO199.out BK212.out (by decide)) (fun _ hk => hk.2) (.int .i64 t204)) (fun _ hk => hk.2) (.slice Ao31 t205.length co31)) (fun _ hk => hk.2) (.slice Ao32 t208.length co32)) (fun _ hk => hk.2) (.int .i64 t211)) (fun _ h_ => h_.1))) (Kd.R_base ho0) hb); have n2_ := Aside0.mk (Kd.R_elder' (by (with_reducible repeat (first | apply Kd.R_alloc | apply Kd.R_drewN | apply Kd.R_drew)); exact (Kd.R_mono (Kd.R_far (p := ⟨gb212, 3, none⟩) (Kd.R_far (p := ⟨gb212, 2, none⟩) (Kd.R_far (p := ⟨gb212, 1, none⟩) (Kd.R_far (p := ⟨gb212, 0, none⟩) (Kd.R_types HO203.out BK212.out (by decide)) (fun _ hk => hk.2) (.int .i64 t204)) (fun _ hk => hk.2) (.slice Ao31 t205.length co31)) (fun _ hk => hk.2) (.slice Ao32 t208.length co32)) (fun _ hk => hk.2) (.int .i64 t211)) (fun _ h_ => h_.1))) (Kd.R_base ho0) hb); have n3_ := Aside0.mk (Kd.S_elder' (by (with_reducible repeat (first | apply Kd.S_alloc | apply Kd.S_drewN | apply Kd.S_drew)); exact (Kd.S_mono (Kd.S_far (p := ⟨gb212, 3, none⟩) (Kd.S_far (p := ⟨gb212, 2, none⟩) (Kd.S_far (p := ⟨gb212, 1, none⟩) (Kd.S_far (p := ⟨gb212, 0, none⟩) (Kd.S_types HO207.out BK212.out (by decide)) (fun _ hk => hk.2) (.int .i64 t204)) (fun _ hk => hk.2) (.slice Ao31 t205.length co31)) (fun _ hk => hk.2) (.slice Ao32 t208.length co32)) (fun _ hk => hk.2) (.int .i64 t211)) (fun _ h_ => h_.1))) (Kd.R_base ho0) hb); have n4_ := Aside0.mk (Kd.R_elder' (by (with_reducible repeat (first | apply Kd.R_alloc | apply Kd.R_drewN | apply Kd.R_drew)); exact (Kd.R_mono (Kd.R_far (p := ⟨gb212, 3, none⟩) (Kd.R_far (p := ⟨gb212, 2, none⟩) (Kd.R_far (p := ⟨gb212, 1, none⟩) (Kd.R_far (p := ⟨gb212, 0, none⟩) (Kd.R_types HO210.out BK212.out (by decide)) (fun _ hk => hk.2) (.int .i64 t204)) (fun _ hk => hk.2) (.slice Ao31 t205.length co31)) (fun _ hk => hk.2) (.slice Ao32 t208.length co32)) (fun _ hk => hk.2) (.int .i64 t211)) (fun _ h_ => h_.1))) (Kd.R_base ho0) hb); have n5_ := Aside0.mk (Kd.R_lower (Kd.R_new' (Kd.R_new' (Kd.R_new' ho0 (Kd.R_lt (by (with_reducible repeat (first | apply Kd.R_alloc | apply Kd.R_drewN | apply Kd.R_drew)); exact (Kd.R_mono (Kd.R_far (p := ⟨gb212, 3, none⟩) (Kd.R_far (p := ⟨gb212, 2, none⟩) (Kd.R_far (p := ⟨gb212, 1, none⟩) (Kd.R_far (p := ⟨gb212, 0, none⟩) (Kd.R_types HO199.out BK212.out (by decide)) (fun _ hk => hk.2) (.int .i64 t204)) (fun _ hk => hk.2) (.slice Ao31 t205.length co31)) (fun _ hk => hk.2) (.slice Ao32 t208.length co32)) (fun _ hk => hk.2) (.int .i64 t211)) (fun _ h_ => h_.1))))) (Kd.R_lt (by (with_reducible repeat (first | apply Kd.R_alloc | apply Kd.R_drewN | apply Kd.R_drew)); exact (Kd.R_mono (Kd.R_far (p := ⟨gb212, 3, none⟩) (Kd.R_far (p := ⟨gb212, 2, none⟩) (Kd.R_far (p := ⟨gb212, 1, none⟩) (Kd.R_far (p := ⟨gb212, 0, none⟩) (Kd.R_types HO203.out BK212.out (by decide)) (fun _ hk => hk.2) (.int .i64 t204)) (fun _ hk => hk.2) (.slice Ao31 t205.length co31)) (fun _ hk => hk.2) (.slice Ao32 t208.length co32)) (fun _ hk => hk.2) (.int .i64 t211)) (fun _ h_ => h_.1))))) (Kd.R_lt (by (with_reducible repeat (first | apply Kd.R_alloc | apply Kd.R_drewN | apply Kd.R_drew)); exact (Kd.R_mono (Kd.R_far (p := ⟨gb212, 3, none⟩) (Kd.R_far (p := ⟨gb212, 2, none⟩) (Kd.R_far (p := ⟨gb212, 1, none⟩) (Kd.R_far (p := ⟨gb212, 0, none⟩) (Kd.R_types HO210.out BK212.out (by decide)) (fun _ hk => hk.2) (.int .i64 t204)) (fun _ hk => hk.2) (.slice Ao31 t205.length co31)) (fun _ hk => hk.2) (.slice Ao32 t208.length co32)) (fun _ hk => hk.2) (.int .i64 t211)) (fun _ h_ => h_.1))))) (below_size (by repeat (first | (with_reducible first | exact HB.out | apply below_alloc | apply pw_below_drewN | apply below_drew1 | refine below_set ?_ GE191.out | refine below_set ?_ GE212.out) | exact HB.out)))); have n6_ := Aside0.mk (blk_below (g := gb191) (o := .cells #[.int .i64 a0_0, .slice A0_1 l0_1.length c0_1, .slice A0_2 l0_2.length c0_2, .int .i64 a0_3] 25 (0, 0)) (by (with_reducible repeat (first | refine blk_drewN ?_ _ | refine blk_drew ?_ | refine blk_alloc ?_ _)); refine blk_far ?_ NB191_212.out _; (with_reducible repeat (first | refine blk_drewN ?_ _ | refine blk_drew ?_ | refine blk_alloc ?_ _)); refine blk_far ?_ NB191_212.out _; (with_reducible repeat (first | refine blk_drewN ?_ _ | refine blk_drew ?_ | refine blk_alloc ?_ _)); refine blk_far ?_ NB191_212.out _; (with_reducible repeat (first | refine blk_drewN ?_ _ | refine blk_drew ?_ | refine blk_alloc ?_ _)); refine blk_far ?_ NB191_212.out _; (with_reducible repeat (first | refine blk_drewN ?_ _ | refine blk_drew ?_ | refine blk_alloc ?_ _)); exact BK191.out) hb); have n7_ := Aside0.mk (blk_below (g := gb212) (o := .cells #[.int .i64 t204, .slice Ao31 t205.length co31, .slice Ao32 t208.length co32, .int .i64 t211] 28 (0, 0)) (by (with_reducible repeat (first | refine blk_drewN ?_ _ | refine blk_drew ?_ | refine blk_alloc ?_ _)); refine blk_put (cs := #[.int .i64 t204, .slice Ao31 t205.length co31, .slice Ao32 t208.length co32, .int .i64 0]) ?_ 3 _ rfl; (with_reducible repeat (first | refine blk_drewN ?_ _ | refine blk_drew ?_ | refine blk_alloc ?_ _)); refine blk_put (cs := #[.int .i64 t204, .slice Ao31 t205.length co31, .slice none 0 0, .int .i64 0]) ?_ 2 _ rfl; (with_reducible repeat (first | refine blk_drewN ?_ _ | refine blk_drew ?_ | refine blk_alloc ?_ _)); refine blk_put (cs := #[.int .i64 t204, .slice none 0 0, .slice none 0 0, .int .i64 0]) ?_ 1 _ rfl; (with_reducible repeat (first | refine blk_drewN ?_ _ | refine blk_drew ?_ | refine blk_alloc ?_ _)); refine blk_put (cs := #[.int .i64 0, .slice none 0 0, .slice none 0 0, .int .i64 0]) ?_ 0 _ rfl; (with_reducible repeat (first | refine blk_drewN ?_ _ | refine blk_drew ?_ | refine blk_alloc ?_ _)); exact BK212.out) hb); have n8_ := Aside0.mk (below_step (by repeat (first | (with_reducible first | exact HB.out | apply below_alloc | apply pw_below_drewN | apply below_drew1 | refine below_set ?_ GE191.out | refine below_set ?_ GE212.out) | exact HB.out)) hb); clear HO196; clear HO199; clear HO203; clear HO207; clear HO210; clear BK191; clear BK212; clear HB; have HO196 := n0_; have HO199 := n1_; have HO203 := n2_; have HO207 := n3_; have HO210 := n4_; have HO215 := n5_; have BK191 := n6_; have BK212 := n7_; have HB := n8_; clear n0_ n1_ n2_ n3_ n4_ n5_ n6_ n7_ n8_; (try clear hb); (try clear hb2); (try clear hk); (try clear hi); (try clear ho0); obtain ⟨Ao34, co34, eo34⟩ := Kd.R_slice HO215.out; subst eo34; obtain ⟨Ao35, co35, eo35⟩ := Kd.R_slice HO203.out; subst eo35) | ((with_reducible refine gate_callee (f := 27) rfl ?_); refine goesL_ (some 25) rfl rfl Try.func27 (by kernel_rfl) rfl #[.slice Ao34 t213.length co34, .slice Ao35 t201.length co35] rfl (by (try simp only [List.map_toArray, List.map_cons, List.map_nil]); first | done | rfl | (simp only [List.length_drop, List.length_take]; rfl)) ?_; (with_reducible refine (laws_eqIntS.calls k _ _ t213 _ _ t201 true _ ?side1 ?side2 ?side3 ?side4 A11.out).mono ?_); (case side1 => repeat (first | exact (Kd.R_reads' HO215.out).2.2 | (with_reducible refine Kd.C_alloc ?_ _) | (with_reducible refine Kd.C_drewN ?_ _) | (with_reducible refine Kd.C_drew ?_))); (case side2 => exact (Kd.R_reads' HO215.out).2.1); (case side3 => repeat (first | exact (Kd.R_reads' HO203.out).2.2 | (with_reducible refine Kd.C_alloc ?_ _) | (with_reducible refine Kd.C_drewN ?_ _) | (with_reducible refine Kd.C_drew ?_))); (case side4 => exact (Kd.R_reads' HO203.out).2.1); rintro e w' ⟨rfl, ⟨nd, rfl⟩⟩; refine ⟨_, rfl, ?_⟩))
        (try (rw [drewN_self w33]; generalize hq_ : World.drewN w33 _ = w33; have n0_ : Aside0 (Kd.S (Kd.slice 3 (Kd.int .i64)) 23 w33 w.heap.size (fun k_ => some k_ ≠ (.slice Ao24 t197.length co24 : Value).ownBlock ∧ some k_ ≠ (.slice Ao35 t201.length co35 : Value).ownBlock ∧ some k_ ≠ (.slice Ao31 t205.length co31 : Value).ownBlock ∧ some k_ ≠ (.slice Ao32 t208.length co32 : Value).ownBlock ∧ some k_ ≠ (.slice Ao34 t213.length co34 : Value).ownBlock) (.slice Ao23 t194.length co23) t194) := ⟨by rw [← hq_]; exact (by (with_reducible repeat (first | apply Kd.S_alloc | apply Kd.S_drewN | apply Kd.S_drew)); exact Kd.S_mono HO196.out (fun _ hk => ⟨hk.1.1.1.1, ⟨hk.1.1.1.2, ⟨hk.1.1.2, ⟨hk.1.2, hk.2⟩⟩⟩⟩))⟩; have n1_ : Aside0 (Kd.R (Kd.int .i64) 3 w33 w.heap.size (fun k_ => some k_ ≠ (.slice Ao35 t201.length co35 : Value).ownBlock ∧ some k_ ≠ (.slice Ao32 t208.length co32 : Value).ownBlock ∧ some k_ ≠ (.slice Ao34 t213.length co34 : Value).ownBlock) (.slice Ao24 t197.length co24) t197) := ⟨by rw [← hq_]; exact (by (with_reducible repeat (first | apply Kd.R_alloc | apply Kd.R_drewN | apply Kd.R_drew)); exact Kd.R_mono HO199.out (fun _ hk => ⟨hk.1.1.2, ⟨hk.1.2, hk.2⟩⟩))⟩; have n2_ : Aside0 (Kd.R (Kd.int .i64) 3 w33 w.heap.size (fun k_ => some k_ ≠ (.slice Ao24 t197.length co24 : Value).ownBlock ∧ some k_ ≠ (.slice Ao32 t208.length co32 : Value).ownBlock ∧ some k_ ≠ (.slice Ao34 t213.length co34 : Value).ownBlock) (.slice Ao35 t201.length co35) t201) := ⟨by rw [← hq_]; exact (by (with_reducible repeat (first | apply Kd.R_alloc | apply Kd.R_drewN | apply Kd.R_drew)); exact Kd.R_mono HO203.out (fun _ hk => ⟨hk.1.1.2, ⟨hk.1.2, hk.2⟩⟩))⟩; have n3_ : Aside0 (Kd.S (Kd.slice 3 (Kd.int .i64)) 23 w33 w.heap.size (fun k_ => some k_ ≠ (.slice Ao23 t194.length co23 : Value).ownBlock ∧ some k_ ≠ (.slice Ao24 t197.length co24 : Value).ownBlock ∧ some k_ ≠ (.slice Ao35 t201.length co35 : Value).ownBlock ∧ some k_ ≠ (.slice Ao32 t208.length co32 : Value).ownBlock ∧ some k_ ≠ (.slice Ao34 t213.length co34 : Value).ownBlock) (.slice Ao31 t205.length co31) t205) := ⟨by rw [← hq_]; exact (by (with_reducible repeat (first | apply Kd.S_alloc | apply Kd.S_drewN | apply Kd.S_drew)); exact Kd.S_mono HO207.out (fun _ hk => ⟨hk.1.1.1.2, ⟨hk.1.1.2, ⟨hk.1.2, ⟨hk.1.1.1.1, hk.2⟩⟩⟩⟩))⟩; have n4_ : Aside0 (Kd.R (Kd.int .i64) 3 w33 w.heap.size (fun k_ => some k_ ≠ (.slice Ao24 t197.length co24 : Value).ownBlock ∧ some k_ ≠ (.slice Ao35 t201.length co35 : Value).ownBlock ∧ some k_ ≠ (.slice Ao34 t213.length co34 : Value).ownBlock) (.slice Ao32 t208.length co32) t208) := ⟨by rw [← hq_]; exact (by (with_reducible repeat (first | apply Kd.R_alloc | apply Kd.R_drewN | apply Kd.R_drew)); exact Kd.R_mono HO210.out (fun _ hk => ⟨hk.1.1.2, ⟨hk.1.2, hk.2⟩⟩))⟩; have n5_ : Aside0 (Kd.R (Kd.int .i64) 3 w33 w.heap.size (fun k_ => some k_ ≠ (.slice Ao24 t197.length co24 : Value).ownBlock ∧ some k_ ≠ (.slice Ao35 t201.length co35 : Value).ownBlock ∧ some k_ ≠ (.slice Ao32 t208.length co32 : Value).ownBlock) (.slice Ao34 t213.length co34) t213) := ⟨by rw [← hq_]; exact (by (with_reducible repeat (first | apply Kd.R_alloc | apply Kd.R_drewN | apply Kd.R_drew)); exact Kd.R_mono HO215.out (fun _ hk => ⟨hk.1.1.2, ⟨hk.1.2, hk.2⟩⟩))⟩; have n6_ : Aside0 (w33.heap[gb191]? = some (.cells #[.int .i64 a0_0, .slice A0_1 l0_1.length c0_1, .slice A0_2 l0_2.length c0_2, .int .i64 a0_3] 25 (0, 0))) := ⟨by rw [← hq_]; exact (by (with_reducible repeat (first | refine blk_drewN ?_ _ | refine blk_drew ?_ | refine blk_alloc ?_ _)); exact BK191.out)⟩; have n7_ : Aside0 (w33.heap[gb212]? = some (.cells #[.int .i64 t204, .slice Ao31 t205.length co31, .slice Ao32 t208.length co32, .int .i64 t211] 28 (0, 0))) := ⟨by rw [← hq_]; exact (by (with_reducible repeat (first | refine blk_drewN ?_ _ | refine blk_drew ?_ | refine blk_alloc ?_ _)); exact BK212.out)⟩; have n8_ : Aside0 (Below w.heap.size w w33) := ⟨by rw [← hq_]; exact (by repeat (first | (with_reducible first | exact HB.out | apply below_alloc | apply pw_below_drewN | apply below_drew1 | refine below_set ?_ GE191.out | refine below_set ?_ GE212.out) | exact HB.out))⟩; clear HO196 HO199 HO203 HO207 HO210 HO215 BK191 BK212 HB hq_; have HO196 := n0_; have HO199 := n1_; have HO203 := n2_; have HO207 := n3_; have HO210 := n4_; have HO215 := n5_; have BK191 := n6_; have BK212 := n7_; have HB := n8_; clear n0_ n1_ n2_ n3_ n4_ n5_ n6_ n7_ n8_))
        have n0_ := Aside0.mk (Kd.S_drew HO196.out)
        have n1_ := Aside0.mk (Kd.R_drew HO199.out)
        have n2_ := Aside0.mk (Kd.R_drew HO203.out)
        have n3_ := Aside0.mk (Kd.S_drew HO207.out)
        have n4_ := Aside0.mk (Kd.R_drew HO210.out)
        have n5_ := Aside0.mk (Kd.R_drew HO215.out)
        have n6_ := Aside0.mk (blk_drew BK191.out)
        have n7_ := Aside0.mk (blk_drew BK212.out)
        have n8_ := Aside0.mk (below_drew1 HB.out)
        clear HO196
        clear HO199
        clear HO203
        clear HO207
        clear HO210
        clear HO215
        clear BK191
        clear BK212
        clear HB
        have HO196 := n0_
        have HO199 := n1_
        have HO203 := n2_
        have HO207 := n3_
        have HO210 := n4_
        have HO215 := n5_
        have BK191 := n6_
        have BK212 := n7_
        have HB := n8_
        clear n0_ n1_ n2_ n3_ n4_ n5_ n6_ n7_ n8_
        refine start_ (n := 5) (S := fun w' => w'.cell? ⟨gb212, 0, none⟩ = some (.int .i64 t204) ∧ w'.cell? ⟨gb212, 1, none⟩ = some (.slice Ao31 t205.length co31) ∧ w'.cell? ⟨gb212, 2, none⟩ = some (.slice Ao32 t208.length co32) ∧ w'.cell? ⟨gb212, 3, none⟩ = some (.int .i64 t211) ∧ w'.cell? ⟨gb191, 0, none⟩ = some (.int .i64 a0_0) ∧ w'.cell? ⟨gb191, 1, none⟩ = some (.slice A0_1 l0_1.length c0_1) ∧ w'.cell? ⟨gb191, 2, none⟩ = some (.slice A0_2 l0_2.length c0_2) ∧ w'.cell? ⟨gb191, 3, none⟩ = some (.int .i64 a0_3)) (ds := []) #[false, false, false, false, false] (by kernel_rfl) rfl rfl ⟨(blk_cell BK212.out 0).trans rfl, (blk_cell BK212.out 1).trans rfl, (blk_cell BK212.out 2).trans rfl, (blk_cell BK212.out 3).trans rfl, (blk_cell BK191.out 0).trans rfl, (blk_cell BK191.out 1).trans rfl, (blk_cell BK191.out 2).trans rfl, (blk_cell BK191.out 3).trans rfl⟩ (fun hHeld => ?_)
        generalize w33.drew = w36 at HO196 HO199 HO203 HO207 HO210 HO215 BK191 BK212 HB hHeld ⊢
        refine take_ (i := 0) (N := some 27) (v := ?_) (a' := ?_) #[true, false, false, false, false] rfl rfl (by kernel_rfl) (fun _ _ _ h => h) (Or.inl ⟨by rfl, ?_⟩) hHeld ?_ ?_
        rotate_left
        · rintro w' ⟨s0, s1, s2, s3, s4, s5, s6, s7⟩
          go_simp
          with_reducible rfl
        rotate_left
        · simp only [Act.put, List.setIfInBounds_toArray, List.set_cons_zero, List.set_cons_succ, i64_w, i32_w]
          rfl
        refine take_ (i := 1) (N := some 28) (v := ?_) (a' := ?_) #[true, true, false, false, false] rfl rfl (by kernel_rfl) (fun _ _ _ h => h) (Or.inl ⟨by rfl, ?_⟩) hHeld ?_ ?_
        rotate_left
        · rintro w' ⟨s0, s1, s2, s3, s4, s5, s6, s7⟩
          go_simp
          with_reducible rfl
        rotate_left
        · simp only [Act.put, List.setIfInBounds_toArray, List.set_cons_zero, List.set_cons_succ, i64_w, i32_w]
          rfl
        refine one_ (i := 2) (N := some 29) #[true, true, true, false, false] rfl rfl (by kernel_rfl) (by decide) (fun K hK => ?_)
        refine goes_ Try.func18 (by kernel_rfl) rfl #[.agg #[.int .i64 a0_0, .slice A0_1 l0_1.length c0_1, .slice A0_2 l0_2.length c0_2, .int .i64 a0_3]] (by rfl) rfl rfl (by (try simp only [List.map_toArray, List.map_cons, List.map_nil]); first | done | rfl | (simp only [List.length_drop, List.length_take]; rfl)) ?_
        with_reducible refine (laws_toCourt.calls k a0_0 _ _ l0_1 _ _ l0_2 a0_3 t217 t218 t221 t224 _ ?side1 ?side2 ?side3 ?side4 A13.out).mono ?_
        (case side1 => repeat (first | exact (Kd.C_below HR0_1.out HB.out) | (with_reducible refine Kd.C_alloc ?_ _) | (with_reducible refine Kd.C_drewN ?_ _) | (with_reducible refine Kd.C_drew ?_)))
        (case side2 => exact HC0_1.out)
        (case side3 => repeat (first | exact (Kd.C_below HR0_2.out HB.out) | (with_reducible refine Kd.C_alloc ?_ _) | (with_reducible refine Kd.C_drewN ?_ _) | (with_reducible refine Kd.C_drew ?_)))
        (case side4 => exact HC0_2.out)
        rintro e w37 ⟨v219, v222, rfl, ho0, ho1, hb⟩
        refine ⟨_, rfl, ?_⟩
        have n0_ := Aside0.mk (Kd.S_mono (Kd.S_told (Kd.S_told (Kd.S_old (by (with_reducible repeat (first | apply Kd.S_alloc | apply Kd.S_drewN | apply Kd.S_drew)); exact HO196.out) hb) (Kd.S_base ho0)) (Kd.R_base ho1)) (fun _ h_ => h_.1))
        have n1_ := Aside0.mk (Kd.R_elder' (by (with_reducible repeat (first | apply Kd.R_alloc | apply Kd.R_drewN | apply Kd.R_drew)); exact HO199.out) (Kd.R_base ho1) hb)
        have n2_ := Aside0.mk (Kd.R_elder' (by (with_reducible repeat (first | apply Kd.R_alloc | apply Kd.R_drewN | apply Kd.R_drew)); exact HO203.out) (Kd.R_base ho1) hb)
        have n3_ := Aside0.mk (Kd.S_mono (Kd.S_told (Kd.S_told (Kd.S_old (by (with_reducible repeat (first | apply Kd.S_alloc | apply Kd.S_drewN | apply Kd.S_drew)); exact HO207.out) hb) (Kd.S_base ho0)) (Kd.R_base ho1)) (fun _ h_ => h_.1))
        have n4_ := Aside0.mk (Kd.R_elder' (by (with_reducible repeat (first | apply Kd.R_alloc | apply Kd.R_drewN | apply Kd.R_drew)); exact HO210.out) (Kd.R_base ho1) hb)
        have n5_ := Aside0.mk (Kd.R_elder' (by (with_reducible repeat (first | apply Kd.R_alloc | apply Kd.R_drewN | apply Kd.R_drew)); exact HO215.out) (Kd.R_base ho1) hb)
        have n6_ := Aside0.mk (Kd.S_lower (Kd.S_new' (Kd.S_new' (Kd.S_new' (Kd.S_new' (Kd.S_new' (Kd.S_new' ho0 (Kd.S_lt (by (with_reducible repeat (first | apply Kd.S_alloc | apply Kd.S_drewN | apply Kd.S_drew)); exact HO196.out))) (Kd.R_lt (by (with_reducible repeat (first | apply Kd.R_alloc | apply Kd.R_drewN | apply Kd.R_drew)); exact HO199.out))) (Kd.R_lt (by (with_reducible repeat (first | apply Kd.R_alloc | apply Kd.R_drewN | apply Kd.R_drew)); exact HO203.out))) (Kd.S_lt (by (with_reducible repeat (first | apply Kd.S_alloc | apply Kd.S_drewN | apply Kd.S_drew)); exact HO207.out))) (Kd.R_lt (by (with_reducible repeat (first | apply Kd.R_alloc | apply Kd.R_drewN | apply Kd.R_drew)); exact HO210.out))) (Kd.R_lt (by (with_reducible repeat (first | apply Kd.R_alloc | apply Kd.R_drewN | apply Kd.R_drew)); exact HO215.out))) (below_size (by repeat (first | (with_reducible first | exact HB.out | apply below_alloc | apply pw_below_drewN | apply below_drew1 | refine below_set ?_ GE191.out | refine below_set ?_ GE212.out) | exact HB.out))))
        have n7_ := Aside0.mk (Kd.R_lower (Kd.R_new' (Kd.R_new' (Kd.R_new' (Kd.R_new' ho1 (Kd.R_lt (by (with_reducible repeat (first | apply Kd.R_alloc | apply Kd.R_drewN | apply Kd.R_drew)); exact HO199.out))) (Kd.R_lt (by (with_reducible repeat (first | apply Kd.R_alloc | apply Kd.R_drewN | apply Kd.R_drew)); exact HO203.out))) (Kd.R_lt (by (with_reducible repeat (first | apply Kd.R_alloc | apply Kd.R_drewN | apply Kd.R_drew)); exact HO210.out))) (Kd.R_lt (by (with_reducible repeat (first | apply Kd.R_alloc | apply Kd.R_drewN | apply Kd.R_drew)); exact HO215.out))) (below_size (by repeat (first | (with_reducible first | exact HB.out | apply below_alloc | apply pw_below_drewN | apply below_drew1 | refine below_set ?_ GE191.out | refine below_set ?_ GE212.out) | exact HB.out))))
        have n8_ := Aside0.mk (blk_below (g := gb191) (o := .cells #[.int .i64 a0_0, .slice A0_1 l0_1.length c0_1, .slice A0_2 l0_2.length c0_2, .int .i64 a0_3] 25 (0, 0)) (by (with_reducible repeat (first | refine blk_drewN ?_ _ | refine blk_drew ?_ | refine blk_alloc ?_ _)); exact BK191.out) hb)
        have n9_ := Aside0.mk (blk_below (g := gb212) (o := .cells #[.int .i64 t204, .slice Ao31 t205.length co31, .slice Ao32 t208.length co32, .int .i64 t211] 28 (0, 0)) (by (with_reducible repeat (first | refine blk_drewN ?_ _ | refine blk_drew ?_ | refine blk_alloc ?_ _)); exact BK212.out) hb)
        have n10_ := Aside0.mk (below_step (by repeat (first | (with_reducible first | exact HB.out | apply below_alloc | apply pw_below_drewN | apply below_drew1 | refine below_set ?_ GE191.out | refine below_set ?_ GE212.out) | exact HB.out)) hb)
        clear HO196
        clear HO199
        clear HO203
        clear HO207
        clear HO210
        clear HO215
        clear BK191
        clear BK212
        clear HB
        have HO196 := n0_
        have HO199 := n1_
        have HO203 := n2_
        have HO207 := n3_
        have HO210 := n4_
        have HO215 := n5_
        have HO220 := n6_
        have HO223 := n7_
        have BK191 := n8_
        have BK212 := n9_
        have HB := n10_
        clear n0_ n1_ n2_ n3_ n4_ n5_ n6_ n7_ n8_ n9_ n10_
        (try clear hb)
        (try clear hb2)
        (try clear hk)
        (try clear hi)
        (try clear ho0)
        (try clear ho1)
        obtain ⟨Ao38, co38, eo38⟩ := Kd.S_slice HO220.out
        (first | subst eo38 | (injection eo38 with f1_ f2_ f3_; have f4_ := f1_.symm; have f5_ := f3_.symm; clear f1_ f2_ f3_; subst f4_; subst f5_))
        obtain ⟨Ao39, co39, eo39⟩ := Kd.R_slice HO223.out
        (first | subst eo39 | (injection eo39 with f1_ f2_ f3_; have f4_ := f1_.symm; have f5_ := f3_.symm; clear f1_ f2_ f3_; subst f4_; subst f5_))
        refine hK.out _ _ ⟨(blk_cell BK212.out 0).trans rfl, (blk_cell BK212.out 1).trans rfl, (blk_cell BK212.out 2).trans rfl, (blk_cell BK212.out 3).trans rfl, (blk_cell BK191.out 0).trans rfl, (blk_cell BK191.out 1).trans rfl, (blk_cell BK191.out 2).trans rfl, (blk_cell BK191.out 3).trans rfl⟩ (fun hHeld => ?_)
        clear hK K
        refine norm_ (a' := ?_) ?_ ?_
        rotate_left
        · show Act.put _ (some 29) _ = _
          simp only [Act.put, List.setIfInBounds_toArray, List.set_cons_zero, List.set_cons_succ, i64_w, i32_w]
          rfl
        refine one_ (i := 3) (N := some 30) #[true, true, true, true, false] rfl rfl (by kernel_rfl) (by decide) (fun K hK => ?_)
        refine goes_ Try.func20 (by kernel_rfl) rfl #[.agg #[.int .i64 t204, .slice Ao31 t205.length co31, .slice Ao32 t208.length co32, .int .i64 t211], .agg #[.int .i64 t217, .slice Ao38 t218.length co38, .slice Ao39 t221.length co39, .int .i64 t224]] (by rfl) rfl rfl (by (try simp only [List.map_toArray, List.map_cons, List.map_nil]); first | done | rfl | (simp only [List.length_drop, List.length_take]; rfl)) ?_
        with_reducible refine (laws_eqCourt.calls k t204 _ _ t205 _ _ t208 t211 t217 _ _ t218 _ _ t221 t224 true _ ?side1 ?side2 ?side3 ?side4 ?side5 ?side6 ?side7 ?side8 A14.out).mono ?_
        (case side1 => repeat (first | exact (Kd.S_reads' HO207.out).2.2 | (with_reducible refine Kd.C_alloc ?_ _) | (with_reducible refine Kd.C_drewN ?_ _) | (with_reducible refine Kd.C_drew ?_)))
        (case side2 => exact (Kd.S_reads' HO207.out).2.1)
        (case side3 => repeat (first | exact (Kd.R_reads' HO210.out).2.2 | (with_reducible refine Kd.C_alloc ?_ _) | (with_reducible refine Kd.C_drewN ?_ _) | (with_reducible refine Kd.C_drew ?_)))
        (case side4 => exact (Kd.R_reads' HO210.out).2.1)
        (case side5 => repeat (first | exact (Kd.S_reads' HO220.out).2.2 | (with_reducible refine Kd.C_alloc ?_ _) | (with_reducible refine Kd.C_drewN ?_ _) | (with_reducible refine Kd.C_drew ?_)))
        (case side6 => exact (Kd.S_reads' HO220.out).2.1)
        (case side7 => repeat (first | exact (Kd.R_reads' HO223.out).2.2 | (with_reducible refine Kd.C_alloc ?_ _) | (with_reducible refine Kd.C_drewN ?_ _) | (with_reducible refine Kd.C_drew ?_)))
        (case side8 => exact (Kd.R_reads' HO223.out).2.1)
        rintro e w40 ⟨rfl, hb⟩
        refine ⟨_, rfl, ?_⟩
        have n0_ := Aside0.mk (Kd.S_below (by (with_reducible repeat (first | apply Kd.S_alloc | apply Kd.S_drewN | apply Kd.S_drew)); exact HO196.out) hb)
        have n1_ := Aside0.mk (Kd.R_below (by (with_reducible repeat (first | apply Kd.R_alloc | apply Kd.R_drewN | apply Kd.R_drew)); exact HO199.out) hb)
        have n2_ := Aside0.mk (Kd.R_below (by (with_reducible repeat (first | apply Kd.R_alloc | apply Kd.R_drewN | apply Kd.R_drew)); exact HO203.out) hb)
        have n3_ := Aside0.mk (Kd.S_below (by (with_reducible repeat (first | apply Kd.S_alloc | apply Kd.S_drewN | apply Kd.S_drew)); exact HO207.out) hb)
        have n4_ := Aside0.mk (Kd.R_below (by (with_reducible repeat (first | apply Kd.R_alloc | apply Kd.R_drewN | apply Kd.R_drew)); exact HO210.out) hb)
        have n5_ := Aside0.mk (Kd.R_below (by (with_reducible repeat (first | apply Kd.R_alloc | apply Kd.R_drewN | apply Kd.R_drew)); exact HO215.out) hb)
        have n6_ := Aside0.mk (Kd.S_below (by (with_reducible repeat (first | apply Kd.S_alloc | apply Kd.S_drewN | apply Kd.S_drew)); exact HO220.out) hb)
        have n7_ := Aside0.mk (Kd.R_below (by (with_reducible repeat (first | apply Kd.R_alloc | apply Kd.R_drewN | apply Kd.R_drew)); exact HO223.out) hb)
        have n8_ := Aside0.mk (blk_below (g := gb191) (o := .cells #[.int .i64 a0_0, .slice A0_1 l0_1.length c0_1, .slice A0_2 l0_2.length c0_2, .int .i64 a0_3] 25 (0, 0)) (by (with_reducible repeat (first | refine blk_drewN ?_ _ | refine blk_drew ?_ | refine blk_alloc ?_ _)); exact BK191.out) hb)
        have n9_ := Aside0.mk (blk_below (g := gb212) (o := .cells #[.int .i64 t204, .slice Ao31 t205.length co31, .slice Ao32 t208.length co32, .int .i64 t211] 28 (0, 0)) (by (with_reducible repeat (first | refine blk_drewN ?_ _ | refine blk_drew ?_ | refine blk_alloc ?_ _)); exact BK212.out) hb)
        have n10_ := Aside0.mk (below_step (by repeat (first | (with_reducible first | exact HB.out | apply below_alloc | apply pw_below_drewN | apply below_drew1 | refine below_set ?_ GE191.out | refine below_set ?_ GE212.out) | exact HB.out)) hb)
        clear HO196
        clear HO199
        clear HO203
        clear HO207
        clear HO210
        clear HO215
        clear HO220
        clear HO223
        clear BK191
        clear BK212
        clear HB
        have HO196 := n0_
        have HO199 := n1_
        have HO203 := n2_
        have HO207 := n3_
        have HO210 := n4_
        have HO215 := n5_
        have HO220 := n6_
        have HO223 := n7_
        have BK191 := n8_
        have BK212 := n9_
        have HB := n10_
        clear n0_ n1_ n2_ n3_ n4_ n5_ n6_ n7_ n8_ n9_ n10_
        (try clear hb)
        (try clear hb2)
        (try clear hk)
        (try clear hi)
        refine hK.out _ _ ⟨(blk_cell BK212.out 0).trans rfl, (blk_cell BK212.out 1).trans rfl, (blk_cell BK212.out 2).trans rfl, (blk_cell BK212.out 3).trans rfl, (blk_cell BK191.out 0).trans rfl, (blk_cell BK191.out 1).trans rfl, (blk_cell BK191.out 2).trans rfl, (blk_cell BK191.out 3).trans rfl⟩ (fun hHeld => ?_)
        clear hK K
        refine norm_ (a' := ?_) ?_ ?_
        rotate_left
        · show Act.put _ (some 30) _ = _
          simp only [Act.put, List.setIfInBounds_toArray, List.set_cons_zero, List.set_cons_succ, i64_w, i32_w]
          rfl
        refine pure_ (i := 4) (N := some 31) (v := ?_) (a' := ?_) #[true, true, true, true, true] rfl rfl (by kernel_rfl) (fun _ _ _ h => h) (Or.inl ⟨by rfl, ?_⟩) ?_ ?_
        rotate_left
        · intro w'
          go_simp
          with_reducible rfl
        rotate_left
        · simp only [Act.put, List.setIfInBounds_toArray, List.set_cons_zero, List.set_cons_succ, i64_w, i32_w]
          rfl
        refine done_ (by kernel_rfl) ?_
        have hcz41_0 : w40.cell? ⟨gb212, 0, none⟩ = some (.int .i64 t204) := (blk_cell BK212.out 0).trans rfl
        have hcz41_1 : w40.cell? ⟨gb212, 1, none⟩ = some (.slice Ao31 t205.length co31) := (blk_cell BK212.out 1).trans rfl
        have hcz41_2 : w40.cell? ⟨gb212, 2, none⟩ = some (.slice Ao32 t208.length co32) := (blk_cell BK212.out 2).trans rfl
        have hcz41_3 : w40.cell? ⟨gb212, 3, none⟩ = some (.int .i64 t211) := (blk_cell BK212.out 3).trans rfl
        have hfz41_0 := blk_frozen BK212.out 0
        have hfz41_1 := blk_frozen BK212.out 1
        have hfz41_2 := blk_frozen BK212.out 2
        have hfz41_3 := blk_frozen BK212.out 3
        have n_ := Aside0.mk (Kd.S_mono (ok' := (fun k_ => some k_ ≠ (.slice Ao24 t197.length co24 : Value).ownBlock ∧ some k_ ≠ (.slice Ao35 t201.length co35 : Value).ownBlock ∧ some k_ ≠ (.slice Ao31 t205.length co31 : Value).ownBlock ∧ some k_ ≠ (.slice Ao32 t208.length co32 : Value).ownBlock ∧ some k_ ≠ (.slice Ao34 t213.length co34 : Value).ownBlock ∧ some k_ ≠ (.slice Ao38 t218.length co38 : Value).ownBlock ∧ some k_ ≠ (.slice Ao39 t221.length co39 : Value).ownBlock)) HO196.out (by (intro k_; (try simp only [and_imp, and_assoc, true_and]); intros; repeat' (first | assumption | exact trivial | apply And.intro))))
        clear HO196
        have HO196 := n_
        clear n_
        have n_ := Aside0.mk (Kd.R_mono (ok' := (fun k_ => some k_ ≠ (.slice Ao35 t201.length co35 : Value).ownBlock ∧ some k_ ≠ (.slice Ao32 t208.length co32 : Value).ownBlock ∧ some k_ ≠ (.slice Ao34 t213.length co34 : Value).ownBlock ∧ some k_ ≠ (.slice Ao39 t221.length co39 : Value).ownBlock)) HO199.out (by (intro k_; (try simp only [and_imp, and_assoc, true_and]); intros; repeat' (first | assumption | exact trivial | apply And.intro))))
        clear HO199
        have HO199 := n_
        clear n_
        have n_ := Aside0.mk (Kd.R_mono (ok' := (fun k_ => some k_ ≠ (.slice Ao24 t197.length co24 : Value).ownBlock ∧ some k_ ≠ (.slice Ao32 t208.length co32 : Value).ownBlock ∧ some k_ ≠ (.slice Ao34 t213.length co34 : Value).ownBlock ∧ some k_ ≠ (.slice Ao39 t221.length co39 : Value).ownBlock)) HO203.out (by (intro k_; (try simp only [and_imp, and_assoc, true_and]); intros; repeat' (first | assumption | exact trivial | apply And.intro))))
        clear HO203
        have HO203 := n_
        clear n_
        have n_ := Aside0.mk (Kd.S_mono (ok' := (fun k_ => some k_ ≠ (.slice Ao23 t194.length co23 : Value).ownBlock ∧ some k_ ≠ (.slice Ao24 t197.length co24 : Value).ownBlock ∧ some k_ ≠ (.slice Ao35 t201.length co35 : Value).ownBlock ∧ some k_ ≠ (.slice Ao32 t208.length co32 : Value).ownBlock ∧ some k_ ≠ (.slice Ao34 t213.length co34 : Value).ownBlock ∧ some k_ ≠ (.slice Ao38 t218.length co38 : Value).ownBlock ∧ some k_ ≠ (.slice Ao39 t221.length co39 : Value).ownBlock)) HO207.out (by (intro k_; (try simp only [and_imp, and_assoc, true_and]); intros; repeat' (first | assumption | exact trivial | apply And.intro))))
        clear HO207
        have HO207 := n_
        clear n_
        have n_ := Aside0.mk (Kd.R_mono (ok' := (fun k_ => some k_ ≠ (.slice Ao24 t197.length co24 : Value).ownBlock ∧ some k_ ≠ (.slice Ao35 t201.length co35 : Value).ownBlock ∧ some k_ ≠ (.slice Ao34 t213.length co34 : Value).ownBlock ∧ some k_ ≠ (.slice Ao39 t221.length co39 : Value).ownBlock)) HO210.out (by (intro k_; (try simp only [and_imp, and_assoc, true_and]); intros; repeat' (first | assumption | exact trivial | apply And.intro))))
        clear HO210
        have HO210 := n_
        clear n_
        have n_ := Aside0.mk (Kd.R_mono (ok' := (fun k_ => some k_ ≠ (.slice Ao24 t197.length co24 : Value).ownBlock ∧ some k_ ≠ (.slice Ao35 t201.length co35 : Value).ownBlock ∧ some k_ ≠ (.slice Ao32 t208.length co32 : Value).ownBlock ∧ some k_ ≠ (.slice Ao39 t221.length co39 : Value).ownBlock)) HO215.out (by (intro k_; (try simp only [and_imp, and_assoc, true_and]); intros; repeat' (first | assumption | exact trivial | apply And.intro))))
        clear HO215
        have HO215 := n_
        clear n_
        have n_ := Aside0.mk (Kd.S_mono (ok' := (fun k_ => some k_ ≠ (.slice Ao23 t194.length co23 : Value).ownBlock ∧ some k_ ≠ (.slice Ao24 t197.length co24 : Value).ownBlock ∧ some k_ ≠ (.slice Ao35 t201.length co35 : Value).ownBlock ∧ some k_ ≠ (.slice Ao31 t205.length co31 : Value).ownBlock ∧ some k_ ≠ (.slice Ao32 t208.length co32 : Value).ownBlock ∧ some k_ ≠ (.slice Ao34 t213.length co34 : Value).ownBlock ∧ some k_ ≠ (.slice Ao39 t221.length co39 : Value).ownBlock)) HO220.out (by (intro k_; (try simp only [and_imp, and_assoc, true_and]); intros; repeat' (first | assumption | exact trivial | apply And.intro))))
        clear HO220
        have HO220 := n_
        clear n_
        have n_ := Aside0.mk (Kd.R_mono (ok' := (fun k_ => some k_ ≠ (.slice Ao24 t197.length co24 : Value).ownBlock ∧ some k_ ≠ (.slice Ao35 t201.length co35 : Value).ownBlock ∧ some k_ ≠ (.slice Ao32 t208.length co32 : Value).ownBlock ∧ some k_ ≠ (.slice Ao34 t213.length co34 : Value).ownBlock)) HO223.out (by (intro k_; (try simp only [and_imp, and_assoc, true_and]); intros; repeat' (first | assumption | exact trivial | apply And.intro))))
        clear HO223
        have HO223 := n_
        clear n_
        go_upto_region 14 with (first | ((with_reducible refine gate_callee (f := 28) rfl ?_); refine goesL_ (some 34) rfl rfl Try.func28 (by kernel_rfl) rfl #[.agg #[.int .i64 t204, .slice Ao31 t205.length co31, .slice Ao32 t208.length co32, .int .i64 t211], .int .i64 1] rfl (by (try simp only [List.map_toArray, List.map_cons, List.map_nil]); first | done | rfl | (simp only [List.length_drop, List.length_take]; rfl)) ?_; (with_reducible refine (laws_markCourt.calls k t204 (fun k_ => ((some k_ ≠ (.slice Ao23 t194.length co23 : Value).ownBlock ∧ (some k_ ≠ (.slice Ao24 t197.length co24 : Value).ownBlock ∧ (some k_ ≠ (.slice Ao35 t201.length co35 : Value).ownBlock ∧ (some k_ ≠ (.slice Ao32 t208.length co32 : Value).ownBlock ∧ (some k_ ≠ (.slice Ao34 t213.length co34 : Value).ownBlock ∧ (some k_ ≠ (.slice Ao38 t218.length co38 : Value).ownBlock ∧ some k_ ≠ (.slice Ao39 t221.length co39 : Value).ownBlock))))))) ∧ k_ ≠ gb191 ∧ k_ ≠ gb212) (.slice Ao31 t205.length co31) t205 (fun k_ => some k_ = (.slice Ao32 t208.length co32 : Value).ownBlock) (.slice Ao32 t208.length co32) t208 t211 1 t226 w _ ?side1 ?side2 ?side3 ?side4 A16.out).mono ?_); (case side1 => repeat (first | (with_reducible first | exact HB.out | apply below_alloc | apply pw_below_drewN | apply below_drew1 | refine below_set ?_ GE191.out | refine below_set ?_ GE212.out) | exact HB.out)); (case side2 => exact Kd.S_mono ((Kd.S_types (Kd.S_types HO207.out (by (with_reducible repeat (first | refine blk_drewN ?_ _ | refine blk_drew ?_ | refine blk_alloc ?_ _)); exact BK191.out) (by decide)) (by (with_reducible repeat (first | refine blk_drewN ?_ _ | refine blk_drew ?_ | refine blk_alloc ?_ _)); exact BK212.out) (by decide))) (by (intro k_; (try simp only [and_imp, and_assoc]); intros; repeat' (first | assumption | exact trivial | apply And.intro)))); (case side3 => exact fun k_ hp_ e_ => (hp_.1.2.2.2.1) e_); (case side4 => exact Kd.R_tight rfl HO210.out); rintro e w42 ⟨rfl, hb, hkp⟩; refine ⟨_, rfl, ?_⟩; have n0_ := Aside0.mk (blk_kept (by (with_reducible repeat (first | refine blk_drewN ?_ _ | refine blk_drew ?_ | refine blk_alloc ?_ _)); exact BK191.out) hkp (fun hs_ => Or.elim hs_ (fun e_ => (fun e_ => (e_.2.1) rfl) e_) (fun e_ => (fun e_ => (Kd.R_ne HO210.out BK191.out (by decide)) e_) e_))); have n1_ := Aside0.mk (Kd.R_mono (ok' := fun k_ => some k_ ≠ (.slice Ao35 t201.length co35 : Value).ownBlock ∧ some k_ ≠ (.slice Ao34 t213.length co34 : Value).ownBlock ∧ some k_ ≠ (.slice Ao39 t221.length co39 : Value).ownBlock) (Kd.R_keptB ((Kd.R_mono (ok' := fun k_ => (some k_ ≠ (.slice Ao35 t201.length co35 : Value).ownBlock ∧ (some k_ ≠ (.slice Ao32 t208.length co32 : Value).ownBlock ∧ (some k_ ≠ (.slice Ao34 t213.length co34 : Value).ownBlock ∧ some k_ ≠ (.slice Ao39 t221.length co39 : Value).ownBlock))) ∧ ¬ (fun k_ => ((some k_ ≠ (.slice Ao23 t194.length co23 : Value).ownBlock ∧ (some k_ ≠ (.slice Ao24 t197.length co24 : Value).ownBlock ∧ (some k_ ≠ (.slice Ao35 t201.length co35 : Value).ownBlock ∧ (some k_ ≠ (.slice Ao32 t208.length co32 : Value).ownBlock ∧ (some k_ ≠ (.slice Ao34 t213.length co34 : Value).ownBlock ∧ (some k_ ≠ (.slice Ao38 t218.length co38 : Value).ownBlock ∧ some k_ ≠ (.slice Ao39 t221.length co39 : Value).ownBlock))))))) ∧ k_ ≠ gb191 ∧ k_ ≠ gb212) k_) (Kd.R_tight2 rfl HO199.out) (fun k_ hk => ⟨hk.2, fun hp_ => (hp_.1.2.1) hk.1⟩))) hkp (fun k_ hk_ hs_ => Or.elim hs_ (fun e_ => (hk_.2) e_) (fun e_ => (hk_.1.2.1) e_))) (fun k_ hk_ => ⟨hk_.1.1.1, hk_.1.1.2.2.1, hk_.1.1.2.2.2⟩)); have n2_ := Aside0.mk (Kd.R_mono (ok' := fun k_ => some k_ ≠ (.slice Ao24 t197.length co24 : Value).ownBlock ∧ some k_ ≠ (.slice Ao34 t213.length co34 : Value).ownBlock ∧ some k_ ≠ (.slice Ao39 t221.length co39 : Value).ownBlock) (Kd.R_keptB ((Kd.R_mono (ok' := fun k_ => (some k_ ≠ (.slice Ao24 t197.length co24 : Value).ownBlock ∧ (some k_ ≠ (.slice Ao32 t208.length co32 : Value).ownBlock ∧ (some k_ ≠ (.slice Ao34 t213.length co34 : Value).ownBlock ∧ some k_ ≠ (.slice Ao39 t221.length co39 : Value).ownBlock))) ∧ ¬ (fun k_ => ((some k_ ≠ (.slice Ao23 t194.length co23 : Value).ownBlock ∧ (some k_ ≠ (.slice Ao24 t197.length co24 : Value).ownBlock ∧ (some k_ ≠ (.slice Ao35 t201.length co35 : Value).ownBlock ∧ (some k_ ≠ (.slice Ao32 t208.length co32 : Value).ownBlock ∧ (some k_ ≠ (.slice Ao34 t213.length co34 : Value).ownBlock ∧ (some k_ ≠ (.slice Ao38 t218.length co38 : Value).ownBlock ∧ some k_ ≠ (.slice Ao39 t221.length co39 : Value).ownBlock))))))) ∧ k_ ≠ gb191 ∧ k_ ≠ gb212) k_) (Kd.R_tight2 rfl HO203.out) (fun k_ hk => ⟨hk.2, fun hp_ => (hp_.1.2.2.1) hk.1⟩))) hkp (fun k_ hk_ hs_ => Or.elim hs_ (fun e_ => (hk_.2) e_) (fun e_ => (hk_.1.2.1) e_))) (fun k_ hk_ => ⟨hk_.1.1.1, hk_.1.1.2.2.1, hk_.1.1.2.2.2⟩)); have n3_ := Aside0.mk (blk_kept (by (with_reducible repeat (first | refine blk_drewN ?_ _ | refine blk_drew ?_ | refine blk_alloc ?_ _)); exact BK212.out) hkp (fun hs_ => Or.elim hs_ (fun e_ => (fun e_ => (e_.2.2) rfl) e_) (fun e_ => (fun e_ => (Kd.R_ne HO210.out BK212.out (by decide)) e_) e_))); have n4_ := Aside0.mk (Kd.R_mono (ok' := fun k_ => some k_ ≠ (.slice Ao24 t197.length co24 : Value).ownBlock ∧ some k_ ≠ (.slice Ao35 t201.length co35 : Value).ownBlock ∧ some k_ ≠ (.slice Ao39 t221.length co39 : Value).ownBlock) (Kd.R_keptB ((Kd.R_mono (ok' := fun k_ => (some k_ ≠ (.slice Ao24 t197.length co24 : Value).ownBlock ∧ (some k_ ≠ (.slice Ao35 t201.length co35 : Value).ownBlock ∧ (some k_ ≠ (.slice Ao32 t208.length co32 : Value).ownBlock ∧ some k_ ≠ (.slice Ao39 t221.length co39 : Value).ownBlock))) ∧ ¬ (fun k_ => ((some k_ ≠ (.slice Ao23 t194.length co23 : Value).ownBlock ∧ (some k_ ≠ (.slice Ao24 t197.length co24 : Value).ownBlock ∧ (some k_ ≠ (.slice Ao35 t201.length co35 : Value).ownBlock ∧ (some k_ ≠ (.slice Ao32 t208.length co32 : Value).ownBlock ∧ (some k_ ≠ (.slice Ao34 t213.length co34 : Value).ownBlock ∧ (some k_ ≠ (.slice Ao38 t218.length co38 : Value).ownBlock ∧ some k_ ≠ (.slice Ao39 t221.length co39 : Value).ownBlock))))))) ∧ k_ ≠ gb191 ∧ k_ ≠ gb212) k_) (Kd.R_tight2 rfl HO215.out) (fun k_ hk => ⟨hk.2, fun hp_ => (hp_.1.2.2.2.2.1) hk.1⟩))) hkp (fun k_ hk_ hs_ => Or.elim hs_ (fun e_ => (hk_.2) e_) (fun e_ => (hk_.1.2.2.1) e_))) (fun k_ hk_ => ⟨hk_.1.1.1, hk_.1.1.2.1, hk_.1.1.2.2.2⟩)); have n5_ := Aside0.mk (Kd.R_mono (ok' := fun k_ => some k_ ≠ (.slice Ao24 t197.length co24 : Value).ownBlock ∧ some k_ ≠ (.slice Ao35 t201.length co35 : Value).ownBlock ∧ some k_ ≠ (.slice Ao34 t213.length co34 : Value).ownBlock) (Kd.R_keptB ((Kd.R_mono (ok' := fun k_ => (some k_ ≠ (.slice Ao24 t197.length co24 : Value).ownBlock ∧ (some k_ ≠ (.slice Ao35 t201.length co35 : Value).ownBlock ∧ (some k_ ≠ (.slice Ao32 t208.length co32 : Value).ownBlock ∧ some k_ ≠ (.slice Ao34 t213.length co34 : Value).ownBlock))) ∧ ¬ (fun k_ => ((some k_ ≠ (.slice Ao23 t194.length co23 : Value).ownBlock ∧ (some k_ ≠ (.slice Ao24 t197.length co24 : Value).ownBlock ∧ (some k_ ≠ (.slice Ao35 t201.length co35 : Value).ownBlock ∧ (some k_ ≠ (.slice Ao32 t208.length co32 : Value).ownBlock ∧ (some k_ ≠ (.slice Ao34 t213.length co34 : Value).ownBlock ∧ (some k_ ≠ (.slice Ao38 t218.length co38 : Value).ownBlock ∧ some k_ ≠ (.slice Ao39 t221.length co39 : Value).ownBlock))))))) ∧ k_ ≠ gb191 ∧ k_ ≠ gb212) k_) (Kd.R_tight2 rfl HO223.out) (fun k_ hk => ⟨hk.2, fun hp_ => (hp_.1.2.2.2.2.2.2) hk.1⟩))) hkp (fun k_ hk_ hs_ => Or.elim hs_ (fun e_ => (hk_.2) e_) (fun e_ => (hk_.1.2.2.1) e_))) (fun k_ hk_ => ⟨hk_.1.1.1, hk_.1.1.2.1, hk_.1.1.2.2.2⟩)); have n6_ := Aside0.mk (hb); clear BK191; clear HO199; clear HO203; clear BK212; clear HO215; clear HO223; clear HB; clear HO196; clear HO220; clear HO207; clear HO210; have BK191 := n0_; have HO199 := n1_; have HO203 := n2_; have BK212 := n3_; have HO215 := n4_; have HO223 := n5_; have HB := n6_; clear n0_ n1_ n2_ n3_ n4_ n5_ n6_; (try clear hb); (try clear hkp)))
        (try simp only [Act.put, List.setIfInBounds_toArray, List.set_cons_zero, List.set_cons_succ])
        go_cut [42] (fun v42 wc => ∃ (kq : Nat) (x42_16 : Bool), v42 = .bool x42_16 ∧ Aside0 (laws_FnExactVacantOf.j0 kq t201 t213 x42_16 a0_0 l0_1 l0_2 a0_3 = some r) ∧ Aside0 (kq ≤ k) ∧ Aside0 (Kd.R (Kd.int .i64) 3 wc w.heap.size (fun k_ => some k_ ≠ ((.slice Ao34 t213.length co34) : Value).ownBlock) (.slice Ao35 t201.length co35) t201) ∧ Aside0 (Kd.R (Kd.int .i64) 3 wc w.heap.size (fun k_ => some k_ ≠ ((.slice Ao35 t201.length co35) : Value).ownBlock) (.slice Ao34 t213.length co34) t213) ∧ Aside0 (wc.heap[gb191]? = some (.cells #[.int .i64 a0_0, (.slice A0_1 l0_1.length c0_1), (.slice A0_2 l0_2.length c0_2), .int .i64 a0_3] 25 (0, 0))) ∧ Aside0 (Below w.heap.size w wc))
        case first =>
          have H := HC17.out
          clear HC17
          by_cases c43 : t226 < 0
          · rw [if_pos c43] at H
            have c43b0 : decide (t226 < 0) = true := decide_eq_true c43
            clear c43
            (first | rw [c43b0] | (simp only [i64_w, i32_w]; rw [c43b0]) | skip)
            have H' := Aside0.mk H
            clear H
            go_wp2
            go_meet
            case rel => exact ⟨_, (true), (by first | rfl | (simp; done) | (simp [*]; done)), H', ⟨by first | omega | exact Nat.le_refl _⟩, ⟨by (with_reducible repeat (first | apply Kd.R_alloc | apply Kd.R_drewN | apply Kd.R_drew)); exact Kd.R_mono HO203.out (fun _ hk => hk.2.1)⟩, ⟨by (with_reducible repeat (first | apply Kd.R_alloc | apply Kd.R_drewN | apply Kd.R_drew)); exact Kd.R_mono HO215.out (fun _ hk => hk.2.1)⟩, ⟨by (with_reducible repeat (first | refine blk_drewN ?_ _ | refine blk_drew ?_ | refine blk_alloc ?_ _)); exact BK191.out⟩, ⟨by repeat (first | (with_reducible first | exact HB.out | apply below_alloc | apply pw_below_drewN | apply below_drew1 | refine below_set ?_ GE191.out | refine below_set ?_ GE212.out) | exact HB.out)⟩⟩
          · rw [if_neg c43] at H
            have c43b0 : decide (t226 < 0) = false := decide_eq_false c43
            clear c43
            (first | rw [c43b0] | (simp only [i64_w, i32_w]; rw [c43b0]) | skip)
            replace H := Option.bind_eq_some_iff.mp H
            obtain ⟨t227, A440, H⟩ := H
            replace H : (laws_FnExactVacantOf.j0 k t201 t213 (!t227) a0_0 l0_1 l0_2 a0_3) = some r := H
            have A44 := Aside0.mk A440
            clear A440
            have H' := Aside0.mk H
            clear H
            go_wp2_with (first | (go_at_call 27; (with_reducible refine (laws_eqIntS.calls k _ _ t213 _ _ t201 t227 _ ?side1 ?side2 ?side3 ?side4 A44.out).mono ?_); (case side1 => repeat (first | exact (Kd.R_reads' HO215.out).2.2 | (with_reducible refine Kd.C_alloc ?_ _) | (with_reducible refine Kd.C_drewN ?_ _) | (with_reducible refine Kd.C_drew ?_))); (case side2 => exact (Kd.R_reads' HO215.out).2.1); (case side3 => repeat (first | exact (Kd.R_reads' HO203.out).2.2 | (with_reducible refine Kd.C_alloc ?_ _) | (with_reducible refine Kd.C_drewN ?_ _) | (with_reducible refine Kd.C_drew ?_))); (case side4 => exact (Kd.R_reads' HO203.out).2.1); rintro e w' ⟨rfl, ⟨nd, rfl⟩⟩))
            go_meet
            case rel => exact ⟨_, (!t227), (by first | rfl | (simp; done) | (simp [*]; done)), H', ⟨by first | omega | exact Nat.le_refl _⟩, ⟨by (with_reducible repeat (first | apply Kd.R_alloc | apply Kd.R_drewN | apply Kd.R_drew)); exact Kd.R_mono HO203.out (fun _ hk => hk.2.1)⟩, ⟨by (with_reducible repeat (first | apply Kd.R_alloc | apply Kd.R_drewN | apply Kd.R_drew)); exact Kd.R_mono HO215.out (fun _ hk => hk.2.1)⟩, ⟨by (with_reducible repeat (first | refine blk_drewN ?_ _ | refine blk_drew ?_ | refine blk_alloc ?_ _)); exact BK191.out⟩, ⟨by repeat (first | (with_reducible first | exact HB.out | apply below_alloc | apply pw_below_drewN | apply below_drew1 | refine below_set ?_ GE191.out | refine below_set ?_ GE212.out) | exact HB.out)⟩⟩
        case rest =>
          clear HC17
          try clear c1
          try clear c2
          try clear p2
          try clear c3
          try clear c3b0
          try clear c4
          try clear c6
          try clear c12
          try clear c15
          try clear c16
          try clear c18
          try clear c20
          try clear c25
          try clear c26
          try clear c27
          try clear c28
          try clear c29
          try clear c43
          try clear c43b0
          try clear hcz19_0
          try clear hcz19_1
          try clear hcz19_2
          try clear hcz19_3
          try clear hcz21_0
          try clear hcz21_1
          try clear hcz21_2
          try clear hcz21_3
          try clear hcz26_0
          try clear hcz26_1
          try clear hcz26_2
          try clear hcz26_3
          try clear hcz30_0
          try clear hcz30_1
          try clear hcz30_2
          try clear hcz30_3
          try clear hcz41_0
          try clear hcz41_1
          try clear hcz41_2
          try clear hcz41_3
          try clear hcz5_0
          try clear hcz5_1
          try clear hcz5_2
          try clear hcz5_3
          try clear hfz19_0
          try clear hfz19_1
          try clear hfz19_2
          try clear hfz19_3
          try clear hfz21_0
          try clear hfz21_1
          try clear hfz21_2
          try clear hfz21_3
          try clear hfz26_0
          try clear hfz26_1
          try clear hfz26_2
          try clear hfz26_3
          try clear hfz30_0
          try clear hfz30_1
          try clear hfz30_2
          try clear hfz30_3
          try clear hfz41_0
          try clear hfz41_1
          try clear hfz41_2
          try clear hfz41_3
          try clear hfz5_0
          try clear hfz5_1
          try clear hfz5_2
          try clear hfz5_3
          obtain ⟨kq, x42_16, rfl, HA, HJ16, HO_4, HO_6, BK191, HB⟩ := hcut
          cases kq with
          | zero => exact absurd HA.out (by simp [laws_FnExactVacantOf.j0])
          | succ kj16 =>
            have H := HA.out
            clear HA
            simp only [laws_FnExactVacantOf.j0] at H
            by_cases c45 : x42_16 = true
            · subst c45
              have H1 : (none) = some r := by rw [if_pos rfl] at H; exact H
              clear H
              have H := H1
              clear H1
              exact absurd H (by simp)
            · replace c45 := Bool.eq_false_iff.mpr c45
              subst c45
              have H1 : ((laws_markIntS.f kj16 t213 1).bind fun bt228 => ((laws_heldIntS.f kj16 bt228.2 1).bind fun t230 => (if t230 < 0 then (none) else (if t230 = bt228.1 then ((laws_toCourt.f kj16 a0_0 l0_1 l0_2 a0_3).bind fun bt231 => ((impl_VacantOf.f kj16 bt231.1 bt231.2.1 bt231.2.2.1 bt231.2.2.2).bind fun t239 => ((laws_eqIntS.f kj16 t239 t201).bind fun t242 => (if t242 = true then ((laws_heldIntS.f kj16 bt228.2 1).bind fun t243 => (if t243 < 0 then (none) else (if t243 = bt228.1 then (some true) else (none)))) else (none))))) else (none))))) = some r := by rw [if_neg (show ¬ (false = true) by decide)] at H; exact H
              clear H
              have H := H1
              clear H1
              replace H := Option.bind_eq_some_iff.mp H
              obtain ⟨⟨t228, t229⟩, A460, H⟩ := H
              replace H : ((laws_heldIntS.f kj16 t229 1).bind fun t230 => (if t230 < 0 then (none) else (if t230 = t228 then ((laws_toCourt.f kj16 a0_0 l0_1 l0_2 a0_3).bind fun bt231 => ((impl_VacantOf.f kj16 bt231.1 bt231.2.1 bt231.2.2.1 bt231.2.2.2).bind fun t239 => ((laws_eqIntS.f kj16 t239 t201).bind fun t242 => (if t242 = true then ((laws_heldIntS.f kj16 t229 1).bind fun t243 => (if t243 < 0 then (none) else (if t243 = t228 then (some true) else (none)))) else (none))))) else (none)))) = some r := H
              have A46 := Aside0.mk A460
              clear A460
              replace H := Option.bind_eq_some_iff.mp H
              obtain ⟨t230, A470, H⟩ := H
              replace H : (if t230 < 0 then (none) else (if t230 = t228 then ((laws_toCourt.f kj16 a0_0 l0_1 l0_2 a0_3).bind fun bt231 => ((impl_VacantOf.f kj16 bt231.1 bt231.2.1 bt231.2.2.1 bt231.2.2.2).bind fun t239 => ((laws_eqIntS.f kj16 t239 t201).bind fun t242 => (if t242 = true then ((laws_heldIntS.f kj16 t229 1).bind fun t243 => (if t243 < 0 then (none) else (if t243 = t228 then (some true) else (none)))) else (none))))) else (none))) = some r := H
              have A47 := Aside0.mk A470
              clear A470
              by_cases c48 : t230 < 0
              · rw [if_pos c48] at H
                exact absurd H (by simp)
              · rw [if_neg c48] at H
                have c48b0 : decide (t230 < 0) = false := decide_eq_false c48
                clear c48
                by_cases c49 : t230 = t228
                · rw [if_pos c49] at H
                  have c49b0 : (t230 == t228) = true := beq_iff_eq.mpr c49
                  have c49b1 : (t230 != t228) = false := bne_eq_false_iff_eq.mpr c49
                  clear c49
                  replace H := Option.bind_eq_some_iff.mp H
                  obtain ⟨⟨t231, t232, t235, t238⟩, A500, H⟩ := H
                  replace H : ((impl_VacantOf.f kj16 t231 t232 t235 t238).bind fun t239 => ((laws_eqIntS.f kj16 t239 t201).bind fun t242 => (if t242 = true then ((laws_heldIntS.f kj16 t229 1).bind fun t243 => (if t243 < 0 then (none) else (if t243 = t228 then (some true) else (none)))) else (none)))) = some r := H
                  have A50 := Aside0.mk A500
                  clear A500
                  replace H := Option.bind_eq_some_iff.mp H
                  obtain ⟨t239, A510, H⟩ := H
                  replace H : ((laws_eqIntS.f kj16 t239 t201).bind fun t242 => (if t242 = true then ((laws_heldIntS.f kj16 t229 1).bind fun t243 => (if t243 < 0 then (none) else (if t243 = t228 then (some true) else (none)))) else (none))) = some r := H
                  have A51 := Aside0.mk A510
                  clear A510
                  replace H := Option.bind_eq_some_iff.mp H
                  obtain ⟨t242, A520, H⟩ := H
                  replace H : (if t242 = true then ((laws_heldIntS.f kj16 t229 1).bind fun t243 => (if t243 < 0 then (none) else (if t243 = t228 then (some true) else (none)))) else (none)) = some r := H
                  have A52 := Aside0.mk A520
                  clear A520
                  by_cases c53 : t242 = true
                  · subst c53
                    have H1 : ((laws_heldIntS.f kj16 t229 1).bind fun t243 => (if t243 < 0 then (none) else (if t243 = t228 then (some true) else (none)))) = some r := by rw [if_pos rfl] at H; exact H
                    clear H
                    have H := H1
                    clear H1
                    replace H := Option.bind_eq_some_iff.mp H
                    obtain ⟨t243, A540, H⟩ := H
                    replace H : (if t243 < 0 then (none) else (if t243 = t228 then (some true) else (none))) = some r := H
                    have A54 := Aside0.mk A540
                    clear A540
                    by_cases c55 : t243 < 0
                    · rw [if_pos c55] at H
                      exact absurd H (by simp)
                    · rw [if_neg c55] at H
                      have c55b0 : decide (t243 < 0) = false := decide_eq_false c55
                      clear c55
                      by_cases c56 : t243 = t228
                      · rw [if_pos c56] at H
                        have c56b0 : (t243 == t228) = true := beq_iff_eq.mpr c56
                        have c56b1 : (t243 != t228) = false := bne_eq_false_iff_eq.mpr c56
                        clear c56
                        obtain rfl := Option.some.inj H
                        go_wp2_with (first | ((with_reducible refine gate_callee (f := 29) rfl ?_); refine goesL_ (some 45) rfl rfl Try.func29 (by kernel_rfl) rfl #[.slice Ao34 t213.length co34, .int .i64 1] rfl (by (try simp only [List.map_toArray, List.map_cons, List.map_nil]); first | done | rfl | (simp only [List.length_drop, List.length_take]; rfl)) ?_; (with_reducible refine (laws_markIntS.calls kj16 (fun k_ => some k_ = (.slice Ao34 t213.length co34 : Value).ownBlock) (.slice Ao34 t213.length co34) t213 1 t228 t229 w _ ?side1 ?side2 A46.out).mono ?_); (case side1 => repeat (first | (with_reducible first | exact HB.out | apply below_alloc | apply pw_below_drewN | apply below_drew1 | refine below_set ?_ GE191.out) | exact HB.out)); (case side2 => exact Kd.R_tight rfl HO_6.out); rintro e w57 ⟨rfl, hy0, hb, hkp⟩; refine ⟨_, rfl, ?_⟩; have n0_ := Aside0.mk (Kd.R_mono (ok' := fun k_ => some k_ ≠ (.slice Ao34 t213.length co34 : Value).ownBlock) (Kd.R_keptB (HO_4.out) hkp (fun k_ hk_ hs_ => (hk_) hs_)) (fun k_ hk_ => hk_.1)); have n1_ := Aside0.mk (Kd.R_reok rfl hy0 (fun k_ e_ => HO_6.out.1 k_ e_)); have n2_ := Aside0.mk (blk_kept (by (with_reducible repeat (first | refine blk_drewN ?_ _ | refine blk_drew ?_ | refine blk_alloc ?_ _)); exact BK191.out) hkp (fun hs_ => (fun e_ => (Kd.R_ne HO_6.out BK191.out (by decide)) e_) hs_)); have n3_ := Aside0.mk (hb); clear HO_4; clear HO_6; clear BK191; clear HB; have HO_4 := n0_; have HO_6 := n1_; have BK191 := n2_; have HB := n3_; clear n0_ n1_ n2_ n3_; (try clear hb); (try clear hkp); (try clear hy0)) | ((with_reducible refine gate_callee (f := 30) rfl ?_); refine goesL_ (some 48) rfl rfl Try.func30 (by kernel_rfl) rfl #[.slice Ao34 t229.length co34, .int .i64 1] rfl (by (try simp only [List.map_toArray, List.map_cons, List.map_nil]); first | done | (rw [show t229.length = t213.length from (Kd.R_reads' HO_6.out).1.symm] <;> rfl) | rfl | (simp only [List.length_drop, List.length_take]; rfl)) ?_; (with_reducible refine (laws_heldIntS.calls kj16 _ _ t229 1 t230 _ ?side1 ?side2 A47.out).mono ?_); (case side1 => repeat (first | exact (Kd.R_reads' HO_6.out).2.2 | (with_reducible refine Kd.C_alloc ?_ _) | (with_reducible refine Kd.C_drewN ?_ _) | (with_reducible refine Kd.C_drew ?_))); (case side2 => rw [show t229.length = t213.length from (Kd.R_reads' HO_6.out).1.symm]; exact (Kd.R_reads' HO_6.out).2.1); rintro e w' ⟨rfl, ⟨nd, rfl⟩⟩; refine ⟨_, rfl, ?_⟩; have hcz58_0 : w57.cell? ⟨gb191, 0, none⟩ = some (.int .i64 a0_0) := (blk_cell BK191.out 0).trans rfl; have hcz58_1 : w57.cell? ⟨gb191, 1, none⟩ = some (.slice A0_1 l0_1.length c0_1) := (blk_cell BK191.out 1).trans rfl; have hcz58_2 : w57.cell? ⟨gb191, 2, none⟩ = some (.slice A0_2 l0_2.length c0_2) := (blk_cell BK191.out 2).trans rfl; have hcz58_3 : w57.cell? ⟨gb191, 3, none⟩ = some (.int .i64 a0_3) := (blk_cell BK191.out 3).trans rfl; have hfz58_0 := blk_frozen BK191.out 0; have hfz58_1 := blk_frozen BK191.out 1; have hfz58_2 := blk_frozen BK191.out 2; have hfz58_3 := blk_frozen BK191.out 3) | ((with_reducible refine gate_callee (f := 18) rfl ?_); refine goesL_ (some 55) rfl rfl Try.func18 (by kernel_rfl) rfl #[.agg #[.int .i64 a0_0, .slice A0_1 l0_1.length c0_1, .slice A0_2 l0_2.length c0_2, .int .i64 a0_3]] rfl (by (try simp only [List.map_toArray, List.map_cons, List.map_nil]); first | done | rfl | (simp only [List.length_drop, List.length_take]; rfl)) ?_; (with_reducible refine (laws_toCourt.calls kj16 a0_0 _ _ l0_1 _ _ l0_2 a0_3 t231 t232 t235 t238 _ ?side1 ?side2 ?side3 ?side4 A50.out).mono ?_); (case side1 => repeat (first | exact (Kd.C_below HR0_1.out (by repeat (first | (with_reducible first | exact HB.out | apply below_alloc | apply pw_below_drewN | apply below_drew1 | refine below_set ?_ GE191.out) | exact HB.out))) | (with_reducible refine Kd.C_alloc ?_ _) | (with_reducible refine Kd.C_drewN ?_ _) | (with_reducible refine Kd.C_drew ?_))); (case side2 => exact HC0_1.out); (case side3 => repeat (first | exact (Kd.C_below HR0_2.out (by repeat (first | (with_reducible first | exact HB.out | apply below_alloc | apply pw_below_drewN | apply below_drew1 | refine below_set ?_ GE191.out) | exact HB.out))) | (with_reducible refine Kd.C_alloc ?_ _) | (with_reducible refine Kd.C_drewN ?_ _) | (with_reducible refine Kd.C_drew ?_))); (case side4 => exact HC0_2.out); rintro e w59 ⟨v233, v236, rfl, ho0, ho1, hb⟩; refine ⟨_, rfl, ?_⟩; have n0_ := Aside0.mk (Kd.R_elder' (by (with_reducible repeat (first | apply Kd.R_alloc | apply Kd.R_drewN | apply Kd.R_drew)); exact HO_4.out) (Kd.R_base ho1) hb); have n1_ := Aside0.mk (Kd.R_elder' (by (with_reducible repeat (first | apply Kd.R_alloc | apply Kd.R_drewN | apply Kd.R_drew)); exact HO_6.out) (Kd.R_base ho1) hb); have n2_ := Aside0.mk (Kd.S_lower (Kd.S_new' (Kd.S_new' ho0 (Kd.R_lt (by (with_reducible repeat (first | apply Kd.R_alloc | apply Kd.R_drewN | apply Kd.R_drew)); exact HO_4.out))) (Kd.R_lt (by (with_reducible repeat (first | apply Kd.R_alloc | apply Kd.R_drewN | apply Kd.R_drew)); exact HO_6.out))) (below_size (by repeat (first | (with_reducible first | exact HB.out | apply below_alloc | apply pw_below_drewN | apply below_drew1 | refine below_set ?_ GE191.out) | exact HB.out)))); have n3_ := Aside0.mk (Kd.R_lower (Kd.R_new' (Kd.R_new' ho1 (Kd.R_lt (by (with_reducible repeat (first | apply Kd.R_alloc | apply Kd.R_drewN | apply Kd.R_drew)); exact HO_4.out))) (Kd.R_lt (by (with_reducible repeat (first | apply Kd.R_alloc | apply Kd.R_drewN | apply Kd.R_drew)); exact HO_6.out))) (below_size (by repeat (first | (with_reducible first | exact HB.out | apply below_alloc | apply pw_below_drewN | apply below_drew1 | refine below_set ?_ GE191.out) | exact HB.out)))); have n4_ := Aside0.mk (blk_below (g := gb191) (o := .cells #[.int .i64 a0_0, .slice A0_1 l0_1.length c0_1, .slice A0_2 l0_2.length c0_2, .int .i64 a0_3] 25 (0, 0)) (by (with_reducible repeat (first | refine blk_drewN ?_ _ | refine blk_drew ?_ | refine blk_alloc ?_ _)); exact BK191.out) hb); have n5_ := Aside0.mk (below_step (by repeat (first | (with_reducible first | exact HB.out | apply below_alloc | apply pw_below_drewN | apply below_drew1 | refine below_set ?_ GE191.out) | exact HB.out)) hb); clear HO_4; clear HO_6; clear BK191; clear HB; have HO_4 := n0_; have HO_6 := n1_; have HO234 := n2_; have HO237 := n3_; have BK191 := n4_; have HB := n5_; clear n0_ n1_ n2_ n3_ n4_ n5_; (try clear hb); (try clear hb2); (try clear hk); (try clear hi); (try clear ho0); (try clear ho1); obtain ⟨Ao60, co60, eo60⟩ := Kd.S_slice HO234.out; subst eo60; obtain ⟨Ao61, co61, eo61⟩ := Kd.R_slice HO237.out; subst eo61) | ((with_reducible refine gate_callee (f := 26) rfl ?_); refine goesL_ (some 56) rfl rfl Try.func26 (by kernel_rfl) rfl #[.agg #[.int .i64 t231, .slice Ao60 t232.length co60, .slice Ao61 t235.length co61, .int .i64 t238]] rfl (by (try simp only [List.map_toArray, List.map_cons, List.map_nil]); first | done | rfl | (simp only [List.length_drop, List.length_take]; rfl)) ?_; (with_reducible refine (impl_VacantOf.calls kj16 t231 _ _ t232 _ _ t235 t238 t239 _ ?side1 ?side2 ?side3 ?side4 A51.out).mono ?_); (case side1 => repeat (first | exact (Kd.S_reads' HO234.out).2.2 | (with_reducible refine Kd.C_alloc ?_ _) | (with_reducible refine Kd.C_drewN ?_ _) | (with_reducible refine Kd.C_drew ?_))); (case side2 => exact (Kd.S_reads' HO234.out).2.1); (case side3 => repeat (first | exact (Kd.R_reads' HO237.out).2.2 | (with_reducible refine Kd.C_alloc ?_ _) | (with_reducible refine Kd.C_drewN ?_ _) | (with_reducible refine Kd.C_drew ?_))); (case side4 => exact (Kd.R_reads' HO237.out).2.1); rintro e w62 ⟨v240, rfl, ho0, hb⟩; refine ⟨_, rfl, ?_⟩; have n0_ := Aside0.mk (Kd.R_elder' (by (with_reducible repeat (first | apply Kd.R_alloc | apply Kd.R_drewN | apply Kd.R_drew)); exact HO_4.out) (Kd.R_base ho0) hb); have n1_ := Aside0.mk (Kd.R_elder' (by (with_reducible repeat (first | apply Kd.R_alloc | apply Kd.R_drewN | apply Kd.R_drew)); exact HO_6.out) (Kd.R_base ho0) hb); have n2_ := Aside0.mk (Kd.S_elder' (by (with_reducible repeat (first | apply Kd.S_alloc | apply Kd.S_drewN | apply Kd.S_drew)); exact HO234.out) (Kd.R_base ho0) hb); have n3_ := Aside0.mk (Kd.R_elder' (by (with_reducible repeat (first | apply Kd.R_alloc | apply Kd.R_drewN | apply Kd.R_drew)); exact HO237.out) (Kd.R_base ho0) hb); have n4_ := Aside0.mk (Kd.R_lower (Kd.R_new' (Kd.R_new' (Kd.R_new' ho0 (Kd.R_lt (by (with_reducible repeat (first | apply Kd.R_alloc | apply Kd.R_drewN | apply Kd.R_drew)); exact HO_4.out))) (Kd.R_lt (by (with_reducible repeat (first | apply Kd.R_alloc | apply Kd.R_drewN | apply Kd.R_drew)); exact HO_6.out))) (Kd.R_lt (by (with_reducible repeat (first | apply Kd.R_alloc | apply Kd.R_drewN | apply Kd.R_drew)); exact HO237.out))) (below_size (by repeat (first | (with_reducible first | exact HB.out | apply below_alloc | apply pw_below_drewN | apply below_drew1 | refine below_set ?_ GE191.out) | exact HB.out)))); have n5_ := Aside0.mk (blk_below (g := gb191) (o := .cells #[.int .i64 a0_0, .slice A0_1 l0_1.length c0_1, .slice A0_2 l0_2.length c0_2, .int .i64 a0_3] 25 (0, 0)) (by (with_reducible repeat (first | refine blk_drewN ?_ _ | refine blk_drew ?_ | refine blk_alloc ?_ _)); exact BK191.out) hb); have n6_ := Aside0.mk (below_step (by repeat (first | (with_reducible first | exact HB.out | apply below_alloc | apply pw_below_drewN | apply below_drew1 | refine below_set ?_ GE191.out) | exact HB.out)) hb); clear HO_4; clear HO_6; clear HO234; clear HO237; clear BK191; clear HB; have HO_4 := n0_; have HO_6 := n1_; have HO234 := n2_; have HO237 := n3_; have HO241 := n4_; have BK191 := n5_; have HB := n6_; clear n0_ n1_ n2_ n3_ n4_ n5_ n6_; (try clear hb); (try clear hb2); (try clear hk); (try clear hi); (try clear ho0); obtain ⟨Ao63, co63, eo63⟩ := Kd.R_slice HO241.out; subst eo63) | ((with_reducible refine gate_callee (f := 27) rfl ?_); refine goesL_ (some 59) rfl rfl Try.func27 (by kernel_rfl) rfl #[.slice Ao63 t239.length co63, .slice Ao35 t201.length co35] rfl (by (try simp only [List.map_toArray, List.map_cons, List.map_nil]); first | done | rfl | (simp only [List.length_drop, List.length_take]; rfl)) ?_; (with_reducible refine (laws_eqIntS.calls kj16 _ _ t239 _ _ t201 true _ ?side1 ?side2 ?side3 ?side4 A52.out).mono ?_); (case side1 => repeat (first | exact (Kd.R_reads' HO241.out).2.2 | (with_reducible refine Kd.C_alloc ?_ _) | (with_reducible refine Kd.C_drewN ?_ _) | (with_reducible refine Kd.C_drew ?_))); (case side2 => exact (Kd.R_reads' HO241.out).2.1); (case side3 => repeat (first | exact (Kd.R_reads' HO_4.out).2.2 | (with_reducible refine Kd.C_alloc ?_ _) | (with_reducible refine Kd.C_drewN ?_ _) | (with_reducible refine Kd.C_drew ?_))); (case side4 => exact (Kd.R_reads' HO_4.out).2.1); rintro e w' ⟨rfl, ⟨nd, rfl⟩⟩; refine ⟨_, rfl, ?_⟩) | ((with_reducible refine gate_callee (f := 30) rfl ?_); refine goesL_ (some 63) rfl rfl Try.func30 (by kernel_rfl) rfl #[.slice Ao34 t229.length co34, .int .i64 1] rfl (by (try simp only [List.map_toArray, List.map_cons, List.map_nil]); first | done | (rw [show t229.length = t213.length from (Kd.R_reads' HO_6.out).1.symm] <;> rfl) | rfl | (simp only [List.length_drop, List.length_take]; rfl)) ?_; (with_reducible refine (laws_heldIntS.calls kj16 _ _ t229 1 t243 _ ?side1 ?side2 A54.out).mono ?_); (case side1 => repeat (first | exact (Kd.R_reads' HO_6.out).2.2 | (with_reducible refine Kd.C_alloc ?_ _) | (with_reducible refine Kd.C_drewN ?_ _) | (with_reducible refine Kd.C_drew ?_))); (case side2 => rw [show t229.length = t213.length from (Kd.R_reads' HO_6.out).1.symm]; exact (Kd.R_reads' HO_6.out).2.1); rintro e w' ⟨rfl, ⟨nd, rfl⟩⟩; refine ⟨_, rfl, ?_⟩))
                        go_ret
                        exact ⟨by first | rfl | (simp [errW_none, errW_some] <;> rfl) | (simp [*, errW_none, errW_some] <;> rfl), by repeat (first | (with_reducible first | exact HB.out | apply below_alloc | apply pw_below_drewN | apply below_drew1 | refine below_set ?_ GE191.out) | exact HB.out)⟩
                      · rw [if_neg c56] at H
                        exact absurd H (by simp)
                  · replace c53 := Bool.eq_false_iff.mpr c53
                    subst c53
                    have H1 : (none) = some r := by rw [if_neg (show ¬ (false = true) by decide)] at H; exact H
                    clear H
                    have H := H1
                    clear H1
                    exact absurd H (by simp)
                · rw [if_neg c49] at H
                  exact absurd H (by simp)
      · replace c15 := Bool.eq_false_iff.mpr c15
        subst c15
        have H1 : (none) = some r := by rw [if_neg (show ¬ (false = true) by decide)] at H; exact H
        clear H
        have H := H1
        clear H1
        exact absurd H (by simp)
    · replace c12 := Bool.eq_false_iff.mpr c12
      subst c12
      have H1 : (none) = some r := by rw [if_neg (show ¬ (false = true) by decide)] at H; exact H
      clear H
      have H := H1
      clear H1
      exact absurd H (by simp)

def laws_FnExactVacantOf.Pure : Prop := ∀ (a0_0 : Int) (l0_1 : List (List Int)) (l0_2 : List Int) (a0_3 : Int), Opens.pInt .i64 a0_0 → Opens.pSlice (Opens.pSlice (Opens.pInt .i64)) l0_1 → Opens.pSlice (Opens.pInt .i64) l0_2 → Opens.pInt .i64 a0_3 → ∃ k, laws_FnExactVacantOf.f k a0_0 l0_1 l0_2 a0_3 = some true

end Go.Proofs.Ytlpjkeejflogjaa.QFnExactVacantOf
