-- Printed for this claim by a turned copy of the print (wip/myprint). Lean checks it. Squeezed. Worded. Tightened.
import Derived.Test.YtmbphgdfadoknaaQFnCharterOkx0
import Derived.Test.YtmbphgdfadoknaaQFnCharterOkx5
import Derived.Test.YtmbphgdfadoknaaQFnCharterOkx8
import Derived.Test.YtmbphgdfadoknaaQFnCharterOkx10
namespace Go.Proofs.Ytmbphgdfadoknaa.QFnCharterOk
open Go.RowKit Go.Proofs.YtmbphgdfadoknaaW.PrintWords Go.Proofs.YtmbphgdfadoknaaW.PrintLast Go.Proofs.YtmbphgdfadoknaaW.PrintMore
attribute [local go_sem] max2_int min2_int max_two min_two max_three min_three max_four min_four Opens.cell_twice   -- for this text's walks alone
set_option linter.unusedVariables false
set_option linter.unusedSimpArgs false

/-! ### impl_CrowdOk: function 32 -/
def impl_CrowdOk.f (a0 : Int) (a1 : Int) : Option (Bool) := (impl_isCrowd.f a0 a1).bind fun t290 => (some t290)
set_option maxHeartbeats 8000000 in
set_option maxRecDepth 100000 in
theorem impl_CrowdOk.calls (a0 : Int) (a1 : Int) (r : Bool) (w : World) (h : impl_CrowdOk.f a0 a1 = some r) :
  Calls Try.prog 32 #[.int .i64 a0, .int .i64 a1] w fun e w' => e = .returned (.bool r) ∧ Drawn0 w w' := by
 have H : ((impl_isCrowd.f a0 a1).bind fun t290 => (some t290)) = some r := h
 clear h
 replace H := Option.bind_eq_some_iff.mp H
 obtain ⟨t290, A30, H⟩ := H
 replace H : (some t290) = some r := H
 have A3 := Aside0.mk A30
 clear A30
 obtain rfl := Option.some.inj H
 go_enter Try.func32, Try.ntmps32
 go_wp2_with (first | ((with_reducible refine gate_callee (f := 51) rfl ?_); refine goesL_ (some 7) rfl rfl Try.func51 kr rfl #[.int .i64 a0, .int .i64 a1] rfl lm ?_; (with_reducible refine (impl_isCrowd.calls a0 a1 t290 _ A3.out).mono ?_); rintro e w' ⟨rfl, ⟨nd, rfl⟩⟩; refine ⟨_, rfl, ?_⟩))
 go_ret
 exact ⟨by first | rfl | (simp; done) | (simp [*]; done), by repeat (first | exact Drawn0.refl _ | apply Drawn0.step)⟩

/-! ### laws_alive: function 12 -/
def laws_alive.f  : Option (Bool) := (impl_CrowdOk.f 2 3).bind fun t291 => (if t291 = true then ((impl_CrowdOk.f 2 4).bind fun t292 => (some (!t292))) else (some false))
set_option maxHeartbeats 8000000 in
set_option maxRecDepth 100000 in
theorem laws_alive.calls  (r : Bool) (w : World) (h : laws_alive.f  = some r) :
  Calls Try.prog 12 #[] w fun e w' => e = .returned (.bool r) ∧ Drawn0 w w' := by
 have H : ((impl_CrowdOk.f 2 3).bind fun t291 => (if t291 = true then ((impl_CrowdOk.f 2 4).bind fun t292 => (some (!t292))) else (some false))) = some r := h
 clear h
 replace H := Option.bind_eq_some_iff.mp H
 obtain ⟨t291, A10, H⟩ := H
 replace H : (if t291 = true then ((impl_CrowdOk.f 2 4).bind fun t292 => (some (!t292))) else (some false)) = some r := H
 have A1 := Aside0.mk A10
 clear A10
 by_cases c2 : t291 = true
 ·subst c2
  have H1 : ((impl_CrowdOk.f 2 4).bind fun t292 => (some (!t292))) = some r := by rw [if_pos rfl] at H; exact H
  clear H
  have H := H1
  clear H1
  replace H := Option.bind_eq_some_iff.mp H
  obtain ⟨t292, A30, H⟩ := H
  replace H : (some (!t292)) = some r := H
  have A3 := Aside0.mk A30
  clear A30
  obtain rfl := Option.some.inj H
  go_enter Try.func12, Try.ntmps12
  go_wp2_with (first | ((with_reducible refine gate_callee (f := 32) rfl ?_); refine goesL_ (some 1) rfl rfl Try.func32 kr rfl #[.int .i64 2, .int .i64 3] rfl lm ?_; (with_reducible refine (impl_CrowdOk.calls 2 3 true _ A1.out).mono ?_); rintro e w' ⟨rfl, ⟨nd, rfl⟩⟩; refine ⟨_, rfl, ?_⟩) | (go_at_call 32; (with_reducible refine (impl_CrowdOk.calls 2 4 t292 _ A3.out).mono ?_); rintro e w' ⟨rfl, ⟨nd, rfl⟩⟩))
  go_ret
  exact ⟨by first | rfl | (simp; done) | (simp [*]; done), by repeat (first | exact Drawn0.refl _ | apply Drawn0.step)⟩
 ·replace c2 := Bool.eq_false_iff.mpr c2
  subst c2
  have H1 : (some false) = some r := by rw [if_neg (show ¬ (false = true) by decide)] at H; exact H
  clear H
  have H := H1
  clear H1
  obtain rfl := Option.some.inj H
  go_enter Try.func12, Try.ntmps12
  go_wp2_with (first | ((with_reducible refine gate_callee (f := 32) rfl ?_); refine goesL_ (some 1) rfl rfl Try.func32 kr rfl #[.int .i64 2, .int .i64 3] rfl lm ?_; (with_reducible refine (impl_CrowdOk.calls 2 3 false _ A1.out).mono ?_); rintro e w' ⟨rfl, ⟨nd, rfl⟩⟩; refine ⟨_, rfl, ?_⟩))
  go_ret
  exact ⟨by first | rfl | (simp; done) | (simp [*]; done), by repeat (first | exact Drawn0.refl _ | apply Drawn0.step)⟩

/-! ### laws_FnCharterOk: function 3 -/
mutual
def laws_FnCharterOk.l0 : Nat → Int → Int → List Int → List (List (S35)) → Int → List Int → List (List (S35)) → Option (Bool)
 | 0, _, _, _, _, _, _, _ => none
 | k + 1, x6, x301000, x301001, x301002, x306000, x306001, x306002 => if x6 < (x301002.length : Int) then (laws_FnCharterOk.l1 k x6 (([] : List (S35))) 0 x301000 x301001 x301002 x306000 x306001 x306002) else ((impl_CharterOk.f k x306000 x306001 x306002).bind fun t306 => (if t306 = true then (if 1 ≤ (x306002.length : Int) then ((impl_CharterOk.f k x301000 x301001 (x306002.take 1)).bind fun t312 => (some t312)) else (none)) else (none)))
def laws_FnCharterOk.l1 : Nat → Int → List (S35) → Int → Int → List Int → List (List (S35)) → Int → List Int → List (List (S35)) → Option (Bool)
 | 0, _, _, _, _, _, _, _, _, _ => none
 | k + 1, x6, x7, x8, x301000, x301001, x301002, x306000, x306001, x306002 => if 0 ≤ x6 then (if x6 < (x301002.length : Int) then (if x8 < ((rd_L5 x301002 x6).length : Int) then (if 0 ≤ x8 then (if x7.length < 3518437208883 then (laws_FnCharterOk.l1 k x6 (x7 ++ [(⟨(rd_T35 (rd_L5 x301002 x6) x8).f0, (-1), 0⟩ : S35)]) (wrap64 (x8 + 1)) x301000 x301001 x301002 x306000 x306001 x306002) else (none)) else (none)) else (if x306002.length < 5864062014805 then (laws_FnCharterOk.l0 k (wrap64 (x6 + 1)) x301000 x301001 x301002 x306000 x306001 (x306002 ++ [x7])) else (none))) else (none)) else (none)
end
def laws_FnCharterOk.f (k : Nat) (l0 : List Int) : Option (Bool) := if (l0.length : Int) > 1048576 then (some true) else ((spec_DrawCharterOk.f k l0).bind fun bt293 => ((impl_CharterOk.f k bt293.1 bt293.2.1 bt293.2.2).bind fun t301 => ((spec_CharterOk.f k bt293.1 bt293.2.1 bt293.2.2).bind fun t302 => (if (t301 != t302) = true then (none) else (if t301 = true then (laws_FnCharterOk.l0 k 0 bt293.1 bt293.2.1 bt293.2.2 bt293.1 bt293.2.1 ([] : List (List (S35)))) else ((impl_CharterOk.f k 0 ([] : List Int) ([] : List (List (S35)))).bind fun t303 => (if t303 = true then (none) else ((laws_alive.f).bind fun t304 => (some t304)))))))))
theorem laws_FnCharterOk.mono_l : ∀ k, (∀ y0 y1 y2 y3 y4 y5 y6, LeO (laws_FnCharterOk.l0 k y0 y1 y2 y3 y4 y5 y6) (laws_FnCharterOk.l0 (k + 1) y0 y1 y2 y3 y4 y5 y6)) ∧ (∀ y0 y1 y2 y3 y4 y5 y6 y7 y8, LeO (laws_FnCharterOk.l1 k y0 y1 y2 y3 y4 y5 y6 y7 y8) (laws_FnCharterOk.l1 (k + 1) y0 y1 y2 y3 y4 y5 y6 y7 y8))
 | 0 => ⟨fun _ _ _ _ _ _ _ r h => by simp [laws_FnCharterOk.l0] at h, fun _ _ _ _ _ _ _ _ _ r h => by simp [laws_FnCharterOk.l1] at h⟩
 | k + 1 => by
  obtain ⟨ih0, ih1⟩ := laws_FnCharterOk.mono_l k
  refine ⟨?_, ?_⟩
  ·intro y0 y1 y2 y3 y4 y5 y6
   unfold laws_FnCharterOk.l0
   repeat' first
   | (with_reducible exact ih0 _ _ _ _ _ _ _)
   | (with_reducible exact ih1 _ _ _ _ _ _ _ _ _)
   | (with_reducible exact impl_CharterOk.mono _ _ _ _)
   | (with_reducible exact spec_CharterOk.mono _ _ _ _)
   | (with_reducible exact spec_DrawCharterOk.mono _ _)
   | (with_reducible exact LeO.refl _)
   | (with_reducible exact LeO.none _)
   | (with_reducible refine LeO.ite ?_ ?_)
   | (with_reducible refine LeO.bind ?_ (fun _ => ?_))
   | exact ih0 _ _ _ _ _ _ _
   | exact ih1 _ _ _ _ _ _ _ _ _
   | exact impl_CharterOk.mono _ _ _ _
   | exact spec_CharterOk.mono _ _ _ _
   | exact spec_DrawCharterOk.mono _ _
   | exact LeO.none _
   | refine LeO.ite ?_ ?_
   | refine LeO.bind ?_ (fun _ => ?_)
  ·intro y0 y1 y2 y3 y4 y5 y6 y7 y8
   unfold laws_FnCharterOk.l1
   repeat' first
   | (with_reducible exact ih0 _ _ _ _ _ _ _)
   | (with_reducible exact ih1 _ _ _ _ _ _ _ _ _)
   | (with_reducible exact impl_CharterOk.mono _ _ _ _)
   | (with_reducible exact spec_CharterOk.mono _ _ _ _)
   | (with_reducible exact spec_DrawCharterOk.mono _ _)
   | (with_reducible exact LeO.refl _)
   | (with_reducible exact LeO.none _)
   | (with_reducible refine LeO.ite ?_ ?_)
   | (with_reducible refine LeO.bind ?_ (fun _ => ?_))
   | exact ih0 _ _ _ _ _ _ _
   | exact ih1 _ _ _ _ _ _ _ _ _
   | exact impl_CharterOk.mono _ _ _ _
   | exact spec_CharterOk.mono _ _ _ _
   | exact spec_DrawCharterOk.mono _ _
   | exact LeO.none _
   | refine LeO.ite ?_ ?_
   | refine LeO.bind ?_ (fun _ => ?_)
theorem laws_FnCharterOk.mono : ∀ a0 k, LeO (laws_FnCharterOk.f k a0) (laws_FnCharterOk.f (k + 1) a0) := by
 intro a0 k
 obtain ⟨ih0, ih1⟩ := laws_FnCharterOk.mono_l k
 unfold laws_FnCharterOk.f
 repeat' first
   | (with_reducible exact ih0 _ _ _ _ _ _ _)
   | (with_reducible exact ih1 _ _ _ _ _ _ _ _ _)
   | (with_reducible exact impl_CharterOk.mono _ _ _ _)
   | (with_reducible exact spec_CharterOk.mono _ _ _ _)
   | (with_reducible exact spec_DrawCharterOk.mono _ _)
   | (with_reducible exact LeO.refl _)
   | (with_reducible exact LeO.none _)
   | (with_reducible refine LeO.ite ?_ ?_)
   | (with_reducible refine LeO.bind ?_ (fun _ => ?_))
   | exact ih0 _ _ _ _ _ _ _
   | exact ih1 _ _ _ _ _ _ _ _ _
   | exact impl_CharterOk.mono _ _ _ _
   | exact spec_CharterOk.mono _ _ _ _
   | exact spec_DrawCharterOk.mono _ _
   | exact LeO.none _
   | refine LeO.ite ?_ ?_
   | refine LeO.bind ?_ (fun _ => ?_)
def laws_FnCharterOk.T19 : Bool × List (List Nat × List Nat) := (true, [([], []), ([0], [0]), ([1, 1], [1]), ([2], [2]), ([3, 2], [2, 3]), ([2], [2]), ([5, 2], [2, 5]), ([6, 2], [2, 6]), ([4, 7, 2], [2, 4, 7]), ([8, 2, 2], [2, 8]), ([2, 9], [2, 9]), ([10, 9, 0, 1, 2, 3, 4, 5, 6, 7, 8, 9, 10], [10])])
def laws_FnCharterOk.B19 : List Nat := [0, 1, 3, 7, 15, 7, 39, 103, 255, 511, 1023, 2047]
theorem laws_FnCharterOk.tab19 : rtab .any (opsOf Try.f3 19) = laws_FnCharterOk.T19 := by kernel_rfl
theorem laws_FnCharterOk.bits19 : waitsOk laws_FnCharterOk.T19.2 laws_FnCharterOk.B19 = true := by kernel_rfl
set_option maxHeartbeats 8000000 in
set_option maxRecDepth 100000 in
theorem laws_FnCharterOk.calls (k : Nat) (A0 : Option Addr) (c0 : Nat) (l0 : List Int) (r : Bool) (w : World) (hr0 : Kd.C (Kd.int .u8) w A0 l0.length l0) (hc0 : l0.length ≤ c0) (h : laws_FnCharterOk.f k l0 = some r) :
  Calls Try.prog 3 #[.slice A0 l0.length c0] w fun e w' => e = .returned (.bool r) ∧ Below w.heap.size w w' := by
 have hu28 := Try.underlying28
 have hu25 := Try.underlying25
 have hu35 := Try.underlying35
 have HR0 := Aside0.mk hr0
 have HC0 := Aside0.mk hc0
 clear hr0 hc0
 have HB := Aside0.mk (Below.refl w.heap.size w)
 have H : (if (l0.length : Int) > 1048576 then (some true) else ((spec_DrawCharterOk.f k l0).bind fun bt293 => ((impl_CharterOk.f k bt293.1 bt293.2.1 bt293.2.2).bind fun t301 => ((spec_CharterOk.f k bt293.1 bt293.2.1 bt293.2.2).bind fun t302 => (if (t301 != t302) = true then (none) else (if t301 = true then (laws_FnCharterOk.l0 k 0 bt293.1 bt293.2.1 bt293.2.2 bt293.1 bt293.2.1 ([] : List (List (S35)))) else ((impl_CharterOk.f k 0 ([] : List Int) ([] : List (List (S35)))).bind fun t303 => (if t303 = true then (none) else ((laws_alive.f).bind fun t304 => (some t304)))))))))) = some r := h
 clear h
 by_cases c2 : (l0.length : Int) > 1048576
 ·rw [if_pos c2] at H
  have c2b0 : decide (1048576 < (l0.length : Int)) = true := decide_eq_true c2
  have c2b1 : decide (1048576 < l0.length) = true := decide_eq_true (by omega)
  clear c2
  obtain rfl := Option.some.inj H
  go_enter Try.func3, Try.ntmps3
  go_wp2
  go_ret
  exact ⟨by first | rfl | (simp [errW_none, errW_some] <;> rfl) | (simp [*, errW_none, errW_some] <;> rfl), by exact bh⟩
 ·rw [if_neg c2] at H
  have c2b0 : decide (1048576 < (l0.length : Int)) = false := decide_eq_false c2
  have c2b1 : decide (1048576 < l0.length) = false := decide_eq_false (by omega)
  clear c2
  replace H := Option.bind_eq_some_iff.mp H
  obtain ⟨⟨t293, t294, t297⟩, A30, H⟩ := H
  replace H : ((impl_CharterOk.f k t293 t294 t297).bind fun t301 => ((spec_CharterOk.f k t293 t294 t297).bind fun t302 => (if (t301 != t302) = true then (none) else (if t301 = true then (laws_FnCharterOk.l0 k 0 t293 t294 t297 t293 t294 ([] : List (List (S35)))) else ((impl_CharterOk.f k 0 ([] : List Int) ([] : List (List (S35)))).bind fun t303 => (if t303 = true then (none) else ((laws_alive.f).bind fun t304 => (some t304)))))))) = some r := H
  have A3 := Aside0.mk A30
  clear A30
  replace H := Option.bind_eq_some_iff.mp H
  obtain ⟨t301, A40, H⟩ := H
  replace H : ((spec_CharterOk.f k t293 t294 t297).bind fun t302 => (if (t301 != t302) = true then (none) else (if t301 = true then (laws_FnCharterOk.l0 k 0 t293 t294 t297 t293 t294 ([] : List (List (S35)))) else ((impl_CharterOk.f k 0 ([] : List Int) ([] : List (List (S35)))).bind fun t303 => (if t303 = true then (none) else ((laws_alive.f).bind fun t304 => (some t304))))))) = some r := H
  have A4 := Aside0.mk A40
  clear A40
  replace H := Option.bind_eq_some_iff.mp H
  obtain ⟨t302, A50, H⟩ := H
  replace H : (if (t301 != t302) = true then (none) else (if t301 = true then (laws_FnCharterOk.l0 k 0 t293 t294 t297 t293 t294 ([] : List (List (S35)))) else ((impl_CharterOk.f k 0 ([] : List Int) ([] : List (List (S35)))).bind fun t303 => (if t303 = true then (none) else ((laws_alive.f).bind fun t304 => (some t304)))))) = some r := H
  have A5 := Aside0.mk A50
  clear A50
  by_cases c6 : (t301 != t302) = true
  ·rw [if_pos c6] at H
   exact absurd H (by simp)
  ·rw [if_neg c6] at H
   have c6b0 : (t301 != t302) = false := by simpa using c6
   (try (have c6b1 : decide (t301 = t302) = true := by simpa using c6))
   (try (have c6b2 : (t301 == t302) = true := by simpa using c6))
   clear c6
   by_cases c7 : t301 = true
   ·subst c7
    have H1 : (laws_FnCharterOk.l0 k 0 t293 t294 t297 t293 t294 ([] : List (List (S35)))) = some r := by rw [if_pos rfl] at H; exact H
    clear H
    have H := H1
    clear H1
    have H' := Aside0.mk H
    clear H
    go_enter Try.func3, Try.ntmps3
    go_wp2_with (first | ((with_reducible refine gate_callee (f := 9) rfl ?_); refine goesL_ (some 13) rfl rfl Try.func9 kr rfl #[.slice A0 l0.length c0] rfl lm ?_; (with_reducible refine (spec_DrawCharterOk.calls k _ _ l0 t293 t294 t297 _ ?side1 ?side2 A3.out).mono ?_); (case side1 => repeat (first | exact HR0.out | (with_reducible refine Kd.C_alloc ?_ _) | (with_reducible refine Kd.C_drewN ?_ _) | (with_reducible refine Kd.C_drew ?_))); (case side2 => exact HC0.out); rintro e w8 ⟨v295, v298, rfl, ho0, ho1, hb⟩; refine ⟨_, rfl, ?_⟩; have n0_ := Aside0.mk (Kd.R_lower ho0 (below_size bh)); have n1_ := Aside0.mk (Kd.N_lower (Kd.N_mono (ok' := fun k_ => some k_ ≠ (v295 : Value).ownBlock) (Kd.S_N (Kd.S_bound (Kd.S_apart' ho1 (Kd.R_typed ho0) (by decide)))) (fun k_ hk_ => hk_.1.2)) (below_size bh)); have n2_ := Aside0.mk (below_step bh hb); clear HB; have HO296 := n0_; have HO299 := n1_; have HB := n2_; clear n0_ n1_ n2_; (try clear hb); (try clear hb2); (try clear hk); (try clear hi); (try clear ho0); (try clear ho1)) | ((with_reducible refine gate_dst (N := 3) rfl ?_); refine box_event ?hg (N := 3) ?hd (cs := #[.int .i64 0, .slice none 0 0, .slice none 0 0]) (t := 28) ?hr ?_; (case hd => rfl); (case hg => rfl); (case hr => first | (go_simp; done) | (go_simp; rfl)); intro gb300 hg w9 hbox hb; have n0_ := Aside0.mk (Kd.R_below (rz HO296) hb); have n1_ := Aside0.mk (Kd.N_below (Kd.N_elderB (nz HO299) gb300 (Nat.le_of_eq hg.symm)) hb); have n2_ := Aside0.mk (below_step bh hb); have n3_ := Aside0.mk (hbox); have n4_ := Aside0.mk ((gs (W0 := w) hg bh)); have n5_ := Aside0.mk ((gs (W0 := w) hg bh)); clear HO296 HO299 HB; have HO296 := n0_; have HO299 := n1_; have HB := n2_; have BK300 := n3_; have GW300 := n4_; have GE300 := n5_; clear n0_ n1_ n2_ n3_ n4_ n5_ hb hbox hg; have hcz10_0 := cz0 BK300; have hcz10_1 := cz1 BK300; have hcz10_2 := cz2 BK300; have hfz10_0 := blk_frozen BK300.out 0; have hfz10_1 := blk_frozen BK300.out 1; have hfz10_2 := blk_frozen BK300.out 2; obtain ⟨Ao11, co11, eo11⟩ := Kd.R_slice HO296.out; subst eo11; obtain ⟨Ao12, co12, eo12⟩ := Kd.N_slice HO299.out; subst eo12) | ((with_reducible refine gate_callee (f := 10) rfl ?_); refine goesL_ (some 15) rfl rfl Try.func10 kr rfl #[.agg #[.int .i64 t293, .slice Ao11 t294.length co11, .slice Ao12 t297.length co12]] rfl lm ?_; (with_reducible refine (impl_CharterOk.calls k t293 _ _ t294 _ _ t297 true _ ?side1 ?side2 ?side3 ?side4 A4.out).mono ?_); (case side1 => refine (Kd.R_reads' (e := 3) (base := w.heap.size) (ok := fun k_ => True) (n := t294.length) (c := co11) ?_).2.2; exact (fR HO296 BK300)); (case side2 => exact (Kd.R_reads' HO296.out).2.1); (case side3 => refine (Kd.N_reads' (e := 32) (base := w.heap.size) (ok := fun k_ => (some k_ ≠ (.slice Ao11 t294.length co11 : Value).ownBlock ∧ k_ ≠ gb300)) (n := t297.length) (c := co12) ?_).2.2; exact (uN HO299 (fun _ hk => hk.2))); (case side4 => exact (Kd.N_reads' HO299.out).2.1); rintro e w13 ⟨rfl, hb⟩; refine ⟨_, rfl, ?_⟩; have n0_ := Aside0.mk (Kd.R_below (fR HO296 BK300) hb); have n1_ := Aside0.mk (Kd.N_below (uN HO299 (fun _ hk => hk.2)) hb); have n2_ := Aside0.mk (blk_below (g := gb300) (o := .cells #[.int .i64 t293, .slice Ao11 t294.length co11, .slice Ao12 t297.length co12] 28 (0, 0)) (bp BK300) hb); have n3_ := Aside0.mk (below_step bh hb); clear HO296 HO299 BK300 HB; have HO296 := n0_; have HO299 := n1_; have BK300 := n2_; have HB := n3_; clear n0_ n1_ n2_ n3_; (try clear hb); (try clear hb2); (try clear hk); (try clear hi); have hcz14_0 := cz0 BK300; have hcz14_1 := cz1 BK300; have hcz14_2 := cz2 BK300; have hfz14_0 := blk_frozen BK300.out 0; have hfz14_1 := blk_frozen BK300.out 1; have hfz14_2 := blk_frozen BK300.out 2) | ((with_reducible refine gate_callee (f := 11) rfl ?_); refine goesL_ (some 18) rfl rfl Try.func11 kr rfl #[.agg #[.int .i64 t293, .slice Ao11 t294.length co11, .slice Ao12 t297.length co12]] rfl lm ?_; (with_reducible refine (spec_CharterOk.calls k t293 _ _ t294 _ _ t297 t302 _ ?side1 ?side2 ?side3 ?side4 A5.out).mono ?_); (case side1 => repeat (first | exact (Kd.R_reads' HO296.out).2.2 | (with_reducible refine Kd.C_alloc ?_ _) | (with_reducible refine Kd.C_drewN ?_ _) | (with_reducible refine Kd.C_drew ?_))); (case side2 => exact (Kd.R_reads' HO296.out).2.1); (case side3 => repeat (first | exact (Kd.N_reads' HO299.out).2.2 | (with_reducible refine Kd.C_alloc ?_ _) | (with_reducible refine Kd.C_drewN ?_ _) | (with_reducible refine Kd.C_drew ?_))); (case side4 => exact (Kd.N_reads' HO299.out).2.1); rintro e w15 ⟨rfl, hb⟩; refine ⟨_, rfl, ?_⟩; have n0_ := Aside0.mk (Kd.R_below (rz HO296) hb); have n1_ := Aside0.mk (Kd.N_below (nz HO299) hb); have n2_ := Aside0.mk (blk_below (bz BK300) hb); have n3_ := Aside0.mk (below_step bh hb); clear HO296 HO299 BK300 HB; have HO296 := n0_; have HO299 := n1_; have BK300 := n2_; have HB := n3_; clear n0_ n1_ n2_ n3_; (try clear hb); (try clear hb2); (try clear hk); (try clear hi); have hcz16_0 := cz0 BK300; have hcz16_1 := cz1 BK300; have hcz16_2 := cz2 BK300; have hfz16_0 := blk_frozen BK300.out 0; have hfz16_1 := blk_frozen BK300.out 1; have hfz16_2 := blk_frozen BK300.out 2) | ((with_reducible refine gate_dst (N := 5) rfl ?_); refine box_event ?hg (N := 5) ?hd (cs := #[.int .i64 0, .slice none 0 0, .slice none 0 0]) (t := 28) ?hr ?_; (case hd => rfl); (case hg => rfl); (case hr => first | (go_simp; done) | (go_simp; rfl)); intro gb305 hg w17 hbox hb; have n0_ := Aside0.mk (Kd.R_below (rz HO296) hb); have n1_ := Aside0.mk (Kd.N_below (Kd.N_elderB (nz HO299) gb305 (Nat.le_of_eq hg.symm)) hb); have n2_ := Aside0.mk (blk_below (bz BK300) hb); have n3_ := Aside0.mk (below_step bh hb); have n4_ := Aside0.mk (hbox); have n5_ := Aside0.mk ((gs (W0 := w) hg bh)); have n6_ := Aside0.mk ((gs (W0 := w) hg bh)); have n7_ := Aside0.mk ((gn hg (bz BK300))); have n8_ := Aside0.mk ((gm hg (bz BK300))); clear HO296 HO299 BK300 HB; have HO296 := n0_; have HO299 := n1_; have BK300 := n2_; have HB := n3_; have BK305 := n4_; have GW305 := n5_; have GE305 := n6_; have NB300_305 := n7_; have NB305_300 := n8_; clear n0_ n1_ n2_ n3_ n4_ n5_ n6_ n7_ n8_ hb hbox hg; have hnb18 := NB305_300.out; have hnc18 := NB300_305.out; have hcz19_0 := cz0 BK305; have hcz19_1 := cz1 BK305; have hcz19_2 := cz2 BK305; have hfz19_0 := blk_frozen BK305.out 0; have hfz19_1 := blk_frozen BK305.out 1; have hfz19_2 := blk_frozen BK305.out 2))
    go_loopg [6] k (fun kq v6 w' => ∃ (x6_1 : Int) (x306002_1 : List (List (S35))) (u306002 : Value), v6 = .int .i64 x6_1 ∧ Aside0 (laws_FnCharterOk.l0 kq x6_1 t293 t294 t297 t293 t294 x306002_1 = some r) ∧ Aside0 (kq ≤ k) ∧ Aside0 (Kd.R (Kd.int .i64) 3 w' w.heap.size (fun _ => True) (.slice Ao11 t294.length co11) t294) ∧ Aside0 (Kd.N (Kd.slice 35 k35) 32 w' w.heap.size (fun k_ => some k_ ≠ ((.slice Ao11 t294.length co11) : Value).ownBlock ∧ some k_ ≠ ((.slice Ao11 t294.length co11) : Value).ownBlock ∧ some k_ ≠ (u306002 : Value).ownBlock ∧ k_ ≠ gb300 ∧ k_ ≠ gb305) (.slice Ao12 t297.length co12) t297) ∧ Aside0 (Kd.R (Kd.int .i64) 3 w' w.heap.size (fun _ => True) (.slice Ao11 t294.length co11) t294) ∧ Aside0 (Kd.N (Kd.slice 35 k35) 32 w' w.heap.size (fun k_ => some k_ ≠ ((.slice Ao11 t294.length co11) : Value).ownBlock ∧ some k_ ≠ ((.slice Ao12 t297.length co12) : Value).ownBlock ∧ some k_ ≠ ((.slice Ao11 t294.length co11) : Value).ownBlock ∧ k_ ≠ gb300 ∧ k_ ≠ gb305) u306002 x306002_1) ∧ Aside0 (w'.heap[gb300]? = some (.cells #[.int .i64 t293, (.slice Ao11 t294.length co11), (.slice Ao12 t297.length co12)] 28 (0, 0))) ∧ Aside0 (w'.heap[gb305]? = some (.cells #[.int .i64 t293, (.slice Ao11 t294.length co11), u306002] 28 (0, 0))) ∧ Aside0 (Below w.heap.size w w'))
    case atStart => exact ⟨(0), (([] : List (List (S35)))), (.slice none 0 0), (by first | rfl | (simp; done) | (simp [*]; done)), H', ⟨Nat.le_refl _⟩, ⟨gR HO296 BK305 (m := by (intro k; (try simp only [and_imp, and_assoc]); intros; repeat' (first | assumption | exact trivial | apply And.intro | (simp [Value.ownBlock]; done))))⟩, ⟨vN HO299 (fun _ hk => hk.2) (m := by (intro k; (try simp only [and_imp, and_assoc]); intros; repeat' (first | assumption | exact trivial | apply And.intro | (simp [Value.ownBlock]; done))))⟩, ⟨gR HO296 BK305 (m := by (intro k; (try simp only [and_imp, and_assoc]); intros; repeat' (first | assumption | exact trivial | apply And.intro | (simp [Value.ownBlock]; done))))⟩, ⟨by first | exact Kd.S_nil _ _ _ _ _ | exact Kd.N_nil _ _ _ _ _ | exact Kd.V_nil _ _ _ _ _ | exact Kd.Q_nil _ _ _ _ _ | exact Kd.R_nil _ _ _ _ _⟩, ⟨bf NB300_305 BK300⟩, ⟨bp BK305⟩, ⟨by exact bh⟩⟩
    case round =>
     clear H'
     try clear c1
     try clear c2
     try clear c2b0
     try clear c2b1
     try clear p2
     try clear c3
     try clear c6
     try clear c6b0
     try clear c6b1
     try clear c6b2
     try clear c7
     try clear c9
     try clear c10
     try clear c11
     try clear c18
     try clear hcz10_0
     try clear hcz10_1
     try clear hcz10_2
     try clear hcz14_0
     try clear hcz14_1
     try clear hcz14_2
     try clear hcz16_0
     try clear hcz16_1
     try clear hcz16_2
     try clear hcz19_0
     try clear hcz19_1
     try clear hcz19_2
     try clear hfz10_0
     try clear hfz10_1
     try clear hfz10_2
     try clear hfz14_0
     try clear hfz14_1
     try clear hfz14_2
     try clear hfz16_0
     try clear hfz16_1
     try clear hfz16_2
     try clear hfz19_0
     try clear hfz19_1
     try clear hfz19_2
     obtain ⟨x6_1, x306002_1, u306002, rfl, HA, HK1, HO_301001, HO_301002, HO_306001, HO_306002, BK300, BK305, HB⟩ := hrel
     cases gk with
     | zero => exact absurd HA.out (by simp [laws_FnCharterOk.l0])
     | succ k1 =>
      have H := HA.out
      clear HA
      simp only [laws_FnCharterOk.l0] at H
      by_cases c20 : x6_1 < (t297.length : Int)
      ·rw [if_pos c20] at H
       have c20b0 : decide (x6_1 < (t297.length : Int)) = true := decide_eq_true c20
       clear c20
       obtain ⟨y313, hy313⟩ : ∃ y_ : List (S35), y_ = (([] : List (S35))) := ⟨_, rfl⟩
       replace H : (laws_FnCharterOk.l1 k1 x6_1 y313 0 t293 t294 t297 t293 t294 x306002_1) = some r := by first | (rw [hy313]; with_reducible exact H) | (have H2_ := (Option.bind_some _ _).symm.trans H; rw [hy313]; with_reducible exact H2_) | (have H2_ := (Option.bind_some _ _).symm.trans H; with_reducible exact H2_) | with_reducible exact H | (rw [hy313]; exact H) | exact H
       have Ny313 := Aside0.mk hy313
       clear hy313
       have H' := Aside0.mk H
       clear H
       have hnb21 := NB300_305.out
       have hnc21 := NB305_300.out
       have hcz22_0 := cz0 BK300
       have hcz22_1 := cz1 BK300
       have hcz22_2 := cz2 BK300
       have hfz22_0 := blk_frozen BK300.out 0
       have hfz22_1 := blk_frozen BK300.out 1
       have hfz22_2 := blk_frozen BK300.out 2
       go_wp2_with (first | ((with_reducible refine gate_dst (N := 38) rfl ?_); refine Kd.N_lit k35 _ 35 ?hg (N' := 38) ?hd (xs := ([] : List (S35))) (inner := []) (ok := (fun k_ => some k_ ≠ (.slice Ao11 t294.length co11 : Value).ownBlock ∧ some k_ ≠ (.slice Ao12 t297.length co12 : Value).ownBlock ∧ some k_ ≠ (.slice Ao11 t294.length co11 : Value).ownBlock ∧ some k_ ≠ (u306002 : Value).ownBlock ∧ k_ ≠ gb300 ∧ k_ ≠ gb305)) (okp := (fun k_ => some k_ ≠ (.slice Ao11 t294.length co11 : Value).ownBlock ∧ some k_ ≠ (.slice Ao12 t297.length co12 : Value).ownBlock ∧ some k_ ≠ (.slice Ao11 t294.length co11 : Value).ownBlock ∧ some k_ ≠ (u306002 : Value).ownBlock ∧ k_ ≠ gb300 ∧ k_ ≠ gb305)) ?hr ?hp (fun _ hk => hk) ((show ∀ k_, wr.heap.size ≤ k_ → (fun k_ => some k_ ≠ (.slice Ao11 t294.length co11 : Value).ownBlock ∧ some k_ ≠ (.slice Ao12 t297.length co12 : Value).ownBlock ∧ some k_ ≠ (.slice Ao11 t294.length co11 : Value).ownBlock ∧ some k_ ≠ (u306002 : Value).ownBlock ∧ k_ ≠ gb300 ∧ k_ ≠ gb305) k_ from fun k_ hk => ⟨Kd.fresh' (Kd.R_lt (rz HO_301001)) k_ hk, Kd.fresh' (Kd.N_lt (nz HO_301002)) k_ hk, Kd.fresh' (Kd.R_lt (rz HO_306001)) k_ hk, Kd.fresh' (Kd.N_lt (nz HO_306002)) k_ hk, Kd.freshB (bz BK300) k_ hk, Kd.freshB (bz BK305) k_ hk⟩) _ (Nat.le_refl _)) (Below.refl _ _) (Nat.le_refl _) (by simp) ?_; (case hd => rfl); (case hg => rfl); (case hr => first | (go_simp; done) | (go_simp; rfl)); (case hp => exact (Reps.none _ _)); intro v314 w23 ho24 hb hg_ hnew_; clear hg_ hnew_; (first | rw [← Ny313.out] at ho24 | (simp only [Int.reduceToNat] at ho24; rw [← Ny313.out] at ho24)); have n0_ := Aside0.mk (Kd.R_below (rz HO_301001) hb); have n1_ := Aside0.mk (Kd.N_elder' (nz HO_301002) (Kd.N_base ho24) hb); have n2_ := Aside0.mk (Kd.R_below (rz HO_306001) hb); have n3_ := Aside0.mk (Kd.N_elder' (nz HO_306002) (Kd.N_base ho24) hb); have n4_ := Aside0.mk (Kd.N_lower ho24 (below_size bh)); have n5_ := Aside0.mk (blk_below (bz BK300) hb); have n6_ := Aside0.mk (blk_below (bz BK305) hb); have n7_ := Aside0.mk (below_step bh hb); clear HO_301001 HO_301002 HO_306001 HO_306002 BK300 BK305 HB; have HO_301001 := n0_; have HO_301002 := n1_; have HO_306001 := n2_; have HO_306002 := n3_; have HO315 := n4_; have BK300 := n5_; have BK305 := n6_; have HB := n7_; clear n0_ n1_ n2_ n3_ n4_ n5_ n6_ n7_ hb ho24))
       go_loopg [7, 8] k1 (fun kq v7 v8 w' => ∃ (x7_2 : List (S35)) (x8_2 : Int), v8 = .int .i64 x8_2 ∧ Aside0 (laws_FnCharterOk.l1 kq x6_1 x7_2 x8_2 t293 t294 t297 t293 t294 x306002_1 = some r) ∧ Aside0 (kq ≤ k1) ∧ Aside0 (Kd.N k35 35 w' w.heap.size (fun k_ => some k_ ≠ ((.slice Ao11 t294.length co11) : Value).ownBlock ∧ some k_ ≠ ((.slice Ao12 t297.length co12) : Value).ownBlock ∧ some k_ ≠ ((.slice Ao11 t294.length co11) : Value).ownBlock ∧ some k_ ≠ (u306002 : Value).ownBlock ∧ k_ ≠ gb300 ∧ k_ ≠ gb305) v7 x7_2) ∧ Aside0 (Kd.R (Kd.int .i64) 3 w' w.heap.size (fun _ => True) (.slice Ao11 t294.length co11) t294) ∧ Aside0 (Kd.N (Kd.slice 35 k35) 32 w' w.heap.size (fun k_ => some k_ ≠ (v7 : Value).ownBlock ∧ some k_ ≠ ((.slice Ao11 t294.length co11) : Value).ownBlock ∧ some k_ ≠ ((.slice Ao11 t294.length co11) : Value).ownBlock ∧ some k_ ≠ (u306002 : Value).ownBlock ∧ k_ ≠ gb300 ∧ k_ ≠ gb305) (.slice Ao12 t297.length co12) t297) ∧ Aside0 (Kd.R (Kd.int .i64) 3 w' w.heap.size (fun _ => True) (.slice Ao11 t294.length co11) t294) ∧ Aside0 (Kd.N (Kd.slice 35 k35) 32 w' w.heap.size (fun k_ => some k_ ≠ (v7 : Value).ownBlock ∧ some k_ ≠ ((.slice Ao11 t294.length co11) : Value).ownBlock ∧ some k_ ≠ ((.slice Ao12 t297.length co12) : Value).ownBlock ∧ some k_ ≠ ((.slice Ao11 t294.length co11) : Value).ownBlock ∧ k_ ≠ gb300 ∧ k_ ≠ gb305) u306002 x306002_1) ∧ Aside0 (w'.heap[gb300]? = some (.cells #[.int .i64 t293, (.slice Ao11 t294.length co11), (.slice Ao12 t297.length co12)] 28 (0, 0))) ∧ Aside0 (w'.heap[gb305]? = some (.cells #[.int .i64 t293, (.slice Ao11 t294.length co11), u306002] 28 (0, 0))) ∧ Aside0 (Below w.heap.size w w'))
       case atStart => exact ⟨(y313), (0), (by first | rfl | (simp; done) | (simp [*]; done)), H', ⟨Nat.le_refl _⟩, ⟨nz HO315⟩, ⟨rz HO_301001⟩, ⟨mN HO_301002⟩, ⟨rz HO_306001⟩, ⟨mN HO_306002⟩, ⟨bz BK300⟩, ⟨bz BK305⟩, ⟨by exact bh⟩⟩
       case round =>
        clear H'
        try clear c1
        try clear c2
        try clear c2b0
        try clear c2b1
        try clear p2
        try clear c3
        try clear c6
        try clear c6b0
        try clear c6b1
        try clear c6b2
        try clear c7
        try clear c9
        try clear c10
        try clear c11
        try clear c18
        try clear c20
        try clear c20b0
        try clear c21
        try clear hcz10_0
        try clear hcz10_1
        try clear hcz10_2
        try clear hcz14_0
        try clear hcz14_1
        try clear hcz14_2
        try clear hcz16_0
        try clear hcz16_1
        try clear hcz16_2
        try clear hcz19_0
        try clear hcz19_1
        try clear hcz19_2
        try clear hcz22_0
        try clear hcz22_1
        try clear hcz22_2
        try clear hfz10_0
        try clear hfz10_1
        try clear hfz10_2
        try clear hfz14_0
        try clear hfz14_1
        try clear hfz14_2
        try clear hfz16_0
        try clear hfz16_1
        try clear hfz16_2
        try clear hfz19_0
        try clear hfz19_1
        try clear hfz19_2
        try clear hfz22_0
        try clear hfz22_1
        try clear hfz22_2
        try clear p2
        obtain ⟨x7_2, x8_2, rfl, HA, HK2, HO_7, HO_301001, HO_301002, HO_306001, HO_306002, BK300, BK305, HB⟩ := hrel
        cases gk with
        | zero => exact absurd HA.out (by simp [laws_FnCharterOk.l1])
        | succ k2 =>
         have H := HA.out
         clear HA
         simp only [laws_FnCharterOk.l1] at H
         by_cases c25 : 0 ≤ x6_1
         ·rw [if_pos c25] at H
          have c25b0 : decide (0 ≤ x6_1) = true := decide_eq_true c25
          clear c25
          by_cases c26 : x6_1 < (t297.length : Int)
          ·rw [if_pos c26] at H
           have c26b0 : decide (x6_1 < (t297.length : Int)) = true := decide_eq_true c26
           clear c26
           by_cases c27 : x8_2 < ((rd_L5 t297 x6_1).length : Int)
           ·rw [if_pos c27] at H
            have c27b0 : decide (x8_2 < ((rd_L5 t297 x6_1).length : Int)) = true := decide_eq_true c27
            clear c27
            by_cases c28 : 0 ≤ x8_2
            ·rw [if_pos c28] at H
             have c28b0 : decide (0 ≤ x8_2) = true := decide_eq_true c28
             clear c28
             by_cases c29 : x7_2.length < 3518437208883
             ·rw [if_pos c29] at H
              have LMc29 := Aside0.mk c29
              clear c29
              obtain ⟨y319, hy319⟩ : ∃ y_ : List (S35), y_ = (x7_2 ++ [(⟨(rd_T35 (rd_L5 t297 x6_1) x8_2).f0, (-1), 0⟩ : S35)]) := ⟨_, rfl⟩
              replace H : (laws_FnCharterOk.l1 k2 x6_1 y319 (wrap64 (x8_2 + 1)) t293 t294 t297 t293 t294 x306002_1) = some r := by first | (rw [hy319]; with_reducible exact H) | (have H2_ := (Option.bind_some _ _).symm.trans H; rw [hy319]; with_reducible exact H2_) | (have H2_ := (Option.bind_some _ _).symm.trans H; with_reducible exact H2_) | with_reducible exact H | (rw [hy319]; exact H) | exact H
              have Ny319 := Aside0.mk hy319
              clear hy319
              have H' := Aside0.mk H
              clear H
              have hnb30 := NB300_305.out
              have hnc30 := NB305_300.out
              have hcz31_0 := cz0 BK300
              have hcz31_1 := cz1 BK300
              have hcz31_2 := cz2 BK300
              have hfz31_0 := blk_frozen BK300.out 0
              have hfz31_1 := blk_frozen BK300.out 1
              have hfz31_2 := blk_frozen BK300.out 2
              have p316 : 0 ≤ (x6_1 : Int) := oda
              have q316 : x6_1 < (t297.length : Int) := oda
              obtain ⟨ad316, A316_0, c316_0, e316, hx316_0, hl316_0, hi316_0⟩ := at_L5 (Kd.N_reads' HO_301002.out).2.2 x6_1 p316 q316
              cases e316
              obtain ⟨ce316, hce316, hMe316, hcc316⟩ := Kd.N_get HO_301002.out [] x6_1 p316 (by first | exact q316 | exact oda | (have e_ := (Kd.N_reads' HO_301002.out).1; omega))
              obtain ⟨ua316_0, uc316_0, rfl, ul316_0, ge316_0⟩ := Kd.FK_slice_open hMe316
              have hv316_0 := hcc316 0 _ rfl
              rw [Nat.add_zero, show ((Kd.slice 35 k35)).sz = 1 from rfl, Nat.mul_one] at hv316_0
              replace hv316_0 := Option.some.inj (hv316_0.symm.trans hx316_0)
              injection hv316_0 with hva_ hvn_ hvc_
              rw [hva_] at ge316_0
              rw [hvc_] at ul316_0
              have HL316_0 := Aside0.mk (show Kd.V k35 35 _ w.heap.size _ _ (rd_L5 t297 x6_1) from Kd.V_mk ul316_0 ge316_0)
              clear hva_ hvn_ hvc_ ge316_0 ul316_0 hcc316 hce316
              have HR316_0 := Aside0.mk hi316_0
              have HC316_0 := Aside0.mk hl316_0
              clear hi316_0 hl316_0
              replace p316 := eq_true p316
              replace q316 := eq_true q316
              have p317 : 0 ≤ (x6_1 : Int) := oda
              have q317 : x6_1 < (t297.length : Int) := oda
              obtain ⟨ad317, A317_0, c317_0, e317, hx317_0, hl317_0, hi317_0⟩ := at_L5 (Kd.N_reads' HO_301002.out).2.2 x6_1 p317 q317
              obtain rfl : ad316 = ad317 := (by injection e317)
              obtain ⟨ce317, hce317, hMe317, hcc317⟩ := Kd.N_get HO_301002.out [] x6_1 p317 (by first | exact q317 | exact oda | (have e_ := (Kd.N_reads' HO_301002.out).1; omega))
              obtain ⟨ua317_0, uc317_0, rfl, ul317_0, ge317_0⟩ := Kd.FK_slice_open hMe317
              have hv317_0 := hcc317 0 _ rfl
              rw [Nat.add_zero, show ((Kd.slice 35 k35)).sz = 1 from rfl, Nat.mul_one] at hv317_0
              replace hv317_0 := Option.some.inj (hv317_0.symm.trans hx317_0)
              injection hv317_0 with hva_ hvn_ hvc_
              rw [hva_] at ge317_0
              rw [hvc_] at ul317_0
              have HL317_0 := Aside0.mk (show Kd.V k35 35 _ w.heap.size _ _ (rd_L5 t297 x6_1) from Kd.V_mk ul317_0 ge317_0)
              clear hva_ hvn_ hvc_ ge317_0 ul317_0 hcc317 hce317
              have HR317_0 := Aside0.mk hi317_0
              have HC317_0 := Aside0.mk hl317_0
              clear hi317_0 hl317_0
              replace p317 := eq_true p317
              replace q317 := eq_true q317
              have ea_ := Option.some.inj (hx316_0.symm.trans hx317_0)
              injection ea_ with ea_ en_ ec_
              subst ea_
              subst ec_
              clear en_
              have p318 : 0 ≤ (x8_2 : Int) := oda
              have q318 : x8_2 < ((rd_L5 t297 x6_1).length : Int) := oda
              obtain ⟨ad318, A318_0, c318_0, e318, hx318_0, hx318_1, hx318_2, hl318_0, hi318_0⟩ := at_T35 (by repeat (first | (with_reducible exact HR317_0.out) | (with_reducible refine Kd.C_alloc ?_ _) | (with_reducible refine Kd.C_drewN ?_ _) | (with_reducible refine Kd.C_drew ?_) | exact HR317_0.out)) x8_2 p318 q318
              cases e318
              obtain ⟨ce318, hce318, hMe318, hcc318⟩ := Kd.V_get HL317_0.out z35 x8_2 p318 (by first | exact q318 | exact oda | (have e_ := (Kd.V_reads' HL317_0.out).1; omega))
              obtain ⟨ua318_0, uc318_0, rfl, ul318_0, ge318_0⟩ := k35_openF hMe318
              have hv318_0 := hcc318 0 _ rfl
              rw [Nat.add_zero] at hv318_0
              replace hv318_0 := Option.some.inj (hv318_0.symm.trans hx318_0)
              injection hv318_0 with hva_ hvn_ hvc_
              rw [hva_] at ge318_0
              rw [hvc_] at ul318_0
              have HL318_0 := Aside0.mk (show Kd.V k75 75 _ w.heap.size _ _ ((rd_T35 (rd_L5 t297 x6_1) x8_2).f0) from Kd.V_mk ul318_0 ge318_0)
              clear hva_ hvn_ hvc_ ge318_0 ul318_0 hcc318 hce318
              have HR318_0 := Aside0.mk hi318_0
              have HC318_0 := Aside0.mk hl318_0
              clear hi318_0 hl318_0
              replace p318 := eq_true p318
              replace q318 := eq_true q318
              go_wp2_with (first | ((with_reducible refine gate_builtin (b := .append) (xs := #[.tmp 49, .tmp 60]) rfl ?_); at_builtin; refine Kd.N_append k35 (w0 := w) w.heap.size rfl (.tmp 49) (.tmp 60) 32 35 (.agg #[(.slice none 0 0), (.int .i64 0), (.int .i64 0)]) 40 rfl Try.underlying32 info35 rfl (by decide) (by omega) u7 x7_2 (⟨(rd_T35 (rd_L5 t297 x6_1) x8_2).f0, (-1), 0⟩ : S35) [.slice A318_0 ((rd_T35 (rd_L5 t297 x6_1) x8_2).f0).length c318_0, .int .i64 (-1), .int .i64 0] (fun k_ => some k_ ≠ (.slice Ao11 t294.length co11 : Value).ownBlock ∧ some k_ ≠ (.slice (some ad316) t297.length co12 : Value).ownBlock ∧ some k_ ≠ (.slice Ao11 t294.length co11 : Value).ownBlock ∧ some k_ ≠ (u306002 : Value).ownBlock ∧ k_ ≠ gb300 ∧ k_ ≠ gb305) (fun k_ => ((fun k_ => some k_ ≠ (.slice Ao11 t294.length co11 : Value).ownBlock ∧ some k_ ≠ (.slice (some ad316) t297.length co12 : Value).ownBlock ∧ some k_ ≠ (.slice Ao11 t294.length co11 : Value).ownBlock ∧ some k_ ≠ (u306002 : Value).ownBlock ∧ k_ ≠ gb300 ∧ k_ ≠ gb305)) k_ ∧ some k_ ≠ (u7 : Value).ownBlock) rfl rfl ?aP (fun _ hk => hk) ?aF ?aO ?aB ?aS ?aL ?_; (case aP => exact (k35_mkF _ _ (⟨(rd_T35 (rd_L5 t297 x6_1) x8_2).f0, (-1), 0⟩ : S35) (Kd.V_reads' (Kd.V_mono (ok' := (fun k_ => ((fun k_ => some k_ ≠ (.slice Ao11 t294.length co11 : Value).ownBlock ∧ some k_ ≠ (.slice (some ad316) t297.length co12 : Value).ownBlock ∧ some k_ ≠ (.slice Ao11 t294.length co11 : Value).ownBlock ∧ some k_ ≠ (u306002 : Value).ownBlock ∧ k_ ≠ gb300 ∧ k_ ≠ gb305)) k_ ∧ some k_ ≠ (u7 : Value).ownBlock)) (HL318_0.out) (fun k_ hk => ⟨⟨hk.1.2.1, ⟨hk.2, ⟨hk.1.2.2.1, ⟨hk.1.2.2.2.1, ⟨hk.1.2.2.2.2.1, hk.1.2.2.2.2.2⟩⟩⟩⟩⟩, hk.1.1⟩))).2.1 (Kd.V_F (Kd.V_mono (ok' := (fun k_ => ((fun k_ => some k_ ≠ (.slice Ao11 t294.length co11 : Value).ownBlock ∧ some k_ ≠ (.slice (some ad316) t297.length co12 : Value).ownBlock ∧ some k_ ≠ (.slice Ao11 t294.length co11 : Value).ownBlock ∧ some k_ ≠ (u306002 : Value).ownBlock ∧ k_ ≠ gb300 ∧ k_ ≠ gb305)) k_ ∧ some k_ ≠ (u7 : Value).ownBlock)) (HL318_0.out) (fun k_ hk => ⟨⟨hk.1.2.1, ⟨hk.2, ⟨hk.1.2.2.1, ⟨hk.1.2.2.2.1, ⟨hk.1.2.2.2.2.1, hk.1.2.2.2.2.2⟩⟩⟩⟩⟩, hk.1.1⟩))))); (case aB => exact bh); (case aF => exact (fun k_ hk => ⟨Kd.fresh' (Kd.R_lt (rz HO_301001)) k_ hk, Kd.fresh' (Kd.N_lt (nz HO_301002)) k_ hk, Kd.fresh' (Kd.R_lt (rz HO_306001)) k_ hk, Kd.fresh' (Kd.N_lt (nz HO_306002)) k_ hk, Kd.freshB (bz BK300) k_ hk, Kd.freshB (bz BK305) k_ hk⟩)); (case aO => exact (nz HO_7)); (case aS => exact (below_size bh)); (case aL => have := LMc29.out; omega); intro v320 w32 ho hb hg hat; rw [← Ny319.out] at ho; have n0_ := Aside0.mk (Kd.R_over' (rz HO_301001) (Kd.N_typed (nz HO_7)) (by decide) hg); have n1_ := Aside0.mk (Kd.N_afterv (ok := (fun k_ => some k_ ≠ (.slice Ao11 t294.length co11 : Value).ownBlock ∧ some k_ ≠ (.slice Ao11 t294.length co11 : Value).ownBlock ∧ some k_ ≠ (u306002 : Value).ownBlock ∧ k_ ≠ gb300 ∧ k_ ≠ gb305)) (mN HO_301002) hg hat); have n2_ := Aside0.mk (Kd.R_over' (rz HO_306001) (Kd.N_typed (nz HO_7)) (by decide) hg); have n3_ := Aside0.mk (Kd.N_afterv (ok := (fun k_ => some k_ ≠ (.slice Ao11 t294.length co11 : Value).ownBlock ∧ some k_ ≠ (.slice (some ad316) t297.length co12 : Value).ownBlock ∧ some k_ ≠ (.slice Ao11 t294.length co11 : Value).ownBlock ∧ k_ ≠ gb300 ∧ k_ ≠ gb305)) (mN HO_306002) hg hat); have n4_ := Aside0.mk (blk_grown (bz BK300) hg (Kd.N_ne HO_7.out BK300.out (by decide))); have n5_ := Aside0.mk (blk_grown (bz BK305) hg (Kd.N_ne HO_7.out BK305.out (by decide))); have n6_ := Aside0.mk (Kd.V_afterv (ok := (fun k_ => some k_ ≠ (.slice Ao11 t294.length co11 : Value).ownBlock ∧ some k_ ≠ (.slice (some ad316) t297.length co12 : Value).ownBlock ∧ some k_ ≠ (.slice Ao11 t294.length co11 : Value).ownBlock ∧ some k_ ≠ (u306002 : Value).ownBlock ∧ k_ ≠ gb300 ∧ k_ ≠ gb305)) (mV HL316_0) hg hat); have n7_ := Aside0.mk (Kd.V_afterv (ok := (fun k_ => some k_ ≠ (.slice Ao11 t294.length co11 : Value).ownBlock ∧ some k_ ≠ (.slice (some ad316) t297.length co12 : Value).ownBlock ∧ some k_ ≠ (.slice Ao11 t294.length co11 : Value).ownBlock ∧ some k_ ≠ (u306002 : Value).ownBlock ∧ k_ ≠ gb300 ∧ k_ ≠ gb305)) (mV HL317_0) hg hat); have n8_ := Aside0.mk (Kd.V_afterv (ok := (fun k_ => some k_ ≠ (.slice Ao11 t294.length co11 : Value).ownBlock ∧ some k_ ≠ (.slice (some ad316) t297.length co12 : Value).ownBlock ∧ some k_ ≠ (.slice Ao11 t294.length co11 : Value).ownBlock ∧ some k_ ≠ (u306002 : Value).ownBlock ∧ k_ ≠ gb300 ∧ k_ ≠ gb305)) (mV HL318_0) hg hat); have n9_ := Aside0.mk (hb); have n10_ := Aside0.mk (ho); clear HO_301001 HO_301002 HO_306001 HO_306002 BK300 BK305 HL316_0 HL317_0 HL318_0 HB HO_7; have HO_301001 := n0_; have HO_301002 := n1_; have HO_306001 := n2_; have HO_306002 := n3_; have BK300 := n4_; have BK305 := n5_; have HL316_0 := n6_; have HL317_0 := n7_; have HL318_0 := n8_; have HB := n9_; have HO321 := n10_; clear n0_ n1_ n2_ n3_ n4_ n5_ n6_ n7_ n8_ n9_ n10_ ho hb hg hat))
              go_roundg k2
              case measure => have := HK1.out; have := HK2.out; omega
              case rel => exact ⟨(y319), (wrap64 (x8_2 + 1)), (by first | rfl | (simp; done) | (simp [*]; done)), H', ⟨by have := HK1.out; have := HK2.out; omega⟩, ⟨nz HO321⟩, ⟨rz HO_301001⟩, ⟨mN HO_301002⟩, ⟨rz HO_306001⟩, ⟨mN HO_306002⟩, ⟨bz BK300⟩, ⟨bz BK305⟩, ⟨by exact bh⟩⟩
             ·rw [if_neg c29] at H
              exact absurd H (by simp)
            ·rw [if_neg c28] at H
             exact absurd H (by simp)
           ·rw [if_neg c27] at H
            have c27b0 : decide (x8_2 < ((rd_L5 t297 x6_1).length : Int)) = false := decide_eq_false c27
            clear c27
            by_cases c33 : x306002_1.length < 5864062014805
            ·rw [if_pos c33] at H
             have LMc33 := Aside0.mk c33
             clear c33
             obtain ⟨y322, hy322⟩ : ∃ y_ : List (List (S35)), y_ = (x306002_1 ++ [x7_2]) := ⟨_, rfl⟩
             replace H : (laws_FnCharterOk.l0 k2 (wrap64 (x6_1 + 1)) t293 t294 t297 t293 t294 y322) = some r := by first | (rw [hy322]; with_reducible exact H) | (have H2_ := (Option.bind_some _ _).symm.trans H; rw [hy322]; with_reducible exact H2_) | (have H2_ := (Option.bind_some _ _).symm.trans H; with_reducible exact H2_) | with_reducible exact H | (rw [hy322]; exact H) | exact H
             have Ny322 := Aside0.mk hy322
             clear hy322
             have H' := Aside0.mk H
             clear H
             have hnb34 := NB300_305.out
             have hnc34 := NB305_300.out
             have hcz35_0 := cz0 BK300
             have hcz35_1 := cz1 BK300
             have hcz35_2 := cz2 BK300
             have hfz35_0 := blk_frozen BK300.out 0
             have hfz35_1 := blk_frozen BK300.out 1
             have hfz35_2 := blk_frozen BK300.out 2
             have p316 : 0 ≤ (x6_1 : Int) := oda
             have q316 : x6_1 < (t297.length : Int) := oda
             obtain ⟨ad316, A316_0, c316_0, e316, hx316_0, hl316_0, hi316_0⟩ := at_L5 (Kd.N_reads' HO_301002.out).2.2 x6_1 p316 q316
             cases e316
             obtain ⟨ce316, hce316, hMe316, hcc316⟩ := Kd.N_get HO_301002.out [] x6_1 p316 (by first | exact q316 | exact oda | (have e_ := (Kd.N_reads' HO_301002.out).1; omega))
             obtain ⟨ua316_0, uc316_0, rfl, ul316_0, ge316_0⟩ := Kd.FK_slice_open hMe316
             have hv316_0 := hcc316 0 _ rfl
             rw [Nat.add_zero, show ((Kd.slice 35 k35)).sz = 1 from rfl, Nat.mul_one] at hv316_0
             replace hv316_0 := Option.some.inj (hv316_0.symm.trans hx316_0)
             injection hv316_0 with hva_ hvn_ hvc_
             rw [hva_] at ge316_0
             rw [hvc_] at ul316_0
             have HL316_0 := Aside0.mk (show Kd.V k35 35 _ w.heap.size _ _ (rd_L5 t297 x6_1) from Kd.V_mk ul316_0 ge316_0)
             clear hva_ hvn_ hvc_ ge316_0 ul316_0 hcc316 hce316
             have HR316_0 := Aside0.mk hi316_0
             have HC316_0 := Aside0.mk hl316_0
             clear hi316_0 hl316_0
             replace p316 := eq_true p316
             replace q316 := eq_true q316
             have hcz36_0 := cz0 BK305
             have hcz36_1 := cz1 BK305
             have hcz36_2 := cz2 BK305
             have hfz36_0 := blk_frozen BK305.out 0
             have hfz36_1 := blk_frozen BK305.out 1
             have hfz36_2 := blk_frozen BK305.out 2
             obtain ⟨Ao38, co38, eo38⟩ := Kd.N_slice HO_7.out
             subst eo38
             go_wp2_with (first | ((with_reducible refine gate_builtin (b := .append) (xs := #[.tmp 63, .tmp 65]) rfl ?_); at_builtin; refine Kd.N_append (Kd.slice 35 k35) (w0 := w) w.heap.size rfl (.tmp 63) (.tmp 65) 26 32 (.slice none 0 0) 24 rfl Try.underlying26 info32 rfl (by decide) (by omega) u306002 x306002_1 x7_2 [.slice Ao38 x7_2.length co38] (fun k_ => some k_ ≠ (.slice Ao11 t294.length co11 : Value).ownBlock ∧ some k_ ≠ (.slice (some ad316) t297.length co12 : Value).ownBlock ∧ some k_ ≠ (.slice Ao11 t294.length co11 : Value).ownBlock ∧ k_ ≠ gb300 ∧ k_ ≠ gb305) (fun k_ => ((fun k_ => some k_ ≠ (.slice Ao11 t294.length co11 : Value).ownBlock ∧ some k_ ≠ (.slice (some ad316) t297.length co12 : Value).ownBlock ∧ some k_ ≠ (.slice Ao11 t294.length co11 : Value).ownBlock ∧ k_ ≠ gb300 ∧ k_ ≠ gb305)) k_ ∧ some k_ ≠ (u306002 : Value).ownBlock) rfl rfl ?aP (fun _ hk => hk) ?aF ?aO ?aB ?aS ?aL ?_; (case aP => exact (Kd.FK_slice_mk (Kd.N_reads' (Kd.N_mono (ok' := (fun k_ => ((fun k_ => some k_ ≠ (.slice Ao11 t294.length co11 : Value).ownBlock ∧ some k_ ≠ (.slice (some ad316) t297.length co12 : Value).ownBlock ∧ some k_ ≠ (.slice Ao11 t294.length co11 : Value).ownBlock ∧ k_ ≠ gb300 ∧ k_ ≠ gb305)) k_ ∧ some k_ ≠ (u306002 : Value).ownBlock)) (HO_7.out) (fun k_ hk => ⟨⟨hk.1, ⟨hk.2.1, ⟨hk.2.2.1, ⟨hk.2.2.2.2.1, hk.2.2.2.2.2⟩⟩⟩⟩, hk.2.2.2.1⟩))).2.1 (Kd.N_F (Kd.N_mono (ok' := (fun k_ => ((fun k_ => some k_ ≠ (.slice Ao11 t294.length co11 : Value).ownBlock ∧ some k_ ≠ (.slice (some ad316) t297.length co12 : Value).ownBlock ∧ some k_ ≠ (.slice Ao11 t294.length co11 : Value).ownBlock ∧ k_ ≠ gb300 ∧ k_ ≠ gb305)) k_ ∧ some k_ ≠ (u306002 : Value).ownBlock)) (HO_7.out) (fun k_ hk => ⟨⟨hk.1, ⟨hk.2.1, ⟨hk.2.2.1, ⟨hk.2.2.2.2.1, hk.2.2.2.2.2⟩⟩⟩⟩, hk.2.2.2.1⟩))))); (case aB => exact bh); (case aF => exact (fun k_ hk => ⟨Kd.fresh' (Kd.R_lt (rz HO_301001)) k_ hk, Kd.fresh' (Kd.N_lt (nz HO_301002)) k_ hk, Kd.fresh' (Kd.R_lt (rz HO_306001)) k_ hk, Kd.freshB (bz BK300) k_ hk, Kd.freshB (bz BK305) k_ hk⟩)); (case aO => exact (mN HO_306002)); (case aS => exact (below_size bh)); (case aL => have := LMc33.out; omega); intro v323 w37 ho hb hg hat; rw [← Ny322.out] at ho; have n0_ := Aside0.mk (Kd.R_over' (rz HO_301001) (Kd.N_typed (nz HO_306002)) (by decide) hg); have n1_ := Aside0.mk (Kd.N_afterv (ok := (fun k_ => some k_ ≠ (.slice Ao38 x7_2.length co38 : Value).ownBlock ∧ some k_ ≠ (.slice Ao11 t294.length co11 : Value).ownBlock ∧ some k_ ≠ (.slice Ao11 t294.length co11 : Value).ownBlock ∧ k_ ≠ gb300 ∧ k_ ≠ gb305)) (mN HO_301002) hg hat); have n2_ := Aside0.mk (Kd.R_over' (rz HO_306001) (Kd.N_typed (nz HO_306002)) (by decide) hg); have n3_ := Aside0.mk (blk_grown (bz BK300) hg (Kd.N_ne HO_306002.out BK300.out (by decide))); have n4_ := Aside0.mk (blk_grown (bz BK305) hg (Kd.N_ne HO_306002.out BK305.out (by decide))); have n5_ := Aside0.mk (Kd.V_afterv (ok := (fun k_ => some k_ ≠ (.slice Ao38 x7_2.length co38 : Value).ownBlock ∧ some k_ ≠ (.slice Ao11 t294.length co11 : Value).ownBlock ∧ some k_ ≠ (.slice (some ad316) t297.length co12 : Value).ownBlock ∧ some k_ ≠ (.slice Ao11 t294.length co11 : Value).ownBlock ∧ k_ ≠ gb300 ∧ k_ ≠ gb305)) (mV HL316_0) hg hat); have n6_ := Aside0.mk (hb); have n7_ := Aside0.mk (ho); clear HO_301001 HO_301002 HO_306001 BK300 BK305 HL316_0 HB HO_306002 HO_7; have HO_301001 := n0_; have HO_301002 := n1_; have HO_306001 := n2_; have BK300 := n3_; have BK305 := n4_; have HL316_0 := n5_; have HB := n6_; have HO324 := n7_; clear n0_ n1_ n2_ n3_ n4_ n5_ n6_ n7_ ho hb hg hat; obtain ⟨Ao39, co39, eo39⟩ := Kd.N_slice HO324.out; subst eo39; have hcz40_0 := cz0 BK305; have hcz40_1 := cz1 BK305; have hcz40_2 := cz2 BK305; have hfz40_0 := blk_frozen BK305.out 0; have hfz40_1 := blk_frozen BK305.out 1; have hfz40_2 := blk_frozen BK305.out 2))
             go_roundg k2
             case measure => have := HK1.out; have := HK2.out; omega
             case rel => exact ⟨(wrap64 (x6_1 + 1)), (y322), (.slice Ao39 y322.length co39), (by first | rfl | (simp; done) | (simp [*]; done)), H', ⟨by have := HK1.out; have := HK2.out; omega⟩, ⟨gR HO_301001 BK305⟩, ⟨vN HO_301002 (fun _ hk => hk.1.2.2.2.2)⟩, ⟨gR HO_306001 BK305⟩, ⟨vN HO324 (fun _ hk => hk.2.2.2.2)⟩, ⟨bf NB300_305 BK300⟩, ⟨bp BK305⟩, ⟨by exact bh⟩⟩
            ·rw [if_neg c33] at H
             exact absurd H (by simp)
          ·rw [if_neg c26] at H
           exact absurd H (by simp)
         ·rw [if_neg c25] at H
          exact absurd H (by simp)
      ·rw [if_neg c20] at H
       have c20b0 : decide (x6_1 < (t297.length : Int)) = false := decide_eq_false c20
       clear c20
       replace H := Option.bind_eq_some_iff.mp H
       obtain ⟨t306, A410, H⟩ := H
       replace H : (if t306 = true then (if 1 ≤ (x306002_1.length : Int) then ((impl_CharterOk.f k1 t293 t294 (x306002_1.take 1)).bind fun t312 => (some t312)) else (none)) else (none)) = some r := H
       have A41 := Aside0.mk A410
       clear A410
       by_cases c42 : t306 = true
       ·subst c42
        have H1 : (if 1 ≤ (x306002_1.length : Int) then ((impl_CharterOk.f k1 t293 t294 (x306002_1.take 1)).bind fun t312 => (some t312)) else (none)) = some r := by rw [if_pos rfl] at H; exact H
        clear H
        have H := H1
        clear H1
        by_cases c43 : 1 ≤ (x306002_1.length : Int)
        ·rw [if_pos c43] at H
         have c43b0 := eq_true c43
         have c43b1 : decide (1 ≤ (x306002_1.length : Int)) = true := decide_eq_true c43
         clear c43
         obtain ⟨y307, hy307⟩ : ∃ y_ : List (List (S35)), y_ = (x306002_1.take 1) := ⟨_, rfl⟩
         replace H : ((impl_CharterOk.f k1 t293 t294 y307).bind fun t312 => (some t312)) = some r := by first | (rw [hy307]; with_reducible exact H) | (have H2_ := (Option.bind_some _ _).symm.trans H; rw [hy307]; with_reducible exact H2_) | (have H2_ := (Option.bind_some _ _).symm.trans H; with_reducible exact H2_) | with_reducible exact H | (rw [hy307]; exact H) | exact H
         have Ny307 := Aside0.mk hy307
         clear hy307
         replace H := Option.bind_eq_some_iff.mp H
         obtain ⟨t312, A440, H⟩ := H
         replace H : (some t312) = some r := H
         have A44 := Aside0.mk A440
         clear A440
         obtain rfl := Option.some.inj H
         have hnb45 := NB300_305.out
         have hnc45 := NB305_300.out
         have hcz46_0 := cz0 BK300
         have hcz46_1 := cz1 BK300
         have hcz46_2 := cz2 BK300
         have hfz46_0 := blk_frozen BK300.out 0
         have hfz46_1 := blk_frozen BK300.out 1
         have hfz46_2 := blk_frozen BK300.out 2
         try go_wp2
         have n0_ := Aside0.mk (Kd.R_drew HO_301001.out)
         have n1_ := Aside0.mk (Kd.N_drew HO_301002.out)
         have n2_ := Aside0.mk (Kd.R_drew HO_306001.out)
         have n3_ := Aside0.mk (Kd.N_drew HO_306002.out)
         have n4_ := Aside0.mk (blk_drew BK300.out)
         have n5_ := Aside0.mk (blk_drew BK305.out)
         have n6_ := Aside0.mk (below_drew1 HB.out)
         clear HO_301001 HO_301002 HO_306001 HO_306002 BK300 BK305 HB
         have HO_301001 := n0_
         have HO_301002 := n1_
         have HO_306001 := n2_
         have HO_306002 := n3_
         have BK300 := n4_
         have BK305 := n5_
         have HB := n6_
         clear n0_ n1_ n2_ n3_ n4_ n5_ n6_
         obtain ⟨Ao48, co48, eo48⟩ := Kd.N_slice HO_306002.out
         (first | subst eo48 | (injection eo48 with f1_ f2_ f3_; have f4_ := f1_.symm; have f5_ := f3_.symm; clear f1_ f2_ f3_; subst f4_; subst f5_))
         refine start_ (n := 12) (S := fun w' => w'.cell? ⟨gb305, 0, none⟩ = some (.int .i64 t293) ∧ w'.cell? ⟨gb305, 1, none⟩ = some (.slice Ao11 t294.length co11) ∧ w'.cell? ⟨gb305, 2, none⟩ = some (.slice Ao48 x306002_1.length co48) ∧ w'.cell? ⟨gb300, 0, none⟩ = some (.int .i64 t293) ∧ w'.cell? ⟨gb300, 1, none⟩ = some (.slice Ao11 t294.length co11) ∧ w'.cell? ⟨gb300, 2, none⟩ = some (.slice Ao12 t297.length co12)) (ds := []) #[F,F,F,F,F,F,F,F,F,F,F,F] kr rfl rfl ⟨cz0 BK305, cz1 BK305, cz2 BK305, cz0 BK300, cz1 BK300, cz2 BK300⟩ (fun hHeld => ?_); refine with_tabW laws_FnCharterOk.tab19 laws_FnCharterOk.bits19 (fun HT_ HW_ => ?_)
         generalize wr.drew = w47 at HO_301001 HO_301002 HO_306001 HO_306002 BK300 BK305 HB hHeld ⊢
         refine tk6 0 (some 68) #[T,F,F,F,F,F,F,F,F,F,F,F] (take_ofW HT_.out HW_.out kr) ?_
         refine one_ (i := 1) (N := some 69) #[T,T,F,F,F,F,F,F,F,F,F,F] rfl rfl (one_of HT_.out kr) (by decide) (fun K hK => ?_)
         refine goes_ Try.func10 kr rfl #[.agg #[.int .i64 t293, .slice Ao11 t294.length co11, .slice Ao48 x306002_1.length co48]] (by rfl) rfl rfl lm ?_
         with_reducible refine (impl_CharterOk.calls k1 t293 _ _ t294 _ _ x306002_1 true _ ?side1 ?side2 ?side3 ?side4 A41.out).mono ?_
         (case side1 => repeat (first | exact (Kd.R_reads' HO_306001.out).2.2 | (with_reducible refine Kd.C_alloc ?_ _) | (with_reducible refine Kd.C_drewN ?_ _) | (with_reducible refine Kd.C_drew ?_)))
         (case side2 => exact (Kd.R_reads' HO_306001.out).2.1)
         (case side3 => repeat (first | exact (Kd.N_reads' HO_306002.out).2.2 | (with_reducible refine Kd.C_alloc ?_ _) | (with_reducible refine Kd.C_drewN ?_ _) | (with_reducible refine Kd.C_drew ?_)))
         (case side4 => exact (Kd.N_reads' HO_306002.out).2.1)
         rintro e w49 ⟨rfl, hb⟩
         refine ⟨_, rfl, ?_⟩
         have n0_ := Aside0.mk (Kd.R_below (rz HO_301001) hb)
         have n1_ := Aside0.mk (Kd.N_below (nz HO_301002) hb)
         have n2_ := Aside0.mk (Kd.R_below (rz HO_306001) hb)
         have n3_ := Aside0.mk (Kd.N_below (nz HO_306002) hb)
         have n4_ := Aside0.mk (blk_below (bz BK300) hb)
         have n5_ := Aside0.mk (blk_below (bz BK305) hb)
         have n6_ := Aside0.mk (below_step bh hb)
         clear HO_301001 HO_301002 HO_306001 HO_306002 BK300 BK305 HB
         have HO_301001 := n0_
         have HO_301002 := n1_
         have HO_306001 := n2_
         have HO_306002 := n3_
         have BK300 := n4_
         have BK305 := n5_
         have HB := n6_
         clear n0_ n1_ n2_ n3_ n4_ n5_ n6_
         (try clear hb)
         (try clear hb2)
         (try clear hk)
         (try clear hi)
         have q50 : (1 : Int) ≤ ((x306002_1.length : Int) : Int) := oda
         obtain ⟨i050, hi050, _, hsz50, _⟩ := info_parts info32
         have hroom50 : x306002_1.length ≤ co48 := (Kd.N_reads' HO_306002.out).2.1
         have hC50 : Kd.F (Kd.slice 35 k35) _ _ Ao48 x306002_1.length x306002_1 := (Kd.V_at (base := w.heap.size) (Kd.N_V HO_306002.out)).2.2
         have hcut50 := cut_to (P := Try.prog) 26 32 .i64 Try.underlying26 hi050 Ao48 x306002_1.length co48 1 (by omega) q50 hroom50
         have hr50 := Kd.F_take (m := 1) hC50 (by omega)
         have hy50 : y307.length = (1 : Int).toNat := (by rw [Ny307.out, List.length_take]; omega)
         rw [← Ny307.out] at hr50
         rw [← hy50] at hcut50
         have HO311 := Aside0.mk (show Kd.V (Kd.slice 35 k35) 32 _ w.heap.size _ (.slice Ao48 y307.length co48) y307 from Kd.V_mk (by omega) hr50)
         have HC311 := Aside0.mk (show y307.length ≤ co48 from by omega)
         clear hr50 hC50 hroom50 hi050 hsz50
         have KY50 := Aside0.mk hy50
         clear hy50
         replace q50 := eq_true q50
         refine hK.out _ _ ⟨cz0 BK305, cz1 BK305, cz2 BK305, cz0 BK300, cz1 BK300, cz2 BK300⟩ (fun hHeld => ?_)
         clear hK K
         refine norm_ (a' := ?_) ?_ ?_
         rotate_left
         ·show Act.put _ (some 69) _ = _
          simp only [Act.put, List.setIfInBounds_toArray, List.set_cons_zero, List.set_cons_succ, i64_w, i32_w]
          rfl
         refine pu 2 (some 70) #[T,T,T,F,F,F,F,F,F,F,F,F] (any_of HT_.out kr) ?_
         refine pu 3 (some 71) #[T,T,T,T,F,F,F,F,F,F,F,F] (any_of HT_.out kr) ?_
         refine pu 5 (some 73) #[T,T,T,T,F,T,F,F,F,F,F,F] (any_of HT_.out kr) ?_
         refine tk6 4 (some 72) #[T,T,T,T,T,T,F,F,F,F,F,F] (take_ofW HT_.out HW_.out kr) ?_
         refine tk6 6 (some 74) #[T,T,T,T,T,T,T,F,F,F,F,F] (take_ofW HT_.out HW_.out kr) ?_
         refine pu 7 (some 75) #[T,T,T,T,T,T,T,T,F,F,F,F] (any_of HT_.out kr) ?_
         refine pu 8 (some 76) #[T,T,T,T,T,T,T,T,T,F,F,F] (any_of HT_.out kr) ?_
         refine one_ (i := 9) (N := some 77) #[T,T,T,T,T,T,T,T,T,T,F,F] rfl rfl (one_of HT_.out kr) (by decide) (fun K hK => ?_)
         refine goes_ Try.func10 kr rfl #[.agg #[.int .i64 t293, .slice Ao11 t294.length co11, .slice Ao48 y307.length co48]] (by rfl) rfl rfl lm ?_
         with_reducible refine (impl_CharterOk.calls k1 t293 _ _ t294 _ _ y307 t312 _ ?side1 ?side2 ?side3 ?side4 A44.out).mono ?_
         (case side1 => repeat (first | exact (Kd.R_reads' HO_301001.out).2.2 | (with_reducible refine Kd.C_alloc ?_ _) | (with_reducible refine Kd.C_drewN ?_ _) | (with_reducible refine Kd.C_drew ?_)))
         (case side2 => exact (Kd.R_reads' HO_301001.out).2.1)
         (case side3 => repeat (first | exact (Kd.V_reads' HO311.out).2.2 | (with_reducible refine Kd.C_alloc ?_ _) | (with_reducible refine Kd.C_drewN ?_ _) | (with_reducible refine Kd.C_drew ?_)))
         (case side4 => exact (Kd.V_reads' HO311.out).2.1)
         rintro e w51 ⟨rfl, hb⟩
         refine ⟨_, rfl, ?_⟩
         have n0_ := Aside0.mk (Kd.R_below (rz HO_301001) hb)
         have n1_ := Aside0.mk (Kd.N_below (nz HO_301002) hb)
         have n2_ := Aside0.mk (Kd.R_below (rz HO_306001) hb)
         have n3_ := Aside0.mk (Kd.N_below (nz HO_306002) hb)
         have n4_ := Aside0.mk (Kd.V_below (vz HO311) hb)
         have n5_ := Aside0.mk (blk_below (bz BK300) hb)
         have n6_ := Aside0.mk (blk_below (bz BK305) hb)
         have n7_ := Aside0.mk (below_step bh hb)
         clear HO_301001 HO_301002 HO_306001 HO_306002 HO311 BK300 BK305 HB
         have HO_301001 := n0_
         have HO_301002 := n1_
         have HO_306001 := n2_
         have HO_306002 := n3_
         have HO311 := n4_
         have BK300 := n5_
         have BK305 := n6_
         have HB := n7_
         clear n0_ n1_ n2_ n3_ n4_ n5_ n6_ n7_
         (try clear hb)
         (try clear hb2)
         (try clear hk)
         (try clear hi)
         refine hK.out _ _ ⟨cz0 BK305, cz1 BK305, cz2 BK305, cz0 BK300, cz1 BK300, cz2 BK300⟩ (fun hHeld => ?_)
         clear hK K
         refine norm_ (a' := ?_) ?_ ?_
         rotate_left
         ·show Act.put _ (some 77) _ = _
          simp only [Act.put, List.setIfInBounds_toArray, List.set_cons_zero, List.set_cons_succ, i64_w, i32_w]
          rfl
         refine pu 10 (some 78) #[T,T,T,T,T,T,T,T,T,T,T,F] (any_of HT_.out kr) ?_
         refine pu 11 (some 2) #[T,T,T,T,T,T,T,T,T,T,T,T] (any_of HT_.out kr) ?_
         refine done_ (done_of HT_.out kr) ?_
         try go_wp2
         go_ret
         exact ⟨by first | rfl | (simp [errW_none, errW_some] <;> rfl) | (simp [*, errW_none, errW_some] <;> rfl), by exact bh⟩
        ·rw [if_neg c43] at H
         exact absurd H (by simp)
       ·replace c42 := Bool.eq_false_iff.mpr c42
        subst c42
        have H1 : (none) = some r := by rw [if_neg (show ¬ (false = true) by decide)] at H; exact H
        clear H
        have H := H1
        clear H1
        exact absurd H (by simp)
   ·replace c7 := Bool.eq_false_iff.mpr c7
    subst c7
    have H1 : ((impl_CharterOk.f k 0 ([] : List Int) ([] : List (List (S35)))).bind fun t303 => (if t303 = true then (none) else ((laws_alive.f).bind fun t304 => (some t304)))) = some r := by rw [if_neg (show ¬ (false = true) by decide)] at H; exact H
    clear H
    have H := H1
    clear H1
    replace H := Option.bind_eq_some_iff.mp H
    obtain ⟨t303, A520, H⟩ := H
    replace H : (if t303 = true then (none) else ((laws_alive.f).bind fun t304 => (some t304))) = some r := H
    have A52 := Aside0.mk A520
    clear A520
    by_cases c53 : t303 = true
    ·subst c53
     have H1 : (none) = some r := by rw [if_pos rfl] at H; exact H
     clear H
     have H := H1
     clear H1
     exact absurd H (by simp)
    ·replace c53 := Bool.eq_false_iff.mpr c53
     subst c53
     have H1 : ((laws_alive.f).bind fun t304 => (some t304)) = some r := by rw [if_neg (show ¬ (false = true) by decide)] at H; exact H
     clear H
     have H := H1
     clear H1
     replace H := Option.bind_eq_some_iff.mp H
     obtain ⟨t304, A540, H⟩ := H
     replace H : (some t304) = some r := H
     have A54 := Aside0.mk A540
     clear A540
     obtain rfl := Option.some.inj H
     go_enter Try.func3, Try.ntmps3
     go_wp2_with (first | ((with_reducible refine gate_callee (f := 9) rfl ?_); refine goesL_ (some 13) rfl rfl Try.func9 kr rfl #[.slice A0 l0.length c0] rfl lm ?_; (with_reducible refine (spec_DrawCharterOk.calls k _ _ l0 t293 t294 t297 _ ?side1 ?side2 A3.out).mono ?_); (case side1 => repeat (first | exact HR0.out | (with_reducible refine Kd.C_alloc ?_ _) | (with_reducible refine Kd.C_drewN ?_ _) | (with_reducible refine Kd.C_drew ?_))); (case side2 => exact HC0.out); rintro e w55 ⟨v295, v298, rfl, ho0, ho1, hb⟩; refine ⟨_, rfl, ?_⟩; have n0_ := Aside0.mk (Kd.R_lower ho0 (below_size bh)); have n1_ := Aside0.mk (Kd.N_lower (Kd.N_mono (ok' := fun k_ => some k_ ≠ (v295 : Value).ownBlock) (Kd.S_N (Kd.S_bound (Kd.S_apart' ho1 (Kd.R_typed ho0) (by decide)))) (fun k_ hk_ => hk_.1.2)) (below_size bh)); have n2_ := Aside0.mk (below_step bh hb); clear HB; have HO296 := n0_; have HO299 := n1_; have HB := n2_; clear n0_ n1_ n2_; (try clear hb); (try clear hb2); (try clear hk); (try clear hi); (try clear ho0); (try clear ho1)) | ((with_reducible refine gate_dst (N := 3) rfl ?_); refine box_event ?hg (N := 3) ?hd (cs := #[.int .i64 0, .slice none 0 0, .slice none 0 0]) (t := 28) ?hr ?_; (case hd => rfl); (case hg => rfl); (case hr => first | (go_simp; done) | (go_simp; rfl)); intro gb300 hg w56 hbox hb; have n0_ := Aside0.mk (Kd.R_below (rz HO296) hb); have n1_ := Aside0.mk (Kd.N_below (Kd.N_elderB (nz HO299) gb300 (Nat.le_of_eq hg.symm)) hb); have n2_ := Aside0.mk (below_step bh hb); have n3_ := Aside0.mk (hbox); have n4_ := Aside0.mk ((gs (W0 := w) hg bh)); have n5_ := Aside0.mk ((gs (W0 := w) hg bh)); clear HO296 HO299 HB; have HO296 := n0_; have HO299 := n1_; have HB := n2_; have BK300 := n3_; have GW300 := n4_; have GE300 := n5_; clear n0_ n1_ n2_ n3_ n4_ n5_ hb hbox hg; have hcz57_0 := cz0 BK300; have hcz57_1 := cz1 BK300; have hcz57_2 := cz2 BK300; have hfz57_0 := blk_frozen BK300.out 0; have hfz57_1 := blk_frozen BK300.out 1; have hfz57_2 := blk_frozen BK300.out 2; obtain ⟨Ao58, co58, eo58⟩ := Kd.R_slice HO296.out; subst eo58; obtain ⟨Ao59, co59, eo59⟩ := Kd.N_slice HO299.out; subst eo59) | ((with_reducible refine gate_callee (f := 10) rfl ?_); refine goesL_ (some 15) rfl rfl Try.func10 kr rfl #[.agg #[.int .i64 t293, .slice Ao58 t294.length co58, .slice Ao59 t297.length co59]] rfl lm ?_; (with_reducible refine (impl_CharterOk.calls k t293 _ _ t294 _ _ t297 false _ ?side1 ?side2 ?side3 ?side4 A4.out).mono ?_); (case side1 => refine (Kd.R_reads' (e := 3) (base := w.heap.size) (ok := fun k_ => True) (n := t294.length) (c := co58) ?_).2.2; exact (fR HO296 BK300)); (case side2 => exact (Kd.R_reads' HO296.out).2.1); (case side3 => refine (Kd.N_reads' (e := 32) (base := w.heap.size) (ok := fun k_ => (some k_ ≠ (.slice Ao58 t294.length co58 : Value).ownBlock ∧ k_ ≠ gb300)) (n := t297.length) (c := co59) ?_).2.2; exact (uN HO299 (fun _ hk => hk.2))); (case side4 => exact (Kd.N_reads' HO299.out).2.1); rintro e w60 ⟨rfl, hb⟩; refine ⟨_, rfl, ?_⟩; have n0_ := Aside0.mk (Kd.R_below (fR HO296 BK300) hb); have n1_ := Aside0.mk (Kd.N_below (uN HO299 (fun _ hk => hk.2)) hb); have n2_ := Aside0.mk (blk_below (g := gb300) (o := .cells #[.int .i64 t293, .slice Ao58 t294.length co58, .slice Ao59 t297.length co59] 28 (0, 0)) (bp BK300) hb); have n3_ := Aside0.mk (below_step bh hb); clear HO296 HO299 BK300 HB; have HO296 := n0_; have HO299 := n1_; have BK300 := n2_; have HB := n3_; clear n0_ n1_ n2_ n3_; (try clear hb); (try clear hb2); (try clear hk); (try clear hi); have hcz61_0 := cz0 BK300; have hcz61_1 := cz1 BK300; have hcz61_2 := cz2 BK300; have hfz61_0 := blk_frozen BK300.out 0; have hfz61_1 := blk_frozen BK300.out 1; have hfz61_2 := blk_frozen BK300.out 2) | ((with_reducible refine gate_callee (f := 11) rfl ?_); refine goesL_ (some 18) rfl rfl Try.func11 kr rfl #[.agg #[.int .i64 t293, .slice Ao58 t294.length co58, .slice Ao59 t297.length co59]] rfl lm ?_; (with_reducible refine (spec_CharterOk.calls k t293 _ _ t294 _ _ t297 t302 _ ?side1 ?side2 ?side3 ?side4 A5.out).mono ?_); (case side1 => repeat (first | exact (Kd.R_reads' HO296.out).2.2 | (with_reducible refine Kd.C_alloc ?_ _) | (with_reducible refine Kd.C_drewN ?_ _) | (with_reducible refine Kd.C_drew ?_))); (case side2 => exact (Kd.R_reads' HO296.out).2.1); (case side3 => repeat (first | exact (Kd.N_reads' HO299.out).2.2 | (with_reducible refine Kd.C_alloc ?_ _) | (with_reducible refine Kd.C_drewN ?_ _) | (with_reducible refine Kd.C_drew ?_))); (case side4 => exact (Kd.N_reads' HO299.out).2.1); rintro e w62 ⟨rfl, hb⟩; refine ⟨_, rfl, ?_⟩; have n0_ := Aside0.mk (Kd.R_below (rz HO296) hb); have n1_ := Aside0.mk (Kd.N_below (nz HO299) hb); have n2_ := Aside0.mk (blk_below (bz BK300) hb); have n3_ := Aside0.mk (below_step bh hb); clear HO296 HO299 BK300 HB; have HO296 := n0_; have HO299 := n1_; have BK300 := n2_; have HB := n3_; clear n0_ n1_ n2_ n3_; (try clear hb); (try clear hb2); (try clear hk); (try clear hi)) | ((with_reducible refine gate_callee (f := 10) rfl ?_); refine goesL_ (some 23) rfl rfl Try.func10 kr rfl #[.agg #[.int .i64 0, .slice none 0 0, .slice none 0 0]] rfl lm ?_; (refine (impl_CharterOk.calls k 0 _ _ ([] : List Int) _ _ ([] : List (List (S35))) false _ ?side1 ?side2 ?side3 ?side4 A52.out).mono ?_); (case side1 => exact Kd.C_nil _ _); (case side2 => exact Nat.le_refl _); (case side3 => exact Kd.C_nil _ _); (case side4 => exact Nat.le_refl _); rintro e w63 ⟨rfl, hb⟩; refine ⟨_, rfl, ?_⟩; have n0_ := Aside0.mk (Kd.R_below (rz HO296) hb); have n1_ := Aside0.mk (Kd.N_below (nz HO299) hb); have n2_ := Aside0.mk (blk_below (bz BK300) hb); have n3_ := Aside0.mk (below_step bh hb); clear HO296 HO299 BK300 HB; have HO296 := n0_; have HO299 := n1_; have BK300 := n2_; have HB := n3_; clear n0_ n1_ n2_ n3_; (try clear hb); (try clear hb2); (try clear hk); (try clear hi)) | (go_at_call 12; (with_reducible refine (laws_alive.calls  t304 _ A54.out).mono ?_); rintro e w' ⟨rfl, ⟨nd, rfl⟩⟩))
     go_ret
     exact ⟨by first | rfl | (simp [errW_none, errW_some] <;> rfl) | (simp [*, errW_none, errW_some] <;> rfl), by exact bh⟩

/-- THE ONE PURE STATEMENT of laws_FnCharterOk: yours. -/
def laws_FnCharterOk.Pure : Prop := ∀ (l0 : List Int), l0.length ≤ maxLen → l0.length * 1 ≤ 140737488351232 → (∀ x ∈ l0, (Lit.int .u8 x).wf = true) → ∃ k, laws_FnCharterOk.f k l0 = some true
theorem laws_FnCharterOk.walk (P : laws_FnCharterOk.Pure) (a0 : Option Addr) (len0 cap0 : Nat) (z0 : List Int) (w : World) (w0 : (a0 = none ∧ len0 = 0 ∧ cap0 = 0 ∧ z0 = []) ∨ ∃ x, a0 = some x ∧ len0 ≤ cap0 ∧ cap0 ≤ maxLen ∧ z0.length = cap0 ∧ (∀ i, i < z0.length → w.cell? (x.add i) = some (.int .u8 (z0.getD i 0))) ∧ ∀ n ∈ z0, (Lit.int .u8 n).wf = true) (y0 : len0 * 1 ≤ 140737488351232) :
  Calls Try.prog 3 #[.slice a0 len0 cap0] w fun e w' => e = .returned (.bool true) ∧ Below w.heap.size w w' := by
 obtain ⟨l0, rfl, hr0, hm0, hw0, hc0⟩ := ReadsInt.ofRowC w0
 obtain ⟨k, h⟩ := P l0 hm0 y0 hw0
 refine (laws_FnCharterOk.calls k _ _ l0 true w (Kd.C_of_reads (d := (0 : Int)) (h1 := fun _ => rfl) hr0) hc0 h).mono ?_
 rintro e w' ⟨rfl, hd⟩
 exact ⟨rfl, hd⟩

end Go.Proofs.Ytmbphgdfadoknaa.QFnCharterOk
