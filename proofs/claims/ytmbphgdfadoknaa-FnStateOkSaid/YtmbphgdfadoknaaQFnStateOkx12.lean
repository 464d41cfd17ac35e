-- Printed for this claim by a turned copy of the print (wip/myprint). Lean checks it. Squeezed. Worded. Tightened.
import Derived.Test.YtmbphgdfadoknaaQFnStateOkx0
import Derived.Test.YtmbphgdfadoknaaQFnStateOkx4
import Derived.Test.YtmbphgdfadoknaaQFnStateOkx5
import Derived.Test.YtmbphgdfadoknaaQFnStateOkx8
import Derived.Test.YtmbphgdfadoknaaQFnStateOkx11
namespace Go.Proofs.Ytmbphgdfadoknaa.QFnStateOk
open Go.RowKit Go.Proofs.YtmbphgdfadoknaaW.PrintWords Go.Proofs.YtmbphgdfadoknaaW.PrintLast Go.Proofs.YtmbphgdfadoknaaW.PrintMore
attribute [local go_sem] max2_int min2_int max_two min_two max_three min_three max_four min_four Opens.cell_twice   -- for this text's walks alone
set_option linter.unusedVariables false
set_option linter.unusedSimpArgs false

/-! ### laws_FnStateOk: function 4 -/
def laws_FnStateOk.f (k : Nat) (l0 : List Int) : Option (Bool) := if (l0.length : Int) > 1048576 then (some true) else ((spec_DrawStateOk.f k l0).bind fun bt332 => ((impl_StateOk.f k bt332.1 bt332.2.1 bt332.2.2.1 bt332.2.2.2).bind fun t343 => ((spec_StateOk.f k bt332.1 bt332.2.1 bt332.2.2.1 bt332.2.2.2).bind fun t344 => (if (t343 != t344) = true then (none) else ((spec_CharterOk.f k bt332.1 bt332.2.1 bt332.2.2.1).bind fun t345 => (if t345 = true then (if 0 ≤ (bt332.2.2.1.length : Int) then (if ((bt332.2.2.1.length : Int) : Int).toNat ≤ 35184372088832 then ((impl_StateOk.f k bt332.1 bt332.2.1 bt332.2.2.1 (List.replicate ((bt332.2.2.1.length : Int) : Int).toNat 0)).bind fun t349 => (if t349 = true then (if 0 ≤ (wrap64 ((bt332.2.2.1.length : Int) + 1)) then (if (wrap64 ((bt332.2.2.1.length : Int) + 1) : Int).toNat ≤ 35184372088832 then ((impl_StateOk.f k bt332.1 bt332.2.1 bt332.2.2.1 (List.replicate (wrap64 ((bt332.2.2.1.length : Int) + 1) : Int).toNat 0)).bind fun t353 => (if t353 = true then (none) else ((laws_alive.f).bind fun t354 => (some t354)))) else (none)) else (none)) else (none))) else (none)) else (none)) else (if t343 = true then (none) else ((laws_alive.f).bind fun t355 => (some t355)))))))))
theorem laws_FnStateOk.mono : ∀ a0 k, LeO (laws_FnStateOk.f k a0) (laws_FnStateOk.f (k + 1) a0) := by
 intro a0 k
 unfold laws_FnStateOk.f
 repeat' first
   | (with_reducible exact impl_StateOk.mono _ _ _ _ _)
   | (with_reducible exact spec_CharterOk.mono _ _ _ _)
   | (with_reducible exact spec_DrawStateOk.mono _ _)
   | (with_reducible exact spec_StateOk.mono _ _ _ _ _)
   | (with_reducible exact LeO.refl _)
   | (with_reducible exact LeO.none _)
   | (with_reducible refine LeO.ite ?_ ?_)
   | (with_reducible refine LeO.bind ?_ (fun _ => ?_))
   | exact impl_StateOk.mono _ _ _ _ _
   | exact spec_CharterOk.mono _ _ _ _
   | exact spec_DrawStateOk.mono _ _
   | exact spec_StateOk.mono _ _ _ _ _
   | exact LeO.none _
   | refine LeO.ite ?_ ?_
   | refine LeO.bind ?_ (fun _ => ?_)
def laws_FnStateOk.T9 : Bool × List (List Nat × List Nat) := (true, [([], []), ([], []), ([1], [1]), ([2], [2]), ([3, 3], [3]), ([0, 4], [0, 4]), ([5, 5], [5]), ([6], [6]), ([6], [6]), ([8, 6], [6, 8]), ([9, 6], [6, 9]), ([10, 6], [6, 10]), ([11, 11, 6], [6, 11]), ([7, 12, 6, 6], [6, 7, 12]), ([13, 6], [6, 13]), ([6, 14], [6, 14]), ([15, 13], [15]), ([16, 16], [16]), ([16, 17], [16, 17]), ([18, 17, 0, 1, 2, 3, 4, 5, 6, 7, 8, 9, 10, 11, 12, 13, 14, 15, 16, 17, 18], [18])])
def laws_FnStateOk.B9 : List Nat := [0, 0, 2, 6, 14, 31, 63, 127, 127, 383, 895, 1919, 3967, 8191, 16383, 32767, 65535, 131071, 262143, 524287]
theorem laws_FnStateOk.tab9 : rtab .any (opsOf Try.f4 9) = laws_FnStateOk.T9 := by kernel_rfl
theorem laws_FnStateOk.bits9 : waitsOk laws_FnStateOk.T9.2 laws_FnStateOk.B9 = true := by kernel_rfl
set_option maxHeartbeats 8000000 in
set_option maxRecDepth 100000 in
theorem laws_FnStateOk.calls (k : Nat) (A0 : Option Addr) (c0 : Nat) (l0 : List Int) (r : Bool) (w : World) (hr0 : Kd.C (Kd.int .u8) w A0 l0.length l0) (hc0 : l0.length ≤ c0) (h : laws_FnStateOk.f k l0 = some r) :
  Calls Try.prog 4 #[.slice A0 l0.length c0] w fun e w' => e = .returned (.bool r) ∧ Below w.heap.size w w' := by
 have hu28 := Try.underlying28
 have HR0 := Aside0.mk hr0
 have HC0 := Aside0.mk hc0
 clear hr0 hc0
 have HB := Aside0.mk (Below.refl w.heap.size w)
 have H : (if (l0.length : Int) > 1048576 then (some true) else ((spec_DrawStateOk.f k l0).bind fun bt332 => ((impl_StateOk.f k bt332.1 bt332.2.1 bt332.2.2.1 bt332.2.2.2).bind fun t343 => ((spec_StateOk.f k bt332.1 bt332.2.1 bt332.2.2.1 bt332.2.2.2).bind fun t344 => (if (t343 != t344) = true then (none) else ((spec_CharterOk.f k bt332.1 bt332.2.1 bt332.2.2.1).bind fun t345 => (if t345 = true then (if 0 ≤ (bt332.2.2.1.length : Int) then (if ((bt332.2.2.1.length : Int) : Int).toNat ≤ 35184372088832 then ((impl_StateOk.f k bt332.1 bt332.2.1 bt332.2.2.1 (List.replicate ((bt332.2.2.1.length : Int) : Int).toNat 0)).bind fun t349 => (if t349 = true then (if 0 ≤ (wrap64 ((bt332.2.2.1.length : Int) + 1)) then (if (wrap64 ((bt332.2.2.1.length : Int) + 1) : Int).toNat ≤ 35184372088832 then ((impl_StateOk.f k bt332.1 bt332.2.1 bt332.2.2.1 (List.replicate (wrap64 ((bt332.2.2.1.length : Int) + 1) : Int).toNat 0)).bind fun t353 => (if t353 = true then (none) else ((laws_alive.f).bind fun t354 => (some t354)))) else (none)) else (none)) else (none))) else (none)) else (none)) else (if t343 = true then (none) else ((laws_alive.f).bind fun t355 => (some t355)))))))))) = some r := h
 clear h
 by_cases c2 : (l0.length : Int) > 1048576
 ·rw [if_pos c2] at H
  have c2b0 : decide (1048576 < (l0.length : Int)) = true := decide_eq_true c2
  have c2b1 : decide (1048576 < l0.length) = true := decide_eq_true (by omega)
  clear c2
  obtain rfl := Option.some.inj H
  go_enter Try.func4, Try.ntmps4
  go_wp2
  go_ret
  exact ⟨by first | rfl | (simp [errW_none, errW_some] <;> rfl) | (simp [*, errW_none, errW_some] <;> rfl), by exact bh⟩
 ·rw [if_neg c2] at H
  have c2b0 : decide (1048576 < (l0.length : Int)) = false := decide_eq_false c2
  have c2b1 : decide (1048576 < l0.length) = false := decide_eq_false (by omega)
  clear c2
  replace H := Option.bind_eq_some_iff.mp H
  obtain ⟨⟨t332, t333, t336, t339⟩, A30, H⟩ := H
  replace H : ((impl_StateOk.f k t332 t333 t336 t339).bind fun t343 => ((spec_StateOk.f k t332 t333 t336 t339).bind fun t344 => (if (t343 != t344) = true then (none) else ((spec_CharterOk.f k t332 t333 t336).bind fun t345 => (if t345 = true then (if 0 ≤ (t336.length : Int) then (if ((t336.length : Int) : Int).toNat ≤ 35184372088832 then ((impl_StateOk.f k t332 t333 t336 (List.replicate ((t336.length : Int) : Int).toNat 0)).bind fun t349 => (if t349 = true then (if 0 ≤ (wrap64 ((t336.length : Int) + 1)) then (if (wrap64 ((t336.length : Int) + 1) : Int).toNat ≤ 35184372088832 then ((impl_StateOk.f k t332 t333 t336 (List.replicate (wrap64 ((t336.length : Int) + 1) : Int).toNat 0)).bind fun t353 => (if t353 = true then (none) else ((laws_alive.f).bind fun t354 => (some t354)))) else (none)) else (none)) else (none))) else (none)) else (none)) else (if t343 = true then (none) else ((laws_alive.f).bind fun t355 => (some t355)))))))) = some r := H
  have A3 := Aside0.mk A30
  clear A30
  replace H := Option.bind_eq_some_iff.mp H
  obtain ⟨t343, A40, H⟩ := H
  replace H : ((spec_StateOk.f k t332 t333 t336 t339).bind fun t344 => (if (t343 != t344) = true then (none) else ((spec_CharterOk.f k t332 t333 t336).bind fun t345 => (if t345 = true then (if 0 ≤ (t336.length : Int) then (if ((t336.length : Int) : Int).toNat ≤ 35184372088832 then ((impl_StateOk.f k t332 t333 t336 (List.replicate ((t336.length : Int) : Int).toNat 0)).bind fun t349 => (if t349 = true then (if 0 ≤ (wrap64 ((t336.length : Int) + 1)) then (if (wrap64 ((t336.length : Int) + 1) : Int).toNat ≤ 35184372088832 then ((impl_StateOk.f k t332 t333 t336 (List.replicate (wrap64 ((t336.length : Int) + 1) : Int).toNat 0)).bind fun t353 => (if t353 = true then (none) else ((laws_alive.f).bind fun t354 => (some t354)))) else (none)) else (none)) else (none))) else (none)) else (none)) else (if t343 = true then (none) else ((laws_alive.f).bind fun t355 => (some t355))))))) = some r := H
  have A4 := Aside0.mk A40
  clear A40
  replace H := Option.bind_eq_some_iff.mp H
  obtain ⟨t344, A50, H⟩ := H
  replace H : (if (t343 != t344) = true then (none) else ((spec_CharterOk.f k t332 t333 t336).bind fun t345 => (if t345 = true then (if 0 ≤ (t336.length : Int) then (if ((t336.length : Int) : Int).toNat ≤ 35184372088832 then ((impl_StateOk.f k t332 t333 t336 (List.replicate ((t336.length : Int) : Int).toNat 0)).bind fun t349 => (if t349 = true then (if 0 ≤ (wrap64 ((t336.length : Int) + 1)) then (if (wrap64 ((t336.length : Int) + 1) : Int).toNat ≤ 35184372088832 then ((impl_StateOk.f k t332 t333 t336 (List.replicate (wrap64 ((t336.length : Int) + 1) : Int).toNat 0)).bind fun t353 => (if t353 = true then (none) else ((laws_alive.f).bind fun t354 => (some t354)))) else (none)) else (none)) else (none))) else (none)) else (none)) else (if t343 = true then (none) else ((laws_alive.f).bind fun t355 => (some t355)))))) = some r := H
  have A5 := Aside0.mk A50
  clear A50
  by_cases c6 : (t343 != t344) = true
  ·rw [if_pos c6] at H
   exact absurd H (by simp)
  ·rw [if_neg c6] at H
   have c6b0 : (t343 != t344) = false := by simpa using c6
   (try (have c6b1 : decide (t343 = t344) = true := by simpa using c6))
   (try (have c6b2 : (t343 == t344) = true := by simpa using c6))
   clear c6
   replace H := Option.bind_eq_some_iff.mp H
   obtain ⟨t345, A70, H⟩ := H
   replace H : (if t345 = true then (if 0 ≤ (t336.length : Int) then (if ((t336.length : Int) : Int).toNat ≤ 35184372088832 then ((impl_StateOk.f k t332 t333 t336 (List.replicate ((t336.length : Int) : Int).toNat 0)).bind fun t349 => (if t349 = true then (if 0 ≤ (wrap64 ((t336.length : Int) + 1)) then (if (wrap64 ((t336.length : Int) + 1) : Int).toNat ≤ 35184372088832 then ((impl_StateOk.f k t332 t333 t336 (List.replicate (wrap64 ((t336.length : Int) + 1) : Int).toNat 0)).bind fun t353 => (if t353 = true then (none) else ((laws_alive.f).bind fun t354 => (some t354)))) else (none)) else (none)) else (none))) else (none)) else (none)) else (if t343 = true then (none) else ((laws_alive.f).bind fun t355 => (some t355)))) = some r := H
   have A7 := Aside0.mk A70
   clear A70
   by_cases c8 : t345 = true
   ·subst c8
    have H1 : (if 0 ≤ (t336.length : Int) then (if ((t336.length : Int) : Int).toNat ≤ 35184372088832 then ((impl_StateOk.f k t332 t333 t336 (List.replicate ((t336.length : Int) : Int).toNat 0)).bind fun t349 => (if t349 = true then (if 0 ≤ (wrap64 ((t336.length : Int) + 1)) then (if (wrap64 ((t336.length : Int) + 1) : Int).toNat ≤ 35184372088832 then ((impl_StateOk.f k t332 t333 t336 (List.replicate (wrap64 ((t336.length : Int) + 1) : Int).toNat 0)).bind fun t353 => (if t353 = true then (none) else ((laws_alive.f).bind fun t354 => (some t354)))) else (none)) else (none)) else (none))) else (none)) else (none)) = some r := by rw [if_pos rfl] at H; exact H
    clear H
    have H := H1
    clear H1
    by_cases c9 : 0 ≤ (t336.length : Int)
    ·rw [if_pos c9] at H
     have c9b0 := eq_true c9
     have c9b1 : decide (0 ≤ (t336.length : Int)) = true := decide_eq_true c9
     clear c9
     by_cases c10 : ((t336.length : Int) : Int).toNat ≤ 35184372088832
     ·rw [if_pos c10] at H
      have c10b0 := eq_true c10
      have c10b1 : decide (((t336.length : Int) : Int).toNat ≤ 35184372088832) = true := decide_eq_true c10
      clear c10
      obtain ⟨y346, hy346⟩ : ∃ y_ : List Int, y_ = (List.replicate ((t336.length : Int) : Int).toNat 0) := ⟨_, rfl⟩
      replace H : ((impl_StateOk.f k t332 t333 t336 y346).bind fun t349 => (if t349 = true then (if 0 ≤ (wrap64 ((t336.length : Int) + 1)) then (if (wrap64 ((t336.length : Int) + 1) : Int).toNat ≤ 35184372088832 then ((impl_StateOk.f k t332 t333 t336 (List.replicate (wrap64 ((t336.length : Int) + 1) : Int).toNat 0)).bind fun t353 => (if t353 = true then (none) else ((laws_alive.f).bind fun t354 => (some t354)))) else (none)) else (none)) else (none))) = some r := by first | (rw [hy346]; with_reducible exact H) | (have H2_ := (Option.bind_some _ _).symm.trans H; rw [hy346]; with_reducible exact H2_) | (have H2_ := (Option.bind_some _ _).symm.trans H; with_reducible exact H2_) | with_reducible exact H | (rw [hy346]; exact H) | exact H
      have Ny346 := Aside0.mk hy346
      clear hy346
      replace H := Option.bind_eq_some_iff.mp H
      obtain ⟨t349, A110, H⟩ := H
      replace H : (if t349 = true then (if 0 ≤ (wrap64 ((t336.length : Int) + 1)) then (if (wrap64 ((t336.length : Int) + 1) : Int).toNat ≤ 35184372088832 then ((impl_StateOk.f k t332 t333 t336 (List.replicate (wrap64 ((t336.length : Int) + 1) : Int).toNat 0)).bind fun t353 => (if t353 = true then (none) else ((laws_alive.f).bind fun t354 => (some t354)))) else (none)) else (none)) else (none)) = some r := H
      have A11 := Aside0.mk A110
      clear A110
      by_cases c12 : t349 = true
      ·subst c12
       have H1 : (if 0 ≤ (wrap64 ((t336.length : Int) + 1)) then (if (wrap64 ((t336.length : Int) + 1) : Int).toNat ≤ 35184372088832 then ((impl_StateOk.f k t332 t333 t336 (List.replicate (wrap64 ((t336.length : Int) + 1) : Int).toNat 0)).bind fun t353 => (if t353 = true then (none) else ((laws_alive.f).bind fun t354 => (some t354)))) else (none)) else (none)) = some r := by rw [if_pos rfl] at H; exact H
       clear H
       have H := H1
       clear H1
       obtain ⟨ji13, hji13⟩ : ∃ j_ : Int, (wrap64 ((t336.length : Int) + 1)) = j_ := ⟨_, rfl⟩
       replace H : (if 0 ≤ (ji13) then (if (ji13 : Int).toNat ≤ 35184372088832 then ((impl_StateOk.f k t332 t333 t336 (List.replicate (ji13 : Int).toNat 0)).bind fun t353 => (if t353 = true then (none) else ((laws_alive.f).bind fun t354 => (some t354)))) else (none)) else (none)) = some r := by first | (rw [hji13] at H; exact H) | (simp only [hji13] at H ⊢; exact H)
       (try rw [hji13] at A3)
       (try rw [hji13] at A4)
       (try rw [hji13] at A5)
       (try rw [hji13] at A7)
       (try rw [hji13] at A11)
       have hji13w : (IntKind.i64.wrap ((t336.length : Int) + 1)) = ji13 := (i64_w _).trans hji13
       by_cases c14 : 0 ≤ (ji13)
       ·rw [if_pos c14] at H
        have c14b0 := eq_true c14
        have c14b1 : decide (0 ≤ (ji13)) = true := decide_eq_true c14
        clear c14
        by_cases c15 : (ji13 : Int).toNat ≤ 35184372088832
        ·rw [if_pos c15] at H
         have c15b0 := eq_true c15
         have c15b1 : decide ((ji13 : Int).toNat ≤ 35184372088832) = true := decide_eq_true c15
         clear c15
         obtain ⟨y350, hy350⟩ : ∃ y_ : List Int, y_ = (List.replicate (ji13 : Int).toNat 0) := ⟨_, rfl⟩
         replace H : ((impl_StateOk.f k t332 t333 t336 y350).bind fun t353 => (if t353 = true then (none) else ((laws_alive.f).bind fun t354 => (some t354)))) = some r := by first | (rw [hy350]; with_reducible exact H) | (have H2_ := (Option.bind_some _ _).symm.trans H; rw [hy350]; with_reducible exact H2_) | (have H2_ := (Option.bind_some _ _).symm.trans H; with_reducible exact H2_) | with_reducible exact H | (rw [hy350]; exact H) | exact H
         have Ny350 := Aside0.mk hy350
         clear hy350
         replace H := Option.bind_eq_some_iff.mp H
         obtain ⟨t353, A160, H⟩ := H
         replace H : (if t353 = true then (none) else ((laws_alive.f).bind fun t354 => (some t354))) = some r := H
         have A16 := Aside0.mk A160
         clear A160
         by_cases c17 : t353 = true
         ·subst c17
          have H1 : (none) = some r := by rw [if_pos rfl] at H; exact H
          clear H
          have H := H1
          clear H1
          exact absurd H (by simp)
         ·replace c17 := Bool.eq_false_iff.mpr c17
          subst c17
          have H1 : ((laws_alive.f).bind fun t354 => (some t354)) = some r := by rw [if_neg (show ¬ (false = true) by decide)] at H; exact H
          clear H
          have H := H1
          clear H1
          replace H := Option.bind_eq_some_iff.mp H
          obtain ⟨t354, A180, H⟩ := H
          replace H : (some t354) = some r := H
          have A18 := Aside0.mk A180
          clear A180
          obtain rfl := Option.some.inj H
          go_enter Try.func4, Try.ntmps4
          try go_wp2_with (first | ((with_reducible refine gate_callee (f := 13) rfl ?_); refine goesL_ (some 11) rfl rfl Try.func13 kr rfl #[.slice A0 l0.length c0] rfl lm ?_; (with_reducible refine (spec_DrawStateOk.calls k _ _ l0 t332 t333 t336 t339 _ ?side1 ?side2 A3.out).mono ?_); (case side1 => repeat (first | exact HR0.out | (with_reducible refine Kd.C_alloc ?_ _) | (with_reducible refine Kd.C_drewN ?_ _) | (with_reducible refine Kd.C_drew ?_))); (case side2 => exact HC0.out); rintro e w19 ⟨v334, v337, v340, rfl, ho0, ho1, ho2, hb⟩; refine ⟨_, rfl, ?_⟩; have n0_ := Aside0.mk (Kd.R_lower ho0 (below_size bh)); have n1_ := Aside0.mk (Kd.S_lower ho1 (below_size bh)); have n2_ := Aside0.mk (Kd.R_lower ho2 (below_size bh)); have n3_ := Aside0.mk (below_step bh hb); clear HB; have HO335 := n0_; have HO338 := n1_; have HO341 := n2_; have HB := n3_; clear n0_ n1_ n2_ n3_; (try clear hb); (try clear hb2); (try clear hk); (try clear hi); (try clear ho0); (try clear ho1); (try clear ho2)) | ((with_reducible refine gate_dst (N := 3) rfl ?_); (try (refine gate_guard (by rfl) ?_; dsimp only)); refine box_event ?hg (N := 3) ?hd (cs := #[.int .i64 0, .slice none 0 0, .slice none 0 0]) (t := 28) ?hr ?_; (case hd => rfl); (case hg => rfl); (case hr => first | (go_simp; done) | (go_simp; rfl)); intro gb342 hg w20 hbox hb; have n0_ := Aside0.mk (Kd.R_below (rz HO335) hb); have n1_ := Aside0.mk (Kd.S_below (sz HO338) hb); have n2_ := Aside0.mk (Kd.R_below (rz HO341) hb); have n3_ := Aside0.mk (below_step bh hb); have n4_ := Aside0.mk (hbox); have n5_ := Aside0.mk ((gs (W0 := w) hg bh)); have n6_ := Aside0.mk ((gs (W0 := w) hg bh)); clear HO335 HO338 HO341 HB; have HO335 := n0_; have HO338 := n1_; have HO341 := n2_; have HB := n3_; have BK342 := n4_; have GW342 := n5_; have GE342 := n6_; clear n0_ n1_ n2_ n3_ n4_ n5_ n6_ hb hbox hg; have hcz21_0 := cz0 BK342; have hcz21_1 := cz1 BK342; have hcz21_2 := cz2 BK342; have hfz21_0 := blk_frozen BK342.out 0; have hfz21_1 := blk_frozen BK342.out 1; have hfz21_2 := blk_frozen BK342.out 2; obtain ⟨Ao22, co22, eo22⟩ := Kd.R_slice HO335.out; subst eo22; obtain ⟨Ao23, co23, eo23⟩ := Kd.S_slice HO338.out; subst eo23; obtain ⟨Ao24, co24, eo24⟩ := Kd.R_slice HO341.out; subst eo24) | ((with_reducible refine gate_callee (f := 14) rfl ?_); refine goesL_ (some 16) rfl rfl Try.func14 kr rfl #[.agg #[.int .i64 t332, .slice Ao22 t333.length co22, .slice Ao23 t336.length co23], .slice Ao24 t339.length co24] rfl lm ?_; (with_reducible refine (impl_StateOk.calls k t332 _ _ t333 _ _ t336 _ _ t339 t343 _ ?side1 ?side2 ?side3 ?side4 ?side5 ?side6 A4.out).mono ?_); (case side1 => refine (Kd.R_reads' (e := 3) (base := w.heap.size) (ok := fun k_ => some k_ ≠ (.slice Ao24 t339.length co24 : Value).ownBlock) (n := t333.length) (c := co22) ?_).2.2; exact (fR HO335 BK342)); (case side2 => exact (Kd.R_reads' HO335.out).2.1); (case side3 => refine (Kd.S_reads' (e := 32) (base := w.heap.size) (ok := fun k_ => True) (n := t336.length) (c := co23) ?_).2.2; exact (fS HO338 BK342)); (case side4 => exact (Kd.S_reads' HO338.out).2.1); (case side5 => refine (Kd.R_reads' (e := 3) (base := w.heap.size) (ok := fun k_ => some k_ ≠ (.slice Ao22 t333.length co22 : Value).ownBlock) (n := t339.length) (c := co24) ?_).2.2; exact (fR HO341 BK342)); (case side6 => exact (Kd.R_reads' HO341.out).2.1); rintro e w25 ⟨rfl, hb⟩; refine ⟨_, rfl, ?_⟩; have n0_ := Aside0.mk (Kd.R_below (fR HO335 BK342) hb); have n1_ := Aside0.mk (Kd.S_below (fS HO338 BK342) hb); have n2_ := Aside0.mk (Kd.R_below (fR HO341 BK342) hb); have n3_ := Aside0.mk (blk_below (g := gb342) (o := .cells #[.int .i64 t332, .slice Ao22 t333.length co22, .slice Ao23 t336.length co23] 28 (0, 0)) (bp BK342) hb); have n4_ := Aside0.mk (below_step bh hb); clear HO335 HO338 HO341 BK342 HB; have HO335 := n0_; have HO338 := n1_; have HO341 := n2_; have BK342 := n3_; have HB := n4_; clear n0_ n1_ n2_ n3_ n4_; (try clear hb); (try clear hb2); (try clear hk); (try clear hi); have hcz26_0 := cz0 BK342; have hcz26_1 := cz1 BK342; have hcz26_2 := cz2 BK342; have hfz26_0 := blk_frozen BK342.out 0; have hfz26_1 := blk_frozen BK342.out 1; have hfz26_2 := blk_frozen BK342.out 2) | ((with_reducible refine gate_callee (f := 15) rfl ?_); refine goesL_ (some 20) rfl rfl Try.func15 kr rfl #[.agg #[.int .i64 t332, .slice Ao22 t333.length co22, .slice Ao23 t336.length co23], .slice Ao24 t339.length co24] rfl lm ?_; (with_reducible refine (spec_StateOk.calls k t332 _ _ t333 _ _ t336 _ _ t339 t344 _ ?side1 ?side2 ?side3 ?side4 ?side5 ?side6 A5.out).mono ?_); (case side1 => repeat (first | exact (Kd.R_reads' HO335.out).2.2 | (with_reducible refine Kd.C_alloc ?_ _) | (with_reducible refine Kd.C_drewN ?_ _) | (with_reducible refine Kd.C_drew ?_))); (case side2 => exact (Kd.R_reads' HO335.out).2.1); (case side3 => repeat (first | exact (Kd.S_reads' HO338.out).2.2 | (with_reducible refine Kd.C_alloc ?_ _) | (with_reducible refine Kd.C_drewN ?_ _) | (with_reducible refine Kd.C_drew ?_))); (case side4 => exact (Kd.S_reads' HO338.out).2.1); (case side5 => repeat (first | exact (Kd.R_reads' HO341.out).2.2 | (with_reducible refine Kd.C_alloc ?_ _) | (with_reducible refine Kd.C_drewN ?_ _) | (with_reducible refine Kd.C_drew ?_))); (case side6 => exact (Kd.R_reads' HO341.out).2.1); rintro e w27 ⟨rfl, hb⟩; refine ⟨_, rfl, ?_⟩; have n0_ := Aside0.mk (Kd.R_below (rz HO335) hb); have n1_ := Aside0.mk (Kd.S_below (sz HO338) hb); have n2_ := Aside0.mk (Kd.R_below (rz HO341) hb); have n3_ := Aside0.mk (blk_below (bz BK342) hb); have n4_ := Aside0.mk (below_step bh hb); clear HO335 HO338 HO341 BK342 HB; have HO335 := n0_; have HO338 := n1_; have HO341 := n2_; have BK342 := n3_; have HB := n4_; clear n0_ n1_ n2_ n3_ n4_; (try clear hb); (try clear hb2); (try clear hk); (try clear hi); have hcz28_0 := cz0 BK342; have hcz28_1 := cz1 BK342; have hcz28_2 := cz2 BK342; have hfz28_0 := blk_frozen BK342.out 0; have hfz28_1 := blk_frozen BK342.out 1; have hfz28_2 := blk_frozen BK342.out 2) | ((with_reducible refine gate_callee (f := 11) rfl ?_); refine goesL_ (some 23) rfl rfl Try.func11 kr rfl #[.agg #[.int .i64 t332, .slice Ao22 t333.length co22, .slice Ao23 t336.length co23]] rfl lm ?_; (with_reducible refine (spec_CharterOk.calls k t332 _ _ t333 _ _ t336 true _ ?side1 ?side2 ?side3 ?side4 A7.out).mono ?_); (case side1 => repeat (first | exact (Kd.R_reads' HO335.out).2.2 | (with_reducible refine Kd.C_alloc ?_ _) | (with_reducible refine Kd.C_drewN ?_ _) | (with_reducible refine Kd.C_drew ?_))); (case side2 => exact (Kd.R_reads' HO335.out).2.1); (case side3 => repeat (first | exact (Kd.S_reads' HO338.out).2.2 | (with_reducible refine Kd.C_alloc ?_ _) | (with_reducible refine Kd.C_drewN ?_ _) | (with_reducible refine Kd.C_drew ?_))); (case side4 => exact (Kd.S_reads' HO338.out).2.1); rintro e w29 ⟨rfl, hb⟩; refine ⟨_, rfl, ?_⟩; have n0_ := Aside0.mk (Kd.R_below (rz HO335) hb); have n1_ := Aside0.mk (Kd.S_below (sz HO338) hb); have n2_ := Aside0.mk (Kd.R_below (rz HO341) hb); have n3_ := Aside0.mk (blk_below (bz BK342) hb); have n4_ := Aside0.mk (below_step bh hb); clear HO335 HO338 HO341 BK342 HB; have HO335 := n0_; have HO338 := n1_; have HO341 := n2_; have BK342 := n3_; have HB := n4_; clear n0_ n1_ n2_ n3_ n4_; (try clear hb); (try clear hb2); (try clear hk); (try clear hi)))
          have n0_ := Aside0.mk (Kd.R_drew HO335.out)
          have n1_ := Aside0.mk (Kd.S_drew HO338.out)
          have n2_ := Aside0.mk (Kd.R_drew HO341.out)
          have n3_ := Aside0.mk (blk_drew BK342.out)
          have n4_ := Aside0.mk (below_drew1 HB.out)
          clear HO335 HO338 HO341 BK342 HB
          have HO335 := n0_
          have HO338 := n1_
          have HO341 := n2_
          have BK342 := n3_
          have HB := n4_
          clear n0_ n1_ n2_ n3_ n4_
          refine start_ (n := 20) (S := fun w' => w'.cell? ⟨gb342, 0, none⟩ = some (.int .i64 t332) ∧ w'.cell? ⟨gb342, 1, none⟩ = some (.slice Ao22 t333.length co22) ∧ w'.cell? ⟨gb342, 2, none⟩ = some (.slice Ao23 t336.length co23)) (ds := []) #[F,F,F,F,F,F,F,F,F,F,F,F,F,F,F,F,F,F,F,F] kr rfl rfl ⟨cz0 BK342, cz1 BK342, cz2 BK342⟩ (fun hHeld => ?_); refine with_tabW laws_FnStateOk.tab9 laws_FnStateOk.bits9 (fun HT_ HW_ => ?_)
          generalize w29.drew = w30 at HO335 HO338 HO341 BK342 HB hHeld ⊢
          refine pu 1 (some 31) #[F,T,F,F,F,F,F,F,F,F,F,F,F,F,F,F,F,F,F,F] (any_of HT_.out kr) ?_
          refine tk3 0 (some 30) #[T,T,F,F,F,F,F,F,F,F,F,F,F,F,F,F,F,F,F,F] (take_ofW HT_.out HW_.out kr) ?_
          refine tk3 2 (some 32) #[T,T,T,F,F,F,F,F,F,F,F,F,F,F,F,F,F,F,F,F] (take_ofW HT_.out HW_.out kr) ?_
          refine pu 3 (some 33) #[T,T,T,T,F,F,F,F,F,F,F,F,F,F,F,F,F,F,F,F] (any_of HT_.out kr) ?_
          refine one_ (i := 4) (N := some 34) #[T,T,T,T,T,F,F,F,F,F,F,F,F,F,F,F,F,F,F,F] rfl rfl (one_of HT_.out kr) (by decide) (fun K hK => ?_)
          refine Kd.R_make_step (Kd.int .i64) _ 3 (by rfl) (N := 34) rfl 23 _ _ rfl (t336.length : Int) rfl rfl Try.underlying23 (.int .i64 0) 8 info3 rfl (by decide) (by omega) 0 (ok := fun _ => True) (okp := fun _ => True) rfl (fun _ hk => hk) trivial oda (Nat.le_trans (Nat.mul_le_mul_right _ (oda : (t336.length : Int).toNat ≤ 35184372088832)) (by omega)) (Below.refl _ _) (Nat.le_refl _) ?_
          intro v347 w31 ho32 hb hg_ hnew_
          clear hg_ hnew_
          (first | rw [← Ny346.out] at ho32 | (simp only [Int.reduceToNat] at ho32; rw [← Ny346.out] at ho32))
          have n0_ := Aside0.mk (Kd.R_elder' (rz HO335) (Kd.R_base ho32) hb)
          have n1_ := Aside0.mk (Kd.S_below (sz HO338) hb)
          have n2_ := Aside0.mk (Kd.R_elder' (rz HO341) (Kd.R_base ho32) hb)
          have n3_ := Aside0.mk (Kd.R_lower (Kd.R_new' (Kd.R_new' ho32 (Kd.R_lt (rz HO335))) (Kd.R_lt (rz HO341))) (below_size bh))
          have n4_ := Aside0.mk (blk_below (bz BK342) hb)
          have n5_ := Aside0.mk (below_step bh hb)
          clear HO335 HO338 HO341 BK342 HB
          have HO335 := n0_
          have HO338 := n1_
          have HO341 := n2_
          have HO348 := n3_
          have BK342 := n4_
          have HB := n5_
          clear n0_ n1_ n2_ n3_ n4_ n5_ hb ho32
          obtain ⟨Ao33, co33, eo33⟩ := Kd.R_slice HO348.out
          (first | subst eo33 | (injection eo33 with f1_ f2_ f3_; have f4_ := f1_.symm; have f5_ := f3_.symm; clear f1_ f2_ f3_; subst f4_; subst f5_))
          refine hK.out _ _ ⟨cz0 BK342, cz1 BK342, cz2 BK342⟩ (fun hHeld => ?_)
          clear hK K
          refine norm_ (a' := ?_) ?_ ?_
          rotate_left
          ·show Act.put _ (some 34) _ = _
           simp only [Act.put, List.setIfInBounds_toArray, List.set_cons_zero, List.set_cons_succ, i64_w, i32_w]
           rfl
          refine one_ (i := 5) (N := some 35) #[T,T,T,T,T,T,F,F,F,F,F,F,F,F,F,F,F,F,F,F] rfl rfl (one_of HT_.out kr) (by decide) (fun K hK => ?_)
          refine goes_ Try.func14 kr rfl #[.agg #[.int .i64 t332, .slice Ao22 t333.length co22, .slice Ao23 t336.length co23], .slice Ao33 y346.length co33] (by rfl) rfl rfl lm ?_
          with_reducible refine (impl_StateOk.calls k t332 _ _ t333 _ _ t336 _ _ y346 true _ ?side1 ?side2 ?side3 ?side4 ?side5 ?side6 A11.out).mono ?_
          (case side1 => repeat (first | exact (Kd.R_reads' HO335.out).2.2 | (with_reducible refine Kd.C_alloc ?_ _) | (with_reducible refine Kd.C_drewN ?_ _) | (with_reducible refine Kd.C_drew ?_)))
          (case side2 => exact (Kd.R_reads' HO335.out).2.1)
          (case side3 => repeat (first | exact (Kd.S_reads' HO338.out).2.2 | (with_reducible refine Kd.C_alloc ?_ _) | (with_reducible refine Kd.C_drewN ?_ _) | (with_reducible refine Kd.C_drew ?_)))
          (case side4 => exact (Kd.S_reads' HO338.out).2.1)
          (case side5 => repeat (first | exact (Kd.R_reads' HO348.out).2.2 | (with_reducible refine Kd.C_alloc ?_ _) | (with_reducible refine Kd.C_drewN ?_ _) | (with_reducible refine Kd.C_drew ?_)))
          (case side6 => exact (Kd.R_reads' HO348.out).2.1)
          rintro e w34 ⟨rfl, hb⟩
          refine ⟨_, rfl, ?_⟩
          have n0_ := Aside0.mk (Kd.R_below (rz HO335) hb)
          have n1_ := Aside0.mk (Kd.S_below (sz HO338) hb)
          have n2_ := Aside0.mk (Kd.R_below (rz HO341) hb)
          have n3_ := Aside0.mk (Kd.R_below (rz HO348) hb)
          have n4_ := Aside0.mk (blk_below (bz BK342) hb)
          have n5_ := Aside0.mk (below_step bh hb)
          clear HO335 HO338 HO341 HO348 BK342 HB
          have HO335 := n0_
          have HO338 := n1_
          have HO341 := n2_
          have HO348 := n3_
          have BK342 := n4_
          have HB := n5_
          clear n0_ n1_ n2_ n3_ n4_ n5_
          (try clear hb)
          (try clear hb2)
          (try clear hk)
          (try clear hi)
          refine hK.out _ _ ⟨cz0 BK342, cz1 BK342, cz2 BK342⟩ (fun hHeld => ?_)
          clear hK K
          refine norm_ (a' := ?_) ?_ ?_
          rotate_left
          ·show Act.put _ (some 35) _ = _
           simp only [Act.put, List.setIfInBounds_toArray, List.set_cons_zero, List.set_cons_succ, i64_w, i32_w]
           rfl
          refine pu 6 (some 36) #[T,T,T,T,T,T,T,F,F,F,F,F,F,F,F,F,F,F,F,F] (any_of HT_.out kr) ?_
          refine pu 8 (some 38) #[T,T,T,T,T,T,T,F,T,F,F,F,F,F,F,F,F,F,F,F] (any_of HT_.out kr) ?_
          refine tk3 7 (some 37) #[T,T,T,T,T,T,T,T,T,F,F,F,F,F,F,F,F,F,F,F] (take_ofW HT_.out HW_.out kr) ?_
          refine tk3 9 (some 39) #[T,T,T,T,T,T,T,T,T,T,F,F,F,F,F,F,F,F,F,F] (take_ofW HT_.out HW_.out kr) ?_
          refine pu 10 (some 40) #[T,T,T,T,T,T,T,T,T,T,T,F,F,F,F,F,F,F,F,F] (any_of HT_.out kr) ?_
          refine pu 11 (some 41) #[T,T,T,T,T,T,T,T,T,T,T,T,F,F,F,F,F,F,F,F] (any_of HT_.out kr) ?_
          refine one_ (i := 12) (N := some 42) #[T,T,T,T,T,T,T,T,T,T,T,T,T,F,F,F,F,F,F,F] rfl rfl (one_of HT_.out kr) (by decide) (fun K hK => ?_)
          refine Kd.R_make_step (Kd.int .i64) _ 3 (by rfl) (N := 42) rfl 23 _ _ rfl ji13 rfl rfl Try.underlying23 (.int .i64 0) 8 info3 rfl (by decide) (by omega) 0 (ok := fun _ => True) (okp := fun _ => True) rfl (fun _ hk => hk) trivial oda (Nat.le_trans (Nat.mul_le_mul_right _ (oda : ji13.toNat ≤ 35184372088832)) (by omega)) (Below.refl _ _) (Nat.le_refl _) ?_
          intro v351 w35 ho36 hb hg_ hnew_
          clear hg_ hnew_
          (first | rw [← Ny350.out] at ho36 | (simp only [Int.reduceToNat] at ho36; rw [← Ny350.out] at ho36))
          have n0_ := Aside0.mk (Kd.R_elder' (rz HO335) (Kd.R_base ho36) hb)
          have n1_ := Aside0.mk (Kd.S_below (sz HO338) hb)
          have n2_ := Aside0.mk (Kd.R_elder' (rz HO341) (Kd.R_base ho36) hb)
          have n3_ := Aside0.mk (Kd.R_elder' (rz HO348) (Kd.R_base ho36) hb)
          have n4_ := Aside0.mk (Kd.R_lower (Kd.R_new' (Kd.R_new' (Kd.R_new' ho36 (Kd.R_lt (rz HO335))) (Kd.R_lt (rz HO341))) (Kd.R_lt (rz HO348))) (below_size bh))
          have n5_ := Aside0.mk (blk_below (bz BK342) hb)
          have n6_ := Aside0.mk (below_step bh hb)
          clear HO335 HO338 HO341 HO348 BK342 HB
          have HO335 := n0_
          have HO338 := n1_
          have HO341 := n2_
          have HO348 := n3_
          have HO352 := n4_
          have BK342 := n5_
          have HB := n6_
          clear n0_ n1_ n2_ n3_ n4_ n5_ n6_ hb ho36
          obtain ⟨Ao37, co37, eo37⟩ := Kd.R_slice HO352.out
          (first | subst eo37 | (injection eo37 with f1_ f2_ f3_; have f4_ := f1_.symm; have f5_ := f3_.symm; clear f1_ f2_ f3_; subst f4_; subst f5_))
          refine hK.out _ _ ⟨cz0 BK342, cz1 BK342, cz2 BK342⟩ (fun hHeld => ?_)
          clear hK K
          refine norm_ (a' := ?_) ?_ ?_
          rotate_left
          ·show Act.put _ (some 42) _ = _
           simp only [Act.put, List.setIfInBounds_toArray, List.set_cons_zero, List.set_cons_succ, i64_w, i32_w]
           rfl
          refine one_ (i := 13) (N := some 43) #[T,T,T,T,T,T,T,T,T,T,T,T,T,T,F,F,F,F,F,F] rfl rfl (one_of HT_.out kr) (by decide) (fun K hK => ?_)
          refine goes_ Try.func14 kr rfl #[.agg #[.int .i64 t332, .slice Ao22 t333.length co22, .slice Ao23 t336.length co23], .slice Ao37 y350.length co37] (by rfl) rfl rfl lm ?_
          with_reducible refine (impl_StateOk.calls k t332 _ _ t333 _ _ t336 _ _ y350 false _ ?side1 ?side2 ?side3 ?side4 ?side5 ?side6 A16.out).mono ?_
          (case side1 => repeat (first | exact (Kd.R_reads' HO335.out).2.2 | (with_reducible refine Kd.C_alloc ?_ _) | (with_reducible refine Kd.C_drewN ?_ _) | (with_reducible refine Kd.C_drew ?_)))
          (case side2 => exact (Kd.R_reads' HO335.out).2.1)
          (case side3 => repeat (first | exact (Kd.S_reads' HO338.out).2.2 | (with_reducible refine Kd.C_alloc ?_ _) | (with_reducible refine Kd.C_drewN ?_ _) | (with_reducible refine Kd.C_drew ?_)))
          (case side4 => exact (Kd.S_reads' HO338.out).2.1)
          (case side5 => repeat (first | exact (Kd.R_reads' HO352.out).2.2 | (with_reducible refine Kd.C_alloc ?_ _) | (with_reducible refine Kd.C_drewN ?_ _) | (with_reducible refine Kd.C_drew ?_)))
          (case side6 => exact (Kd.R_reads' HO352.out).2.1)
          rintro e w38 ⟨rfl, hb⟩
          refine ⟨_, rfl, ?_⟩
          have n0_ := Aside0.mk (Kd.R_below (rz HO335) hb)
          have n1_ := Aside0.mk (Kd.S_below (sz HO338) hb)
          have n2_ := Aside0.mk (Kd.R_below (rz HO341) hb)
          have n3_ := Aside0.mk (Kd.R_below (rz HO348) hb)
          have n4_ := Aside0.mk (Kd.R_below (rz HO352) hb)
          have n5_ := Aside0.mk (blk_below (bz BK342) hb)
          have n6_ := Aside0.mk (below_step bh hb)
          clear HO335 HO338 HO341 HO348 HO352 BK342 HB
          have HO335 := n0_
          have HO338 := n1_
          have HO341 := n2_
          have HO348 := n3_
          have HO352 := n4_
          have BK342 := n5_
          have HB := n6_
          clear n0_ n1_ n2_ n3_ n4_ n5_ n6_
          (try clear hb)
          (try clear hb2)
          (try clear hk)
          (try clear hi)
          refine hK.out _ _ ⟨cz0 BK342, cz1 BK342, cz2 BK342⟩ (fun hHeld => ?_)
          clear hK K
          refine norm_ (a' := ?_) ?_ ?_
          rotate_left
          ·show Act.put _ (some 43) _ = _
           simp only [Act.put, List.setIfInBounds_toArray, List.set_cons_zero, List.set_cons_succ, i64_w, i32_w]
           rfl
          refine pu 14 (some 44) #[T,T,T,T,T,T,T,T,T,T,T,T,T,T,T,F,F,F,F,F] (any_of HT_.out kr) ?_
          refine pu 15 (some 45) #[T,T,T,T,T,T,T,T,T,T,T,T,T,T,T,T,F,F,F,F] (any_of HT_.out kr) ?_
          refine pu 16 (some 46) #[T,T,T,T,T,T,T,T,T,T,T,T,T,T,T,T,T,F,F,F] (any_of HT_.out kr) ?_
          refine one_ (i := 17) (N := some 47) #[T,T,T,T,T,T,T,T,T,T,T,T,T,T,T,T,T,T,F,F] rfl rfl (one_of HT_.out kr) (by decide) (fun K hK => ?_)
          refine goes_ Try.func12 kr rfl #[] (by rfl) rfl rfl lm ?_
          with_reducible refine (laws_alive.calls  t354 _ A18.out).mono ?_
          rintro e w' ⟨rfl, ⟨nd, rfl⟩⟩
          refine ⟨_, rfl, ?_⟩
          refine hK.out _ _ ⟨cz0 BK342, cz1 BK342, cz2 BK342⟩ (fun hHeld => ?_)
          clear hK K
          refine norm_ (a' := ?_) ?_ ?_
          rotate_left
          ·show Act.put _ (some 47) _ = _
           simp only [Act.put, List.setIfInBounds_toArray, List.set_cons_zero, List.set_cons_succ, i64_w, i32_w]
           rfl
          refine pu 18 (some 48) #[T,T,T,T,T,T,T,T,T,T,T,T,T,T,T,T,T,T,T,F] (any_of HT_.out kr) ?_
          refine pu 19 (some 2) #[T,T,T,T,T,T,T,T,T,T,T,T,T,T,T,T,T,T,T,T] (any_of HT_.out kr) ?_
          refine done_ (done_of HT_.out kr) ?_
          try go_wp2
          go_ret
          exact ⟨by first | rfl | (simp [errW_none, errW_some] <;> rfl) | (simp only [← hji13]; first | rfl | (simp [errW_none, errW_some] <;> rfl)) | (simp [*, errW_none, errW_some] <;> rfl), by exact bh⟩
        ·rw [if_neg c15] at H
         exact absurd H (by simp)
       ·rw [if_neg c14] at H
        exact absurd H (by simp)
      ·replace c12 := Bool.eq_false_iff.mpr c12
       subst c12
       have H1 : (none) = some r := by rw [if_neg (show ¬ (false = true) by decide)] at H; exact H
       clear H
       have H := H1
       clear H1
       exact absurd H (by simp)
     ·rw [if_neg c10] at H
      exact absurd H (by simp)
    ·rw [if_neg c9] at H
     exact absurd H (by simp)
   ·replace c8 := Bool.eq_false_iff.mpr c8
    subst c8
    have H1 : (if t343 = true then (none) else ((laws_alive.f).bind fun t355 => (some t355))) = some r := by rw [if_neg (show ¬ (false = true) by decide)] at H; exact H
    clear H
    have H := H1
    clear H1
    by_cases c39 : t343 = true
    ·subst c39
     have H1 : (none) = some r := by rw [if_pos rfl] at H; exact H
     clear H
     have H := H1
     clear H1
     exact absurd H (by simp)
    ·replace c39 := Bool.eq_false_iff.mpr c39
     subst c39
     have H1 : ((laws_alive.f).bind fun t355 => (some t355)) = some r := by rw [if_neg (show ¬ (false = true) by decide)] at H; exact H
     clear H
     have H := H1
     clear H1
     replace H := Option.bind_eq_some_iff.mp H
     obtain ⟨t355, A400, H⟩ := H
     replace H : (some t355) = some r := H
     have A40 := Aside0.mk A400
     clear A400
     obtain rfl := Option.some.inj H
     go_enter Try.func4, Try.ntmps4
     go_wp2_with (first | ((with_reducible refine gate_callee (f := 13) rfl ?_); refine goesL_ (some 11) rfl rfl Try.func13 kr rfl #[.slice A0 l0.length c0] rfl lm ?_; (with_reducible refine (spec_DrawStateOk.calls k _ _ l0 t332 t333 t336 t339 _ ?side1 ?side2 A3.out).mono ?_); (case side1 => repeat (first | exact HR0.out | (with_reducible refine Kd.C_alloc ?_ _) | (with_reducible refine Kd.C_drewN ?_ _) | (with_reducible refine Kd.C_drew ?_))); (case side2 => exact HC0.out); rintro e w41 ⟨v334, v337, v340, rfl, ho0, ho1, ho2, hb⟩; refine ⟨_, rfl, ?_⟩; have n0_ := Aside0.mk (Kd.R_lower ho0 (below_size bh)); have n1_ := Aside0.mk (Kd.S_lower ho1 (below_size bh)); have n2_ := Aside0.mk (Kd.R_lower ho2 (below_size bh)); have n3_ := Aside0.mk (below_step bh hb); clear HB; have HO335 := n0_; have HO338 := n1_; have HO341 := n2_; have HB := n3_; clear n0_ n1_ n2_ n3_; (try clear hb); (try clear hb2); (try clear hk); (try clear hi); (try clear ho0); (try clear ho1); (try clear ho2)) | ((with_reducible refine gate_dst (N := 3) rfl ?_); (try (refine gate_guard (by rfl) ?_; dsimp only)); refine box_event ?hg (N := 3) ?hd (cs := #[.int .i64 0, .slice none 0 0, .slice none 0 0]) (t := 28) ?hr ?_; (case hd => rfl); (case hg => rfl); (case hr => first | (go_simp; done) | (go_simp; rfl)); intro gb342 hg w42 hbox hb; have n0_ := Aside0.mk (Kd.R_below (rz HO335) hb); have n1_ := Aside0.mk (Kd.S_below (sz HO338) hb); have n2_ := Aside0.mk (Kd.R_below (rz HO341) hb); have n3_ := Aside0.mk (below_step bh hb); have n4_ := Aside0.mk (hbox); have n5_ := Aside0.mk ((gs (W0 := w) hg bh)); have n6_ := Aside0.mk ((gs (W0 := w) hg bh)); clear HO335 HO338 HO341 HB; have HO335 := n0_; have HO338 := n1_; have HO341 := n2_; have HB := n3_; have BK342 := n4_; have GW342 := n5_; have GE342 := n6_; clear n0_ n1_ n2_ n3_ n4_ n5_ n6_ hb hbox hg; have hcz43_0 := cz0 BK342; have hcz43_1 := cz1 BK342; have hcz43_2 := cz2 BK342; have hfz43_0 := blk_frozen BK342.out 0; have hfz43_1 := blk_frozen BK342.out 1; have hfz43_2 := blk_frozen BK342.out 2; obtain ⟨Ao44, co44, eo44⟩ := Kd.R_slice HO335.out; subst eo44; obtain ⟨Ao45, co45, eo45⟩ := Kd.S_slice HO338.out; subst eo45; obtain ⟨Ao46, co46, eo46⟩ := Kd.R_slice HO341.out; subst eo46) | ((with_reducible refine gate_callee (f := 14) rfl ?_); refine goesL_ (some 16) rfl rfl Try.func14 kr rfl #[.agg #[.int .i64 t332, .slice Ao44 t333.length co44, .slice Ao45 t336.length co45], .slice Ao46 t339.length co46] rfl lm ?_; (with_reducible refine (impl_StateOk.calls k t332 _ _ t333 _ _ t336 _ _ t339 false _ ?side1 ?side2 ?side3 ?side4 ?side5 ?side6 A4.out).mono ?_); (case side1 => refine (Kd.R_reads' (e := 3) (base := w.heap.size) (ok := fun k_ => some k_ ≠ (.slice Ao46 t339.length co46 : Value).ownBlock) (n := t333.length) (c := co44) ?_).2.2; exact (fR HO335 BK342)); (case side2 => exact (Kd.R_reads' HO335.out).2.1); (case side3 => refine (Kd.S_reads' (e := 32) (base := w.heap.size) (ok := fun k_ => True) (n := t336.length) (c := co45) ?_).2.2; exact (fS HO338 BK342)); (case side4 => exact (Kd.S_reads' HO338.out).2.1); (case side5 => refine (Kd.R_reads' (e := 3) (base := w.heap.size) (ok := fun k_ => some k_ ≠ (.slice Ao44 t333.length co44 : Value).ownBlock) (n := t339.length) (c := co46) ?_).2.2; exact (fR HO341 BK342)); (case side6 => exact (Kd.R_reads' HO341.out).2.1); rintro e w47 ⟨rfl, hb⟩; refine ⟨_, rfl, ?_⟩; have n0_ := Aside0.mk (Kd.R_below (fR HO335 BK342) hb); have n1_ := Aside0.mk (Kd.S_below (fS HO338 BK342) hb); have n2_ := Aside0.mk (Kd.R_below (fR HO341 BK342) hb); have n3_ := Aside0.mk (blk_below (g := gb342) (o := .cells #[.int .i64 t332, .slice Ao44 t333.length co44, .slice Ao45 t336.length co45] 28 (0, 0)) (bp BK342) hb); have n4_ := Aside0.mk (below_step bh hb); clear HO335 HO338 HO341 BK342 HB; have HO335 := n0_; have HO338 := n1_; have HO341 := n2_; have BK342 := n3_; have HB := n4_; clear n0_ n1_ n2_ n3_ n4_; (try clear hb); (try clear hb2); (try clear hk); (try clear hi); have hcz48_0 := cz0 BK342; have hcz48_1 := cz1 BK342; have hcz48_2 := cz2 BK342; have hfz48_0 := blk_frozen BK342.out 0; have hfz48_1 := blk_frozen BK342.out 1; have hfz48_2 := blk_frozen BK342.out 2) | ((with_reducible refine gate_callee (f := 15) rfl ?_); refine goesL_ (some 20) rfl rfl Try.func15 kr rfl #[.agg #[.int .i64 t332, .slice Ao44 t333.length co44, .slice Ao45 t336.length co45], .slice Ao46 t339.length co46] rfl lm ?_; (with_reducible refine (spec_StateOk.calls k t332 _ _ t333 _ _ t336 _ _ t339 t344 _ ?side1 ?side2 ?side3 ?side4 ?side5 ?side6 A5.out).mono ?_); (case side1 => repeat (first | exact (Kd.R_reads' HO335.out).2.2 | (with_reducible refine Kd.C_alloc ?_ _) | (with_reducible refine Kd.C_drewN ?_ _) | (with_reducible refine Kd.C_drew ?_))); (case side2 => exact (Kd.R_reads' HO335.out).2.1); (case side3 => repeat (first | exact (Kd.S_reads' HO338.out).2.2 | (with_reducible refine Kd.C_alloc ?_ _) | (with_reducible refine Kd.C_drewN ?_ _) | (with_reducible refine Kd.C_drew ?_))); (case side4 => exact (Kd.S_reads' HO338.out).2.1); (case side5 => repeat (first | exact (Kd.R_reads' HO341.out).2.2 | (with_reducible refine Kd.C_alloc ?_ _) | (with_reducible refine Kd.C_drewN ?_ _) | (with_reducible refine Kd.C_drew ?_))); (case side6 => exact (Kd.R_reads' HO341.out).2.1); rintro e w49 ⟨rfl, hb⟩; refine ⟨_, rfl, ?_⟩; have n0_ := Aside0.mk (Kd.R_below (rz HO335) hb); have n1_ := Aside0.mk (Kd.S_below (sz HO338) hb); have n2_ := Aside0.mk (Kd.R_below (rz HO341) hb); have n3_ := Aside0.mk (blk_below (bz BK342) hb); have n4_ := Aside0.mk (below_step bh hb); clear HO335 HO338 HO341 BK342 HB; have HO335 := n0_; have HO338 := n1_; have HO341 := n2_; have BK342 := n3_; have HB := n4_; clear n0_ n1_ n2_ n3_ n4_; (try clear hb); (try clear hb2); (try clear hk); (try clear hi); have hcz50_0 := cz0 BK342; have hcz50_1 := cz1 BK342; have hcz50_2 := cz2 BK342; have hfz50_0 := blk_frozen BK342.out 0; have hfz50_1 := blk_frozen BK342.out 1; have hfz50_2 := blk_frozen BK342.out 2) | ((with_reducible refine gate_callee (f := 11) rfl ?_); refine goesL_ (some 23) rfl rfl Try.func11 kr rfl #[.agg #[.int .i64 t332, .slice Ao44 t333.length co44, .slice Ao45 t336.length co45]] rfl lm ?_; (with_reducible refine (spec_CharterOk.calls k t332 _ _ t333 _ _ t336 false _ ?side1 ?side2 ?side3 ?side4 A7.out).mono ?_); (case side1 => repeat (first | exact (Kd.R_reads' HO335.out).2.2 | (with_reducible refine Kd.C_alloc ?_ _) | (with_reducible refine Kd.C_drewN ?_ _) | (with_reducible refine Kd.C_drew ?_))); (case side2 => exact (Kd.R_reads' HO335.out).2.1); (case side3 => repeat (first | exact (Kd.S_reads' HO338.out).2.2 | (with_reducible refine Kd.C_alloc ?_ _) | (with_reducible refine Kd.C_drewN ?_ _) | (with_reducible refine Kd.C_drew ?_))); (case side4 => exact (Kd.S_reads' HO338.out).2.1); rintro e w51 ⟨rfl, hb⟩; refine ⟨_, rfl, ?_⟩; have n0_ := Aside0.mk (Kd.R_below (rz HO335) hb); have n1_ := Aside0.mk (Kd.S_below (sz HO338) hb); have n2_ := Aside0.mk (Kd.R_below (rz HO341) hb); have n3_ := Aside0.mk (blk_below (bz BK342) hb); have n4_ := Aside0.mk (below_step bh hb); clear HO335 HO338 HO341 BK342 HB; have HO335 := n0_; have HO338 := n1_; have HO341 := n2_; have BK342 := n3_; have HB := n4_; clear n0_ n1_ n2_ n3_ n4_; (try clear hb); (try clear hb2); (try clear hk); (try clear hi)) | (go_at_call 12; (with_reducible refine (laws_alive.calls  t355 _ A40.out).mono ?_); rintro e w' ⟨rfl, ⟨nd, rfl⟩⟩))
     go_ret
     exact ⟨by first | rfl | (simp [errW_none, errW_some] <;> rfl) | (simp [*, errW_none, errW_some] <;> rfl), by exact bh⟩

/-- THE ONE PURE STATEMENT of laws_FnStateOk: yours. -/
def laws_FnStateOk.Pure : Prop := ∀ (l0 : List Int), l0.length ≤ maxLen → l0.length * 1 ≤ 140737488351232 → (∀ x ∈ l0, (Lit.int .u8 x).wf = true) → ∃ k, laws_FnStateOk.f k l0 = some true
theorem laws_FnStateOk.walk (P : laws_FnStateOk.Pure) (a0 : Option Addr) (len0 cap0 : Nat) (z0 : List Int) (w : World) (w0 : (a0 = none ∧ len0 = 0 ∧ cap0 = 0 ∧ z0 = []) ∨ ∃ x, a0 = some x ∧ len0 ≤ cap0 ∧ cap0 ≤ maxLen ∧ z0.length = cap0 ∧ (∀ i, i < z0.length → w.cell? (x.add i) = some (.int .u8 (z0.getD i 0))) ∧ ∀ n ∈ z0, (Lit.int .u8 n).wf = true) (y0 : len0 * 1 ≤ 140737488351232) :
  Calls Try.prog 4 #[.slice a0 len0 cap0] w fun e w' => e = .returned (.bool true) ∧ Below w.heap.size w w' := by
 obtain ⟨l0, rfl, hr0, hm0, hw0, hc0⟩ := ReadsInt.ofRowC w0
 obtain ⟨k, h⟩ := P l0 hm0 y0 hw0
 refine (laws_FnStateOk.calls k _ _ l0 true w (Kd.C_of_reads (d := (0 : Int)) (h1 := fun _ => rfl) hr0) hc0 h).mono ?_
 rintro e w' ⟨rfl, hd⟩
 exact ⟨rfl, hd⟩

end Go.Proofs.Ytmbphgdfadoknaa.QFnStateOk
