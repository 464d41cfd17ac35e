-- Printed for this claim by a turned copy of the print (wip/myprint). Lean checks it. Squeezed. Worded. Tightened.
import Derived.Test.YtnandbgcejkonaaQFnIdleLawsx0
import Derived.Test.YtnandbgcejkonaaQFnIdleLawsx5
namespace Go.Proofs.Ytnandbgcejkonaa.QFnIdleLaws
open Go.RowKit Go.Proofs.YtnandbgcejkonaaW.PrintWords Go.Proofs.YtnandbgcejkonaaW.PrintLast Go.Proofs.YtnandbgcejkonaaW.PrintMore
attribute [local go_sem] max2_int min2_int max_two min_two max_three min_three max_four min_four Opens.cell_twice   -- for this text's walks alone
set_option linter.unusedVariables false
set_option linter.unusedSimpArgs false

/-! ### spec_WithoutLaw: function 8 -/
def spec_WithoutLaw.f (k : Nat) (l0 : List (S46)) (a1 : Int) : Option ((List (S46)) × Bool) := (spec_BookOk.f k l0).bind fun t190 => (if t190 = true then ((spec_l1In.f a1 0 (wrap64 ((l0.length : Int) - 1))).bind fun t191 => (if t191 = true then ((some (([] : List (S46)) : List (S46))).bind fun y192 => (if 0 ≤ a1 then (if a1 ≤ (l0.length : Int) then ((some (l0.take (a1 : Int).toNat : List (S46))).bind fun y195 => (if y192.length + y195.length < 3518437208883 then ((some (y192 ++ y195 : List (S46))).bind fun y199 => (if 0 ≤ (wrap64 (a1 + 1)) then (if (wrap64 (a1 + 1)) ≤ (l0.length : Int) then ((some (l0.drop ((wrap64 (a1 + 1)) : Int).toNat : List (S46))).bind fun y202 => (if y199.length + y202.length < 3518437208883 then (some ((y199 ++ y202), true)) else (none))) else (none)) else (none))) else (none))) else (none)) else (none))) else (some ((([] : List (S46))), false)))) else (some ((([] : List (S46))), false)))
theorem spec_WithoutLaw.mono : ∀ a0 a1 k, LeO (spec_WithoutLaw.f k a0 a1) (spec_WithoutLaw.f (k + 1) a0 a1) := by
 intro a0 a1 k
 unfold spec_WithoutLaw.f
 repeat' first
   | (with_reducible exact spec_BookOk.mono _ _)
   | (with_reducible exact LeO.refl _)
   | (with_reducible exact LeO.none _)
   | (with_reducible refine LeO.ite ?_ ?_)
   | (with_reducible refine LeO.bind ?_ (fun _ => ?_))
   | exact spec_BookOk.mono _ _
   | exact LeO.none _
   | refine LeO.ite ?_ ?_
   | refine LeO.bind ?_ (fun _ => ?_)
def spec_WithoutLaw.T3 : Bool × List (List Nat × List Nat) := (true, [([], []), ([], []), ([], []), ([1, 2], [1, 2]), ([0, 3], [0, 3]), ([], []), ([], []), ([6], [6]), ([5, 7], [5, 7]), ([4, 8, 4], [4, 8]), ([9, 9, 0, 1, 2, 3, 4, 5, 6, 7, 8, 9], [9]), ([10, 0, 1, 2, 3, 4, 5, 6, 7, 8, 9, 10], [])])
def spec_WithoutLaw.B3 : List Nat := [0, 0, 0, 6, 15, 0, 0, 64, 224, 511, 1023, 2047]
theorem spec_WithoutLaw.tab3 : rtab .any (opsOf Try.f8 3) = spec_WithoutLaw.T3 := by kernel_rfl
theorem spec_WithoutLaw.bits3 : waitsOk spec_WithoutLaw.T3.2 spec_WithoutLaw.B3 = true := by kernel_rfl
set_option maxHeartbeats 8000000 in
set_option maxRecDepth 100000 in
theorem spec_WithoutLaw.calls (k : Nat) (A0 : Option Addr) (c0 : Nat) (l0 : List (S46)) (a1 : Int) (r1 : List (S46)) (r2 : Bool) (w : World) (hr0 : Kd.C k46 w A0 l0.length l0) (hc0 : l0.length ≤ c0) (h : spec_WithoutLaw.f k l0 a1 = some (r1, r2)) :
  Calls Try.prog 8 #[.slice A0 l0.length c0, .int .i64 a1] w fun e w' => ∃ v0_ : Value, e = .returned (.tuple #[v0_, .bool r2]) ∧ Kd.R k46 46 w' w.heap.size (fun _ => True) v0_ r1 ∧ Below w.heap.size w w' := by
 have HR0 := Aside0.mk hr0
 have HC0 := Aside0.mk hc0
 clear hr0 hc0
 have HB := Aside0.mk (Below.refl w.heap.size w)
 have H : ((spec_BookOk.f k l0).bind fun t190 => (if t190 = true then ((spec_l1In.f a1 0 (wrap64 ((l0.length : Int) - 1))).bind fun t191 => (if t191 = true then ((some (([] : List (S46)) : List (S46))).bind fun y192 => (if 0 ≤ a1 then (if a1 ≤ (l0.length : Int) then ((some (l0.take (a1 : Int).toNat : List (S46))).bind fun y195 => (if y192.length + y195.length < 3518437208883 then ((some (y192 ++ y195 : List (S46))).bind fun y199 => (if 0 ≤ (wrap64 (a1 + 1)) then (if (wrap64 (a1 + 1)) ≤ (l0.length : Int) then ((some (l0.drop ((wrap64 (a1 + 1)) : Int).toNat : List (S46))).bind fun y202 => (if y199.length + y202.length < 3518437208883 then (some ((y199 ++ y202), true)) else (none))) else (none)) else (none))) else (none))) else (none)) else (none))) else (some ((([] : List (S46))), false)))) else (some ((([] : List (S46))), false)))) = some (r1, r2) := h
 clear h
 replace H := Option.bind_eq_some_iff.mp H
 obtain ⟨t190, A30, H⟩ := H
 replace H : (if t190 = true then ((spec_l1In.f a1 0 (wrap64 ((l0.length : Int) - 1))).bind fun t191 => (if t191 = true then ((some (([] : List (S46)) : List (S46))).bind fun y192 => (if 0 ≤ a1 then (if a1 ≤ (l0.length : Int) then ((some (l0.take (a1 : Int).toNat : List (S46))).bind fun y195 => (if y192.length + y195.length < 3518437208883 then ((some (y192 ++ y195 : List (S46))).bind fun y199 => (if 0 ≤ (wrap64 (a1 + 1)) then (if (wrap64 (a1 + 1)) ≤ (l0.length : Int) then ((some (l0.drop ((wrap64 (a1 + 1)) : Int).toNat : List (S46))).bind fun y202 => (if y199.length + y202.length < 3518437208883 then (some ((y199 ++ y202), true)) else (none))) else (none)) else (none))) else (none))) else (none)) else (none))) else (some ((([] : List (S46))), false)))) else (some ((([] : List (S46))), false))) = some (r1, r2) := H
 have A3 := Aside0.mk A30
 clear A30
 by_cases c4 : t190 = true
 ·subst c4
  have H1 : ((spec_l1In.f a1 0 (wrap64 ((l0.length : Int) - 1))).bind fun t191 => (if t191 = true then ((some (([] : List (S46)) : List (S46))).bind fun y192 => (if 0 ≤ a1 then (if a1 ≤ (l0.length : Int) then ((some (l0.take (a1 : Int).toNat : List (S46))).bind fun y195 => (if y192.length + y195.length < 3518437208883 then ((some (y192 ++ y195 : List (S46))).bind fun y199 => (if 0 ≤ (wrap64 (a1 + 1)) then (if (wrap64 (a1 + 1)) ≤ (l0.length : Int) then ((some (l0.drop ((wrap64 (a1 + 1)) : Int).toNat : List (S46))).bind fun y202 => (if y199.length + y202.length < 3518437208883 then (some ((y199 ++ y202), true)) else (none))) else (none)) else (none))) else (none))) else (none)) else (none))) else (some ((([] : List (S46))), false)))) = some (r1, r2) := by rw [if_pos rfl] at H; exact H
  clear H
  have H := H1
  clear H1
  replace H := Option.bind_eq_some_iff.mp H
  obtain ⟨t191, A50, H⟩ := H
  replace H : (if t191 = true then ((some (([] : List (S46)) : List (S46))).bind fun y192 => (if 0 ≤ a1 then (if a1 ≤ (l0.length : Int) then ((some (l0.take (a1 : Int).toNat : List (S46))).bind fun y195 => (if y192.length + y195.length < 3518437208883 then ((some (y192 ++ y195 : List (S46))).bind fun y199 => (if 0 ≤ (wrap64 (a1 + 1)) then (if (wrap64 (a1 + 1)) ≤ (l0.length : Int) then ((some (l0.drop ((wrap64 (a1 + 1)) : Int).toNat : List (S46))).bind fun y202 => (if y199.length + y202.length < 3518437208883 then (some ((y199 ++ y202), true)) else (none))) else (none)) else (none))) else (none))) else (none)) else (none))) else (some ((([] : List (S46))), false))) = some (r1, r2) := H
  have A5 := Aside0.mk A50
  clear A50
  by_cases c6 : t191 = true
  ·subst c6
   have H1 : ((some (([] : List (S46)) : List (S46))).bind fun y192 => (if 0 ≤ a1 then (if a1 ≤ (l0.length : Int) then ((some (l0.take (a1 : Int).toNat : List (S46))).bind fun y195 => (if y192.length + y195.length < 3518437208883 then ((some (y192 ++ y195 : List (S46))).bind fun y199 => (if 0 ≤ (wrap64 (a1 + 1)) then (if (wrap64 (a1 + 1)) ≤ (l0.length : Int) then ((some (l0.drop ((wrap64 (a1 + 1)) : Int).toNat : List (S46))).bind fun y202 => (if y199.length + y202.length < 3518437208883 then (some ((y199 ++ y202), true)) else (none))) else (none)) else (none))) else (none))) else (none)) else (none))) = some (r1, r2) := by rw [if_pos rfl] at H; exact H
   clear H
   have H := H1
   clear H1
   obtain ⟨y192, hy192⟩ : ∃ y_ : List (S46), y_ = (([] : List (S46))) := ⟨_, rfl⟩
   replace H : (if 0 ≤ a1 then (if a1 ≤ (l0.length : Int) then ((some (l0.take (a1 : Int).toNat : List (S46))).bind fun y195 => (if y192.length + y195.length < 3518437208883 then ((some (y192 ++ y195 : List (S46))).bind fun y199 => (if 0 ≤ (wrap64 (a1 + 1)) then (if (wrap64 (a1 + 1)) ≤ (l0.length : Int) then ((some (l0.drop ((wrap64 (a1 + 1)) : Int).toNat : List (S46))).bind fun y202 => (if y199.length + y202.length < 3518437208883 then (some ((y199 ++ y202), true)) else (none))) else (none)) else (none))) else (none))) else (none)) else (none)) = some (r1, r2) := by first | (rw [hy192]; with_reducible exact H) | (have H2_ := (Option.bind_some _ _).symm.trans H; rw [hy192]; with_reducible exact H2_) | (have H2_ := (Option.bind_some _ _).symm.trans H; with_reducible exact H2_) | with_reducible exact H | (rw [hy192]; exact H) | exact H
   have Ny192 := Aside0.mk hy192
   clear hy192
   by_cases c7 : 0 ≤ a1
   ·rw [if_pos c7] at H
    have c7b0 := eq_true c7
    have c7b1 : decide (0 ≤ a1) = true := decide_eq_true c7
    clear c7
    by_cases c8 : a1 ≤ (l0.length : Int)
    ·rw [if_pos c8] at H
     have c8b0 := eq_true c8
     have c8b1 : decide (a1 ≤ (l0.length : Int)) = true := decide_eq_true c8
     clear c8
     obtain ⟨y195, hy195⟩ : ∃ y_ : List (S46), y_ = (l0.take (a1 : Int).toNat) := ⟨_, rfl⟩
     replace H : (if y192.length + y195.length < 3518437208883 then ((some (y192 ++ y195 : List (S46))).bind fun y199 => (if 0 ≤ (wrap64 (a1 + 1)) then (if (wrap64 (a1 + 1)) ≤ (l0.length : Int) then ((some (l0.drop ((wrap64 (a1 + 1)) : Int).toNat : List (S46))).bind fun y202 => (if y199.length + y202.length < 3518437208883 then (some ((y199 ++ y202), true)) else (none))) else (none)) else (none))) else (none)) = some (r1, r2) := by first | (rw [hy195]; with_reducible exact H) | (have H2_ := (Option.bind_some _ _).symm.trans H; rw [hy195]; with_reducible exact H2_) | (have H2_ := (Option.bind_some _ _).symm.trans H; with_reducible exact H2_) | with_reducible exact H | (rw [hy195]; exact H) | exact H
     have Ny195 := Aside0.mk hy195
     clear hy195
     by_cases c9 : y192.length + y195.length < 3518437208883
     ·rw [if_pos c9] at H
      have LMc9 := Aside0.mk c9
      clear c9
      obtain ⟨y199, hy199⟩ : ∃ y_ : List (S46), y_ = (y192 ++ y195) := ⟨_, rfl⟩
      replace H : (if 0 ≤ (wrap64 (a1 + 1)) then (if (wrap64 (a1 + 1)) ≤ (l0.length : Int) then ((some (l0.drop ((wrap64 (a1 + 1)) : Int).toNat : List (S46))).bind fun y202 => (if y199.length + y202.length < 3518437208883 then (some ((y199 ++ y202), true)) else (none))) else (none)) else (none)) = some (r1, r2) := by first | (rw [hy199]; with_reducible exact H) | (have H2_ := (Option.bind_some _ _).symm.trans H; rw [hy199]; with_reducible exact H2_) | (have H2_ := (Option.bind_some _ _).symm.trans H; with_reducible exact H2_) | with_reducible exact H | (rw [hy199]; exact H) | exact H
      have Ny199 := Aside0.mk hy199
      clear hy199
      obtain ⟨ji10, hji10⟩ : ∃ j_ : Int, (wrap64 (a1 + 1)) = j_ := ⟨_, rfl⟩
      replace H : (if 0 ≤ (ji10) then (if (ji10) ≤ (l0.length : Int) then ((some (l0.drop ((ji10) : Int).toNat : List (S46))).bind fun y202 => (if y199.length + y202.length < 3518437208883 then (some ((y199 ++ y202), true)) else (none))) else (none)) else (none)) = some (r1, r2) := by first | (rw [hji10] at H; exact H) | (simp only [hji10] at H ⊢; exact H)
      (try rw [hji10] at A3)
      (try rw [hji10] at A5)
      have hji10w : (IntKind.i64.wrap (a1 + 1)) = ji10 := (i64_w _).trans hji10
      by_cases c11 : 0 ≤ (ji10)
      ·rw [if_pos c11] at H
       have c11b0 := eq_true c11
       have c11b1 : decide (0 ≤ (ji10)) = true := decide_eq_true c11
       clear c11
       by_cases c12 : (ji10) ≤ (l0.length : Int)
       ·rw [if_pos c12] at H
        have c12b0 := eq_true c12
        have c12b1 : decide ((ji10) ≤ (l0.length : Int)) = true := decide_eq_true c12
        clear c12
        obtain ⟨y202, hy202⟩ : ∃ y_ : List (S46), y_ = (l0.drop ((ji10) : Int).toNat) := ⟨_, rfl⟩
        replace H : (if y199.length + y202.length < 3518437208883 then (some ((y199 ++ y202), true)) else (none)) = some (r1, r2) := by first | (rw [hy202]; with_reducible exact H) | (have H2_ := (Option.bind_some _ _).symm.trans H; rw [hy202]; with_reducible exact H2_) | (have H2_ := (Option.bind_some _ _).symm.trans H; with_reducible exact H2_) | with_reducible exact H | (rw [hy202]; exact H) | exact H
        have Ny202 := Aside0.mk hy202
        clear hy202
        by_cases c13 : y199.length + y202.length < 3518437208883
        ·rw [if_pos c13] at H
         have LMc13 := Aside0.mk c13
         clear c13
         obtain ⟨y206, hy206⟩ : ∃ y_ : List (S46), y_ = (y199 ++ y202) := ⟨_, rfl⟩
         replace H : (some (y206, true)) = some (r1, r2) := by first | (rw [hy206]; with_reducible exact H) | (have H2_ := (Option.bind_some _ _).symm.trans H; rw [hy206]; with_reducible exact H2_) | (have H2_ := (Option.bind_some _ _).symm.trans H; with_reducible exact H2_) | with_reducible exact H | (rw [hy206]; exact H) | exact H
         have Ny206 := Aside0.mk hy206
         clear hy206
         simp only [Option.some.injEq, Prod.mk.injEq] at H
         obtain ⟨rfl, rfl⟩ := H
         go_enter Try.func8, Try.ntmps8
         try go_wp2_with (first | ((with_reducible refine gate_callee (f := 25) rfl ?_); refine goesL_ (some 7) rfl rfl Try.func25 kr rfl #[.slice A0 l0.length c0] rfl lm ?_; (with_reducible refine (spec_BookOk.calls k _ _ l0 true _ ?side1 ?side2 A3.out).mono ?_); (case side1 => repeat (first | exact HR0.out | (with_reducible refine Kd.C_alloc ?_ _) | (with_reducible refine Kd.C_drewN ?_ _) | (with_reducible refine Kd.C_drew ?_))); (case side2 => exact HC0.out); rintro e w14 ⟨rfl, hb⟩; refine ⟨_, rfl, ?_⟩; have n0_ := Aside0.mk (below_step bh hb); clear HB; have HB := n0_; clear n0_; (try clear hb); (try clear hb2); (try clear hk); (try clear hi)) | (go_at_call 32; (with_reducible refine (spec_l1In.calls a1 0 (wrap64 ((l0.length : Int) - 1)) true _ A5.out).mono ?_); rintro e w' ⟨rfl, ⟨nd, rfl⟩⟩))
         (try (rw [drewN_self w14]; generalize hq_ : World.drewN w14 _ = w14; have n0_ : Aside0 (Below w.heap.size w w14) := ⟨by rw [← hq_]; exact bh⟩; clear HB hq_; have HB := n0_; clear n0_))
         have n0_ := Aside0.mk (below_drew1 HB.out)
         clear HB
         have HB := n0_
         clear n0_
         have q16 : (a1 : Int) ≤ ((l0.length : Int) : Int) := oda
         obtain ⟨i016, hi016, _, hsz16, _⟩ := info_parts info46
         have hroom16 : l0.length ≤ c0 := HC0.out
         have hC16 : Kd.C k46 _ A0 l0.length l0 := HR0.out
         have hcut16 := cut_to (P := Try.prog) 23 46 .i64 Try.underlying23 hi016 A0 l0.length c0 a1 oda q16 hroom16
         have hr16 := Kd.C_take (m := (a1 : Int).toNat) hC16 (by omega)
         have hy16 : y195.length = (a1 : Int).toNat := (by rw [Ny195.out, List.length_take]; omega)
         rw [← Ny195.out] at hr16
         rw [← hy16] at hcut16
         have HR198 := Aside0.mk hr16
         have HC198 := Aside0.mk (show y195.length ≤ c0 from by omega)
         clear hr16 hC16 hroom16 hi016 hsz16
         have KY16 := Aside0.mk hy16
         clear hy16
         replace q16 := eq_true q16
         have q17 : ((ji10) : Int) ≤ ((l0.length : Int) : Int) := oda
         obtain ⟨i017, hi017, _, hsz17, _⟩ := info_parts info46
         have hroom17 : l0.length ≤ c0 := HC0.out
         have hC17 : Kd.C k46 _ A0 l0.length l0 := HR0.out
         have q017 : (0 : Int) ≤ ((ji10) : Int) := oda
         have hcut17 := cut_from (P := Try.prog) 23 46 .i64 Try.underlying23 hi017 5 hsz17 A0 l0.length c0 (ji10) q017 q17
         have hr17 := Kd.C_drop (m := ((ji10) : Int).toNat) (c := c0) hC17 (by omega) hroom17
         obtain ⟨A17, hA17⟩ : ∃ Az_, Az_ = (if c0 = ((ji10) : Int).toNat then A0 else (A0 : Option Addr).map (·.add (((ji10) : Int).toNat * 5))) := ⟨_, rfl⟩
         obtain ⟨c17, hc17⟩ : ∃ cz_, cz_ = c0 - ((ji10) : Int).toNat := ⟨_, rfl⟩
         have hy17 : y202.length = l0.length - ((ji10) : Int).toNat := (by rw [Ny202.out, List.length_drop] <;> omega)
         rw [show (l0).drop ((ji10) : Int).toNat = y202 from Ny202.out.symm] at hr17
         replace hr17 : Kd.C k46 _ A17 y202.length y202 := (by rw [hA17]; exact hr17)
         rw [← hy17, ← hA17, ← hc17] at hcut17
         have HR205 := Aside0.mk hr17
         have HC205 := Aside0.mk (show y202.length ≤ c17 from by rw [hy17, hc17]; exact Nat.sub_le_sub_right hroom17 _)
         clear hr17 hC17 hroom17 hi017 hsz17 hc17
         have KY17 := Aside0.mk hy17
         have KA17 := Aside0.mk hA17
         clear hy17 hA17
         replace q17 := eq_true q17
         refine start_ (n := 12) (S := fun w' => True) (ds := []) #[F,F,F,F,F,F,F,F,F,F,F,F] kr rfl rfl trivial (fun hHeld => ?_); refine with_tabW spec_WithoutLaw.tab3 spec_WithoutLaw.bits3 (fun HT_ HW_ => ?_)
         generalize w14.drew = w15 at HB HR198 HR205 hHeld ⊢
         refine pu 1 (some 19) #[F,T,F,F,F,F,F,F,F,F,F,F] (any_of HT_.out kr) ?_
         refine pu 2 (some 20) #[F,T,T,F,F,F,F,F,F,F,F,F] (any_of HT_.out kr) ?_
         refine pu 3 (some 21) #[F,T,T,T,F,F,F,F,F,F,F,F] (any_of HT_.out kr) ?_
         refine pu 5 (some 23) #[F,T,T,T,F,T,F,F,F,F,F,F] (any_of HT_.out kr) ?_
         refine pu 6 (some 24) #[F,T,T,T,F,T,T,F,F,F,F,F] (any_of HT_.out kr) ?_
         refine pu 7 (some 25) #[F,T,T,T,F,T,T,T,F,F,F,F] (any_of HT_.out kr) ?_
         refine pu 8 (some 26) #[F,T,T,T,F,T,T,T,T,F,F,F] (any_of HT_.out kr) ?_
         refine one_ (i := 0) (N := some 18) #[T,T,T,T,F,T,T,T,T,F,F,F] rfl rfl (one_of HT_.out kr) (by decide) (fun K hK => ?_)
         refine Kd.R_lit_step k46 _ 46 ?hg (N := 18) ?hd (xs := ([] : List (S46))) (inner := []) (ok := fun _ => True) (okp := fun _ => True) ?hr ?hp (fun _ hk => hk) trivial (Below.refl _ _) (Nat.le_refl _) (by simp) ?_; (case hd => rfl); (case hg => rfl); (case hr => first | (go_simp; done) | (go_simp; rfl)); (case hp => exact (Reps.none _ _))
         intro v193 w18 ho19 hb hg_ hnew_
         clear hg_ hnew_
         (first | rw [← Ny192.out] at ho19 | (simp only [Int.reduceToNat] at ho19; rw [← Ny192.out] at ho19))
         have n0_ := Aside0.mk (Kd.R_lower ho19 (below_size bh))
         have n1_ := Aside0.mk (below_step bh hb)
         clear HB
         have HO194 := n0_
         have HB := n1_
         clear n0_ n1_ hb ho19
         refine hK.out _ _ trivial (fun hHeld => ?_)
         clear hK K
         refine norm_ (a' := ?_) ?_ ?_
         rotate_left
         ·show Act.put _ (some 18) _ = _
          simp only [Act.put, List.setIfInBounds_toArray, List.set_cons_zero, List.set_cons_succ, i64_w, i32_w]
          rfl
         refine one_ (i := 4) (N := some 22) #[T,T,T,T,T,T,T,T,T,F,F,F] rfl rfl (one_of HT_.out kr) (by decide) (fun K hK => ?_)
         refine Kd.R_append_rows_step k46 (w0 := w) w.heap.size (by rfl) (.tmp 18) (.tmp 21) 23 46 (.agg #[(.int .i64 0), (.int .i64 0), (.int .i64 0), (.int .i64 0), (.bool false)]) 40 rfl Try.underlying23 info46 rfl (by decide) (by omega) v193 y192 y195 _ _ _ (fun _ => True) (fun _ => False) rfl rfl ?aO ?aR (fun _ _ h => h) (fun _ h => h.elim) ?aF ?aB ?aS ?aL ?_
         (case aR => repeat (first | exact (Kd.C_below HR198.out HB.out) | (with_reducible refine Kd.C_alloc ?_ _) | (with_reducible refine Kd.C_drewN ?_ _) | (with_reducible refine Kd.C_drew ?_)))
         (case aB => exact bh)
         (case aF => exact (fun _ _ => trivial))
         (case aO => exact (rz HO194))
         (case aS => exact (below_size bh))
         (case aL => have := LMc9.out; omega)
         intro v200 w20 ho hb hg hat
         rw [← Ny199.out] at ho
         have n0_ := Aside0.mk (hb)
         have n1_ := Aside0.mk (ho)
         clear HB HO194
         have HB := n0_
         have HO201 := n1_
         clear n0_ n1_ ho hb hg hat
         refine hK.out _ _ trivial (fun hHeld => ?_)
         clear hK K
         refine norm_ (a' := ?_) ?_ ?_
         rotate_left
         ·show Act.put _ (some 22) _ = _
          simp only [Act.put, List.setIfInBounds_toArray, List.set_cons_zero, List.set_cons_succ, i64_w, i32_w]
          rfl
         refine one_ (i := 9) (N := some 27) #[T,T,T,T,T,T,T,T,T,T,F,F] rfl rfl (one_of HT_.out kr) (by decide) (fun K hK => ?_)
         refine Kd.R_append_rows_step k46 (w0 := w) w.heap.size (by rfl) (.tmp 22) (.tmp 26) 23 46 (.agg #[(.int .i64 0), (.int .i64 0), (.int .i64 0), (.int .i64 0), (.bool false)]) 40 rfl Try.underlying23 info46 rfl (by decide) (by omega) v200 y199 y202 _ _ _ (fun _ => True) (fun _ => False) rfl rfl ?aO ?aR (fun _ _ h => h) (fun _ h => h.elim) ?aF ?aB ?aS ?aL ?_
         (case aR => repeat (first | exact (Kd.C_below HR205.out HB.out) | (with_reducible refine Kd.C_alloc ?_ _) | (with_reducible refine Kd.C_drewN ?_ _) | (with_reducible refine Kd.C_drew ?_)))
         (case aB => exact bh)
         (case aF => exact (fun _ _ => trivial))
         (case aO => exact (rz HO201))
         (case aS => exact (below_size bh))
         (case aL => have := LMc13.out; omega)
         intro v207 w21 ho hb hg hat
         rw [← Ny206.out] at ho
         have n0_ := Aside0.mk (hb)
         have n1_ := Aside0.mk (ho)
         clear HB HO201
         have HB := n0_
         have HO208 := n1_
         clear n0_ n1_ ho hb hg hat
         refine hK.out _ _ trivial (fun hHeld => ?_)
         clear hK K
         refine norm_ (a' := ?_) ?_ ?_
         rotate_left
         ·show Act.put _ (some 27) _ = _
          simp only [Act.put, List.setIfInBounds_toArray, List.set_cons_zero, List.set_cons_succ, i64_w, i32_w]
          rfl
         refine pu 10 (some 4) #[T,T,T,T,T,T,T,T,T,T,T,F] (any_of HT_.out kr) ?_
         refine pu 11 (some 5) #[T,T,T,T,T,T,T,T,T,T,T,T] (any_of HT_.out kr) ?_
         refine done_ (done_of HT_.out kr) ?_
         try go_wp2
         go_ret2
         exact ⟨_, by first | rfl | (simp [errW_none, errW_some] <;> rfl) | (simp only [← hji10]; first | rfl | (simp [errW_none, errW_some] <;> rfl)) | (simp [*, errW_none, errW_some] <;> rfl), by (with_reducible repeat (first | apply Kd.R_alloc | apply Kd.R_drewN | apply Kd.R_drew)); exact HO208.out, by exact bh⟩
        ·rw [if_neg c13] at H
         exact absurd H (by simp)
       ·rw [if_neg c12] at H
        exact absurd H (by simp)
      ·rw [if_neg c11] at H
       exact absurd H (by simp)
     ·rw [if_neg c9] at H
      exact absurd H (by simp)
    ·rw [if_neg c8] at H
     exact absurd H (by simp)
   ·rw [if_neg c7] at H
    exact absurd H (by simp)
  ·replace c6 := Bool.eq_false_iff.mpr c6
   subst c6
   have H1 : (some ((([] : List (S46))), false)) = some (r1, r2) := by rw [if_neg (show ¬ (false = true) by decide)] at H; exact H
   clear H
   have H := H1
   clear H1
   obtain ⟨y209, hy209⟩ : ∃ y_ : List (S46), y_ = (([] : List (S46))) := ⟨_, rfl⟩
   replace H : (some (y209, false)) = some (r1, r2) := by first | (rw [hy209]; with_reducible exact H) | (have H2_ := (Option.bind_some _ _).symm.trans H; rw [hy209]; with_reducible exact H2_) | (have H2_ := (Option.bind_some _ _).symm.trans H; with_reducible exact H2_) | with_reducible exact H | (rw [hy209]; exact H) | exact H
   have Ny209 := Aside0.mk hy209
   clear hy209
   simp only [Option.some.injEq, Prod.mk.injEq] at H
   obtain ⟨rfl, rfl⟩ := H
   go_enter Try.func8, Try.ntmps8
   go_wp2_with (first | ((with_reducible refine gate_callee (f := 25) rfl ?_); refine goesL_ (some 7) rfl rfl Try.func25 kr rfl #[.slice A0 l0.length c0] rfl lm ?_; (with_reducible refine (spec_BookOk.calls k _ _ l0 true _ ?side1 ?side2 A3.out).mono ?_); (case side1 => repeat (first | exact HR0.out | (with_reducible refine Kd.C_alloc ?_ _) | (with_reducible refine Kd.C_drewN ?_ _) | (with_reducible refine Kd.C_drew ?_))); (case side2 => exact HC0.out); rintro e w22 ⟨rfl, hb⟩; refine ⟨_, rfl, ?_⟩; have n0_ := Aside0.mk (below_step bh hb); clear HB; have HB := n0_; clear n0_; (try clear hb); (try clear hb2); (try clear hk); (try clear hi)) | (go_at_call 32; (with_reducible refine (spec_l1In.calls a1 0 (wrap64 ((l0.length : Int) - 1)) false _ A5.out).mono ?_); rintro e w' ⟨rfl, ⟨nd, rfl⟩⟩) | ((with_reducible refine gate_dst (N := 17) rfl ?_); (try (refine gate_guard (by rfl) ?_; dsimp only)); refine Kd.R_lit k46 _ 46 ?hg (N := 17) ?hd (xs := ([] : List (S46))) (inner := []) (ok := fun _ => True) (okp := fun _ => True) ?hr ?hp (fun _ hk => hk) trivial (Below.refl _ _) (Nat.le_refl _) (by simp) ?_; (case hd => rfl); (case hg => rfl); (case hr => first | (go_simp; done) | (go_simp; rfl)); (case hp => exact (Reps.none _ _)); intro v210 w23 ho24 hb hg_ hnew_; clear hg_ hnew_; (first | rw [← Ny209.out] at ho24 | (simp only [Int.reduceToNat] at ho24; rw [← Ny209.out] at ho24)); have n0_ := Aside0.mk (Kd.R_lower ho24 (below_size bh)); have n1_ := Aside0.mk (below_step bh hb); clear HB; have HO211 := n0_; have HB := n1_; clear n0_ n1_ hb ho24))
   go_ret2
   exact ⟨_, by first | rfl | (simp [errW_none, errW_some] <;> rfl) | (simp [*, errW_none, errW_some] <;> rfl), by (with_reducible repeat (first | apply Kd.R_alloc | apply Kd.R_drewN | apply Kd.R_drew)); exact HO211.out, by exact bh⟩
 ·replace c4 := Bool.eq_false_iff.mpr c4
  subst c4
  have H1 : (some ((([] : List (S46))), false)) = some (r1, r2) := by rw [if_neg (show ¬ (false = true) by decide)] at H; exact H
  clear H
  have H := H1
  clear H1
  obtain ⟨y212, hy212⟩ : ∃ y_ : List (S46), y_ = (([] : List (S46))) := ⟨_, rfl⟩
  replace H : (some (y212, false)) = some (r1, r2) := by first | (rw [hy212]; with_reducible exact H) | (have H2_ := (Option.bind_some _ _).symm.trans H; rw [hy212]; with_reducible exact H2_) | (have H2_ := (Option.bind_some _ _).symm.trans H; with_reducible exact H2_) | with_reducible exact H | (rw [hy212]; exact H) | exact H
  have Ny212 := Aside0.mk hy212
  clear hy212
  simp only [Option.some.injEq, Prod.mk.injEq] at H
  obtain ⟨rfl, rfl⟩ := H
  go_enter Try.func8, Try.ntmps8
  go_wp2_with (first | ((with_reducible refine gate_callee (f := 25) rfl ?_); refine goesL_ (some 7) rfl rfl Try.func25 kr rfl #[.slice A0 l0.length c0] rfl lm ?_; (with_reducible refine (spec_BookOk.calls k _ _ l0 false _ ?side1 ?side2 A3.out).mono ?_); (case side1 => repeat (first | exact HR0.out | (with_reducible refine Kd.C_alloc ?_ _) | (with_reducible refine Kd.C_drewN ?_ _) | (with_reducible refine Kd.C_drew ?_))); (case side2 => exact HC0.out); rintro e w25 ⟨rfl, hb⟩; refine ⟨_, rfl, ?_⟩; have n0_ := Aside0.mk (below_step bh hb); clear HB; have HB := n0_; clear n0_; (try clear hb); (try clear hb2); (try clear hk); (try clear hi)) | ((with_reducible refine gate_dst (N := 17) rfl ?_); (try (refine gate_guard (by rfl) ?_; dsimp only)); refine Kd.R_lit k46 _ 46 ?hg (N := 17) ?hd (xs := ([] : List (S46))) (inner := []) (ok := fun _ => True) (okp := fun _ => True) ?hr ?hp (fun _ hk => hk) trivial (Below.refl _ _) (Nat.le_refl _) (by simp) ?_; (case hd => rfl); (case hg => rfl); (case hr => first | (go_simp; done) | (go_simp; rfl)); (case hp => exact (Reps.none _ _)); intro v213 w26 ho27 hb hg_ hnew_; clear hg_ hnew_; (first | rw [← Ny212.out] at ho27 | (simp only [Int.reduceToNat] at ho27; rw [← Ny212.out] at ho27)); have n0_ := Aside0.mk (Kd.R_lower ho27 (below_size bh)); have n1_ := Aside0.mk (below_step bh hb); clear HB; have HO214 := n0_; have HB := n1_; clear n0_ n1_ hb ho27))
  go_ret2
  exact ⟨_, by first | rfl | (simp [errW_none, errW_some] <;> rfl) | (simp [*, errW_none, errW_some] <;> rfl), by (with_reducible repeat (first | apply Kd.R_alloc | apply Kd.R_drewN | apply Kd.R_drew)); exact HO214.out, by exact bh⟩

/-! ### spec_l6Applies: function 58 -/
def spec_l6Applies.f (a0_0 : Int) (a0_1 : Int) (a0_2 : Int) (a0_3 : Int) (a0_4 : Bool) (a1 : Int) (a2 : Int) : Option (Bool) := if a0_0 = a1 then (some ((Go.bits .and .i64 a0_1 a2) == a0_1)) else (some false)
set_option maxHeartbeats 8000000 in
set_option maxRecDepth 100000 in
theorem spec_l6Applies.calls (a0_0 : Int) (a0_1 : Int) (a0_2 : Int) (a0_3 : Int) (a0_4 : Bool) (a1 : Int) (a2 : Int) (r : Bool) (w : World) (h : spec_l6Applies.f a0_0 a0_1 a0_2 a0_3 a0_4 a1 a2 = some r) :
  Calls Try.prog 58 #[.agg #[.int .i64 a0_0, .int .i64 a0_1, .int .i64 a0_2, .int .i64 a0_3, .bool a0_4], .int .i64 a1, .int .i64 a2] w fun e w' => e = .returned (.bool r) ∧ Below w.heap.size w w' := by
 have hu46 := Try.underlying46
 have HB := Aside0.mk (Below.refl w.heap.size w)
 have H : (if a0_0 = a1 then (some ((Go.bits .and .i64 a0_1 a2) == a0_1)) else (some false)) = some r := h
 clear h
 by_cases c4 : a0_0 = a1
 ·rw [if_pos c4] at H
  have c4b0 : (a0_0 == a1) = true := beq_iff_eq.mpr c4
  have c4b1 : (a0_0 != a1) = false := bne_eq_false_iff_eq.mpr c4
  clear c4
  obtain rfl := Option.some.inj H
  go_enter Try.func58, Try.ntmps58
  go_wp2_with (first | ((with_reducible refine gate_dst (N := 3) rfl ?_); refine box_event ?hg (N := 3) ?hd (cs := #[.int .i64 a0_0, .int .i64 a0_1, .int .i64 a0_2, .int .i64 a0_3, .bool a0_4]) (t := 46) ?hr ?_; (case hd => rfl); (case hg => rfl); (case hr => first | (go_simp; done) | (go_simp; rfl)); intro gb215 hg w5 hbox hb; have n0_ := Aside0.mk (below_step bh hb); have n1_ := Aside0.mk (hbox); have n2_ := Aside0.mk ((gs (W0 := w) hg bh)); have n3_ := Aside0.mk ((gs (W0 := w) hg bh)); clear HB; have HB := n0_; have BK215 := n1_; have GW215 := n2_; have GE215 := n3_; clear n0_ n1_ n2_ n3_ hb hbox hg; have hcz6_0 := cz0 BK215; have hcz6_1 := cz1 BK215; have hcz6_2 := cz2 BK215; have hcz6_3 := cz3 BK215; have hcz6_4 := cz4 BK215; have hfz6_0 := blk_frozen BK215.out 0; have hfz6_1 := blk_frozen BK215.out 1; have hfz6_2 := blk_frozen BK215.out 2; have hfz6_3 := blk_frozen BK215.out 3; have hfz6_4 := blk_frozen BK215.out 4))
  go_ret
  exact ⟨by first | rfl | (simp [errW_none, errW_some] <;> rfl) | (simp [*, errW_none, errW_some] <;> rfl), by exact bh⟩
 ·rw [if_neg c4] at H
  have c4b0 : (a0_0 == a1) = false := beq_eq_false_iff_ne.mpr c4
  have c4b1 : (a0_0 != a1) = true := bne_iff_ne.mpr c4
  obtain rfl := Option.some.inj H
  go_enter Try.func58, Try.ntmps58
  go_wp2_with (first | ((with_reducible refine gate_dst (N := 3) rfl ?_); refine box_event ?hg (N := 3) ?hd (cs := #[.int .i64 a0_0, .int .i64 a0_1, .int .i64 a0_2, .int .i64 a0_3, .bool a0_4]) (t := 46) ?hr ?_; (case hd => rfl); (case hg => rfl); (case hr => first | (go_simp; done) | (go_simp; rfl)); intro gb215 hg w7 hbox hb; have n0_ := Aside0.mk (below_step bh hb); have n1_ := Aside0.mk (hbox); have n2_ := Aside0.mk ((gs (W0 := w) hg bh)); have n3_ := Aside0.mk ((gs (W0 := w) hg bh)); clear HB; have HB := n0_; have BK215 := n1_; have GW215 := n2_; have GE215 := n3_; clear n0_ n1_ n2_ n3_ hb hbox hg; have hcz8_0 := cz0 BK215; have hcz8_1 := cz1 BK215; have hcz8_2 := cz2 BK215; have hcz8_3 := cz3 BK215; have hcz8_4 := cz4 BK215; have hfz8_0 := blk_frozen BK215.out 0; have hfz8_1 := blk_frozen BK215.out 1; have hfz8_2 := blk_frozen BK215.out 2; have hfz8_3 := blk_frozen BK215.out 3; have hfz8_4 := blk_frozen BK215.out 4))
  go_ret
  exact ⟨by first | rfl | (simp [errW_none, errW_some] <;> rfl) | (simp [*, errW_none, errW_some] <;> rfl), by exact bh⟩

/-! ### spec_l1Heads: function 62 -/
def spec_l1Heads.l0 : Nat → Int → Int → Option (Int)
 | 0, _, _ => none
 | k + 1, x0, x3 => if x0 > 0 then (spec_l1Heads.l0 k (wrap64 (Int.tdiv x0 2)) (wrap64 (x3 + (Int.tmod x0 2)))) else (some x3)
def spec_l1Heads.f (k : Nat) (a0 : Int) : Option (Int) := spec_l1Heads.l0 k a0 0
theorem spec_l1Heads.mono_l : ∀ k, (∀ y0 y1, LeO (spec_l1Heads.l0 k y0 y1) (spec_l1Heads.l0 (k + 1) y0 y1))
 | 0 => fun _ _ r h => by simp [spec_l1Heads.l0] at h
 | k + 1 => by
  have ih0 := spec_l1Heads.mono_l k
  ·intro y0 y1
   unfold spec_l1Heads.l0
   repeat' first
   | (with_reducible exact ih0 _ _)
   | (with_reducible exact LeO.refl _)
   | (with_reducible exact LeO.none _)
   | (with_reducible refine LeO.ite ?_ ?_)
   | (with_reducible refine LeO.bind ?_ (fun _ => ?_))
   | exact ih0 _ _
   | exact LeO.none _
   | refine LeO.ite ?_ ?_
   | refine LeO.bind ?_ (fun _ => ?_)
theorem spec_l1Heads.mono : ∀ a0 k, LeO (spec_l1Heads.f k a0) (spec_l1Heads.f (k + 1) a0) := by
 intro a0 k
 have ih0 := spec_l1Heads.mono_l k
 unfold spec_l1Heads.f
 repeat' first
   | (with_reducible exact ih0 _ _)
   | (with_reducible exact LeO.refl _)
   | (with_reducible exact LeO.none _)
   | (with_reducible refine LeO.ite ?_ ?_)
   | (with_reducible refine LeO.bind ?_ (fun _ => ?_))
   | exact ih0 _ _
   | exact LeO.none _
   | refine LeO.ite ?_ ?_
   | refine LeO.bind ?_ (fun _ => ?_)
set_option maxHeartbeats 8000000 in
set_option maxRecDepth 100000 in
theorem spec_l1Heads.calls (k : Nat) (a0 : Int) (r : Int) (w : World) (h : spec_l1Heads.f k a0 = some r) :
  Calls Try.prog 62 #[.int .i64 a0] w fun e w' => e = .returned (.int .i64 r) ∧ Drawn0 w w' := by
 have H : (spec_l1Heads.l0 k a0 0) = some r := h
 clear h
 have H' := Aside0.mk H
 clear H
 go_enter Try.func62, Try.ntmps62
 go_wp2
 go_loopg [0, 3] k (fun kq v0 v3 w' => ∃ (x0_1 : Int) (x3_1 : Int), v0 = .int .i64 x0_1 ∧ v3 = .int .i64 x3_1 ∧ Aside0 (spec_l1Heads.l0 kq x0_1 x3_1 = some r) ∧ Aside0 (kq ≤ k) ∧ Drawn0 w w')
 case atStart => exact ⟨(a0), (0), (by first | rfl | (simp; done) | (simp [*]; done)), (by first | rfl | (simp; done) | (simp [*]; done)), H', ⟨Nat.le_refl _⟩, by repeat (first | exact Drawn0.refl _ | apply Drawn0.step)⟩
 case round =>
  clear H'
  obtain ⟨x0_1, x3_1, rfl, rfl, HA, HK1, ⟨m1, rfl⟩⟩ := hrel
  cases gk with
  | zero => exact absurd HA.out (by simp [spec_l1Heads.l0])
  | succ k1 =>
   have H := HA.out
   clear HA
   simp only [spec_l1Heads.l0] at H
   by_cases c2 : x0_1 > 0
   ·rw [if_pos c2] at H
    have c2b0 : decide (0 < x0_1) = true := decide_eq_true c2
    clear c2
    have H' := Aside0.mk H
    clear H
    go_wp2
    go_roundg k1
    case measure => have := HK1.out; omega
    case rel => exact ⟨(wrap64 (Int.tdiv x0_1 2)), (wrap64 (x3_1 + (Int.tmod x0_1 2))), (by first | rfl | (simp; done) | (simp [*]; done)), (by first | rfl | (simp; done) | (simp [*]; done)), H', ⟨by have := HK1.out; omega⟩, by repeat (first | exact Drawn0.refl _ | apply Drawn0.step)⟩
   ·rw [if_neg c2] at H
    have c2b0 : decide (0 < x0_1) = false := decide_eq_false c2
    clear c2
    obtain rfl := Option.some.inj H
    go_wp2
    go_ret
    exact ⟨by first | rfl | (simp; done) | (simp [*]; done), by repeat (first | exact Drawn0.refl _ | apply Drawn0.step)⟩

/-! ### spec_BeatsOk: function 59 -/
def spec_BeatsOk.j0 : Nat → Bool → Int → Int → Int → Int → Bool → Int → Int → Int → Int → Bool → Option (Bool)
 | 0, _, _, _, _, _, _, _, _, _, _, _ => none
 | k + 1, x5, x217000, x217001, x217002, x217003, x217004, x218000, x218001, x218002, x218003, x218004 => if x5 = true then (some false) else (if x217002 = x218002 then ((spec_l1Heads.f k x217001).bind fun t220 => ((spec_l1Heads.f k x218001).bind fun t221 => (if t220 = t221 then (some (decide (x217003 > x218003))) else (some (decide (t220 > t221)))))) else (some (decide (x217002 > x218002))))
def spec_BeatsOk.f (k : Nat) (a0_0 : Int) (a0_1 : Int) (a0_2 : Int) (a0_3 : Int) (a0_4 : Bool) (a1_0 : Int) (a1_1 : Int) (a1_2 : Int) (a1_3 : Int) (a1_4 : Bool) : Option (Bool) := (spec_LawOk.f a0_0 a0_1 a0_2 a0_3 a0_4).bind fun t218 => (if t218 = true then ((spec_LawOk.f a1_0 a1_1 a1_2 a1_3 a1_4).bind fun t219 => (spec_BeatsOk.j0 k (!t219) a0_0 a0_1 a0_2 a0_3 a0_4 a1_0 a1_1 a1_2 a1_3 a1_4)) else (spec_BeatsOk.j0 k true a0_0 a0_1 a0_2 a0_3 a0_4 a1_0 a1_1 a1_2 a1_3 a1_4))
theorem spec_BeatsOk.mono_l : ∀ k, (∀ y0 y1 y2 y3 y4 y5 y6 y7 y8 y9 y10, LeO (spec_BeatsOk.j0 k y0 y1 y2 y3 y4 y5 y6 y7 y8 y9 y10) (spec_BeatsOk.j0 (k + 1) y0 y1 y2 y3 y4 y5 y6 y7 y8 y9 y10))
 | 0 => fun _ _ _ _ _ _ _ _ _ _ _ r h => by simp [spec_BeatsOk.j0] at h
 | k + 1 => by
  have ih0 := spec_BeatsOk.mono_l k
  ·intro y0 y1 y2 y3 y4 y5 y6 y7 y8 y9 y10
   unfold spec_BeatsOk.j0
   repeat' first
   | (with_reducible exact ih0 _ _ _ _ _ _ _ _ _ _ _)
   | (with_reducible exact spec_l1Heads.mono _ _)
   | (with_reducible exact LeO.refl _)
   | (with_reducible exact LeO.none _)
   | (with_reducible refine LeO.ite ?_ ?_)
   | (with_reducible refine LeO.bind ?_ (fun _ => ?_))
   | exact ih0 _ _ _ _ _ _ _ _ _ _ _
   | exact spec_l1Heads.mono _ _
   | exact LeO.none _
   | refine LeO.ite ?_ ?_
   | refine LeO.bind ?_ (fun _ => ?_)
theorem spec_BeatsOk.mono : ∀ a0 a1 a2 a3 a4 a5 a6 a7 a8 a9 k, LeO (spec_BeatsOk.f k a0 a1 a2 a3 a4 a5 a6 a7 a8 a9) (spec_BeatsOk.f (k + 1) a0 a1 a2 a3 a4 a5 a6 a7 a8 a9) := by
 intro a0 a1 a2 a3 a4 a5 a6 a7 a8 a9 k
 have ih0 := spec_BeatsOk.mono_l k
 unfold spec_BeatsOk.f
 repeat' first
   | (with_reducible exact ih0 _ _ _ _ _ _ _ _ _ _ _)
   | (with_reducible exact spec_l1Heads.mono _ _)
   | (with_reducible exact LeO.refl _)
   | (with_reducible exact LeO.none _)
   | (with_reducible refine LeO.ite ?_ ?_)
   | (with_reducible refine LeO.bind ?_ (fun _ => ?_))
   | exact ih0 _ _ _ _ _ _ _ _ _ _ _
   | exact spec_l1Heads.mono _ _
   | exact LeO.none _
   | refine LeO.ite ?_ ?_
   | refine LeO.bind ?_ (fun _ => ?_)
set_option maxHeartbeats 8000000 in
set_option maxRecDepth 100000 in
theorem spec_BeatsOk.calls (k : Nat) (a0_0 : Int) (a0_1 : Int) (a0_2 : Int) (a0_3 : Int) (a0_4 : Bool) (a1_0 : Int) (a1_1 : Int) (a1_2 : Int) (a1_3 : Int) (a1_4 : Bool) (r : Bool) (w : World) (h : spec_BeatsOk.f k a0_0 a0_1 a0_2 a0_3 a0_4 a1_0 a1_1 a1_2 a1_3 a1_4 = some r) :
  Calls Try.prog 59 #[.agg #[.int .i64 a0_0, .int .i64 a0_1, .int .i64 a0_2, .int .i64 a0_3, .bool a0_4], .agg #[.int .i64 a1_0, .int .i64 a1_1, .int .i64 a1_2, .int .i64 a1_3, .bool a1_4]] w fun e w' => e = .returned (.bool r) ∧ Below w.heap.size w w' := by
 have hu46 := Try.underlying46
 have HB := Aside0.mk (Below.refl w.heap.size w)
 have H : ((spec_LawOk.f a0_0 a0_1 a0_2 a0_3 a0_4).bind fun t218 => (if t218 = true then ((spec_LawOk.f a1_0 a1_1 a1_2 a1_3 a1_4).bind fun t219 => (spec_BeatsOk.j0 k (!t219) a0_0 a0_1 a0_2 a0_3 a0_4 a1_0 a1_1 a1_2 a1_3 a1_4)) else (spec_BeatsOk.j0 k true a0_0 a0_1 a0_2 a0_3 a0_4 a1_0 a1_1 a1_2 a1_3 a1_4))) = some r := h
 clear h
 have HC3 := Aside0.mk H
 clear H
 go_enter Try.func59, Try.ntmps59
 go_upto_region 1 with (first | ((with_reducible refine gate_dst (N := 2) rfl ?_); refine box_event ?hg (N := 2) ?hd (cs := #[.int .i64 a0_0, .int .i64 a0_1, .int .i64 a0_2, .int .i64 a0_3, .bool a0_4]) (t := 46) ?hr ?_; (case hd => rfl); (case hg => rfl); (case hr => first | (go_simp; done) | (go_simp; rfl)); intro gb216 hg w4 hbox hb; have n0_ := Aside0.mk (below_step bh hb); have n1_ := Aside0.mk (hbox); have n2_ := Aside0.mk ((gs (W0 := w) hg bh)); have n3_ := Aside0.mk ((gs (W0 := w) hg bh)); clear HB; have HB := n0_; have BK216 := n1_; have GW216 := n2_; have GE216 := n3_; clear n0_ n1_ n2_ n3_ hb hbox hg) | ((with_reducible refine gate_dst (N := 3) rfl ?_); refine box_event ?hg (N := 3) ?hd (cs := #[.int .i64 a1_0, .int .i64 a1_1, .int .i64 a1_2, .int .i64 a1_3, .bool a1_4]) (t := 46) ?hr ?_; (case hd => rfl); (case hg => rfl); (case hr => first | (go_simp; done) | (go_simp; rfl)); intro gb217 hg w5 hbox hb; have n0_ := Aside0.mk (blk_below (bz BK216) hb); have n1_ := Aside0.mk (below_step bh hb); have n2_ := Aside0.mk (hbox); have n3_ := Aside0.mk ((gs (W0 := w) hg bh)); have n4_ := Aside0.mk ((gs (W0 := w) hg bh)); have n5_ := Aside0.mk ((gn hg (bz BK216))); have n6_ := Aside0.mk ((gm hg (bz BK216))); clear BK216 HB; have BK216 := n0_; have HB := n1_; have BK217 := n2_; have GW217 := n3_; have GE217 := n4_; have NB216_217 := n5_; have NB217_216 := n6_; clear n0_ n1_ n2_ n3_ n4_ n5_ n6_ hb hbox hg))
 repeat (go_quiet (first | ((with_reducible refine gate_dst (N := 2) rfl ?_); refine box_event ?hg (N := 2) ?hd (cs := #[.int .i64 a0_0, .int .i64 a0_1, .int .i64 a0_2, .int .i64 a0_3, .bool a0_4]) (t := 46) ?hr ?_; (case hd => rfl); (case hg => rfl); (case hr => first | (go_simp; done) | (go_simp; rfl)); intro gb216 hg w4 hbox hb; have n0_ := Aside0.mk (below_step bh hb); have n1_ := Aside0.mk (hbox); have n2_ := Aside0.mk ((gs (W0 := w) hg bh)); have n3_ := Aside0.mk ((gs (W0 := w) hg bh)); clear HB; have HB := n0_; have BK216 := n1_; have GW216 := n2_; have GE216 := n3_; clear n0_ n1_ n2_ n3_ hb hbox hg) | ((with_reducible refine gate_dst (N := 3) rfl ?_); refine box_event ?hg (N := 3) ?hd (cs := #[.int .i64 a1_0, .int .i64 a1_1, .int .i64 a1_2, .int .i64 a1_3, .bool a1_4]) (t := 46) ?hr ?_; (case hd => rfl); (case hg => rfl); (case hr => first | (go_simp; done) | (go_simp; rfl)); intro gb217 hg w5 hbox hb; have n0_ := Aside0.mk (blk_below (bz BK216) hb); have n1_ := Aside0.mk (below_step bh hb); have n2_ := Aside0.mk (hbox); have n3_ := Aside0.mk ((gs (W0 := w) hg bh)); have n4_ := Aside0.mk ((gs (W0 := w) hg bh)); have n5_ := Aside0.mk ((gn hg (bz BK216))); have n6_ := Aside0.mk ((gm hg (bz BK216))); clear BK216 HB; have BK216 := n0_; have HB := n1_; have BK217 := n2_; have GW217 := n3_; have GE217 := n4_; have NB216_217 := n5_; have NB217_216 := n6_; clear n0_ n1_ n2_ n3_ n4_ n5_ n6_ hb hbox hg)); go_upto_region 1 with (first | ((with_reducible refine gate_dst (N := 2) rfl ?_); refine box_event ?hg (N := 2) ?hd (cs := #[.int .i64 a0_0, .int .i64 a0_1, .int .i64 a0_2, .int .i64 a0_3, .bool a0_4]) (t := 46) ?hr ?_; (case hd => rfl); (case hg => rfl); (case hr => first | (go_simp; done) | (go_simp; rfl)); intro gb216 hg w4 hbox hb; have n0_ := Aside0.mk (below_step bh hb); have n1_ := Aside0.mk (hbox); have n2_ := Aside0.mk ((gs (W0 := w) hg bh)); have n3_ := Aside0.mk ((gs (W0 := w) hg bh)); clear HB; have HB := n0_; have BK216 := n1_; have GW216 := n2_; have GE216 := n3_; clear n0_ n1_ n2_ n3_ hb hbox hg) | ((with_reducible refine gate_dst (N := 3) rfl ?_); refine box_event ?hg (N := 3) ?hd (cs := #[.int .i64 a1_0, .int .i64 a1_1, .int .i64 a1_2, .int .i64 a1_3, .bool a1_4]) (t := 46) ?hr ?_; (case hd => rfl); (case hg => rfl); (case hr => first | (go_simp; done) | (go_simp; rfl)); intro gb217 hg w5 hbox hb; have n0_ := Aside0.mk (blk_below (bz BK216) hb); have n1_ := Aside0.mk (below_step bh hb); have n2_ := Aside0.mk (hbox); have n3_ := Aside0.mk ((gs (W0 := w) hg bh)); have n4_ := Aside0.mk ((gs (W0 := w) hg bh)); have n5_ := Aside0.mk ((gn hg (bz BK216))); have n6_ := Aside0.mk ((gm hg (bz BK216))); clear BK216 HB; have BK216 := n0_; have HB := n1_; have BK217 := n2_; have GW217 := n3_; have GE217 := n4_; have NB216_217 := n5_; have NB217_216 := n6_; clear n0_ n1_ n2_ n3_ n4_ n5_ n6_ hb hbox hg)))
 (try simp only [Act.put, List.setIfInBounds_toArray, List.set_cons_zero, List.set_cons_succ])
 go_cut [5] (fun v5 wc => ∃ (kq : Nat) (x5_2 : Bool), v5 = .bool x5_2 ∧ Aside0 (spec_BeatsOk.j0 kq x5_2 a0_0 a0_1 a0_2 a0_3 a0_4 a1_0 a1_1 a1_2 a1_3 a1_4 = some r) ∧ Aside0 (kq ≤ k) ∧ Aside0 (wc.heap[gb216]? = some (.cells #[.int .i64 a0_0, .int .i64 a0_1, .int .i64 a0_2, .int .i64 a0_3, .bool a0_4] 46 (0, 0))) ∧ Aside0 (wc.heap[gb217]? = some (.cells #[.int .i64 a1_0, .int .i64 a1_1, .int .i64 a1_2, .int .i64 a1_3, .bool a1_4] 46 (0, 0))) ∧ Aside0 (Below w.heap.size w wc))
 case first =>
  have H := HC3.out
  clear HC3
  replace H := Option.bind_eq_some_iff.mp H
  obtain ⟨t218, A60, H⟩ := H
  replace H : (if t218 = true then ((spec_LawOk.f a1_0 a1_1 a1_2 a1_3 a1_4).bind fun t219 => (spec_BeatsOk.j0 k (!t219) a0_0 a0_1 a0_2 a0_3 a0_4 a1_0 a1_1 a1_2 a1_3 a1_4)) else (spec_BeatsOk.j0 k true a0_0 a0_1 a0_2 a0_3 a0_4 a1_0 a1_1 a1_2 a1_3 a1_4)) = some r := H
  have A6 := Aside0.mk A60
  clear A60
  by_cases c7 : t218 = true
  ·subst c7
   have H1 : ((spec_LawOk.f a1_0 a1_1 a1_2 a1_3 a1_4).bind fun t219 => (spec_BeatsOk.j0 k (!t219) a0_0 a0_1 a0_2 a0_3 a0_4 a1_0 a1_1 a1_2 a1_3 a1_4)) = some r := by rw [if_pos rfl] at H; exact H
   clear H
   have H := H1
   clear H1
   replace H := Option.bind_eq_some_iff.mp H
   obtain ⟨t219, A80, H⟩ := H
   replace H : (spec_BeatsOk.j0 k (!t219) a0_0 a0_1 a0_2 a0_3 a0_4 a1_0 a1_1 a1_2 a1_3 a1_4) = some r := H
   have A8 := Aside0.mk A80
   clear A80
   have H' := Aside0.mk H
   clear H
   have hnb9 := NB216_217.out
   have hnc9 := NB217_216.out
   have hcz10_0 := cz0 BK216
   have hcz10_1 := cz1 BK216
   have hcz10_2 := cz2 BK216
   have hcz10_3 := cz3 BK216
   have hcz10_4 := cz4 BK216
   have hfz10_0 := blk_frozen BK216.out 0
   have hfz10_1 := blk_frozen BK216.out 1
   have hfz10_2 := blk_frozen BK216.out 2
   have hfz10_3 := blk_frozen BK216.out 3
   have hfz10_4 := blk_frozen BK216.out 4
   go_wp2_with (first | (go_at_call 41; (with_reducible refine (spec_LawOk.calls a0_0 a0_1 a0_2 a0_3 a0_4 true _ A6.out).mono ?_); rintro e w11 ⟨rfl, hb⟩; have n0_ := Aside0.mk (blk_below (bz BK216) hb); have n1_ := Aside0.mk (blk_below (bz BK217) hb); have n2_ := Aside0.mk (below_step bh hb); clear BK216 BK217 HB; have BK216 := n0_; have BK217 := n1_; have HB := n2_; clear n0_ n1_ n2_; (try clear hb); (try clear hb2); (try clear hk); (try clear hi); have hcz12_0 := cz0 BK217; have hcz12_1 := cz1 BK217; have hcz12_2 := cz2 BK217; have hcz12_3 := cz3 BK217; have hcz12_4 := cz4 BK217; have hfz12_0 := blk_frozen BK217.out 0; have hfz12_1 := blk_frozen BK217.out 1; have hfz12_2 := blk_frozen BK217.out 2; have hfz12_3 := blk_frozen BK217.out 3; have hfz12_4 := blk_frozen BK217.out 4) | (go_at_call 41; (with_reducible refine (spec_LawOk.calls a1_0 a1_1 a1_2 a1_3 a1_4 t219 _ A8.out).mono ?_); rintro e w13 ⟨rfl, hb⟩; have n0_ := Aside0.mk (blk_below (bz BK216) hb); have n1_ := Aside0.mk (blk_below (bz BK217) hb); have n2_ := Aside0.mk (below_step bh hb); clear BK216 BK217 HB; have BK216 := n0_; have BK217 := n1_; have HB := n2_; clear n0_ n1_ n2_; (try clear hb); (try clear hb2); (try clear hk); (try clear hi)))
   repeat (go_quiet (first | (go_at_call 41; (with_reducible refine (spec_LawOk.calls a0_0 a0_1 a0_2 a0_3 a0_4 true _ A6.out).mono ?_); rintro e w11 ⟨rfl, hb⟩; have n0_ := Aside0.mk (blk_below (bz BK216) hb); have n1_ := Aside0.mk (blk_below (bz BK217) hb); have n2_ := Aside0.mk (below_step bh hb); clear BK216 BK217 HB; have BK216 := n0_; have BK217 := n1_; have HB := n2_; clear n0_ n1_ n2_; (try clear hb); (try clear hb2); (try clear hk); (try clear hi); have hcz12_0 := cz0 BK217; have hcz12_1 := cz1 BK217; have hcz12_2 := cz2 BK217; have hcz12_3 := cz3 BK217; have hcz12_4 := cz4 BK217; have hfz12_0 := blk_frozen BK217.out 0; have hfz12_1 := blk_frozen BK217.out 1; have hfz12_2 := blk_frozen BK217.out 2; have hfz12_3 := blk_frozen BK217.out 3; have hfz12_4 := blk_frozen BK217.out 4) | (go_at_call 41; (with_reducible refine (spec_LawOk.calls a1_0 a1_1 a1_2 a1_3 a1_4 t219 _ A8.out).mono ?_); rintro e w13 ⟨rfl, hb⟩; have n0_ := Aside0.mk (blk_below (bz BK216) hb); have n1_ := Aside0.mk (blk_below (bz BK217) hb); have n2_ := Aside0.mk (below_step bh hb); clear BK216 BK217 HB; have BK216 := n0_; have BK217 := n1_; have HB := n2_; clear n0_ n1_ n2_; (try clear hb); (try clear hb2); (try clear hk); (try clear hi))); try go_wp2_with (first | (go_at_call 41; (with_reducible refine (spec_LawOk.calls a0_0 a0_1 a0_2 a0_3 a0_4 true _ A6.out).mono ?_); rintro e w11 ⟨rfl, hb⟩; have n0_ := Aside0.mk (blk_below (bz BK216) hb); have n1_ := Aside0.mk (blk_below (bz BK217) hb); have n2_ := Aside0.mk (below_step bh hb); clear BK216 BK217 HB; have BK216 := n0_; have BK217 := n1_; have HB := n2_; clear n0_ n1_ n2_; (try clear hb); (try clear hb2); (try clear hk); (try clear hi); have hcz12_0 := cz0 BK217; have hcz12_1 := cz1 BK217; have hcz12_2 := cz2 BK217; have hcz12_3 := cz3 BK217; have hcz12_4 := cz4 BK217; have hfz12_0 := blk_frozen BK217.out 0; have hfz12_1 := blk_frozen BK217.out 1; have hfz12_2 := blk_frozen BK217.out 2; have hfz12_3 := blk_frozen BK217.out 3; have hfz12_4 := blk_frozen BK217.out 4) | (go_at_call 41; (with_reducible refine (spec_LawOk.calls a1_0 a1_1 a1_2 a1_3 a1_4 t219 _ A8.out).mono ?_); rintro e w13 ⟨rfl, hb⟩; have n0_ := Aside0.mk (blk_below (bz BK216) hb); have n1_ := Aside0.mk (blk_below (bz BK217) hb); have n2_ := Aside0.mk (below_step bh hb); clear BK216 BK217 HB; have BK216 := n0_; have BK217 := n1_; have HB := n2_; clear n0_ n1_ n2_; (try clear hb); (try clear hb2); (try clear hk); (try clear hi))))
   go_meet
   case rel => exact ⟨_, (!t219), (by first | rfl | (simp; done) | (simp [*]; done)), H', ⟨by first | omega | exact Nat.le_refl _⟩, ⟨bz BK216⟩, ⟨bz BK217⟩, ⟨by exact bh⟩⟩
  ·replace c7 := Bool.eq_false_iff.mpr c7
   subst c7
   have H1 : (spec_BeatsOk.j0 k true a0_0 a0_1 a0_2 a0_3 a0_4 a1_0 a1_1 a1_2 a1_3 a1_4) = some r := by rw [if_neg (show ¬ (false = true) by decide)] at H; exact H
   clear H
   have H := H1
   clear H1
   have H' := Aside0.mk H
   clear H
   have hnb14 := NB216_217.out
   have hnc14 := NB217_216.out
   have hcz15_0 := cz0 BK216
   have hcz15_1 := cz1 BK216
   have hcz15_2 := cz2 BK216
   have hcz15_3 := cz3 BK216
   have hcz15_4 := cz4 BK216
   have hfz15_0 := blk_frozen BK216.out 0
   have hfz15_1 := blk_frozen BK216.out 1
   have hfz15_2 := blk_frozen BK216.out 2
   have hfz15_3 := blk_frozen BK216.out 3
   have hfz15_4 := blk_frozen BK216.out 4
   go_wp2_with (first | (go_at_call 41; (with_reducible refine (spec_LawOk.calls a0_0 a0_1 a0_2 a0_3 a0_4 false _ A6.out).mono ?_); rintro e w16 ⟨rfl, hb⟩; have n0_ := Aside0.mk (blk_below (bz BK216) hb); have n1_ := Aside0.mk (blk_below (bz BK217) hb); have n2_ := Aside0.mk (below_step bh hb); clear BK216 BK217 HB; have BK216 := n0_; have BK217 := n1_; have HB := n2_; clear n0_ n1_ n2_; (try clear hb); (try clear hb2); (try clear hk); (try clear hi)))
   repeat (go_quiet (first | (go_at_call 41; (with_reducible refine (spec_LawOk.calls a0_0 a0_1 a0_2 a0_3 a0_4 false _ A6.out).mono ?_); rintro e w16 ⟨rfl, hb⟩; have n0_ := Aside0.mk (blk_below (bz BK216) hb); have n1_ := Aside0.mk (blk_below (bz BK217) hb); have n2_ := Aside0.mk (below_step bh hb); clear BK216 BK217 HB; have BK216 := n0_; have BK217 := n1_; have HB := n2_; clear n0_ n1_ n2_; (try clear hb); (try clear hb2); (try clear hk); (try clear hi))); try go_wp2_with (first | (go_at_call 41; (with_reducible refine (spec_LawOk.calls a0_0 a0_1 a0_2 a0_3 a0_4 false _ A6.out).mono ?_); rintro e w16 ⟨rfl, hb⟩; have n0_ := Aside0.mk (blk_below (bz BK216) hb); have n1_ := Aside0.mk (blk_below (bz BK217) hb); have n2_ := Aside0.mk (below_step bh hb); clear BK216 BK217 HB; have BK216 := n0_; have BK217 := n1_; have HB := n2_; clear n0_ n1_ n2_; (try clear hb); (try clear hb2); (try clear hk); (try clear hi))))
   go_meet
   case rel => exact ⟨_, (true), (by first | rfl | (simp; done) | (simp [*]; done)), H', ⟨by first | omega | exact Nat.le_refl _⟩, ⟨bz BK216⟩, ⟨bz BK217⟩, ⟨by exact bh⟩⟩
 case rest =>
  clear HC3
  try clear c1
  try clear p2
  try clear c5
  try clear c7
  try clear c9
  try clear c14
  try clear hcz10_0
  try clear hcz10_1
  try clear hcz10_2
  try clear hcz10_3
  try clear hcz10_4
  try clear hcz12_0
  try clear hcz12_1
  try clear hcz12_2
  try clear hcz12_3
  try clear hcz12_4
  try clear hcz15_0
  try clear hcz15_1
  try clear hcz15_2
  try clear hcz15_3
  try clear hcz15_4
  try clear hfz10_0
  try clear hfz10_1
  try clear hfz10_2
  try clear hfz10_3
  try clear hfz10_4
  try clear hfz12_0
  try clear hfz12_1
  try clear hfz12_2
  try clear hfz12_3
  try clear hfz12_4
  try clear hfz15_0
  try clear hfz15_1
  try clear hfz15_2
  try clear hfz15_3
  try clear hfz15_4
  obtain ⟨kq, x5_2, rfl, HA, HJ2, BK216, BK217, HB⟩ := hcut
  cases kq with
  | zero => exact absurd HA.out (by simp [spec_BeatsOk.j0])
  | succ kj2 =>
   have H := HA.out
   clear HA
   simp only [spec_BeatsOk.j0] at H
   by_cases c17 : x5_2 = true
   ·subst c17
    have H1 : (some false) = some r := by rw [if_pos rfl] at H; exact H
    clear H
    have H := H1
    clear H1
    obtain rfl := Option.some.inj H
    go_wp2
    repeat (go_quiet (fail); try go_wp2)
    go_ret
    exact ⟨by first | rfl | (simp [errW_none, errW_some] <;> rfl) | (simp [*, errW_none, errW_some] <;> rfl), by exact bh⟩
   ·replace c17 := Bool.eq_false_iff.mpr c17
    subst c17
    have H1 : (if a0_2 = a1_2 then ((spec_l1Heads.f kj2 a0_1).bind fun t220 => ((spec_l1Heads.f kj2 a1_1).bind fun t221 => (if t220 = t221 then (some (decide (a0_3 > a1_3))) else (some (decide (t220 > t221)))))) else (some (decide (a0_2 > a1_2)))) = some r := by rw [if_neg (show ¬ (false = true) by decide)] at H; exact H
    clear H
    have H := H1
    clear H1
    by_cases c18 : a0_2 = a1_2
    ·rw [if_pos c18] at H
     have c18b0 : (a0_2 == a1_2) = true := beq_iff_eq.mpr c18
     have c18b1 : (a0_2 != a1_2) = false := bne_eq_false_iff_eq.mpr c18
     clear c18
     replace H := Option.bind_eq_some_iff.mp H
     obtain ⟨t220, A190, H⟩ := H
     replace H : ((spec_l1Heads.f kj2 a1_1).bind fun t221 => (if t220 = t221 then (some (decide (a0_3 > a1_3))) else (some (decide (t220 > t221))))) = some r := H
     have A19 := Aside0.mk A190
     clear A190
     replace H := Option.bind_eq_some_iff.mp H
     obtain ⟨t221, A200, H⟩ := H
     replace H : (if t220 = t221 then (some (decide (a0_3 > a1_3))) else (some (decide (t220 > t221)))) = some r := H
     have A20 := Aside0.mk A200
     clear A200
     by_cases c21 : t220 = t221
     ·rw [if_pos c21] at H
      have c21b0 : (t220 == t221) = true := beq_iff_eq.mpr c21
      have c21b1 : (t220 != t221) = false := bne_eq_false_iff_eq.mpr c21
      clear c21
      obtain rfl := Option.some.inj H
      have hnb22 := NB216_217.out
      have hnc22 := NB217_216.out
      have hcz23_0 := cz0 BK216
      have hcz23_1 := cz1 BK216
      have hcz23_2 := cz2 BK216
      have hcz23_3 := cz3 BK216
      have hcz23_4 := cz4 BK216
      have hfz23_0 := blk_frozen BK216.out 0
      have hfz23_1 := blk_frozen BK216.out 1
      have hfz23_2 := blk_frozen BK216.out 2
      have hfz23_3 := blk_frozen BK216.out 3
      have hfz23_4 := blk_frozen BK216.out 4
      have hcz24_0 := cz0 BK217
      have hcz24_1 := cz1 BK217
      have hcz24_2 := cz2 BK217
      have hcz24_3 := cz3 BK217
      have hcz24_4 := cz4 BK217
      have hfz24_0 := blk_frozen BK217.out 0
      have hfz24_1 := blk_frozen BK217.out 1
      have hfz24_2 := blk_frozen BK217.out 2
      have hfz24_3 := blk_frozen BK217.out 3
      have hfz24_4 := blk_frozen BK217.out 4
      go_wp2_with (first | (go_at_call 62; (with_reducible refine (spec_l1Heads.calls kj2 a0_1 t220 _ A19.out).mono ?_); rintro e w' ⟨rfl, ⟨nd, rfl⟩⟩; (try first | exact ⟨rfl, _, World.drewN_drewN _ _ _⟩ | exact ⟨rfl, _, Eq.trans (World.drewN_drewN _ _ _) (congrArg (World.drewN _) (Nat.add_assoc _ _ _))⟩)) | (go_at_call 62; (with_reducible refine (spec_l1Heads.calls kj2 a1_1 t221 _ A20.out).mono ?_); rintro e w' ⟨rfl, ⟨nd, rfl⟩⟩; (try first | exact ⟨rfl, _, World.drewN_drewN _ _ _⟩ | exact ⟨rfl, _, Eq.trans (World.drewN_drewN _ _ _) (congrArg (World.drewN _) (Nat.add_assoc _ _ _))⟩)))
      repeat (go_quiet (first | (go_at_call 62; (with_reducible refine (spec_l1Heads.calls kj2 a0_1 t220 _ A19.out).mono ?_); rintro e w' ⟨rfl, ⟨nd, rfl⟩⟩; (try first | exact ⟨rfl, _, World.drewN_drewN _ _ _⟩ | exact ⟨rfl, _, Eq.trans (World.drewN_drewN _ _ _) (congrArg (World.drewN _) (Nat.add_assoc _ _ _))⟩)) | (go_at_call 62; (with_reducible refine (spec_l1Heads.calls kj2 a1_1 t221 _ A20.out).mono ?_); rintro e w' ⟨rfl, ⟨nd, rfl⟩⟩; (try first | exact ⟨rfl, _, World.drewN_drewN _ _ _⟩ | exact ⟨rfl, _, Eq.trans (World.drewN_drewN _ _ _) (congrArg (World.drewN _) (Nat.add_assoc _ _ _))⟩))); try go_wp2_with (first | (go_at_call 62; (with_reducible refine (spec_l1Heads.calls kj2 a0_1 t220 _ A19.out).mono ?_); rintro e w' ⟨rfl, ⟨nd, rfl⟩⟩; (try first | exact ⟨rfl, _, World.drewN_drewN _ _ _⟩ | exact ⟨rfl, _, Eq.trans (World.drewN_drewN _ _ _) (congrArg (World.drewN _) (Nat.add_assoc _ _ _))⟩)) | (go_at_call 62; (with_reducible refine (spec_l1Heads.calls kj2 a1_1 t221 _ A20.out).mono ?_); rintro e w' ⟨rfl, ⟨nd, rfl⟩⟩; (try first | exact ⟨rfl, _, World.drewN_drewN _ _ _⟩ | exact ⟨rfl, _, Eq.trans (World.drewN_drewN _ _ _) (congrArg (World.drewN _) (Nat.add_assoc _ _ _))⟩))))
      go_ret
      exact ⟨by first | rfl | (simp [errW_none, errW_some] <;> rfl) | (simp [*, errW_none, errW_some] <;> rfl), by exact bh⟩
     ·rw [if_neg c21] at H
      have c21b0 : (t220 == t221) = false := beq_eq_false_iff_ne.mpr c21
      have c21b1 : (t220 != t221) = true := bne_iff_ne.mpr c21
      obtain rfl := Option.some.inj H
      have hnb25 := NB216_217.out
      have hnc25 := NB217_216.out
      have hcz26_0 := cz0 BK216
      have hcz26_1 := cz1 BK216
      have hcz26_2 := cz2 BK216
      have hcz26_3 := cz3 BK216
      have hcz26_4 := cz4 BK216
      have hfz26_0 := blk_frozen BK216.out 0
      have hfz26_1 := blk_frozen BK216.out 1
      have hfz26_2 := blk_frozen BK216.out 2
      have hfz26_3 := blk_frozen BK216.out 3
      have hfz26_4 := blk_frozen BK216.out 4
      have hcz27_0 := cz0 BK217
      have hcz27_1 := cz1 BK217
      have hcz27_2 := cz2 BK217
      have hcz27_3 := cz3 BK217
      have hcz27_4 := cz4 BK217
      have hfz27_0 := blk_frozen BK217.out 0
      have hfz27_1 := blk_frozen BK217.out 1
      have hfz27_2 := blk_frozen BK217.out 2
      have hfz27_3 := blk_frozen BK217.out 3
      have hfz27_4 := blk_frozen BK217.out 4
      go_wp2_with (first | (go_at_call 62; (with_reducible refine (spec_l1Heads.calls kj2 a0_1 t220 _ A19.out).mono ?_); rintro e w' ⟨rfl, ⟨nd, rfl⟩⟩; (try first | exact ⟨rfl, _, World.drewN_drewN _ _ _⟩ | exact ⟨rfl, _, Eq.trans (World.drewN_drewN _ _ _) (congrArg (World.drewN _) (Nat.add_assoc _ _ _))⟩)) | (go_at_call 62; (with_reducible refine (spec_l1Heads.calls kj2 a1_1 t221 _ A20.out).mono ?_); rintro e w' ⟨rfl, ⟨nd, rfl⟩⟩; (try first | exact ⟨rfl, _, World.drewN_drewN _ _ _⟩ | exact ⟨rfl, _, Eq.trans (World.drewN_drewN _ _ _) (congrArg (World.drewN _) (Nat.add_assoc _ _ _))⟩)))
      repeat (go_quiet (first | (go_at_call 62; (with_reducible refine (spec_l1Heads.calls kj2 a0_1 t220 _ A19.out).mono ?_); rintro e w' ⟨rfl, ⟨nd, rfl⟩⟩; (try first | exact ⟨rfl, _, World.drewN_drewN _ _ _⟩ | exact ⟨rfl, _, Eq.trans (World.drewN_drewN _ _ _) (congrArg (World.drewN _) (Nat.add_assoc _ _ _))⟩)) | (go_at_call 62; (with_reducible refine (spec_l1Heads.calls kj2 a1_1 t221 _ A20.out).mono ?_); rintro e w' ⟨rfl, ⟨nd, rfl⟩⟩; (try first | exact ⟨rfl, _, World.drewN_drewN _ _ _⟩ | exact ⟨rfl, _, Eq.trans (World.drewN_drewN _ _ _) (congrArg (World.drewN _) (Nat.add_assoc _ _ _))⟩))); try go_wp2_with (first | (go_at_call 62; (with_reducible refine (spec_l1Heads.calls kj2 a0_1 t220 _ A19.out).mono ?_); rintro e w' ⟨rfl, ⟨nd, rfl⟩⟩; (try first | exact ⟨rfl, _, World.drewN_drewN _ _ _⟩ | exact ⟨rfl, _, Eq.trans (World.drewN_drewN _ _ _) (congrArg (World.drewN _) (Nat.add_assoc _ _ _))⟩)) | (go_at_call 62; (with_reducible refine (spec_l1Heads.calls kj2 a1_1 t221 _ A20.out).mono ?_); rintro e w' ⟨rfl, ⟨nd, rfl⟩⟩; (try first | exact ⟨rfl, _, World.drewN_drewN _ _ _⟩ | exact ⟨rfl, _, Eq.trans (World.drewN_drewN _ _ _) (congrArg (World.drewN _) (Nat.add_assoc _ _ _))⟩))))
      go_ret
      exact ⟨by first | rfl | (simp [errW_none, errW_some] <;> rfl) | (simp [*, errW_none, errW_some] <;> rfl), by exact bh⟩
    ·rw [if_neg c18] at H
     have c18b0 : (a0_2 == a1_2) = false := beq_eq_false_iff_ne.mpr c18
     have c18b1 : (a0_2 != a1_2) = true := bne_iff_ne.mpr c18
     obtain rfl := Option.some.inj H
     have hnb28 := NB216_217.out
     have hnc28 := NB217_216.out
     have hcz29_0 := cz0 BK216
     have hcz29_1 := cz1 BK216
     have hcz29_2 := cz2 BK216
     have hcz29_3 := cz3 BK216
     have hcz29_4 := cz4 BK216
     have hfz29_0 := blk_frozen BK216.out 0
     have hfz29_1 := blk_frozen BK216.out 1
     have hfz29_2 := blk_frozen BK216.out 2
     have hfz29_3 := blk_frozen BK216.out 3
     have hfz29_4 := blk_frozen BK216.out 4
     have hcz30_0 := cz0 BK217
     have hcz30_1 := cz1 BK217
     have hcz30_2 := cz2 BK217
     have hcz30_3 := cz3 BK217
     have hcz30_4 := cz4 BK217
     have hfz30_0 := blk_frozen BK217.out 0
     have hfz30_1 := blk_frozen BK217.out 1
     have hfz30_2 := blk_frozen BK217.out 2
     have hfz30_3 := blk_frozen BK217.out 3
     have hfz30_4 := blk_frozen BK217.out 4
     go_wp2
     repeat (go_quiet (fail); try go_wp2)
     go_ret
     exact ⟨by first | rfl | (simp [errW_none, errW_some] <;> rfl) | (simp [*, errW_none, errW_some] <;> rfl), by exact bh⟩

end Go.Proofs.Ytnandbgcejkonaa.QFnIdleLaws
