-- Printed for this claim by a turned copy of the print (wip/myprint). Lean checks it. Squeezed. Worded. Tightened.
import Derived.Test.YtnandbgcejkonaaQFnIdleLawsx0
import Derived.Test.YtnandbgcejkonaaQFnIdleLawsx2
import Derived.Test.YtnandbgcejkonaaQFnIdleLawsx3
namespace Go.Proofs.Ytnandbgcejkonaa.QFnIdleLaws
open Go.RowKit Go.Proofs.YtnandbgcejkonaaW.PrintWords Go.Proofs.YtnandbgcejkonaaW.PrintLast Go.Proofs.YtnandbgcejkonaaW.PrintMore
attribute [local go_sem] max2_int min2_int max_two min_two max_three min_three max_four min_four Opens.cell_twice   -- for this text's walks alone
set_option linter.unusedVariables false
set_option linter.unusedSimpArgs false

/-! ### slices_IndexFunc_w49: function 52 -/
def slices_IndexFunc_w49.l0 : Nat → List (S46) → Int → Int → List (S46) → Option (Int)
 | 0, _, _, _, _ => none
 | k + 1, x0, x7, x8, x950 => if x8 < x7 then (if 0 ≤ x8 then (if x8 < (x0.length : Int) then ((impl_unbeaten_1_c.f k ((rd_T46 x0 x8).f0) ((rd_T46 x0 x8).f1) ((rd_T46 x0 x8).f2) ((rd_T46 x0 x8).f3) ((rd_T46 x0 x8).f4) x950).bind fun t148 => (if t148 = true then (some x8) else (slices_IndexFunc_w49.l0 k x0 x7 (wrap64 (x8 + 1)) x950))) else (none)) else (none)) else (some (-1))
def slices_IndexFunc_w49.f (k : Nat) (l0 : List (S46)) (l1_0 : List (S46)) : Option (Int) := slices_IndexFunc_w49.l0 k l0 (l0.length : Int) 0 l1_0
theorem slices_IndexFunc_w49.mono_l : ∀ k, (∀ y0 y1 y2 y3, LeO (slices_IndexFunc_w49.l0 k y0 y1 y2 y3) (slices_IndexFunc_w49.l0 (k + 1) y0 y1 y2 y3))
 | 0 => fun _ _ _ _ r h => by simp [slices_IndexFunc_w49.l0] at h
 | k + 1 => by
  have ih0 := slices_IndexFunc_w49.mono_l k
  ·intro y0 y1 y2 y3
   unfold slices_IndexFunc_w49.l0
   repeat' first
   | (with_reducible exact ih0 _ _ _ _)
   | (with_reducible exact impl_unbeaten_1_c.mono _ _ _ _ _ _ _)
   | (with_reducible exact LeO.refl _)
   | (with_reducible exact LeO.none _)
   | (with_reducible refine LeO.ite ?_ ?_)
   | (with_reducible refine LeO.bind ?_ (fun _ => ?_))
   | exact ih0 _ _ _ _
   | exact impl_unbeaten_1_c.mono _ _ _ _ _ _ _
   | exact LeO.none _
   | refine LeO.ite ?_ ?_
   | refine LeO.bind ?_ (fun _ => ?_)
theorem slices_IndexFunc_w49.mono : ∀ a0 a1 k, LeO (slices_IndexFunc_w49.f k a0 a1) (slices_IndexFunc_w49.f (k + 1) a0 a1) := by
 intro a0 a1 k
 have ih0 := slices_IndexFunc_w49.mono_l k
 unfold slices_IndexFunc_w49.f
 repeat' first
   | (with_reducible exact ih0 _ _ _ _)
   | (with_reducible exact impl_unbeaten_1_c.mono _ _ _ _ _ _ _)
   | (with_reducible exact LeO.refl _)
   | (with_reducible exact LeO.none _)
   | (with_reducible refine LeO.ite ?_ ?_)
   | (with_reducible refine LeO.bind ?_ (fun _ => ?_))
   | exact ih0 _ _ _ _
   | exact impl_unbeaten_1_c.mono _ _ _ _ _ _ _
   | exact LeO.none _
   | refine LeO.ite ?_ ?_
   | refine LeO.bind ?_ (fun _ => ?_)
set_option maxHeartbeats 8000000 in
set_option maxRecDepth 100000 in
theorem slices_IndexFunc_w49.calls (k : Nat) (A0 : Option Addr) (c0 : Nat) (l0 : List (S46)) (A1_0 : Option Addr) (c1_0 : Nat) (l1_0 : List (S46)) (r : Int) (w : World) (hr0 : Kd.C k46 w A0 l0.length l0) (hc0 : l0.length ≤ c0) (hr1_0 : Kd.C k46 w A1_0 l1_0.length l1_0) (hc1_0 : l1_0.length ≤ c1_0) (h : slices_IndexFunc_w49.f k l0 l1_0 = some r) :
  Calls Try.prog 52 #[.slice A0 l0.length c0, .func (.func 49) #[] #[.pointer A1_0]] w fun e w' => e = .returned (.int .i64 r) ∧ Below w.heap.size w w' := by
 have hu46 := Try.underlying46
 have HR0 := Aside0.mk hr0
 have HC0 := Aside0.mk hc0
 clear hr0 hc0
 have HR1_0 := Aside0.mk hr1_0
 have HC1_0 := Aside0.mk hc1_0
 clear hr1_0 hc1_0
 have HB := Aside0.mk (Below.refl w.heap.size w)
 have H : (slices_IndexFunc_w49.l0 k l0 (l0.length : Int) 0 l1_0) = some r := h
 clear h
 have H' := Aside0.mk H
 clear H
 go_enter Try.func52, Try.ntmps52
 go_wp2
 go_loopg [8] k (fun kq v8 w' => ∃ (x8_1 : Int), v8 = .int .i64 x8_1 ∧ Aside0 (slices_IndexFunc_w49.l0 kq l0 (l0.length : Int) x8_1 l1_0 = some r) ∧ Aside0 (kq ≤ k) ∧ Aside0 (Below w.heap.size w w'))
 case atStart => exact ⟨(0), (by first | rfl | (simp; done) | (simp [*]; done)), H', ⟨Nat.le_refl _⟩, ⟨by exact bh⟩⟩
 case round =>
  clear H'
  try clear c1
  try clear p2
  obtain ⟨x8_1, rfl, HA, HK1, HB⟩ := hrel
  cases gk with
  | zero => exact absurd HA.out (by simp [slices_IndexFunc_w49.l0])
  | succ k1 =>
   have H := HA.out
   clear HA
   simp only [slices_IndexFunc_w49.l0] at H
   by_cases c3 : x8_1 < (l0.length : Int)
   ·rw [if_pos c3] at H
    have c3b0 : decide (x8_1 < (l0.length : Int)) = true := decide_eq_true c3
    clear c3
    by_cases c4 : 0 ≤ x8_1
    ·rw [if_pos c4] at H
     have c4b0 : decide (0 ≤ x8_1) = true := decide_eq_true c4
     clear c4
     by_cases c5 : x8_1 < (l0.length : Int)
     ·rw [if_pos c5] at H
      have c5b0 : decide (x8_1 < (l0.length : Int)) = true := decide_eq_true c5
      clear c5
      replace H := Option.bind_eq_some_iff.mp H
      obtain ⟨t148, A60, H⟩ := H
      replace H : (if t148 = true then (some x8_1) else (slices_IndexFunc_w49.l0 k1 l0 (l0.length : Int) (wrap64 (x8_1 + 1)) l1_0)) = some r := H
      have A6 := Aside0.mk A60
      clear A60
      by_cases c7 : t148 = true
      ·subst c7
       have H1 : (some x8_1) = some r := by rw [if_pos rfl] at H; exact H
       clear H
       have H := H1
       clear H1
       obtain rfl := Option.some.inj H
       have p147 : 0 ≤ (x8_1 : Int) := oda
       have q147 : x8_1 < (l0.length : Int) := oda
       obtain ⟨ad147, e147, hx147_0, hx147_1, hx147_2, hx147_3, hx147_4⟩ := at_T46 HR0.out x8_1 p147 q147
       cases e147
       replace hx147_0 := (HB.out.cell (World.block_lt_of_cell? w _ hx147_0)).trans hx147_0
       replace hx147_1 := (HB.out.cell (World.block_lt_of_cell? w _ hx147_1)).trans hx147_1
       replace hx147_2 := (HB.out.cell (World.block_lt_of_cell? w _ hx147_2)).trans hx147_2
       replace hx147_3 := (HB.out.cell (World.block_lt_of_cell? w _ hx147_3)).trans hx147_3
       replace hx147_4 := (HB.out.cell (World.block_lt_of_cell? w _ hx147_4)).trans hx147_4
       replace p147 := eq_true p147
       replace q147 := eq_true q147
       go_wp2_with (first | (go_at_call 49; (with_reducible refine (impl_unbeaten_1_c.calls k1 ((rd_T46 l0 x8_1).f0) ((rd_T46 l0 x8_1).f1) ((rd_T46 l0 x8_1).f2) ((rd_T46 l0 x8_1).f3) ((rd_T46 l0 x8_1).f4) _ c1_0 l1_0 true _ ?side1 ?side2 A6.out).mono ?_); (case side1 => repeat (first | exact (Kd.C_below HR1_0.out HB.out) | (with_reducible refine Kd.C_alloc ?_ _) | (with_reducible refine Kd.C_drewN ?_ _) | (with_reducible refine Kd.C_drew ?_))); (case side2 => exact HC1_0.out); rintro e w8 ⟨rfl, hb⟩; have n0_ := Aside0.mk (below_step bh hb); clear HB; have HB := n0_; clear n0_; (try clear hb); (try clear hb2); (try clear hk); (try clear hi)))
       go_ret
       exact ⟨by first | rfl | (simp [errW_none, errW_some] <;> rfl) | (simp [*, errW_none, errW_some] <;> rfl), by exact bh⟩
      ·replace c7 := Bool.eq_false_iff.mpr c7
       subst c7
       have H1 : (slices_IndexFunc_w49.l0 k1 l0 (l0.length : Int) (wrap64 (x8_1 + 1)) l1_0) = some r := by rw [if_neg (show ¬ (false = true) by decide)] at H; exact H
       clear H
       have H := H1
       clear H1
       have H' := Aside0.mk H
       clear H
       have p147 : 0 ≤ (x8_1 : Int) := oda
       have q147 : x8_1 < (l0.length : Int) := oda
       obtain ⟨ad147, e147, hx147_0, hx147_1, hx147_2, hx147_3, hx147_4⟩ := at_T46 HR0.out x8_1 p147 q147
       cases e147
       replace hx147_0 := (HB.out.cell (World.block_lt_of_cell? w _ hx147_0)).trans hx147_0
       replace hx147_1 := (HB.out.cell (World.block_lt_of_cell? w _ hx147_1)).trans hx147_1
       replace hx147_2 := (HB.out.cell (World.block_lt_of_cell? w _ hx147_2)).trans hx147_2
       replace hx147_3 := (HB.out.cell (World.block_lt_of_cell? w _ hx147_3)).trans hx147_3
       replace hx147_4 := (HB.out.cell (World.block_lt_of_cell? w _ hx147_4)).trans hx147_4
       replace p147 := eq_true p147
       replace q147 := eq_true q147
       go_wp2_with (first | (go_at_call 49; (with_reducible refine (impl_unbeaten_1_c.calls k1 ((rd_T46 l0 x8_1).f0) ((rd_T46 l0 x8_1).f1) ((rd_T46 l0 x8_1).f2) ((rd_T46 l0 x8_1).f3) ((rd_T46 l0 x8_1).f4) _ c1_0 l1_0 false _ ?side1 ?side2 A6.out).mono ?_); (case side1 => repeat (first | exact (Kd.C_below HR1_0.out HB.out) | (with_reducible refine Kd.C_alloc ?_ _) | (with_reducible refine Kd.C_drewN ?_ _) | (with_reducible refine Kd.C_drew ?_))); (case side2 => exact HC1_0.out); rintro e w9 ⟨rfl, hb⟩; have n0_ := Aside0.mk (below_step bh hb); clear HB; have HB := n0_; clear n0_; (try clear hb); (try clear hb2); (try clear hk); (try clear hi)))
       go_roundg k1
       case measure => have := HK1.out; omega
       case rel => exact ⟨(wrap64 (x8_1 + 1)), (by first | rfl | (simp; done) | (simp [*]; done)), H', ⟨by have := HK1.out; omega⟩, ⟨by exact bh⟩⟩
     ·rw [if_neg c5] at H
      exact absurd H (by simp)
    ·rw [if_neg c4] at H
     exact absurd H (by simp)
   ·rw [if_neg c3] at H
    have c3b0 : decide (x8_1 < (l0.length : Int)) = false := decide_eq_false c3
    clear c3
    obtain rfl := Option.some.inj H
    go_wp2
    go_ret
    exact ⟨by first | rfl | (simp [errW_none, errW_some] <;> rfl) | (simp [*, errW_none, errW_some] <;> rfl), by exact bh⟩

/-! ### slices_ContainsFunc_w49: function 44 -/
def slices_ContainsFunc_w49.f (k : Nat) (l0 : List (S46)) (l1_0 : List (S46)) : Option (Bool) := (slices_IndexFunc_w49.f k l0 l1_0).bind fun t149 => (some (decide (t149 ≥ 0)))
theorem slices_ContainsFunc_w49.mono : ∀ a0 a1 k, LeO (slices_ContainsFunc_w49.f k a0 a1) (slices_ContainsFunc_w49.f (k + 1) a0 a1) := by
 intro a0 a1 k
 unfold slices_ContainsFunc_w49.f
 repeat' first
   | (with_reducible exact slices_IndexFunc_w49.mono _ _ _)
   | (with_reducible exact LeO.refl _)
   | (with_reducible exact LeO.none _)
   | (with_reducible refine LeO.ite ?_ ?_)
   | (with_reducible refine LeO.bind ?_ (fun _ => ?_))
   | exact slices_IndexFunc_w49.mono _ _ _
   | exact LeO.none _
   | refine LeO.ite ?_ ?_
   | refine LeO.bind ?_ (fun _ => ?_)
set_option maxHeartbeats 8000000 in
set_option maxRecDepth 100000 in
theorem slices_ContainsFunc_w49.calls (k : Nat) (A0 : Option Addr) (c0 : Nat) (l0 : List (S46)) (A1_0 : Option Addr) (c1_0 : Nat) (l1_0 : List (S46)) (r : Bool) (w : World) (hr0 : Kd.C k46 w A0 l0.length l0) (hc0 : l0.length ≤ c0) (hr1_0 : Kd.C k46 w A1_0 l1_0.length l1_0) (hc1_0 : l1_0.length ≤ c1_0) (h : slices_ContainsFunc_w49.f k l0 l1_0 = some r) :
  Calls Try.prog 44 #[.slice A0 l0.length c0, .func (.func 49) #[] #[.pointer A1_0]] w fun e w' => e = .returned (.bool r) ∧ Below w.heap.size w w' := by
 have HR0 := Aside0.mk hr0
 have HC0 := Aside0.mk hc0
 clear hr0 hc0
 have HR1_0 := Aside0.mk hr1_0
 have HC1_0 := Aside0.mk hc1_0
 clear hr1_0 hc1_0
 have HB := Aside0.mk (Below.refl w.heap.size w)
 have H : ((slices_IndexFunc_w49.f k l0 l1_0).bind fun t149 => (some (decide (t149 ≥ 0)))) = some r := h
 clear h
 replace H := Option.bind_eq_some_iff.mp H
 obtain ⟨t149, A30, H⟩ := H
 replace H : (some (decide (t149 ≥ 0))) = some r := H
 have A3 := Aside0.mk A30
 clear A30
 obtain rfl := Option.some.inj H
 go_enter Try.func44, Try.ntmps44
 go_wp2_with (first | ((with_reducible refine gate_callee (f := 52) rfl ?_); refine goesL_ (some 7) rfl rfl Try.func52 kr rfl #[.slice A0 l0.length c0, .func (.func 49) #[] #[.pointer A1_0]] rfl lm ?_; (with_reducible refine (slices_IndexFunc_w49.calls k _ _ l0 _ c1_0 l1_0 t149 _ ?side1 ?side2 ?side3 ?side4 A3.out).mono ?_); (case side1 => repeat (first | exact HR0.out | (with_reducible refine Kd.C_alloc ?_ _) | (with_reducible refine Kd.C_drewN ?_ _) | (with_reducible refine Kd.C_drew ?_))); (case side2 => exact HC0.out); (case side3 => repeat (first | exact HR1_0.out | (with_reducible refine Kd.C_alloc ?_ _) | (with_reducible refine Kd.C_drewN ?_ _) | (with_reducible refine Kd.C_drew ?_))); (case side4 => exact HC1_0.out); rintro e w4 ⟨rfl, hb⟩; refine ⟨_, rfl, ?_⟩; have n0_ := Aside0.mk (below_step bh hb); clear HB; have HB := n0_; clear n0_; (try clear hb); (try clear hb2); (try clear hk); (try clear hi)))
 go_ret
 exact ⟨by first | rfl | (simp [errW_none, errW_some] <;> rfl) | (simp [*, errW_none, errW_some] <;> rfl), by exact bh⟩

/-! ### impl_unbeaten: function 35 -/
mutual
def impl_unbeaten.l0 : Nat → List (S46) → Int → Int → List (S46) → List (S46) → Int → Int → Option (List Int)
 | 0, _, _, _, _, _, _, _ => none
 | k + 1, x0, x1, x2, x7, x14, x15, x16 => if x16 < x15 then (if 0 ≤ x16 then (if x16 < (x14.length : Int) then (if ((rd_T46 x14 x16).f0) = x1 then (if (Go.bits .andNot .i64 ((rd_T46 x14 x16).f1) x2) = 0 then (if x7.length < 3518437208883 then (impl_unbeaten.l0 k x0 x1 x2 (x7 ++ [(⟨(rd_T46 x14 x16).f0, (rd_T46 x14 x16).f1, (rd_T46 x14 x16).f2, (rd_T46 x14 x16).f3, (rd_T46 x14 x16).f4⟩ : S46)]) x14 x15 (wrap64 (x16 + 1))) else (none)) else (impl_unbeaten.l0 k x0 x1 x2 x7 x14 x15 (wrap64 (x16 + 1)))) else (impl_unbeaten.l0 k x0 x1 x2 x7 x14 x15 (wrap64 (x16 + 1)))) else (none)) else (none)) else (impl_unbeaten.l1 k x7 (([] : List Int)) x0 (x0.length : Int) 0)
def impl_unbeaten.l1 : Nat → List (S46) → List Int → List (S46) → Int → Int → Option (List Int)
 | 0, _, _, _, _, _ => none
 | k + 1, x7, x10, x37, x38, x39 => if x39 < x38 then (if 0 ≤ x39 then (if x39 < (x37.length : Int) then ((impl_Law_48.f k x7 ((rd_T46 x37 x39).f0) ((rd_T46 x37 x39).f1) ((rd_T46 x37 x39).f2) ((rd_T46 x37 x39).f3) ((rd_T46 x37 x39).f4)).bind fun t163 => (if t163 = true then ((slices_ContainsFunc_w49.f k x7 [(⟨(rd_T46 x37 x39).f0, (rd_T46 x37 x39).f1, (rd_T46 x37 x39).f2, (rd_T46 x37 x39).f3, (rd_T46 x37 x39).f4⟩ : S46)]).bind fun t164 => (if t164 = true then (impl_unbeaten.l1 k x7 x10 x37 x38 (wrap64 (x39 + 1))) else (if x10.length < 17592186044416 then (impl_unbeaten.l1 k x7 (x10 ++ [x39]) x37 x38 (wrap64 (x39 + 1))) else (none)))) else (impl_unbeaten.l1 k x7 x10 x37 x38 (wrap64 (x39 + 1))))) else (none)) else (none)) else (some x10)
end
def impl_unbeaten.f (k : Nat) (l0 : List (S46)) (a1 : Int) (a2 : Int) : Option (List Int) := impl_unbeaten.l0 k l0 a1 a2 (([] : List (S46))) l0 (l0.length : Int) 0
theorem impl_unbeaten.mono_l : ∀ k, (∀ y0 y1 y2 y3 y4 y5 y6, LeO (impl_unbeaten.l0 k y0 y1 y2 y3 y4 y5 y6) (impl_unbeaten.l0 (k + 1) y0 y1 y2 y3 y4 y5 y6)) ∧ (∀ y0 y1 y2 y3 y4, LeO (impl_unbeaten.l1 k y0 y1 y2 y3 y4) (impl_unbeaten.l1 (k + 1) y0 y1 y2 y3 y4))
 | 0 => ⟨fun _ _ _ _ _ _ _ r h => by simp [impl_unbeaten.l0] at h, fun _ _ _ _ _ r h => by simp [impl_unbeaten.l1] at h⟩
 | k + 1 => by
  obtain ⟨ih0, ih1⟩ := impl_unbeaten.mono_l k
  refine ⟨?_, ?_⟩
  ·intro y0 y1 y2 y3 y4 y5 y6
   unfold impl_unbeaten.l0
   repeat' first
   | (with_reducible exact ih0 _ _ _ _ _ _ _)
   | (with_reducible exact ih1 _ _ _ _ _)
   | (with_reducible exact impl_Law_48.mono _ _ _ _ _ _ _)
   | (with_reducible exact slices_ContainsFunc_w49.mono _ _ _)
   | (with_reducible exact LeO.refl _)
   | (with_reducible exact LeO.none _)
   | (with_reducible refine LeO.ite ?_ ?_)
   | (with_reducible refine LeO.bind ?_ (fun _ => ?_))
   | exact ih0 _ _ _ _ _ _ _
   | exact ih1 _ _ _ _ _
   | exact impl_Law_48.mono _ _ _ _ _ _ _
   | exact slices_ContainsFunc_w49.mono _ _ _
   | exact LeO.none _
   | refine LeO.ite ?_ ?_
   | refine LeO.bind ?_ (fun _ => ?_)
  ·intro y0 y1 y2 y3 y4
   unfold impl_unbeaten.l1
   repeat' first
   | (with_reducible exact ih0 _ _ _ _ _ _ _)
   | (with_reducible exact ih1 _ _ _ _ _)
   | (with_reducible exact impl_Law_48.mono _ _ _ _ _ _ _)
   | (with_reducible exact slices_ContainsFunc_w49.mono _ _ _)
   | (with_reducible exact LeO.refl _)
   | (with_reducible exact LeO.none _)
   | (with_reducible refine LeO.ite ?_ ?_)
   | (with_reducible refine LeO.bind ?_ (fun _ => ?_))
   | exact ih0 _ _ _ _ _ _ _
   | exact ih1 _ _ _ _ _
   | exact impl_Law_48.mono _ _ _ _ _ _ _
   | exact slices_ContainsFunc_w49.mono _ _ _
   | exact LeO.none _
   | refine LeO.ite ?_ ?_
   | refine LeO.bind ?_ (fun _ => ?_)
theorem impl_unbeaten.mono : ∀ a0 a1 a2 k, LeO (impl_unbeaten.f k a0 a1 a2) (impl_unbeaten.f (k + 1) a0 a1 a2) := by
 intro a0 a1 a2 k
 obtain ⟨ih0, ih1⟩ := impl_unbeaten.mono_l k
 unfold impl_unbeaten.f
 repeat' first
   | (with_reducible exact ih0 _ _ _ _ _ _ _)
   | (with_reducible exact ih1 _ _ _ _ _)
   | (with_reducible exact impl_Law_48.mono _ _ _ _ _ _ _)
   | (with_reducible exact slices_ContainsFunc_w49.mono _ _ _)
   | (with_reducible exact LeO.refl _)
   | (with_reducible exact LeO.none _)
   | (with_reducible refine LeO.ite ?_ ?_)
   | (with_reducible refine LeO.bind ?_ (fun _ => ?_))
   | exact ih0 _ _ _ _ _ _ _
   | exact ih1 _ _ _ _ _
   | exact impl_Law_48.mono _ _ _ _ _ _ _
   | exact slices_ContainsFunc_w49.mono _ _ _
   | exact LeO.none _
   | refine LeO.ite ?_ ?_
   | refine LeO.bind ?_ (fun _ => ?_)
set_option maxHeartbeats 8000000 in
set_option maxRecDepth 100000 in
theorem impl_unbeaten.calls (k : Nat) (A0 : Option Addr) (c0 : Nat) (l0 : List (S46)) (a1 : Int) (a2 : Int) (r : List Int) (w : World) (hr0 : Kd.C k46 w A0 l0.length l0) (hc0 : l0.length ≤ c0) (h : impl_unbeaten.f k l0 a1 a2 = some r) :
  Calls Try.prog 35 #[.slice A0 l0.length c0, .int .i64 a1, .int .i64 a2] w fun e w' => ∃ v0_ : Value, e = .returned (v0_) ∧ Kd.R (Kd.int .i64) 3 w' w.heap.size (fun _ => True) v0_ r ∧ Below w.heap.size w w' := by
 have hu46 := Try.underlying46
 have hmf_ : ∀ (fn_ : Fn) (first_ cap_ : Array Value) (w_ : World), (Instr.makeFunc fn_ first_ cap_).run Try.prog w_ = .ok (.func fn_ first_ cap_) w_ := fun _ _ _ _ => rfl
 have HR0 := Aside0.mk hr0
 have HC0 := Aside0.mk hc0
 clear hr0 hc0
 have HB := Aside0.mk (Below.refl w.heap.size w)
 have H : (impl_unbeaten.l0 k l0 a1 a2 (([] : List (S46))) l0 (l0.length : Int) 0) = some r := h
 clear h
 obtain ⟨y150, hy150⟩ : ∃ y_ : List (S46), y_ = (([] : List (S46))) := ⟨_, rfl⟩
 replace H : (impl_unbeaten.l0 k l0 a1 a2 y150 l0 (l0.length : Int) 0) = some r := by first | (rw [hy150]; with_reducible exact H) | (have H2_ := (Option.bind_some _ _).symm.trans H; rw [hy150]; with_reducible exact H2_) | (have H2_ := (Option.bind_some _ _).symm.trans H; with_reducible exact H2_) | with_reducible exact H | (rw [hy150]; exact H) | exact H
 have Ny150 := Aside0.mk hy150
 clear hy150
 have H' := Aside0.mk H
 clear H
 go_enter Try.func35, Try.ntmps35
 go_wp2_with (first | ((with_reducible refine gate_dst (N := 13) rfl ?_); refine Kd.R_lit k46 _ 46 ?hg (N := 13) ?hd (xs := ([] : List (S46))) (inner := []) (ok := fun _ => True) (okp := fun _ => True) ?hr ?hp (fun _ hk => hk) trivial (Below.refl _ _) (Nat.le_refl _) (by simp) ?_; (case hd => rfl); (case hg => rfl); (case hr => first | (go_simp; done) | (go_simp; rfl)); (case hp => exact (Reps.none _ _)); intro v151 w4 ho5 hb hg_ hnew_; clear hg_ hnew_; (first | rw [← Ny150.out] at ho5 | (simp only [Int.reduceToNat] at ho5; rw [← Ny150.out] at ho5)); have n0_ := Aside0.mk (Kd.R_lower ho5 (below_size bh)); have n1_ := Aside0.mk (below_step bh hb); clear HB; have HO152 := n0_; have HB := n1_; clear n0_ n1_ hb ho5))
 go_loopg [7, 16] k (fun kq v7 v16 w' => ∃ (x7_1 : List (S46)) (x16_1 : Int), v16 = .int .i64 x16_1 ∧ Aside0 (impl_unbeaten.l0 kq l0 a1 a2 x7_1 l0 (l0.length : Int) x16_1 = some r) ∧ Aside0 (kq ≤ k) ∧ Aside0 (Kd.R k46 46 w' w.heap.size (fun _ => True) v7 x7_1) ∧ Aside0 (Below w.heap.size w w'))
 case atStart => exact ⟨(y150), (0), (by first | rfl | (simp; done) | (simp [*]; done)), H', ⟨Nat.le_refl _⟩, ⟨rz HO152⟩, ⟨by exact bh⟩⟩
 case round =>
  clear H'
  try clear p2
  try clear c3
  obtain ⟨x7_1, x16_1, rfl, HA, HK1, HO_7, HB⟩ := hrel
  cases gk with
  | zero => exact absurd HA.out (by simp [impl_unbeaten.l0])
  | succ k1 =>
   have H := HA.out
   clear HA
   simp only [impl_unbeaten.l0] at H
   by_cases c6 : x16_1 < (l0.length : Int)
   ·rw [if_pos c6] at H
    have c6b0 : decide (x16_1 < (l0.length : Int)) = true := decide_eq_true c6
    clear c6
    by_cases c7 : 0 ≤ x16_1
    ·rw [if_pos c7] at H
     have c7b0 : decide (0 ≤ x16_1) = true := decide_eq_true c7
     clear c7
     by_cases c8 : x16_1 < (l0.length : Int)
     ·rw [if_pos c8] at H
      have c8b0 : decide (x16_1 < (l0.length : Int)) = true := decide_eq_true c8
      clear c8
      by_cases c9 : ((rd_T46 l0 x16_1).f0) = a1
      ·rw [if_pos c9] at H
       have c9b0 : (((rd_T46 l0 x16_1).f0) == a1) = true := beq_iff_eq.mpr c9
       have c9b1 : (((rd_T46 l0 x16_1).f0) != a1) = false := bne_eq_false_iff_eq.mpr c9
       clear c9
       by_cases c10 : (Go.bits .andNot .i64 ((rd_T46 l0 x16_1).f1) a2) = 0
       ·rw [if_pos c10] at H
        have c10b0 : ((Go.bits .andNot .i64 ((rd_T46 l0 x16_1).f1) a2) == 0) = true := beq_iff_eq.mpr c10
        have c10b1 : ((Go.bits .andNot .i64 ((rd_T46 l0 x16_1).f1) a2) != 0) = false := bne_eq_false_iff_eq.mpr c10
        clear c10
        by_cases c11 : x7_1.length < 3518437208883
        ·rw [if_pos c11] at H
         have LMc11 := Aside0.mk c11
         clear c11
         obtain ⟨y155, hy155⟩ : ∃ y_ : List (S46), y_ = (x7_1 ++ [(⟨(rd_T46 l0 x16_1).f0, (rd_T46 l0 x16_1).f1, (rd_T46 l0 x16_1).f2, (rd_T46 l0 x16_1).f3, (rd_T46 l0 x16_1).f4⟩ : S46)]) := ⟨_, rfl⟩
         replace H : (impl_unbeaten.l0 k1 l0 a1 a2 y155 l0 (l0.length : Int) (wrap64 (x16_1 + 1))) = some r := by first | (rw [hy155]; with_reducible exact H) | (have H2_ := (Option.bind_some _ _).symm.trans H; rw [hy155]; with_reducible exact H2_) | (have H2_ := (Option.bind_some _ _).symm.trans H; with_reducible exact H2_) | with_reducible exact H | (rw [hy155]; exact H) | exact H
         have Ny155 := Aside0.mk hy155
         clear hy155
         have H' := Aside0.mk H
         clear H
         have p153 : 0 ≤ (x16_1 : Int) := oda
         have q153 : x16_1 < (l0.length : Int) := oda
         obtain ⟨ad153, e153, hx153_0, hx153_1, hx153_2, hx153_3, hx153_4⟩ := at_T46 HR0.out x16_1 p153 q153
         cases e153
         replace hx153_0 := (HB.out.cell (World.block_lt_of_cell? w _ hx153_0)).trans hx153_0
         replace hx153_1 := (HB.out.cell (World.block_lt_of_cell? w _ hx153_1)).trans hx153_1
         replace hx153_2 := (HB.out.cell (World.block_lt_of_cell? w _ hx153_2)).trans hx153_2
         replace hx153_3 := (HB.out.cell (World.block_lt_of_cell? w _ hx153_3)).trans hx153_3
         replace hx153_4 := (HB.out.cell (World.block_lt_of_cell? w _ hx153_4)).trans hx153_4
         replace p153 := eq_true p153
         replace q153 := eq_true q153
         go_wp2_with (first | ((with_reducible refine gate_dst (N := 9) rfl ?_); refine box_event ?hg (N := 9) ?hd (cs := #[.int .i64 0, .int .i64 0, .int .i64 0, .int .i64 0, .bool false]) (t := 46) ?hr ?_; (case hd => rfl); (case hg => rfl); (case hr => first | (go_simp; done) | (go_simp; rfl)); intro gb154 hg w12 hbox hb; have n0_ := Aside0.mk (Kd.R_below (Kd.R_elderB (rz HO_7) gb154 (Nat.le_of_eq hg.symm)) hb); have n1_ := Aside0.mk (below_step bh hb); have n2_ := Aside0.mk (hbox); have n3_ := Aside0.mk ((gs (W0 := w) hg bh)); have n4_ := Aside0.mk ((gs (W0 := w) hg bh)); clear HO_7 HB; have HO_7 := n0_; have HB := n1_; have BK154 := n2_; have GW154 := n3_; have GE154 := n4_; clear n0_ n1_ n2_ n3_ n4_ hb hbox hg; have hcz13_0 := cz0 BK154; have hcz13_1 := cz1 BK154; have hcz13_2 := cz2 BK154; have hcz13_3 := cz3 BK154; have hcz13_4 := cz4 BK154; have hfz13_0 := blk_frozen BK154.out 0; have hfz13_1 := blk_frozen BK154.out 1; have hfz13_2 := blk_frozen BK154.out 2; have hfz13_3 := blk_frozen BK154.out 3; have hfz13_4 := blk_frozen BK154.out 4) | ((with_reducible refine gate_builtin (b := .append) (xs := #[.tmp 31, .tmp 33]) rfl ?_); at_builtin; refine Kd.R_append k46 (w0 := w) w.heap.size rfl (.tmp 31) (.tmp 33) 23 46 (.agg #[(.int .i64 0), (.int .i64 0), (.int .i64 0), (.int .i64 0), (.bool false)]) 40 rfl Try.underlying23 info46 rfl (by decide) (by omega) u7 x7_1 (⟨(rd_T46 l0 x16_1).f0, (rd_T46 l0 x16_1).f1, (rd_T46 l0 x16_1).f2, (rd_T46 l0 x16_1).f3, (rd_T46 l0 x16_1).f4⟩ : S46) [.int .i64 ((rd_T46 l0 x16_1).f0), .int .i64 ((rd_T46 l0 x16_1).f1), .int .i64 ((rd_T46 l0 x16_1).f2), .int .i64 ((rd_T46 l0 x16_1).f3), .bool ((rd_T46 l0 x16_1).f4)] (fun k_ => k_ ≠ gb154) (fun _ => False) rfl (by first | (go_simp; done) | (go_simp; rfl)) ?aP (fun _ hk => hk.elim) ?aF ?aO ?aB ?aS ?aL ?_; (case aP => exact k46_mkM _ _ _ (⟨(rd_T46 l0 x16_1).f0, (rd_T46 l0 x16_1).f1, (rd_T46 l0 x16_1).f2, (rd_T46 l0 x16_1).f3, (rd_T46 l0 x16_1).f4⟩ : S46)); (case aB => exact bh); (case aF => exact (fun k_ hk => Kd.freshB (g := gb154) (o := .cells #[.int .i64 ((rd_T46 l0 x16_1).f0), .int .i64 ((rd_T46 l0 x16_1).f1), .int .i64 ((rd_T46 l0 x16_1).f2), .int .i64 ((rd_T46 l0 x16_1).f3), .bool ((rd_T46 l0 x16_1).f4)] 46 (0, 0)) (bp BK154) k_ hk)); (case aO => exact (vR HO_7 (fun _ hk => hk.2))); (case aS => exact (below_size bh)); (case aL => have := LMc11.out; omega); intro v156 w14 ho hb hg hat; rw [← Ny155.out] at ho; have n0_ := Aside0.mk (blk_grown (g := gb154) (o := .cells #[.int .i64 ((rd_T46 l0 x16_1).f0), .int .i64 ((rd_T46 l0 x16_1).f1), .int .i64 ((rd_T46 l0 x16_1).f2), .int .i64 ((rd_T46 l0 x16_1).f3), .bool ((rd_T46 l0 x16_1).f4)] 46 (0, 0)) (bp BK154) hg (Kd.R_away HO_7.out (fun _ hk => hk.2))); have n1_ := Aside0.mk (hb); have n2_ := Aside0.mk (ho); clear BK154 HB HO_7; have BK154 := n0_; have HB := n1_; have HO157 := n2_; clear n0_ n1_ n2_ ho hb hg hat))
         go_roundg k1
         case measure => have := HK1.out; omega
         case rel => exact ⟨(y155), (wrap64 (x16_1 + 1)), (by first | rfl | (simp; done) | (simp [*]; done)), H', ⟨by have := HK1.out; omega⟩, ⟨mR HO157⟩, ⟨by exact bh⟩⟩
        ·rw [if_neg c11] at H
         exact absurd H (by simp)
       ·rw [if_neg c10] at H
        have c10b0 : ((Go.bits .andNot .i64 ((rd_T46 l0 x16_1).f1) a2) == 0) = false := beq_eq_false_iff_ne.mpr c10
        have c10b1 : ((Go.bits .andNot .i64 ((rd_T46 l0 x16_1).f1) a2) != 0) = true := bne_iff_ne.mpr c10
        have H' := Aside0.mk H
        clear H
        have p153 : 0 ≤ (x16_1 : Int) := oda
        have q153 : x16_1 < (l0.length : Int) := oda
        obtain ⟨ad153, e153, hx153_0, hx153_1, hx153_2, hx153_3, hx153_4⟩ := at_T46 HR0.out x16_1 p153 q153
        cases e153
        replace hx153_0 := (HB.out.cell (World.block_lt_of_cell? w _ hx153_0)).trans hx153_0
        replace hx153_1 := (HB.out.cell (World.block_lt_of_cell? w _ hx153_1)).trans hx153_1
        replace hx153_2 := (HB.out.cell (World.block_lt_of_cell? w _ hx153_2)).trans hx153_2
        replace hx153_3 := (HB.out.cell (World.block_lt_of_cell? w _ hx153_3)).trans hx153_3
        replace hx153_4 := (HB.out.cell (World.block_lt_of_cell? w _ hx153_4)).trans hx153_4
        replace p153 := eq_true p153
        replace q153 := eq_true q153
        go_wp2_with (first | ((with_reducible refine gate_dst (N := 9) rfl ?_); refine box_event ?hg (N := 9) ?hd (cs := #[.int .i64 0, .int .i64 0, .int .i64 0, .int .i64 0, .bool false]) (t := 46) ?hr ?_; (case hd => rfl); (case hg => rfl); (case hr => first | (go_simp; done) | (go_simp; rfl)); intro gb154 hg w15 hbox hb; have n0_ := Aside0.mk (Kd.R_below (Kd.R_elderB (rz HO_7) gb154 (Nat.le_of_eq hg.symm)) hb); have n1_ := Aside0.mk (below_step bh hb); have n2_ := Aside0.mk (hbox); have n3_ := Aside0.mk ((gs (W0 := w) hg bh)); have n4_ := Aside0.mk ((gs (W0 := w) hg bh)); clear HO_7 HB; have HO_7 := n0_; have HB := n1_; have BK154 := n2_; have GW154 := n3_; have GE154 := n4_; clear n0_ n1_ n2_ n3_ n4_ hb hbox hg; have hcz16_0 := cz0 BK154; have hcz16_1 := cz1 BK154; have hcz16_2 := cz2 BK154; have hcz16_3 := cz3 BK154; have hcz16_4 := cz4 BK154; have hfz16_0 := blk_frozen BK154.out 0; have hfz16_1 := blk_frozen BK154.out 1; have hfz16_2 := blk_frozen BK154.out 2; have hfz16_3 := blk_frozen BK154.out 3; have hfz16_4 := blk_frozen BK154.out 4))
        go_roundg k1
        case measure => have := HK1.out; omega
        case rel => exact ⟨(x7_1), (wrap64 (x16_1 + 1)), (by first | rfl | (simp; done) | (simp [*]; done)), H', ⟨by have := HK1.out; omega⟩, ⟨vR HO_7 (fun _ hk => hk.2)⟩, ⟨by exact bh⟩⟩
      ·rw [if_neg c9] at H
       have c9b0 : (((rd_T46 l0 x16_1).f0) == a1) = false := beq_eq_false_iff_ne.mpr c9
       have c9b1 : (((rd_T46 l0 x16_1).f0) != a1) = true := bne_iff_ne.mpr c9
       have H' := Aside0.mk H
       clear H
       have p153 : 0 ≤ (x16_1 : Int) := oda
       have q153 : x16_1 < (l0.length : Int) := oda
       obtain ⟨ad153, e153, hx153_0, hx153_1, hx153_2, hx153_3, hx153_4⟩ := at_T46 HR0.out x16_1 p153 q153
       cases e153
       replace hx153_0 := (HB.out.cell (World.block_lt_of_cell? w _ hx153_0)).trans hx153_0
       replace hx153_1 := (HB.out.cell (World.block_lt_of_cell? w _ hx153_1)).trans hx153_1
       replace hx153_2 := (HB.out.cell (World.block_lt_of_cell? w _ hx153_2)).trans hx153_2
       replace hx153_3 := (HB.out.cell (World.block_lt_of_cell? w _ hx153_3)).trans hx153_3
       replace hx153_4 := (HB.out.cell (World.block_lt_of_cell? w _ hx153_4)).trans hx153_4
       replace p153 := eq_true p153
       replace q153 := eq_true q153
       go_wp2_with (first | ((with_reducible refine gate_dst (N := 9) rfl ?_); refine box_event ?hg (N := 9) ?hd (cs := #[.int .i64 0, .int .i64 0, .int .i64 0, .int .i64 0, .bool false]) (t := 46) ?hr ?_; (case hd => rfl); (case hg => rfl); (case hr => first | (go_simp; done) | (go_simp; rfl)); intro gb154 hg w17 hbox hb; have n0_ := Aside0.mk (Kd.R_below (Kd.R_elderB (rz HO_7) gb154 (Nat.le_of_eq hg.symm)) hb); have n1_ := Aside0.mk (below_step bh hb); have n2_ := Aside0.mk (hbox); have n3_ := Aside0.mk ((gs (W0 := w) hg bh)); have n4_ := Aside0.mk ((gs (W0 := w) hg bh)); clear HO_7 HB; have HO_7 := n0_; have HB := n1_; have BK154 := n2_; have GW154 := n3_; have GE154 := n4_; clear n0_ n1_ n2_ n3_ n4_ hb hbox hg; have hcz18_0 := cz0 BK154; have hcz18_1 := cz1 BK154; have hcz18_2 := cz2 BK154; have hcz18_3 := cz3 BK154; have hcz18_4 := cz4 BK154; have hfz18_0 := blk_frozen BK154.out 0; have hfz18_1 := blk_frozen BK154.out 1; have hfz18_2 := blk_frozen BK154.out 2; have hfz18_3 := blk_frozen BK154.out 3; have hfz18_4 := blk_frozen BK154.out 4))
       go_roundg k1
       case measure => have := HK1.out; omega
       case rel => exact ⟨(x7_1), (wrap64 (x16_1 + 1)), (by first | rfl | (simp; done) | (simp [*]; done)), H', ⟨by have := HK1.out; omega⟩, ⟨vR HO_7 (fun _ hk => hk.2)⟩, ⟨by exact bh⟩⟩
     ·rw [if_neg c8] at H
      exact absurd H (by simp)
    ·rw [if_neg c7] at H
     exact absurd H (by simp)
   ·rw [if_neg c6] at H
    have c6b0 : decide (x16_1 < (l0.length : Int)) = false := decide_eq_false c6
    clear c6
    obtain ⟨y158, hy158⟩ : ∃ y_ : List Int, y_ = (([] : List Int)) := ⟨_, rfl⟩
    replace H : (impl_unbeaten.l1 k1 x7_1 y158 l0 (l0.length : Int) 0) = some r := by first | (rw [hy158]; with_reducible exact H) | (have H2_ := (Option.bind_some _ _).symm.trans H; rw [hy158]; with_reducible exact H2_) | (have H2_ := (Option.bind_some _ _).symm.trans H; with_reducible exact H2_) | with_reducible exact H | (rw [hy158]; exact H) | exact H
    have Ny158 := Aside0.mk hy158
    clear hy158
    have H' := Aside0.mk H
    clear H
    go_wp2_with (first | ((with_reducible refine gate_dst (N := 36) rfl ?_); refine Kd.R_lit (Kd.int .i64) _ 3 ?hg (N := 36) ?hd (xs := ([] : List Int)) (inner := []) (ok := fun _ => True) (okp := fun _ => True) ?hr ?hp (fun _ hk => hk) trivial (Below.refl _ _) (Nat.le_refl _) (by simp) ?_; (case hd => rfl); (case hg => rfl); (case hr => first | (go_simp; done) | (go_simp; rfl)); (case hp => exact (Reps.none _ _)); intro v159 w19 ho20 hb hg_ hnew_; clear hg_ hnew_; (first | rw [← Ny158.out] at ho20 | (simp only [Int.reduceToNat] at ho20; rw [← Ny158.out] at ho20)); have n0_ := Aside0.mk (Kd.R_below (rz HO_7) hb); have n1_ := Aside0.mk (Kd.R_lower ho20 (below_size bh)); have n2_ := Aside0.mk (below_step bh hb); clear HO_7 HB; have HO_7 := n0_; have HO160 := n1_; have HB := n2_; clear n0_ n1_ n2_ hb ho20))
    go_loopg [10, 39] k1 (fun kq v10 v39 w' => ∃ (x10_2 : List Int) (x39_2 : Int), v39 = .int .i64 x39_2 ∧ Aside0 (impl_unbeaten.l1 kq x7_1 x10_2 l0 (l0.length : Int) x39_2 = some r) ∧ Aside0 (kq ≤ k1) ∧ Aside0 (Kd.R k46 46 w' w.heap.size (fun _ => True) u7 x7_1) ∧ Aside0 (Kd.R (Kd.int .i64) 3 w' w.heap.size (fun _ => True) v10 x10_2) ∧ Aside0 (Below w.heap.size w w'))
    case atStart => exact ⟨(y158), (0), (by first | rfl | (simp; done) | (simp [*]; done)), H', ⟨Nat.le_refl _⟩, ⟨rz HO_7⟩, ⟨rz HO160⟩, ⟨by exact bh⟩⟩
    case round =>
     clear H'
     try clear c1
     try clear p1
     try clear q1
     try clear hx1
     try clear p2
     try clear c3
     try clear c6
     try clear c6b0
     try clear p6
     try clear c7
     try clear c7b0
     try clear c8
     try clear c8b0
     try clear c9
     try clear c9b0
     try clear c9b1
     try clear c10
     try clear c10b0
     try clear c10b1
     try clear c11
     try clear p15
     try clear q15
     try clear hx15
     try clear hcz13_0
     try clear hcz13_1
     try clear hcz13_2
     try clear hcz13_3
     try clear hcz13_4
     try clear hcz16_0
     try clear hcz16_1
     try clear hcz16_2
     try clear hcz16_3
     try clear hcz16_4
     try clear hcz18_0
     try clear hcz18_1
     try clear hcz18_2
     try clear hcz18_3
     try clear hcz18_4
     try clear hfz13_0
     try clear hfz13_1
     try clear hfz13_2
     try clear hfz13_3
     try clear hfz13_4
     try clear hfz16_0
     try clear hfz16_1
     try clear hfz16_2
     try clear hfz16_3
     try clear hfz16_4
     try clear hfz18_0
     try clear hfz18_1
     try clear hfz18_2
     try clear hfz18_3
     try clear hfz18_4
     try clear hx153_0
     try clear hx153_1
     try clear hx153_2
     try clear hx153_3
     try clear hx153_4
     try clear p153
     try clear p2
     try clear q153
     obtain ⟨x10_2, x39_2, rfl, HA, HK2, HO_7, HO_10, HB⟩ := hrel
     cases gk with
     | zero => exact absurd HA.out (by simp [impl_unbeaten.l1])
     | succ k2 =>
      have H := HA.out
      clear HA
      simp only [impl_unbeaten.l1] at H
      by_cases c21 : x39_2 < (l0.length : Int)
      ·rw [if_pos c21] at H
       have c21b0 : decide (x39_2 < (l0.length : Int)) = true := decide_eq_true c21
       clear c21
       by_cases c22 : 0 ≤ x39_2
       ·rw [if_pos c22] at H
        have c22b0 : decide (0 ≤ x39_2) = true := decide_eq_true c22
        clear c22
        by_cases c23 : x39_2 < (l0.length : Int)
        ·rw [if_pos c23] at H
         have c23b0 : decide (x39_2 < (l0.length : Int)) = true := decide_eq_true c23
         clear c23
         replace H := Option.bind_eq_some_iff.mp H
         obtain ⟨t163, A240, H⟩ := H
         replace H : (if t163 = true then ((slices_ContainsFunc_w49.f k2 x7_1 [(⟨(rd_T46 l0 x39_2).f0, (rd_T46 l0 x39_2).f1, (rd_T46 l0 x39_2).f2, (rd_T46 l0 x39_2).f3, (rd_T46 l0 x39_2).f4⟩ : S46)]).bind fun t164 => (if t164 = true then (impl_unbeaten.l1 k2 x7_1 x10_2 l0 (l0.length : Int) (wrap64 (x39_2 + 1))) else (if x10_2.length < 17592186044416 then (impl_unbeaten.l1 k2 x7_1 (x10_2 ++ [x39_2]) l0 (l0.length : Int) (wrap64 (x39_2 + 1))) else (none)))) else (impl_unbeaten.l1 k2 x7_1 x10_2 l0 (l0.length : Int) (wrap64 (x39_2 + 1)))) = some r := H
         have A24 := Aside0.mk A240
         clear A240
         by_cases c25 : t163 = true
         ·subst c25
          have H1 : ((slices_ContainsFunc_w49.f k2 x7_1 [(⟨(rd_T46 l0 x39_2).f0, (rd_T46 l0 x39_2).f1, (rd_T46 l0 x39_2).f2, (rd_T46 l0 x39_2).f3, (rd_T46 l0 x39_2).f4⟩ : S46)]).bind fun t164 => (if t164 = true then (impl_unbeaten.l1 k2 x7_1 x10_2 l0 (l0.length : Int) (wrap64 (x39_2 + 1))) else (if x10_2.length < 17592186044416 then (impl_unbeaten.l1 k2 x7_1 (x10_2 ++ [x39_2]) l0 (l0.length : Int) (wrap64 (x39_2 + 1))) else (none)))) = some r := by rw [if_pos rfl] at H; exact H
          clear H
          have H := H1
          clear H1
          replace H := Option.bind_eq_some_iff.mp H
          obtain ⟨t164, A260, H⟩ := H
          replace H : (if t164 = true then (impl_unbeaten.l1 k2 x7_1 x10_2 l0 (l0.length : Int) (wrap64 (x39_2 + 1))) else (if x10_2.length < 17592186044416 then (impl_unbeaten.l1 k2 x7_1 (x10_2 ++ [x39_2]) l0 (l0.length : Int) (wrap64 (x39_2 + 1))) else (none))) = some r := H
          have A26 := Aside0.mk A260
          clear A260
          by_cases c27 : t164 = true
          ·subst c27
           have H1 : (impl_unbeaten.l1 k2 x7_1 x10_2 l0 (l0.length : Int) (wrap64 (x39_2 + 1))) = some r := by rw [if_pos rfl] at H; exact H
           clear H
           have H := H1
           clear H1
           have H' := Aside0.mk H
           clear H
           have p161 : 0 ≤ (x39_2 : Int) := oda
           have q161 : x39_2 < (l0.length : Int) := oda
           obtain ⟨ad161, e161, hx161_0, hx161_1, hx161_2, hx161_3, hx161_4⟩ := at_T46 HR0.out x39_2 p161 q161
           cases e161
           replace hx161_0 := (HB.out.cell (World.block_lt_of_cell? w _ hx161_0)).trans hx161_0
           replace hx161_1 := (HB.out.cell (World.block_lt_of_cell? w _ hx161_1)).trans hx161_1
           replace hx161_2 := (HB.out.cell (World.block_lt_of_cell? w _ hx161_2)).trans hx161_2
           replace hx161_3 := (HB.out.cell (World.block_lt_of_cell? w _ hx161_3)).trans hx161_3
           replace hx161_4 := (HB.out.cell (World.block_lt_of_cell? w _ hx161_4)).trans hx161_4
           replace p161 := eq_true p161
           replace q161 := eq_true q161
           go_wp2_with (first | ((with_reducible refine gate_dst (N := 12) rfl ?_); refine box_event ?hg (N := 12) ?hd (cs := #[.int .i64 0, .int .i64 0, .int .i64 0, .int .i64 0, .bool false]) (t := 46) ?hr ?_; (case hd => rfl); (case hg => rfl); (case hr => first | (go_simp; done) | (go_simp; rfl)); intro gb162 hg w28 hbox hb; have n0_ := Aside0.mk (Kd.R_below (Kd.R_elderB (rz HO_7) gb162 (Nat.le_of_eq hg.symm)) hb); have n1_ := Aside0.mk (Kd.R_below (rz HO_10) hb); have n2_ := Aside0.mk (below_step bh hb); have n3_ := Aside0.mk (hbox); have n4_ := Aside0.mk ((gs (W0 := w) hg bh)); have n5_ := Aside0.mk ((gs (W0 := w) hg bh)); clear HO_7 HO_10 HB; have HO_7 := n0_; have HO_10 := n1_; have HB := n2_; have BK162 := n3_; have GW162 := n4_; have GE162 := n5_; clear n0_ n1_ n2_ n3_ n4_ n5_ hb hbox hg; have hcz29_0 := cz0 BK162; have hcz29_1 := cz1 BK162; have hcz29_2 := cz2 BK162; have hcz29_3 := cz3 BK162; have hcz29_4 := cz4 BK162; have hfz29_0 := blk_frozen BK162.out 0; have hfz29_1 := blk_frozen BK162.out 1; have hfz29_2 := blk_frozen BK162.out 2; have hfz29_3 := blk_frozen BK162.out 3; have hfz29_4 := blk_frozen BK162.out 4; obtain ⟨Ao30, co30, eo30⟩ := Kd.R_slice HO_7.out; subst eo30) | ((with_reducible refine gate_callee (f := 48) rfl ?_); refine goesL_ (some 46) rfl rfl Try.func48 kr rfl #[.slice Ao30 x7_1.length co30, .agg #[.int .i64 ((rd_T46 l0 x39_2).f0), .int .i64 ((rd_T46 l0 x39_2).f1), .int .i64 ((rd_T46 l0 x39_2).f2), .int .i64 ((rd_T46 l0 x39_2).f3), .bool ((rd_T46 l0 x39_2).f4)]] rfl lm ?_; (with_reducible refine (impl_Law_48.calls k2 _ _ x7_1 ((rd_T46 l0 x39_2).f0) ((rd_T46 l0 x39_2).f1) ((rd_T46 l0 x39_2).f2) ((rd_T46 l0 x39_2).f3) ((rd_T46 l0 x39_2).f4) true _ ?side1 ?side2 A24.out).mono ?_); (case side1 => refine (Kd.R_reads' (e := 46) (base := w.heap.size) (ok := fun k_ => (True ∧ k_ ≠ gb162)) (n := x7_1.length) (c := co30) ?_).2.2; exact (uR HO_7 (fun _ hk => hk.2))); (case side2 => exact (Kd.R_reads' HO_7.out).2.1); rintro e w31 ⟨rfl, hb⟩; refine ⟨_, rfl, ?_⟩; have n0_ := Aside0.mk (Kd.R_below (uR HO_7 (fun _ hk => hk.2)) hb); have n1_ := Aside0.mk (Kd.R_below (fR HO_10 BK162) hb); have n2_ := Aside0.mk (blk_below (g := gb162) (o := .cells #[.int .i64 ((rd_T46 l0 x39_2).f0), .int .i64 ((rd_T46 l0 x39_2).f1), .int .i64 ((rd_T46 l0 x39_2).f2), .int .i64 ((rd_T46 l0 x39_2).f3), .bool ((rd_T46 l0 x39_2).f4)] 46 (0, 0)) (bp BK162) hb); have n3_ := Aside0.mk (below_step bh hb); clear HO_7 HO_10 BK162 HB; have HO_7 := n0_; have HO_10 := n1_; have BK162 := n2_; have HB := n3_; clear n0_ n1_ n2_ n3_; (try clear hb); (try clear hb2); (try clear hk); (try clear hi); have hcz32_0 : w31.cell? ⟨gb162, 0, none⟩ = some (.int .i64 ((rd_T46 l0 x39_2).f0)) := (blk_cell BK162.out 0).trans rfl; have hcz32_1 : w31.cell? ⟨gb162, 1, none⟩ = some (.int .i64 ((rd_T46 l0 x39_2).f1)) := (blk_cell BK162.out 1).trans rfl; have hcz32_2 : w31.cell? ⟨gb162, 2, none⟩ = some (.int .i64 ((rd_T46 l0 x39_2).f2)) := (blk_cell BK162.out 2).trans rfl; have hcz32_3 : w31.cell? ⟨gb162, 3, none⟩ = some (.int .i64 ((rd_T46 l0 x39_2).f3)) := (blk_cell BK162.out 3).trans rfl; have hcz32_4 : w31.cell? ⟨gb162, 4, none⟩ = some (.bool ((rd_T46 l0 x39_2).f4)) := (blk_cell BK162.out 4).trans rfl; have hfz32_0 := blk_frozen BK162.out 0; have hfz32_1 := blk_frozen BK162.out 1; have hfz32_2 := blk_frozen BK162.out 2; have hfz32_3 := blk_frozen BK162.out 3; have hfz32_4 := blk_frozen BK162.out 4) | (go_at_call 44; (with_reducible refine (slices_ContainsFunc_w49.calls k2 _ _ x7_1 (some ⟨gb162, 0, none⟩) [(⟨(rd_T46 l0 x39_2).f0, (rd_T46 l0 x39_2).f1, (rd_T46 l0 x39_2).f2, (rd_T46 l0 x39_2).f3, (rd_T46 l0 x39_2).f4⟩ : S46)].length [(⟨(rd_T46 l0 x39_2).f0, (rd_T46 l0 x39_2).f1, (rd_T46 l0 x39_2).f2, (rd_T46 l0 x39_2).f3, (rd_T46 l0 x39_2).f4⟩ : S46)] true _ ?side1 ?side2 ?side3 ?side4 A26.out).mono ?_); (case side1 => repeat (first | exact (Kd.R_reads' HO_7.out).2.2 | (with_reducible refine Kd.C_alloc ?_ _) | (with_reducible refine Kd.C_drewN ?_ _) | (with_reducible refine Kd.C_drew ?_))); (case side2 => exact (Kd.R_reads' HO_7.out).2.1); (case side3 => exact Opens.C_box (bz BK162) (k46_mk _ (⟨(rd_T46 l0 x39_2).f0, (rd_T46 l0 x39_2).f1, (rd_T46 l0 x39_2).f2, (rd_T46 l0 x39_2).f3, (rd_T46 l0 x39_2).f4⟩ : S46))); (case side4 => exact Nat.le_refl _); rintro e w33 ⟨rfl, hb⟩; have n0_ := Aside0.mk (Kd.R_below (rz HO_7) hb); have n1_ := Aside0.mk (Kd.R_below (rz HO_10) hb); have n2_ := Aside0.mk (blk_below (bz BK162) hb); have n3_ := Aside0.mk (below_step bh hb); clear HO_7 HO_10 BK162 HB; have HO_7 := n0_; have HO_10 := n1_; have BK162 := n2_; have HB := n3_; clear n0_ n1_ n2_ n3_; (try clear hb); (try clear hb2); (try clear hk); (try clear hi)))
           go_roundg k2
           case measure => have := HK1.out; have := HK2.out; omega
           case rel => exact ⟨(x10_2), (wrap64 (x39_2 + 1)), (by first | rfl | (simp; done) | (simp [*]; done)), H', ⟨by have := HK1.out; have := HK2.out; omega⟩, ⟨mR HO_7⟩, ⟨rz HO_10⟩, ⟨by exact bh⟩⟩
          ·replace c27 := Bool.eq_false_iff.mpr c27
           subst c27
           have H1 : (if x10_2.length < 17592186044416 then (impl_unbeaten.l1 k2 x7_1 (x10_2 ++ [x39_2]) l0 (l0.length : Int) (wrap64 (x39_2 + 1))) else (none)) = some r := by rw [if_neg (show ¬ (false = true) by decide)] at H; exact H
           clear H
           have H := H1
           clear H1
           by_cases c34 : x10_2.length < 17592186044416
           ·rw [if_pos c34] at H
            have LMc34 := Aside0.mk c34
            clear c34
            obtain ⟨y165, hy165⟩ : ∃ y_ : List Int, y_ = (x10_2 ++ [x39_2]) := ⟨_, rfl⟩
            replace H : (impl_unbeaten.l1 k2 x7_1 y165 l0 (l0.length : Int) (wrap64 (x39_2 + 1))) = some r := by first | (rw [hy165]; with_reducible exact H) | (have H2_ := (Option.bind_some _ _).symm.trans H; rw [hy165]; with_reducible exact H2_) | (have H2_ := (Option.bind_some _ _).symm.trans H; with_reducible exact H2_) | with_reducible exact H | (rw [hy165]; exact H) | exact H
            have Ny165 := Aside0.mk hy165
            clear hy165
            have H' := Aside0.mk H
            clear H
            have p161 : 0 ≤ (x39_2 : Int) := oda
            have q161 : x39_2 < (l0.length : Int) := oda
            obtain ⟨ad161, e161, hx161_0, hx161_1, hx161_2, hx161_3, hx161_4⟩ := at_T46 HR0.out x39_2 p161 q161
            cases e161
            replace hx161_0 := (HB.out.cell (World.block_lt_of_cell? w _ hx161_0)).trans hx161_0
            replace hx161_1 := (HB.out.cell (World.block_lt_of_cell? w _ hx161_1)).trans hx161_1
            replace hx161_2 := (HB.out.cell (World.block_lt_of_cell? w _ hx161_2)).trans hx161_2
            replace hx161_3 := (HB.out.cell (World.block_lt_of_cell? w _ hx161_3)).trans hx161_3
            replace hx161_4 := (HB.out.cell (World.block_lt_of_cell? w _ hx161_4)).trans hx161_4
            replace p161 := eq_true p161
            replace q161 := eq_true q161
            go_wp2_with (first | ((with_reducible refine gate_dst (N := 12) rfl ?_); refine box_event ?hg (N := 12) ?hd (cs := #[.int .i64 0, .int .i64 0, .int .i64 0, .int .i64 0, .bool false]) (t := 46) ?hr ?_; (case hd => rfl); (case hg => rfl); (case hr => first | (go_simp; done) | (go_simp; rfl)); intro gb162 hg w35 hbox hb; have n0_ := Aside0.mk (Kd.R_below (Kd.R_elderB (rz HO_7) gb162 (Nat.le_of_eq hg.symm)) hb); have n1_ := Aside0.mk (Kd.R_below (rz HO_10) hb); have n2_ := Aside0.mk (below_step bh hb); have n3_ := Aside0.mk (hbox); have n4_ := Aside0.mk ((gs (W0 := w) hg bh)); have n5_ := Aside0.mk ((gs (W0 := w) hg bh)); clear HO_7 HO_10 HB; have HO_7 := n0_; have HO_10 := n1_; have HB := n2_; have BK162 := n3_; have GW162 := n4_; have GE162 := n5_; clear n0_ n1_ n2_ n3_ n4_ n5_ hb hbox hg; have hcz36_0 := cz0 BK162; have hcz36_1 := cz1 BK162; have hcz36_2 := cz2 BK162; have hcz36_3 := cz3 BK162; have hcz36_4 := cz4 BK162; have hfz36_0 := blk_frozen BK162.out 0; have hfz36_1 := blk_frozen BK162.out 1; have hfz36_2 := blk_frozen BK162.out 2; have hfz36_3 := blk_frozen BK162.out 3; have hfz36_4 := blk_frozen BK162.out 4; obtain ⟨Ao37, co37, eo37⟩ := Kd.R_slice HO_7.out; subst eo37) | ((with_reducible refine gate_callee (f := 48) rfl ?_); refine goesL_ (some 46) rfl rfl Try.func48 kr rfl #[.slice Ao37 x7_1.length co37, .agg #[.int .i64 ((rd_T46 l0 x39_2).f0), .int .i64 ((rd_T46 l0 x39_2).f1), .int .i64 ((rd_T46 l0 x39_2).f2), .int .i64 ((rd_T46 l0 x39_2).f3), .bool ((rd_T46 l0 x39_2).f4)]] rfl lm ?_; (with_reducible refine (impl_Law_48.calls k2 _ _ x7_1 ((rd_T46 l0 x39_2).f0) ((rd_T46 l0 x39_2).f1) ((rd_T46 l0 x39_2).f2) ((rd_T46 l0 x39_2).f3) ((rd_T46 l0 x39_2).f4) true _ ?side1 ?side2 A24.out).mono ?_); (case side1 => refine (Kd.R_reads' (e := 46) (base := w.heap.size) (ok := fun k_ => (True ∧ k_ ≠ gb162)) (n := x7_1.length) (c := co37) ?_).2.2; exact (uR HO_7 (fun _ hk => hk.2))); (case side2 => exact (Kd.R_reads' HO_7.out).2.1); rintro e w38 ⟨rfl, hb⟩; refine ⟨_, rfl, ?_⟩; have n0_ := Aside0.mk (Kd.R_below (uR HO_7 (fun _ hk => hk.2)) hb); have n1_ := Aside0.mk (Kd.R_below (fR HO_10 BK162) hb); have n2_ := Aside0.mk (blk_below (g := gb162) (o := .cells #[.int .i64 ((rd_T46 l0 x39_2).f0), .int .i64 ((rd_T46 l0 x39_2).f1), .int .i64 ((rd_T46 l0 x39_2).f2), .int .i64 ((rd_T46 l0 x39_2).f3), .bool ((rd_T46 l0 x39_2).f4)] 46 (0, 0)) (bp BK162) hb); have n3_ := Aside0.mk (below_step bh hb); clear HO_7 HO_10 BK162 HB; have HO_7 := n0_; have HO_10 := n1_; have BK162 := n2_; have HB := n3_; clear n0_ n1_ n2_ n3_; (try clear hb); (try clear hb2); (try clear hk); (try clear hi); have hcz39_0 : w38.cell? ⟨gb162, 0, none⟩ = some (.int .i64 ((rd_T46 l0 x39_2).f0)) := (blk_cell BK162.out 0).trans rfl; have hcz39_1 : w38.cell? ⟨gb162, 1, none⟩ = some (.int .i64 ((rd_T46 l0 x39_2).f1)) := (blk_cell BK162.out 1).trans rfl; have hcz39_2 : w38.cell? ⟨gb162, 2, none⟩ = some (.int .i64 ((rd_T46 l0 x39_2).f2)) := (blk_cell BK162.out 2).trans rfl; have hcz39_3 : w38.cell? ⟨gb162, 3, none⟩ = some (.int .i64 ((rd_T46 l0 x39_2).f3)) := (blk_cell BK162.out 3).trans rfl; have hcz39_4 : w38.cell? ⟨gb162, 4, none⟩ = some (.bool ((rd_T46 l0 x39_2).f4)) := (blk_cell BK162.out 4).trans rfl; have hfz39_0 := blk_frozen BK162.out 0; have hfz39_1 := blk_frozen BK162.out 1; have hfz39_2 := blk_frozen BK162.out 2; have hfz39_3 := blk_frozen BK162.out 3; have hfz39_4 := blk_frozen BK162.out 4) | (go_at_call 44; (with_reducible refine (slices_ContainsFunc_w49.calls k2 _ _ x7_1 (some ⟨gb162, 0, none⟩) [(⟨(rd_T46 l0 x39_2).f0, (rd_T46 l0 x39_2).f1, (rd_T46 l0 x39_2).f2, (rd_T46 l0 x39_2).f3, (rd_T46 l0 x39_2).f4⟩ : S46)].length [(⟨(rd_T46 l0 x39_2).f0, (rd_T46 l0 x39_2).f1, (rd_T46 l0 x39_2).f2, (rd_T46 l0 x39_2).f3, (rd_T46 l0 x39_2).f4⟩ : S46)] false _ ?side1 ?side2 ?side3 ?side4 A26.out).mono ?_); (case side1 => repeat (first | exact (Kd.R_reads' HO_7.out).2.2 | (with_reducible refine Kd.C_alloc ?_ _) | (with_reducible refine Kd.C_drewN ?_ _) | (with_reducible refine Kd.C_drew ?_))); (case side2 => exact (Kd.R_reads' HO_7.out).2.1); (case side3 => exact Opens.C_box (bz BK162) (k46_mk _ (⟨(rd_T46 l0 x39_2).f0, (rd_T46 l0 x39_2).f1, (rd_T46 l0 x39_2).f2, (rd_T46 l0 x39_2).f3, (rd_T46 l0 x39_2).f4⟩ : S46))); (case side4 => exact Nat.le_refl _); rintro e w40 ⟨rfl, hb⟩; have n0_ := Aside0.mk (Kd.R_below (rz HO_7) hb); have n1_ := Aside0.mk (Kd.R_below (rz HO_10) hb); have n2_ := Aside0.mk (blk_below (bz BK162) hb); have n3_ := Aside0.mk (below_step bh hb); clear HO_7 HO_10 BK162 HB; have HO_7 := n0_; have HO_10 := n1_; have BK162 := n2_; have HB := n3_; clear n0_ n1_ n2_ n3_; (try clear hb); (try clear hb2); (try clear hk); (try clear hi)) | ((with_reducible refine gate_builtin (b := .append) (xs := #[.tmp 53, .tmp 55]) rfl ?_); at_builtin; refine Kd.R_append (Kd.int .i64) (w0 := w) w.heap.size rfl (.tmp 53) (.tmp 55) 31 3 (.int .i64 0) 8 rfl Try.underlying31 info3 rfl (by decide) (by omega) u10 x10_2 x39_2 [.int .i64 x39_2] (fun _ => True) (fun _ => False) rfl rfl ?aP (fun _ hk => hk.elim) ?aF ?aO ?aB ?aS ?aL ?_; (case aP => exact rfl); (case aB => exact bh); (case aF => exact (fun _ _ => trivial)); (case aO => exact (rz HO_10)); (case aS => exact (below_size bh)); (case aL => have := LMc34.out; omega); intro v166 w41 ho hb hg hat; rw [← Ny165.out] at ho; have n0_ := Aside0.mk (Kd.R_over' (rz HO_7) (Kd.R_typed (rz HO_10)) (by decide) hg); have n1_ := Aside0.mk (blk_grown (bz BK162) hg (Kd.R_ne HO_10.out BK162.out (by decide))); have n2_ := Aside0.mk (hb); have n3_ := Aside0.mk (ho); clear HO_7 BK162 HB HO_10; have HO_7 := n0_; have BK162 := n1_; have HB := n2_; have HO167 := n3_; clear n0_ n1_ n2_ n3_ ho hb hg hat))
            go_roundg k2
            case measure => have := HK1.out; have := HK2.out; omega
            case rel => exact ⟨(y165), (wrap64 (x39_2 + 1)), (by first | rfl | (simp; done) | (simp [*]; done)), H', ⟨by have := HK1.out; have := HK2.out; omega⟩, ⟨mR HO_7⟩, ⟨rz HO167⟩, ⟨by exact bh⟩⟩
           ·rw [if_neg c34] at H
            exact absurd H (by simp)
         ·replace c25 := Bool.eq_false_iff.mpr c25
          subst c25
          have H1 : (impl_unbeaten.l1 k2 x7_1 x10_2 l0 (l0.length : Int) (wrap64 (x39_2 + 1))) = some r := by rw [if_neg (show ¬ (false = true) by decide)] at H; exact H
          clear H
          have H := H1
          clear H1
          have H' := Aside0.mk H
          clear H
          have p161 : 0 ≤ (x39_2 : Int) := oda
          have q161 : x39_2 < (l0.length : Int) := oda
          obtain ⟨ad161, e161, hx161_0, hx161_1, hx161_2, hx161_3, hx161_4⟩ := at_T46 HR0.out x39_2 p161 q161
          cases e161
          replace hx161_0 := (HB.out.cell (World.block_lt_of_cell? w _ hx161_0)).trans hx161_0
          replace hx161_1 := (HB.out.cell (World.block_lt_of_cell? w _ hx161_1)).trans hx161_1
          replace hx161_2 := (HB.out.cell (World.block_lt_of_cell? w _ hx161_2)).trans hx161_2
          replace hx161_3 := (HB.out.cell (World.block_lt_of_cell? w _ hx161_3)).trans hx161_3
          replace hx161_4 := (HB.out.cell (World.block_lt_of_cell? w _ hx161_4)).trans hx161_4
          replace p161 := eq_true p161
          replace q161 := eq_true q161
          go_wp2_with (first | ((with_reducible refine gate_dst (N := 12) rfl ?_); refine box_event ?hg (N := 12) ?hd (cs := #[.int .i64 0, .int .i64 0, .int .i64 0, .int .i64 0, .bool false]) (t := 46) ?hr ?_; (case hd => rfl); (case hg => rfl); (case hr => first | (go_simp; done) | (go_simp; rfl)); intro gb162 hg w42 hbox hb; have n0_ := Aside0.mk (Kd.R_below (Kd.R_elderB (rz HO_7) gb162 (Nat.le_of_eq hg.symm)) hb); have n1_ := Aside0.mk (Kd.R_below (rz HO_10) hb); have n2_ := Aside0.mk (below_step bh hb); have n3_ := Aside0.mk (hbox); have n4_ := Aside0.mk ((gs (W0 := w) hg bh)); have n5_ := Aside0.mk ((gs (W0 := w) hg bh)); clear HO_7 HO_10 HB; have HO_7 := n0_; have HO_10 := n1_; have HB := n2_; have BK162 := n3_; have GW162 := n4_; have GE162 := n5_; clear n0_ n1_ n2_ n3_ n4_ n5_ hb hbox hg; have hcz43_0 := cz0 BK162; have hcz43_1 := cz1 BK162; have hcz43_2 := cz2 BK162; have hcz43_3 := cz3 BK162; have hcz43_4 := cz4 BK162; have hfz43_0 := blk_frozen BK162.out 0; have hfz43_1 := blk_frozen BK162.out 1; have hfz43_2 := blk_frozen BK162.out 2; have hfz43_3 := blk_frozen BK162.out 3; have hfz43_4 := blk_frozen BK162.out 4; obtain ⟨Ao44, co44, eo44⟩ := Kd.R_slice HO_7.out; subst eo44) | ((with_reducible refine gate_callee (f := 48) rfl ?_); refine goesL_ (some 46) rfl rfl Try.func48 kr rfl #[.slice Ao44 x7_1.length co44, .agg #[.int .i64 ((rd_T46 l0 x39_2).f0), .int .i64 ((rd_T46 l0 x39_2).f1), .int .i64 ((rd_T46 l0 x39_2).f2), .int .i64 ((rd_T46 l0 x39_2).f3), .bool ((rd_T46 l0 x39_2).f4)]] rfl lm ?_; (with_reducible refine (impl_Law_48.calls k2 _ _ x7_1 ((rd_T46 l0 x39_2).f0) ((rd_T46 l0 x39_2).f1) ((rd_T46 l0 x39_2).f2) ((rd_T46 l0 x39_2).f3) ((rd_T46 l0 x39_2).f4) false _ ?side1 ?side2 A24.out).mono ?_); (case side1 => refine (Kd.R_reads' (e := 46) (base := w.heap.size) (ok := fun k_ => (True ∧ k_ ≠ gb162)) (n := x7_1.length) (c := co44) ?_).2.2; exact (uR HO_7 (fun _ hk => hk.2))); (case side2 => exact (Kd.R_reads' HO_7.out).2.1); rintro e w45 ⟨rfl, hb⟩; refine ⟨_, rfl, ?_⟩; have n0_ := Aside0.mk (Kd.R_below (uR HO_7 (fun _ hk => hk.2)) hb); have n1_ := Aside0.mk (Kd.R_below (fR HO_10 BK162) hb); have n2_ := Aside0.mk (blk_below (g := gb162) (o := .cells #[.int .i64 ((rd_T46 l0 x39_2).f0), .int .i64 ((rd_T46 l0 x39_2).f1), .int .i64 ((rd_T46 l0 x39_2).f2), .int .i64 ((rd_T46 l0 x39_2).f3), .bool ((rd_T46 l0 x39_2).f4)] 46 (0, 0)) (bp BK162) hb); have n3_ := Aside0.mk (below_step bh hb); clear HO_7 HO_10 BK162 HB; have HO_7 := n0_; have HO_10 := n1_; have BK162 := n2_; have HB := n3_; clear n0_ n1_ n2_ n3_; (try clear hb); (try clear hb2); (try clear hk); (try clear hi)))
          go_roundg k2
          case measure => have := HK1.out; have := HK2.out; omega
          case rel => exact ⟨(x10_2), (wrap64 (x39_2 + 1)), (by first | rfl | (simp; done) | (simp [*]; done)), H', ⟨by have := HK1.out; have := HK2.out; omega⟩, ⟨mR HO_7⟩, ⟨rz HO_10⟩, ⟨by exact bh⟩⟩
        ·rw [if_neg c23] at H
         exact absurd H (by simp)
       ·rw [if_neg c22] at H
        exact absurd H (by simp)
      ·rw [if_neg c21] at H
       have c21b0 : decide (x39_2 < (l0.length : Int)) = false := decide_eq_false c21
       clear c21
       obtain rfl := Option.some.inj H
       go_wp2
       go_ret
       exact ⟨_, by first | rfl | (simp [errW_none, errW_some] <;> rfl) | (simp [*, errW_none, errW_some] <;> rfl), by (with_reducible repeat (first | apply Kd.R_alloc | apply Kd.R_drewN | apply Kd.R_drew)); exact HO_10.out, by exact bh⟩

/-! ### impl_UnbeatenOf: function 12 -/
def impl_UnbeatenOf.f (k : Nat) (l0 : List (S46)) (a1 : Int) (a2 : Int) : Option (List Int) := (impl_isBook.f k l0).bind fun t168 => (if t168 = true then ((impl_isCase.f a1 a2).bind fun t169 => (if t169 = true then ((impl_unbeaten.f k l0 a1 a2).bind fun t170 => (some t170)) else (some ([] : List Int)))) else (some ([] : List Int)))
theorem impl_UnbeatenOf.mono : ∀ a0 a1 a2 k, LeO (impl_UnbeatenOf.f k a0 a1 a2) (impl_UnbeatenOf.f (k + 1) a0 a1 a2) := by
 intro a0 a1 a2 k
 unfold impl_UnbeatenOf.f
 repeat' first
   | (with_reducible exact impl_isBook.mono _ _)
   | (with_reducible exact impl_unbeaten.mono _ _ _ _)
   | (with_reducible exact LeO.refl _)
   | (with_reducible exact LeO.none _)
   | (with_reducible refine LeO.ite ?_ ?_)
   | (with_reducible refine LeO.bind ?_ (fun _ => ?_))
   | exact impl_isBook.mono _ _
   | exact impl_unbeaten.mono _ _ _ _
   | exact LeO.none _
   | refine LeO.ite ?_ ?_
   | refine LeO.bind ?_ (fun _ => ?_)
set_option maxHeartbeats 8000000 in
set_option maxRecDepth 100000 in
theorem impl_UnbeatenOf.calls (k : Nat) (A0 : Option Addr) (c0 : Nat) (l0 : List (S46)) (a1 : Int) (a2 : Int) (r : List Int) (w : World) (hr0 : Kd.C k46 w A0 l0.length l0) (hc0 : l0.length ≤ c0) (h : impl_UnbeatenOf.f k l0 a1 a2 = some r) :
  Calls Try.prog 12 #[.slice A0 l0.length c0, .int .i64 a1, .int .i64 a2] w fun e w' => ∃ v0_ : Value, e = .returned (v0_) ∧ Kd.R (Kd.int .i64) 3 w' w.heap.size (fun _ => True) v0_ r ∧ Below w.heap.size w w' := by
 have HR0 := Aside0.mk hr0
 have HC0 := Aside0.mk hc0
 clear hr0 hc0
 have HB := Aside0.mk (Below.refl w.heap.size w)
 have H : ((impl_isBook.f k l0).bind fun t168 => (if t168 = true then ((impl_isCase.f a1 a2).bind fun t169 => (if t169 = true then ((impl_unbeaten.f k l0 a1 a2).bind fun t170 => (some t170)) else (some ([] : List Int)))) else (some ([] : List Int)))) = some r := h
 clear h
 replace H := Option.bind_eq_some_iff.mp H
 obtain ⟨t168, A40, H⟩ := H
 replace H : (if t168 = true then ((impl_isCase.f a1 a2).bind fun t169 => (if t169 = true then ((impl_unbeaten.f k l0 a1 a2).bind fun t170 => (some t170)) else (some ([] : List Int)))) else (some ([] : List Int))) = some r := H
 have A4 := Aside0.mk A40
 clear A40
 by_cases c5 : t168 = true
 ·subst c5
  have H1 : ((impl_isCase.f a1 a2).bind fun t169 => (if t169 = true then ((impl_unbeaten.f k l0 a1 a2).bind fun t170 => (some t170)) else (some ([] : List Int)))) = some r := by rw [if_pos rfl] at H; exact H
  clear H
  have H := H1
  clear H1
  replace H := Option.bind_eq_some_iff.mp H
  obtain ⟨t169, A60, H⟩ := H
  replace H : (if t169 = true then ((impl_unbeaten.f k l0 a1 a2).bind fun t170 => (some t170)) else (some ([] : List Int))) = some r := H
  have A6 := Aside0.mk A60
  clear A60
  by_cases c7 : t169 = true
  ·subst c7
   have H1 : ((impl_unbeaten.f k l0 a1 a2).bind fun t170 => (some t170)) = some r := by rw [if_pos rfl] at H; exact H
   clear H
   have H := H1
   clear H1
   replace H := Option.bind_eq_some_iff.mp H
   obtain ⟨t170, A80, H⟩ := H
   replace H : (some t170) = some r := H
   have A8 := Aside0.mk A80
   clear A80
   obtain rfl := Option.some.inj H
   go_enter Try.func12, Try.ntmps12
   go_wp2_with (first | ((with_reducible refine gate_callee (f := 30) rfl ?_); refine goesL_ (some 8) rfl rfl Try.func30 kr rfl #[.slice A0 l0.length c0] rfl lm ?_; (with_reducible refine (impl_isBook.calls k _ _ l0 true _ ?side1 ?side2 A4.out).mono ?_); (case side1 => repeat (first | exact HR0.out | (with_reducible refine Kd.C_alloc ?_ _) | (with_reducible refine Kd.C_drewN ?_ _) | (with_reducible refine Kd.C_drew ?_))); (case side2 => exact HC0.out); rintro e w9 ⟨rfl, hb⟩; refine ⟨_, rfl, ?_⟩; have n0_ := Aside0.mk (below_step bh hb); clear HB; have HB := n0_; clear n0_; (try clear hb); (try clear hb2); (try clear hk); (try clear hi)) | (go_at_call 34; (with_reducible refine (impl_isCase.calls a1 a2 true _ A6.out).mono ?_); rintro e w' ⟨rfl, ⟨nd, rfl⟩⟩) | ((with_reducible refine gate_callee (f := 35) rfl ?_); refine goesL_ (some 19) rfl rfl Try.func35 kr rfl #[.slice A0 l0.length c0, .int .i64 a1, .int .i64 a2] rfl lm ?_; (with_reducible refine (impl_unbeaten.calls k _ _ l0 a1 a2 t170 _ ?side1 ?side2 A8.out).mono ?_); (case side1 => repeat (first | exact (Kd.C_below HR0.out bh) | (with_reducible refine Kd.C_alloc ?_ _) | (with_reducible refine Kd.C_drewN ?_ _) | (with_reducible refine Kd.C_drew ?_))); (case side2 => exact HC0.out); rintro e w10 ⟨v171, rfl, ho0, hb⟩; refine ⟨_, rfl, ?_⟩; have n0_ := Aside0.mk (Kd.R_lower ho0 (below_size bh)); have n1_ := Aside0.mk (below_step bh hb); clear HB; have HO172 := n0_; have HB := n1_; clear n0_ n1_; (try clear hb); (try clear hb2); (try clear hk); (try clear hi); (try clear ho0)))
   go_ret
   exact ⟨_, by first | rfl | (simp [errW_none, errW_some] <;> rfl) | (simp [*, errW_none, errW_some] <;> rfl), by (with_reducible repeat (first | apply Kd.R_alloc | apply Kd.R_drewN | apply Kd.R_drew)); exact HO172.out, by exact bh⟩
  ·replace c7 := Bool.eq_false_iff.mpr c7
   subst c7
   have H1 : (some ([] : List Int)) = some r := by rw [if_neg (show ¬ (false = true) by decide)] at H; exact H
   clear H
   have H := H1
   clear H1
   obtain rfl := Option.some.inj H
   go_enter Try.func12, Try.ntmps12
   go_wp2_with (first | ((with_reducible refine gate_callee (f := 30) rfl ?_); refine goesL_ (some 8) rfl rfl Try.func30 kr rfl #[.slice A0 l0.length c0] rfl lm ?_; (with_reducible refine (impl_isBook.calls k _ _ l0 true _ ?side1 ?side2 A4.out).mono ?_); (case side1 => repeat (first | exact HR0.out | (with_reducible refine Kd.C_alloc ?_ _) | (with_reducible refine Kd.C_drewN ?_ _) | (with_reducible refine Kd.C_drew ?_))); (case side2 => exact HC0.out); rintro e w11 ⟨rfl, hb⟩; refine ⟨_, rfl, ?_⟩; have n0_ := Aside0.mk (below_step bh hb); clear HB; have HB := n0_; clear n0_; (try clear hb); (try clear hb2); (try clear hk); (try clear hi)) | (go_at_call 34; (with_reducible refine (impl_isCase.calls a1 a2 false _ A6.out).mono ?_); rintro e w' ⟨rfl, ⟨nd, rfl⟩⟩))
   go_ret
   exact ⟨_, by first | rfl | (simp [errW_none, errW_some] <;> rfl) | (simp [*, errW_none, errW_some] <;> rfl), by first | exact Kd.R_nil _ _ _ _ _ | exact Kd.N_nil _ _ _ _ _ | exact Kd.V_nil _ _ _ _ _ | exact Kd.Q_nil _ _ _ _ _ | exact Kd.S_nil _ _ _ _ _, by exact bh⟩
 ·replace c5 := Bool.eq_false_iff.mpr c5
  subst c5
  have H1 : (some ([] : List Int)) = some r := by rw [if_neg (show ¬ (false = true) by decide)] at H; exact H
  clear H
  have H := H1
  clear H1
  obtain rfl := Option.some.inj H
  go_enter Try.func12, Try.ntmps12
  go_wp2_with (first | ((with_reducible refine gate_callee (f := 30) rfl ?_); refine goesL_ (some 8) rfl rfl Try.func30 kr rfl #[.slice A0 l0.length c0] rfl lm ?_; (with_reducible refine (impl_isBook.calls k _ _ l0 false _ ?side1 ?side2 A4.out).mono ?_); (case side1 => repeat (first | exact HR0.out | (with_reducible refine Kd.C_alloc ?_ _) | (with_reducible refine Kd.C_drewN ?_ _) | (with_reducible refine Kd.C_drew ?_))); (case side2 => exact HC0.out); rintro e w12 ⟨rfl, hb⟩; refine ⟨_, rfl, ?_⟩; have n0_ := Aside0.mk (below_step bh hb); clear HB; have HB := n0_; clear n0_; (try clear hb); (try clear hb2); (try clear hk); (try clear hi)))
  go_ret
  exact ⟨_, by first | rfl | (simp [errW_none, errW_some] <;> rfl) | (simp [*, errW_none, errW_some] <;> rfl), by first | exact Kd.R_nil _ _ _ _ _ | exact Kd.N_nil _ _ _ _ _ | exact Kd.V_nil _ _ _ _ _ | exact Kd.Q_nil _ _ _ _ _ | exact Kd.S_nil _ _ _ _ _, by exact bh⟩

end Go.Proofs.Ytnandbgcejkonaa.QFnIdleLaws
