-- Printed for this claim by a turned copy of the print (wip/myprint). Lean checks it. Squeezed. Worded. Tightened.
import Derived.Test.YtaddlahbahedeaaQFnClashOkx0
import Derived.Test.YtaddlahbahedeaaQFnClashOkx5
import Derived.Test.YtaddlahbahedeaaQFnClashOkx10
import Derived.Test.YtaddlahbahedeaaQFnClashOkx14
namespace Go.Proofs.Ytaddlahbahedeaa.QFnClashOk
open Go.RowKit Go.Proofs.YtaddlahbahedeaaW.PrintWords Go.Proofs.YtaddlahbahedeaaW.PrintLast Go.Proofs.YtaddlahbahedeaaW.PrintMore
attribute [local go_sem] max2_int min2_int max_two min_two max_three min_three max_four min_four Opens.cell_twice   -- for this text's walks alone
set_option linter.unusedVariables false
set_option linter.unusedSimpArgs false

/-! ### impl_ClashOk: function 35 -/
def impl_ClashOk.l0 : Nat → List (S61) → Int → Int → Int → List Int → Option (Bool)
 | 0, _, _, _, _, _ => none
 | k + 1, x1, x12, x13, x405000, x405001 => if x13 < x12 then ((impl_consents.f k x405000 x405001 x1 x13).bind fun t406 => (if t406 = true then ((impl_everybody.f x405000).bind fun t407 => ((impl_consents.f k x405000 x405001 x1 (Go.bits .xor .i64 t407 x13)).bind fun t408 => (if t408 = true then (some true) else (impl_ClashOk.l0 k x1 x12 (wrap64 (x13 + 1)) x405000 x405001)))) else (impl_ClashOk.l0 k x1 x12 (wrap64 (x13 + 1)) x405000 x405001))) else (some false)
def impl_ClashOk.f (k : Nat) (a0_0 : Int) (l0_1 : List Int) (l1 : List (S61)) : Option (Bool) := (impl_isTerm.f k a0_0 l0_1 l1).bind fun t405 => (if t405 = true then (if 0 ≤ a0_0 then (impl_ClashOk.l0 k l1 (shl .i64 1 a0_0) 0 a0_0 l0_1) else (none)) else (some false))
theorem impl_ClashOk.mono_l : ∀ k, (∀ y0 y1 y2 y3 y4, LeO (impl_ClashOk.l0 k y0 y1 y2 y3 y4) (impl_ClashOk.l0 (k + 1) y0 y1 y2 y3 y4))
 | 0 => fun _ _ _ _ _ r h => by simp [impl_ClashOk.l0] at h
 | k + 1 => by
  have ih0 := impl_ClashOk.mono_l k
  ·intro y0 y1 y2 y3 y4
   unfold impl_ClashOk.l0
   repeat' first
   | (with_reducible exact ih0 _ _ _ _ _)
   | (with_reducible exact impl_consents.mono _ _ _ _ _)
   | (with_reducible exact impl_isTerm.mono _ _ _ _)
   | (with_reducible exact LeO.refl _)
   | (with_reducible exact LeO.none _)
   | (with_reducible refine LeO.ite ?_ ?_)
   | (with_reducible refine LeO.bind ?_ (fun _ => ?_))
   | exact ih0 _ _ _ _ _
   | exact impl_consents.mono _ _ _ _ _
   | exact impl_isTerm.mono _ _ _ _
   | exact LeO.none _
   | refine LeO.ite ?_ ?_
   | refine LeO.bind ?_ (fun _ => ?_)
theorem impl_ClashOk.mono : ∀ a0 a1 a2 k, LeO (impl_ClashOk.f k a0 a1 a2) (impl_ClashOk.f (k + 1) a0 a1 a2) := by
 intro a0 a1 a2 k
 have ih0 := impl_ClashOk.mono_l k
 unfold impl_ClashOk.f
 repeat' first
   | (with_reducible exact ih0 _ _ _ _ _)
   | (with_reducible exact impl_consents.mono _ _ _ _ _)
   | (with_reducible exact impl_isTerm.mono _ _ _ _)
   | (with_reducible exact LeO.refl _)
   | (with_reducible exact LeO.none _)
   | (with_reducible refine LeO.ite ?_ ?_)
   | (with_reducible refine LeO.bind ?_ (fun _ => ?_))
   | exact ih0 _ _ _ _ _
   | exact impl_consents.mono _ _ _ _ _
   | exact impl_isTerm.mono _ _ _ _
   | exact LeO.none _
   | refine LeO.ite ?_ ?_
   | refine LeO.bind ?_ (fun _ => ?_)
def impl_ClashOk.T6 : Bool × List (List Nat × List Nat) := (true, [([], []), ([], []), ([], []), ([0, 1, 2], [0, 1, 2]), ([3, 3], [3]), ([4], [4]), ([4], [4]), ([4], [4]), ([7, 4], [4, 7]), ([8, 4, 4], [4, 8]), ([4], [4]), ([9, 10, 4], [4, 9, 10]), ([5, 6, 11, 9, 4], [4, 5, 6, 11]), ([4, 12], [4, 12])])
def impl_ClashOk.B6 : List Nat := [0, 0, 0, 7, 15, 31, 31, 31, 159, 415, 31, 1951, 4095, 8191]
theorem impl_ClashOk.tab6 : rtab .any (opsOf Try.f35 6) = impl_ClashOk.T6 := by kernel_rfl
theorem impl_ClashOk.bits6 : waitsOk impl_ClashOk.T6.2 impl_ClashOk.B6 = true := by kernel_rfl
set_option maxHeartbeats 8000000 in
set_option maxRecDepth 100000 in
theorem impl_ClashOk.calls (k : Nat) (a0_0 : Int) (A0_1 : Option Addr) (c0_1 : Nat) (l0_1 : List Int) (A1 : Option Addr) (c1 : Nat) (l1 : List (S61)) (r : Bool) (w : World) (hr0_1 : Kd.C (Kd.int .i64) w A0_1 l0_1.length l0_1) (hc0_1 : l0_1.length ≤ c0_1) (hr1 : Kd.C k61 w A1 l1.length l1) (hc1 : l1.length ≤ c1) (h : impl_ClashOk.f k a0_0 l0_1 l1 = some r) :
  Calls Try.prog 35 #[.agg #[.int .i64 a0_0, .slice A0_1 l0_1.length c0_1], .slice A1 l1.length c1] w fun e w' => e = .returned (.bool r) ∧ Below w.heap.size w w' := by
 have hu25 := Try.underlying25
 have HR0_1 := Aside0.mk hr0_1
 have HC0_1 := Aside0.mk hc0_1
 clear hr0_1 hc0_1
 have HR1 := Aside0.mk hr1
 have HC1 := Aside0.mk hc1
 clear hr1 hc1
 have HB := Aside0.mk (Below.refl w.heap.size w)
 have H : ((impl_isTerm.f k a0_0 l0_1 l1).bind fun t405 => (if t405 = true then (if 0 ≤ a0_0 then (impl_ClashOk.l0 k l1 (shl .i64 1 a0_0) 0 a0_0 l0_1) else (none)) else (some false))) = some r := h
 clear h
 replace H := Option.bind_eq_some_iff.mp H
 obtain ⟨t405, A30, H⟩ := H
 replace H : (if t405 = true then (if 0 ≤ a0_0 then (impl_ClashOk.l0 k l1 (shl .i64 1 a0_0) 0 a0_0 l0_1) else (none)) else (some false)) = some r := H
 have A3 := Aside0.mk A30
 clear A30
 by_cases c4 : t405 = true
 ·subst c4
  have H1 : (if 0 ≤ a0_0 then (impl_ClashOk.l0 k l1 (shl .i64 1 a0_0) 0 a0_0 l0_1) else (none)) = some r := by rw [if_pos rfl] at H; exact H
  clear H
  have H := H1
  clear H1
  by_cases c5 : 0 ≤ a0_0
  ·rw [if_pos c5] at H
   have c5b0 := eq_true c5
   have c5b1 : decide (0 ≤ a0_0) = true := decide_eq_true c5
   clear c5
   obtain ⟨ji6, hji6⟩ : ∃ j_ : Int, (shl .i64 1 a0_0) = j_ := ⟨_, rfl⟩
   replace H : (impl_ClashOk.l0 k l1 ji6 0 a0_0 l0_1) = some r := by first | (rw [hji6] at H; exact H) | (simp only [hji6] at H ⊢; exact H)
   (try rw [hji6] at A3)
   have hji6_ : (IntKind.i64.wrap (1 * 2 ^ min a0_0.toNat 64)) = ji6 := hji6
   have hji6z : a0_0 ≤ 64 → (IntKind.i64.wrap (1 * 2 ^ a0_0.toNat)) = ji6 := shl_small hji6
   have hji6u : (IntKind.i64.wrap (2 ^ min a0_0.toNat 64)) = ji6 := by have h_ := hji6_; rw [Int.one_mul] at h_; exact h_
   have hji6v : a0_0 ≤ 64 → (IntKind.i64.wrap (2 ^ a0_0.toNat)) = ji6 := fun hle_ => by have h_ := hji6z hle_; rw [Int.one_mul] at h_; exact h_
   have hji6y : (wrap64 (1 * 2 ^ min a0_0.toNat 64)) = ji6 := (i64_w _).symm.trans hji6_
   have hji6x : a0_0 ≤ 64 → (wrap64 (1 * 2 ^ a0_0.toNat)) = ji6 := fun h_ => (i64_w _).symm.trans (hji6z h_)
   have H' := Aside0.mk H
   clear H
   go_enter Try.func35, Try.ntmps35
   go_wp2_with (first | ((with_reducible refine gate_dst (N := 2) rfl ?_); refine box_event ?hg (N := 2) ?hd (cs := #[.int .i64 a0_0, .slice A0_1 l0_1.length c0_1]) (t := 25) ?hr ?_; (case hd => rfl); (case hg => rfl); (case hr => first | (go_simp; done) | (go_simp; rfl)); intro gb404 hg w7 hbox hb; have n0_ := Aside0.mk (below_step bh hb); have n1_ := Aside0.mk (hbox); have n2_ := Aside0.mk ((gs (W0 := w) hg bh)); have n3_ := Aside0.mk ((gs (W0 := w) hg bh)); clear HB; have HB := n0_; have BK404 := n1_; have GW404 := n2_; have GE404 := n3_; clear n0_ n1_ n2_ n3_ hb hbox hg; have hcz8_0 := cz0 BK404; have hcz8_1 := cz1 BK404; have hfz8_0 := blk_frozen BK404.out 0; have hfz8_1 := blk_frozen BK404.out 1) | ((with_reducible refine gate_callee (f := 49) rfl ?_); refine goesL_ (some 8) rfl rfl Try.func49 kr rfl #[.agg #[.int .i64 a0_0, .slice A0_1 l0_1.length c0_1], .slice A1 l1.length c1] rfl lm ?_; (with_reducible refine (impl_isTerm.calls k a0_0 _ _ l0_1 _ _ l1 true _ ?side1 ?side2 ?side3 ?side4 A3.out).mono ?_); (case side1 => repeat (first | exact (Kd.C_below HR0_1.out HB.out) | (with_reducible refine Kd.C_alloc ?_ _) | (with_reducible refine Kd.C_drewN ?_ _) | (with_reducible refine Kd.C_drew ?_))); (case side2 => exact HC0_1.out); (case side3 => repeat (first | exact (Kd.C_below HR1.out HB.out) | (with_reducible refine Kd.C_alloc ?_ _) | (with_reducible refine Kd.C_drewN ?_ _) | (with_reducible refine Kd.C_drew ?_))); (case side4 => exact HC1.out); rintro e w9 ⟨rfl, hb⟩; refine ⟨_, rfl, ?_⟩; have n0_ := Aside0.mk (blk_below (bz BK404) hb); have n1_ := Aside0.mk (below_step bh hb); clear BK404 HB; have BK404 := n0_; have HB := n1_; clear n0_ n1_; (try clear hb); (try clear hb2); (try clear hk); (try clear hi); have hcz10_0 := cz0 BK404; have hcz10_1 := cz1 BK404; have hfz10_0 := blk_frozen BK404.out 0; have hfz10_1 := blk_frozen BK404.out 1))
   go_loopg [13] k (fun kq v13 w' => ∃ (x13_1 : Int), v13 = .int .i64 x13_1 ∧ Aside0 (impl_ClashOk.l0 kq l1 ji6 x13_1 a0_0 l0_1 = some r) ∧ Aside0 (kq ≤ k) ∧ Aside0 (w'.heap[gb404]? = some (.cells #[.int .i64 a0_0, (.slice A0_1 l0_1.length c0_1)] 25 (0, 0))) ∧ Aside0 (Below w.heap.size w w'))
   case atStart => exact ⟨(0), (by first | rfl | (simp; done) | (simp [*]; done)), H', ⟨Nat.le_refl _⟩, ⟨bz BK404⟩, ⟨by exact bh⟩⟩
   case round =>
    clear H'
    try clear c1
    try clear p2
    try clear c3
    try clear c4
    try clear c5
    try clear c5b0
    try clear c5b1
    try clear p6
    try clear hcz10_0
    try clear hcz10_1
    try clear hcz8_0
    try clear hcz8_1
    try clear hfz10_0
    try clear hfz10_1
    try clear hfz8_0
    try clear hfz8_1
    obtain ⟨x13_1, rfl, HA, HK1, BK404, HB⟩ := hrel
    cases gk with
    | zero => exact absurd HA.out (by simp [impl_ClashOk.l0])
    | succ k1 =>
     have H := HA.out
     clear HA
     simp only [impl_ClashOk.l0] at H
     by_cases c11 : x13_1 < ji6
     ·rw [if_pos c11] at H
      have c11b0 : decide (x13_1 < ji6) = true := decide_eq_true c11
      clear c11
      replace H := Option.bind_eq_some_iff.mp H
      obtain ⟨t406, A120, H⟩ := H
      replace H : (if t406 = true then ((impl_everybody.f a0_0).bind fun t407 => ((impl_consents.f k1 a0_0 l0_1 l1 (Go.bits .xor .i64 t407 x13_1)).bind fun t408 => (if t408 = true then (some true) else (impl_ClashOk.l0 k1 l1 ji6 (wrap64 (x13_1 + 1)) a0_0 l0_1)))) else (impl_ClashOk.l0 k1 l1 ji6 (wrap64 (x13_1 + 1)) a0_0 l0_1)) = some r := H
      have A12 := Aside0.mk A120
      clear A120
      by_cases c13 : t406 = true
      ·subst c13
       have H1 : ((impl_everybody.f a0_0).bind fun t407 => ((impl_consents.f k1 a0_0 l0_1 l1 (Go.bits .xor .i64 t407 x13_1)).bind fun t408 => (if t408 = true then (some true) else (impl_ClashOk.l0 k1 l1 ji6 (wrap64 (x13_1 + 1)) a0_0 l0_1)))) = some r := by rw [if_pos rfl] at H; exact H
       clear H
       have H := H1
       clear H1
       replace H := Option.bind_eq_some_iff.mp H
       obtain ⟨t407, A140, H⟩ := H
       replace H : ((impl_consents.f k1 a0_0 l0_1 l1 (Go.bits .xor .i64 t407 x13_1)).bind fun t408 => (if t408 = true then (some true) else (impl_ClashOk.l0 k1 l1 ji6 (wrap64 (x13_1 + 1)) a0_0 l0_1))) = some r := H
       have A14 := Aside0.mk A140
       clear A140
       replace H := Option.bind_eq_some_iff.mp H
       obtain ⟨t408, A150, H⟩ := H
       replace H : (if t408 = true then (some true) else (impl_ClashOk.l0 k1 l1 ji6 (wrap64 (x13_1 + 1)) a0_0 l0_1)) = some r := H
       have A15 := Aside0.mk A150
       clear A150
       by_cases c16 : t408 = true
       ·subst c16
        have H1 : (some true) = some r := by rw [if_pos rfl] at H; exact H
        clear H
        have H := H1
        clear H1
        obtain rfl := Option.some.inj H
        try go_wp2
        have n0_ := Aside0.mk (blk_drew BK404.out)
        have n1_ := Aside0.mk (below_drew1 HB.out)
        clear BK404 HB
        have BK404 := n0_
        have HB := n1_
        clear n0_ n1_
        refine start_ (n := 14) (S := fun w' => w'.cell? ⟨gb404, 0, none⟩ = some (.int .i64 a0_0) ∧ w'.cell? ⟨gb404, 1, none⟩ = some (.slice A0_1 l0_1.length c0_1)) (ds := []) #[F,F,F,F,F,F,F,F,F,F,F,F,F,F] kr rfl rfl ⟨cz0 BK404, cz1 BK404⟩ (fun hHeld => ?_); refine with_tabW impl_ClashOk.tab6 impl_ClashOk.bits6 (fun HT_ HW_ => ?_)
        generalize wr.drew = w17 at BK404 HB hHeld ⊢
        refine pu 1 (some 17) #[F,T,F,F,F,F,F,F,F,F,F,F,F,F] (any_of HT_.out kr) ?_
        refine pu 2 (some 18) #[F,T,T,F,F,F,F,F,F,F,F,F,F,F] (any_of HT_.out kr) ?_
        refine tk2 0 (some 16) #[T,T,T,F,F,F,F,F,F,F,F,F,F,F] (take_ofW HT_.out HW_.out kr) ?_
        refine one_ (i := 3) (N := some 19) #[T,T,T,T,F,F,F,F,F,F,F,F,F,F] rfl rfl (one_of HT_.out kr) (by decide) (fun K hK => ?_)
        refine goes_ Try.func50 kr rfl #[.agg #[.int .i64 a0_0, .slice A0_1 l0_1.length c0_1], .slice A1 l1.length c1, .int .i64 x13_1] (by rfl) rfl rfl lm ?_
        with_reducible refine (impl_consents.calls k1 a0_0 _ _ l0_1 _ _ l1 x13_1 true _ ?side1 ?side2 ?side3 ?side4 A12.out).mono ?_
        (case side1 => repeat (first | exact (Kd.C_below HR0_1.out HB.out) | (with_reducible refine Kd.C_alloc ?_ _) | (with_reducible refine Kd.C_drewN ?_ _) | (with_reducible refine Kd.C_drew ?_)))
        (case side2 => exact HC0_1.out)
        (case side3 => repeat (first | exact (Kd.C_below HR1.out HB.out) | (with_reducible refine Kd.C_alloc ?_ _) | (with_reducible refine Kd.C_drewN ?_ _) | (with_reducible refine Kd.C_drew ?_)))
        (case side4 => exact HC1.out)
        rintro e w18 ⟨rfl, hb⟩
        refine ⟨_, rfl, ?_⟩
        have n0_ := Aside0.mk (blk_below (bz BK404) hb)
        have n1_ := Aside0.mk (below_step bh hb)
        clear BK404 HB
        have BK404 := n0_
        have HB := n1_
        clear n0_ n1_
        (try clear hb)
        (try clear hb2)
        (try clear hk)
        (try clear hi)
        refine hK.out _ _ ⟨cz0 BK404, cz1 BK404⟩ (fun hHeld => ?_)
        clear hK K
        refine norm_ (a' := ?_) ?_ ?_
        rotate_left
        ·show Act.put _ (some 19) _ = _
         simp only [Act.put, List.setIfInBounds_toArray, List.set_cons_zero, List.set_cons_succ, i64_w, i32_w]
         rfl
        refine pu 4 (some 20) #[T,T,T,T,T,F,F,F,F,F,F,F,F,F] (any_of HT_.out kr) ?_
        refine pu 6 (some 22) #[T,T,T,T,T,F,T,F,F,F,F,F,F,F] (any_of HT_.out kr) ?_
        refine pu 7 (some 23) #[T,T,T,T,T,F,T,T,F,F,F,F,F,F] (any_of HT_.out kr) ?_
        refine pu 10 (some 26) #[T,T,T,T,T,F,T,T,F,F,T,F,F,F] (any_of HT_.out kr) ?_
        refine tk2 5 (some 21) #[T,T,T,T,T,T,T,T,F,F,T,F,F,F] (take_ofW HT_.out HW_.out kr) ?_
        refine tk2 8 (some 24) #[T,T,T,T,T,T,T,T,T,F,T,F,F,F] (take_ofW HT_.out HW_.out kr) ?_
        refine one_ (i := 9) (N := some 25) #[T,T,T,T,T,T,T,T,T,T,T,F,F,F] rfl rfl (one_of HT_.out kr) (by decide) (fun K hK => ?_)
        refine goes_ Try.func65 kr rfl #[.int .i64 a0_0] (by rfl) rfl rfl lm ?_
        with_reducible refine (impl_everybody.calls a0_0 t407 _ A14.out).mono ?_
        rintro e w' ⟨rfl, ⟨nd, rfl⟩⟩
        refine ⟨_, rfl, ?_⟩
        refine hK.out _ _ ⟨cz0 BK404, cz1 BK404⟩ (fun hHeld => ?_)
        clear hK K
        refine norm_ (a' := ?_) ?_ ?_
        rotate_left
        ·show Act.put _ (some 25) _ = _
         simp only [Act.put, List.setIfInBounds_toArray, List.set_cons_zero, List.set_cons_succ, i64_w, i32_w]
         rfl
        refine pu 11 (some 27) #[T,T,T,T,T,T,T,T,T,T,T,T,F,F] (any_of HT_.out kr) ?_
        refine one_ (i := 12) (N := some 28) #[T,T,T,T,T,T,T,T,T,T,T,T,T,F] rfl rfl (one_of HT_.out kr) (by decide) (fun K hK => ?_)
        refine goes_ Try.func50 kr rfl #[.agg #[.int .i64 a0_0, .slice A0_1 l0_1.length c0_1], .slice A1 l1.length c1, .int .i64 (Go.bits .xor .i64 t407 x13_1)] (by rfl) rfl rfl lm ?_
        with_reducible refine (impl_consents.calls k1 a0_0 _ _ l0_1 _ _ l1 (Go.bits .xor .i64 t407 x13_1) true _ ?side1 ?side2 ?side3 ?side4 A15.out).mono ?_
        (case side1 => repeat (first | exact (Kd.C_below HR0_1.out bh) | (with_reducible refine Kd.C_alloc ?_ _) | (with_reducible refine Kd.C_drewN ?_ _) | (with_reducible refine Kd.C_drew ?_)))
        (case side2 => exact HC0_1.out)
        (case side3 => repeat (first | exact (Kd.C_below HR1.out bh) | (with_reducible refine Kd.C_alloc ?_ _) | (with_reducible refine Kd.C_drewN ?_ _) | (with_reducible refine Kd.C_drew ?_)))
        (case side4 => exact HC1.out)
        rintro e w19 ⟨rfl, hb⟩
        refine ⟨_, rfl, ?_⟩
        have n0_ := Aside0.mk (blk_below (bz BK404) hb)
        have n1_ := Aside0.mk (below_step bh hb)
        clear BK404 HB
        have BK404 := n0_
        have HB := n1_
        clear n0_ n1_
        (try clear hb)
        (try clear hb2)
        (try clear hk)
        (try clear hi)
        refine hK.out _ _ ⟨cz0 BK404, cz1 BK404⟩ (fun hHeld => ?_)
        clear hK K
        refine norm_ (a' := ?_) ?_ ?_
        rotate_left
        ·show Act.put _ (some 28) _ = _
         simp only [Act.put, List.setIfInBounds_toArray, List.set_cons_zero, List.set_cons_succ, i64_w, i32_w]
         rfl
        refine pu 13 (some 29) #[T,T,T,T,T,T,T,T,T,T,T,T,T,T] (any_of HT_.out kr) ?_
        refine done_ (done_of HT_.out kr) ?_
        try go_wp2
        go_ret
        exact ⟨by first | rfl | (simp [errW_none, errW_some] <;> rfl) | (simp only [← hji6]; first | rfl | (simp [errW_none, errW_some] <;> rfl)) | (simp [*, errW_none, errW_some] <;> rfl), by exact bh⟩
       ·replace c16 := Bool.eq_false_iff.mpr c16
        subst c16
        have H1 : (impl_ClashOk.l0 k1 l1 ji6 (wrap64 (x13_1 + 1)) a0_0 l0_1) = some r := by rw [if_neg (show ¬ (false = true) by decide)] at H; exact H
        clear H
        have H := H1
        clear H1
        have H' := Aside0.mk H
        clear H
        try go_wp2
        have n0_ := Aside0.mk (blk_drew BK404.out)
        have n1_ := Aside0.mk (below_drew1 HB.out)
        clear BK404 HB
        have BK404 := n0_
        have HB := n1_
        clear n0_ n1_
        refine start_ (n := 14) (S := fun w' => w'.cell? ⟨gb404, 0, none⟩ = some (.int .i64 a0_0) ∧ w'.cell? ⟨gb404, 1, none⟩ = some (.slice A0_1 l0_1.length c0_1)) (ds := []) #[F,F,F,F,F,F,F,F,F,F,F,F,F,F] kr rfl rfl ⟨cz0 BK404, cz1 BK404⟩ (fun hHeld => ?_); refine with_tabW impl_ClashOk.tab6 impl_ClashOk.bits6 (fun HT_ HW_ => ?_)
        generalize wr.drew = w20 at BK404 HB hHeld ⊢
        refine pu 1 (some 17) #[F,T,F,F,F,F,F,F,F,F,F,F,F,F] (any_of HT_.out kr) ?_
        refine pu 2 (some 18) #[F,T,T,F,F,F,F,F,F,F,F,F,F,F] (any_of HT_.out kr) ?_
        refine tk2 0 (some 16) #[T,T,T,F,F,F,F,F,F,F,F,F,F,F] (take_ofW HT_.out HW_.out kr) ?_
        refine one_ (i := 3) (N := some 19) #[T,T,T,T,F,F,F,F,F,F,F,F,F,F] rfl rfl (one_of HT_.out kr) (by decide) (fun K hK => ?_)
        refine goes_ Try.func50 kr rfl #[.agg #[.int .i64 a0_0, .slice A0_1 l0_1.length c0_1], .slice A1 l1.length c1, .int .i64 x13_1] (by rfl) rfl rfl lm ?_
        with_reducible refine (impl_consents.calls k1 a0_0 _ _ l0_1 _ _ l1 x13_1 true _ ?side1 ?side2 ?side3 ?side4 A12.out).mono ?_
        (case side1 => repeat (first | exact (Kd.C_below HR0_1.out HB.out) | (with_reducible refine Kd.C_alloc ?_ _) | (with_reducible refine Kd.C_drewN ?_ _) | (with_reducible refine Kd.C_drew ?_)))
        (case side2 => exact HC0_1.out)
        (case side3 => repeat (first | exact (Kd.C_below HR1.out HB.out) | (with_reducible refine Kd.C_alloc ?_ _) | (with_reducible refine Kd.C_drewN ?_ _) | (with_reducible refine Kd.C_drew ?_)))
        (case side4 => exact HC1.out)
        rintro e w21 ⟨rfl, hb⟩
        refine ⟨_, rfl, ?_⟩
        have n0_ := Aside0.mk (blk_below (bz BK404) hb)
        have n1_ := Aside0.mk (below_step bh hb)
        clear BK404 HB
        have BK404 := n0_
        have HB := n1_
        clear n0_ n1_
        (try clear hb)
        (try clear hb2)
        (try clear hk)
        (try clear hi)
        refine hK.out _ _ ⟨cz0 BK404, cz1 BK404⟩ (fun hHeld => ?_)
        clear hK K
        refine norm_ (a' := ?_) ?_ ?_
        rotate_left
        ·show Act.put _ (some 19) _ = _
         simp only [Act.put, List.setIfInBounds_toArray, List.set_cons_zero, List.set_cons_succ, i64_w, i32_w]
         rfl
        refine pu 4 (some 20) #[T,T,T,T,T,F,F,F,F,F,F,F,F,F] (any_of HT_.out kr) ?_
        refine pu 6 (some 22) #[T,T,T,T,T,F,T,F,F,F,F,F,F,F] (any_of HT_.out kr) ?_
        refine pu 7 (some 23) #[T,T,T,T,T,F,T,T,F,F,F,F,F,F] (any_of HT_.out kr) ?_
        refine pu 10 (some 26) #[T,T,T,T,T,F,T,T,F,F,T,F,F,F] (any_of HT_.out kr) ?_
        refine tk2 5 (some 21) #[T,T,T,T,T,T,T,T,F,F,T,F,F,F] (take_ofW HT_.out HW_.out kr) ?_
        refine tk2 8 (some 24) #[T,T,T,T,T,T,T,T,T,F,T,F,F,F] (take_ofW HT_.out HW_.out kr) ?_
        refine one_ (i := 9) (N := some 25) #[T,T,T,T,T,T,T,T,T,T,T,F,F,F] rfl rfl (one_of HT_.out kr) (by decide) (fun K hK => ?_)
        refine goes_ Try.func65 kr rfl #[.int .i64 a0_0] (by rfl) rfl rfl lm ?_
        with_reducible refine (impl_everybody.calls a0_0 t407 _ A14.out).mono ?_
        rintro e w' ⟨rfl, ⟨nd, rfl⟩⟩
        refine ⟨_, rfl, ?_⟩
        refine hK.out _ _ ⟨cz0 BK404, cz1 BK404⟩ (fun hHeld => ?_)
        clear hK K
        refine norm_ (a' := ?_) ?_ ?_
        rotate_left
        ·show Act.put _ (some 25) _ = _
         simp only [Act.put, List.setIfInBounds_toArray, List.set_cons_zero, List.set_cons_succ, i64_w, i32_w]
         rfl
        refine pu 11 (some 27) #[T,T,T,T,T,T,T,T,T,T,T,T,F,F] (any_of HT_.out kr) ?_
        refine one_ (i := 12) (N := some 28) #[T,T,T,T,T,T,T,T,T,T,T,T,T,F] rfl rfl (one_of HT_.out kr) (by decide) (fun K hK => ?_)
        refine goes_ Try.func50 kr rfl #[.agg #[.int .i64 a0_0, .slice A0_1 l0_1.length c0_1], .slice A1 l1.length c1, .int .i64 (Go.bits .xor .i64 t407 x13_1)] (by rfl) rfl rfl lm ?_
        with_reducible refine (impl_consents.calls k1 a0_0 _ _ l0_1 _ _ l1 (Go.bits .xor .i64 t407 x13_1) false _ ?side1 ?side2 ?side3 ?side4 A15.out).mono ?_
        (case side1 => repeat (first | exact (Kd.C_below HR0_1.out bh) | (with_reducible refine Kd.C_alloc ?_ _) | (with_reducible refine Kd.C_drewN ?_ _) | (with_reducible refine Kd.C_drew ?_)))
        (case side2 => exact HC0_1.out)
        (case side3 => repeat (first | exact (Kd.C_below HR1.out bh) | (with_reducible refine Kd.C_alloc ?_ _) | (with_reducible refine Kd.C_drewN ?_ _) | (with_reducible refine Kd.C_drew ?_)))
        (case side4 => exact HC1.out)
        rintro e w22 ⟨rfl, hb⟩
        refine ⟨_, rfl, ?_⟩
        have n0_ := Aside0.mk (blk_below (bz BK404) hb)
        have n1_ := Aside0.mk (below_step bh hb)
        clear BK404 HB
        have BK404 := n0_
        have HB := n1_
        clear n0_ n1_
        (try clear hb)
        (try clear hb2)
        (try clear hk)
        (try clear hi)
        refine hK.out _ _ ⟨cz0 BK404, cz1 BK404⟩ (fun hHeld => ?_)
        clear hK K
        refine norm_ (a' := ?_) ?_ ?_
        rotate_left
        ·show Act.put _ (some 28) _ = _
         simp only [Act.put, List.setIfInBounds_toArray, List.set_cons_zero, List.set_cons_succ, i64_w, i32_w]
         rfl
        refine pu 13 (some 29) #[T,T,T,T,T,T,T,T,T,T,T,T,T,T] (any_of HT_.out kr) ?_
        refine done_ (done_of HT_.out kr) ?_
        try go_wp2
        go_roundg k1
        case measure => have := HK1.out; omega
        case rel => exact ⟨(wrap64 (x13_1 + 1)), (by first | rfl | (simp; done) | (simp [*]; done)), H', ⟨by have := HK1.out; omega⟩, ⟨bz BK404⟩, ⟨by exact bh⟩⟩
      ·replace c13 := Bool.eq_false_iff.mpr c13
       subst c13
       have H1 : (impl_ClashOk.l0 k1 l1 ji6 (wrap64 (x13_1 + 1)) a0_0 l0_1) = some r := by rw [if_neg (show ¬ (false = true) by decide)] at H; exact H
       clear H
       have H := H1
       clear H1
       have H' := Aside0.mk H
       clear H
       try go_wp2
       have n0_ := Aside0.mk (blk_drew BK404.out)
       have n1_ := Aside0.mk (below_drew1 HB.out)
       clear BK404 HB
       have BK404 := n0_
       have HB := n1_
       clear n0_ n1_
       refine start_ (n := 14) (S := fun w' => w'.cell? ⟨gb404, 0, none⟩ = some (.int .i64 a0_0) ∧ w'.cell? ⟨gb404, 1, none⟩ = some (.slice A0_1 l0_1.length c0_1)) (ds := []) #[F,F,F,F,F,F,F,F,F,F,F,F,F,F] kr rfl rfl ⟨cz0 BK404, cz1 BK404⟩ (fun hHeld => ?_); refine with_tabW impl_ClashOk.tab6 impl_ClashOk.bits6 (fun HT_ HW_ => ?_)
       generalize wr.drew = w23 at BK404 HB hHeld ⊢
       refine pu 1 (some 17) #[F,T,F,F,F,F,F,F,F,F,F,F,F,F] (any_of HT_.out kr) ?_
       refine pu 2 (some 18) #[F,T,T,F,F,F,F,F,F,F,F,F,F,F] (any_of HT_.out kr) ?_
       refine tk2 0 (some 16) #[T,T,T,F,F,F,F,F,F,F,F,F,F,F] (take_ofW HT_.out HW_.out kr) ?_
       refine one_ (i := 3) (N := some 19) #[T,T,T,T,F,F,F,F,F,F,F,F,F,F] rfl rfl (one_of HT_.out kr) (by decide) (fun K hK => ?_)
       refine goes_ Try.func50 kr rfl #[.agg #[.int .i64 a0_0, .slice A0_1 l0_1.length c0_1], .slice A1 l1.length c1, .int .i64 x13_1] (by rfl) rfl rfl lm ?_
       with_reducible refine (impl_consents.calls k1 a0_0 _ _ l0_1 _ _ l1 x13_1 false _ ?side1 ?side2 ?side3 ?side4 A12.out).mono ?_
       (case side1 => repeat (first | exact (Kd.C_below HR0_1.out HB.out) | (with_reducible refine Kd.C_alloc ?_ _) | (with_reducible refine Kd.C_drewN ?_ _) | (with_reducible refine Kd.C_drew ?_)))
       (case side2 => exact HC0_1.out)
       (case side3 => repeat (first | exact (Kd.C_below HR1.out HB.out) | (with_reducible refine Kd.C_alloc ?_ _) | (with_reducible refine Kd.C_drewN ?_ _) | (with_reducible refine Kd.C_drew ?_)))
       (case side4 => exact HC1.out)
       rintro e w24 ⟨rfl, hb⟩
       refine ⟨_, rfl, ?_⟩
       have n0_ := Aside0.mk (blk_below (bz BK404) hb)
       have n1_ := Aside0.mk (below_step bh hb)
       clear BK404 HB
       have BK404 := n0_
       have HB := n1_
       clear n0_ n1_
       (try clear hb)
       (try clear hb2)
       (try clear hk)
       (try clear hi)
       refine hK.out _ _ ⟨cz0 BK404, cz1 BK404⟩ (fun hHeld => ?_)
       clear hK K
       refine norm_ (a' := ?_) ?_ ?_
       rotate_left
       ·show Act.put _ (some 19) _ = _
        simp only [Act.put, List.setIfInBounds_toArray, List.set_cons_zero, List.set_cons_succ, i64_w, i32_w]
        rfl
       refine pu 4 (some 20) #[T,T,T,T,T,F,F,F,F,F,F,F,F,F] (any_of HT_.out kr) ?_
       refine pure_ (i := 5) (N := some 21) (v := undef) (a' := ?_) #[T,T,T,T,T,T,F,F,F,F,F,F,F,F] rfl rfl (any_of HT_.out kr) (fun _ _ _ h => h) (Or.inr ⟨by rfl, rfl⟩) ?_ ?_
       rotate_left
       ·simp only [Act.put, List.setIfInBounds_toArray, List.set_cons_zero, List.set_cons_succ, i64_w, i32_w]
        rfl
       refine pure_ (i := 6) (N := some 22) (v := undef) (a' := ?_) #[T,T,T,T,T,T,T,F,F,F,F,F,F,F] rfl rfl (any_of HT_.out kr) (fun _ _ _ h => h) (Or.inr ⟨by rfl, rfl⟩) ?_ ?_
       rotate_left
       ·simp only [Act.put, List.setIfInBounds_toArray, List.set_cons_zero, List.set_cons_succ, i64_w, i32_w]
        rfl
       refine pure_ (i := 7) (N := some 23) (v := undef) (a' := ?_) #[T,T,T,T,T,T,T,T,F,F,F,F,F,F] rfl rfl (any_of HT_.out kr) (fun _ _ _ h => h) (Or.inr ⟨by rfl, rfl⟩) ?_ ?_
       rotate_left
       ·simp only [Act.put, List.setIfInBounds_toArray, List.set_cons_zero, List.set_cons_succ, i64_w, i32_w]
        rfl
       refine pure_ (i := 8) (N := some 24) (v := undef) (a' := ?_) #[T,T,T,T,T,T,T,T,T,F,F,F,F,F] rfl rfl (any_of HT_.out kr) (fun _ _ _ h => h) (Or.inr ⟨by rfl, rfl⟩) ?_ ?_
       rotate_left
       ·simp only [Act.put, List.setIfInBounds_toArray, List.set_cons_zero, List.set_cons_succ, i64_w, i32_w]
        rfl
       refine pure_ (i := 9) (N := some 25) (v := undef) (a' := ?_) #[T,T,T,T,T,T,T,T,T,T,F,F,F,F] rfl rfl (any_of HT_.out kr) (fun _ _ _ h => h) (Or.inr ⟨by rfl, rfl⟩) ?_ ?_
       rotate_left
       ·simp only [Act.put, List.setIfInBounds_toArray, List.set_cons_zero, List.set_cons_succ, i64_w, i32_w]
        rfl
       refine pure_ (i := 10) (N := some 26) (v := undef) (a' := ?_) #[T,T,T,T,T,T,T,T,T,T,T,F,F,F] rfl rfl (any_of HT_.out kr) (fun _ _ _ h => h) (Or.inr ⟨by rfl, rfl⟩) ?_ ?_
       rotate_left
       ·simp only [Act.put, List.setIfInBounds_toArray, List.set_cons_zero, List.set_cons_succ, i64_w, i32_w]
        rfl
       refine pure_ (i := 11) (N := some 27) (v := undef) (a' := ?_) #[T,T,T,T,T,T,T,T,T,T,T,T,F,F] rfl rfl (any_of HT_.out kr) (fun _ _ _ h => h) (Or.inr ⟨by rfl, rfl⟩) ?_ ?_
       rotate_left
       ·simp only [Act.put, List.setIfInBounds_toArray, List.set_cons_zero, List.set_cons_succ, i64_w, i32_w]
        rfl
       refine pure_ (i := 12) (N := some 28) (v := undef) (a' := ?_) #[T,T,T,T,T,T,T,T,T,T,T,T,T,F] rfl rfl (any_of HT_.out kr) (fun _ _ _ h => h) (Or.inr ⟨by rfl, rfl⟩) ?_ ?_
       rotate_left
       ·simp only [Act.put, List.setIfInBounds_toArray, List.set_cons_zero, List.set_cons_succ, i64_w, i32_w]
        rfl
       refine pu 13 (some 29) #[T,T,T,T,T,T,T,T,T,T,T,T,T,T] (any_of HT_.out kr) ?_
       refine done_ (done_of HT_.out kr) ?_
       try go_wp2
       go_roundg k1
       case measure => have := HK1.out; omega
       case rel => exact ⟨(wrap64 (x13_1 + 1)), (by first | rfl | (simp; done) | (simp [*]; done)), H', ⟨by have := HK1.out; omega⟩, ⟨bz BK404⟩, ⟨by exact bh⟩⟩
     ·rw [if_neg c11] at H
      have c11b0 : decide (x13_1 < ji6) = false := decide_eq_false c11
      clear c11
      obtain rfl := Option.some.inj H
      go_wp2
      go_ret
      exact ⟨by first | rfl | (simp [errW_none, errW_some] <;> rfl) | (simp only [← hji6]; first | rfl | (simp [errW_none, errW_some] <;> rfl)) | (simp [*, errW_none, errW_some] <;> rfl), by exact bh⟩
  ·rw [if_neg c5] at H
   exact absurd H (by simp)
 ·replace c4 := Bool.eq_false_iff.mpr c4
  subst c4
  have H1 : (some false) = some r := by rw [if_neg (show ¬ (false = true) by decide)] at H; exact H
  clear H
  have H := H1
  clear H1
  obtain rfl := Option.some.inj H
  go_enter Try.func35, Try.ntmps35
  go_wp2_with (first | ((with_reducible refine gate_dst (N := 2) rfl ?_); refine box_event ?hg (N := 2) ?hd (cs := #[.int .i64 a0_0, .slice A0_1 l0_1.length c0_1]) (t := 25) ?hr ?_; (case hd => rfl); (case hg => rfl); (case hr => first | (go_simp; done) | (go_simp; rfl)); intro gb404 hg w25 hbox hb; have n0_ := Aside0.mk (below_step bh hb); have n1_ := Aside0.mk (hbox); have n2_ := Aside0.mk ((gs (W0 := w) hg bh)); have n3_ := Aside0.mk ((gs (W0 := w) hg bh)); clear HB; have HB := n0_; have BK404 := n1_; have GW404 := n2_; have GE404 := n3_; clear n0_ n1_ n2_ n3_ hb hbox hg; have hcz26_0 := cz0 BK404; have hcz26_1 := cz1 BK404; have hfz26_0 := blk_frozen BK404.out 0; have hfz26_1 := blk_frozen BK404.out 1) | ((with_reducible refine gate_callee (f := 49) rfl ?_); refine goesL_ (some 8) rfl rfl Try.func49 kr rfl #[.agg #[.int .i64 a0_0, .slice A0_1 l0_1.length c0_1], .slice A1 l1.length c1] rfl lm ?_; (with_reducible refine (impl_isTerm.calls k a0_0 _ _ l0_1 _ _ l1 false _ ?side1 ?side2 ?side3 ?side4 A3.out).mono ?_); (case side1 => repeat (first | exact (Kd.C_below HR0_1.out HB.out) | (with_reducible refine Kd.C_alloc ?_ _) | (with_reducible refine Kd.C_drewN ?_ _) | (with_reducible refine Kd.C_drew ?_))); (case side2 => exact HC0_1.out); (case side3 => repeat (first | exact (Kd.C_below HR1.out HB.out) | (with_reducible refine Kd.C_alloc ?_ _) | (with_reducible refine Kd.C_drewN ?_ _) | (with_reducible refine Kd.C_drew ?_))); (case side4 => exact HC1.out); rintro e w27 ⟨rfl, hb⟩; refine ⟨_, rfl, ?_⟩; have n0_ := Aside0.mk (blk_below (bz BK404) hb); have n1_ := Aside0.mk (below_step bh hb); clear BK404 HB; have BK404 := n0_; have HB := n1_; clear n0_ n1_; (try clear hb); (try clear hb2); (try clear hk); (try clear hi)))
  go_ret
  exact ⟨by first | rfl | (simp [errW_none, errW_some] <;> rfl) | (simp [*, errW_none, errW_some] <;> rfl), by exact bh⟩

/-! ### spec_l3Starts: function 72 -/
def spec_l3Starts.l0 : Nat → List (S61) → Int → Int → Option (Int)
 | 0, _, _, _ => none
 | k + 1, x0, x5, x6 => if x5 > 0 then (if 0 ≤ x6 then (if x6 < (x0.length : Int) then (if ((rd_T61 x0 x6).f0) = 0 then (spec_l3Starts.l0 k x0 (wrap64 (x5 - 1)) (wrap64 (x6 - 1))) else (spec_l3Starts.l0 k x0 (wrap64 (x5 + 1)) (wrap64 (x6 - 1)))) else (none)) else (none)) else (some (wrap64 (x6 + 1)))
def spec_l3Starts.f (k : Nat) (l0 : List (S61)) (a1 : Int) : Option (Int) := spec_l3Starts.l0 k l0 1 a1
theorem spec_l3Starts.mono_l : ∀ k, (∀ y0 y1 y2, LeO (spec_l3Starts.l0 k y0 y1 y2) (spec_l3Starts.l0 (k + 1) y0 y1 y2))
 | 0 => fun _ _ _ r h => by simp [spec_l3Starts.l0] at h
 | k + 1 => by
  have ih0 := spec_l3Starts.mono_l k
  ·intro y0 y1 y2
   unfold spec_l3Starts.l0
   repeat' first
   | (with_reducible exact ih0 _ _ _)
   | (with_reducible exact LeO.refl _)
   | (with_reducible exact LeO.none _)
   | (with_reducible refine LeO.ite ?_ ?_)
   | (with_reducible refine LeO.bind ?_ (fun _ => ?_))
   | exact ih0 _ _ _
   | exact LeO.none _
   | refine LeO.ite ?_ ?_
   | refine LeO.bind ?_ (fun _ => ?_)
theorem spec_l3Starts.mono : ∀ a0 a1 k, LeO (spec_l3Starts.f k a0 a1) (spec_l3Starts.f (k + 1) a0 a1) := by
 intro a0 a1 k
 have ih0 := spec_l3Starts.mono_l k
 unfold spec_l3Starts.f
 repeat' first
   | (with_reducible exact ih0 _ _ _)
   | (with_reducible exact LeO.refl _)
   | (with_reducible exact LeO.none _)
   | (with_reducible refine LeO.ite ?_ ?_)
   | (with_reducible refine LeO.bind ?_ (fun _ => ?_))
   | exact ih0 _ _ _
   | exact LeO.none _
   | refine LeO.ite ?_ ?_
   | refine LeO.bind ?_ (fun _ => ?_)
set_option maxHeartbeats 8000000 in
set_option maxRecDepth 100000 in
theorem spec_l3Starts.calls (k : Nat) (A0 : Option Addr) (c0 : Nat) (l0 : List (S61)) (a1 : Int) (r : Int) (w : World) (hr0 : Kd.C k61 w A0 l0.length l0) (hc0 : l0.length ≤ c0) (h : spec_l3Starts.f k l0 a1 = some r) :
  Calls Try.prog 72 #[.slice A0 l0.length c0, .int .i64 a1] w fun e w' => e = .returned (.int .i64 r) ∧ Drawn0 w w' := by
 have HR0 := Aside0.mk hr0
 have HC0 := Aside0.mk hc0
 clear hr0 hc0
 have H : (spec_l3Starts.l0 k l0 1 a1) = some r := h
 clear h
 have H' := Aside0.mk H
 clear H
 go_enter Try.func72, Try.ntmps72
 go_wp2
 go_loopg [5, 6] k (fun kq v5 v6 w' => ∃ (x5_1 : Int) (x6_1 : Int), v5 = .int .i64 x5_1 ∧ v6 = .int .i64 x6_1 ∧ Aside0 (spec_l3Starts.l0 kq l0 x5_1 x6_1 = some r) ∧ Aside0 (kq ≤ k) ∧ Drawn0 w w')
 case atStart => exact ⟨(1), (a1), (by first | rfl | (simp; done) | (simp [*]; done)), (by first | rfl | (simp; done) | (simp [*]; done)), H', ⟨Nat.le_refl _⟩, by repeat (first | exact Drawn0.refl _ | apply Drawn0.step)⟩
 case round =>
  clear H'
  try clear p2
  obtain ⟨x5_1, x6_1, rfl, rfl, HA, HK1, ⟨m1, rfl⟩⟩ := hrel
  cases gk with
  | zero => exact absurd HA.out (by simp [spec_l3Starts.l0])
  | succ k1 =>
   have H := HA.out
   clear HA
   simp only [spec_l3Starts.l0] at H
   by_cases c3 : x5_1 > 0
   ·rw [if_pos c3] at H
    have c3b0 : decide (0 < x5_1) = true := decide_eq_true c3
    clear c3
    by_cases c4 : 0 ≤ x6_1
    ·rw [if_pos c4] at H
     have c4b0 : decide (0 ≤ x6_1) = true := decide_eq_true c4
     clear c4
     by_cases c5 : x6_1 < (l0.length : Int)
     ·rw [if_pos c5] at H
      have c5b0 : decide (x6_1 < (l0.length : Int)) = true := decide_eq_true c5
      clear c5
      by_cases c6 : ((rd_T61 l0 x6_1).f0) = 0
      ·rw [if_pos c6] at H
       have c6b0 : (((rd_T61 l0 x6_1).f0) == 0) = true := beq_iff_eq.mpr c6
       have c6b1 : (((rd_T61 l0 x6_1).f0) != 0) = false := bne_eq_false_iff_eq.mpr c6
       clear c6
       have H' := Aside0.mk H
       clear H
       have p409 : 0 ≤ (x6_1 : Int) := oda
       have q409 : x6_1 < (l0.length : Int) := oda
       obtain ⟨ad409, e409, hx409_0, hx409_1, hx409_2⟩ := at_T61 HR0.out x6_1 p409 q409
       cases e409
       replace p409 := eq_true p409
       replace q409 := eq_true q409
       go_wp2
       go_roundg k1
       case measure => have := HK1.out; omega
       case rel => exact ⟨(wrap64 (x5_1 - 1)), (wrap64 (x6_1 - 1)), (by first | rfl | (simp; done) | (simp [*]; done)), (by first | rfl | (simp; done) | (simp [*]; done)), H', ⟨by have := HK1.out; omega⟩, by repeat (first | exact Drawn0.refl _ | apply Drawn0.step)⟩
      ·rw [if_neg c6] at H
       have c6b0 : (((rd_T61 l0 x6_1).f0) == 0) = false := beq_eq_false_iff_ne.mpr c6
       have c6b1 : (((rd_T61 l0 x6_1).f0) != 0) = true := bne_iff_ne.mpr c6
       have H' := Aside0.mk H
       clear H
       have p409 : 0 ≤ (x6_1 : Int) := oda
       have q409 : x6_1 < (l0.length : Int) := oda
       obtain ⟨ad409, e409, hx409_0, hx409_1, hx409_2⟩ := at_T61 HR0.out x6_1 p409 q409
       cases e409
       replace p409 := eq_true p409
       replace q409 := eq_true q409
       go_wp2
       go_roundg k1
       case measure => have := HK1.out; omega
       case rel => exact ⟨(wrap64 (x5_1 + 1)), (wrap64 (x6_1 - 1)), (by first | rfl | (simp; done) | (simp [*]; done)), (by first | rfl | (simp; done) | (simp [*]; done)), H', ⟨by have := HK1.out; omega⟩, by repeat (first | exact Drawn0.refl _ | apply Drawn0.step)⟩
     ·rw [if_neg c5] at H
      exact absurd H (by simp)
    ·rw [if_neg c4] at H
     exact absurd H (by simp)
   ·rw [if_neg c3] at H
    have c3b0 : decide (0 < x5_1) = false := decide_eq_false c3
    clear c3
    obtain rfl := Option.some.inj H
    go_wp2
    go_ret
    exact ⟨by first | rfl | (simp; done) | (simp [*]; done), by repeat (first | exact Drawn0.refl _ | apply Drawn0.step)⟩

end Go.Proofs.Ytaddlahbahedeaa.QFnClashOk
