-- Printed for this claim by a turned copy of the print (wip/myprint). Lean checks it. Squeezed. Worded. Tightened.
import Derived.Test.YtaddlahbahedeaaQFnIdleInx0
import Derived.Test.YtaddlahbahedeaaQFnIdleInx8
namespace Go.Proofs.Ytaddlahbahedeaa.QFnIdleIn
open Go.RowKit Go.Proofs.YtaddlahbahedeaaW.PrintWords Go.Proofs.YtaddlahbahedeaaW.PrintLast Go.Proofs.YtaddlahbahedeaaW.PrintMore
attribute [local go_sem] max2_int min2_int max_two min_two max_three min_three max_four min_four Opens.cell_twice   -- for this text's walks alone
set_option linter.unusedVariables false
set_option linter.unusedSimpArgs false

/-! ### impl_swingsOf: function 67 -/
def impl_swingsOf.l0 : Nat → List (S61) → Int → List Int → Int → Int → Int → List Int → Option (List Int)
 | 0, _, _, _, _, _, _, _ => none
 | k + 1, x1, x2, x7, x12, x13, x391000, x391001 => if x13 < x12 then (if 0 ≤ x2 then (if (Go.bits .and .i64 (shr .i64 x13 x2) 1) = 0 then ((impl_consents.f k x391000 x391001 x1 x13).bind fun t394 => (if t394 = true then (impl_swingsOf.l0 k x1 x2 x7 x12 (wrap64 (x13 + 1)) x391000 x391001) else ((impl_consents.f k x391000 x391001 x1 (Go.bits .or .i64 x13 (shl .i64 1 x2))).bind fun t395 => (if t395 = true then (if x7.length < 17592186044416 then (impl_swingsOf.l0 k x1 x2 (x7 ++ [x13]) x12 (wrap64 (x13 + 1)) x391000 x391001) else (none)) else (impl_swingsOf.l0 k x1 x2 x7 x12 (wrap64 (x13 + 1)) x391000 x391001))))) else (impl_swingsOf.l0 k x1 x2 x7 x12 (wrap64 (x13 + 1)) x391000 x391001)) else (none)) else (some x7)
def impl_swingsOf.f (k : Nat) (a0_0 : Int) (l0_1 : List Int) (l1 : List (S61)) (a2 : Int) : Option (List Int) := if 0 ≤ a0_0 then (impl_swingsOf.l0 k l1 a2 (([] : List Int)) (shl .i64 1 a0_0) 0 a0_0 l0_1) else (none)
theorem impl_swingsOf.mono_l : ∀ k, (∀ y0 y1 y2 y3 y4 y5 y6, LeO (impl_swingsOf.l0 k y0 y1 y2 y3 y4 y5 y6) (impl_swingsOf.l0 (k + 1) y0 y1 y2 y3 y4 y5 y6))
 | 0 => fun _ _ _ _ _ _ _ r h => by simp [impl_swingsOf.l0] at h
 | k + 1 => by
  have ih0 := impl_swingsOf.mono_l k
  ·intro y0 y1 y2 y3 y4 y5 y6
   unfold impl_swingsOf.l0
   repeat' first
   | (with_reducible exact ih0 _ _ _ _ _ _ _)
   | (with_reducible exact impl_consents.mono _ _ _ _ _)
   | (with_reducible exact LeO.refl _)
   | (with_reducible exact LeO.none _)
   | (with_reducible refine LeO.ite ?_ ?_)
   | (with_reducible refine LeO.bind ?_ (fun _ => ?_))
   | exact ih0 _ _ _ _ _ _ _
   | exact impl_consents.mono _ _ _ _ _
   | exact LeO.none _
   | refine LeO.ite ?_ ?_
   | refine LeO.bind ?_ (fun _ => ?_)
theorem impl_swingsOf.mono : ∀ a0 a1 a2 a3 k, LeO (impl_swingsOf.f k a0 a1 a2 a3) (impl_swingsOf.f (k + 1) a0 a1 a2 a3) := by
 intro a0 a1 a2 a3 k
 have ih0 := impl_swingsOf.mono_l k
 unfold impl_swingsOf.f
 repeat' first
   | (with_reducible exact ih0 _ _ _ _ _ _ _)
   | (with_reducible exact impl_consents.mono _ _ _ _ _)
   | (with_reducible exact LeO.refl _)
   | (with_reducible exact LeO.none _)
   | (with_reducible refine LeO.ite ?_ ?_)
   | (with_reducible refine LeO.bind ?_ (fun _ => ?_))
   | exact ih0 _ _ _ _ _ _ _
   | exact impl_consents.mono _ _ _ _ _
   | exact LeO.none _
   | refine LeO.ite ?_ ?_
   | refine LeO.bind ?_ (fun _ => ?_)
def impl_swingsOf.T5 : Bool × List (List Nat × List Nat) := (true, [([], []), ([], []), ([0, 1], [0, 1]), ([2], [2]), ([3], [3]), ([4], [4]), ([5], [5]), ([5], [5]), ([5], [5]), ([6, 7, 8, 5, 5], [5, 6, 7, 8]), ([9, 5], [5, 9]), ([5, 10], [5, 10]), ([11, 9], [11]), ([12], [12]), ([12], [12]), ([12], [12]), ([12], [12]), ([16, 12], [12, 16]), ([15, 17, 12], [12, 15, 17]), ([13, 14, 18, 12, 12], [12, 13, 14, 18]), ([12, 19], [12, 19])])
def impl_swingsOf.B5 : List Nat := [0, 0, 3, 7, 15, 31, 63, 63, 63, 511, 1023, 2047, 4095, 8191, 8191, 8191, 8191, 73727, 237567, 524287, 1048575]
theorem impl_swingsOf.tab5 : rtab .any (opsOf Try.f67 5) = impl_swingsOf.T5 := by kernel_rfl
theorem impl_swingsOf.bits5 : waitsOk impl_swingsOf.T5.2 impl_swingsOf.B5 = true := by kernel_rfl
set_option maxHeartbeats 8000000 in
set_option maxRecDepth 100000 in
theorem impl_swingsOf.calls (k : Nat) (a0_0 : Int) (A0_1 : Option Addr) (c0_1 : Nat) (l0_1 : List Int) (A1 : Option Addr) (c1 : Nat) (l1 : List (S61)) (a2 : Int) (r : List Int) (w : World) (hr0_1 : Kd.C (Kd.int .i64) w A0_1 l0_1.length l0_1) (hc0_1 : l0_1.length ≤ c0_1) (hr1 : Kd.C k61 w A1 l1.length l1) (hc1 : l1.length ≤ c1) (h : impl_swingsOf.f k a0_0 l0_1 l1 a2 = some r) :
  Calls Try.prog 67 #[.agg #[.int .i64 a0_0, .slice A0_1 l0_1.length c0_1], .slice A1 l1.length c1, .int .i64 a2] w fun e w' => ∃ v0_ : Value, e = .returned (v0_) ∧ Kd.R (Kd.int .i64) 3 w' w.heap.size (fun _ => True) v0_ r ∧ Below w.heap.size w w' := by
 have hu25 := Try.underlying25
 have HR0_1 := Aside0.mk hr0_1
 have HC0_1 := Aside0.mk hc0_1
 clear hr0_1 hc0_1
 have HR1 := Aside0.mk hr1
 have HC1 := Aside0.mk hc1
 clear hr1 hc1
 have HB := Aside0.mk (Below.refl w.heap.size w)
 have H : (if 0 ≤ a0_0 then (impl_swingsOf.l0 k l1 a2 (([] : List Int)) (shl .i64 1 a0_0) 0 a0_0 l0_1) else (none)) = some r := h
 clear h
 obtain ⟨y391, hy391⟩ : ∃ y_ : List Int, y_ = (([] : List Int)) := ⟨_, rfl⟩
 replace H : (if 0 ≤ a0_0 then (impl_swingsOf.l0 k l1 a2 y391 (shl .i64 1 a0_0) 0 a0_0 l0_1) else (none)) = some r := by first | (rw [hy391]; with_reducible exact H) | (have H2_ := (Option.bind_some _ _).symm.trans H; rw [hy391]; with_reducible exact H2_) | (have H2_ := (Option.bind_some _ _).symm.trans H; with_reducible exact H2_) | with_reducible exact H | (rw [hy391]; exact H) | exact H
 have Ny391 := Aside0.mk hy391
 clear hy391
 by_cases c4 : 0 ≤ a0_0
 ·rw [if_pos c4] at H
  have c4b0 := eq_true c4
  have c4b1 : decide (0 ≤ a0_0) = true := decide_eq_true c4
  clear c4
  obtain ⟨ji5, hji5⟩ : ∃ j_ : Int, (shl .i64 1 a0_0) = j_ := ⟨_, rfl⟩
  replace H : (impl_swingsOf.l0 k l1 a2 y391 ji5 0 a0_0 l0_1) = some r := by first | (rw [hji5] at H; exact H) | (simp only [hji5] at H ⊢; exact H)
  have hji5_ : (IntKind.i64.wrap (1 * 2 ^ min a0_0.toNat 64)) = ji5 := hji5
  have hji5z : a0_0 ≤ 64 → (IntKind.i64.wrap (1 * 2 ^ a0_0.toNat)) = ji5 := shl_small hji5
  have hji5u : (IntKind.i64.wrap (2 ^ min a0_0.toNat 64)) = ji5 := by have h_ := hji5_; rw [Int.one_mul] at h_; exact h_
  have hji5v : a0_0 ≤ 64 → (IntKind.i64.wrap (2 ^ a0_0.toNat)) = ji5 := fun hle_ => by have h_ := hji5z hle_; rw [Int.one_mul] at h_; exact h_
  have hji5y : (wrap64 (1 * 2 ^ min a0_0.toNat 64)) = ji5 := (i64_w _).symm.trans hji5_
  have hji5x : a0_0 ≤ 64 → (wrap64 (1 * 2 ^ a0_0.toNat)) = ji5 := fun h_ => (i64_w _).symm.trans (hji5z h_)
  have H' := Aside0.mk H
  clear H
  go_enter Try.func67, Try.ntmps67
  go_wp2_with (first | ((with_reducible refine gate_dst (N := 3) rfl ?_); refine box_event ?hg (N := 3) ?hd (cs := #[.int .i64 a0_0, .slice A0_1 l0_1.length c0_1]) (t := 25) ?hr ?_; (case hd => rfl); (case hg => rfl); (case hr => first | (go_simp; done) | (go_simp; rfl)); intro gb390 hg w6 hbox hb; have n0_ := Aside0.mk (below_step bh hb); have n1_ := Aside0.mk (hbox); have n2_ := Aside0.mk ((gs (W0 := w) hg bh)); have n3_ := Aside0.mk ((gs (W0 := w) hg bh)); clear HB; have HB := n0_; have BK390 := n1_; have GW390 := n2_; have GE390 := n3_; clear n0_ n1_ n2_ n3_ hb hbox hg) | ((with_reducible refine gate_dst (N := 9) rfl ?_); refine Kd.R_lit (Kd.int .i64) _ 3 ?hg (N := 9) ?hd (xs := ([] : List Int)) (inner := []) (ok := fun _ => True) (okp := fun _ => True) ?hr ?hp (fun _ hk => hk) trivial (Below.refl _ _) (Nat.le_refl _) (by simp) ?_; (case hd => rfl); (case hg => rfl); (case hr => first | (go_simp; done) | (go_simp; rfl)); (case hp => exact (Reps.none _ _)); intro v392 w7 ho8 hb hg_ hnew_; clear hg_ hnew_; (first | rw [← Ny391.out] at ho8 | (simp only [Int.reduceToNat] at ho8; rw [← Ny391.out] at ho8)); have n0_ := Aside0.mk (Kd.R_lower ho8 (below_size bh)); have n1_ := Aside0.mk (blk_below (bz BK390) hb); have n2_ := Aside0.mk (below_step bh hb); clear BK390 HB; have HO393 := n0_; have BK390 := n1_; have HB := n2_; clear n0_ n1_ n2_ hb ho8; have hcz9_0 := cz0 BK390; have hcz9_1 := cz1 BK390; have hfz9_0 := blk_frozen BK390.out 0; have hfz9_1 := blk_frozen BK390.out 1))
  go_loopg [7, 13] k (fun kq v7 v13 w' => ∃ (x7_1 : List Int) (x13_1 : Int), v13 = .int .i64 x13_1 ∧ Aside0 (impl_swingsOf.l0 kq l1 a2 x7_1 ji5 x13_1 a0_0 l0_1 = some r) ∧ Aside0 (kq ≤ k) ∧ Aside0 (Kd.R (Kd.int .i64) 3 w' w.heap.size (fun _ => True) v7 x7_1) ∧ Aside0 (w'.heap[gb390]? = some (.cells #[.int .i64 a0_0, (.slice A0_1 l0_1.length c0_1)] 25 (0, 0))) ∧ Aside0 (Below w.heap.size w w'))
  case atStart => exact ⟨(y391), (0), (by first | rfl | (simp; done) | (simp [*]; done)), H', ⟨Nat.le_refl _⟩, ⟨rz HO393⟩, ⟨bz BK390⟩, ⟨by exact bh⟩⟩
  case round =>
   clear H'
   try clear c1
   try clear p2
   try clear c4
   try clear c4b0
   try clear c4b1
   try clear c6
   try clear p6
   try clear hcz9_0
   try clear hcz9_1
   try clear hfz9_0
   try clear hfz9_1
   obtain ⟨x7_1, x13_1, rfl, HA, HK1, HO_7, BK390, HB⟩ := hrel
   cases gk with
   | zero => exact absurd HA.out (by simp [impl_swingsOf.l0])
   | succ k1 =>
    have H := HA.out
    clear HA
    simp only [impl_swingsOf.l0] at H
    by_cases c10 : x13_1 < ji5
    ·rw [if_pos c10] at H
     have c10b0 : decide (x13_1 < ji5) = true := decide_eq_true c10
     clear c10
     by_cases c11 : 0 ≤ a2
     ·rw [if_pos c11] at H
      have c11b0 := eq_true c11
      have c11b1 : decide (0 ≤ a2) = true := decide_eq_true c11
      clear c11
      obtain ⟨ji12, hji12⟩ : ∃ j_ : Int, (shr .i64 x13_1 a2) = j_ := ⟨_, rfl⟩
      replace H : (if (Go.bits .and .i64 (ji12) 1) = 0 then ((impl_consents.f k1 a0_0 l0_1 l1 x13_1).bind fun t394 => (if t394 = true then (impl_swingsOf.l0 k1 l1 a2 x7_1 ji5 (wrap64 (x13_1 + 1)) a0_0 l0_1) else ((impl_consents.f k1 a0_0 l0_1 l1 (Go.bits .or .i64 x13_1 (shl .i64 1 a2))).bind fun t395 => (if t395 = true then (if x7_1.length < 17592186044416 then (impl_swingsOf.l0 k1 l1 a2 (x7_1 ++ [x13_1]) ji5 (wrap64 (x13_1 + 1)) a0_0 l0_1) else (none)) else (impl_swingsOf.l0 k1 l1 a2 x7_1 ji5 (wrap64 (x13_1 + 1)) a0_0 l0_1))))) else (impl_swingsOf.l0 k1 l1 a2 x7_1 ji5 (wrap64 (x13_1 + 1)) a0_0 l0_1)) = some r := by first | (rw [hji12] at H; exact H) | (simp only [hji12] at H ⊢; exact H)
      have hji12_ : (x13_1 / 2 ^ min a2.toNat 64) = ji12 := hji12
      have hji12z : a2 ≤ 64 → (x13_1 / 2 ^ a2.toNat) = ji12 := shr_small hji12
      by_cases c13 : (Go.bits .and .i64 (ji12) 1) = 0
      ·rw [if_pos c13] at H
       have c13b0 : ((Go.bits .and .i64 (ji12) 1) == 0) = true := beq_iff_eq.mpr c13
       have c13b1 : ((Go.bits .and .i64 (ji12) 1) != 0) = false := bne_eq_false_iff_eq.mpr c13
       clear c13
       replace H := Option.bind_eq_some_iff.mp H
       obtain ⟨t394, A140, H⟩ := H
       replace H : (if t394 = true then (impl_swingsOf.l0 k1 l1 a2 x7_1 ji5 (wrap64 (x13_1 + 1)) a0_0 l0_1) else ((impl_consents.f k1 a0_0 l0_1 l1 (Go.bits .or .i64 x13_1 (shl .i64 1 a2))).bind fun t395 => (if t395 = true then (if x7_1.length < 17592186044416 then (impl_swingsOf.l0 k1 l1 a2 (x7_1 ++ [x13_1]) ji5 (wrap64 (x13_1 + 1)) a0_0 l0_1) else (none)) else (impl_swingsOf.l0 k1 l1 a2 x7_1 ji5 (wrap64 (x13_1 + 1)) a0_0 l0_1)))) = some r := H
       have A14 := Aside0.mk A140
       clear A140
       by_cases c15 : t394 = true
       ·subst c15
        have H1 : (impl_swingsOf.l0 k1 l1 a2 x7_1 ji5 (wrap64 (x13_1 + 1)) a0_0 l0_1) = some r := by rw [if_pos rfl] at H; exact H
        clear H
        have H := H1
        clear H1
        have H' := Aside0.mk H
        clear H
        try go_wp2
        have n0_ := Aside0.mk (Kd.R_drew HO_7.out)
        have n1_ := Aside0.mk (blk_drew BK390.out)
        have n2_ := Aside0.mk (below_drew1 HB.out)
        clear HO_7 BK390 HB
        have HO_7 := n0_
        have BK390 := n1_
        have HB := n2_
        clear n0_ n1_ n2_
        refine start_ (n := 21) (S := fun w' => w'.cell? ⟨gb390, 0, none⟩ = some (.int .i64 a0_0) ∧ w'.cell? ⟨gb390, 1, none⟩ = some (.slice A0_1 l0_1.length c0_1)) (ds := []) #[F,F,F,F,F,F,F,F,F,F,F,F,F,F,F,F,F,F,F,F,F] kr rfl rfl ⟨cz0 BK390, cz1 BK390⟩ (fun hHeld => ?_); refine with_tabW impl_swingsOf.tab5 impl_swingsOf.bits5 (fun HT_ HW_ => ?_)
        generalize wr.drew = w16 at HO_7 BK390 HB hHeld ⊢
        refine pu 0 (some 16) #[T,F,F,F,F,F,F,F,F,F,F,F,F,F,F,F,F,F,F,F,F] (any_of HT_.out kr) ?_
        refine pu 1 (some 17) #[T,T,F,F,F,F,F,F,F,F,F,F,F,F,F,F,F,F,F,F,F] (any_of HT_.out kr) ?_
        refine pu 2 (some 18) #[T,T,T,F,F,F,F,F,F,F,F,F,F,F,F,F,F,F,F,F,F] (any_of HT_.out kr) ?_
        refine pu 3 (some 19) #[T,T,T,T,F,F,F,F,F,F,F,F,F,F,F,F,F,F,F,F,F] (any_of HT_.out kr) ?_
        refine pu 4 (some 20) #[T,T,T,T,T,F,F,F,F,F,F,F,F,F,F,F,F,F,F,F,F] (any_of HT_.out kr) ?_
        refine pu 5 (some 21) #[T,T,T,T,T,T,F,F,F,F,F,F,F,F,F,F,F,F,F,F,F] (any_of HT_.out kr) ?_
        refine pu 7 (some 23) #[T,T,T,T,T,T,F,T,F,F,F,F,F,F,F,F,F,F,F,F,F] (any_of HT_.out kr) ?_
        refine pu 8 (some 24) #[T,T,T,T,T,T,F,T,T,F,F,F,F,F,F,F,F,F,F,F,F] (any_of HT_.out kr) ?_
        refine tk2 6 (some 22) #[T,T,T,T,T,T,T,T,T,F,F,F,F,F,F,F,F,F,F,F,F] (take_ofW HT_.out HW_.out kr) ?_
        refine one_ (i := 9) (N := some 25) #[T,T,T,T,T,T,T,T,T,T,F,F,F,F,F,F,F,F,F,F,F] rfl rfl (one_of HT_.out kr) (by decide) (fun K hK => ?_)
        refine goes_ Try.func50 kr rfl #[.agg #[.int .i64 a0_0, .slice A0_1 l0_1.length c0_1], .slice A1 l1.length c1, .int .i64 x13_1] (by rfl) rfl rfl lm ?_
        with_reducible refine (impl_consents.calls k1 a0_0 _ _ l0_1 _ _ l1 x13_1 true _ ?side1 ?side2 ?side3 ?side4 A14.out).mono ?_
        (case side1 => repeat (first | exact (Kd.C_below HR0_1.out HB.out) | (with_reducible refine Kd.C_alloc ?_ _) | (with_reducible refine Kd.C_drewN ?_ _) | (with_reducible refine Kd.C_drew ?_)))
        (case side2 => exact HC0_1.out)
        (case side3 => repeat (first | exact (Kd.C_below HR1.out HB.out) | (with_reducible refine Kd.C_alloc ?_ _) | (with_reducible refine Kd.C_drewN ?_ _) | (with_reducible refine Kd.C_drew ?_)))
        (case side4 => exact HC1.out)
        rintro e w17 ⟨rfl, hb⟩
        refine ⟨_, rfl, ?_⟩
        have n0_ := Aside0.mk (Kd.R_below (rz HO_7) hb)
        have n1_ := Aside0.mk (blk_below (bz BK390) hb)
        have n2_ := Aside0.mk (below_step bh hb)
        clear HO_7 BK390 HB
        have HO_7 := n0_
        have BK390 := n1_
        have HB := n2_
        clear n0_ n1_ n2_
        (try clear hb)
        (try clear hb2)
        (try clear hk)
        (try clear hi)
        refine hK.out _ _ ⟨cz0 BK390, cz1 BK390⟩ (fun hHeld => ?_)
        clear hK K
        refine norm_ (a' := ?_) ?_ ?_
        rotate_left
        ·show Act.put _ (some 25) _ = _
         simp only [Act.put, List.setIfInBounds_toArray, List.set_cons_zero, List.set_cons_succ, i64_w, i32_w]
         rfl
        refine pu 10 (some 26) #[T,T,T,T,T,T,T,T,T,T,T,F,F,F,F,F,F,F,F,F,F] (any_of HT_.out kr) ?_
        refine pu 11 (some 27) #[T,T,T,T,T,T,T,T,T,T,T,T,F,F,F,F,F,F,F,F,F] (any_of HT_.out kr) ?_
        refine pu 12 (some 28) #[T,T,T,T,T,T,T,T,T,T,T,T,T,F,F,F,F,F,F,F,F] (any_of HT_.out kr) ?_
        refine pure_ (i := 13) (N := some 29) (v := undef) (a' := ?_) #[T,T,T,T,T,T,T,T,T,T,T,T,T,T,F,F,F,F,F,F,F] rfl rfl (any_of HT_.out kr) (fun _ _ _ h => h) (Or.inr ⟨by rfl, rfl⟩) ?_ ?_
        rotate_left
        ·simp only [Act.put, List.setIfInBounds_toArray, List.set_cons_zero, List.set_cons_succ, i64_w, i32_w]
         rfl
        refine pure_ (i := 14) (N := some 30) (v := undef) (a' := ?_) #[T,T,T,T,T,T,T,T,T,T,T,T,T,T,T,F,F,F,F,F,F] rfl rfl (any_of HT_.out kr) (fun _ _ _ h => h) (Or.inr ⟨by rfl, rfl⟩) ?_ ?_
        rotate_left
        ·simp only [Act.put, List.setIfInBounds_toArray, List.set_cons_zero, List.set_cons_succ, i64_w, i32_w]
         rfl
        refine pure_ (i := 15) (N := some 31) (v := undef) (a' := ?_) #[T,T,T,T,T,T,T,T,T,T,T,T,T,T,T,T,F,F,F,F,F] rfl rfl (any_of HT_.out kr) (fun _ _ _ h => h) (Or.inr ⟨by rfl, rfl⟩) ?_ ?_
        rotate_left
        ·simp only [Act.put, List.setIfInBounds_toArray, List.set_cons_zero, List.set_cons_succ, i64_w, i32_w]
         rfl
        refine pure_ (i := 16) (N := some 32) (v := undef) (a' := ?_) #[T,T,T,T,T,T,T,T,T,T,T,T,T,T,T,T,T,F,F,F,F] rfl rfl (any_of HT_.out kr) (fun _ _ _ h => h) (Or.inr ⟨by rfl, rfl⟩) ?_ ?_
        rotate_left
        ·simp only [Act.put, List.setIfInBounds_toArray, List.set_cons_zero, List.set_cons_succ, i64_w, i32_w]
         rfl
        refine pure_ (i := 17) (N := some 33) (v := undef) (a' := ?_) #[T,T,T,T,T,T,T,T,T,T,T,T,T,T,T,T,T,T,F,F,F] rfl rfl (any_of HT_.out kr) (fun _ _ _ h => h) (Or.inr ⟨by rfl, rfl⟩) ?_ ?_
        rotate_left
        ·simp only [Act.put, List.setIfInBounds_toArray, List.set_cons_zero, List.set_cons_succ, i64_w, i32_w]
         rfl
        refine pure_ (i := 18) (N := some 34) (v := undef) (a' := ?_) #[T,T,T,T,T,T,T,T,T,T,T,T,T,T,T,T,T,T,T,F,F] rfl rfl (any_of HT_.out kr) (fun _ _ _ h => h) (Or.inr ⟨by rfl, rfl⟩) ?_ ?_
        rotate_left
        ·simp only [Act.put, List.setIfInBounds_toArray, List.set_cons_zero, List.set_cons_succ, i64_w, i32_w]
         rfl
        refine pure_ (i := 19) (N := some 35) (v := undef) (a' := ?_) #[T,T,T,T,T,T,T,T,T,T,T,T,T,T,T,T,T,T,T,T,F] rfl rfl (any_of HT_.out kr) (fun _ _ _ h => h) (Or.inr ⟨by rfl, rfl⟩) ?_ ?_
        rotate_left
        ·simp only [Act.put, List.setIfInBounds_toArray, List.set_cons_zero, List.set_cons_succ, i64_w, i32_w]
         rfl
        refine pu 20 (some 36) #[T,T,T,T,T,T,T,T,T,T,T,T,T,T,T,T,T,T,T,T,T] (any_of HT_.out kr) ?_
        refine done_ (done_of HT_.out kr) ?_
        try go_wp2
        go_roundg k1
        case measure => have := HK1.out; omega
        case rel => exact ⟨(x7_1), (wrap64 (x13_1 + 1)), (by first | rfl | (simp; done) | (simp [*]; done)), H', ⟨by have := HK1.out; omega⟩, ⟨rz HO_7⟩, ⟨bz BK390⟩, ⟨by exact bh⟩⟩
       ·replace c15 := Bool.eq_false_iff.mpr c15
        subst c15
        have H1 : ((impl_consents.f k1 a0_0 l0_1 l1 (Go.bits .or .i64 x13_1 (shl .i64 1 a2))).bind fun t395 => (if t395 = true then (if x7_1.length < 17592186044416 then (impl_swingsOf.l0 k1 l1 a2 (x7_1 ++ [x13_1]) ji5 (wrap64 (x13_1 + 1)) a0_0 l0_1) else (none)) else (impl_swingsOf.l0 k1 l1 a2 x7_1 ji5 (wrap64 (x13_1 + 1)) a0_0 l0_1))) = some r := by rw [if_neg (show ¬ (false = true) by decide)] at H; exact H
        clear H
        have H := H1
        clear H1
        have c18b0 := eq_true (oda : 0 ≤ a2)
        obtain ⟨ji19, hji19⟩ : ∃ j_ : Int, (shl .i64 1 a2) = j_ := ⟨_, rfl⟩
        replace H : ((impl_consents.f k1 a0_0 l0_1 l1 (Go.bits .or .i64 x13_1 (ji19))).bind fun t395 => (if t395 = true then (if x7_1.length < 17592186044416 then (impl_swingsOf.l0 k1 l1 a2 (x7_1 ++ [x13_1]) ji5 (wrap64 (x13_1 + 1)) a0_0 l0_1) else (none)) else (impl_swingsOf.l0 k1 l1 a2 x7_1 ji5 (wrap64 (x13_1 + 1)) a0_0 l0_1))) = some r := by first | (rw [hji19] at H; exact H) | (simp only [hji19] at H ⊢; exact H)
        (try rw [hji19] at A14)
        have hji19_ : (IntKind.i64.wrap (1 * 2 ^ min a2.toNat 64)) = ji19 := hji19
        have hji19z : a2 ≤ 64 → (IntKind.i64.wrap (1 * 2 ^ a2.toNat)) = ji19 := shl_small hji19
        have hji19u : (IntKind.i64.wrap (2 ^ min a2.toNat 64)) = ji19 := by have h_ := hji19_; rw [Int.one_mul] at h_; exact h_
        have hji19v : a2 ≤ 64 → (IntKind.i64.wrap (2 ^ a2.toNat)) = ji19 := fun hle_ => by have h_ := hji19z hle_; rw [Int.one_mul] at h_; exact h_
        have hji19y : (wrap64 (1 * 2 ^ min a2.toNat 64)) = ji19 := (i64_w _).symm.trans hji19_
        have hji19x : a2 ≤ 64 → (wrap64 (1 * 2 ^ a2.toNat)) = ji19 := fun h_ => (i64_w _).symm.trans (hji19z h_)
        replace H := Option.bind_eq_some_iff.mp H
        obtain ⟨t395, A200, H⟩ := H
        replace H : (if t395 = true then (if x7_1.length < 17592186044416 then (impl_swingsOf.l0 k1 l1 a2 (x7_1 ++ [x13_1]) ji5 (wrap64 (x13_1 + 1)) a0_0 l0_1) else (none)) else (impl_swingsOf.l0 k1 l1 a2 x7_1 ji5 (wrap64 (x13_1 + 1)) a0_0 l0_1)) = some r := H
        have A20 := Aside0.mk A200
        clear A200
        by_cases c21 : t395 = true
        ·subst c21
         have H1 : (if x7_1.length < 17592186044416 then (impl_swingsOf.l0 k1 l1 a2 (x7_1 ++ [x13_1]) ji5 (wrap64 (x13_1 + 1)) a0_0 l0_1) else (none)) = some r := by rw [if_pos rfl] at H; exact H
         clear H
         have H := H1
         clear H1
         by_cases c22 : x7_1.length < 17592186044416
         ·rw [if_pos c22] at H
          have LMc22 := Aside0.mk c22
          clear c22
          obtain ⟨y396, hy396⟩ : ∃ y_ : List Int, y_ = (x7_1 ++ [x13_1]) := ⟨_, rfl⟩
          replace H : (impl_swingsOf.l0 k1 l1 a2 y396 ji5 (wrap64 (x13_1 + 1)) a0_0 l0_1) = some r := by first | (rw [hy396]; with_reducible exact H) | (have H2_ := (Option.bind_some _ _).symm.trans H; rw [hy396]; with_reducible exact H2_) | (have H2_ := (Option.bind_some _ _).symm.trans H; with_reducible exact H2_) | with_reducible exact H | (rw [hy396]; exact H) | exact H
          have Ny396 := Aside0.mk hy396
          clear hy396
          have H' := Aside0.mk H
          clear H
          try go_wp2
          have n0_ := Aside0.mk (Kd.R_drew HO_7.out)
          have n1_ := Aside0.mk (blk_drew BK390.out)
          have n2_ := Aside0.mk (below_drew1 HB.out)
          clear HO_7 BK390 HB
          have HO_7 := n0_
          have BK390 := n1_
          have HB := n2_
          clear n0_ n1_ n2_
          refine start_ (n := 21) (S := fun w' => w'.cell? ⟨gb390, 0, none⟩ = some (.int .i64 a0_0) ∧ w'.cell? ⟨gb390, 1, none⟩ = some (.slice A0_1 l0_1.length c0_1)) (ds := []) #[F,F,F,F,F,F,F,F,F,F,F,F,F,F,F,F,F,F,F,F,F] kr rfl rfl ⟨cz0 BK390, cz1 BK390⟩ (fun hHeld => ?_); refine with_tabW impl_swingsOf.tab5 impl_swingsOf.bits5 (fun HT_ HW_ => ?_)
          generalize wr.drew = w23 at HO_7 BK390 HB hHeld ⊢
          refine pu 0 (some 16) #[T,F,F,F,F,F,F,F,F,F,F,F,F,F,F,F,F,F,F,F,F] (any_of HT_.out kr) ?_
          refine pu 1 (some 17) #[T,T,F,F,F,F,F,F,F,F,F,F,F,F,F,F,F,F,F,F,F] (any_of HT_.out kr) ?_
          refine pu 2 (some 18) #[T,T,T,F,F,F,F,F,F,F,F,F,F,F,F,F,F,F,F,F,F] (any_of HT_.out kr) ?_
          refine pu 3 (some 19) #[T,T,T,T,F,F,F,F,F,F,F,F,F,F,F,F,F,F,F,F,F] (any_of HT_.out kr) ?_
          refine pu 4 (some 20) #[T,T,T,T,T,F,F,F,F,F,F,F,F,F,F,F,F,F,F,F,F] (any_of HT_.out kr) ?_
          refine pu 5 (some 21) #[T,T,T,T,T,T,F,F,F,F,F,F,F,F,F,F,F,F,F,F,F] (any_of HT_.out kr) ?_
          refine pu 7 (some 23) #[T,T,T,T,T,T,F,T,F,F,F,F,F,F,F,F,F,F,F,F,F] (any_of HT_.out kr) ?_
          refine pu 8 (some 24) #[T,T,T,T,T,T,F,T,T,F,F,F,F,F,F,F,F,F,F,F,F] (any_of HT_.out kr) ?_
          refine tk2 6 (some 22) #[T,T,T,T,T,T,T,T,T,F,F,F,F,F,F,F,F,F,F,F,F] (take_ofW HT_.out HW_.out kr) ?_
          refine one_ (i := 9) (N := some 25) #[T,T,T,T,T,T,T,T,T,T,F,F,F,F,F,F,F,F,F,F,F] rfl rfl (one_of HT_.out kr) (by decide) (fun K hK => ?_)
          refine goes_ Try.func50 kr rfl #[.agg #[.int .i64 a0_0, .slice A0_1 l0_1.length c0_1], .slice A1 l1.length c1, .int .i64 x13_1] (by rfl) rfl rfl lm ?_
          with_reducible refine (impl_consents.calls k1 a0_0 _ _ l0_1 _ _ l1 x13_1 false _ ?side1 ?side2 ?side3 ?side4 A14.out).mono ?_
          (case side1 => repeat (first | exact (Kd.C_below HR0_1.out HB.out) | (with_reducible refine Kd.C_alloc ?_ _) | (with_reducible refine Kd.C_drewN ?_ _) | (with_reducible refine Kd.C_drew ?_)))
          (case side2 => exact HC0_1.out)
          (case side3 => repeat (first | exact (Kd.C_below HR1.out HB.out) | (with_reducible refine Kd.C_alloc ?_ _) | (with_reducible refine Kd.C_drewN ?_ _) | (with_reducible refine Kd.C_drew ?_)))
          (case side4 => exact HC1.out)
          rintro e w24 ⟨rfl, hb⟩
          refine ⟨_, rfl, ?_⟩
          have n0_ := Aside0.mk (Kd.R_below (rz HO_7) hb)
          have n1_ := Aside0.mk (blk_below (bz BK390) hb)
          have n2_ := Aside0.mk (below_step bh hb)
          clear HO_7 BK390 HB
          have HO_7 := n0_
          have BK390 := n1_
          have HB := n2_
          clear n0_ n1_ n2_
          (try clear hb)
          (try clear hb2)
          (try clear hk)
          (try clear hi)
          refine hK.out _ _ ⟨cz0 BK390, cz1 BK390⟩ (fun hHeld => ?_)
          clear hK K
          refine norm_ (a' := ?_) ?_ ?_
          rotate_left
          ·show Act.put _ (some 25) _ = _
           simp only [Act.put, List.setIfInBounds_toArray, List.set_cons_zero, List.set_cons_succ, i64_w, i32_w]
           rfl
          refine pu 10 (some 26) #[T,T,T,T,T,T,T,T,T,T,T,F,F,F,F,F,F,F,F,F,F] (any_of HT_.out kr) ?_
          refine pu 11 (some 27) #[T,T,T,T,T,T,T,T,T,T,T,T,F,F,F,F,F,F,F,F,F] (any_of HT_.out kr) ?_
          refine pu 12 (some 28) #[T,T,T,T,T,T,T,T,T,T,T,T,T,F,F,F,F,F,F,F,F] (any_of HT_.out kr) ?_
          refine pu 14 (some 30) #[T,T,T,T,T,T,T,T,T,T,T,T,T,F,T,F,F,F,F,F,F] (any_of HT_.out kr) ?_
          refine pu 15 (some 31) #[T,T,T,T,T,T,T,T,T,T,T,T,T,F,T,T,F,F,F,F,F] (any_of HT_.out kr) ?_
          refine pu 16 (some 32) #[T,T,T,T,T,T,T,T,T,T,T,T,T,F,T,T,T,F,F,F,F] (any_of HT_.out kr) ?_
          refine pu 17 (some 33) #[T,T,T,T,T,T,T,T,T,T,T,T,T,F,T,T,T,T,F,F,F] (any_of HT_.out kr) ?_
          refine pu 18 (some 34) #[T,T,T,T,T,T,T,T,T,T,T,T,T,F,T,T,T,T,T,F,F] (any_of HT_.out kr) ?_
          refine tk2 13 (some 29) #[T,T,T,T,T,T,T,T,T,T,T,T,T,T,T,T,T,T,T,F,F] (take_ofW HT_.out HW_.out kr) ?_
          refine one_ (i := 19) (N := some 35) #[T,T,T,T,T,T,T,T,T,T,T,T,T,T,T,T,T,T,T,T,F] rfl rfl (one_of HT_.out kr) (by decide) (fun K hK => ?_)
          refine goes_ Try.func50 kr rfl #[.agg #[.int .i64 a0_0, .slice A0_1 l0_1.length c0_1], .slice A1 l1.length c1, .int .i64 (Go.bits .or .i64 x13_1 (ji19))] (by rfl) rfl rfl (by (try simp only [List.map_toArray, List.map_cons, List.map_nil]); first | done | (simp only [hji19]; rfl) | rfl | (simp only [List.length_drop, List.length_take]; rfl)) ?_
          with_reducible refine (impl_consents.calls k1 a0_0 _ _ l0_1 _ _ l1 (Go.bits .or .i64 x13_1 (ji19)) true _ ?side1 ?side2 ?side3 ?side4 A20.out).mono ?_
          (case side1 => repeat (first | exact (Kd.C_below HR0_1.out HB.out) | (with_reducible refine Kd.C_alloc ?_ _) | (with_reducible refine Kd.C_drewN ?_ _) | (with_reducible refine Kd.C_drew ?_)))
          (case side2 => exact HC0_1.out)
          (case side3 => repeat (first | exact (Kd.C_below HR1.out HB.out) | (with_reducible refine Kd.C_alloc ?_ _) | (with_reducible refine Kd.C_drewN ?_ _) | (with_reducible refine Kd.C_drew ?_)))
          (case side4 => exact HC1.out)
          rintro e w25 ⟨rfl, hb⟩
          refine ⟨_, rfl, ?_⟩
          have n0_ := Aside0.mk (Kd.R_below (rz HO_7) hb)
          have n1_ := Aside0.mk (blk_below (bz BK390) hb)
          have n2_ := Aside0.mk (below_step bh hb)
          clear HO_7 BK390 HB
          have HO_7 := n0_
          have BK390 := n1_
          have HB := n2_
          clear n0_ n1_ n2_
          (try clear hb)
          (try clear hb2)
          (try clear hk)
          (try clear hi)
          refine hK.out _ _ ⟨cz0 BK390, cz1 BK390⟩ (fun hHeld => ?_)
          clear hK K
          refine norm_ (a' := ?_) ?_ ?_
          rotate_left
          ·show Act.put _ (some 35) _ = _
           simp only [Act.put, List.setIfInBounds_toArray, List.set_cons_zero, List.set_cons_succ, i64_w, i32_w]
           rfl
          refine pu 20 (some 36) #[T,T,T,T,T,T,T,T,T,T,T,T,T,T,T,T,T,T,T,T,T] (any_of HT_.out kr) ?_
          refine done_ (done_of HT_.out kr) ?_
          try go_wp2_with (first | ((with_reducible refine gate_builtin (b := .append) (xs := #[.tmp 37, .tmp 39]) rfl ?_); at_builtin; refine Kd.R_append (Kd.int .i64) (w0 := w) w.heap.size rfl (.tmp 37) (.tmp 39) 23 3 (.int .i64 0) 8 rfl Try.underlying23 info3 rfl (by decide) (by omega) u7 x7_1 x13_1 [.int .i64 x13_1] (fun _ => True) (fun _ => False) rfl rfl ?aP (fun _ hk => hk.elim) ?aF ?aO ?aB ?aS ?aL ?_; (case aP => exact rfl); (case aB => exact bh); (case aF => exact (fun _ _ => trivial)); (case aO => exact (rz HO_7)); (case aS => exact (below_size bh)); (case aL => have := LMc22.out; omega); intro v397 w26 ho hb hg hat; rw [← Ny396.out] at ho; have n0_ := Aside0.mk (blk_grown (bz BK390) hg (Kd.R_ne HO_7.out BK390.out (by decide))); have n1_ := Aside0.mk (hb); have n2_ := Aside0.mk (ho); clear BK390 HB HO_7; have BK390 := n0_; have HB := n1_; have HO398 := n2_; clear n0_ n1_ n2_ ho hb hg hat))
          go_roundg k1
          case measure => have := HK1.out; omega
          case rel => exact ⟨(y396), (wrap64 (x13_1 + 1)), (by first | rfl | (simp; done) | (simp [*]; done)), H', ⟨by have := HK1.out; omega⟩, ⟨rz HO398⟩, ⟨bz BK390⟩, ⟨by exact bh⟩⟩
         ·rw [if_neg c22] at H
          exact absurd H (by simp)
        ·replace c21 := Bool.eq_false_iff.mpr c21
         subst c21
         have H1 : (impl_swingsOf.l0 k1 l1 a2 x7_1 ji5 (wrap64 (x13_1 + 1)) a0_0 l0_1) = some r := by rw [if_neg (show ¬ (false = true) by decide)] at H; exact H
         clear H
         have H := H1
         clear H1
         have H' := Aside0.mk H
         clear H
         try go_wp2
         have n0_ := Aside0.mk (Kd.R_drew HO_7.out)
         have n1_ := Aside0.mk (blk_drew BK390.out)
         have n2_ := Aside0.mk (below_drew1 HB.out)
         clear HO_7 BK390 HB
         have HO_7 := n0_
         have BK390 := n1_
         have HB := n2_
         clear n0_ n1_ n2_
         refine start_ (n := 21) (S := fun w' => w'.cell? ⟨gb390, 0, none⟩ = some (.int .i64 a0_0) ∧ w'.cell? ⟨gb390, 1, none⟩ = some (.slice A0_1 l0_1.length c0_1)) (ds := []) #[F,F,F,F,F,F,F,F,F,F,F,F,F,F,F,F,F,F,F,F,F] kr rfl rfl ⟨cz0 BK390, cz1 BK390⟩ (fun hHeld => ?_); refine with_tabW impl_swingsOf.tab5 impl_swingsOf.bits5 (fun HT_ HW_ => ?_)
         generalize wr.drew = w27 at HO_7 BK390 HB hHeld ⊢
         refine pu 0 (some 16) #[T,F,F,F,F,F,F,F,F,F,F,F,F,F,F,F,F,F,F,F,F] (any_of HT_.out kr) ?_
         refine pu 1 (some 17) #[T,T,F,F,F,F,F,F,F,F,F,F,F,F,F,F,F,F,F,F,F] (any_of HT_.out kr) ?_
         refine pu 2 (some 18) #[T,T,T,F,F,F,F,F,F,F,F,F,F,F,F,F,F,F,F,F,F] (any_of HT_.out kr) ?_
         refine pu 3 (some 19) #[T,T,T,T,F,F,F,F,F,F,F,F,F,F,F,F,F,F,F,F,F] (any_of HT_.out kr) ?_
         refine pu 4 (some 20) #[T,T,T,T,T,F,F,F,F,F,F,F,F,F,F,F,F,F,F,F,F] (any_of HT_.out kr) ?_
         refine pu 5 (some 21) #[T,T,T,T,T,T,F,F,F,F,F,F,F,F,F,F,F,F,F,F,F] (any_of HT_.out kr) ?_
         refine pu 7 (some 23) #[T,T,T,T,T,T,F,T,F,F,F,F,F,F,F,F,F,F,F,F,F] (any_of HT_.out kr) ?_
         refine pu 8 (some 24) #[T,T,T,T,T,T,F,T,T,F,F,F,F,F,F,F,F,F,F,F,F] (any_of HT_.out kr) ?_
         refine tk2 6 (some 22) #[T,T,T,T,T,T,T,T,T,F,F,F,F,F,F,F,F,F,F,F,F] (take_ofW HT_.out HW_.out kr) ?_
         refine one_ (i := 9) (N := some 25) #[T,T,T,T,T,T,T,T,T,T,F,F,F,F,F,F,F,F,F,F,F] rfl rfl (one_of HT_.out kr) (by decide) (fun K hK => ?_)
         refine goes_ Try.func50 kr rfl #[.agg #[.int .i64 a0_0, .slice A0_1 l0_1.length c0_1], .slice A1 l1.length c1, .int .i64 x13_1] (by rfl) rfl rfl lm ?_
         with_reducible refine (impl_consents.calls k1 a0_0 _ _ l0_1 _ _ l1 x13_1 false _ ?side1 ?side2 ?side3 ?side4 A14.out).mono ?_
         (case side1 => repeat (first | exact (Kd.C_below HR0_1.out HB.out) | (with_reducible refine Kd.C_alloc ?_ _) | (with_reducible refine Kd.C_drewN ?_ _) | (with_reducible refine Kd.C_drew ?_)))
         (case side2 => exact HC0_1.out)
         (case side3 => repeat (first | exact (Kd.C_below HR1.out HB.out) | (with_reducible refine Kd.C_alloc ?_ _) | (with_reducible refine Kd.C_drewN ?_ _) | (with_reducible refine Kd.C_drew ?_)))
         (case side4 => exact HC1.out)
         rintro e w28 ⟨rfl, hb⟩
         refine ⟨_, rfl, ?_⟩
         have n0_ := Aside0.mk (Kd.R_below (rz HO_7) hb)
         have n1_ := Aside0.mk (blk_below (bz BK390) hb)
         have n2_ := Aside0.mk (below_step bh hb)
         clear HO_7 BK390 HB
         have HO_7 := n0_
         have BK390 := n1_
         have HB := n2_
         clear n0_ n1_ n2_
         (try clear hb)
         (try clear hb2)
         (try clear hk)
         (try clear hi)
         refine hK.out _ _ ⟨cz0 BK390, cz1 BK390⟩ (fun hHeld => ?_)
         clear hK K
         refine norm_ (a' := ?_) ?_ ?_
         rotate_left
         ·show Act.put _ (some 25) _ = _
          simp only [Act.put, List.setIfInBounds_toArray, List.set_cons_zero, List.set_cons_succ, i64_w, i32_w]
          rfl
         refine pu 10 (some 26) #[T,T,T,T,T,T,T,T,T,T,T,F,F,F,F,F,F,F,F,F,F] (any_of HT_.out kr) ?_
         refine pu 11 (some 27) #[T,T,T,T,T,T,T,T,T,T,T,T,F,F,F,F,F,F,F,F,F] (any_of HT_.out kr) ?_
         refine pu 12 (some 28) #[T,T,T,T,T,T,T,T,T,T,T,T,T,F,F,F,F,F,F,F,F] (any_of HT_.out kr) ?_
         refine pu 14 (some 30) #[T,T,T,T,T,T,T,T,T,T,T,T,T,F,T,F,F,F,F,F,F] (any_of HT_.out kr) ?_
         refine pu 15 (some 31) #[T,T,T,T,T,T,T,T,T,T,T,T,T,F,T,T,F,F,F,F,F] (any_of HT_.out kr) ?_
         refine pu 16 (some 32) #[T,T,T,T,T,T,T,T,T,T,T,T,T,F,T,T,T,F,F,F,F] (any_of HT_.out kr) ?_
         refine pu 17 (some 33) #[T,T,T,T,T,T,T,T,T,T,T,T,T,F,T,T,T,T,F,F,F] (any_of HT_.out kr) ?_
         refine pu 18 (some 34) #[T,T,T,T,T,T,T,T,T,T,T,T,T,F,T,T,T,T,T,F,F] (any_of HT_.out kr) ?_
         refine tk2 13 (some 29) #[T,T,T,T,T,T,T,T,T,T,T,T,T,T,T,T,T,T,T,F,F] (take_ofW HT_.out HW_.out kr) ?_
         refine one_ (i := 19) (N := some 35) #[T,T,T,T,T,T,T,T,T,T,T,T,T,T,T,T,T,T,T,T,F] rfl rfl (one_of HT_.out kr) (by decide) (fun K hK => ?_)
         refine goes_ Try.func50 kr rfl #[.agg #[.int .i64 a0_0, .slice A0_1 l0_1.length c0_1], .slice A1 l1.length c1, .int .i64 (Go.bits .or .i64 x13_1 (ji19))] (by rfl) rfl rfl (by (try simp only [List.map_toArray, List.map_cons, List.map_nil]); first | done | (simp only [hji19]; rfl) | rfl | (simp only [List.length_drop, List.length_take]; rfl)) ?_
         with_reducible refine (impl_consents.calls k1 a0_0 _ _ l0_1 _ _ l1 (Go.bits .or .i64 x13_1 (ji19)) false _ ?side1 ?side2 ?side3 ?side4 A20.out).mono ?_
         (case side1 => repeat (first | exact (Kd.C_below HR0_1.out HB.out) | (with_reducible refine Kd.C_alloc ?_ _) | (with_reducible refine Kd.C_drewN ?_ _) | (with_reducible refine Kd.C_drew ?_)))
         (case side2 => exact HC0_1.out)
         (case side3 => repeat (first | exact (Kd.C_below HR1.out HB.out) | (with_reducible refine Kd.C_alloc ?_ _) | (with_reducible refine Kd.C_drewN ?_ _) | (with_reducible refine Kd.C_drew ?_)))
         (case side4 => exact HC1.out)
         rintro e w29 ⟨rfl, hb⟩
         refine ⟨_, rfl, ?_⟩
         have n0_ := Aside0.mk (Kd.R_below (rz HO_7) hb)
         have n1_ := Aside0.mk (blk_below (bz BK390) hb)
         have n2_ := Aside0.mk (below_step bh hb)
         clear HO_7 BK390 HB
         have HO_7 := n0_
         have BK390 := n1_
         have HB := n2_
         clear n0_ n1_ n2_
         (try clear hb)
         (try clear hb2)
         (try clear hk)
         (try clear hi)
         refine hK.out _ _ ⟨cz0 BK390, cz1 BK390⟩ (fun hHeld => ?_)
         clear hK K
         refine norm_ (a' := ?_) ?_ ?_
         rotate_left
         ·show Act.put _ (some 35) _ = _
          simp only [Act.put, List.setIfInBounds_toArray, List.set_cons_zero, List.set_cons_succ, i64_w, i32_w]
          rfl
         refine pu 20 (some 36) #[T,T,T,T,T,T,T,T,T,T,T,T,T,T,T,T,T,T,T,T,T] (any_of HT_.out kr) ?_
         refine done_ (done_of HT_.out kr) ?_
         try go_wp2
         go_roundg k1
         case measure => have := HK1.out; omega
         case rel => exact ⟨(x7_1), (wrap64 (x13_1 + 1)), (by first | rfl | (simp; done) | (simp [*]; done)), H', ⟨by have := HK1.out; omega⟩, ⟨rz HO_7⟩, ⟨bz BK390⟩, ⟨by exact bh⟩⟩
      ·rw [if_neg c13] at H
       have c13b0 : ((Go.bits .and .i64 (ji12) 1) == 0) = false := beq_eq_false_iff_ne.mpr c13
       have c13b1 : ((Go.bits .and .i64 (ji12) 1) != 0) = true := bne_iff_ne.mpr c13
       have H' := Aside0.mk H
       clear H
       try go_wp2
       have n0_ := Aside0.mk (Kd.R_drew HO_7.out)
       have n1_ := Aside0.mk (blk_drew BK390.out)
       have n2_ := Aside0.mk (below_drew1 HB.out)
       clear HO_7 BK390 HB
       have HO_7 := n0_
       have BK390 := n1_
       have HB := n2_
       clear n0_ n1_ n2_
       refine start_ (n := 21) (S := fun w' => True) (ds := []) #[F,F,F,F,F,F,F,F,F,F,F,F,F,F,F,F,F,F,F,F,F] kr rfl rfl trivial (fun hHeld => ?_); refine with_tabW impl_swingsOf.tab5 impl_swingsOf.bits5 (fun HT_ HW_ => ?_)
       generalize wr.drew = w30 at HO_7 BK390 HB hHeld ⊢
       refine pu 0 (some 16) #[T,F,F,F,F,F,F,F,F,F,F,F,F,F,F,F,F,F,F,F,F] (any_of HT_.out kr) ?_
       refine pu 1 (some 17) #[T,T,F,F,F,F,F,F,F,F,F,F,F,F,F,F,F,F,F,F,F] (any_of HT_.out kr) ?_
       refine pu 2 (some 18) #[T,T,T,F,F,F,F,F,F,F,F,F,F,F,F,F,F,F,F,F,F] (any_of HT_.out kr) ?_
       refine pu 3 (some 19) #[T,T,T,T,F,F,F,F,F,F,F,F,F,F,F,F,F,F,F,F,F] (any_of HT_.out kr) ?_
       refine pu 4 (some 20) #[T,T,T,T,T,F,F,F,F,F,F,F,F,F,F,F,F,F,F,F,F] (any_of HT_.out kr) ?_
       refine pu 5 (some 21) #[T,T,T,T,T,T,F,F,F,F,F,F,F,F,F,F,F,F,F,F,F] (any_of HT_.out kr) ?_
       refine pure_ (i := 6) (N := some 22) (v := undef) (a' := ?_) #[T,T,T,T,T,T,T,F,F,F,F,F,F,F,F,F,F,F,F,F,F] rfl rfl (any_of HT_.out kr) (fun _ _ _ h => h) (Or.inr ⟨by rfl, rfl⟩) ?_ ?_
       rotate_left
       ·simp only [Act.put, List.setIfInBounds_toArray, List.set_cons_zero, List.set_cons_succ, i64_w, i32_w]
        rfl
       refine pure_ (i := 7) (N := some 23) (v := undef) (a' := ?_) #[T,T,T,T,T,T,T,T,F,F,F,F,F,F,F,F,F,F,F,F,F] rfl rfl (any_of HT_.out kr) (fun _ _ _ h => h) (Or.inr ⟨by rfl, rfl⟩) ?_ ?_
       rotate_left
       ·simp only [Act.put, List.setIfInBounds_toArray, List.set_cons_zero, List.set_cons_succ, i64_w, i32_w]
        rfl
       refine pure_ (i := 8) (N := some 24) (v := undef) (a' := ?_) #[T,T,T,T,T,T,T,T,T,F,F,F,F,F,F,F,F,F,F,F,F] rfl rfl (any_of HT_.out kr) (fun _ _ _ h => h) (Or.inr ⟨by rfl, rfl⟩) ?_ ?_
       rotate_left
       ·simp only [Act.put, List.setIfInBounds_toArray, List.set_cons_zero, List.set_cons_succ, i64_w, i32_w]
        rfl
       refine pure_ (i := 9) (N := some 25) (v := undef) (a' := ?_) #[T,T,T,T,T,T,T,T,T,T,F,F,F,F,F,F,F,F,F,F,F] rfl rfl (any_of HT_.out kr) (fun _ _ _ h => h) (Or.inr ⟨by rfl, rfl⟩) ?_ ?_
       rotate_left
       ·simp only [Act.put, List.setIfInBounds_toArray, List.set_cons_zero, List.set_cons_succ, i64_w, i32_w]
        rfl
       refine pure_ (i := 10) (N := some 26) (v := undef) (a' := ?_) #[T,T,T,T,T,T,T,T,T,T,T,F,F,F,F,F,F,F,F,F,F] rfl rfl (any_of HT_.out kr) (fun _ _ _ h => h) (Or.inr ⟨by rfl, rfl⟩) ?_ ?_
       rotate_left
       ·simp only [Act.put, List.setIfInBounds_toArray, List.set_cons_zero, List.set_cons_succ, i64_w, i32_w]
        rfl
       refine pu 11 (some 27) #[T,T,T,T,T,T,T,T,T,T,T,T,F,F,F,F,F,F,F,F,F] (any_of HT_.out kr) ?_
       refine pu 12 (some 28) #[T,T,T,T,T,T,T,T,T,T,T,T,T,F,F,F,F,F,F,F,F] (any_of HT_.out kr) ?_
       refine pure_ (i := 13) (N := some 29) (v := undef) (a' := ?_) #[T,T,T,T,T,T,T,T,T,T,T,T,T,T,F,F,F,F,F,F,F] rfl rfl (any_of HT_.out kr) (fun _ _ _ h => h) (Or.inr ⟨by rfl, rfl⟩) ?_ ?_
       rotate_left
       ·simp only [Act.put, List.setIfInBounds_toArray, List.set_cons_zero, List.set_cons_succ, i64_w, i32_w]
        rfl
       refine pure_ (i := 14) (N := some 30) (v := undef) (a' := ?_) #[T,T,T,T,T,T,T,T,T,T,T,T,T,T,T,F,F,F,F,F,F] rfl rfl (any_of HT_.out kr) (fun _ _ _ h => h) (Or.inr ⟨by rfl, rfl⟩) ?_ ?_
       rotate_left
       ·simp only [Act.put, List.setIfInBounds_toArray, List.set_cons_zero, List.set_cons_succ, i64_w, i32_w]
        rfl
       refine pure_ (i := 15) (N := some 31) (v := undef) (a' := ?_) #[T,T,T,T,T,T,T,T,T,T,T,T,T,T,T,T,F,F,F,F,F] rfl rfl (any_of HT_.out kr) (fun _ _ _ h => h) (Or.inr ⟨by rfl, rfl⟩) ?_ ?_
       rotate_left
       ·simp only [Act.put, List.setIfInBounds_toArray, List.set_cons_zero, List.set_cons_succ, i64_w, i32_w]
        rfl
       refine pure_ (i := 16) (N := some 32) (v := undef) (a' := ?_) #[T,T,T,T,T,T,T,T,T,T,T,T,T,T,T,T,T,F,F,F,F] rfl rfl (any_of HT_.out kr) (fun _ _ _ h => h) (Or.inr ⟨by rfl, rfl⟩) ?_ ?_
       rotate_left
       ·simp only [Act.put, List.setIfInBounds_toArray, List.set_cons_zero, List.set_cons_succ, i64_w, i32_w]
        rfl
       refine pure_ (i := 17) (N := some 33) (v := undef) (a' := ?_) #[T,T,T,T,T,T,T,T,T,T,T,T,T,T,T,T,T,T,F,F,F] rfl rfl (any_of HT_.out kr) (fun _ _ _ h => h) (Or.inr ⟨by rfl, rfl⟩) ?_ ?_
       rotate_left
       ·simp only [Act.put, List.setIfInBounds_toArray, List.set_cons_zero, List.set_cons_succ, i64_w, i32_w]
        rfl
       refine pure_ (i := 18) (N := some 34) (v := undef) (a' := ?_) #[T,T,T,T,T,T,T,T,T,T,T,T,T,T,T,T,T,T,T,F,F] rfl rfl (any_of HT_.out kr) (fun _ _ _ h => h) (Or.inr ⟨by rfl, rfl⟩) ?_ ?_
       rotate_left
       ·simp only [Act.put, List.setIfInBounds_toArray, List.set_cons_zero, List.set_cons_succ, i64_w, i32_w]
        rfl
       refine pure_ (i := 19) (N := some 35) (v := undef) (a' := ?_) #[T,T,T,T,T,T,T,T,T,T,T,T,T,T,T,T,T,T,T,T,F] rfl rfl (any_of HT_.out kr) (fun _ _ _ h => h) (Or.inr ⟨by rfl, rfl⟩) ?_ ?_
       rotate_left
       ·simp only [Act.put, List.setIfInBounds_toArray, List.set_cons_zero, List.set_cons_succ, i64_w, i32_w]
        rfl
       refine pu 20 (some 36) #[T,T,T,T,T,T,T,T,T,T,T,T,T,T,T,T,T,T,T,T,T] (any_of HT_.out kr) ?_
       refine done_ (done_of HT_.out kr) ?_
       try go_wp2
       go_roundg k1
       case measure => have := HK1.out; omega
       case rel => exact ⟨(x7_1), (wrap64 (x13_1 + 1)), (by first | rfl | (simp; done) | (simp [*]; done)), H', ⟨by have := HK1.out; omega⟩, ⟨rz HO_7⟩, ⟨bz BK390⟩, ⟨by exact bh⟩⟩
     ·rw [if_neg c11] at H
      exact absurd H (by simp)
    ·rw [if_neg c10] at H
     have c10b0 : decide (x13_1 < ji5) = false := decide_eq_false c10
     clear c10
     obtain rfl := Option.some.inj H
     go_wp2
     go_ret
     exact ⟨_, by first | rfl | (simp [errW_none, errW_some] <;> rfl) | (simp only [← hji5]; first | rfl | (simp [errW_none, errW_some] <;> rfl)) | (simp [*, errW_none, errW_some] <;> rfl), by (with_reducible repeat (first | apply Kd.R_alloc | apply Kd.R_drewN | apply Kd.R_drew)); exact HO_7.out, by exact bh⟩
 ·rw [if_neg c4] at H
  exact absurd H (by simp)

end Go.Proofs.Ytaddlahbahedeaa.QFnIdleIn
