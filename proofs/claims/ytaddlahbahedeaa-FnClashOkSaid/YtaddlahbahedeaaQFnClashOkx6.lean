-- Printed for this claim by a turned copy of the print (wip/myprint). Lean checks it. Squeezed. Worded. Tightened.
import Derived.Test.YtaddlahbahedeaaQFnClashOkx0
import Derived.Test.YtaddlahbahedeaaQFnClashOkx5
namespace Go.Proofs.Ytaddlahbahedeaa.QFnClashOk
open Go.RowKit Go.Proofs.YtaddlahbahedeaaW.PrintWords Go.Proofs.YtaddlahbahedeaaW.PrintLast Go.Proofs.YtaddlahbahedeaaW.PrintMore
attribute [local go_sem] max2_int min2_int max_two min_two max_three min_three max_four min_four Opens.cell_twice   -- for this text's walks alone
set_option linter.unusedVariables false
set_option linter.unusedSimpArgs false

/-! ### slices_insertionSortOrdered_int: function 88 -/
mutual
def slices_insertionSortOrdered_int.l0 : Nat → List Int → Int → Int → Int → Option (Unit)
 | 0, _, _, _, _ => none
 | k + 1, x0, x1, x2, x6 => if x6 < x2 then (slices_insertionSortOrdered_int.l1 k x0 x1 x2 x6 x6) else (some ())
def slices_insertionSortOrdered_int.l1 : Nat → List Int → Int → Int → Int → Int → Option (Unit)
 | 0, _, _, _, _, _ => none
 | k + 1, x0, x1, x2, x6, x7 => if x7 > x1 then (if 0 ≤ x7 then (if x7 < (x0.length : Int) then (if 0 ≤ (wrap64 (x7 - 1)) then (if (wrap64 (x7 - 1)) < (x0.length : Int) then ((cmp_Less_int.f (rd x0 x7) (rd x0 (wrap64 (x7 - 1)))).bind fun t140 => (if t140 = true then (none) else (slices_insertionSortOrdered_int.l0 k x0 x1 x2 (wrap64 (x6 + 1))))) else (none)) else (none)) else (none)) else (none)) else (slices_insertionSortOrdered_int.l0 k x0 x1 x2 (wrap64 (x6 + 1)))
end
def slices_insertionSortOrdered_int.f (k : Nat) (l0 : List Int) (a1 : Int) (a2 : Int) : Option (Unit) := slices_insertionSortOrdered_int.l0 k l0 a1 a2 (wrap64 (a1 + 1))
theorem slices_insertionSortOrdered_int.mono_l : ∀ k, (∀ y0 y1 y2 y3, LeO (slices_insertionSortOrdered_int.l0 k y0 y1 y2 y3) (slices_insertionSortOrdered_int.l0 (k + 1) y0 y1 y2 y3)) ∧ (∀ y0 y1 y2 y3 y4, LeO (slices_insertionSortOrdered_int.l1 k y0 y1 y2 y3 y4) (slices_insertionSortOrdered_int.l1 (k + 1) y0 y1 y2 y3 y4))
 | 0 => ⟨fun _ _ _ _ r h => by simp [slices_insertionSortOrdered_int.l0] at h, fun _ _ _ _ _ r h => by simp [slices_insertionSortOrdered_int.l1] at h⟩
 | k + 1 => by
  obtain ⟨ih0, ih1⟩ := slices_insertionSortOrdered_int.mono_l k
  refine ⟨?_, ?_⟩
  ·intro y0 y1 y2 y3
   unfold slices_insertionSortOrdered_int.l0
   repeat' first
   | (with_reducible exact ih0 _ _ _ _)
   | (with_reducible exact ih1 _ _ _ _ _)
   | (with_reducible exact LeO.refl _)
   | (with_reducible exact LeO.none _)
   | (with_reducible refine LeO.ite ?_ ?_)
   | (with_reducible refine LeO.bind ?_ (fun _ => ?_))
   | exact ih0 _ _ _ _
   | exact ih1 _ _ _ _ _
   | exact LeO.none _
   | refine LeO.ite ?_ ?_
   | refine LeO.bind ?_ (fun _ => ?_)
  ·intro y0 y1 y2 y3 y4
   unfold slices_insertionSortOrdered_int.l1
   repeat' first
   | (with_reducible exact ih0 _ _ _ _)
   | (with_reducible exact ih1 _ _ _ _ _)
   | (with_reducible exact LeO.refl _)
   | (with_reducible exact LeO.none _)
   | (with_reducible refine LeO.ite ?_ ?_)
   | (with_reducible refine LeO.bind ?_ (fun _ => ?_))
   | exact ih0 _ _ _ _
   | exact ih1 _ _ _ _ _
   | exact LeO.none _
   | refine LeO.ite ?_ ?_
   | refine LeO.bind ?_ (fun _ => ?_)
theorem slices_insertionSortOrdered_int.mono : ∀ a0 a1 a2 k, LeO (slices_insertionSortOrdered_int.f k a0 a1 a2) (slices_insertionSortOrdered_int.f (k + 1) a0 a1 a2) := by
 intro a0 a1 a2 k
 obtain ⟨ih0, ih1⟩ := slices_insertionSortOrdered_int.mono_l k
 unfold slices_insertionSortOrdered_int.f
 repeat' first
   | (with_reducible exact ih0 _ _ _ _)
   | (with_reducible exact ih1 _ _ _ _ _)
   | (with_reducible exact LeO.refl _)
   | (with_reducible exact LeO.none _)
   | (with_reducible refine LeO.ite ?_ ?_)
   | (with_reducible refine LeO.bind ?_ (fun _ => ?_))
   | exact ih0 _ _ _ _
   | exact ih1 _ _ _ _ _
   | exact LeO.none _
   | refine LeO.ite ?_ ?_
   | refine LeO.bind ?_ (fun _ => ?_)
def slices_insertionSortOrdered_int.T4 : Bool × List (List Nat × List Nat) := (true, [([], []), ([], []), ([0, 1], [0, 1]), ([2], [2]), ([3], [3]), ([3], [3]), ([4, 5, 3], [3, 4, 5]), ([6, 3], [3, 6]), ([3], [3]), ([3], [3]), ([9, 3], [3, 9]), ([8, 10, 3], [3, 8, 10]), ([11, 3], [3, 11]), ([7, 12, 3, 3], [3, 7, 12]), ([3, 13], [3, 13])])
def slices_insertionSortOrdered_int.B4 : List Nat := [0, 0, 3, 7, 15, 15, 63, 127, 15, 15, 527, 1807, 3855, 8191, 16383]
theorem slices_insertionSortOrdered_int.tab4 : rtab .any (opsOf Try.f88 4) = slices_insertionSortOrdered_int.T4 := by kernel_rfl
theorem slices_insertionSortOrdered_int.bits4 : waitsOk slices_insertionSortOrdered_int.T4.2 slices_insertionSortOrdered_int.B4 = true := by kernel_rfl
set_option maxHeartbeats 8000000 in
set_option maxRecDepth 100000 in
theorem slices_insertionSortOrdered_int.calls (k : Nat) (A0 : Option Addr) (c0 : Nat) (l0 : List Int) (a1 : Int) (a2 : Int) (w : World) (hr0 : Kd.C (Kd.int .i64) w A0 l0.length l0) (hc0 : l0.length ≤ c0) (h : slices_insertionSortOrdered_int.f k l0 a1 a2 = some ()) :
  Calls Try.prog 88 #[.slice A0 l0.length c0, .int .i64 a1, .int .i64 a2] w fun e w' => e = .returned (.tuple #[]) ∧ Below w.heap.size w w' := by
 have HR0 := Aside0.mk hr0
 have HC0 := Aside0.mk hc0
 clear hr0 hc0
 have HB := Aside0.mk (Below.refl w.heap.size w)
 have H : (slices_insertionSortOrdered_int.l0 k l0 a1 a2 (wrap64 (a1 + 1))) = some () := h
 clear h
 have H' := Aside0.mk H
 clear H
 go_enter Try.func88, Try.ntmps88
 go_wp2
 go_loopg [6] k (fun kq v6 w' => ∃ (x6_1 : Int), v6 = .int .i64 x6_1 ∧ Aside0 (slices_insertionSortOrdered_int.l0 kq l0 a1 a2 x6_1 = some ()) ∧ Aside0 (kq ≤ k) ∧ Aside0 (Below w.heap.size w w'))
 case atStart => exact ⟨(wrap64 (a1 + 1)), (by first | rfl | (simp; done) | (simp [*]; done)), H', ⟨Nat.le_refl _⟩, ⟨by exact bh⟩⟩
 case round =>
  clear H'
  try clear p2
  obtain ⟨x6_1, rfl, HA, HK1, HB⟩ := hrel
  cases gk with
  | zero => exact absurd HA.out (by simp [slices_insertionSortOrdered_int.l0])
  | succ k1 =>
   have H := HA.out
   clear HA
   simp only [slices_insertionSortOrdered_int.l0] at H
   by_cases c4 : x6_1 < a2
   ·rw [if_pos c4] at H
    have c4b0 : decide (x6_1 < a2) = true := decide_eq_true c4
    clear c4
    have H' := Aside0.mk H
    clear H
    go_wp2
    go_loopg [7] k1 (fun kq v7 w' => ∃ (x7_2 : Int), v7 = .int .i64 x7_2 ∧ Aside0 (slices_insertionSortOrdered_int.l1 kq l0 a1 a2 x6_1 x7_2 = some ()) ∧ Aside0 (kq ≤ k1) ∧ Aside0 (Below w.heap.size w w'))
    case atStart => exact ⟨(x6_1), (by first | rfl | (simp; done) | (simp [*]; done)), H', ⟨Nat.le_refl _⟩, ⟨by exact bh⟩⟩
    case round =>
     clear H'
     try clear p2
     try clear c4
     try clear c4b0
     try clear p2
     obtain ⟨x7_2, rfl, HA, HK2, HB⟩ := hrel
     cases gk with
     | zero => exact absurd HA.out (by simp [slices_insertionSortOrdered_int.l1])
     | succ k2 =>
      have H := HA.out
      clear HA
      simp only [slices_insertionSortOrdered_int.l1] at H
      by_cases c5 : x7_2 > a1
      ·rw [if_pos c5] at H
       have c5b0 : decide (a1 < x7_2) = true := decide_eq_true c5
       clear c5
       by_cases c6 : 0 ≤ x7_2
       ·rw [if_pos c6] at H
        have c6b0 : decide (0 ≤ x7_2) = true := decide_eq_true c6
        clear c6
        by_cases c7 : x7_2 < (l0.length : Int)
        ·rw [if_pos c7] at H
         have c7b0 : decide (x7_2 < (l0.length : Int)) = true := decide_eq_true c7
         clear c7
         obtain ⟨ji8, hji8⟩ : ∃ j_ : Int, (wrap64 (x7_2 - 1)) = j_ := ⟨_, rfl⟩
         replace H : (if 0 ≤ (ji8) then (if (ji8) < (l0.length : Int) then ((cmp_Less_int.f (rd l0 x7_2) (rd l0 (ji8))).bind fun t140 => (if t140 = true then (none) else (slices_insertionSortOrdered_int.l0 k2 l0 a1 a2 (wrap64 (x6_1 + 1))))) else (none)) else (none)) = some () := by first | (rw [hji8] at H; exact H) | (simp only [hji8] at H ⊢; exact H)
         have hji8w : (IntKind.i64.wrap (x7_2 - 1)) = ji8 := (i64_w _).trans hji8
         by_cases c9 : 0 ≤ (ji8)
         ·rw [if_pos c9] at H
          have c9b0 : decide (0 ≤ (ji8)) = true := decide_eq_true c9
          clear c9
          by_cases c10 : (ji8) < (l0.length : Int)
          ·rw [if_pos c10] at H
           have c10b0 : decide ((ji8) < (l0.length : Int)) = true := decide_eq_true c10
           clear c10
           replace H := Option.bind_eq_some_iff.mp H
           obtain ⟨t140, A110, H⟩ := H
           replace H : (if t140 = true then (none) else (slices_insertionSortOrdered_int.l0 k2 l0 a1 a2 (wrap64 (x6_1 + 1)))) = some () := H
           have A11 := Aside0.mk A110
           clear A110
           by_cases c12 : t140 = true
           ·subst c12
            have H1 : (none) = some () := by rw [if_pos rfl] at H; exact H
            clear H
            have H := H1
            clear H1
            exact absurd H (by simp)
           ·replace c12 := Bool.eq_false_iff.mpr c12
            subst c12
            have H1 : (slices_insertionSortOrdered_int.l0 k2 l0 a1 a2 (wrap64 (x6_1 + 1))) = some () := by rw [if_neg (show ¬ (false = true) by decide)] at H; exact H
            clear H
            have H := H1
            clear H1
            have H' := Aside0.mk H
            clear H
            try go_wp2
            have n0_ := Aside0.mk (below_drew1 HB.out)
            clear HB
            have HB := n0_
            clear n0_
            have p138 : 0 ≤ (x7_2 : Int) := oda
            have q138 : x7_2 < (l0.length : Int) := oda
            obtain ⟨ad138, e138, hx138_0⟩ := Kd.at_int HR0.out x7_2 p138 q138
            have hw138_0 := hx138_0
            cases e138
            replace hx138_0 := (HB.out.cell (World.block_lt_of_cell? w _ hx138_0)).trans hx138_0
            replace p138 := eq_true p138
            replace q138 := eq_true q138
            have p139 : 0 ≤ ((ji8) : Int) := oda
            have q139 : (ji8) < (l0.length : Int) := oda
            obtain ⟨ad139, e139, hx139_0⟩ := Kd.at_int HR0.out (ji8) p139 q139
            have hw139_0 := hx139_0
            obtain rfl : ad138 = ad139 := (by injection e139)
            replace hx139_0 := (HB.out.cell (World.block_lt_of_cell? w _ hx139_0)).trans hx139_0
            replace p139 := eq_true p139
            replace q139 := eq_true q139
            refine start_ (n := 15) (S := fun w' => w'.cell? (ad138.add (x7_2).toNat) = some (.int .i64 (rd l0 x7_2)) ∧ w'.cell? (ad138.add ((ji8)).toNat) = some (.int .i64 (rd l0 (ji8)))) (ds := []) #[F,F,F,F,F,F,F,F,F,F,F,F,F,F,F] kr rfl rfl ⟨((HB.out.cell (World.block_lt_of_cell? w _ hw138_0)).trans hw138_0), ((HB.out.cell (World.block_lt_of_cell? w _ hw139_0)).trans hw139_0)⟩ (fun hHeld => ?_); refine with_tabW slices_insertionSortOrdered_int.tab4 slices_insertionSortOrdered_int.bits4 (fun HT_ HW_ => ?_)
            generalize wr.drew = w13 at HB hx138_0 hx139_0 hHeld ⊢
            refine pu 0 (some 16) #[T,F,F,F,F,F,F,F,F,F,F,F,F,F,F] (any_of HT_.out kr) ?_
            refine pu 1 (some 17) #[T,T,F,F,F,F,F,F,F,F,F,F,F,F,F] (any_of HT_.out kr) ?_
            refine pu 2 (some 18) #[T,T,T,F,F,F,F,F,F,F,F,F,F,F,F] (any_of HT_.out kr) ?_
            refine pu 3 (some 19) #[T,T,T,T,F,F,F,F,F,F,F,F,F,F,F] (any_of HT_.out kr) ?_
            refine pu 4 (some 20) #[T,T,T,T,T,F,F,F,F,F,F,F,F,F,F] (any_of HT_.out kr) ?_
            refine pu 5 (some 21) #[T,T,T,T,T,T,F,F,F,F,F,F,F,F,F] (any_of HT_.out kr) ?_
            refine pu 6 (some 22) #[T,T,T,T,T,T,T,F,F,F,F,F,F,F,F] (any_of HT_.out kr) ?_
            refine pu 8 (some 24) #[T,T,T,T,T,T,T,F,T,F,F,F,F,F,F] (any_of HT_.out kr) ?_
            refine pu 9 (some 25) #[T,T,T,T,T,T,T,F,T,T,F,F,F,F,F] (any_of HT_.out kr) ?_
            refine pu 10 (some 26) #[T,T,T,T,T,T,T,F,T,T,T,F,F,F,F] (any_of HT_.out kr) ?_
            refine pu 11 (some 27) #[T,T,T,T,T,T,T,F,T,T,T,T,F,F,F] (any_of HT_.out kr) ?_
            refine tk2 7 (some 23) #[T,T,T,T,T,T,T,T,T,T,T,T,F,F,F] (take_ofW HT_.out HW_.out kr) ?_
            refine tk2 12 (some 28) #[T,T,T,T,T,T,T,T,T,T,T,T,T,F,F] (take_ofW HT_.out HW_.out kr) ?_
            refine one_ (i := 13) (N := some 29) #[T,T,T,T,T,T,T,T,T,T,T,T,T,T,F] rfl rfl (one_of HT_.out kr) (by decide) (fun K hK => ?_)
            refine goes_ Try.func94 kr rfl #[.int .i64 (rd l0 x7_2), .int .i64 (rd l0 (ji8))] (by rfl) rfl rfl (by (try simp only [List.map_toArray, List.map_cons, List.map_nil]); first | done | (simp only [hji8]; rfl) | rfl | (simp only [List.length_drop, List.length_take]; rfl)) ?_
            with_reducible refine (cmp_Less_int.calls (rd l0 x7_2) (rd l0 (ji8)) false _ A11.out).mono ?_
            rintro e w' ⟨rfl, ⟨nd, rfl⟩⟩
            refine ⟨_, rfl, ?_⟩
            refine hK.out _ _ ⟨((HB.out.cell (World.block_lt_of_cell? w _ hw138_0)).trans hw138_0), ((HB.out.cell (World.block_lt_of_cell? w _ hw139_0)).trans hw139_0)⟩ (fun hHeld => ?_)
            clear hK K
            refine norm_ (a' := ?_) ?_ ?_
            rotate_left
            ·show Act.put _ (some 29) _ = _
             simp only [Act.put, List.setIfInBounds_toArray, List.set_cons_zero, List.set_cons_succ, i64_w, i32_w]
             rfl
            refine pu 14 (some 30) #[T,T,T,T,T,T,T,T,T,T,T,T,T,T,T] (any_of HT_.out kr) ?_
            refine done_ (done_of HT_.out kr) ?_
            try go_wp2
            go_roundg k2
            case measure => have := HK1.out; have := HK2.out; omega
            case rel => exact ⟨(wrap64 (x6_1 + 1)), (by first | rfl | (simp; done) | (simp [*]; done)), H', ⟨by have := HK1.out; have := HK2.out; omega⟩, ⟨by exact bh⟩⟩
          ·rw [if_neg c10] at H
           exact absurd H (by simp)
         ·rw [if_neg c9] at H
          exact absurd H (by simp)
        ·rw [if_neg c7] at H
         exact absurd H (by simp)
       ·rw [if_neg c6] at H
        exact absurd H (by simp)
      ·rw [if_neg c5] at H
       have c5b0 : decide (a1 < x7_2) = false := decide_eq_false c5
       clear c5
       have H' := Aside0.mk H
       clear H
       try go_wp2
       have n0_ := Aside0.mk (below_drew1 HB.out)
       clear HB
       have HB := n0_
       clear n0_
       refine start_ (n := 15) (S := fun w' => True) (ds := []) #[F,F,F,F,F,F,F,F,F,F,F,F,F,F,F] kr rfl rfl trivial (fun hHeld => ?_); refine with_tabW slices_insertionSortOrdered_int.tab4 slices_insertionSortOrdered_int.bits4 (fun HT_ HW_ => ?_)
       generalize wr.drew = w14 at HB hHeld ⊢
       refine pu 0 (some 16) #[T,F,F,F,F,F,F,F,F,F,F,F,F,F,F] (any_of HT_.out kr) ?_
       refine pu 1 (some 17) #[T,T,F,F,F,F,F,F,F,F,F,F,F,F,F] (any_of HT_.out kr) ?_
       refine pu 2 (some 18) #[T,T,T,F,F,F,F,F,F,F,F,F,F,F,F] (any_of HT_.out kr) ?_
       refine pu 3 (some 19) #[T,T,T,T,F,F,F,F,F,F,F,F,F,F,F] (any_of HT_.out kr) ?_
       refine pure_ (i := 4) (N := some 20) (v := undef) (a' := ?_) #[T,T,T,T,T,F,F,F,F,F,F,F,F,F,F] rfl rfl (any_of HT_.out kr) (fun _ _ _ h => h) (Or.inr ⟨by rfl, rfl⟩) ?_ ?_
       rotate_left
       ·simp only [Act.put, List.setIfInBounds_toArray, List.set_cons_zero, List.set_cons_succ, i64_w, i32_w]
        rfl
       refine pure_ (i := 5) (N := some 21) (v := undef) (a' := ?_) #[T,T,T,T,T,T,F,F,F,F,F,F,F,F,F] rfl rfl (any_of HT_.out kr) (fun _ _ _ h => h) (Or.inr ⟨by rfl, rfl⟩) ?_ ?_
       rotate_left
       ·simp only [Act.put, List.setIfInBounds_toArray, List.set_cons_zero, List.set_cons_succ, i64_w, i32_w]
        rfl
       refine pure_ (i := 6) (N := some 22) (v := undef) (a' := ?_) #[T,T,T,T,T,T,T,F,F,F,F,F,F,F,F] rfl rfl (any_of HT_.out kr) (fun _ _ _ h => h) (Or.inr ⟨by rfl, rfl⟩) ?_ ?_
       rotate_left
       ·simp only [Act.put, List.setIfInBounds_toArray, List.set_cons_zero, List.set_cons_succ, i64_w, i32_w]
        rfl
       refine pure_ (i := 7) (N := some 23) (v := undef) (a' := ?_) #[T,T,T,T,T,T,T,T,F,F,F,F,F,F,F] rfl rfl (any_of HT_.out kr) (fun _ _ _ h => h) (Or.inr ⟨by rfl, rfl⟩) ?_ ?_
       rotate_left
       ·simp only [Act.put, List.setIfInBounds_toArray, List.set_cons_zero, List.set_cons_succ, i64_w, i32_w]
        rfl
       refine pure_ (i := 8) (N := some 24) (v := undef) (a' := ?_) #[T,T,T,T,T,T,T,T,T,F,F,F,F,F,F] rfl rfl (any_of HT_.out kr) (fun _ _ _ h => h) (Or.inr ⟨by rfl, rfl⟩) ?_ ?_
       rotate_left
       ·simp only [Act.put, List.setIfInBounds_toArray, List.set_cons_zero, List.set_cons_succ, i64_w, i32_w]
        rfl
       refine pure_ (i := 9) (N := some 25) (v := undef) (a' := ?_) #[T,T,T,T,T,T,T,T,T,T,F,F,F,F,F] rfl rfl (any_of HT_.out kr) (fun _ _ _ h => h) (Or.inr ⟨by rfl, rfl⟩) ?_ ?_
       rotate_left
       ·simp only [Act.put, List.setIfInBounds_toArray, List.set_cons_zero, List.set_cons_succ, i64_w, i32_w]
        rfl
       refine pure_ (i := 10) (N := some 26) (v := undef) (a' := ?_) #[T,T,T,T,T,T,T,T,T,T,T,F,F,F,F] rfl rfl (any_of HT_.out kr) (fun _ _ _ h => h) (Or.inr ⟨by rfl, rfl⟩) ?_ ?_
       rotate_left
       ·simp only [Act.put, List.setIfInBounds_toArray, List.set_cons_zero, List.set_cons_succ, i64_w, i32_w]
        rfl
       refine pure_ (i := 11) (N := some 27) (v := undef) (a' := ?_) #[T,T,T,T,T,T,T,T,T,T,T,T,F,F,F] rfl rfl (any_of HT_.out kr) (fun _ _ _ h => h) (Or.inr ⟨by rfl, rfl⟩) ?_ ?_
       rotate_left
       ·simp only [Act.put, List.setIfInBounds_toArray, List.set_cons_zero, List.set_cons_succ, i64_w, i32_w]
        rfl
       refine pure_ (i := 12) (N := some 28) (v := undef) (a' := ?_) #[T,T,T,T,T,T,T,T,T,T,T,T,T,F,F] rfl rfl (any_of HT_.out kr) (fun _ _ _ h => h) (Or.inr ⟨by rfl, rfl⟩) ?_ ?_
       rotate_left
       ·simp only [Act.put, List.setIfInBounds_toArray, List.set_cons_zero, List.set_cons_succ, i64_w, i32_w]
        rfl
       refine pure_ (i := 13) (N := some 29) (v := undef) (a' := ?_) #[T,T,T,T,T,T,T,T,T,T,T,T,T,T,F] rfl rfl (any_of HT_.out kr) (fun _ _ _ h => h) (Or.inr ⟨by rfl, rfl⟩) ?_ ?_
       rotate_left
       ·simp only [Act.put, List.setIfInBounds_toArray, List.set_cons_zero, List.set_cons_succ, i64_w, i32_w]
        rfl
       refine pu 14 (some 30) #[T,T,T,T,T,T,T,T,T,T,T,T,T,T,T] (any_of HT_.out kr) ?_
       refine done_ (done_of HT_.out kr) ?_
       try go_wp2
       go_roundg k2
       case measure => have := HK1.out; have := HK2.out; omega
       case rel => exact ⟨(wrap64 (x6_1 + 1)), (by first | rfl | (simp; done) | (simp [*]; done)), H', ⟨by have := HK1.out; have := HK2.out; omega⟩, ⟨by exact bh⟩⟩
   ·rw [if_neg c4] at H
    have c4b0 : decide (x6_1 < a2) = false := decide_eq_false c4
    clear c4
    go_wp2
    first | go_end0 | ((try simp only [Exit.inBlock, Exit.then]); refine bodyPost_ret (results_none rfl _ _ _) rfl ?_)
    exact ⟨by first | rfl | (simp [errW_none, errW_some] <;> rfl) | (simp [*, errW_none, errW_some] <;> rfl), by exact bh⟩

/-! ### bits_Len: function 87 -/
def bits_Len.L (n : Nat) : Int := if n < 1 then 0 else if n < 2 then 1 else if n < 4 then 2 else if n < 8 then 3 else if n < 16 then 4 else if n < 32 then 5 else if n < 64 then 6 else if n < 128 then 7 else 8
set_option maxRecDepth 100000 in
def bits_Len.B : ByteArray := ⟨#[0, 1, 2, 2, 3, 3, 3, 3, 4, 4, 4, 4, 4, 4, 4, 4, 5, 5, 5, 5, 5, 5, 5, 5, 5, 5, 5, 5, 5, 5, 5, 5, 6, 6, 6, 6, 6, 6, 6, 6, 6, 6, 6, 6, 6, 6, 6, 6, 6, 6, 6, 6, 6, 6, 6, 6, 6, 6, 6, 6, 6, 6, 6, 6, 7, 7, 7, 7, 7, 7, 7, 7, 7, 7, 7, 7, 7, 7, 7, 7, 7, 7, 7, 7, 7, 7, 7, 7, 7, 7, 7, 7, 7, 7, 7, 7, 7, 7, 7, 7, 7, 7, 7, 7, 7, 7, 7, 7, 7, 7, 7, 7, 7, 7, 7, 7, 7, 7, 7, 7, 7, 7, 7, 7, 7, 7, 7, 7, 8, 8, 8, 8, 8, 8, 8, 8, 8, 8, 8, 8, 8, 8, 8, 8, 8, 8, 8, 8, 8, 8, 8, 8, 8, 8, 8, 8, 8, 8, 8, 8, 8, 8, 8, 8, 8, 8, 8, 8, 8, 8, 8, 8, 8, 8, 8, 8, 8, 8, 8, 8, 8, 8, 8, 8, 8, 8, 8, 8, 8, 8, 8, 8, 8, 8, 8, 8, 8, 8, 8, 8, 8, 8, 8, 8, 8, 8, 8, 8, 8, 8, 8, 8, 8, 8, 8, 8, 8, 8, 8, 8, 8, 8, 8, 8, 8, 8, 8, 8, 8, 8, 8, 8, 8, 8, 8, 8, 8, 8, 8, 8, 8, 8, 8, 8, 8, 8, 8, 8, 8, 8, 8, 8, 8, 8, 8, 8]⟩
set_option maxRecDepth 100000 in
theorem bits_Len.tab : ∀ n : Fin 256, wrap64 (wrap64 (((bits_Len.B[n.val]'(by have := n.isLt; exact this)).toNat : Nat) : Int)) = bits_Len.L n.val := by decide +kernel
set_option maxHeartbeats 4000000 in
set_option maxRecDepth 100000 in
theorem bits_Len.low (x : Int) (w : World) (h0 : 0 ≤ x) (h1 : x < 256) :
  Calls Try.prog 98 #[.int .u64 x] w fun e w' => e = .returned (.int .i64 (bits_Len.L x.toNat)) ∧ w' = w := by
 obtain ⟨n, rfl⟩ := Int.eq_ofNat_of_zero_le h0
 have hn : n < 256 := by omega
 have c0 : ¬ (n : Int) ≥ 4294967296 := by omega
 have c1 : ¬ (n : Int) ≥ 65536 := by omega
 have c2 : ¬ (n : Int) ≥ 256 := by omega
 go_enter Try.func98, Try.ntmps98
 go_wp2
 all_goals go_ret
 all_goals exact ⟨congrArg (fun z => Ending.returned (Value.int IntKind.i64 z)) (bits_Len.tab ⟨n, hn⟩), rfl⟩
def bits_Len.f (a0 : Int) : Option (Int) := if 0 ≤ a0 then (if a0 < 256 then some (bits_Len.L a0.toNat) else none) else none
set_option maxHeartbeats 4000000 in
set_option maxRecDepth 100000 in
theorem bits_Len.calls (a0 : Int) (r : Int) (w : World) (h : bits_Len.f a0 = some r) :
  Calls Try.prog 87 #[.int .u64 a0] w fun e w' => e = .returned (.int .i64 r) ∧ Drawn0 w w' := by
 unfold bits_Len.f at h
 by_cases c1 : 0 ≤ a0
 ·rw [if_pos c1] at h
  by_cases c2 : a0 < 256
  ·rw [if_pos c2] at h
   injection h with h
   subst h
   go_enter Try.func87, Try.ntmps87
   go_wp2_with (go_at_call 98; refine (bits_Len.low a0 _ c1 c2).mono ?_; rintro e w' ⟨rfl, rfl⟩)
   go_ret
   exact ⟨rfl, Drawn0.refl _⟩
  ·rw [if_neg c2] at h; cases h
 ·rw [if_neg c1] at h; cases h

/-! ### slices_order2Ordered_int: function 105 -/
def slices_order2Ordered_int.f (l0 : List Int) (a1 : Int) (a2 : Int) (l3 : List Int) : Option (Int × Int) := if 0 ≤ a2 then (if a2 < (l0.length : Int) then (if 0 ≤ a1 then (if a1 < (l0.length : Int) then ((cmp_Less_int.f (rd l0 a2) (rd l0 a1)).bind fun t145 => (if t145 = true then (none) else (some (a1, a2)))) else (none)) else (none)) else (none)) else (none)
set_option maxHeartbeats 8000000 in
set_option maxRecDepth 100000 in
theorem slices_order2Ordered_int.calls (A0 : Option Addr) (c0 : Nat) (l0 : List Int) (a1 : Int) (a2 : Int) (A3 : Option Addr) (c3 : Nat) (l3 : List Int) (r1 : Int) (r2 : Int) (w : World) (hr0 : Kd.C (Kd.int .i64) w A0 l0.length l0) (hc0 : l0.length ≤ c0) (hr3 : Kd.C (Kd.int .i64) w A3 l3.length l3) (hc3 : l3.length ≤ c3) (h : slices_order2Ordered_int.f l0 a1 a2 l3 = some (r1, r2)) :
  Calls Try.prog 105 #[.slice A0 l0.length c0, .int .i64 a1, .int .i64 a2, .pointer A3] w fun e w' => e = .returned (.tuple #[.int .i64 r1, .int .i64 r2]) ∧ Below w.heap.size w w' := by
 have HR0 := Aside0.mk hr0
 have HC0 := Aside0.mk hc0
 clear hr0 hc0
 have HR3 := Aside0.mk hr3
 have HC3 := Aside0.mk hc3
 clear hr3 hc3
 have HB := Aside0.mk (Below.refl w.heap.size w)
 have H : (if 0 ≤ a2 then (if a2 < (l0.length : Int) then (if 0 ≤ a1 then (if a1 < (l0.length : Int) then ((cmp_Less_int.f (rd l0 a2) (rd l0 a1)).bind fun t145 => (if t145 = true then (none) else (some (a1, a2)))) else (none)) else (none)) else (none)) else (none)) = some (r1, r2) := h
 clear h
 by_cases c5 : 0 ≤ a2
 ·rw [if_pos c5] at H
  have c5b0 : decide (0 ≤ a2) = true := decide_eq_true c5
  clear c5
  by_cases c6 : a2 < (l0.length : Int)
  ·rw [if_pos c6] at H
   have c6b0 : decide (a2 < (l0.length : Int)) = true := decide_eq_true c6
   clear c6
   by_cases c7 : 0 ≤ a1
   ·rw [if_pos c7] at H
    have c7b0 : decide (0 ≤ a1) = true := decide_eq_true c7
    clear c7
    by_cases c8 : a1 < (l0.length : Int)
    ·rw [if_pos c8] at H
     have c8b0 : decide (a1 < (l0.length : Int)) = true := decide_eq_true c8
     clear c8
     replace H := Option.bind_eq_some_iff.mp H
     obtain ⟨t145, A90, H⟩ := H
     replace H : (if t145 = true then (none) else (some (a1, a2))) = some (r1, r2) := H
     have A9 := Aside0.mk A90
     clear A90
     by_cases c10 : t145 = true
     ·subst c10
      have H1 : (none) = some (r1, r2) := by rw [if_pos rfl] at H; exact H
      clear H
      have H := H1
      clear H1
      exact absurd H (by simp)
     ·replace c10 := Bool.eq_false_iff.mpr c10
      subst c10
      have H1 : (some (a1, a2)) = some (r1, r2) := by rw [if_neg (show ¬ (false = true) by decide)] at H; exact H
      clear H
      have H := H1
      clear H1
      simp only [Option.some.injEq, Prod.mk.injEq] at H
      obtain ⟨rfl, rfl⟩ := H
      have p143 : 0 ≤ (a2 : Int) := oda
      have q143 : a2 < (l0.length : Int) := oda
      obtain ⟨ad143, e143, hx143_0⟩ := Kd.at_int HR0.out a2 p143 q143
      cases e143
      replace p143 := eq_true p143
      replace q143 := eq_true q143
      have p144 : 0 ≤ (a1 : Int) := oda
      have q144 : a1 < (l0.length : Int) := oda
      obtain ⟨ad144, e144, hx144_0⟩ := Kd.at_int HR0.out a1 p144 q144
      obtain rfl : ad143 = ad144 := (by injection e144)
      replace p144 := eq_true p144
      replace q144 := eq_true q144
      go_enter Try.func105, Try.ntmps105
      go_wp2_with (first | (go_at_call 94; (with_reducible refine (cmp_Less_int.calls (rd l0 a2) (rd l0 a1) false _ A9.out).mono ?_); rintro e w' ⟨rfl, ⟨nd, rfl⟩⟩; (try first | exact ⟨rfl, _, World.drewN_drewN _ _ _⟩ | exact ⟨rfl, _, Eq.trans (World.drewN_drewN _ _ _) (congrArg (World.drewN _) (Nat.add_assoc _ _ _))⟩)))
      repeat (go_quiet (first | (go_at_call 94; (with_reducible refine (cmp_Less_int.calls (rd l0 a2) (rd l0 a1) false _ A9.out).mono ?_); rintro e w' ⟨rfl, ⟨nd, rfl⟩⟩; (try first | exact ⟨rfl, _, World.drewN_drewN _ _ _⟩ | exact ⟨rfl, _, Eq.trans (World.drewN_drewN _ _ _) (congrArg (World.drewN _) (Nat.add_assoc _ _ _))⟩))); try go_wp2_with (first | (go_at_call 94; (with_reducible refine (cmp_Less_int.calls (rd l0 a2) (rd l0 a1) false _ A9.out).mono ?_); rintro e w' ⟨rfl, ⟨nd, rfl⟩⟩; (try first | exact ⟨rfl, _, World.drewN_drewN _ _ _⟩ | exact ⟨rfl, _, Eq.trans (World.drewN_drewN _ _ _) (congrArg (World.drewN _) (Nat.add_assoc _ _ _))⟩))))
      go_ret2
      exact ⟨by first | rfl | (simp [errW_none, errW_some] <;> rfl) | (simp [*, errW_none, errW_some] <;> rfl), by exact bh⟩
    ·rw [if_neg c8] at H
     exact absurd H (by simp)
   ·rw [if_neg c7] at H
    exact absurd H (by simp)
  ·rw [if_neg c6] at H
   exact absurd H (by simp)
 ·rw [if_neg c5] at H
  exact absurd H (by simp)

/-! ### slices_medianOrdered_int: function 103 -/
def slices_medianOrdered_int.f (l0 : List Int) (a1 : Int) (a2 : Int) (a3 : Int) (l4 : List Int) : Option (Int) := (slices_order2Ordered_int.f l0 a1 a2 l4).bind fun bt146 => ((slices_order2Ordered_int.f l0 bt146.2 a3 l4).bind fun bt148 => ((slices_order2Ordered_int.f l0 bt146.1 bt148.1 l4).bind fun bt150 => (some bt150.2)))
set_option maxHeartbeats 8000000 in
set_option maxRecDepth 100000 in
theorem slices_medianOrdered_int.calls (A0 : Option Addr) (c0 : Nat) (l0 : List Int) (a1 : Int) (a2 : Int) (a3 : Int) (A4 : Option Addr) (c4 : Nat) (l4 : List Int) (r : Int) (w : World) (hr0 : Kd.C (Kd.int .i64) w A0 l0.length l0) (hc0 : l0.length ≤ c0) (hr4 : Kd.C (Kd.int .i64) w A4 l4.length l4) (hc4 : l4.length ≤ c4) (h : slices_medianOrdered_int.f l0 a1 a2 a3 l4 = some r) :
  Calls Try.prog 103 #[.slice A0 l0.length c0, .int .i64 a1, .int .i64 a2, .int .i64 a3, .pointer A4] w fun e w' => e = .returned (.int .i64 r) ∧ Below w.heap.size w w' := by
 have HR0 := Aside0.mk hr0
 have HC0 := Aside0.mk hc0
 clear hr0 hc0
 have HR4 := Aside0.mk hr4
 have HC4 := Aside0.mk hc4
 clear hr4 hc4
 have HB := Aside0.mk (Below.refl w.heap.size w)
 have H : ((slices_order2Ordered_int.f l0 a1 a2 l4).bind fun bt146 => ((slices_order2Ordered_int.f l0 bt146.2 a3 l4).bind fun bt148 => ((slices_order2Ordered_int.f l0 bt146.1 bt148.1 l4).bind fun bt150 => (some bt150.2)))) = some r := h
 clear h
 replace H := Option.bind_eq_some_iff.mp H
 obtain ⟨⟨t146, t147⟩, A60, H⟩ := H
 replace H : ((slices_order2Ordered_int.f l0 t147 a3 l4).bind fun bt148 => ((slices_order2Ordered_int.f l0 t146 bt148.1 l4).bind fun bt150 => (some bt150.2))) = some r := H
 have A6 := Aside0.mk A60
 clear A60
 replace H := Option.bind_eq_some_iff.mp H
 obtain ⟨⟨t148, t149⟩, A70, H⟩ := H
 replace H : ((slices_order2Ordered_int.f l0 t146 t148 l4).bind fun bt150 => (some bt150.2)) = some r := H
 have A7 := Aside0.mk A70
 clear A70
 replace H := Option.bind_eq_some_iff.mp H
 obtain ⟨⟨t150, t151⟩, A80, H⟩ := H
 replace H : (some t151) = some r := H
 have A8 := Aside0.mk A80
 clear A80
 obtain rfl := Option.some.inj H
 go_enter Try.func103, Try.ntmps103
 go_wp2_with (first | ((with_reducible refine gate_callee (f := 105) rfl ?_); refine goesL_ (some 16) rfl rfl Try.func105 kr rfl #[.slice A0 l0.length c0, .int .i64 a1, .int .i64 a2, .pointer A4] rfl lm ?_; (with_reducible refine (slices_order2Ordered_int.calls _ _ l0 a1 a2 _ c4 l4 t146 t147 _ ?side1 ?side2 ?side3 ?side4 A6.out).mono ?_); (case side1 => repeat (first | exact HR0.out | (with_reducible refine Kd.C_alloc ?_ _) | (with_reducible refine Kd.C_drewN ?_ _) | (with_reducible refine Kd.C_drew ?_))); (case side2 => exact HC0.out); (case side3 => repeat (first | exact HR4.out | (with_reducible refine Kd.C_alloc ?_ _) | (with_reducible refine Kd.C_drewN ?_ _) | (with_reducible refine Kd.C_drew ?_))); (case side4 => exact HC4.out); rintro e w9 ⟨rfl, hb⟩; refine ⟨_, rfl, ?_⟩; have n0_ := Aside0.mk (below_step bh hb); clear HB; have HB := n0_; clear n0_; (try clear hb); (try clear hb2); (try clear hk); (try clear hi)) | ((with_reducible refine gate_callee (f := 105) rfl ?_); refine goesL_ (some 24) rfl rfl Try.func105 kr rfl #[.slice A0 l0.length c0, .int .i64 t147, .int .i64 a3, .pointer A4] rfl lm ?_; (with_reducible refine (slices_order2Ordered_int.calls _ _ l0 t147 a3 _ c4 l4 t148 t149 _ ?side1 ?side2 ?side3 ?side4 A7.out).mono ?_); (case side1 => repeat (first | exact (Kd.C_below HR0.out HB.out) | (with_reducible refine Kd.C_alloc ?_ _) | (with_reducible refine Kd.C_drewN ?_ _) | (with_reducible refine Kd.C_drew ?_))); (case side2 => exact HC0.out); (case side3 => repeat (first | exact (Kd.C_below HR4.out HB.out) | (with_reducible refine Kd.C_alloc ?_ _) | (with_reducible refine Kd.C_drewN ?_ _) | (with_reducible refine Kd.C_drew ?_))); (case side4 => exact HC4.out); rintro e w10 ⟨rfl, hb⟩; refine ⟨_, rfl, ?_⟩; have n0_ := Aside0.mk (below_step bh hb); clear HB; have HB := n0_; clear n0_; (try clear hb); (try clear hb2); (try clear hk); (try clear hi)) | ((with_reducible refine gate_callee (f := 105) rfl ?_); refine goesL_ (some 32) rfl rfl Try.func105 kr rfl #[.slice A0 l0.length c0, .int .i64 t146, .int .i64 t148, .pointer A4] rfl lm ?_; (with_reducible refine (slices_order2Ordered_int.calls _ _ l0 t146 t148 _ c4 l4 t150 t151 _ ?side1 ?side2 ?side3 ?side4 A8.out).mono ?_); (case side1 => repeat (first | exact (Kd.C_below HR0.out HB.out) | (with_reducible refine Kd.C_alloc ?_ _) | (with_reducible refine Kd.C_drewN ?_ _) | (with_reducible refine Kd.C_drew ?_))); (case side2 => exact HC0.out); (case side3 => repeat (first | exact (Kd.C_below HR4.out HB.out) | (with_reducible refine Kd.C_alloc ?_ _) | (with_reducible refine Kd.C_drewN ?_ _) | (with_reducible refine Kd.C_drew ?_))); (case side4 => exact HC4.out); rintro e w11 ⟨rfl, hb⟩; refine ⟨_, rfl, ?_⟩; have n0_ := Aside0.mk (below_step bh hb); clear HB; have HB := n0_; clear n0_; (try clear hb); (try clear hb2); (try clear hk); (try clear hi)))
 go_ret
 exact ⟨by first | rfl | (simp [errW_none, errW_some] <;> rfl) | (simp [*, errW_none, errW_some] <;> rfl), by exact bh⟩

/-! ### slices_choosePivotOrdered_int: function 91 -/
def slices_choosePivotOrdered_int.j0 : Nat → Int → Int → Option (Int × Int)
 | 0, _, _ => none
 | k + 1, x11, x153000 => if x153000 = 0 then (some (x11, 1)) else (if x153000 = 12 then (some (x11, 2)) else (some (x11, 0)))
def slices_choosePivotOrdered_int.f (k : Nat) (l0 : List Int) (a1 : Int) (a2 : Int) : Option (Int × Int) := if (wrap64 (a2 - a1)) ≥ 8 then (if (wrap64 (a2 - a1)) ≥ 50 then (none) else ((slices_medianOrdered_int.f l0 (wrap64 (a1 + (wrap64 ((wrap64 (Int.tdiv (wrap64 (a2 - a1)) 4)))))) (wrap64 (a1 + (wrap64 ((wrap64 (Int.tdiv (wrap64 (a2 - a1)) 4)) * 2)))) (wrap64 (a1 + (wrap64 ((wrap64 (Int.tdiv (wrap64 (a2 - a1)) 4)) * 3)))) [0]).bind fun t153 => (slices_choosePivotOrdered_int.j0 k t153 0))) else (slices_choosePivotOrdered_int.j0 k (wrap64 (a1 + (wrap64 ((wrap64 (Int.tdiv (wrap64 (a2 - a1)) 4)) * 2)))) 0)
theorem slices_choosePivotOrdered_int.mono_l : ∀ k, (∀ y0 y1, LeO (slices_choosePivotOrdered_int.j0 k y0 y1) (slices_choosePivotOrdered_int.j0 (k + 1) y0 y1))
 | 0 => fun _ _ r h => by simp [slices_choosePivotOrdered_int.j0] at h
 | k + 1 => by
  have ih0 := slices_choosePivotOrdered_int.mono_l k
  ·intro y0 y1
   unfold slices_choosePivotOrdered_int.j0
   repeat' first
   | (with_reducible exact ih0 _ _)
   | (with_reducible exact LeO.refl _)
   | (with_reducible exact LeO.none _)
   | (with_reducible refine LeO.ite ?_ ?_)
   | (with_reducible refine LeO.bind ?_ (fun _ => ?_))
   | exact ih0 _ _
   | exact LeO.none _
   | refine LeO.ite ?_ ?_
   | refine LeO.bind ?_ (fun _ => ?_)
theorem slices_choosePivotOrdered_int.mono : ∀ a0 a1 a2 k, LeO (slices_choosePivotOrdered_int.f k a0 a1 a2) (slices_choosePivotOrdered_int.f (k + 1) a0 a1 a2) := by
 intro a0 a1 a2 k
 have ih0 := slices_choosePivotOrdered_int.mono_l k
 unfold slices_choosePivotOrdered_int.f
 repeat' first
   | (with_reducible exact ih0 _ _)
   | (with_reducible exact LeO.refl _)
   | (with_reducible exact LeO.none _)
   | (with_reducible refine LeO.ite ?_ ?_)
   | (with_reducible refine LeO.bind ?_ (fun _ => ?_))
   | exact ih0 _ _
   | exact LeO.none _
   | refine LeO.ite ?_ ?_
   | refine LeO.bind ?_ (fun _ => ?_)
set_option maxHeartbeats 8000000 in
set_option maxRecDepth 100000 in
theorem slices_choosePivotOrdered_int.calls (k : Nat) (A0 : Option Addr) (c0 : Nat) (l0 : List Int) (a1 : Int) (a2 : Int) (r1 : Int) (r2 : Int) (w : World) (hr0 : Kd.C (Kd.int .i64) w A0 l0.length l0) (hc0 : l0.length ≤ c0) (h : slices_choosePivotOrdered_int.f k l0 a1 a2 = some (r1, r2)) :
  Calls Try.prog 91 #[.slice A0 l0.length c0, .int .i64 a1, .int .i64 a2] w fun e w' => e = .returned (.tuple #[.int .i64 r1, .int .i64 r2]) ∧ Below w.heap.size w w' := by
 have HR0 := Aside0.mk hr0
 have HC0 := Aside0.mk hc0
 clear hr0 hc0
 have HB := Aside0.mk (Below.refl w.heap.size w)
 have H : (if (wrap64 (a2 - a1)) ≥ 8 then (if (wrap64 (a2 - a1)) ≥ 50 then (none) else ((slices_medianOrdered_int.f l0 (wrap64 (a1 + (wrap64 ((wrap64 (Int.tdiv (wrap64 (a2 - a1)) 4)))))) (wrap64 (a1 + (wrap64 ((wrap64 (Int.tdiv (wrap64 (a2 - a1)) 4)) * 2)))) (wrap64 (a1 + (wrap64 ((wrap64 (Int.tdiv (wrap64 (a2 - a1)) 4)) * 3)))) [0]).bind fun t153 => (slices_choosePivotOrdered_int.j0 k t153 0))) else (slices_choosePivotOrdered_int.j0 k (wrap64 (a1 + (wrap64 ((wrap64 (Int.tdiv (wrap64 (a2 - a1)) 4)) * 2)))) 0)) = some (r1, r2) := h
 clear h
 have HC4 := Aside0.mk H
 clear H
 go_enter Try.func91, Try.ntmps91
 go_upto_if 32 with (first | ((with_reducible refine gate_dst (N := 9) rfl ?_); refine box_event ?hg (N := 9) ?hd (cs := #[.int .i64 0]) (t := 3) ?hr ?_; (case hd => rfl); (case hg => rfl); (case hr => first | (go_simp; done) | (go_simp; rfl)); intro gb152 hg w5 hbox hb; have n0_ := Aside0.mk (below_step bh hb); have n1_ := Aside0.mk (hbox); have n2_ := Aside0.mk ((gs (W0 := w) hg bh)); have n3_ := Aside0.mk ((gs (W0 := w) hg bh)); clear HB; have HB := n0_; have BK152 := n1_; have GW152 := n2_; have GE152 := n3_; clear n0_ n1_ n2_ n3_ hb hbox hg))
 (try simp only [Act.put, List.setIfInBounds_toArray, List.set_cons_zero, List.set_cons_succ])
 go_cut [11] (fun v11 wc => ∃ (kq : Nat) (x11_3 : Int), v11 = .int .i64 x11_3 ∧ Aside0 (slices_choosePivotOrdered_int.j0 kq x11_3 0 = some (r1, r2)) ∧ Aside0 (kq ≤ k) ∧ Aside0 (wc.heap[gb152]? = some (.cells #[.int .i64 0] 3 (0, 0))) ∧ Aside0 (Below w.heap.size w wc))
 case first =>
  have H := HC4.out
  clear HC4
  by_cases c6 : (wrap64 (a2 - a1)) ≥ 8
  ·rw [if_pos c6] at H
   have c6b0 : decide (8 ≤ (wrap64 (a2 - a1))) = true := decide_eq_true c6
   clear c6
   (first | rw [c6b0] | (simp only [i64_w, i32_w]; rw [c6b0]) | skip)
   by_cases c7 : (wrap64 (a2 - a1)) ≥ 50
   ·rw [if_pos c7] at H
    exact absurd H (by simp)
   ·rw [if_neg c7] at H
    have c7b0 : decide (50 ≤ (wrap64 (a2 - a1))) = false := decide_eq_false c7
    clear c7
    replace H := Option.bind_eq_some_iff.mp H
    obtain ⟨t153, A80, H⟩ := H
    replace H : (slices_choosePivotOrdered_int.j0 k t153 0) = some (r1, r2) := H
    have A8 := Aside0.mk A80
    clear A80
    have H' := Aside0.mk H
    clear H
    have hcz9_0 := cz0 BK152
    have hfz9_0 := blk_frozen BK152.out 0
    go_wp2_with (first | ((with_reducible refine gate_callee (f := 103) rfl ?_); refine goesL_ (some 48) rfl rfl Try.func103 kr rfl #[.slice A0 l0.length c0, .int .i64 (wrap64 (a1 + (wrap64 ((wrap64 (Int.tdiv (wrap64 (a2 - a1)) 4)))))), .int .i64 (wrap64 (a1 + (wrap64 ((wrap64 (Int.tdiv (wrap64 (a2 - a1)) 4)) * 2)))), .int .i64 (wrap64 (a1 + (wrap64 ((wrap64 (Int.tdiv (wrap64 (a2 - a1)) 4)) * 3)))), .pointer (some ⟨gb152, 0, none⟩)] rfl lm ?_; (with_reducible refine (slices_medianOrdered_int.calls _ _ l0 (wrap64 (a1 + (wrap64 ((wrap64 (Int.tdiv (wrap64 (a2 - a1)) 4)))))) (wrap64 (a1 + (wrap64 ((wrap64 (Int.tdiv (wrap64 (a2 - a1)) 4)) * 2)))) (wrap64 (a1 + (wrap64 ((wrap64 (Int.tdiv (wrap64 (a2 - a1)) 4)) * 3)))) (some ⟨gb152, 0, none⟩) [0].length [0] t153 _ ?side1 ?side2 ?side3 ?side4 A8.out).mono ?_); (case side1 => repeat (first | exact (Kd.C_below HR0.out HB.out) | (with_reducible refine Kd.C_alloc ?_ _) | (with_reducible refine Kd.C_drewN ?_ _) | (with_reducible refine Kd.C_drew ?_))); (case side2 => exact HC0.out); (case side3 => exact Opens.C_box (cs := #[.int .i64 0]) (t := 3) (bz BK152) rfl); (case side4 => exact Nat.le_refl _); rintro e w10 ⟨rfl, hb⟩; refine ⟨_, rfl, ?_⟩; have n0_ := Aside0.mk (blk_below (bz BK152) hb); have n1_ := Aside0.mk (below_step bh hb); clear BK152 HB; have BK152 := n0_; have HB := n1_; clear n0_ n1_; (try clear hb); (try clear hb2); (try clear hk); (try clear hi)))
    go_meet
    case rel => exact ⟨_, (t153), (by first | rfl | (simp; done) | (simp [*]; done)), H', ⟨by first | omega | exact Nat.le_refl _⟩, ⟨bz BK152⟩, ⟨by exact bh⟩⟩
  ·rw [if_neg c6] at H
   have c6b0 : decide (8 ≤ (wrap64 (a2 - a1))) = false := decide_eq_false c6
   clear c6
   (first | rw [c6b0] | (simp only [i64_w, i32_w]; rw [c6b0]) | skip)
   have H' := Aside0.mk H
   clear H
   go_wp2
   go_meet
   case rel => exact ⟨_, (wrap64 (a1 + (wrap64 ((wrap64 (Int.tdiv (wrap64 (a2 - a1)) 4)) * 2)))), (by first | rfl | (simp; done) | (simp [*]; done)), H', ⟨by first | omega | exact Nat.le_refl _⟩, ⟨bz BK152⟩, ⟨by exact bh⟩⟩
 case rest =>
  clear HC4
  try clear c1
  try clear p2
  try clear c6
  try clear c6b0
  try clear p6
  try clear c7
  try clear c7b0
  try clear c9
  try clear c10
  try clear hcz9_0
  try clear hfz9_0
  obtain ⟨kq, x11_3, rfl, HA, HJ3, BK152, HB⟩ := hcut
  cases kq with
  | zero => exact absurd HA.out (by simp [slices_choosePivotOrdered_int.j0])
  | succ kj3 =>
   have H := HA.out
   clear HA
   simp only [slices_choosePivotOrdered_int.j0] at H
   by_cases c11 : 0 = 0
   ·rw [if_pos trivial] at H
    have c11b0 : (0 == 0) = true := beq_iff_eq.mpr c11
    have c11b1 : (0 != 0) = false := bne_eq_false_iff_eq.mpr c11
    clear c11
    simp only [Option.some.injEq, Prod.mk.injEq] at H
    obtain ⟨rfl, rfl⟩ := H
    have hcz12_0 := cz0 BK152
    have hfz12_0 := blk_frozen BK152.out 0
    go_wp2
    go_ret2
    exact ⟨by first | rfl | (simp [errW_none, errW_some] <;> rfl) | (simp [*, errW_none, errW_some] <;> rfl), by exact bh⟩
   ·exact absurd rfl c11

end Go.Proofs.Ytaddlahbahedeaa.QFnClashOk
