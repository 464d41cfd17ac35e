-- Printed for this claim by a turned copy of the print (wip/myprint). Lean checks it. Squeezed. Worded. Tightened.
import Derived.Test.YtlpjkeejflogjaaQFnExactAfterDeathsx0
namespace Go.Proofs.Ytlpjkeejflogjaa.QFnExactAfterDeaths
open Go.RowKit Go.Proofs.YtlpjkeejflogjaaW.PrintWords Go.Proofs.YtlpjkeejflogjaaW.PrintLast Go.Proofs.YtlpjkeejflogjaaW.PrintMore
attribute [local go_sem] max2_int min2_int max_two min_two max_three min_three max_four min_four Opens.cell_twice   -- for this text's walks alone
set_option linter.unusedVariables false
set_option linter.unusedSimpArgs false

/-! ### impl_copyCourt: function 63 -/
def impl_copyCourt.l0 : Nat → List (List Int) → Int → Int → Int → List (List Int) → List Int → Int → Option (Int × (List (List Int)) × List Int × Int)
 | 0, _, _, _, _, _, _, _ => none
 | k + 1, x16, x17, x18, x161000, x161001, x161002, x161003 => if x18 < x17 then (if 0 ≤ x18 then (if x18 < (x16.length : Int) then ((some (([] : List Int) : List Int)).bind fun y162 => (if y162.length + (rd_L1 x16 x18).length < 17592186044416 then (if x161001.length < 5864062014805 then (impl_copyCourt.l0 k x16 x17 (wrap64 (x18 + 1)) x161000 (x161001 ++ [(y162 ++ (rd_L1 x16 x18))]) x161002 x161003) else (none)) else (none))) else (none)) else (none)) else (some (x161000, x161001, x161002, x161003))
def impl_copyCourt.f (k : Nat) (a0_0 : Int) (l0_1 : List (List Int)) (l0_2 : List Int) (a0_3 : Int) : Option (Int × (List (List Int)) × List Int × Int) := (some (([] : List Int) : List Int)).bind fun y154 => (if y154.length + l0_2.length < 17592186044416 then (impl_copyCourt.l0 k l0_1 (l0_1.length : Int) 0 a0_0 ([] : List (List Int)) (y154 ++ l0_2) a0_3) else (none))
theorem impl_copyCourt.mono_l : ∀ k, (∀ y0 y1 y2 y3 y4 y5 y6, LeO (impl_copyCourt.l0 k y0 y1 y2 y3 y4 y5 y6) (impl_copyCourt.l0 (k + 1) y0 y1 y2 y3 y4 y5 y6))
 | 0 => fun _ _ _ _ _ _ _ r h => by simp [impl_copyCourt.l0] at h
 | k + 1 => by
  have ih0 := impl_copyCourt.mono_l k
  ·intro y0 y1 y2 y3 y4 y5 y6
   unfold impl_copyCourt.l0
   repeat' first
   | (with_reducible exact ih0 _ _ _ _ _ _ _)
   | (with_reducible exact LeO.refl _)
   | (with_reducible exact LeO.none _)
   | (with_reducible refine LeO.ite ?_ ?_)
   | (with_reducible refine LeO.bind ?_ (fun _ => ?_))
   | exact ih0 _ _ _ _ _ _ _
   | exact LeO.none _
   | refine LeO.ite ?_ ?_
   | refine LeO.bind ?_ (fun _ => ?_)
theorem impl_copyCourt.mono : ∀ a0 a1 a2 a3 k, LeO (impl_copyCourt.f k a0 a1 a2 a3) (impl_copyCourt.f (k + 1) a0 a1 a2 a3) := by
 intro a0 a1 a2 a3 k
 have ih0 := impl_copyCourt.mono_l k
 unfold impl_copyCourt.f
 repeat' first
   | (with_reducible exact ih0 _ _ _ _ _ _ _)
   | (with_reducible exact LeO.refl _)
   | (with_reducible exact LeO.none _)
   | (with_reducible refine LeO.ite ?_ ?_)
   | (with_reducible refine LeO.bind ?_ (fun _ => ?_))
   | exact ih0 _ _ _ _ _ _ _
   | exact LeO.none _
   | refine LeO.ite ?_ ?_
   | refine LeO.bind ?_ (fun _ => ?_)
def impl_copyCourt.T1 : Bool × List (List Nat × List Nat) := (true, [([], []), ([0], [0]), ([], []), ([], []), ([3], [3]), ([2, 4], [2, 4]), ([], []), ([6], [6]), ([1, 5, 7], [1, 5, 7]), ([], []), ([9, 8, 5, 0, 1, 2, 3, 4, 5, 6, 7, 8, 9], [8, 9])])
def impl_copyCourt.B1 : List Nat := [0, 1, 0, 0, 8, 28, 0, 64, 255, 0, 1023]
theorem impl_copyCourt.tab1 : rtab .any (opsOf Try.f63 1) = impl_copyCourt.T1 := by kernel_rfl
theorem impl_copyCourt.bits1 : waitsOk impl_copyCourt.T1.2 impl_copyCourt.B1 = true := by kernel_rfl
def impl_copyCourt.T5 : Bool × List (List Nat × List Nat) := (true, [([], []), ([0], [0]), ([], []), ([], []), ([2, 3], [2, 3]), ([4], [4]), ([1, 5, 4], [1, 5]), ([0, 1, 2, 3, 4, 5, 6], []), ([7, 6, 6, 0, 1, 2, 3, 4, 5, 6], [6, 7])])
def impl_copyCourt.B5 : List Nat := [0, 1, 0, 0, 12, 28, 63, 127, 255]
theorem impl_copyCourt.tab5 : rtab .any (opsOf Try.f63 5) = impl_copyCourt.T5 := by kernel_rfl
theorem impl_copyCourt.bits5 : waitsOk impl_copyCourt.T5.2 impl_copyCourt.B5 = true := by kernel_rfl
set_option maxHeartbeats 8000000 in
set_option maxRecDepth 100000 in
theorem impl_copyCourt.calls (k : Nat) (a0_0 : Int) (A0_1 : Option Addr) (c0_1 : Nat) (l0_1 : List (List Int)) (A0_2 : Option Addr) (c0_2 : Nat) (l0_2 : List Int) (a0_3 : Int) (r1 : Int) (r2 : List (List Int)) (r3 : List Int) (r4 : Int) (w : World) (hr0_1 : Kd.C (Kd.slice 3 (Kd.int .i64)) w A0_1 l0_1.length l0_1) (hc0_1 : l0_1.length ≤ c0_1) (hr0_2 : Kd.C (Kd.int .i64) w A0_2 l0_2.length l0_2) (hc0_2 : l0_2.length ≤ c0_2) (h : impl_copyCourt.f k a0_0 l0_1 l0_2 a0_3 = some (r1, r2, r3, r4)) :
  Calls Try.prog 63 #[.agg #[.int .i64 a0_0, .slice A0_1 l0_1.length c0_1, .slice A0_2 l0_2.length c0_2, .int .i64 a0_3]] w fun e w' => ∃ v1_ v2_ : Value, e = .returned (.agg #[.int .i64 r1, v1_, v2_, .int .i64 r4]) ∧ Kd.S (Kd.slice 3 (Kd.int .i64)) 23 w' w.heap.size (fun k_ => some k_ ≠ (v2_ : Value).ownBlock) v1_ r2 ∧ Kd.R (Kd.int .i64) 3 w' w.heap.size (fun _ => True) v2_ r3 ∧ Below w.heap.size w w' := by
 have hu28 := Try.underlying28
 have HR0_1 := Aside0.mk hr0_1
 have HC0_1 := Aside0.mk hc0_1
 clear hr0_1 hc0_1
 have HR0_2 := Aside0.mk hr0_2
 have HC0_2 := Aside0.mk hc0_2
 clear hr0_2 hc0_2
 have HB := Aside0.mk (Below.refl w.heap.size w)
 have H : ((some (([] : List Int) : List Int)).bind fun y154 => (if y154.length + l0_2.length < 17592186044416 then (impl_copyCourt.l0 k l0_1 (l0_1.length : Int) 0 a0_0 ([] : List (List Int)) (y154 ++ l0_2) a0_3) else (none))) = some (r1, r2, r3, r4) := h
 clear h
 obtain ⟨y154, hy154⟩ : ∃ y_ : List Int, y_ = (([] : List Int)) := ⟨_, rfl⟩
 replace H : (if y154.length + l0_2.length < 17592186044416 then (impl_copyCourt.l0 k l0_1 (l0_1.length : Int) 0 a0_0 ([] : List (List Int)) (y154 ++ l0_2) a0_3) else (none)) = some (r1, r2, r3, r4) := by first | (rw [hy154]; with_reducible exact H) | (have H2_ := (Option.bind_some _ _).symm.trans H; rw [hy154]; with_reducible exact H2_) | (have H2_ := (Option.bind_some _ _).symm.trans H; with_reducible exact H2_) | with_reducible exact H | (rw [hy154]; exact H) | exact H
 have Ny154 := Aside0.mk hy154
 clear hy154
 by_cases c2 : y154.length + l0_2.length < 17592186044416
 ·rw [if_pos c2] at H
  have LMc2 := Aside0.mk c2
  clear c2
  obtain ⟨y157, hy157⟩ : ∃ y_ : List Int, y_ = (y154 ++ l0_2) := ⟨_, rfl⟩
  replace H : (impl_copyCourt.l0 k l0_1 (l0_1.length : Int) 0 a0_0 ([] : List (List Int)) y157 a0_3) = some (r1, r2, r3, r4) := by first | (rw [hy157]; with_reducible exact H) | (have H2_ := (Option.bind_some _ _).symm.trans H; rw [hy157]; with_reducible exact H2_) | (have H2_ := (Option.bind_some _ _).symm.trans H; with_reducible exact H2_) | with_reducible exact H | (rw [hy157]; exact H) | exact H
  have Ny157 := Aside0.mk hy157
  clear hy157
  have H' := Aside0.mk H
  clear H
  go_enter Try.func63, Try.ntmps63
  try go_wp2_with (first | ((with_reducible refine gate_dst (N := 1) rfl ?_); refine box_event ?hg (N := 1) ?hd (cs := #[.int .i64 a0_0, .slice A0_1 l0_1.length c0_1, .slice A0_2 l0_2.length c0_2, .int .i64 a0_3]) (t := 28) ?hr ?_; (case hd => rfl); (case hg => rfl); (case hr => first | (go_simp; done) | (go_simp; rfl)); intro gb152 hg w3 hbox hb; have n0_ := Aside0.mk (below_step bh hb); have n1_ := Aside0.mk (hbox); have n2_ := Aside0.mk ((gs (W0 := w) hg bh)); have n3_ := Aside0.mk ((gs (W0 := w) hg bh)); clear HB; have HB := n0_; have BK152 := n1_; have GW152 := n2_; have GE152 := n3_; clear n0_ n1_ n2_ n3_ hb hbox hg) | ((with_reducible refine gate_dst (N := 2) rfl ?_); refine box_event ?hg (N := 2) ?hd (cs := #[.int .i64 0, .slice none 0 0, .slice none 0 0, .int .i64 0]) (t := 28) ?hr ?_; (case hd => rfl); (case hg => rfl); (case hr => first | (go_simp; done) | (go_simp; rfl)); intro gb153 hg w4 hbox hb; have n0_ := Aside0.mk (blk_below (bz BK152) hb); have n1_ := Aside0.mk (below_step bh hb); have n2_ := Aside0.mk (hbox); have n3_ := Aside0.mk ((gs (W0 := w) hg bh)); have n4_ := Aside0.mk ((gs (W0 := w) hg bh)); have n5_ := Aside0.mk ((gn hg (bz BK152))); have n6_ := Aside0.mk ((gm hg (bz BK152))); clear BK152 HB; have BK152 := n0_; have HB := n1_; have BK153 := n2_; have GW153 := n3_; have GE153 := n4_; have NB152_153 := n5_; have NB153_152 := n6_; clear n0_ n1_ n2_ n3_ n4_ n5_ n6_ hb hbox hg))
  have n0_ := Aside0.mk (blk_drew BK152.out)
  have n1_ := Aside0.mk (blk_drew BK153.out)
  have n2_ := Aside0.mk (below_drew1 HB.out)
  clear BK152 BK153 HB
  have BK152 := n0_
  have BK153 := n1_
  have HB := n2_
  clear n0_ n1_ n2_
  refine start_ (n := 11) (S := fun w' => w'.cell? ⟨gb152, 0, none⟩ = some (.int .i64 a0_0) ∧ w'.cell? ⟨gb152, 1, none⟩ = some (.slice A0_1 l0_1.length c0_1) ∧ w'.cell? ⟨gb152, 2, none⟩ = some (.slice A0_2 l0_2.length c0_2) ∧ w'.cell? ⟨gb152, 3, none⟩ = some (.int .i64 a0_3)) (ds := []) #[F,F,F,F,F,F,F,F,F,F,F] kr rfl rfl ⟨cz0 BK152, cz1 BK152, cz2 BK152, cz3 BK152⟩ (fun hHeld => ?_); refine with_tabW impl_copyCourt.tab1 impl_copyCourt.bits1 (fun HT_ HW_ => ?_)
  generalize w4.drew = w5 at BK152 BK153 HB hHeld ⊢
  refine pu 0 (some 6) #[T,F,F,F,F,F,F,F,F,F,F] (any_of HT_.out kr) ?_
  refine pu 3 (some 9) #[T,F,F,T,F,F,F,F,F,F,F] (any_of HT_.out kr) ?_
  refine pu 6 (some 12) #[T,F,F,T,F,F,T,F,F,F,F] (any_of HT_.out kr) ?_
  refine tk4 1 (some 7) #[T,T,F,T,F,F,T,F,F,F,F] (take_ofW HT_.out HW_.out kr) ?_
  refine tk4 4 (some 10) #[T,T,F,T,T,F,T,F,F,F,F] (take_ofW HT_.out HW_.out kr) ?_
  refine tk4 7 (some 13) #[T,T,F,T,T,F,T,T,F,F,F] (take_ofW HT_.out HW_.out kr) ?_
  refine join_ (σ := Value × Value × Nat) 1 #[T,T,T,T,T,T,T,T,T,T,F] (fun s_ => [(8, s_.1), (11, s_.2.1), (3, .pointer (some ⟨s_.2.2, 0, none⟩)), (14, .agg #[.int .i64 a0_0, .slice none 0 0, s_.2.1, .int .i64 a0_3])]) (fun s_ w' => (w'.cell? ⟨gb152, 0, none⟩ = some (.int .i64 a0_0) ∧ w'.cell? ⟨gb152, 1, none⟩ = some (.slice A0_1 l0_1.length c0_1) ∧ w'.cell? ⟨gb152, 2, none⟩ = some (.slice A0_2 l0_2.length c0_2) ∧ w'.cell? ⟨gb152, 3, none⟩ = some (.int .i64 a0_3)) ∧ (Kd.R (Kd.int .i64) 3 w' w.heap.size (fun _ => True) s_.2.1 y157) ∧ (w'.heap[gb152]? = some (.cells #[.int .i64 a0_0, .slice A0_1 l0_1.length c0_1, .slice A0_2 l0_2.length c0_2, .int .i64 a0_3] 28 (0, 0))) ∧ (w'.heap[gb153]? = some (.cells #[.int .i64 0, .slice none 0 0, .slice none 0 0, .int .i64 0] 28 (0, 0))) ∧ (w'.heap[s_.2.2]? = some (.cells #[.int .i64 0, .slice none 0 0, .slice none 0 0, .int .i64 0] 28 (0, 0))) ∧ (w.heap.size ≤ s_.2.2) ∧ (w.heap.size ≤ s_.2.2) ∧ (gb152 ≠ s_.2.2) ∧ (s_.2.2 ≠ gb152) ∧ (gb153 ≠ s_.2.2) ∧ (s_.2.2 ≠ gb153) ∧ (Below w.heap.size w w')) ?_ ?_
  rotate_left
  ·intro hCont
   refine two_ (i := 2) (j := 9) (Ni := some 8) (Nj := some 3) #[T,T,T,T,T,F,T,T,F,F,F] #[T,T,F,T,T,F,T,T,F,T,F] rfl rfl rfl rfl (two_of HT_.out kr) (by decide) (by decide) (fun K hK => ?_) (fun K hK => ?_)
   ·skip
    refine Kd.R_lit_step (Kd.int .i64) _ 3 ?hg (N := 8) ?hd (xs := ([] : List Int)) (inner := []) (ok := fun _ => True) (okp := fun _ => True) ?hr ?hp (fun _ hk => hk) trivial (Below.refl _ _) (Nat.le_refl _) (by simp) ?_; (case hd => rfl); (case hg => rfl); (case hr => first | (go_simp; done) | (go_simp; rfl)); (case hp => exact (Reps.none _ _))
    intro v155 w6 ho7 hb hg_ hnew_
    clear hg_ hnew_
    (first | rw [← Ny154.out] at ho7 | (simp only [Int.reduceToNat] at ho7; rw [← Ny154.out] at ho7))
    have n0_ := Aside0.mk (Kd.R_lower ho7 (below_size bh))
    have n1_ := Aside0.mk (blk_below (bz BK152) hb)
    have n2_ := Aside0.mk (blk_below (bz BK153) hb)
    have n3_ := Aside0.mk (below_step bh hb)
    clear BK152 BK153 HB
    have HO156 := n0_
    have BK152 := n1_
    have BK153 := n2_
    have HB := n3_
    clear n0_ n1_ n2_ n3_ hb ho7
    refine hK.out _ _ ⟨cz0 BK152, cz1 BK152, cz2 BK152, cz3 BK152⟩ (fun hHeld => ?_)
    clear hK K
    refine norm_ (a' := ?_) ?_ ?_
    rotate_left
    ·show Act.put _ (some 8) _ = _
     simp only [Act.put, List.setIfInBounds_toArray, List.set_cons_zero, List.set_cons_succ, i64_w, i32_w]
     rfl
    refine two_ (i := 5) (j := 9) (Ni := some 11) (Nj := some 3) #[T,T,T,T,T,T,T,T,F,F,F] #[T,T,T,T,T,F,T,T,F,T,F] rfl rfl rfl rfl (two_of HT_.out kr) (by decide) (by decide) (fun K hK => ?_) (fun K hK => ?_)
    ·skip
     refine Kd.R_append_rows_step (Kd.int .i64) (w0 := w) w.heap.size (by rfl) (.tmp 8) (.tmp 10) 23 3 (.int .i64 0) 8 rfl Try.underlying23 info3 rfl (by decide) (by omega) v155 y154 l0_2 _ _ _ (fun _ => True) (fun _ => False) rfl rfl ?aO ?aR (fun _ _ h => h) (fun _ h => h.elim) ?aF ?aB ?aS ?aL ?_
     (case aR => repeat (first | exact (Kd.C_below HR0_2.out HB.out) | (with_reducible refine Kd.C_alloc ?_ _) | (with_reducible refine Kd.C_drewN ?_ _) | (with_reducible refine Kd.C_drew ?_)))
     (case aB => exact bh)
     (case aF => exact (fun _ _ => trivial))
     (case aO => exact (rz HO156))
     (case aS => exact (below_size bh))
     (case aL => have := LMc2.out; omega)
     intro v158 w8 ho hb hg hat
     rw [← Ny157.out] at ho
     have n0_ := Aside0.mk (blk_grown (bz BK152) hg (Kd.R_ne HO156.out BK152.out (by decide)))
     have n1_ := Aside0.mk (blk_grown (bz BK153) hg (Kd.R_ne HO156.out BK153.out (by decide)))
     have n2_ := Aside0.mk (hb)
     have n3_ := Aside0.mk (ho)
     clear BK152 BK153 HB HO156
     have BK152 := n0_
     have BK153 := n1_
     have HB := n2_
     have HO159 := n3_
     clear n0_ n1_ n2_ n3_ ho hb hg hat
     obtain ⟨Ao9, co9, eo9⟩ := Kd.R_slice HO159.out
     (first | subst eo9 | (injection eo9 with f1_ f2_ f3_; have f4_ := f1_.symm; have f5_ := f3_.symm; clear f1_ f2_ f3_; subst f4_; subst f5_))
     refine hK.out _ _ ⟨cz0 BK152, cz1 BK152, cz2 BK152, cz3 BK152⟩ (fun hHeld => ?_)
     clear hK K
     refine norm_ (a' := ?_) ?_ ?_
     rotate_left
     ·show Act.put _ (some 11) _ = _
      simp only [Act.put, List.setIfInBounds_toArray, List.set_cons_zero, List.set_cons_succ, i64_w, i32_w]
      rfl
     refine pu 8 (some 14) #[T,T,T,T,T,T,T,T,T,F,F] (any_of HT_.out kr) ?_
     refine one_ (i := 9) (N := some 3) #[T,T,T,T,T,T,T,T,T,T,F] rfl rfl (one_of HT_.out kr) (by decide) (fun K hK => ?_)
     refine box_step ?hg (N := 3) ?hd (cs := #[.int .i64 0, .slice none 0 0, .slice none 0 0, .int .i64 0]) (t := 28) ?hr ?_; (case hd => rfl); (case hg => rfl); (case hr => first | (go_simp; done) | (go_simp; rfl))
     intro gb160 hg w10 hbox hb
     have n0_ := Aside0.mk (Kd.R_below (rz HO159) hb)
     have n1_ := Aside0.mk (blk_below (bz BK152) hb)
     have n2_ := Aside0.mk (blk_below (bz BK153) hb)
     have n3_ := Aside0.mk (below_step bh hb)
     have n4_ := Aside0.mk (hbox)
     have n5_ := Aside0.mk ((gs (W0 := w) hg bh))
     have n6_ := Aside0.mk ((gs (W0 := w) hg bh))
     have n7_ := Aside0.mk ((gn hg (bz BK152)))
     have n8_ := Aside0.mk ((gm hg (bz BK152)))
     have n9_ := Aside0.mk ((gn hg (bz BK153)))
     have n10_ := Aside0.mk ((gm hg (bz BK153)))
     clear HO159 BK152 BK153 HB
     have HO159 := n0_
     have BK152 := n1_
     have BK153 := n2_
     have HB := n3_
     have BK160 := n4_
     have GW160 := n5_
     have GE160 := n6_
     have NB152_160 := n7_
     have NB160_152 := n8_
     have NB153_160 := n9_
     have NB160_153 := n10_
     clear n0_ n1_ n2_ n3_ n4_ n5_ n6_ n7_ n8_ n9_ n10_ hb hbox hg
     refine hK.out _ _ ⟨cz0 BK152, cz1 BK152, cz2 BK152, cz3 BK152⟩ (fun hHeld => ?_)
     clear hK K
     refine norm_ (a' := ?_) ?_ ?_
     rotate_left
     ·show Act.put _ (some 3) _ = _
      simp only [Act.put, List.setIfInBounds_toArray, List.set_cons_zero, List.set_cons_succ, i64_w, i32_w]
      rfl
     exact norm_ (by simp only [putAll, Act.put, List.setIfInBounds_toArray, List.set_cons_zero, List.set_cons_succ]) (hCont (v155, .slice Ao9 y157.length co9, gb160) _ ⟨hHeld, (rz HO159), (bz BK152), (bz BK153), (bz BK160), GW160.out, GE160.out, NB152_160.out, NB160_152.out, NB153_160.out, NB160_153.out, bh⟩)
    ·skip
     refine box_step ?hg (N := 3) ?hd (cs := #[.int .i64 0, .slice none 0 0, .slice none 0 0, .int .i64 0]) (t := 28) ?hr ?_; (case hd => rfl); (case hg => rfl); (case hr => first | (go_simp; done) | (go_simp; rfl))
     intro gb160 hg w8 hbox hb
     have n0_ := Aside0.mk (Kd.R_below (rz HO156) hb)
     have n1_ := Aside0.mk (blk_below (bz BK152) hb)
     have n2_ := Aside0.mk (blk_below (bz BK153) hb)
     have n3_ := Aside0.mk (below_step bh hb)
     have n4_ := Aside0.mk (hbox)
     have n5_ := Aside0.mk ((gs (W0 := w) hg bh))
     have n6_ := Aside0.mk ((gs (W0 := w) hg bh))
     have n7_ := Aside0.mk ((gn hg (bz BK152)))
     have n8_ := Aside0.mk ((gm hg (bz BK152)))
     have n9_ := Aside0.mk ((gn hg (bz BK153)))
     have n10_ := Aside0.mk ((gm hg (bz BK153)))
     clear HO156 BK152 BK153 HB
     have HO156 := n0_
     have BK152 := n1_
     have BK153 := n2_
     have HB := n3_
     have BK160 := n4_
     have GW160 := n5_
     have GE160 := n6_
     have NB152_160 := n7_
     have NB160_152 := n8_
     have NB153_160 := n9_
     have NB160_153 := n10_
     clear n0_ n1_ n2_ n3_ n4_ n5_ n6_ n7_ n8_ n9_ n10_ hb hbox hg
     refine hK.out _ _ ⟨cz0 BK152, cz1 BK152, cz2 BK152, cz3 BK152⟩ (fun hHeld => ?_)
     clear hK K
     refine norm_ (a' := ?_) ?_ ?_
     rotate_left
     ·show Act.put _ (some 3) _ = _
      simp only [Act.put, List.setIfInBounds_toArray, List.set_cons_zero, List.set_cons_succ, i64_w, i32_w]
      rfl
     refine one_ (i := 5) (N := some 11) #[T,T,T,T,T,T,T,T,F,T,F] rfl rfl (one_of HT_.out kr) (by decide) (fun K hK => ?_)
     refine Kd.R_append_rows_step (Kd.int .i64) (w0 := w) w.heap.size (by rfl) (.tmp 8) (.tmp 10) 23 3 (.int .i64 0) 8 rfl Try.underlying23 info3 rfl (by decide) (by omega) v155 y154 l0_2 _ _ _ (fun _ => True) (fun _ => False) rfl rfl ?aO ?aR (fun _ _ h => h) (fun _ h => h.elim) ?aF ?aB ?aS ?aL ?_
     (case aR => repeat (first | exact (Kd.C_below HR0_2.out HB.out) | (with_reducible refine Kd.C_alloc ?_ _) | (with_reducible refine Kd.C_drewN ?_ _) | (with_reducible refine Kd.C_drew ?_)))
     (case aB => exact bh)
     (case aF => exact (fun _ _ => trivial))
     (case aO => exact (rz HO156))
     (case aS => exact (below_size bh))
     (case aL => have := LMc2.out; omega)
     intro v158 w9 ho hb hg hat
     rw [← Ny157.out] at ho
     have n0_ := Aside0.mk (blk_grown (bz BK152) hg (Kd.R_ne HO156.out BK152.out (by decide)))
     have n1_ := Aside0.mk (blk_grown (bz BK153) hg (Kd.R_ne HO156.out BK153.out (by decide)))
     have n2_ := Aside0.mk (blk_grown (bz BK160) hg (Kd.R_ne HO156.out BK160.out (by decide)))
     have n3_ := Aside0.mk (hb)
     have n4_ := Aside0.mk (ho)
     clear BK152 BK153 BK160 HB HO156
     have BK152 := n0_
     have BK153 := n1_
     have BK160 := n2_
     have HB := n3_
     have HO159 := n4_
     clear n0_ n1_ n2_ n3_ n4_ ho hb hg hat
     obtain ⟨Ao10, co10, eo10⟩ := Kd.R_slice HO159.out
     (first | subst eo10 | (injection eo10 with f1_ f2_ f3_; have f4_ := f1_.symm; have f5_ := f3_.symm; clear f1_ f2_ f3_; subst f4_; subst f5_))
     refine hK.out _ _ ⟨cz0 BK152, cz1 BK152, cz2 BK152, cz3 BK152⟩ (fun hHeld => ?_)
     clear hK K
     refine norm_ (a' := ?_) ?_ ?_
     rotate_left
     ·show Act.put _ (some 11) _ = _
      simp only [Act.put, List.setIfInBounds_toArray, List.set_cons_zero, List.set_cons_succ, i64_w, i32_w]
      rfl
     refine pu 8 (some 14) #[T,T,T,T,T,T,T,T,T,T,F] (any_of HT_.out kr) ?_
     exact norm_ (by simp only [putAll, Act.put, List.setIfInBounds_toArray, List.set_cons_zero, List.set_cons_succ]) (hCont (v155, .slice Ao10 y157.length co10, gb160) _ ⟨hHeld, (rz HO159), (bz BK152), (bz BK153), (bz BK160), GW160.out, GE160.out, NB152_160.out, NB160_152.out, NB153_160.out, NB160_153.out, bh⟩)
   ·skip
    refine box_step ?hg (N := 3) ?hd (cs := #[.int .i64 0, .slice none 0 0, .slice none 0 0, .int .i64 0]) (t := 28) ?hr ?_; (case hd => rfl); (case hg => rfl); (case hr => first | (go_simp; done) | (go_simp; rfl))
    intro gb160 hg w6 hbox hb
    have n0_ := Aside0.mk (blk_below (bz BK152) hb)
    have n1_ := Aside0.mk (blk_below (bz BK153) hb)
    have n2_ := Aside0.mk (below_step bh hb)
    have n3_ := Aside0.mk (hbox)
    have n4_ := Aside0.mk ((gs (W0 := w) hg bh))
    have n5_ := Aside0.mk ((gs (W0 := w) hg bh))
    have n6_ := Aside0.mk ((gn hg (bz BK152)))
    have n7_ := Aside0.mk ((gm hg (bz BK152)))
    have n8_ := Aside0.mk ((gn hg (bz BK153)))
    have n9_ := Aside0.mk ((gm hg (bz BK153)))
    clear BK152 BK153 HB
    have BK152 := n0_
    have BK153 := n1_
    have HB := n2_
    have BK160 := n3_
    have GW160 := n4_
    have GE160 := n5_
    have NB152_160 := n6_
    have NB160_152 := n7_
    have NB153_160 := n8_
    have NB160_153 := n9_
    clear n0_ n1_ n2_ n3_ n4_ n5_ n6_ n7_ n8_ n9_ hb hbox hg
    refine hK.out _ _ ⟨cz0 BK152, cz1 BK152, cz2 BK152, cz3 BK152⟩ (fun hHeld => ?_)
    clear hK K
    refine norm_ (a' := ?_) ?_ ?_
    rotate_left
    ·show Act.put _ (some 3) _ = _
     simp only [Act.put, List.setIfInBounds_toArray, List.set_cons_zero, List.set_cons_succ, i64_w, i32_w]
     rfl
    refine one_ (i := 2) (N := some 8) #[T,T,T,T,T,F,T,T,F,T,F] rfl rfl (one_of HT_.out kr) (by decide) (fun K hK => ?_)
    refine Kd.R_lit_step (Kd.int .i64) _ 3 ?hg (N := 8) ?hd (xs := ([] : List Int)) (inner := []) (ok := fun _ => True) (okp := fun _ => True) ?hr ?hp (fun _ hk => hk) trivial (Below.refl _ _) (Nat.le_refl _) (by simp) ?_; (case hd => rfl); (case hg => rfl); (case hr => first | (go_simp; done) | (go_simp; rfl)); (case hp => exact (Reps.none _ _))
    intro v155 w7 ho8 hb hg_ hnew_
    clear hg_ hnew_
    (first | rw [← Ny154.out] at ho8 | (simp only [Int.reduceToNat] at ho8; rw [← Ny154.out] at ho8))
    have n0_ := Aside0.mk (Kd.R_lower ho8 (below_size bh))
    have n1_ := Aside0.mk (blk_below (bz BK152) hb)
    have n2_ := Aside0.mk (blk_below (bz BK153) hb)
    have n3_ := Aside0.mk (blk_below (bz BK160) hb)
    have n4_ := Aside0.mk (below_step bh hb)
    clear BK152 BK153 BK160 HB
    have HO156 := n0_
    have BK152 := n1_
    have BK153 := n2_
    have BK160 := n3_
    have HB := n4_
    clear n0_ n1_ n2_ n3_ n4_ hb ho8
    refine hK.out _ _ ⟨cz0 BK152, cz1 BK152, cz2 BK152, cz3 BK152⟩ (fun hHeld => ?_)
    clear hK K
    refine norm_ (a' := ?_) ?_ ?_
    rotate_left
    ·show Act.put _ (some 8) _ = _
     simp only [Act.put, List.setIfInBounds_toArray, List.set_cons_zero, List.set_cons_succ, i64_w, i32_w]
     rfl
    refine one_ (i := 5) (N := some 11) #[T,T,T,T,T,T,T,T,F,T,F] rfl rfl (one_of HT_.out kr) (by decide) (fun K hK => ?_)
    refine Kd.R_append_rows_step (Kd.int .i64) (w0 := w) w.heap.size (by rfl) (.tmp 8) (.tmp 10) 23 3 (.int .i64 0) 8 rfl Try.underlying23 info3 rfl (by decide) (by omega) v155 y154 l0_2 _ _ _ (fun _ => True) (fun _ => False) rfl rfl ?aO ?aR (fun _ _ h => h) (fun _ h => h.elim) ?aF ?aB ?aS ?aL ?_
    (case aR => repeat (first | exact (Kd.C_below HR0_2.out HB.out) | (with_reducible refine Kd.C_alloc ?_ _) | (with_reducible refine Kd.C_drewN ?_ _) | (with_reducible refine Kd.C_drew ?_)))
    (case aB => exact bh)
    (case aF => exact (fun _ _ => trivial))
    (case aO => exact (rz HO156))
    (case aS => exact (below_size bh))
    (case aL => have := LMc2.out; omega)
    intro v158 w9 ho hb hg hat
    rw [← Ny157.out] at ho
    have n0_ := Aside0.mk (blk_grown (bz BK152) hg (Kd.R_ne HO156.out BK152.out (by decide)))
    have n1_ := Aside0.mk (blk_grown (bz BK153) hg (Kd.R_ne HO156.out BK153.out (by decide)))
    have n2_ := Aside0.mk (blk_grown (bz BK160) hg (Kd.R_ne HO156.out BK160.out (by decide)))
    have n3_ := Aside0.mk (hb)
    have n4_ := Aside0.mk (ho)
    clear BK152 BK153 BK160 HB HO156
    have BK152 := n0_
    have BK153 := n1_
    have BK160 := n2_
    have HB := n3_
    have HO159 := n4_
    clear n0_ n1_ n2_ n3_ n4_ ho hb hg hat
    obtain ⟨Ao10, co10, eo10⟩ := Kd.R_slice HO159.out
    (first | subst eo10 | (injection eo10 with f1_ f2_ f3_; have f4_ := f1_.symm; have f5_ := f3_.symm; clear f1_ f2_ f3_; subst f4_; subst f5_))
    refine hK.out _ _ ⟨cz0 BK152, cz1 BK152, cz2 BK152, cz3 BK152⟩ (fun hHeld => ?_)
    clear hK K
    refine norm_ (a' := ?_) ?_ ?_
    rotate_left
    ·show Act.put _ (some 11) _ = _
     simp only [Act.put, List.setIfInBounds_toArray, List.set_cons_zero, List.set_cons_succ, i64_w, i32_w]
     rfl
    refine pu 8 (some 14) #[T,T,T,T,T,T,T,T,T,T,F] (any_of HT_.out kr) ?_
    exact norm_ (by simp only [putAll, Act.put, List.setIfInBounds_toArray, List.set_cons_zero, List.set_cons_succ]) (hCont (v155, .slice Ao10 y157.length co10, gb160) _ ⟨hHeld, (rz HO159), (bz BK152), (bz BK153), (bz BK160), GW160.out, GE160.out, NB152_160.out, NB160_152.out, NB153_160.out, NB160_153.out, bh⟩)
  rintro ⟨v155, v158, gb160⟩ w11 ⟨hS_, h0_, h1_, h2_, h3_, h4_, h5_, h6_, h7_, h8_, h9_, h10_⟩
  clear BK152 BK153 HB
  have HO159 := Aside0.mk h0_
  have BK152 := Aside0.mk h1_
  have BK153 := Aside0.mk h2_
  have BK160 := Aside0.mk h3_
  have GW160 := Aside0.mk h4_
  have GE160 := Aside0.mk h5_
  have NB152_160 := Aside0.mk h6_
  have NB160_152 := Aside0.mk h7_
  have NB153_160 := Aside0.mk h8_
  have NB160_153 := Aside0.mk h9_
  have HB := Aside0.mk h10_
  clear h0_ h1_ h2_ h3_ h4_ h5_ h6_ h7_ h8_ h9_ h10_
  have hHeld : w11.cell? ⟨gb152, 0, none⟩ = some (.int .i64 a0_0) ∧ w11.cell? ⟨gb152, 1, none⟩ = some (.slice A0_1 l0_1.length c0_1) ∧ w11.cell? ⟨gb152, 2, none⟩ = some (.slice A0_2 l0_2.length c0_2) ∧ w11.cell? ⟨gb152, 3, none⟩ = some (.int .i64 a0_3) := hS_
  obtain ⟨Ao12, co12, eo12⟩ := Kd.R_slice HO159.out
  (first | subst eo12 | (injection eo12 with f1_ f2_ f3_; have f4_ := f1_.symm; have f5_ := f3_.symm; clear f1_ f2_ f3_; subst f4_; subst f5_))
  refine norm_ (a' := ?_) ?_ ?_
  rotate_left
  ·simp only [putAll, Act.put, List.setIfInBounds_toArray, List.set_cons_zero, List.set_cons_succ]
   rfl
  refine one_ (i := 10) (N := none) #[T,T,T,T,T,T,T,T,T,T,T] rfl rfl (one_of HT_.out kr) (by decide) (fun K hK => ?_)
  have hs13 := cz0 BK160
  have hfs13 := blk_frozen BK160.out 0
  have hns13_0 := NB152_160.out
  have hns13_1 := NB153_160.out
  have hms13_0 := NB160_152.out
  have hms13_1 := NB160_153.out
  have hs14 := cz1 BK160
  have hfs14 := blk_frozen BK160.out 1
  have hns14_0 := NB152_160.out
  have hns14_1 := NB153_160.out
  have hms14_0 := NB160_152.out
  have hms14_1 := NB160_153.out
  have hs15 := cz2 BK160
  have hfs15 := blk_frozen BK160.out 2
  have hns15_0 := NB152_160.out
  have hns15_1 := NB153_160.out
  have hms15_0 := NB160_152.out
  have hms15_1 := NB160_153.out
  have hs16 := cz3 BK160
  have hfs16 := blk_frozen BK160.out 3
  have hns16_0 := NB152_160.out
  have hns16_1 := NB153_160.out
  have hms16_0 := NB160_152.out
  have hms16_1 := NB160_153.out
  refine skip_ (w1 := ?_) (by rfl) rfl ?_ ?_
  rotate_left
  ·go_simp
   rfl
  refine hK.out _ _ ⟨((cell_far (p := ⟨gb160, _, none⟩) NB152_160.out _).trans (((cell_far (p := ⟨gb160, _, none⟩) NB152_160.out _).trans (((cell_far (p := ⟨gb160, _, none⟩) NB152_160.out _).trans (((cell_far (p := ⟨gb160, _, none⟩) NB152_160.out _).trans (hHeld.1)))))))), ((cell_far (p := ⟨gb160, _, none⟩) NB152_160.out _).trans (((cell_far (p := ⟨gb160, _, none⟩) NB152_160.out _).trans (((cell_far (p := ⟨gb160, _, none⟩) NB152_160.out _).trans (((cell_far (p := ⟨gb160, _, none⟩) NB152_160.out _).trans (hHeld.2.1)))))))), ((cell_far (p := ⟨gb160, _, none⟩) NB152_160.out _).trans (((cell_far (p := ⟨gb160, _, none⟩) NB152_160.out _).trans (((cell_far (p := ⟨gb160, _, none⟩) NB152_160.out _).trans (((cell_far (p := ⟨gb160, _, none⟩) NB152_160.out _).trans (hHeld.2.2.1)))))))), ((cell_far (p := ⟨gb160, _, none⟩) NB152_160.out _).trans (((cell_far (p := ⟨gb160, _, none⟩) NB152_160.out _).trans (((cell_far (p := ⟨gb160, _, none⟩) NB152_160.out _).trans (((cell_far (p := ⟨gb160, _, none⟩) NB152_160.out _).trans (hHeld.2.2.2))))))))⟩ (fun hHeld => ?_)
  clear hK K
  refine done_ (done_of HT_.out kr) ?_
  have hnb17 := NB152_153.out
  have hnc17 := NB153_152.out
  have hnb18 := NB152_160.out
  have hnc18 := NB160_152.out
  have hcz19_0 := cz0 BK152
  have hcz19_1 := cz1 BK152
  have hcz19_2 := cz2 BK152
  have hcz19_3 := cz3 BK152
  have hfz19_0 := blk_frozen BK152.out 0
  have hfz19_1 := blk_frozen BK152.out 1
  have hfz19_2 := blk_frozen BK152.out 2
  have hfz19_3 := blk_frozen BK152.out 3
  try go_wp2
  go_loopg [18] k (fun kq v18 w' => ∃ (x18_1 : Int) (x161001_1 : List (List Int)) (u161001 : Value), v18 = .int .i64 x18_1 ∧ Aside0 (impl_copyCourt.l0 kq l0_1 (l0_1.length : Int) x18_1 a0_0 x161001_1 y157 a0_3 = some (r1, r2, r3, r4)) ∧ Aside0 (kq ≤ k) ∧ Aside0 (Kd.S (Kd.slice 3 (Kd.int .i64)) 23 w' w.heap.size (fun k_ => some k_ ≠ ((.slice Ao12 y157.length co12) : Value).ownBlock) u161001 x161001_1) ∧ Aside0 (Kd.R (Kd.int .i64) 3 w' w.heap.size (fun _ => True) (.slice Ao12 y157.length co12) y157) ∧ Aside0 (w'.heap[gb152]? = some (.cells #[.int .i64 a0_0, (.slice A0_1 l0_1.length c0_1), (.slice A0_2 l0_2.length c0_2), .int .i64 a0_3] 28 (0, 0))) ∧ Aside0 (w'.heap[gb153]? = some (.cells #[.int .i64 0, (.slice none 0 0), (.slice none 0 0), .int .i64 0] 28 (0, 0))) ∧ Aside0 (w'.heap[gb160]? = some (.cells #[.int .i64 a0_0, u161001, (.slice Ao12 y157.length co12), .int .i64 a0_3] 28 (0, 0))) ∧ Aside0 (Below w.heap.size w w'))
  case atStart => exact ⟨(0), (([] : List (List Int))), (.slice none 0 0), (by first | rfl | (simp; done) | (simp [*]; done)), H', ⟨Nat.le_refl _⟩, ⟨by first | exact Kd.S_nil _ _ _ _ _ | exact Kd.N_nil _ _ _ _ _ | exact Kd.V_nil _ _ _ _ _ | exact Kd.Q_nil _ _ _ _ _ | exact Kd.R_nil _ _ _ _ _⟩, ⟨gR HO159 BK160⟩, ⟨bf NB152_160 BK152⟩, ⟨bf NB153_160 BK153⟩, ⟨bp BK160⟩, ⟨by exact bh⟩⟩
  case round =>
   clear H'
   try clear c1
   try clear c2
   try clear p2
   try clear c6
   try clear c17
   try clear c18
   try clear hcz19_0
   try clear hcz19_1
   try clear hcz19_2
   try clear hcz19_3
   try clear hfz19_0
   try clear hfz19_1
   try clear hfz19_2
   try clear hfz19_3
   obtain ⟨x18_1, x161001_1, u161001, rfl, HA, HK1, HO_161001, HO_161002, BK152, BK153, BK160, HB⟩ := hrel
   cases gk with
   | zero => exact absurd HA.out (by simp [impl_copyCourt.l0])
   | succ k1 =>
    have H := HA.out
    clear HA
    simp only [impl_copyCourt.l0] at H
    by_cases c20 : x18_1 < (l0_1.length : Int)
    ·rw [if_pos c20] at H
     have c20b0 : decide (x18_1 < (l0_1.length : Int)) = true := decide_eq_true c20
     clear c20
     by_cases c21 : 0 ≤ x18_1
     ·rw [if_pos c21] at H
      have c21b0 : decide (0 ≤ x18_1) = true := decide_eq_true c21
      clear c21
      by_cases c22 : x18_1 < (l0_1.length : Int)
      ·rw [if_pos c22] at H
       have c22b0 : decide (x18_1 < (l0_1.length : Int)) = true := decide_eq_true c22
       clear c22
       obtain ⟨y162, hy162⟩ : ∃ y_ : List Int, y_ = (([] : List Int)) := ⟨_, rfl⟩
       replace H : (if y162.length + (rd_L1 l0_1 x18_1).length < 17592186044416 then (if x161001_1.length < 5864062014805 then (impl_copyCourt.l0 k1 l0_1 (l0_1.length : Int) (wrap64 (x18_1 + 1)) a0_0 (x161001_1 ++ [(y162 ++ (rd_L1 l0_1 x18_1))]) y157 a0_3) else (none)) else (none)) = some (r1, r2, r3, r4) := by first | (rw [hy162]; with_reducible exact H) | (have H2_ := (Option.bind_some _ _).symm.trans H; rw [hy162]; with_reducible exact H2_) | (have H2_ := (Option.bind_some _ _).symm.trans H; with_reducible exact H2_) | with_reducible exact H | (rw [hy162]; exact H) | exact H
       have Ny162 := Aside0.mk hy162
       clear hy162
       by_cases c23 : y162.length + (rd_L1 l0_1 x18_1).length < 17592186044416
       ·rw [if_pos c23] at H
        have LMc23 := Aside0.mk c23
        clear c23
        obtain ⟨y165, hy165⟩ : ∃ y_ : List Int, y_ = (y162 ++ (rd_L1 l0_1 x18_1)) := ⟨_, rfl⟩
        replace H : (if x161001_1.length < 5864062014805 then (impl_copyCourt.l0 k1 l0_1 (l0_1.length : Int) (wrap64 (x18_1 + 1)) a0_0 (x161001_1 ++ [y165]) y157 a0_3) else (none)) = some (r1, r2, r3, r4) := by first | (rw [hy165]; with_reducible exact H) | (have H2_ := (Option.bind_some _ _).symm.trans H; rw [hy165]; with_reducible exact H2_) | (have H2_ := (Option.bind_some _ _).symm.trans H; with_reducible exact H2_) | with_reducible exact H | (rw [hy165]; exact H) | exact H
        have Ny165 := Aside0.mk hy165
        clear hy165
        by_cases c24 : x161001_1.length < 5864062014805
        ·rw [if_pos c24] at H
         have LMc24 := Aside0.mk c24
         clear c24
         obtain ⟨y168, hy168⟩ : ∃ y_ : List (List Int), y_ = (x161001_1 ++ [y165]) := ⟨_, rfl⟩
         replace H : (impl_copyCourt.l0 k1 l0_1 (l0_1.length : Int) (wrap64 (x18_1 + 1)) a0_0 y168 y157 a0_3) = some (r1, r2, r3, r4) := by first | (rw [hy168]; with_reducible exact H) | (have H2_ := (Option.bind_some _ _).symm.trans H; rw [hy168]; with_reducible exact H2_) | (have H2_ := (Option.bind_some _ _).symm.trans H; with_reducible exact H2_) | with_reducible exact H | (rw [hy168]; exact H) | exact H
         have Ny168 := Aside0.mk hy168
         clear hy168
         have H' := Aside0.mk H
         clear H
         have p161 : 0 ≤ (x18_1 : Int) := oda
         have q161 : x18_1 < (l0_1.length : Int) := oda
         obtain ⟨ad161, A161_0, c161_0, e161, hx161_0, hl161_0, hi161_0⟩ := at_L1 HR0_1.out x18_1 p161 q161
         cases e161
         replace hx161_0 := (HB.out.cell (World.block_lt_of_cell? w _ hx161_0)).trans hx161_0
         have HR161_0 := Aside0.mk hi161_0
         have HC161_0 := Aside0.mk hl161_0
         clear hi161_0 hl161_0
         replace p161 := eq_true p161
         replace q161 := eq_true q161
         try go_wp2
         have n0_ := Aside0.mk (Kd.S_drew HO_161001.out)
         have n1_ := Aside0.mk (Kd.R_drew HO_161002.out)
         have n2_ := Aside0.mk (blk_drew BK152.out)
         have n3_ := Aside0.mk (blk_drew BK153.out)
         have n4_ := Aside0.mk (blk_drew BK160.out)
         have n5_ := Aside0.mk (below_drew1 HB.out)
         clear HO_161001 HO_161002 BK152 BK153 BK160 HB
         have HO_161001 := n0_
         have HO_161002 := n1_
         have BK152 := n2_
         have BK153 := n3_
         have BK160 := n4_
         have HB := n5_
         clear n0_ n1_ n2_ n3_ n4_ n5_
         refine start_ (n := 9) (S := fun w' => w'.cell? ⟨gb160, 0, none⟩ = some (.int .i64 a0_0) ∧ w'.cell? ⟨gb160, 1, none⟩ = some (u161001) ∧ w'.cell? ⟨gb160, 2, none⟩ = some (.slice Ao12 y157.length co12) ∧ w'.cell? ⟨gb160, 3, none⟩ = some (.int .i64 a0_3)) (ds := [8]) #[F,F,F,F,F,F,F,F,F] kr rfl rfl ⟨cz0 BK160, cz1 BK160, cz2 BK160, cz3 BK160⟩ (fun hHeld => ?_); refine with_tabW impl_copyCourt.tab5 impl_copyCourt.bits5 (fun HT_ HW_ => ?_)
         generalize wr.drew = w25 at HO_161001 HO_161002 BK152 BK153 BK160 HB hHeld ⊢
         refine pu 0 (some 22) #[T,F,F,F,F,F,F,F,F] (any_of HT_.out kr) ?_
         refine pu 3 (some 25) #[T,F,F,T,F,F,F,F,F] (any_of HT_.out kr) ?_
         refine tk4 1 (some 23) #[T,T,F,T,F,F,F,F,F] (take_ofW HT_.out HW_.out kr) ?_
         refine one_ (i := 2) (N := some 24) #[T,T,T,T,F,F,F,F,F] rfl rfl (one_of HT_.out kr) (by decide) (fun K hK => ?_)
         refine Kd.R_lit_step (Kd.int .i64) _ 3 ?hg (N := 24) ?hd (xs := ([] : List Int)) (inner := []) (ok := fun _ => True) (okp := fun _ => True) ?hr ?hp (fun _ hk => hk) trivial (Below.refl _ _) (Nat.le_refl _) (by simp) ?_; (case hd => rfl); (case hg => rfl); (case hr => first | (go_simp; done) | (go_simp; rfl)); (case hp => exact (Reps.none _ _))
         intro v163 w26 ho27 hb hg_ hnew_
         clear hg_ hnew_
         (first | rw [← Ny162.out] at ho27 | (simp only [Int.reduceToNat] at ho27; rw [← Ny162.out] at ho27))
         have n0_ := Aside0.mk (Kd.S_elder' (sz HO_161001) (Kd.R_base ho27) hb)
         have n1_ := Aside0.mk (Kd.R_elder' (rz HO_161002) (Kd.R_base ho27) hb)
         have n2_ := Aside0.mk (Kd.R_lower (Kd.R_new' ho27 (Kd.R_lt (rz HO_161002))) (below_size bh))
         have n3_ := Aside0.mk (blk_below (bz BK152) hb)
         have n4_ := Aside0.mk (blk_below (bz BK153) hb)
         have n5_ := Aside0.mk (blk_below (bz BK160) hb)
         have n6_ := Aside0.mk (below_step bh hb)
         clear HO_161001 HO_161002 BK152 BK153 BK160 HB
         have HO_161001 := n0_
         have HO_161002 := n1_
         have HO164 := n2_
         have BK152 := n3_
         have BK153 := n4_
         have BK160 := n5_
         have HB := n6_
         clear n0_ n1_ n2_ n3_ n4_ n5_ n6_ hb ho27
         refine hK.out _ _ ⟨cz0 BK160, cz1 BK160, cz2 BK160, cz3 BK160⟩ (fun hHeld => ?_)
         clear hK K
         refine norm_ (a' := ?_) ?_ ?_
         rotate_left
         ·show Act.put _ (some 24) _ = _
          simp only [Act.put, List.setIfInBounds_toArray, List.set_cons_zero, List.set_cons_succ, i64_w, i32_w]
          rfl
         refine one_ (i := 4) (N := some 26) #[T,T,T,T,T,F,F,F,F] rfl rfl (one_of HT_.out kr) (by decide) (fun K hK => ?_)
         refine Kd.R_append_rows_step (Kd.int .i64) (w0 := w) w.heap.size (by rfl) (.tmp 24) (.tmp 25) 23 3 (.int .i64 0) 8 rfl Try.underlying23 info3 rfl (by decide) (by omega) v163 y162 (rd_L1 l0_1 x18_1) _ _ _ (fun k_ => some k_ ≠ (.slice Ao12 y157.length co12 : Value).ownBlock) (fun _ => False) rfl rfl ?aO ?aR (fun _ _ h => h) (fun _ h => h.elim) ?aF ?aB ?aS ?aL ?_
         (case aR => repeat (first | exact (Kd.C_below HR161_0.out HB.out) | (with_reducible refine Kd.C_alloc ?_ _) | (with_reducible refine Kd.C_drewN ?_ _) | (with_reducible refine Kd.C_drew ?_)))
         (case aB => exact bh)
         (case aF => exact (fun k_ hk => Kd.fresh' (Kd.R_lt (rz HO_161002)) k_ hk))
         (case aO => exact (mR HO164))
         (case aS => exact (below_size bh))
         (case aL => have := LMc23.out; omega)
         intro v166 w28 ho hb hg hat
         rw [← Ny165.out] at ho
         have n0_ := Aside0.mk (Kd.S_after (ok := (fun k_ => some k_ ≠ (.slice Ao12 y157.length co12 : Value).ownBlock)) (sz HO_161001) hg hat)
         have n1_ := Aside0.mk (Kd.R_after (ok := (fun _ => True)) (rz HO_161002) hg hat)
         have n2_ := Aside0.mk (blk_grown (bz BK152) hg (Kd.R_ne HO164.out BK152.out (by decide)))
         have n3_ := Aside0.mk (blk_grown (bz BK153) hg (Kd.R_ne HO164.out BK153.out (by decide)))
         have n4_ := Aside0.mk (blk_grown (bz BK160) hg (Kd.R_ne HO164.out BK160.out (by decide)))
         have n5_ := Aside0.mk (hb)
         have n6_ := Aside0.mk (ho)
         clear HO_161001 HO_161002 BK152 BK153 BK160 HB HO164
         have HO_161001 := n0_
         have HO_161002 := n1_
         have BK152 := n2_
         have BK153 := n3_
         have BK160 := n4_
         have HB := n5_
         have HO167 := n6_
         clear n0_ n1_ n2_ n3_ n4_ n5_ n6_ ho hb hg hat
         obtain ⟨Ao30, co30, eo30⟩ := Kd.R_slice HO167.out
         (first | subst eo30 | (injection eo30 with f1_ f2_ f3_; have f4_ := f1_.symm; have f5_ := f3_.symm; clear f1_ f2_ f3_; subst f4_; subst f5_))
         refine hK.out _ _ ⟨cz0 BK160, cz1 BK160, cz2 BK160, cz3 BK160⟩ (fun hHeld => ?_)
         clear hK K
         refine norm_ (a' := ?_) ?_ ?_
         rotate_left
         ·show Act.put _ (some 26) _ = _
          simp only [Act.put, List.setIfInBounds_toArray, List.set_cons_zero, List.set_cons_succ, i64_w, i32_w]
          rfl
         refine one_ (i := 5) (N := some 27) #[T,T,T,T,T,T,F,F,F] rfl rfl (one_of HT_.out kr) (by decide) (fun K hK => ?_)
         refine value_ (w1 := ?_) (v := ?_) (by rfl) rfl ?_ ?_
         rotate_left 2
         ·go_simp
          constructor
          ·rfl
          ·rfl
         refine hK.out _ _ ⟨(blk_cell (blk_alloc BK160.out _) 0).trans rfl, (blk_cell (blk_alloc BK160.out _) 1).trans rfl, (blk_cell (blk_alloc BK160.out _) 2).trans rfl, (blk_cell (blk_alloc BK160.out _) 3).trans rfl⟩ (fun hHeld => ?_)
         clear hK K
         refine norm_ (a' := ?_) ?_ ?_
         rotate_left
         ·show Act.put _ (some 27) _ = _
          simp only [Act.put, List.setIfInBounds_toArray, List.set_cons_zero, List.set_cons_succ, i64_w, i32_w]
          rfl
         refine one_ (i := 6) (N := some 28) #[T,T,T,T,T,T,T,F,F] rfl rfl (one_of HT_.out kr) (by decide) (fun K hK => ?_)
         refine Kd.S_append_step (Kd.slice 3 (Kd.int .i64)) (w0 := w) w.heap.size (by rfl) (.tmp 23) (.tmp 27) 22 23 (.slice none 0 0) 24 rfl Try.underlying22 info23 rfl (by decide) (by omega) u161001 x161001_1 y165 [.slice Ao30 y165.length co30] (fun k_ => some k_ ≠ (.slice Ao12 y157.length co12 : Value).ownBlock) (fun k_ => some k_ = (.slice Ao30 y165.length co30 : Value).ownBlock) rfl rfl ?aP (fun k_ hk_ => ((Kd.R_mono (ok' := fun k_ => ((fun k_ => some k_ ≠ (.slice Ao12 y157.length co12 : Value).ownBlock)) k_ ∧ some k_ ≠ (u161001 : Value).ownBlock) (Kd.R_apart' (HO167.out) (Kd.S_typed HO_161001.out) (by decide)) (fun k_ hk => ⟨hk.1, hk.2⟩))).1 k_ hk_.symm) ?aF ?aO ?aB ?aS ?aL ?_
         (case aP => exact Kd.M_row (Kd.R_mono (Kd.R_tight rfl (Kd.R_mono (ok' := fun k_ => ((fun k_ => some k_ ≠ (.slice Ao12 y157.length co12 : Value).ownBlock)) k_ ∧ some k_ ≠ (u161001 : Value).ownBlock) (Kd.R_apart' (HO167.out) (Kd.S_typed HO_161001.out) (by decide)) (fun k_ hk => ⟨hk.1, hk.2⟩))) (fun _ h_ => h_)))
         (case aB => exact bh)
         (case aF => exact (fun k_ hk => Kd.fresh' (Kd.R_lt (rz HO_161002)) k_ hk))
         (case aO => exact (by (with_reducible repeat (first | apply Kd.S_alloc | apply Kd.S_drewN | apply Kd.S_drew)); exact Kd.S_mono HO_161001.out (fun k_ hk => ⟨hk.1, fun e_ => hk.2 e_⟩)))
         (case aS => exact (below_size bh))
         (case aL => have := LMc24.out; omega)
         intro v169 w29 ho hb hg hat
         rw [← Ny168.out] at ho
         have n0_ := Aside0.mk (Kd.R_over' (rz HO_161002) (Kd.S_typed (sz HO_161001)) (by decide) hg)
         have n1_ := Aside0.mk (blk_grown (bz BK152) hg (Kd.S_ne HO_161001.out BK152.out (by decide)))
         have n2_ := Aside0.mk (blk_grown (bz BK153) hg (Kd.S_ne HO_161001.out BK153.out (by decide)))
         have n3_ := Aside0.mk (blk_grown (bz BK160) hg (Kd.S_ne HO_161001.out BK160.out (by decide)))
         have n4_ := Aside0.mk (hb)
         have n5_ := Aside0.mk (ho)
         clear HO_161002 BK152 BK153 BK160 HB HO_161001 HO167
         have HO_161002 := n0_
         have BK152 := n1_
         have BK153 := n2_
         have BK160 := n3_
         have HB := n4_
         have HO170 := n5_
         clear n0_ n1_ n2_ n3_ n4_ n5_ ho hb hg hat
         obtain ⟨Ao31, co31, eo31⟩ := Kd.S_slice HO170.out
         (first | subst eo31 | (injection eo31 with f1_ f2_ f3_; have f4_ := f1_.symm; have f5_ := f3_.symm; clear f1_ f2_ f3_; subst f4_; subst f5_))
         refine hK.out _ _ ⟨cz0 BK160, cz1 BK160, cz2 BK160, cz3 BK160⟩ (fun hHeld => ?_)
         clear hK K
         refine norm_ (a' := ?_) ?_ ?_
         rotate_left
         ·show Act.put _ (some 28) _ = _
          simp only [Act.put, List.setIfInBounds_toArray, List.set_cons_zero, List.set_cons_succ, i64_w, i32_w]
          rfl
         refine pu 7 (some 29) #[T,T,T,T,T,T,T,T,F] (any_of HT_.out kr) ?_
         refine last_ (i := 8) (N := none) #[T,T,T,T,T,T,T,T,T] rfl rfl (one_of HT_.out kr) (by decide) (fun K hK => ?_)
         have hs32 := cz1 BK160
         have hfs32 := blk_frozen BK160.out 1
         have hns32_0 := NB152_160.out
         have hns32_1 := NB153_160.out
         have hms32_0 := NB160_152.out
         have hms32_1 := NB160_153.out
         refine skip_ (w1 := ?_) (by rfl) rfl ?_ ?_
         rotate_left
         ·go_simp
          rfl
         refine hK.out _ _ ?_
         clear hK K
         refine done_ (done_of HT_.out kr) ?_
         try go_wp2
         go_roundg k1
         case measure => have := HK1.out; omega
         case rel => exact ⟨(wrap64 (x18_1 + 1)), (y168), (.slice Ao31 y168.length co31), (by first | rfl | (simp; done) | (simp [*]; done)), H', ⟨by have := HK1.out; omega⟩, ⟨gS HO170 BK160⟩, ⟨gR HO_161002 BK160⟩, ⟨bf NB152_160 BK152⟩, ⟨bf NB153_160 BK153⟩, ⟨bp BK160⟩, ⟨by exact bh⟩⟩
        ·rw [if_neg c24] at H
         exact absurd H (by simp)
       ·rw [if_neg c23] at H
        exact absurd H (by simp)
      ·rw [if_neg c22] at H
       exact absurd H (by simp)
     ·rw [if_neg c21] at H
      exact absurd H (by simp)
    ·rw [if_neg c20] at H
     have c20b0 : decide (x18_1 < (l0_1.length : Int)) = false := decide_eq_false c20
     clear c20
     simp only [Option.some.injEq, Prod.mk.injEq] at H
     obtain ⟨rfl, rfl, rfl, rfl⟩ := H
     have hnb33 := NB160_152.out
     have hnc33 := NB152_160.out
     have hnb34 := NB160_153.out
     have hnc34 := NB153_160.out
     have hcz35_0 := cz0 BK160
     have hcz35_1 := cz1 BK160
     have hcz35_2 := cz2 BK160
     have hcz35_3 := cz3 BK160
     have hfz35_0 := blk_frozen BK160.out 0
     have hfz35_1 := blk_frozen BK160.out 1
     have hfz35_2 := blk_frozen BK160.out 2
     have hfz35_3 := blk_frozen BK160.out 3
     have hnb36 := NB153_152.out
     have hnc36 := NB152_153.out
     have hcz37_0 := cz0 BK153
     have hcz37_1 := cz1 BK153
     have hcz37_2 := cz2 BK153
     have hcz37_3 := cz3 BK153
     have hfz37_0 := blk_frozen BK153.out 0
     have hfz37_1 := blk_frozen BK153.out 1
     have hfz37_2 := blk_frozen BK153.out 2
     have hfz37_3 := blk_frozen BK153.out 3
     obtain ⟨Ao38, co38, eo38⟩ := Kd.S_slice HO_161001.out
     subst eo38
     go_wp2
     refine bodyPost_ret (results_cell_row rfl _ _ gb153 28 #[.int .i64 a0_0, .slice Ao38 x161001_1.length co38, .slice Ao12 y157.length co12, .int .i64 a0_3] (0, 0) _ rfl (bp BK153) Try.underlying28 rfl kr) rfl ?_
     exact ⟨_, _, by first | rfl | (simp [errW_none, errW_some] <;> rfl) | (simp [*, errW_none, errW_some] <;> rfl), by (with_reducible repeat (first | apply Kd.S_alloc | apply Kd.S_drewN | apply Kd.S_drew)); exact Kd.S_mono (Kd.S_far (p := ⟨gb153, 3, none⟩) (Kd.S_far (p := ⟨gb153, 2, none⟩) (Kd.S_far (p := ⟨gb153, 1, none⟩) (Kd.S_far (p := ⟨gb153, 0, none⟩) (Kd.S_types HO_161001.out BK153.out (by decide)) (fun _ hk => hk.2) (.int .i64 a0_0)) (fun _ hk => hk.2) (.slice Ao38 x161001_1.length co38)) (fun _ hk => hk.2) (.slice Ao12 y157.length co12)) (fun _ hk => hk.2) (.int .i64 a0_3)) (fun _ hk => hk.1), by (with_reducible repeat (first | apply Kd.R_alloc | apply Kd.R_drewN | apply Kd.R_drew)); exact Kd.R_mono (Kd.R_far (p := ⟨gb153, 3, none⟩) (Kd.R_far (p := ⟨gb153, 2, none⟩) (Kd.R_far (p := ⟨gb153, 1, none⟩) (Kd.R_far (p := ⟨gb153, 0, none⟩) (Kd.R_types HO_161002.out BK153.out (by decide)) (fun _ hk => hk.2) (.int .i64 a0_0)) (fun _ hk => hk.2) (.slice Ao38 x161001_1.length co38)) (fun _ hk => hk.2) (.slice Ao12 y157.length co12)) (fun _ hk => hk.2) (.int .i64 a0_3)) (fun _ hk => trivial), by exact bh⟩
 ·rw [if_neg c2] at H
  exact absurd H (by simp)

end Go.Proofs.Ytlpjkeejflogjaa.QFnExactAfterDeaths
