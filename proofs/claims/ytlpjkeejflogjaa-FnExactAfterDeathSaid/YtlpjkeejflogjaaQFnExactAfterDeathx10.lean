-- Printed for this claim by a turned copy of the print (wip/myprint). Lean checks it. Squeezed. Worded. Tightened.
import Derived.Test.YtlpjkeejflogjaaQFnExactAfterDeathx0
namespace Go.Proofs.Ytlpjkeejflogjaa.QFnExactAfterDeath
open Go.RowKit Go.Proofs.YtlpjkeejflogjaaW.PrintWords Go.Proofs.YtlpjkeejflogjaaW.PrintLast Go.Proofs.YtlpjkeejflogjaaW.PrintMore
attribute [local go_sem] max2_int min2_int max_two min_two max_three min_three max_four min_four Opens.cell_twice   -- for this text's walks alone
set_option linter.unusedVariables false
set_option linter.unusedSimpArgs false

/-! ### spec_l7Copy: function 67 -/
def spec_l7Copy.l0 : Nat → Int → Int → List (List Int) → List Int → Int → Int → List (List Int) → List Int → Int → Option (Int × (List (List Int)) × List Int × Int)
 | 0, _, _, _, _, _, _, _, _, _ => none
 | k + 1, x4, x253000, x253001, x253002, x253003, x261000, x261001, x261002, x261003 => if x4 < (x253001.length : Int) then ((some (([] : List Int) : List Int)).bind fun y261 => (if 0 ≤ x4 then (if y261.length + (rd_L1 x253001 x4).length < 17592186044416 then (if x261001.length < 5864062014805 then (spec_l7Copy.l0 k (wrap64 (x4 + 1)) x253000 x253001 x253002 x253003 x261000 (x261001 ++ [(y261 ++ (rd_L1 x253001 x4))]) x261002 x261003) else (none)) else (none)) else (none))) else (some (x261000, x261001, x261002, x261003))
def spec_l7Copy.f (k : Nat) (a0_0 : Int) (l0_1 : List (List Int)) (l0_2 : List Int) (a0_3 : Int) : Option (Int × (List (List Int)) × List Int × Int) := (some (([] : List Int) : List Int)).bind fun y254 => (if y254.length + l0_2.length < 17592186044416 then (spec_l7Copy.l0 k 0 a0_0 l0_1 l0_2 a0_3 a0_0 ([] : List (List Int)) (y254 ++ l0_2) a0_3) else (none))
theorem spec_l7Copy.mono_l : ∀ k, (∀ y0 y1 y2 y3 y4 y5 y6 y7 y8, LeO (spec_l7Copy.l0 k y0 y1 y2 y3 y4 y5 y6 y7 y8) (spec_l7Copy.l0 (k + 1) y0 y1 y2 y3 y4 y5 y6 y7 y8))
 | 0 => fun _ _ _ _ _ _ _ _ _ r h => by simp [spec_l7Copy.l0] at h
 | k + 1 => by
  have ih0 := spec_l7Copy.mono_l k
  ·intro y0 y1 y2 y3 y4 y5 y6 y7 y8
   unfold spec_l7Copy.l0
   repeat' first
   | (with_reducible exact ih0 _ _ _ _ _ _ _ _ _)
   | (with_reducible exact LeO.refl _)
   | (with_reducible exact LeO.none _)
   | (with_reducible refine LeO.ite ?_ ?_)
   | (with_reducible refine LeO.bind ?_ (fun _ => ?_))
   | exact ih0 _ _ _ _ _ _ _ _ _
   | exact LeO.none _
   | refine LeO.ite ?_ ?_
   | refine LeO.bind ?_ (fun _ => ?_)
theorem spec_l7Copy.mono : ∀ a0 a1 a2 a3 k, LeO (spec_l7Copy.f k a0 a1 a2 a3) (spec_l7Copy.f (k + 1) a0 a1 a2 a3) := by
 intro a0 a1 a2 a3 k
 have ih0 := spec_l7Copy.mono_l k
 unfold spec_l7Copy.f
 repeat' first
   | (with_reducible exact ih0 _ _ _ _ _ _ _ _ _)
   | (with_reducible exact LeO.refl _)
   | (with_reducible exact LeO.none _)
   | (with_reducible refine LeO.ite ?_ ?_)
   | (with_reducible refine LeO.bind ?_ (fun _ => ?_))
   | exact ih0 _ _ _ _ _ _ _ _ _
   | exact LeO.none _
   | refine LeO.ite ?_ ?_
   | refine LeO.bind ?_ (fun _ => ?_)
def spec_l7Copy.T1 : Bool × List (List Nat × List Nat) := (true, [([], []), ([0], [0]), ([], []), ([2], [2]), ([], []), ([], []), ([5], [5]), ([4, 6], [4, 6]), ([1, 3, 7], [1, 3, 7]), ([], []), ([9, 8, 7, 0, 1, 2, 3, 4, 5, 6, 7, 8, 9], [8, 9])])
def spec_l7Copy.B1 : List Nat := [0, 1, 0, 4, 0, 0, 32, 112, 255, 0, 1023]
theorem spec_l7Copy.tab1 : rtab .any (opsOf Try.f67 1) = spec_l7Copy.T1 := by kernel_rfl
theorem spec_l7Copy.bits1 : waitsOk spec_l7Copy.T1.2 spec_l7Copy.B1 = true := by kernel_rfl
def spec_l7Copy.T5 : Bool × List (List Nat × List Nat) := (true, [([], []), ([0], [0]), ([], []), ([], []), ([3], [3]), ([], []), ([4, 5], [4, 5]), ([6], [6]), ([2, 7], [2, 7]), ([8], [8]), ([1, 9, 8], [1, 9]), ([0, 1, 2, 3, 4, 5, 6, 7, 8, 9, 10], []), ([11, 10, 10, 0, 1, 2, 3, 4, 5, 6, 7, 8, 9, 10], [10, 11])])
def spec_l7Copy.B5 : List Nat := [0, 1, 0, 0, 8, 0, 56, 120, 252, 508, 1023, 2047, 4095]
theorem spec_l7Copy.tab5 : rtab .any (opsOf Try.f67 5) = spec_l7Copy.T5 := by kernel_rfl
theorem spec_l7Copy.bits5 : waitsOk spec_l7Copy.T5.2 spec_l7Copy.B5 = true := by kernel_rfl
set_option maxHeartbeats 8000000 in
set_option maxRecDepth 100000 in
theorem spec_l7Copy.calls (k : Nat) (a0_0 : Int) (A0_1 : Option Addr) (c0_1 : Nat) (l0_1 : List (List Int)) (A0_2 : Option Addr) (c0_2 : Nat) (l0_2 : List Int) (a0_3 : Int) (r1 : Int) (r2 : List (List Int)) (r3 : List Int) (r4 : Int) (w : World) (hr0_1 : Kd.C (Kd.slice 3 (Kd.int .i64)) w A0_1 l0_1.length l0_1) (hc0_1 : l0_1.length ≤ c0_1) (hr0_2 : Kd.C (Kd.int .i64) w A0_2 l0_2.length l0_2) (hc0_2 : l0_2.length ≤ c0_2) (h : spec_l7Copy.f k a0_0 l0_1 l0_2 a0_3 = some (r1, r2, r3, r4)) :
  Calls Try.prog 67 #[.agg #[.int .i64 a0_0, .slice A0_1 l0_1.length c0_1, .slice A0_2 l0_2.length c0_2, .int .i64 a0_3]] w fun e w' => ∃ v1_ v2_ : Value, e = .returned (.agg #[.int .i64 r1, v1_, v2_, .int .i64 r4]) ∧ Kd.S (Kd.slice 3 (Kd.int .i64)) 23 w' w.heap.size (fun k_ => some k_ ≠ (v2_ : Value).ownBlock) v1_ r2 ∧ Kd.R (Kd.int .i64) 3 w' w.heap.size (fun _ => True) v2_ r3 ∧ Below w.heap.size w w' := by
 have hu28 := Try.underlying28
 have HR0_1 := Aside0.mk hr0_1
 have HC0_1 := Aside0.mk hc0_1
 clear hr0_1 hc0_1
 have HR0_2 := Aside0.mk hr0_2
 have HC0_2 := Aside0.mk hc0_2
 clear hr0_2 hc0_2
 have HB := Aside0.mk (Below.refl w.heap.size w)
 have H : ((some (([] : List Int) : List Int)).bind fun y254 => (if y254.length + l0_2.length < 17592186044416 then (spec_l7Copy.l0 k 0 a0_0 l0_1 l0_2 a0_3 a0_0 ([] : List (List Int)) (y254 ++ l0_2) a0_3) else (none))) = some (r1, r2, r3, r4) := h
 clear h
 obtain ⟨y254, hy254⟩ : ∃ y_ : List Int, y_ = (([] : List Int)) := ⟨_, rfl⟩
 replace H : (if y254.length + l0_2.length < 17592186044416 then (spec_l7Copy.l0 k 0 a0_0 l0_1 l0_2 a0_3 a0_0 ([] : List (List Int)) (y254 ++ l0_2) a0_3) else (none)) = some (r1, r2, r3, r4) := by first | (rw [hy254]; with_reducible exact H) | (have H2_ := (Option.bind_some _ _).symm.trans H; rw [hy254]; with_reducible exact H2_) | (have H2_ := (Option.bind_some _ _).symm.trans H; with_reducible exact H2_) | with_reducible exact H | (rw [hy254]; exact H) | exact H
 have Ny254 := Aside0.mk hy254
 clear hy254
 by_cases c2 : y254.length + l0_2.length < 17592186044416
 ·rw [if_pos c2] at H
  have LMc2 := Aside0.mk c2
  clear c2
  obtain ⟨y257, hy257⟩ : ∃ y_ : List Int, y_ = (y254 ++ l0_2) := ⟨_, rfl⟩
  replace H : (spec_l7Copy.l0 k 0 a0_0 l0_1 l0_2 a0_3 a0_0 ([] : List (List Int)) y257 a0_3) = some (r1, r2, r3, r4) := by first | (rw [hy257]; with_reducible exact H) | (have H2_ := (Option.bind_some _ _).symm.trans H; rw [hy257]; with_reducible exact H2_) | (have H2_ := (Option.bind_some _ _).symm.trans H; with_reducible exact H2_) | with_reducible exact H | (rw [hy257]; exact H) | exact H
  have Ny257 := Aside0.mk hy257
  clear hy257
  have H' := Aside0.mk H
  clear H
  go_enter Try.func67, Try.ntmps67
  try go_wp2_with (first | ((with_reducible refine gate_dst (N := 1) rfl ?_); refine box_event ?hg (N := 1) ?hd (cs := #[.int .i64 a0_0, .slice A0_1 l0_1.length c0_1, .slice A0_2 l0_2.length c0_2, .int .i64 a0_3]) (t := 28) ?hr ?_; (case hd => rfl); (case hg => rfl); (case hr => first | (go_simp; done) | (go_simp; rfl)); intro gb252 hg w3 hbox hb; have n0_ := Aside0.mk (below_step bh hb); have n1_ := Aside0.mk (hbox); have n2_ := Aside0.mk ((gs (W0 := w) hg bh)); have n3_ := Aside0.mk ((gs (W0 := w) hg bh)); clear HB; have HB := n0_; have BK252 := n1_; have GW252 := n2_; have GE252 := n3_; clear n0_ n1_ n2_ n3_ hb hbox hg) | ((with_reducible refine gate_dst (N := 2) rfl ?_); refine box_event ?hg (N := 2) ?hd (cs := #[.int .i64 0, .slice none 0 0, .slice none 0 0, .int .i64 0]) (t := 28) ?hr ?_; (case hd => rfl); (case hg => rfl); (case hr => first | (go_simp; done) | (go_simp; rfl)); intro gb253 hg w4 hbox hb; have n0_ := Aside0.mk (blk_below (bz BK252) hb); have n1_ := Aside0.mk (below_step bh hb); have n2_ := Aside0.mk (hbox); have n3_ := Aside0.mk ((gs (W0 := w) hg bh)); have n4_ := Aside0.mk ((gs (W0 := w) hg bh)); have n5_ := Aside0.mk ((gn hg (bz BK252))); have n6_ := Aside0.mk ((gm hg (bz BK252))); clear BK252 HB; have BK252 := n0_; have HB := n1_; have BK253 := n2_; have GW253 := n3_; have GE253 := n4_; have NB252_253 := n5_; have NB253_252 := n6_; clear n0_ n1_ n2_ n3_ n4_ n5_ n6_ hb hbox hg))
  have n0_ := Aside0.mk (blk_drew BK252.out)
  have n1_ := Aside0.mk (blk_drew BK253.out)
  have n2_ := Aside0.mk (below_drew1 HB.out)
  clear BK252 BK253 HB
  have BK252 := n0_
  have BK253 := n1_
  have HB := n2_
  clear n0_ n1_ n2_
  refine start_ (n := 11) (S := fun w' => w'.cell? ⟨gb252, 0, none⟩ = some (.int .i64 a0_0) ∧ w'.cell? ⟨gb252, 1, none⟩ = some (.slice A0_1 l0_1.length c0_1) ∧ w'.cell? ⟨gb252, 2, none⟩ = some (.slice A0_2 l0_2.length c0_2) ∧ w'.cell? ⟨gb252, 3, none⟩ = some (.int .i64 a0_3)) (ds := []) #[F,F,F,F,F,F,F,F,F,F,F] kr rfl rfl ⟨cz0 BK252, cz1 BK252, cz2 BK252, cz3 BK252⟩ (fun hHeld => ?_); refine with_tabW spec_l7Copy.tab1 spec_l7Copy.bits1 (fun HT_ HW_ => ?_)
  generalize w4.drew = w5 at BK252 BK253 HB hHeld ⊢
  refine pu 0 (some 5) #[T,F,F,F,F,F,F,F,F,F,F] (any_of HT_.out kr) ?_
  refine pu 2 (some 7) #[T,F,T,F,F,F,F,F,F,F,F] (any_of HT_.out kr) ?_
  refine pu 5 (some 10) #[T,F,T,F,F,T,F,F,F,F,F] (any_of HT_.out kr) ?_
  refine tk4 1 (some 6) #[T,T,T,F,F,T,F,F,F,F,F] (take_ofW HT_.out HW_.out kr) ?_
  refine tk4 3 (some 8) #[T,T,T,T,F,T,F,F,F,F,F] (take_ofW HT_.out HW_.out kr) ?_
  refine tk4 6 (some 11) #[T,T,T,T,F,T,T,F,F,F,F] (take_ofW HT_.out HW_.out kr) ?_
  refine join_ (σ := Value × Value × Nat) 1 #[T,T,T,T,T,T,T,T,T,T,F] (fun s_ => [(9, s_.1), (12, s_.2.1), (3, .pointer (some ⟨s_.2.2, 0, none⟩)), (13, .agg #[.int .i64 a0_0, .slice none 0 0, s_.2.1, .int .i64 a0_3])]) (fun s_ w' => (w'.cell? ⟨gb252, 0, none⟩ = some (.int .i64 a0_0) ∧ w'.cell? ⟨gb252, 1, none⟩ = some (.slice A0_1 l0_1.length c0_1) ∧ w'.cell? ⟨gb252, 2, none⟩ = some (.slice A0_2 l0_2.length c0_2) ∧ w'.cell? ⟨gb252, 3, none⟩ = some (.int .i64 a0_3)) ∧ (Kd.R (Kd.int .i64) 3 w' w.heap.size (fun _ => True) s_.2.1 y257) ∧ (w'.heap[gb252]? = some (.cells #[.int .i64 a0_0, .slice A0_1 l0_1.length c0_1, .slice A0_2 l0_2.length c0_2, .int .i64 a0_3] 28 (0, 0))) ∧ (w'.heap[gb253]? = some (.cells #[.int .i64 0, .slice none 0 0, .slice none 0 0, .int .i64 0] 28 (0, 0))) ∧ (w'.heap[s_.2.2]? = some (.cells #[.int .i64 0, .slice none 0 0, .slice none 0 0, .int .i64 0] 28 (0, 0))) ∧ (w.heap.size ≤ s_.2.2) ∧ (w.heap.size ≤ s_.2.2) ∧ (gb252 ≠ s_.2.2) ∧ (s_.2.2 ≠ gb252) ∧ (gb253 ≠ s_.2.2) ∧ (s_.2.2 ≠ gb253) ∧ (Below w.heap.size w w')) ?_ ?_
  rotate_left
  ·intro hCont
   refine two_ (i := 4) (j := 9) (Ni := some 9) (Nj := some 3) #[T,T,T,T,T,T,T,F,F,F,F] #[T,T,T,T,F,T,T,F,F,T,F] rfl rfl rfl rfl (two_of HT_.out kr) (by decide) (by decide) (fun K hK => ?_) (fun K hK => ?_)
   ·skip
    refine Kd.R_lit_step (Kd.int .i64) _ 3 ?hg (N := 9) ?hd (xs := ([] : List Int)) (inner := []) (ok := fun _ => True) (okp := fun _ => True) ?hr ?hp (fun _ hk => hk) trivial (Below.refl _ _) (Nat.le_refl _) (by simp) ?_; (case hd => rfl); (case hg => rfl); (case hr => first | (go_simp; done) | (go_simp; rfl)); (case hp => exact (Reps.none _ _))
    intro v255 w6 ho7 hb hg_ hnew_
    clear hg_ hnew_
    (first | rw [← Ny254.out] at ho7 | (simp only [Int.reduceToNat] at ho7; rw [← Ny254.out] at ho7))
    have n0_ := Aside0.mk (Kd.R_lower ho7 (below_size bh))
    have n1_ := Aside0.mk (blk_below (bz BK252) hb)
    have n2_ := Aside0.mk (blk_below (bz BK253) hb)
    have n3_ := Aside0.mk (below_step bh hb)
    clear BK252 BK253 HB
    have HO256 := n0_
    have BK252 := n1_
    have BK253 := n2_
    have HB := n3_
    clear n0_ n1_ n2_ n3_ hb ho7
    refine hK.out _ _ ⟨cz0 BK252, cz1 BK252, cz2 BK252, cz3 BK252⟩ (fun hHeld => ?_)
    clear hK K
    refine norm_ (a' := ?_) ?_ ?_
    rotate_left
    ·show Act.put _ (some 9) _ = _
     simp only [Act.put, List.setIfInBounds_toArray, List.set_cons_zero, List.set_cons_succ, i64_w, i32_w]
     rfl
    refine two_ (i := 7) (j := 9) (Ni := some 12) (Nj := some 3) #[T,T,T,T,T,T,T,T,F,F,F] #[T,T,T,T,T,T,T,F,F,T,F] rfl rfl rfl rfl (two_of HT_.out kr) (by decide) (by decide) (fun K hK => ?_) (fun K hK => ?_)
    ·skip
     refine Kd.R_append_rows_step (Kd.int .i64) (w0 := w) w.heap.size (by rfl) (.tmp 9) (.tmp 11) 23 3 (.int .i64 0) 8 rfl Try.underlying23 info3 rfl (by decide) (by omega) v255 y254 l0_2 _ _ _ (fun _ => True) (fun _ => False) rfl rfl ?aO ?aR (fun _ _ h => h) (fun _ h => h.elim) ?aF ?aB ?aS ?aL ?_
     (case aR => repeat (first | exact (Kd.C_below HR0_2.out HB.out) | (with_reducible refine Kd.C_alloc ?_ _) | (with_reducible refine Kd.C_drewN ?_ _) | (with_reducible refine Kd.C_drew ?_)))
     (case aB => exact bh)
     (case aF => exact (fun _ _ => trivial))
     (case aO => exact (rz HO256))
     (case aS => exact (below_size bh))
     (case aL => have := LMc2.out; omega)
     intro v258 w8 ho hb hg hat
     rw [← Ny257.out] at ho
     have n0_ := Aside0.mk (blk_grown (bz BK252) hg (Kd.R_ne HO256.out BK252.out (by decide)))
     have n1_ := Aside0.mk (blk_grown (bz BK253) hg (Kd.R_ne HO256.out BK253.out (by decide)))
     have n2_ := Aside0.mk (hb)
     have n3_ := Aside0.mk (ho)
     clear BK252 BK253 HB HO256
     have BK252 := n0_
     have BK253 := n1_
     have HB := n2_
     have HO259 := n3_
     clear n0_ n1_ n2_ n3_ ho hb hg hat
     obtain ⟨Ao9, co9, eo9⟩ := Kd.R_slice HO259.out
     (first | subst eo9 | (injection eo9 with f1_ f2_ f3_; have f4_ := f1_.symm; have f5_ := f3_.symm; clear f1_ f2_ f3_; subst f4_; subst f5_))
     refine hK.out _ _ ⟨cz0 BK252, cz1 BK252, cz2 BK252, cz3 BK252⟩ (fun hHeld => ?_)
     clear hK K
     refine norm_ (a' := ?_) ?_ ?_
     rotate_left
     ·show Act.put _ (some 12) _ = _
      simp only [Act.put, List.setIfInBounds_toArray, List.set_cons_zero, List.set_cons_succ, i64_w, i32_w]
      rfl
     refine pu 8 (some 13) #[T,T,T,T,T,T,T,T,T,F,F] (any_of HT_.out kr) ?_
     refine one_ (i := 9) (N := some 3) #[T,T,T,T,T,T,T,T,T,T,F] rfl rfl (one_of HT_.out kr) (by decide) (fun K hK => ?_)
     refine box_step ?hg (N := 3) ?hd (cs := #[.int .i64 0, .slice none 0 0, .slice none 0 0, .int .i64 0]) (t := 28) ?hr ?_; (case hd => rfl); (case hg => rfl); (case hr => first | (go_simp; done) | (go_simp; rfl))
     intro gb260 hg w10 hbox hb
     have n0_ := Aside0.mk (Kd.R_below (rz HO259) hb)
     have n1_ := Aside0.mk (blk_below (bz BK252) hb)
     have n2_ := Aside0.mk (blk_below (bz BK253) hb)
     have n3_ := Aside0.mk (below_step bh hb)
     have n4_ := Aside0.mk (hbox)
     have n5_ := Aside0.mk ((gs (W0 := w) hg bh))
     have n6_ := Aside0.mk ((gs (W0 := w) hg bh))
     have n7_ := Aside0.mk ((gn hg (bz BK252)))
     have n8_ := Aside0.mk ((gm hg (bz BK252)))
     have n9_ := Aside0.mk ((gn hg (bz BK253)))
     have n10_ := Aside0.mk ((gm hg (bz BK253)))
     clear HO259 BK252 BK253 HB
     have HO259 := n0_
     have BK252 := n1_
     have BK253 := n2_
     have HB := n3_
     have BK260 := n4_
     have GW260 := n5_
     have GE260 := n6_
     have NB252_260 := n7_
     have NB260_252 := n8_
     have NB253_260 := n9_
     have NB260_253 := n10_
     clear n0_ n1_ n2_ n3_ n4_ n5_ n6_ n7_ n8_ n9_ n10_ hb hbox hg
     refine hK.out _ _ ⟨cz0 BK252, cz1 BK252, cz2 BK252, cz3 BK252⟩ (fun hHeld => ?_)
     clear hK K
     refine norm_ (a' := ?_) ?_ ?_
     rotate_left
     ·show Act.put _ (some 3) _ = _
      simp only [Act.put, List.setIfInBounds_toArray, List.set_cons_zero, List.set_cons_succ, i64_w, i32_w]
      rfl
     exact norm_ (by simp only [putAll, Act.put, List.setIfInBounds_toArray, List.set_cons_zero, List.set_cons_succ]) (hCont (v255, .slice Ao9 y257.length co9, gb260) _ ⟨hHeld, (rz HO259), (bz BK252), (bz BK253), (bz BK260), GW260.out, GE260.out, NB252_260.out, NB260_252.out, NB253_260.out, NB260_253.out, bh⟩)
    ·skip
     refine box_step ?hg (N := 3) ?hd (cs := #[.int .i64 0, .slice none 0 0, .slice none 0 0, .int .i64 0]) (t := 28) ?hr ?_; (case hd => rfl); (case hg => rfl); (case hr => first | (go_simp; done) | (go_simp; rfl))
     intro gb260 hg w8 hbox hb
     have n0_ := Aside0.mk (Kd.R_below (rz HO256) hb)
     have n1_ := Aside0.mk (blk_below (bz BK252) hb)
     have n2_ := Aside0.mk (blk_below (bz BK253) hb)
     have n3_ := Aside0.mk (below_step bh hb)
     have n4_ := Aside0.mk (hbox)
     have n5_ := Aside0.mk ((gs (W0 := w) hg bh))
     have n6_ := Aside0.mk ((gs (W0 := w) hg bh))
     have n7_ := Aside0.mk ((gn hg (bz BK252)))
     have n8_ := Aside0.mk ((gm hg (bz BK252)))
     have n9_ := Aside0.mk ((gn hg (bz BK253)))
     have n10_ := Aside0.mk ((gm hg (bz BK253)))
     clear HO256 BK252 BK253 HB
     have HO256 := n0_
     have BK252 := n1_
     have BK253 := n2_
     have HB := n3_
     have BK260 := n4_
     have GW260 := n5_
     have GE260 := n6_
     have NB252_260 := n7_
     have NB260_252 := n8_
     have NB253_260 := n9_
     have NB260_253 := n10_
     clear n0_ n1_ n2_ n3_ n4_ n5_ n6_ n7_ n8_ n9_ n10_ hb hbox hg
     refine hK.out _ _ ⟨cz0 BK252, cz1 BK252, cz2 BK252, cz3 BK252⟩ (fun hHeld => ?_)
     clear hK K
     refine norm_ (a' := ?_) ?_ ?_
     rotate_left
     ·show Act.put _ (some 3) _ = _
      simp only [Act.put, List.setIfInBounds_toArray, List.set_cons_zero, List.set_cons_succ, i64_w, i32_w]
      rfl
     refine one_ (i := 7) (N := some 12) #[T,T,T,T,T,T,T,T,F,T,F] rfl rfl (one_of HT_.out kr) (by decide) (fun K hK => ?_)
     refine Kd.R_append_rows_step (Kd.int .i64) (w0 := w) w.heap.size (by rfl) (.tmp 9) (.tmp 11) 23 3 (.int .i64 0) 8 rfl Try.underlying23 info3 rfl (by decide) (by omega) v255 y254 l0_2 _ _ _ (fun _ => True) (fun _ => False) rfl rfl ?aO ?aR (fun _ _ h => h) (fun _ h => h.elim) ?aF ?aB ?aS ?aL ?_
     (case aR => repeat (first | exact (Kd.C_below HR0_2.out HB.out) | (with_reducible refine Kd.C_alloc ?_ _) | (with_reducible refine Kd.C_drewN ?_ _) | (with_reducible refine Kd.C_drew ?_)))
     (case aB => exact bh)
     (case aF => exact (fun _ _ => trivial))
     (case aO => exact (rz HO256))
     (case aS => exact (below_size bh))
     (case aL => have := LMc2.out; omega)
     intro v258 w9 ho hb hg hat
     rw [← Ny257.out] at ho
     have n0_ := Aside0.mk (blk_grown (bz BK252) hg (Kd.R_ne HO256.out BK252.out (by decide)))
     have n1_ := Aside0.mk (blk_grown (bz BK253) hg (Kd.R_ne HO256.out BK253.out (by decide)))
     have n2_ := Aside0.mk (blk_grown (bz BK260) hg (Kd.R_ne HO256.out BK260.out (by decide)))
     have n3_ := Aside0.mk (hb)
     have n4_ := Aside0.mk (ho)
     clear BK252 BK253 BK260 HB HO256
     have BK252 := n0_
     have BK253 := n1_
     have BK260 := n2_
     have HB := n3_
     have HO259 := n4_
     clear n0_ n1_ n2_ n3_ n4_ ho hb hg hat
     obtain ⟨Ao10, co10, eo10⟩ := Kd.R_slice HO259.out
     (first | subst eo10 | (injection eo10 with f1_ f2_ f3_; have f4_ := f1_.symm; have f5_ := f3_.symm; clear f1_ f2_ f3_; subst f4_; subst f5_))
     refine hK.out _ _ ⟨cz0 BK252, cz1 BK252, cz2 BK252, cz3 BK252⟩ (fun hHeld => ?_)
     clear hK K
     refine norm_ (a' := ?_) ?_ ?_
     rotate_left
     ·show Act.put _ (some 12) _ = _
      simp only [Act.put, List.setIfInBounds_toArray, List.set_cons_zero, List.set_cons_succ, i64_w, i32_w]
      rfl
     refine pu 8 (some 13) #[T,T,T,T,T,T,T,T,T,T,F] (any_of HT_.out kr) ?_
     exact norm_ (by simp only [putAll, Act.put, List.setIfInBounds_toArray, List.set_cons_zero, List.set_cons_succ]) (hCont (v255, .slice Ao10 y257.length co10, gb260) _ ⟨hHeld, (rz HO259), (bz BK252), (bz BK253), (bz BK260), GW260.out, GE260.out, NB252_260.out, NB260_252.out, NB253_260.out, NB260_253.out, bh⟩)
   ·skip
    refine box_step ?hg (N := 3) ?hd (cs := #[.int .i64 0, .slice none 0 0, .slice none 0 0, .int .i64 0]) (t := 28) ?hr ?_; (case hd => rfl); (case hg => rfl); (case hr => first | (go_simp; done) | (go_simp; rfl))
    intro gb260 hg w6 hbox hb
    have n0_ := Aside0.mk (blk_below (bz BK252) hb)
    have n1_ := Aside0.mk (blk_below (bz BK253) hb)
    have n2_ := Aside0.mk (below_step bh hb)
    have n3_ := Aside0.mk (hbox)
    have n4_ := Aside0.mk ((gs (W0 := w) hg bh))
    have n5_ := Aside0.mk ((gs (W0 := w) hg bh))
    have n6_ := Aside0.mk ((gn hg (bz BK252)))
    have n7_ := Aside0.mk ((gm hg (bz BK252)))
    have n8_ := Aside0.mk ((gn hg (bz BK253)))
    have n9_ := Aside0.mk ((gm hg (bz BK253)))
    clear BK252 BK253 HB
    have BK252 := n0_
    have BK253 := n1_
    have HB := n2_
    have BK260 := n3_
    have GW260 := n4_
    have GE260 := n5_
    have NB252_260 := n6_
    have NB260_252 := n7_
    have NB253_260 := n8_
    have NB260_253 := n9_
    clear n0_ n1_ n2_ n3_ n4_ n5_ n6_ n7_ n8_ n9_ hb hbox hg
    refine hK.out _ _ ⟨cz0 BK252, cz1 BK252, cz2 BK252, cz3 BK252⟩ (fun hHeld => ?_)
    clear hK K
    refine norm_ (a' := ?_) ?_ ?_
    rotate_left
    ·show Act.put _ (some 3) _ = _
     simp only [Act.put, List.setIfInBounds_toArray, List.set_cons_zero, List.set_cons_succ, i64_w, i32_w]
     rfl
    refine one_ (i := 4) (N := some 9) #[T,T,T,T,T,T,T,F,F,T,F] rfl rfl (one_of HT_.out kr) (by decide) (fun K hK => ?_)
    refine Kd.R_lit_step (Kd.int .i64) _ 3 ?hg (N := 9) ?hd (xs := ([] : List Int)) (inner := []) (ok := fun _ => True) (okp := fun _ => True) ?hr ?hp (fun _ hk => hk) trivial (Below.refl _ _) (Nat.le_refl _) (by simp) ?_; (case hd => rfl); (case hg => rfl); (case hr => first | (go_simp; done) | (go_simp; rfl)); (case hp => exact (Reps.none _ _))
    intro v255 w7 ho8 hb hg_ hnew_
    clear hg_ hnew_
    (first | rw [← Ny254.out] at ho8 | (simp only [Int.reduceToNat] at ho8; rw [← Ny254.out] at ho8))
    have n0_ := Aside0.mk (Kd.R_lower ho8 (below_size bh))
    have n1_ := Aside0.mk (blk_below (bz BK252) hb)
    have n2_ := Aside0.mk (blk_below (bz BK253) hb)
    have n3_ := Aside0.mk (blk_below (bz BK260) hb)
    have n4_ := Aside0.mk (below_step bh hb)
    clear BK252 BK253 BK260 HB
    have HO256 := n0_
    have BK252 := n1_
    have BK253 := n2_
    have BK260 := n3_
    have HB := n4_
    clear n0_ n1_ n2_ n3_ n4_ hb ho8
    refine hK.out _ _ ⟨cz0 BK252, cz1 BK252, cz2 BK252, cz3 BK252⟩ (fun hHeld => ?_)
    clear hK K
    refine norm_ (a' := ?_) ?_ ?_
    rotate_left
    ·show Act.put _ (some 9) _ = _
     simp only [Act.put, List.setIfInBounds_toArray, List.set_cons_zero, List.set_cons_succ, i64_w, i32_w]
     rfl
    refine one_ (i := 7) (N := some 12) #[T,T,T,T,T,T,T,T,F,T,F] rfl rfl (one_of HT_.out kr) (by decide) (fun K hK => ?_)
    refine Kd.R_append_rows_step (Kd.int .i64) (w0 := w) w.heap.size (by rfl) (.tmp 9) (.tmp 11) 23 3 (.int .i64 0) 8 rfl Try.underlying23 info3 rfl (by decide) (by omega) v255 y254 l0_2 _ _ _ (fun _ => True) (fun _ => False) rfl rfl ?aO ?aR (fun _ _ h => h) (fun _ h => h.elim) ?aF ?aB ?aS ?aL ?_
    (case aR => repeat (first | exact (Kd.C_below HR0_2.out HB.out) | (with_reducible refine Kd.C_alloc ?_ _) | (with_reducible refine Kd.C_drewN ?_ _) | (with_reducible refine Kd.C_drew ?_)))
    (case aB => exact bh)
    (case aF => exact (fun _ _ => trivial))
    (case aO => exact (rz HO256))
    (case aS => exact (below_size bh))
    (case aL => have := LMc2.out; omega)
    intro v258 w9 ho hb hg hat
    rw [← Ny257.out] at ho
    have n0_ := Aside0.mk (blk_grown (bz BK252) hg (Kd.R_ne HO256.out BK252.out (by decide)))
    have n1_ := Aside0.mk (blk_grown (bz BK253) hg (Kd.R_ne HO256.out BK253.out (by decide)))
    have n2_ := Aside0.mk (blk_grown (bz BK260) hg (Kd.R_ne HO256.out BK260.out (by decide)))
    have n3_ := Aside0.mk (hb)
    have n4_ := Aside0.mk (ho)
    clear BK252 BK253 BK260 HB HO256
    have BK252 := n0_
    have BK253 := n1_
    have BK260 := n2_
    have HB := n3_
    have HO259 := n4_
    clear n0_ n1_ n2_ n3_ n4_ ho hb hg hat
    obtain ⟨Ao10, co10, eo10⟩ := Kd.R_slice HO259.out
    (first | subst eo10 | (injection eo10 with f1_ f2_ f3_; have f4_ := f1_.symm; have f5_ := f3_.symm; clear f1_ f2_ f3_; subst f4_; subst f5_))
    refine hK.out _ _ ⟨cz0 BK252, cz1 BK252, cz2 BK252, cz3 BK252⟩ (fun hHeld => ?_)
    clear hK K
    refine norm_ (a' := ?_) ?_ ?_
    rotate_left
    ·show Act.put _ (some 12) _ = _
     simp only [Act.put, List.setIfInBounds_toArray, List.set_cons_zero, List.set_cons_succ, i64_w, i32_w]
     rfl
    refine pu 8 (some 13) #[T,T,T,T,T,T,T,T,T,T,F] (any_of HT_.out kr) ?_
    exact norm_ (by simp only [putAll, Act.put, List.setIfInBounds_toArray, List.set_cons_zero, List.set_cons_succ]) (hCont (v255, .slice Ao10 y257.length co10, gb260) _ ⟨hHeld, (rz HO259), (bz BK252), (bz BK253), (bz BK260), GW260.out, GE260.out, NB252_260.out, NB260_252.out, NB253_260.out, NB260_253.out, bh⟩)
  rintro ⟨v255, v258, gb260⟩ w11 ⟨hS_, h0_, h1_, h2_, h3_, h4_, h5_, h6_, h7_, h8_, h9_, h10_⟩
  clear BK252 BK253 HB
  have HO259 := Aside0.mk h0_
  have BK252 := Aside0.mk h1_
  have BK253 := Aside0.mk h2_
  have BK260 := Aside0.mk h3_
  have GW260 := Aside0.mk h4_
  have GE260 := Aside0.mk h5_
  have NB252_260 := Aside0.mk h6_
  have NB260_252 := Aside0.mk h7_
  have NB253_260 := Aside0.mk h8_
  have NB260_253 := Aside0.mk h9_
  have HB := Aside0.mk h10_
  clear h0_ h1_ h2_ h3_ h4_ h5_ h6_ h7_ h8_ h9_ h10_
  have hHeld : w11.cell? ⟨gb252, 0, none⟩ = some (.int .i64 a0_0) ∧ w11.cell? ⟨gb252, 1, none⟩ = some (.slice A0_1 l0_1.length c0_1) ∧ w11.cell? ⟨gb252, 2, none⟩ = some (.slice A0_2 l0_2.length c0_2) ∧ w11.cell? ⟨gb252, 3, none⟩ = some (.int .i64 a0_3) := hS_
  obtain ⟨Ao12, co12, eo12⟩ := Kd.R_slice HO259.out
  (first | subst eo12 | (injection eo12 with f1_ f2_ f3_; have f4_ := f1_.symm; have f5_ := f3_.symm; clear f1_ f2_ f3_; subst f4_; subst f5_))
  refine norm_ (a' := ?_) ?_ ?_
  rotate_left
  ·simp only [putAll, Act.put, List.setIfInBounds_toArray, List.set_cons_zero, List.set_cons_succ]
   rfl
  refine one_ (i := 10) (N := none) #[T,T,T,T,T,T,T,T,T,T,T] rfl rfl (one_of HT_.out kr) (by decide) (fun K hK => ?_)
  have hs13 := cz0 BK260
  have hfs13 := blk_frozen BK260.out 0
  have hns13_0 := NB252_260.out
  have hns13_1 := NB253_260.out
  have hms13_0 := NB260_252.out
  have hms13_1 := NB260_253.out
  have hs14 := cz1 BK260
  have hfs14 := blk_frozen BK260.out 1
  have hns14_0 := NB252_260.out
  have hns14_1 := NB253_260.out
  have hms14_0 := NB260_252.out
  have hms14_1 := NB260_253.out
  have hs15 := cz2 BK260
  have hfs15 := blk_frozen BK260.out 2
  have hns15_0 := NB252_260.out
  have hns15_1 := NB253_260.out
  have hms15_0 := NB260_252.out
  have hms15_1 := NB260_253.out
  have hs16 := cz3 BK260
  have hfs16 := blk_frozen BK260.out 3
  have hns16_0 := NB252_260.out
  have hns16_1 := NB253_260.out
  have hms16_0 := NB260_252.out
  have hms16_1 := NB260_253.out
  refine skip_ (w1 := ?_) (by rfl) rfl ?_ ?_
  rotate_left
  ·go_simp
   rfl
  refine hK.out _ _ ⟨((cell_far (p := ⟨gb260, _, none⟩) NB252_260.out _).trans (((cell_far (p := ⟨gb260, _, none⟩) NB252_260.out _).trans (((cell_far (p := ⟨gb260, _, none⟩) NB252_260.out _).trans (((cell_far (p := ⟨gb260, _, none⟩) NB252_260.out _).trans (hHeld.1)))))))), ((cell_far (p := ⟨gb260, _, none⟩) NB252_260.out _).trans (((cell_far (p := ⟨gb260, _, none⟩) NB252_260.out _).trans (((cell_far (p := ⟨gb260, _, none⟩) NB252_260.out _).trans (((cell_far (p := ⟨gb260, _, none⟩) NB252_260.out _).trans (hHeld.2.1)))))))), ((cell_far (p := ⟨gb260, _, none⟩) NB252_260.out _).trans (((cell_far (p := ⟨gb260, _, none⟩) NB252_260.out _).trans (((cell_far (p := ⟨gb260, _, none⟩) NB252_260.out _).trans (((cell_far (p := ⟨gb260, _, none⟩) NB252_260.out _).trans (hHeld.2.2.1)))))))), ((cell_far (p := ⟨gb260, _, none⟩) NB252_260.out _).trans (((cell_far (p := ⟨gb260, _, none⟩) NB252_260.out _).trans (((cell_far (p := ⟨gb260, _, none⟩) NB252_260.out _).trans (((cell_far (p := ⟨gb260, _, none⟩) NB252_260.out _).trans (hHeld.2.2.2))))))))⟩ (fun hHeld => ?_)
  clear hK K
  refine done_ (done_of HT_.out kr) ?_
  try go_wp2
  go_loopg [4] k (fun kq v4 w' => ∃ (x4_1 : Int) (x261001_1 : List (List Int)) (u261001 : Value), v4 = .int .i64 x4_1 ∧ Aside0 (spec_l7Copy.l0 kq x4_1 a0_0 l0_1 l0_2 a0_3 a0_0 x261001_1 y257 a0_3 = some (r1, r2, r3, r4)) ∧ Aside0 (kq ≤ k) ∧ Aside0 (Kd.S (Kd.slice 3 (Kd.int .i64)) 23 w' w.heap.size (fun k_ => some k_ ≠ ((.slice Ao12 y257.length co12) : Value).ownBlock) u261001 x261001_1) ∧ Aside0 (Kd.R (Kd.int .i64) 3 w' w.heap.size (fun _ => True) (.slice Ao12 y257.length co12) y257) ∧ Aside0 (w'.heap[gb252]? = some (.cells #[.int .i64 a0_0, (.slice A0_1 l0_1.length c0_1), (.slice A0_2 l0_2.length c0_2), .int .i64 a0_3] 28 (0, 0))) ∧ Aside0 (w'.heap[gb253]? = some (.cells #[.int .i64 0, (.slice none 0 0), (.slice none 0 0), .int .i64 0] 28 (0, 0))) ∧ Aside0 (w'.heap[gb260]? = some (.cells #[.int .i64 a0_0, u261001, (.slice Ao12 y257.length co12), .int .i64 a0_3] 28 (0, 0))) ∧ Aside0 (Below w.heap.size w w'))
  case atStart => exact ⟨(0), (([] : List (List Int))), (.slice none 0 0), (by first | rfl | (simp; done) | (simp [*]; done)), H', ⟨Nat.le_refl _⟩, ⟨by first | exact Kd.S_nil _ _ _ _ _ | exact Kd.N_nil _ _ _ _ _ | exact Kd.V_nil _ _ _ _ _ | exact Kd.Q_nil _ _ _ _ _ | exact Kd.R_nil _ _ _ _ _⟩, ⟨gR HO259 BK260⟩, ⟨bf NB252_260 BK252⟩, ⟨bf NB253_260 BK253⟩, ⟨bp BK260⟩, ⟨by exact bh⟩⟩
  case round =>
   clear H'
   try clear c2
   try clear p2
   try clear c6
   obtain ⟨x4_1, x261001_1, u261001, rfl, HA, HK1, HO_261001, HO_261002, BK252, BK253, BK260, HB⟩ := hrel
   cases gk with
   | zero => exact absurd HA.out (by simp [spec_l7Copy.l0])
   | succ k1 =>
    have H := HA.out
    clear HA
    simp only [spec_l7Copy.l0] at H
    by_cases c17 : x4_1 < (l0_1.length : Int)
    ·rw [if_pos c17] at H
     have c17b0 : decide (x4_1 < (l0_1.length : Int)) = true := decide_eq_true c17
     clear c17
     obtain ⟨y261, hy261⟩ : ∃ y_ : List Int, y_ = (([] : List Int)) := ⟨_, rfl⟩
     replace H : (if 0 ≤ x4_1 then (if y261.length + (rd_L1 l0_1 x4_1).length < 17592186044416 then (if x261001_1.length < 5864062014805 then (spec_l7Copy.l0 k1 (wrap64 (x4_1 + 1)) a0_0 l0_1 l0_2 a0_3 a0_0 (x261001_1 ++ [(y261 ++ (rd_L1 l0_1 x4_1))]) y257 a0_3) else (none)) else (none)) else (none)) = some (r1, r2, r3, r4) := by first | (rw [hy261]; with_reducible exact H) | (have H2_ := (Option.bind_some _ _).symm.trans H; rw [hy261]; with_reducible exact H2_) | (have H2_ := (Option.bind_some _ _).symm.trans H; with_reducible exact H2_) | with_reducible exact H | (rw [hy261]; exact H) | exact H
     have Ny261 := Aside0.mk hy261
     clear hy261
     by_cases c18 : 0 ≤ x4_1
     ·rw [if_pos c18] at H
      have c18b0 : decide (0 ≤ x4_1) = true := decide_eq_true c18
      clear c18
      by_cases c19 : y261.length + (rd_L1 l0_1 x4_1).length < 17592186044416
      ·rw [if_pos c19] at H
       have LMc19 := Aside0.mk c19
       clear c19
       obtain ⟨y265, hy265⟩ : ∃ y_ : List Int, y_ = (y261 ++ (rd_L1 l0_1 x4_1)) := ⟨_, rfl⟩
       replace H : (if x261001_1.length < 5864062014805 then (spec_l7Copy.l0 k1 (wrap64 (x4_1 + 1)) a0_0 l0_1 l0_2 a0_3 a0_0 (x261001_1 ++ [y265]) y257 a0_3) else (none)) = some (r1, r2, r3, r4) := by first | (rw [hy265]; with_reducible exact H) | (have H2_ := (Option.bind_some _ _).symm.trans H; rw [hy265]; with_reducible exact H2_) | (have H2_ := (Option.bind_some _ _).symm.trans H; with_reducible exact H2_) | with_reducible exact H | (rw [hy265]; exact H) | exact H
       have Ny265 := Aside0.mk hy265
       clear hy265
       by_cases c20 : x261001_1.length < 5864062014805
       ·rw [if_pos c20] at H
        have LMc20 := Aside0.mk c20
        clear c20
        obtain ⟨y268, hy268⟩ : ∃ y_ : List (List Int), y_ = (x261001_1 ++ [y265]) := ⟨_, rfl⟩
        replace H : (spec_l7Copy.l0 k1 (wrap64 (x4_1 + 1)) a0_0 l0_1 l0_2 a0_3 a0_0 y268 y257 a0_3) = some (r1, r2, r3, r4) := by first | (rw [hy268]; with_reducible exact H) | (have H2_ := (Option.bind_some _ _).symm.trans H; rw [hy268]; with_reducible exact H2_) | (have H2_ := (Option.bind_some _ _).symm.trans H; with_reducible exact H2_) | with_reducible exact H | (rw [hy268]; exact H) | exact H
        have Ny268 := Aside0.mk hy268
        clear hy268
        have H' := Aside0.mk H
        clear H
        have hnb21 := NB252_253.out
        have hnc21 := NB253_252.out
        have hnb22 := NB252_260.out
        have hnc22 := NB260_252.out
        have hcz23_0 := cz0 BK252
        have hcz23_1 := cz1 BK252
        have hcz23_2 := cz2 BK252
        have hcz23_3 := cz3 BK252
        have hfz23_0 := blk_frozen BK252.out 0
        have hfz23_1 := blk_frozen BK252.out 1
        have hfz23_2 := blk_frozen BK252.out 2
        have hfz23_3 := blk_frozen BK252.out 3
        try go_wp2
        have n0_ := Aside0.mk (Kd.S_drew HO_261001.out)
        have n1_ := Aside0.mk (Kd.R_drew HO_261002.out)
        have n2_ := Aside0.mk (blk_drew BK252.out)
        have n3_ := Aside0.mk (blk_drew BK253.out)
        have n4_ := Aside0.mk (blk_drew BK260.out)
        have n5_ := Aside0.mk (below_drew1 HB.out)
        clear HO_261001 HO_261002 BK252 BK253 BK260 HB
        have HO_261001 := n0_
        have HO_261002 := n1_
        have BK252 := n2_
        have BK253 := n3_
        have BK260 := n4_
        have HB := n5_
        clear n0_ n1_ n2_ n3_ n4_ n5_
        have p264 : 0 ≤ (x4_1 : Int) := oda
        have q264 : x4_1 < (l0_1.length : Int) := oda
        obtain ⟨ad264, A264_0, c264_0, e264, hx264_0, hl264_0, hi264_0⟩ := at_L1 HR0_1.out x4_1 p264 q264
        have hw264_0 := hx264_0
        cases e264
        replace hx264_0 := (HB.out.cell (World.block_lt_of_cell? w _ hx264_0)).trans hx264_0
        have HR264_0 := Aside0.mk hi264_0
        have HC264_0 := Aside0.mk hl264_0
        clear hi264_0 hl264_0
        replace p264 := eq_true p264
        replace q264 := eq_true q264
        refine start_ (n := 13) (S := fun w' => w'.cell? ⟨gb260, 0, none⟩ = some (.int .i64 a0_0) ∧ w'.cell? ⟨gb260, 1, none⟩ = some (u261001) ∧ w'.cell? ⟨gb260, 2, none⟩ = some (.slice Ao12 y257.length co12) ∧ w'.cell? ⟨gb260, 3, none⟩ = some (.int .i64 a0_3) ∧ w'.cell? ⟨gb252, 0, none⟩ = some (.int .i64 a0_0) ∧ w'.cell? ⟨gb252, 1, none⟩ = some (.slice (some ad264) l0_1.length c0_1) ∧ w'.cell? ⟨gb252, 2, none⟩ = some (.slice A0_2 l0_2.length c0_2) ∧ w'.cell? ⟨gb252, 3, none⟩ = some (.int .i64 a0_3) ∧ w'.cell? (ad264.add (x4_1).toNat) = some (.slice A264_0 (rd_L1 l0_1 x4_1).length c264_0)) (ds := [12]) #[F,F,F,F,F,F,F,F,F,F,F,F,F] kr rfl rfl ⟨cz0 BK260, cz1 BK260, cz2 BK260, cz3 BK260, cz0 BK252, cz1 BK252, cz2 BK252, cz3 BK252, ((HB.out.cell (World.block_lt_of_cell? w _ hw264_0)).trans hw264_0)⟩ (fun hHeld => ?_); refine with_tabW spec_l7Copy.tab5 spec_l7Copy.bits5 (fun HT_ HW_ => ?_)
        generalize wr.drew = w24 at HO_261001 HO_261002 BK252 BK253 BK260 HB HR264_0 hx264_0 hHeld ⊢
        refine pu 0 (some 21) #[T,F,F,F,F,F,F,F,F,F,F,F,F] (any_of HT_.out kr) ?_
        refine pu 3 (some 24) #[T,F,F,T,F,F,F,F,F,F,F,F,F] (any_of HT_.out kr) ?_
        refine pu 5 (some 26) #[T,F,F,T,F,T,F,F,F,F,F,F,F] (any_of HT_.out kr) ?_
        refine tk9 1 (some 22) #[T,T,F,T,F,T,F,F,F,F,F,F,F] (take_ofW HT_.out HW_.out kr) ?_
        refine tk9 4 (some 25) #[T,T,F,T,T,T,F,F,F,F,F,F,F] (take_ofW HT_.out HW_.out kr) ?_
        refine pu 6 (some 27) #[T,T,F,T,T,T,T,F,F,F,F,F,F] (any_of HT_.out kr) ?_
        refine tk9 7 (some 28) #[T,T,F,T,T,T,T,T,F,F,F,F,F] (take_ofW HT_.out HW_.out kr) ?_
        refine one_ (i := 2) (N := some 23) #[T,T,T,T,T,T,T,T,F,F,F,F,F] rfl rfl (one_of HT_.out kr) (by decide) (fun K hK => ?_)
        refine Kd.R_lit_step (Kd.int .i64) _ 3 ?hg (N := 23) ?hd (xs := ([] : List Int)) (inner := []) (ok := fun _ => True) (okp := fun _ => True) ?hr ?hp (fun _ hk => hk) trivial (Below.refl _ _) (Nat.le_refl _) (by simp) ?_; (case hd => rfl); (case hg => rfl); (case hr => first | (go_simp; done) | (go_simp; rfl)); (case hp => exact (Reps.none _ _))
        intro v262 w25 ho26 hb hg_ hnew_
        clear hg_ hnew_
        (first | rw [← Ny261.out] at ho26 | (simp only [Int.reduceToNat] at ho26; rw [← Ny261.out] at ho26))
        have n0_ := Aside0.mk (Kd.S_elder' (sz HO_261001) (Kd.R_base ho26) hb)
        have n1_ := Aside0.mk (Kd.R_elder' (rz HO_261002) (Kd.R_base ho26) hb)
        have n2_ := Aside0.mk (Kd.R_lower (Kd.R_new' ho26 (Kd.R_lt (rz HO_261002))) (below_size bh))
        have n3_ := Aside0.mk (blk_below (bz BK252) hb)
        have n4_ := Aside0.mk (blk_below (bz BK253) hb)
        have n5_ := Aside0.mk (blk_below (bz BK260) hb)
        have n6_ := Aside0.mk (below_step bh hb)
        clear HO_261001 HO_261002 BK252 BK253 BK260 HB
        have HO_261001 := n0_
        have HO_261002 := n1_
        have HO263 := n2_
        have BK252 := n3_
        have BK253 := n4_
        have BK260 := n5_
        have HB := n6_
        clear n0_ n1_ n2_ n3_ n4_ n5_ n6_ hb ho26
        refine hK.out _ _ ⟨cz0 BK260, cz1 BK260, cz2 BK260, cz3 BK260, cz0 BK252, cz1 BK252, cz2 BK252, cz3 BK252, ((HB.out.cell (World.block_lt_of_cell? w _ hw264_0)).trans hw264_0)⟩ (fun hHeld => ?_)
        clear hK K
        refine norm_ (a' := ?_) ?_ ?_
        rotate_left
        ·show Act.put _ (some 23) _ = _
         simp only [Act.put, List.setIfInBounds_toArray, List.set_cons_zero, List.set_cons_succ, i64_w, i32_w]
         rfl
        refine one_ (i := 8) (N := some 29) #[T,T,T,T,T,T,T,T,T,F,F,F,F] rfl rfl (one_of HT_.out kr) (by decide) (fun K hK => ?_)
        refine Kd.R_append_rows_step (Kd.int .i64) (w0 := w) w.heap.size (by rfl) (.tmp 23) (.tmp 28) 23 3 (.int .i64 0) 8 rfl Try.underlying23 info3 rfl (by decide) (by omega) v262 y261 (rd_L1 l0_1 x4_1) _ _ _ (fun k_ => some k_ ≠ (.slice Ao12 y257.length co12 : Value).ownBlock) (fun _ => False) rfl rfl ?aO ?aR (fun _ _ h => h) (fun _ h => h.elim) ?aF ?aB ?aS ?aL ?_
        (case aR => repeat (first | exact (Kd.C_below HR264_0.out HB.out) | (with_reducible refine Kd.C_alloc ?_ _) | (with_reducible refine Kd.C_drewN ?_ _) | (with_reducible refine Kd.C_drew ?_)))
        (case aB => exact bh)
        (case aF => exact (fun k_ hk => Kd.fresh' (Kd.R_lt (rz HO_261002)) k_ hk))
        (case aO => exact (mR HO263))
        (case aS => exact (below_size bh))
        (case aL => have := LMc19.out; omega)
        intro v266 w27 ho hb hg hat
        rw [← Ny265.out] at ho
        have n0_ := Aside0.mk (Kd.S_after (ok := (fun k_ => some k_ ≠ (.slice Ao12 y257.length co12 : Value).ownBlock)) (sz HO_261001) hg hat)
        have n1_ := Aside0.mk (Kd.R_after (ok := (fun _ => True)) (rz HO_261002) hg hat)
        have n2_ := Aside0.mk (blk_grown (bz BK252) hg (Kd.R_ne HO263.out BK252.out (by decide)))
        have n3_ := Aside0.mk (blk_grown (bz BK253) hg (Kd.R_ne HO263.out BK253.out (by decide)))
        have n4_ := Aside0.mk (blk_grown (bz BK260) hg (Kd.R_ne HO263.out BK260.out (by decide)))
        have n5_ := Aside0.mk (hb)
        have n6_ := Aside0.mk (ho)
        clear HO_261001 HO_261002 BK252 BK253 BK260 HB HO263
        have HO_261001 := n0_
        have HO_261002 := n1_
        have BK252 := n2_
        have BK253 := n3_
        have BK260 := n4_
        have HB := n5_
        have HO267 := n6_
        clear n0_ n1_ n2_ n3_ n4_ n5_ n6_ ho hb hg hat
        obtain ⟨Ao29, co29, eo29⟩ := Kd.R_slice HO267.out
        (first | subst eo29 | (injection eo29 with f1_ f2_ f3_; have f4_ := f1_.symm; have f5_ := f3_.symm; clear f1_ f2_ f3_; subst f4_; subst f5_))
        refine hK.out _ _ ⟨cz0 BK260, cz1 BK260, cz2 BK260, cz3 BK260, cz0 BK252, cz1 BK252, cz2 BK252, cz3 BK252, ((HB.out.cell (World.block_lt_of_cell? w _ hw264_0)).trans hw264_0)⟩ (fun hHeld => ?_)
        clear hK K
        refine norm_ (a' := ?_) ?_ ?_
        rotate_left
        ·show Act.put _ (some 29) _ = _
         simp only [Act.put, List.setIfInBounds_toArray, List.set_cons_zero, List.set_cons_succ, i64_w, i32_w]
         rfl
        refine one_ (i := 9) (N := some 30) #[T,T,T,T,T,T,T,T,T,T,F,F,F] rfl rfl (one_of HT_.out kr) (by decide) (fun K hK => ?_)
        refine value_ (w1 := ?_) (v := ?_) (by rfl) rfl ?_ ?_
        rotate_left 2
        ·go_simp
         constructor
         ·rfl
         ·rfl
        refine hK.out _ _ ⟨(blk_cell (blk_alloc BK260.out _) 0).trans rfl, (blk_cell (blk_alloc BK260.out _) 1).trans rfl, (blk_cell (blk_alloc BK260.out _) 2).trans rfl, (blk_cell (blk_alloc BK260.out _) 3).trans rfl, (blk_cell (blk_alloc BK252.out _) 0).trans rfl, (blk_cell (blk_alloc BK252.out _) 1).trans rfl, (blk_cell (blk_alloc BK252.out _) 2).trans rfl, (blk_cell (blk_alloc BK252.out _) 3).trans rfl, (World.cell?_alloc_lt _ _ _ (World.block_lt_of_cell? _ _ (((HB.out.cell (World.block_lt_of_cell? w _ hw264_0)).trans hw264_0)))).trans (((HB.out.cell (World.block_lt_of_cell? w _ hw264_0)).trans hw264_0))⟩ (fun hHeld => ?_)
        clear hK K
        refine norm_ (a' := ?_) ?_ ?_
        rotate_left
        ·show Act.put _ (some 30) _ = _
         simp only [Act.put, List.setIfInBounds_toArray, List.set_cons_zero, List.set_cons_succ, i64_w, i32_w]
         rfl
        refine one_ (i := 10) (N := some 31) #[T,T,T,T,T,T,T,T,T,T,T,F,F] rfl rfl (one_of HT_.out kr) (by decide) (fun K hK => ?_)
        refine Kd.S_append_step (Kd.slice 3 (Kd.int .i64)) (w0 := w) w.heap.size (by rfl) (.tmp 22) (.tmp 30) 22 23 (.slice none 0 0) 24 rfl Try.underlying22 info23 rfl (by decide) (by omega) u261001 x261001_1 y265 [.slice Ao29 y265.length co29] (fun k_ => some k_ ≠ (.slice Ao12 y257.length co12 : Value).ownBlock) (fun k_ => some k_ = (.slice Ao29 y265.length co29 : Value).ownBlock) rfl rfl ?aP (fun k_ hk_ => ((Kd.R_mono (ok' := fun k_ => ((fun k_ => some k_ ≠ (.slice Ao12 y257.length co12 : Value).ownBlock)) k_ ∧ some k_ ≠ (u261001 : Value).ownBlock) (Kd.R_apart' (HO267.out) (Kd.S_typed HO_261001.out) (by decide)) (fun k_ hk => ⟨hk.1, hk.2⟩))).1 k_ hk_.symm) ?aF ?aO ?aB ?aS ?aL ?_
        (case aP => exact Kd.M_row (Kd.R_mono (Kd.R_tight rfl (Kd.R_mono (ok' := fun k_ => ((fun k_ => some k_ ≠ (.slice Ao12 y257.length co12 : Value).ownBlock)) k_ ∧ some k_ ≠ (u261001 : Value).ownBlock) (Kd.R_apart' (HO267.out) (Kd.S_typed HO_261001.out) (by decide)) (fun k_ hk => ⟨hk.1, hk.2⟩))) (fun _ h_ => h_)))
        (case aB => exact bh)
        (case aF => exact (fun k_ hk => Kd.fresh' (Kd.R_lt (rz HO_261002)) k_ hk))
        (case aO => exact (by (with_reducible repeat (first | apply Kd.S_alloc | apply Kd.S_drewN | apply Kd.S_drew)); exact Kd.S_mono HO_261001.out (fun k_ hk => ⟨hk.1, fun e_ => hk.2 e_⟩)))
        (case aS => exact (below_size bh))
        (case aL => have := LMc20.out; omega)
        intro v269 w28 ho hb hg hat
        rw [← Ny268.out] at ho
        have n0_ := Aside0.mk (Kd.R_over' (rz HO_261002) (Kd.S_typed (sz HO_261001)) (by decide) hg)
        have n1_ := Aside0.mk (blk_grown (bz BK252) hg (Kd.S_ne HO_261001.out BK252.out (by decide)))
        have n2_ := Aside0.mk (blk_grown (bz BK253) hg (Kd.S_ne HO_261001.out BK253.out (by decide)))
        have n3_ := Aside0.mk (blk_grown (bz BK260) hg (Kd.S_ne HO_261001.out BK260.out (by decide)))
        have n4_ := Aside0.mk (hb)
        have n5_ := Aside0.mk (ho)
        clear HO_261002 BK252 BK253 BK260 HB HO_261001 HO267
        have HO_261002 := n0_
        have BK252 := n1_
        have BK253 := n2_
        have BK260 := n3_
        have HB := n4_
        have HO270 := n5_
        clear n0_ n1_ n2_ n3_ n4_ n5_ ho hb hg hat
        obtain ⟨Ao30, co30, eo30⟩ := Kd.S_slice HO270.out
        (first | subst eo30 | (injection eo30 with f1_ f2_ f3_; have f4_ := f1_.symm; have f5_ := f3_.symm; clear f1_ f2_ f3_; subst f4_; subst f5_))
        refine hK.out _ _ ⟨cz0 BK260, cz1 BK260, cz2 BK260, cz3 BK260, cz0 BK252, cz1 BK252, cz2 BK252, cz3 BK252, ((HB.out.cell (World.block_lt_of_cell? w _ hw264_0)).trans hw264_0)⟩ (fun hHeld => ?_)
        clear hK K
        refine norm_ (a' := ?_) ?_ ?_
        rotate_left
        ·show Act.put _ (some 31) _ = _
         simp only [Act.put, List.setIfInBounds_toArray, List.set_cons_zero, List.set_cons_succ, i64_w, i32_w]
         rfl
        refine pu 11 (some 32) #[T,T,T,T,T,T,T,T,T,T,T,T,F] (any_of HT_.out kr) ?_
        refine last_ (i := 12) (N := none) #[T,T,T,T,T,T,T,T,T,T,T,T,T] rfl rfl (one_of HT_.out kr) (by decide) (fun K hK => ?_)
        have hs31 := cz1 BK260
        have hfs31 := blk_frozen BK260.out 1
        have hns31_0 := NB252_260.out
        have hns31_1 := NB253_260.out
        have hms31_0 := NB260_252.out
        have hms31_1 := NB260_253.out
        refine skip_ (w1 := ?_) (by rfl) rfl ?_ ?_
        rotate_left
        ·go_simp
         rfl
        refine hK.out _ _ ?_
        clear hK K
        refine done_ (done_of HT_.out kr) ?_
        try go_wp2
        go_roundg k1
        case measure => have := HK1.out; omega
        case rel => exact ⟨(wrap64 (x4_1 + 1)), (y268), (.slice Ao30 y268.length co30), (by first | rfl | (simp; done) | (simp [*]; done)), H', ⟨by have := HK1.out; omega⟩, ⟨gS HO270 BK260⟩, ⟨gR HO_261002 BK260⟩, ⟨bf NB252_260 BK252⟩, ⟨bf NB253_260 BK253⟩, ⟨bp BK260⟩, ⟨by exact bh⟩⟩
       ·rw [if_neg c20] at H
        exact absurd H (by simp)
      ·rw [if_neg c19] at H
       exact absurd H (by simp)
     ·rw [if_neg c18] at H
      exact absurd H (by simp)
    ·rw [if_neg c17] at H
     have c17b0 : decide (x4_1 < (l0_1.length : Int)) = false := decide_eq_false c17
     clear c17
     simp only [Option.some.injEq, Prod.mk.injEq] at H
     obtain ⟨rfl, rfl, rfl, rfl⟩ := H
     have hnb32 := NB252_253.out
     have hnc32 := NB253_252.out
     have hnb33 := NB252_260.out
     have hnc33 := NB260_252.out
     have hcz34_0 := cz0 BK252
     have hcz34_1 := cz1 BK252
     have hcz34_2 := cz2 BK252
     have hcz34_3 := cz3 BK252
     have hfz34_0 := blk_frozen BK252.out 0
     have hfz34_1 := blk_frozen BK252.out 1
     have hfz34_2 := blk_frozen BK252.out 2
     have hfz34_3 := blk_frozen BK252.out 3
     have hnb35 := NB260_253.out
     have hnc35 := NB253_260.out
     have hcz36_0 := cz0 BK260
     have hcz36_1 := cz1 BK260
     have hcz36_2 := cz2 BK260
     have hcz36_3 := cz3 BK260
     have hfz36_0 := blk_frozen BK260.out 0
     have hfz36_1 := blk_frozen BK260.out 1
     have hfz36_2 := blk_frozen BK260.out 2
     have hfz36_3 := blk_frozen BK260.out 3
     have hcz37_0 := cz0 BK253
     have hcz37_1 := cz1 BK253
     have hcz37_2 := cz2 BK253
     have hcz37_3 := cz3 BK253
     have hfz37_0 := blk_frozen BK253.out 0
     have hfz37_1 := blk_frozen BK253.out 1
     have hfz37_2 := blk_frozen BK253.out 2
     have hfz37_3 := blk_frozen BK253.out 3
     obtain ⟨Ao38, co38, eo38⟩ := Kd.S_slice HO_261001.out
     subst eo38
     go_wp2
     refine bodyPost_ret (results_cell_row rfl _ _ gb253 28 #[.int .i64 a0_0, .slice Ao38 x261001_1.length co38, .slice Ao12 y257.length co12, .int .i64 a0_3] (0, 0) _ rfl (bp BK253) Try.underlying28 rfl kr) rfl ?_
     exact ⟨_, _, by first | rfl | (simp [errW_none, errW_some] <;> rfl) | (simp [*, errW_none, errW_some] <;> rfl), by (with_reducible repeat (first | apply Kd.S_alloc | apply Kd.S_drewN | apply Kd.S_drew)); exact Kd.S_mono (Kd.S_far (p := ⟨gb253, 3, none⟩) (Kd.S_far (p := ⟨gb253, 2, none⟩) (Kd.S_far (p := ⟨gb253, 1, none⟩) (Kd.S_far (p := ⟨gb253, 0, none⟩) (Kd.S_types HO_261001.out BK253.out (by decide)) (fun _ hk => hk.2) (.int .i64 a0_0)) (fun _ hk => hk.2) (.slice Ao38 x261001_1.length co38)) (fun _ hk => hk.2) (.slice Ao12 y257.length co12)) (fun _ hk => hk.2) (.int .i64 a0_3)) (fun _ hk => hk.1), by (with_reducible repeat (first | apply Kd.R_alloc | apply Kd.R_drewN | apply Kd.R_drew)); exact Kd.R_mono (Kd.R_far (p := ⟨gb253, 3, none⟩) (Kd.R_far (p := ⟨gb253, 2, none⟩) (Kd.R_far (p := ⟨gb253, 1, none⟩) (Kd.R_far (p := ⟨gb253, 0, none⟩) (Kd.R_types HO_261002.out BK253.out (by decide)) (fun _ hk => hk.2) (.int .i64 a0_0)) (fun _ hk => hk.2) (.slice Ao38 x261001_1.length co38)) (fun _ hk => hk.2) (.slice Ao12 y257.length co12)) (fun _ hk => hk.2) (.int .i64 a0_3)) (fun _ hk => trivial), by exact bh⟩
 ·rw [if_neg c2] at H
  exact absurd H (by simp)

end Go.Proofs.Ytlpjkeejflogjaa.QFnExactAfterDeath
