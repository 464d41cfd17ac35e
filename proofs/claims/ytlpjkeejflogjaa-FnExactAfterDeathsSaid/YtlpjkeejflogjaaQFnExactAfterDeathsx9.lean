-- Printed for this claim by a turned copy of the print (wip/myprint). Lean checks it. Squeezed. Worded. Tightened.
import Derived.Test.YtlpjkeejflogjaaQFnExactAfterDeathsx0
namespace Go.Proofs.Ytlpjkeejflogjaa.QFnExactAfterDeaths
open Go.RowKit Go.Proofs.YtlpjkeejflogjaaW.PrintWords Go.Proofs.YtlpjkeejflogjaaW.PrintLast Go.Proofs.YtlpjkeejflogjaaW.PrintMore
attribute [local go_sem] max2_int min2_int max_two min_two max_three min_three max_four min_four Opens.cell_twice   -- for this text's walks alone
set_option linter.unusedVariables false
set_option linter.unusedSimpArgs false

/-! ### spec_l7Copy: function 67 -/
def spec_l7Copy.l0 : Nat → Int → Int → List (List Int) → List Int → Int → Int → List (List Int) → List Int → Int → Option (Int × (List (List Int)) × List Int × Int)
 | 0, _, _, _, _, _, _, _, _, _ => none
 | k + 1, x4, x262000, x262001, x262002, x262003, x270000, x270001, x270002, x270003 => if x4 < (x262001.length : Int) then ((some (([] : List Int) : List Int)).bind fun y270 => (if 0 ≤ x4 then (if y270.length + (rd_L1 x262001 x4).length < 17592186044416 then (if x270001.length < 5864062014805 then (spec_l7Copy.l0 k (wrap64 (x4 + 1)) x262000 x262001 x262002 x262003 x270000 (x270001 ++ [(y270 ++ (rd_L1 x262001 x4))]) x270002 x270003) else (none)) else (none)) else (none))) else (some (x270000, x270001, x270002, x270003))
def spec_l7Copy.f (k : Nat) (a0_0 : Int) (l0_1 : List (List Int)) (l0_2 : List Int) (a0_3 : Int) : Option (Int × (List (List Int)) × List Int × Int) := (some (([] : List Int) : List Int)).bind fun y263 => (if y263.length + l0_2.length < 17592186044416 then (spec_l7Copy.l0 k 0 a0_0 l0_1 l0_2 a0_3 a0_0 ([] : List (List Int)) (y263 ++ l0_2) a0_3) else (none))
theorem spec_l7Copy.mono_l : ∀ k, (∀ y0 y1 y2 y3 y4 y5 y6 y7 y8, LeO (spec_l7Copy.l0 k y0 y1 y2 y3 y4 y5 y6 y7 y8) (spec_l7Copy.l0 (k + 1) y0 y1 y2 y3 y4 y5 y6 y7 y8))
 | 0 => fun _ _ _ _ _ _ _ _ _ r h => by simp [spec_l7Copy.l0] at h
 | k + 1 => by
  have ih0 := spec_l7Copy.mono_l k
  ·intro y0 y1 y2 y3 y4 y5 y6 y7 y8
   unfold spec_l7Copy.l0
   repeat' first
   | (with_reducible exact ih0 _ _ _ _ _ _ _ _ _)
   | (with_reducible exact LeO.refl _)
   | (with_reducible exact LeO.none _)
   | (with_reducible refine LeO.ite ?_ ?_)
   | (with_reducible refine LeO.bind ?_ (fun _ => ?_))
   | exact ih0 _ _ _ _ _ _ _ _ _
   | exact LeO.none _
   | refine LeO.ite ?_ ?_
   | refine LeO.bind ?_ (fun _ => ?_)
theorem spec_l7Copy.mono : ∀ a0 a1 a2 a3 k, LeO (spec_l7Copy.f k a0 a1 a2 a3) (spec_l7Copy.f (k + 1) a0 a1 a2 a3) := by
 intro a0 a1 a2 a3 k
 have ih0 := spec_l7Copy.mono_l k
 unfold spec_l7Copy.f
 repeat' first
   | (with_reducible exact ih0 _ _ _ _ _ _ _ _ _)
   | (with_reducible exact LeO.refl _)
   | (with_reducible exact LeO.none _)
   | (with_reducible refine LeO.ite ?_ ?_)
   | (with_reducible refine LeO.bind ?_ (fun _ => ?_))
   | exact ih0 _ _ _ _ _ _ _ _ _
   | exact LeO.none _
   | refine LeO.ite ?_ ?_
   | refine LeO.bind ?_ (fun _ => ?_)
def spec_l7Copy.T1 : Bool × List (List Nat × List Nat) := (true, [([], []), ([0], [0]), ([], []), ([2], [2]), ([], []), ([], []), ([5], [5]), ([4, 6], [4, 6]), ([1, 3, 7], [1, 3, 7]), ([], []), ([9, 8, 7, 0, 1, 2, 3, 4, 5, 6, 7, 8, 9], [8, 9])])
def spec_l7Copy.B1 : List Nat := [0, 1, 0, 4, 0, 0, 32, 112, 255, 0, 1023]
theorem spec_l7Copy.tab1 : rtab .any (opsOf Try.f67 1) = spec_l7Copy.T1 := by kernel_rfl
theorem spec_l7Copy.bits1 : waitsOk spec_l7Copy.T1.2 spec_l7Copy.B1 = true := by kernel_rfl
def spec_l7Copy.T5 : Bool × List (List Nat × List Nat) := (true, [([], []), ([0], [0]), ([], []), ([], []), ([3], [3]), ([], []), ([4, 5], [4, 5]), ([6], [6]), ([2, 7], [2, 7]), ([8], [8]), ([1, 9, 8], [1, 9]), ([0, 1, 2, 3, 4, 5, 6, 7, 8, 9, 10], []), ([11, 10, 10, 0, 1, 2, 3, 4, 5, 6, 7, 8, 9, 10], [10, 11])])
def spec_l7Copy.B5 : List Nat := [0, 1, 0, 0, 8, 0, 56, 120, 252, 508, 1023, 2047, 4095]
theorem spec_l7Copy.tab5 : rtab .any (opsOf Try.f67 5) = spec_l7Copy.T5 := by kernel_rfl
theorem spec_l7Copy.bits5 : waitsOk spec_l7Copy.T5.2 spec_l7Copy.B5 = true := by kernel_rfl
set_option maxHeartbeats 8000000 in
set_option maxRecDepth 100000 in
theorem spec_l7Copy.calls (k : Nat) (a0_0 : Int) (A0_1 : Option Addr) (c0_1 : Nat) (l0_1 : List (List Int)) (A0_2 : Option Addr) (c0_2 : Nat) (l0_2 : List Int) (a0_3 : Int) (r1 : Int) (r2 : List (List Int)) (r3 : List Int) (r4 : Int) (w : World) (hr0_1 : Kd.C (Kd.slice 3 (Kd.int .i64)) w A0_1 l0_1.length l0_1) (hc0_1 : l0_1.length ≤ c0_1) (hr0_2 : Kd.C (Kd.int .i64) w A0_2 l0_2.length l0_2) (hc0_2 : l0_2.length ≤ c0_2) (h : spec_l7Copy.f k a0_0 l0_1 l0_2 a0_3 = some (r1, r2, r3, r4)) :
  Calls Try.prog 67 #[.agg #[.int .i64 a0_0, .slice A0_1 l0_1.length c0_1, .slice A0_2 l0_2.length c0_2, .int .i64 a0_3]] w fun e w' => ∃ v1_ v2_ : Value, e = .returned (.agg #[.int .i64 r1, v1_, v2_, .int .i64 r4]) ∧ Kd.S (Kd.slice 3 (Kd.int .i64)) 23 w' w.heap.size (fun k_ => some k_ ≠ (v2_ : Value).ownBlock) v1_ r2 ∧ Kd.R (Kd.int .i64) 3 w' w.heap.size (fun _ => True) v2_ r3 ∧ Below w.heap.size w w' := by
 have hu28 := Try.underlying28
 have HR0_1 := Aside0.mk hr0_1
 have HC0_1 := Aside0.mk hc0_1
 clear hr0_1 hc0_1
 have HR0_2 := Aside0.mk hr0_2
 have HC0_2 := Aside0.mk hc0_2
 clear hr0_2 hc0_2
 have HB := Aside0.mk (Below.refl w.heap.size w)
 have H : ((some (([] : List Int) : List Int)).bind fun y263 => (if y263.length + l0_2.length < 17592186044416 then (spec_l7Copy.l0 k 0 a0_0 l0_1 l0_2 a0_3 a0_0 ([] : List (List Int)) (y263 ++ l0_2) a0_3) else (none))) = some (r1, r2, r3, r4) := h
 clear h
 obtain ⟨y263, hy263⟩ : ∃ y_ : List Int, y_ = (([] : List Int)) := ⟨_, rfl⟩
 replace H : (if y263.length + l0_2.length < 17592186044416 then (spec_l7Copy.l0 k 0 a0_0 l0_1 l0_2 a0_3 a0_0 ([] : List (List Int)) (y263 ++ l0_2) a0_3) else (none)) = some (r1, r2, r3, r4) := by first | (rw [hy263]; with_reducible exact H) | (have H2_ := (Option.bind_some _ _).symm.trans H; rw [hy263]; with_reducible exact H2_) | (have H2_ := (Option.bind_some _ _).symm.trans H; with_reducible exact H2_) | with_reducible exact H | (rw [hy263]; exact H) | exact H
 have Ny263 := Aside0.mk hy263
 clear hy263
 by_cases c2 : y263.length + l0_2.length < 17592186044416
 ·rw [if_pos c2] at H
  have LMc2 := Aside0.mk c2
  clear c2
  obtain ⟨y266, hy266⟩ : ∃ y_ : List Int, y_ = (y263 ++ l0_2) := ⟨_, rfl⟩
  replace H : (spec_l7Copy.l0 k 0 a0_0 l0_1 l0_2 a0_3 a0_0 ([] : List (List Int)) y266 a0_3) = some (r1, r2, r3, r4) := by first | (rw [hy266]; with_reducible exact H) | (have H2_ := (Option.bind_some _ _).symm.trans H; rw [hy266]; with_reducible exact H2_) | (have H2_ := (Option.bind_some _ _).symm.trans H; with_reducible exact H2_) | with_reducible exact H | (rw [hy266]; exact H) | exact H
  have Ny266 := Aside0.mk hy266
  clear hy266
  have H' := Aside0.mk H
  clear H
  go_enter Try.func67, Try.ntmps67
  try go_wp2_with (first | ((with_reducible refine gate_dst (N := 1) rfl ?_); refine box_event ?hg (N := 1) ?hd (cs := #[.int .i64 a0_0, .slice A0_1 l0_1.length c0_1, .slice A0_2 l0_2.length c0_2, .int .i64 a0_3]) (t := 28) ?hr ?_; (case hd => rfl); (case hg => rfl); (case hr => first | (go_simp; done) | (go_simp; rfl)); intro gb261 hg w3 hbox hb; have n0_ := Aside0.mk (below_step bh hb); have n1_ := Aside0.mk (hbox); have n2_ := Aside0.mk ((gs (W0 := w) hg bh)); have n3_ := Aside0.mk ((gs (W0 := w) hg bh)); clear HB; have HB := n0_; have BK261 := n1_; have GW261 := n2_; have GE261 := n3_; clear n0_ n1_ n2_ n3_ hb hbox hg) | ((with_reducible refine gate_dst (N := 2) rfl ?_); refine box_event ?hg (N := 2) ?hd (cs := #[.int .i64 0, .slice none 0 0, .slice none 0 0, .int .i64 0]) (t := 28) ?hr ?_; (case hd => rfl); (case hg => rfl); (case hr => first | (go_simp; done) | (go_simp; rfl)); intro gb262 hg w4 hbox hb; have n0_ := Aside0.mk (blk_below (bz BK261) hb); have n1_ := Aside0.mk (below_step bh hb); have n2_ := Aside0.mk (hbox); have n3_ := Aside0.mk ((gs (W0 := w) hg bh)); have n4_ := Aside0.mk ((gs (W0 := w) hg bh)); have n5_ := Aside0.mk ((gn hg (bz BK261))); have n6_ := Aside0.mk ((gm hg (bz BK261))); clear BK261 HB; have BK261 := n0_; have HB := n1_; have BK262 := n2_; have GW262 := n3_; have GE262 := n4_; have NB261_262 := n5_; have NB262_261 := n6_; clear n0_ n1_ n2_ n3_ n4_ n5_ n6_ hb hbox hg))
  have n0_ := Aside0.mk (blk_drew BK261.out)
  have n1_ := Aside0.mk (blk_drew BK262.out)
  have n2_ := Aside0.mk (below_drew1 HB.out)
  clear BK261 BK262 HB
  have BK261 := n0_
  have BK262 := n1_
  have HB := n2_
  clear n0_ n1_ n2_
  refine start_ (n := 11) (S := fun w' => w'.cell? ⟨gb261, 0, none⟩ = some (.int .i64 a0_0) ∧ w'.cell? ⟨gb261, 1, none⟩ = some (.slice A0_1 l0_1.length c0_1) ∧ w'.cell? ⟨gb261, 2, none⟩ = some (.slice A0_2 l0_2.length c0_2) ∧ w'.cell? ⟨gb261, 3, none⟩ = some (.int .i64 a0_3)) (ds := []) #[F,F,F,F,F,F,F,F,F,F,F] kr rfl rfl ⟨cz0 BK261, cz1 BK261, cz2 BK261, cz3 BK261⟩ (fun hHeld => ?_); refine with_tabW spec_l7Copy.tab1 spec_l7Copy.bits1 (fun HT_ HW_ => ?_)
  generalize w4.drew = w5 at BK261 BK262 HB hHeld ⊢
  refine pu 0 (some 5) #[T,F,F,F,F,F,F,F,F,F,F] (any_of HT_.out kr) ?_
  refine pu 2 (some 7) #[T,F,T,F,F,F,F,F,F,F,F] (any_of HT_.out kr) ?_
  refine pu 5 (some 10) #[T,F,T,F,F,T,F,F,F,F,F] (any_of HT_.out kr) ?_
  refine tk4 1 (some 6) #[T,T,T,F,F,T,F,F,F,F,F] (take_ofW HT_.out HW_.out kr) ?_
  refine tk4 3 (some 8) #[T,T,T,T,F,T,F,F,F,F,F] (take_ofW HT_.out HW_.out kr) ?_
  refine tk4 6 (some 11) #[T,T,T,T,F,T,T,F,F,F,F] (take_ofW HT_.out HW_.out kr) ?_
  refine join_ (σ := Value × Value × Nat) 1 #[T,T,T,T,T,T,T,T,T,T,F] (fun s_ => [(9, s_.1), (12, s_.2.1), (3, .pointer (some ⟨s_.2.2, 0, none⟩)), (13, .agg #[.int .i64 a0_0, .slice none 0 0, s_.2.1, .int .i64 a0_3])]) (fun s_ w' => (w'.cell? ⟨gb261, 0, none⟩ = some (.int .i64 a0_0) ∧ w'.cell? ⟨gb261, 1, none⟩ = some (.slice A0_1 l0_1.length c0_1) ∧ w'.cell? ⟨gb261, 2, none⟩ = some (.slice A0_2 l0_2.length c0_2) ∧ w'.cell? ⟨gb261, 3, none⟩ = some (.int .i64 a0_3)) ∧ (Kd.R (Kd.int .i64) 3 w' w.heap.size (fun _ => True) s_.2.1 y266) ∧ (w'.heap[gb261]? = some (.cells #[.int .i64 a0_0, .slice A0_1 l0_1.length c0_1, .slice A0_2 l0_2.length c0_2, .int .i64 a0_3] 28 (0, 0))) ∧ (w'.heap[gb262]? = some (.cells #[.int .i64 0, .slice none 0 0, .slice none 0 0, .int .i64 0] 28 (0, 0))) ∧ (w'.heap[s_.2.2]? = some (.cells #[.int .i64 0, .slice none 0 0, .slice none 0 0, .int .i64 0] 28 (0, 0))) ∧ (w.heap.size ≤ s_.2.2) ∧ (w.heap.size ≤ s_.2.2) ∧ (gb261 ≠ s_.2.2) ∧ (s_.2.2 ≠ gb261) ∧ (gb262 ≠ s_.2.2) ∧ (s_.2.2 ≠ gb262) ∧ (Below w.heap.size w w')) ?_ ?_
  rotate_left
  ·intro hCont
   refine two_ (i := 4) (j := 9) (Ni := some 9) (Nj := some 3) #[T,T,T,T,T,T,T,F,F,F,F] #[T,T,T,T,F,T,T,F,F,T,F] rfl rfl rfl rfl (two_of HT_.out kr) (by decide) (by decide) (fun K hK => ?_) (fun K hK => ?_)
   ·skip
    refine Kd.R_lit_step (Kd.int .i64) _ 3 ?hg (N := 9) ?hd (xs := ([] : List Int)) (inner := []) (ok := fun _ => True) (okp := fun _ => True) ?hr ?hp (fun _ hk => hk) trivial (Below.refl _ _) (Nat.le_refl _) (by simp) ?_; (case hd => rfl); (case hg => rfl); (case hr => first | (go_simp; done) | (go_simp; rfl)); (case hp => exact (Reps.none _ _))
    intro v264 w6 ho7 hb hg_ hnew_
    clear hg_ hnew_
    (first | rw [← Ny263.out] at ho7 | (simp only [Int.reduceToNat] at ho7; rw [← Ny263.out] at ho7))
    have n0_ := Aside0.mk (Kd.R_lower ho7 (below_size bh))
    have n1_ := Aside0.mk (blk_below (bz BK261) hb)
    have n2_ := Aside0.mk (blk_below (bz BK262) hb)
    have n3_ := Aside0.mk (below_step bh hb)
    clear BK261 BK262 HB
    have HO265 := n0_
    have BK261 := n1_
    have BK262 := n2_
    have HB := n3_
    clear n0_ n1_ n2_ n3_ hb ho7
    refine hK.out _ _ ⟨cz0 BK261, cz1 BK261, cz2 BK261, cz3 BK261⟩ (fun hHeld => ?_)
    clear hK K
    refine norm_ (a' := ?_) ?_ ?_
    rotate_left
    ·show Act.put _ (some 9) _ = _
     simp only [Act.put, List.setIfInBounds_toArray, List.set_cons_zero, List.set_cons_succ, i64_w, i32_w]
     rfl
    refine two_ (i := 7) (j := 9) (Ni := some 12) (Nj := some 3) #[T,T,T,T,T,T,T,T,F,F,F] #[T,T,T,T,T,T,T,F,F,T,F] rfl rfl rfl rfl (two_of HT_.out kr) (by decide) (by decide) (fun K hK => ?_) (fun K hK => ?_)
    ·skip
     refine Kd.R_append_rows_step (Kd.int .i64) (w0 := w) w.heap.size (by rfl) (.tmp 9) (.tmp 11) 23 3 (.int .i64 0) 8 rfl Try.underlying23 info3 rfl (by decide) (by omega) v264 y263 l0_2 _ _ _ (fun _ => True) (fun _ => False) rfl rfl ?aO ?aR (fun _ _ h => h) (fun _ h => h.elim) ?aF ?aB ?aS ?aL ?_
     (case aR => repeat (first | exact (Kd.C_below HR0_2.out HB.out) | (with_reducible refine Kd.C_alloc ?_ _) | (with_reducible refine Kd.C_drewN ?_ _) | (with_reducible refine Kd.C_drew ?_)))
     (case aB => exact bh)
     (case aF => exact (fun _ _ => trivial))
     (case aO => exact (rz HO265))
     (case aS => exact (below_size bh))
     (case aL => have := LMc2.out; omega)
     intro v267 w8 ho hb hg hat
     rw [← Ny266.out] at ho
     have n0_ := Aside0.mk (blk_grown (bz BK261) hg (Kd.R_ne HO265.out BK261.out (by decide)))
     have n1_ := Aside0.mk (blk_grown (bz BK262) hg (Kd.R_ne HO265.out BK262.out (by decide)))
     have n2_ := Aside0.mk (hb)
     have n3_ := Aside0.mk (ho)
     clear BK261 BK262 HB HO265
     have BK261 := n0_
     have BK262 := n1_
     have HB := n2_
     have HO268 := n3_
     clear n0_ n1_ n2_ n3_ ho hb hg hat
     obtain ⟨Ao9, co9, eo9⟩ := Kd.R_slice HO268.out
     (first | subst eo9 | (injection eo9 with f1_ f2_ f3_; have f4_ := f1_.symm; have f5_ := f3_.symm; clear f1_ f2_ f3_; subst f4_; subst f5_))
     refine hK.out _ _ ⟨cz0 BK261, cz1 BK261, cz2 BK261, cz3 BK261⟩ (fun hHeld => ?_)
     clear hK K
     refine norm_ (a' := ?_) ?_ ?_
     rotate_left
     ·show Act.put _ (some 12) _ = _
      simp only [Act.put, List.setIfInBounds_toArray, List.set_cons_zero, List.set_cons_succ, i64_w, i32_w]
      rfl
     refine pu 8 (some 13) #[T,T,T,T,T,T,T,T,T,F,F] (any_of HT_.out kr) ?_
     refine one_ (i := 9) (N := some 3) #[T,T,T,T,T,T,T,T,T,T,F] rfl rfl (one_of HT_.out kr) (by decide) (fun K hK => ?_)
     refine box_step ?hg (N := 3) ?hd (cs := #[.int .i64 0, .slice none 0 0, .slice none 0 0, .int .i64 0]) (t := 28) ?hr ?_; (case hd => rfl); (case hg => rfl); (case hr => first | (go_simp; done) | (go_simp; rfl))
     intro gb269 hg w10 hbox hb
     have n0_ := Aside0.mk (Kd.R_below (rz HO268) hb)
     have n1_ := Aside0.mk (blk_below (bz BK261) hb)
     have n2_ := Aside0.mk (blk_below (bz BK262) hb)
     have n3_ := Aside0.mk (below_step bh hb)
     have n4_ := Aside0.mk (hbox)
     have n5_ := Aside0.mk ((gs (W0 := w) hg bh))
     have n6_ := Aside0.mk ((gs (W0 := w) hg bh))
     have n7_ := Aside0.mk ((gn hg (bz BK261)))
     have n8_ := Aside0.mk ((gm hg (bz BK261)))
     have n9_ := Aside0.mk ((gn hg (bz BK262)))
     have n10_ := Aside0.mk ((gm hg (bz BK262)))
     clear HO268 BK261 BK262 HB
     have HO268 := n0_
     have BK261 := n1_
     have BK262 := n2_
     have HB := n3_
     have BK269 := n4_
     have GW269 := n5_
     have GE269 := n6_
     have NB261_269 := n7_
     have NB269_261 := n8_
     have NB262_269 := n9_
     have NB269_262 := n10_
     clear n0_ n1_ n2_ n3_ n4_ n5_ n6_ n7_ n8_ n9_ n10_ hb hbox hg
     refine hK.out _ _ ⟨cz0 BK261, cz1 BK261, cz2 BK261, cz3 BK261⟩ (fun hHeld => ?_)
     clear hK K
     refine norm_ (a' := ?_) ?_ ?_
     rotate_left
     ·show Act.put _ (some 3) _ = _
      simp only [Act.put, List.setIfInBounds_toArray, List.set_cons_zero, List.set_cons_succ, i64_w, i32_w]
      rfl
     exact norm_ (by simp only [putAll, Act.put, List.setIfInBounds_toArray, List.set_cons_zero, List.set_cons_succ]) (hCont (v264, .slice Ao9 y266.length co9, gb269) _ ⟨hHeld, (rz HO268), (bz BK261), (bz BK262), (bz BK269), GW269.out, GE269.out, NB261_269.out, NB269_261.out, NB262_269.out, NB269_262.out, bh⟩)
    ·skip
     refine box_step ?hg (N := 3) ?hd (cs := #[.int .i64 0, .slice none 0 0, .slice none 0 0, .int .i64 0]) (t := 28) ?hr ?_; (case hd => rfl); (case hg => rfl); (case hr => first | (go_simp; done) | (go_simp; rfl))
     intro gb269 hg w8 hbox hb
     have n0_ := Aside0.mk (Kd.R_below (rz HO265) hb)
     have n1_ := Aside0.mk (blk_below (bz BK261) hb)
     have n2_ := Aside0.mk (blk_below (bz BK262) hb)
     have n3_ := Aside0.mk (below_step bh hb)
     have n4_ := Aside0.mk (hbox)
     have n5_ := Aside0.mk ((gs (W0 := w) hg bh))
     have n6_ := Aside0.mk ((gs (W0 := w) hg bh))
     have n7_ := Aside0.mk ((gn hg (bz BK261)))
     have n8_ := Aside0.mk ((gm hg (bz BK261)))
     have n9_ := Aside0.mk ((gn hg (bz BK262)))
     have n10_ := Aside0.mk ((gm hg (bz BK262)))
     clear HO265 BK261 BK262 HB
     have HO265 := n0_
     have BK261 := n1_
     have BK262 := n2_
     have HB := n3_
     have BK269 := n4_
     have GW269 := n5_
     have GE269 := n6_
     have NB261_269 := n7_
     have NB269_261 := n8_
     have NB262_269 := n9_
     have NB269_262 := n10_
     clear n0_ n1_ n2_ n3_ n4_ n5_ n6_ n7_ n8_ n9_ n10_ hb hbox hg
     refine hK.out _ _ ⟨cz0 BK261, cz1 BK261, cz2 BK261, cz3 BK261⟩ (fun hHeld => ?_)
     clear hK K
     refine norm_ (a' := ?_) ?_ ?_
     rotate_left
     ·show Act.put _ (some 3) _ = _
      simp only [Act.put, List.setIfInBounds_toArray, List.set_cons_zero, List.set_cons_succ, i64_w, i32_w]
      rfl
     refine one_ (i := 7) (N := some 12) #[T,T,T,T,T,T,T,T,F,T,F] rfl rfl (one_of HT_.out kr) (by decide) (fun K hK => ?_)
     refine Kd.R_append_rows_step (Kd.int .i64) (w0 := w) w.heap.size (by rfl) (.tmp 9) (.tmp 11) 23 3 (.int .i64 0) 8 rfl Try.underlying23 info3 rfl (by decide) (by omega) v264 y263 l0_2 _ _ _ (fun _ => True) (fun _ => False) rfl rfl ?aO ?aR (fun _ _ h => h) (fun _ h => h.elim) ?aF ?aB ?aS ?aL ?_
     (case aR => repeat (first | exact (Kd.C_below HR0_2.out HB.out) | (with_reducible refine Kd.C_alloc ?_ _) | (with_reducible refine Kd.C_drewN ?_ _) | (with_reducible refine Kd.C_drew ?_)))
     (case aB => exact bh)
     (case aF => exact (fun _ _ => trivial))
     (case aO => exact (rz HO265))
     (case aS => exact (below_size bh))
     (case aL => have := LMc2.out; omega)
     intro v267 w9 ho hb hg hat
     rw [← Ny266.out] at ho
     have n0_ := Aside0.mk (blk_grown (bz BK261) hg (Kd.R_ne HO265.out BK261.out (by decide)))
     have n1_ := Aside0.mk (blk_grown (bz BK262) hg (Kd.R_ne HO265.out BK262.out (by decide)))
     have n2_ := Aside0.mk (blk_grown (bz BK269) hg (Kd.R_ne HO265.out BK269.out (by decide)))
     have n3_ := Aside0.mk (hb)
     have n4_ := Aside0.mk (ho)
     clear BK261 BK262 BK269 HB HO265
     have BK261 := n0_
     have BK262 := n1_
     have BK269 := n2_
     have HB := n3_
     have HO268 := n4_
     clear n0_ n1_ n2_ n3_ n4_ ho hb hg hat
     obtain ⟨Ao10, co10, eo10⟩ := Kd.R_slice HO268.out
     (first | subst eo10 | (injection eo10 with f1_ f2_ f3_; have f4_ := f1_.symm; have f5_ := f3_.symm; clear f1_ f2_ f3_; subst f4_; subst f5_))
     refine hK.out _ _ ⟨cz0 BK261, cz1 BK261, cz2 BK261, cz3 BK261⟩ (fun hHeld => ?_)
     clear hK K
     refine norm_ (a' := ?_) ?_ ?_
     rotate_left
     ·show Act.put _ (some 12) _ = _
      simp only [Act.put, List.setIfInBounds_toArray, List.set_cons_zero, List.set_cons_succ, i64_w, i32_w]
      rfl
     refine pu 8 (some 13) #[T,T,T,T,T,T,T,T,T,T,F] (any_of HT_.out kr) ?_
     exact norm_ (by simp only [putAll, Act.put, List.setIfInBounds_toArray, List.set_cons_zero, List.set_cons_succ]) (hCont (v264, .slice Ao10 y266.length co10, gb269) _ ⟨hHeld, (rz HO268), (bz BK261), (bz BK262), (bz BK269), GW269.out, GE269.out, NB261_269.out, NB269_261.out, NB262_269.out, NB269_262.out, bh⟩)
   ·skip
    refine box_step ?hg (N := 3) ?hd (cs := #[.int .i64 0, .slice none 0 0, .slice none 0 0, .int .i64 0]) (t := 28) ?hr ?_; (case hd => rfl); (case hg => rfl); (case hr => first | (go_simp; done) | (go_simp; rfl))
    intro gb269 hg w6 hbox hb
    have n0_ := Aside0.mk (blk_below (bz BK261) hb)
    have n1_ := Aside0.mk (blk_below (bz BK262) hb)
    have n2_ := Aside0.mk (below_step bh hb)
    have n3_ := Aside0.mk (hbox)
    have n4_ := Aside0.mk ((gs (W0 := w) hg bh))
    have n5_ := Aside0.mk ((gs (W0 := w) hg bh))
    have n6_ := Aside0.mk ((gn hg (bz BK261)))
    have n7_ := Aside0.mk ((gm hg (bz BK261)))
    have n8_ := Aside0.mk ((gn hg (bz BK262)))
    have n9_ := Aside0.mk ((gm hg (bz BK262)))
    clear BK261 BK262 HB
    have BK261 := n0_
    have BK262 := n1_
    have HB := n2_
    have BK269 := n3_
    have GW269 := n4_
    have GE269 := n5_
    have NB261_269 := n6_
    have NB269_261 := n7_
    have NB262_269 := n8_
    have NB269_262 := n9_
    clear n0_ n1_ n2_ n3_ n4_ n5_ n6_ n7_ n8_ n9_ hb hbox hg
    refine hK.out _ _ ⟨cz0 BK261, cz1 BK261, cz2 BK261, cz3 BK261⟩ (fun hHeld => ?_)
    clear hK K
    refine norm_ (a' := ?_) ?_ ?_
    rotate_left
    ·show Act.put _ (some 3) _ = _
     simp only [Act.put, List.setIfInBounds_toArray, List.set_cons_zero, List.set_cons_succ, i64_w, i32_w]
     rfl
    refine one_ (i := 4) (N := some 9) #[T,T,T,T,T,T,T,F,F,T,F] rfl rfl (one_of HT_.out kr) (by decide) (fun K hK => ?_)
    refine Kd.R_lit_step (Kd.int .i64) _ 3 ?hg (N := 9) ?hd (xs := ([] : List Int)) (inner := []) (ok := fun _ => True) (okp := fun _ => True) ?hr ?hp (fun _ hk => hk) trivial (Below.refl _ _) (Nat.le_refl _) (by simp) ?_; (case hd => rfl); (case hg => rfl); (case hr => first | (go_simp; done) | (go_simp; rfl)); (case hp => exact (Reps.none _ _))
    intro v264 w7 ho8 hb hg_ hnew_
    clear hg_ hnew_
    (first | rw [← Ny263.out] at ho8 | (simp only [Int.reduceToNat] at ho8; rw [← Ny263.out] at ho8))
    have n0_ := Aside0.mk (Kd.R_lower ho8 (below_size bh))
    have n1_ := Aside0.mk (blk_below (bz BK261) hb)
    have n2_ := Aside0.mk (blk_below (bz BK262) hb)
    have n3_ := Aside0.mk (blk_below (bz BK269) hb)
    have n4_ := Aside0.mk (below_step bh hb)
    clear BK261 BK262 BK269 HB
    have HO265 := n0_
    have BK261 := n1_
    have BK262 := n2_
    have BK269 := n3_
    have HB := n4_
    clear n0_ n1_ n2_ n3_ n4_ hb ho8
    refine hK.out _ _ ⟨cz0 BK261, cz1 BK261, cz2 BK261, cz3 BK261⟩ (fun hHeld => ?_)
    clear hK K
    refine norm_ (a' := ?_) ?_ ?_
    rotate_left
    ·show Act.put _ (some 9) _ = _
     simp only [Act.put, List.setIfInBounds_toArray, List.set_cons_zero, List.set_cons_succ, i64_w, i32_w]
     rfl
    refine one_ (i := 7) (N := some 12) #[T,T,T,T,T,T,T,T,F,T,F] rfl rfl (one_of HT_.out kr) (by decide) (fun K hK => ?_)
    refine Kd.R_append_rows_step (Kd.int .i64) (w0 := w) w.heap.size (by rfl) (.tmp 9) (.tmp 11) 23 3 (.int .i64 0) 8 rfl Try.underlying23 info3 rfl (by decide) (by omega) v264 y263 l0_2 _ _ _ (fun _ => True) (fun _ => False) rfl rfl ?aO ?aR (fun _ _ h => h) (fun _ h => h.elim) ?aF ?aB ?aS ?aL ?_
    (case aR => repeat (first | exact (Kd.C_below HR0_2.out HB.out) | (with_reducible refine Kd.C_alloc ?_ _) | (with_reducible refine Kd.C_drewN ?_ _) | (with_reducible refine Kd.C_drew ?_)))
    (case aB => exact bh)
    (case aF => exact (fun _ _ => trivial))
    (case aO => exact (rz HO265))
    (case aS => exact (below_size bh))
    (case aL => have := LMc2.out; omega)
    intro v267 w9 ho hb hg hat
    rw [← Ny266.out] at ho
    have n0_ := Aside0.mk (blk_grown (bz BK261) hg (Kd.R_ne HO265.out BK261.out (by decide)))
    have n1_ := Aside0.mk (blk_grown (bz BK262) hg (Kd.R_ne HO265.out BK262.out (by decide)))
    have n2_ := Aside0.mk (blk_grown (bz BK269) hg (Kd.R_ne HO265.out BK269.out (by decide)))
    have n3_ := Aside0.mk (hb)
    have n4_ := Aside0.mk (ho)
    clear BK261 BK262 BK269 HB HO265
    have BK261 := n0_
    have BK262 := n1_
    have BK269 := n2_
    have HB := n3_
    have HO268 := n4_
    clear n0_ n1_ n2_ n3_ n4_ ho hb hg hat
    obtain ⟨Ao10, co10, eo10⟩ := Kd.R_slice HO268.out
    (first | subst eo10 | (injection eo10 with f1_ f2_ f3_; have f4_ := f1_.symm; have f5_ := f3_.symm; clear f1_ f2_ f3_; subst f4_; subst f5_))
    refine hK.out _ _ ⟨cz0 BK261, cz1 BK261, cz2 BK261, cz3 BK261⟩ (fun hHeld => ?_)
    clear hK K
    refine norm_ (a' := ?_) ?_ ?_
    rotate_left
    ·show Act.put _ (some 12) _ = _
     simp only [Act.put, List.setIfInBounds_toArray, List.set_cons_zero, List.set_cons_succ, i64_w, i32_w]
     rfl
    refine pu 8 (some 13) #[T,T,T,T,T,T,T,T,T,T,F] (any_of HT_.out kr) ?_
    exact norm_ (by simp only [putAll, Act.put, List.setIfInBounds_toArray, List.set_cons_zero, List.set_cons_succ]) (hCont (v264, .slice Ao10 y266.length co10, gb269) _ ⟨hHeld, (rz HO268), (bz BK261), (bz BK262), (bz BK269), GW269.out, GE269.out, NB261_269.out, NB269_261.out, NB262_269.out, NB269_262.out, bh⟩)
  rintro ⟨v264, v267, gb269⟩ w11 ⟨hS_, h0_, h1_, h2_, h3_, h4_, h5_, h6_, h7_, h8_, h9_, h10_⟩
  clear BK261 BK262 HB
  have HO268 := Aside0.mk h0_
  have BK261 := Aside0.mk h1_
  have BK262 := Aside0.mk h2_
  have BK269 := Aside0.mk h3_
  have GW269 := Aside0.mk h4_
  have GE269 := Aside0.mk h5_
  have NB261_269 := Aside0.mk h6_
  have NB269_261 := Aside0.mk h7_
  have NB262_269 := Aside0.mk h8_
  have NB269_262 := Aside0.mk h9_
  have HB := Aside0.mk h10_
  clear h0_ h1_ h2_ h3_ h4_ h5_ h6_ h7_ h8_ h9_ h10_
  have hHeld : w11.cell? ⟨gb261, 0, none⟩ = some (.int .i64 a0_0) ∧ w11.cell? ⟨gb261, 1, none⟩ = some (.slice A0_1 l0_1.length c0_1) ∧ w11.cell? ⟨gb261, 2, none⟩ = some (.slice A0_2 l0_2.length c0_2) ∧ w11.cell? ⟨gb261, 3, none⟩ = some (.int .i64 a0_3) := hS_
  obtain ⟨Ao12, co12, eo12⟩ := Kd.R_slice HO268.out
  (first | subst eo12 | (injection eo12 with f1_ f2_ f3_; have f4_ := f1_.symm; have f5_ := f3_.symm; clear f1_ f2_ f3_; subst f4_; subst f5_))
  refine norm_ (a' := ?_) ?_ ?_
  rotate_left
  ·simp only [putAll, Act.put, List.setIfInBounds_toArray, List.set_cons_zero, List.set_cons_succ]
   rfl
  refine one_ (i := 10) (N := none) #[T,T,T,T,T,T,T,T,T,T,T] rfl rfl (one_of HT_.out kr) (by decide) (fun K hK => ?_)
  have hs13 := cz0 BK269
  have hfs13 := blk_frozen BK269.out 0
  have hns13_0 := NB261_269.out
  have hns13_1 := NB262_269.out
  have hms13_0 := NB269_261.out
  have hms13_1 := NB269_262.out
  have hs14 := cz1 BK269
  have hfs14 := blk_frozen BK269.out 1
  have hns14_0 := NB261_269.out
  have hns14_1 := NB262_269.out
  have hms14_0 := NB269_261.out
  have hms14_1 := NB269_262.out
  have hs15 := cz2 BK269
  have hfs15 := blk_frozen BK269.out 2
  have hns15_0 := NB261_269.out
  have hns15_1 := NB262_269.out
  have hms15_0 := NB269_261.out
  have hms15_1 := NB269_262.out
  have hs16 := cz3 BK269
  have hfs16 := blk_frozen BK269.out 3
  have hns16_0 := NB261_269.out
  have hns16_1 := NB262_269.out
  have hms16_0 := NB269_261.out
  have hms16_1 := NB269_262.out
  refine skip_ (w1 := ?_) (by rfl) rfl ?_ ?_
  rotate_left
  ·go_simp
   rfl
  refine hK.out _ _ ⟨((cell_far (p := ⟨gb269, _, none⟩) NB261_269.out _).trans (((cell_far (p := ⟨gb269, _, none⟩) NB261_269.out _).trans (((cell_far (p := ⟨gb269, _, none⟩) NB261_269.out _).trans (((cell_far (p := ⟨gb269, _, none⟩) NB261_269.out _).trans (hHeld.1)))))))), ((cell_far (p := ⟨gb269, _, none⟩) NB261_269.out _).trans (((cell_far (p := ⟨gb269, _, none⟩) NB261_269.out _).trans (((cell_far (p := ⟨gb269, _, none⟩) NB261_269.out _).trans (((cell_far (p := ⟨gb269, _, none⟩) NB261_269.out _).trans (hHeld.2.1)))))))), ((cell_far (p := ⟨gb269, _, none⟩) NB261_269.out _).trans (((cell_far (p := ⟨gb269, _, none⟩) NB261_269.out _).trans (((cell_far (p := ⟨gb269, _, none⟩) NB261_269.out _).trans (((cell_far (p := ⟨gb269, _, none⟩) NB261_269.out _).trans (hHeld.2.2.1)))))))), ((cell_far (p := ⟨gb269, _, none⟩) NB261_269.out _).trans (((cell_far (p := ⟨gb269, _, none⟩) NB261_269.out _).trans (((cell_far (p := ⟨gb269, _, none⟩) NB261_269.out _).trans (((cell_far (p := ⟨gb269, _, none⟩) NB261_269.out _).trans (hHeld.2.2.2))))))))⟩ (fun hHeld => ?_)
  clear hK K
  refine done_ (done_of HT_.out kr) ?_
  try go_wp2
  go_loopg [4] k (fun kq v4 w' => ∃ (x4_1 : Int) (x270001_1 : List (List Int)) (u270001 : Value), v4 = .int .i64 x4_1 ∧ Aside0 (spec_l7Copy.l0 kq x4_1 a0_0 l0_1 l0_2 a0_3 a0_0 x270001_1 y266 a0_3 = some (r1, r2, r3, r4)) ∧ Aside0 (kq ≤ k) ∧ Aside0 (Kd.S (Kd.slice 3 (Kd.int .i64)) 23 w' w.heap.size (fun k_ => some k_ ≠ ((.slice Ao12 y266.length co12) : Value).ownBlock) u270001 x270001_1) ∧ Aside0 (Kd.R (Kd.int .i64) 3 w' w.heap.size (fun _ => True) (.slice Ao12 y266.length co12) y266) ∧ Aside0 (w'.heap[gb261]? = some (.cells #[.int .i64 a0_0, (.slice A0_1 l0_1.length c0_1), (.slice A0_2 l0_2.length c0_2), .int .i64 a0_3] 28 (0, 0))) ∧ Aside0 (w'.heap[gb262]? = some (.cells #[.int .i64 0, (.slice none 0 0), (.slice none 0 0), .int .i64 0] 28 (0, 0))) ∧ Aside0 (w'.heap[gb269]? = some (.cells #[.int .i64 a0_0, u270001, (.slice Ao12 y266.length co12), .int .i64 a0_3] 28 (0, 0))) ∧ Aside0 (Below w.heap.size w w'))
  case atStart => exact ⟨(0), (([] : List (List Int))), (.slice none 0 0), (by first | rfl | (simp; done) | (simp [*]; done)), H', ⟨Nat.le_refl _⟩, ⟨by first | exact Kd.S_nil _ _ _ _ _ | exact Kd.N_nil _ _ _ _ _ | exact Kd.V_nil _ _ _ _ _ | exact Kd.Q_nil _ _ _ _ _ | exact Kd.R_nil _ _ _ _ _⟩, ⟨gR HO268 BK269⟩, ⟨bf NB261_269 BK261⟩, ⟨bf NB262_269 BK262⟩, ⟨bp BK269⟩, ⟨by exact bh⟩⟩
  case round =>
   clear H'
   try clear c2
   try clear p2
   try clear c6
   obtain ⟨x4_1, x270001_1, u270001, rfl, HA, HK1, HO_270001, HO_270002, BK261, BK262, BK269, HB⟩ := hrel
   cases gk with
   | zero => exact absurd HA.out (by simp [spec_l7Copy.l0])
   | succ k1 =>
    have H := HA.out
    clear HA
    simp only [spec_l7Copy.l0] at H
    by_cases c17 : x4_1 < (l0_1.length : Int)
    ·rw [if_pos c17] at H
     have c17b0 : decide (x4_1 < (l0_1.length : Int)) = true := decide_eq_true c17
     clear c17
     obtain ⟨y270, hy270⟩ : ∃ y_ : List Int, y_ = (([] : List Int)) := ⟨_, rfl⟩
     replace H : (if 0 ≤ x4_1 then (if y270.length + (rd_L1 l0_1 x4_1).length < 17592186044416 then (if x270001_1.length < 5864062014805 then (spec_l7Copy.l0 k1 (wrap64 (x4_1 + 1)) a0_0 l0_1 l0_2 a0_3 a0_0 (x270001_1 ++ [(y270 ++ (rd_L1 l0_1 x4_1))]) y266 a0_3) else (none)) else (none)) else (none)) = some (r1, r2, r3, r4) := by first | (rw [hy270]; with_reducible exact H) | (have H2_ := (Option.bind_some _ _).symm.trans H; rw [hy270]; with_reducible exact H2_) | (have H2_ := (Option.bind_some _ _).symm.trans H; with_reducible exact H2_) | with_reducible exact H | (rw [hy270]; exact H) | exact H
     have Ny270 := Aside0.mk hy270
     clear hy270
     by_cases c18 : 0 ≤ x4_1
     ·rw [if_pos c18] at H
      have c18b0 : decide (0 ≤ x4_1) = true := decide_eq_true c18
      clear c18
      by_cases c19 : y270.length + (rd_L1 l0_1 x4_1).length < 17592186044416
      ·rw [if_pos c19] at H
       have LMc19 := Aside0.mk c19
       clear c19
       obtain ⟨y274, hy274⟩ : ∃ y_ : List Int, y_ = (y270 ++ (rd_L1 l0_1 x4_1)) := ⟨_, rfl⟩
       replace H : (if x270001_1.length < 5864062014805 then (spec_l7Copy.l0 k1 (wrap64 (x4_1 + 1)) a0_0 l0_1 l0_2 a0_3 a0_0 (x270001_1 ++ [y274]) y266 a0_3) else (none)) = some (r1, r2, r3, r4) := by first | (rw [hy274]; with_reducible exact H) | (have H2_ := (Option.bind_some _ _).symm.trans H; rw [hy274]; with_reducible exact H2_) | (have H2_ := (Option.bind_some _ _).symm.trans H; with_reducible exact H2_) | with_reducible exact H | (rw [hy274]; exact H) | exact H
       have Ny274 := Aside0.mk hy274
       clear hy274
       by_cases c20 : x270001_1.length < 5864062014805
       ·rw [if_pos c20] at H
        have LMc20 := Aside0.mk c20
        clear c20
        obtain ⟨y277, hy277⟩ : ∃ y_ : List (List Int), y_ = (x270001_1 ++ [y274]) := ⟨_, rfl⟩
        replace H : (spec_l7Copy.l0 k1 (wrap64 (x4_1 + 1)) a0_0 l0_1 l0_2 a0_3 a0_0 y277 y266 a0_3) = some (r1, r2, r3, r4) := by first | (rw [hy277]; with_reducible exact H) | (have H2_ := (Option.bind_some _ _).symm.trans H; rw [hy277]; with_reducible exact H2_) | (have H2_ := (Option.bind_some _ _).symm.trans H; with_reducible exact H2_) | with_reducible exact H | (rw [hy277]; exact H) | exact H
        have Ny277 := Aside0.mk hy277
        clear hy277
        have H' := Aside0.mk H
        clear H
        have hnb21 := NB261_262.out
        have hnc21 := NB262_261.out
        have hnb22 := NB261_269.out
        have hnc22 := NB269_261.out
        have hcz23_0 := cz0 BK261
        have hcz23_1 := cz1 BK261
        have hcz23_2 := cz2 BK261
        have hcz23_3 := cz3 BK261
        have hfz23_0 := blk_frozen BK261.out 0
        have hfz23_1 := blk_frozen BK261.out 1
        have hfz23_2 := blk_frozen BK261.out 2
        have hfz23_3 := blk_frozen BK261.out 3
        try go_wp2
        have n0_ := Aside0.mk (Kd.S_drew HO_270001.out)
        have n1_ := Aside0.mk (Kd.R_drew HO_270002.out)
        have n2_ := Aside0.mk (blk_drew BK261.out)
        have n3_ := Aside0.mk (blk_drew BK262.out)
        have n4_ := Aside0.mk (blk_drew BK269.out)
        have n5_ := Aside0.mk (below_drew1 HB.out)
        clear HO_270001 HO_270002 BK261 BK262 BK269 HB
        have HO_270001 := n0_
        have HO_270002 := n1_
        have BK261 := n2_
        have BK262 := n3_
        have BK269 := n4_
        have HB := n5_
        clear n0_ n1_ n2_ n3_ n4_ n5_
        have p273 : 0 ≤ (x4_1 : Int) := oda
        have q273 : x4_1 < (l0_1.length : Int) := oda
        obtain ⟨ad273, A273_0, c273_0, e273, hx273_0, hl273_0, hi273_0⟩ := at_L1 HR0_1.out x4_1 p273 q273
        have hw273_0 := hx273_0
        cases e273
        replace hx273_0 := (HB.out.cell (World.block_lt_of_cell? w _ hx273_0)).trans hx273_0
        have HR273_0 := Aside0.mk hi273_0
        have HC273_0 := Aside0.mk hl273_0
        clear hi273_0 hl273_0
        replace p273 := eq_true p273
        replace q273 := eq_true q273
        refine start_ (n := 13) (S := fun w' => w'.cell? ⟨gb269, 0, none⟩ = some (.int .i64 a0_0) ∧ w'.cell? ⟨gb269, 1, none⟩ = some (u270001) ∧ w'.cell? ⟨gb269, 2, none⟩ = some (.slice Ao12 y266.length co12) ∧ w'.cell? ⟨gb269, 3, none⟩ = some (.int .i64 a0_3) ∧ w'.cell? ⟨gb261, 0, none⟩ = some (.int .i64 a0_0) ∧ w'.cell? ⟨gb261, 1, none⟩ = some (.slice (some ad273) l0_1.length c0_1) ∧ w'.cell? ⟨gb261, 2, none⟩ = some (.slice A0_2 l0_2.length c0_2) ∧ w'.cell? ⟨gb261, 3, none⟩ = some (.int .i64 a0_3) ∧ w'.cell? (ad273.add (x4_1).toNat) = some (.slice A273_0 (rd_L1 l0_1 x4_1).length c273_0)) (ds := [12]) #[F,F,F,F,F,F,F,F,F,F,F,F,F] kr rfl rfl ⟨cz0 BK269, cz1 BK269, cz2 BK269, cz3 BK269, cz0 BK261, cz1 BK261, cz2 BK261, cz3 BK261, ((HB.out.cell (World.block_lt_of_cell? w _ hw273_0)).trans hw273_0)⟩ (fun hHeld => ?_); refine with_tabW spec_l7Copy.tab5 spec_l7Copy.bits5 (fun HT_ HW_ => ?_)
        generalize wr.drew = w24 at HO_270001 HO_270002 BK261 BK262 BK269 HB HR273_0 hx273_0 hHeld ⊢
        refine pu 0 (some 21) #[T,F,F,F,F,F,F,F,F,F,F,F,F] (any_of HT_.out kr) ?_
        refine pu 3 (some 24) #[T,F,F,T,F,F,F,F,F,F,F,F,F] (any_of HT_.out kr) ?_
        refine pu 5 (some 26) #[T,F,F,T,F,T,F,F,F,F,F,F,F] (any_of HT_.out kr) ?_
        refine tk9 1 (some 22) #[T,T,F,T,F,T,F,F,F,F,F,F,F] (take_ofW HT_.out HW_.out kr) ?_
        refine tk9 4 (some 25) #[T,T,F,T,T,T,F,F,F,F,F,F,F] (take_ofW HT_.out HW_.out kr) ?_
        refine pu 6 (some 27) #[T,T,F,T,T,T,T,F,F,F,F,F,F] (any_of HT_.out kr) ?_
        refine tk9 7 (some 28) #[T,T,F,T,T,T,T,T,F,F,F,F,F] (take_ofW HT_.out HW_.out kr) ?_
        refine one_ (i := 2) (N := some 23) #[T,T,T,T,T,T,T,T,F,F,F,F,F] rfl rfl (one_of HT_.out kr) (by decide) (fun K hK => ?_)
        refine Kd.R_lit_step (Kd.int .i64) _ 3 ?hg (N := 23) ?hd (xs := ([] : List Int)) (inner := []) (ok := fun _ => True) (okp := fun _ => True) ?hr ?hp (fun _ hk => hk) trivial (Below.refl _ _) (Nat.le_refl _) (by simp) ?_; (case hd => rfl); (case hg => rfl); (case hr => first | (go_simp; done) | (go_simp; rfl)); (case hp => exact (Reps.none _ _))
        intro v271 w25 ho26 hb hg_ hnew_
        clear hg_ hnew_
        (first | rw [← Ny270.out] at ho26 | (simp only [Int.reduceToNat] at ho26; rw [← Ny270.out] at ho26))
        have n0_ := Aside0.mk (Kd.S_elder' (sz HO_270001) (Kd.R_base ho26) hb)
        have n1_ := Aside0.mk (Kd.R_elder' (rz HO_270002) (Kd.R_base ho26) hb)
        have n2_ := Aside0.mk (Kd.R_lower (Kd.R_new' ho26 (Kd.R_lt (rz HO_270002))) (below_size bh))
        have n3_ := Aside0.mk (blk_below (bz BK261) hb)
        have n4_ := Aside0.mk (blk_below (bz BK262) hb)
        have n5_ := Aside0.mk (blk_below (bz BK269) hb)
        have n6_ := Aside0.mk (below_step bh hb)
        clear HO_270001 HO_270002 BK261 BK262 BK269 HB
        have HO_270001 := n0_
        have HO_270002 := n1_
        have HO272 := n2_
        have BK261 := n3_
        have BK262 := n4_
        have BK269 := n5_
        have HB := n6_
        clear n0_ n1_ n2_ n3_ n4_ n5_ n6_ hb ho26
        refine hK.out _ _ ⟨cz0 BK269, cz1 BK269, cz2 BK269, cz3 BK269, cz0 BK261, cz1 BK261, cz2 BK261, cz3 BK261, ((HB.out.cell (World.block_lt_of_cell? w _ hw273_0)).trans hw273_0)⟩ (fun hHeld => ?_)
        clear hK K
        refine norm_ (a' := ?_) ?_ ?_
        rotate_left
        ·show Act.put _ (some 23) _ = _
         simp only [Act.put, List.setIfInBounds_toArray, List.set_cons_zero, List.set_cons_succ, i64_w, i32_w]
         rfl
        refine one_ (i := 8) (N := some 29) #[T,T,T,T,T,T,T,T,T,F,F,F,F] rfl rfl (one_of HT_.out kr) (by decide) (fun K hK => ?_)
        refine Kd.R_append_rows_step (Kd.int .i64) (w0 := w) w.heap.size (by rfl) (.tmp 23) (.tmp 28) 23 3 (.int .i64 0) 8 rfl Try.underlying23 info3 rfl (by decide) (by omega) v271 y270 (rd_L1 l0_1 x4_1) _ _ _ (fun k_ => some k_ ≠ (.slice Ao12 y266.length co12 : Value).ownBlock) (fun _ => False) rfl rfl ?aO ?aR (fun _ _ h => h) (fun _ h => h.elim) ?aF ?aB ?aS ?aL ?_
        (case aR => repeat (first | exact (Kd.C_below HR273_0.out HB.out) | (with_reducible refine Kd.C_alloc ?_ _) | (with_reducible refine Kd.C_drewN ?_ _) | (with_reducible refine Kd.C_drew ?_)))
        (case aB => exact bh)
        (case aF => exact (fun k_ hk => Kd.fresh' (Kd.R_lt (rz HO_270002)) k_ hk))
        (case aO => exact (mR HO272))
        (case aS => exact (below_size bh))
        (case aL => have := LMc19.out; omega)
        intro v275 w27 ho hb hg hat
        rw [← Ny274.out] at ho
        have n0_ := Aside0.mk (Kd.S_after (ok := (fun k_ => some k_ ≠ (.slice Ao12 y266.length co12 : Value).ownBlock)) (sz HO_270001) hg hat)
        have n1_ := Aside0.mk (Kd.R_after (ok := (fun _ => True)) (rz HO_270002) hg hat)
        have n2_ := Aside0.mk (blk_grown (bz BK261) hg (Kd.R_ne HO272.out BK261.out (by decide)))
        have n3_ := Aside0.mk (blk_grown (bz BK262) hg (Kd.R_ne HO272.out BK262.out (by decide)))
        have n4_ := Aside0.mk (blk_grown (bz BK269) hg (Kd.R_ne HO272.out BK269.out (by decide)))
        have n5_ := Aside0.mk (hb)
        have n6_ := Aside0.mk (ho)
        clear HO_270001 HO_270002 BK261 BK262 BK269 HB HO272
        have HO_270001 := n0_
        have HO_270002 := n1_
        have BK261 := n2_
        have BK262 := n3_
        have BK269 := n4_
        have HB := n5_
        have HO276 := n6_
        clear n0_ n1_ n2_ n3_ n4_ n5_ n6_ ho hb hg hat
        obtain ⟨Ao29, co29, eo29⟩ := Kd.R_slice HO276.out
        (first | subst eo29 | (injection eo29 with f1_ f2_ f3_; have f4_ := f1_.symm; have f5_ := f3_.symm; clear f1_ f2_ f3_; subst f4_; subst f5_))
        refine hK.out _ _ ⟨cz0 BK269, cz1 BK269, cz2 BK269, cz3 BK269, cz0 BK261, cz1 BK261, cz2 BK261, cz3 BK261, ((HB.out.cell (World.block_lt_of_cell? w _ hw273_0)).trans hw273_0)⟩ (fun hHeld => ?_)
        clear hK K
        refine norm_ (a' := ?_) ?_ ?_
        rotate_left
        ·show Act.put _ (some 29) _ = _
         simp only [Act.put, List.setIfInBounds_toArray, List.set_cons_zero, List.set_cons_succ, i64_w, i32_w]
         rfl
        refine one_ (i := 9) (N := some 30) #[T,T,T,T,T,T,T,T,T,T,F,F,F] rfl rfl (one_of HT_.out kr) (by decide) (fun K hK => ?_)
        refine value_ (w1 := ?_) (v := ?_) (by rfl) rfl ?_ ?_
        rotate_left 2
        ·go_simp
         constructor
         ·rfl
         ·rfl
        refine hK.out _ _ ⟨(blk_cell (blk_alloc BK269.out _) 0).trans rfl, (blk_cell (blk_alloc BK269.out _) 1).trans rfl, (blk_cell (blk_alloc BK269.out _) 2).trans rfl, (blk_cell (blk_alloc BK269.out _) 3).trans rfl, (blk_cell (blk_alloc BK261.out _) 0).trans rfl, (blk_cell (blk_alloc BK261.out _) 1).trans rfl, (blk_cell (blk_alloc BK261.out _) 2).trans rfl, (blk_cell (blk_alloc BK261.out _) 3).trans rfl, (World.cell?_alloc_lt _ _ _ (World.block_lt_of_cell? _ _ (((HB.out.cell (World.block_lt_of_cell? w _ hw273_0)).trans hw273_0)))).trans (((HB.out.cell (World.block_lt_of_cell? w _ hw273_0)).trans hw273_0))⟩ (fun hHeld => ?_)
        clear hK K
        refine norm_ (a' := ?_) ?_ ?_
        rotate_left
        ·show Act.put _ (some 30) _ = _
         simp only [Act.put, List.setIfInBounds_toArray, List.set_cons_zero, List.set_cons_succ, i64_w, i32_w]
         rfl
        refine one_ (i := 10) (N := some 31) #[T,T,T,T,T,T,T,T,T,T,T,F,F] rfl rfl (one_of HT_.out kr) (by decide) (fun K hK => ?_)
        refine Kd.S_append_step (Kd.slice 3 (Kd.int .i64)) (w0 := w) w.heap.size (by rfl) (.tmp 22) (.tmp 30) 22 23 (.slice none 0 0) 24 rfl Try.underlying22 info23 rfl (by decide) (by omega) u270001 x270001_1 y274 [.slice Ao29 y274.length co29] (fun k_ => some k_ ≠ (.slice Ao12 y266.length co12 : Value).ownBlock) (fun k_ => some k_ = (.slice Ao29 y274.length co29 : Value).ownBlock) rfl rfl ?aP (fun k_ hk_ => ((Kd.R_mono (ok' := fun k_ => ((fun k_ => some k_ ≠ (.slice Ao12 y266.length co12 : Value).ownBlock)) k_ ∧ some k_ ≠ (u270001 : Value).ownBlock) (Kd.R_apart' (HO276.out) (Kd.S_typed HO_270001.out) (by decide)) (fun k_ hk => ⟨hk.1, hk.2⟩))).1 k_ hk_.symm) ?aF ?aO ?aB ?aS ?aL ?_
        (case aP => exact Kd.M_row (Kd.R_mono (Kd.R_tight rfl (Kd.R_mono (ok' := fun k_ => ((fun k_ => some k_ ≠ (.slice Ao12 y266.length co12 : Value).ownBlock)) k_ ∧ some k_ ≠ (u270001 : Value).ownBlock) (Kd.R_apart' (HO276.out) (Kd.S_typed HO_270001.out) (by decide)) (fun k_ hk => ⟨hk.1, hk.2⟩))) (fun _ h_ => h_)))
        (case aB => exact bh)
        (case aF => exact (fun k_ hk => Kd.fresh' (Kd.R_lt (rz HO_270002)) k_ hk))
        (case aO => exact (by (with_reducible repeat (first | apply Kd.S_alloc | apply Kd.S_drewN | apply Kd.S_drew)); exact Kd.S_mono HO_270001.out (fun k_ hk => ⟨hk.1, fun e_ => hk.2 e_⟩)))
        (case aS => exact (below_size bh))
        (case aL => have := LMc20.out; omega)
        intro v278 w28 ho hb hg hat
        rw [← Ny277.out] at ho
        have n0_ := Aside0.mk (Kd.R_over' (rz HO_270002) (Kd.S_typed (sz HO_270001)) (by decide) hg)
        have n1_ := Aside0.mk (blk_grown (bz BK261) hg (Kd.S_ne HO_270001.out BK261.out (by decide)))
        have n2_ := Aside0.mk (blk_grown (bz BK262) hg (Kd.S_ne HO_270001.out BK262.out (by decide)))
        have n3_ := Aside0.mk (blk_grown (bz BK269) hg (Kd.S_ne HO_270001.out BK269.out (by decide)))
        have n4_ := Aside0.mk (hb)
        have n5_ := Aside0.mk (ho)
        clear HO_270002 BK261 BK262 BK269 HB HO_270001 HO276
        have HO_270002 := n0_
        have BK261 := n1_
        have BK262 := n2_
        have BK269 := n3_
        have HB := n4_
        have HO279 := n5_
        clear n0_ n1_ n2_ n3_ n4_ n5_ ho hb hg hat
        obtain ⟨Ao30, co30, eo30⟩ := Kd.S_slice HO279.out
        (first | subst eo30 | (injection eo30 with f1_ f2_ f3_; have f4_ := f1_.symm; have f5_ := f3_.symm; clear f1_ f2_ f3_; subst f4_; subst f5_))
        refine hK.out _ _ ⟨cz0 BK269, cz1 BK269, cz2 BK269, cz3 BK269, cz0 BK261, cz1 BK261, cz2 BK261, cz3 BK261, ((HB.out.cell (World.block_lt_of_cell? w _ hw273_0)).trans hw273_0)⟩ (fun hHeld => ?_)
        clear hK K
        refine norm_ (a' := ?_) ?_ ?_
        rotate_left
        ·show Act.put _ (some 31) _ = _
         simp only [Act.put, List.setIfInBounds_toArray, List.set_cons_zero, List.set_cons_succ, i64_w, i32_w]
         rfl
        refine pu 11 (some 32) #[T,T,T,T,T,T,T,T,T,T,T,T,F] (any_of HT_.out kr) ?_
        refine last_ (i := 12) (N := none) #[T,T,T,T,T,T,T,T,T,T,T,T,T] rfl rfl (one_of HT_.out kr) (by decide) (fun K hK => ?_)
        have hs31 := cz1 BK269
        have hfs31 := blk_frozen BK269.out 1
        have hns31_0 := NB261_269.out
        have hns31_1 := NB262_269.out
        have hms31_0 := NB269_261.out
        have hms31_1 := NB269_262.out
        refine skip_ (w1 := ?_) (by rfl) rfl ?_ ?_
        rotate_left
        ·go_simp
         rfl
        refine hK.out _ _ ?_
        clear hK K
        refine done_ (done_of HT_.out kr) ?_
        try go_wp2
        go_roundg k1
        case measure => have := HK1.out; omega
        case rel => exact ⟨(wrap64 (x4_1 + 1)), (y277), (.slice Ao30 y277.length co30), (by first | rfl | (simp; done) | (simp [*]; done)), H', ⟨by have := HK1.out; omega⟩, ⟨gS HO279 BK269⟩, ⟨gR HO_270002 BK269⟩, ⟨bf NB261_269 BK261⟩, ⟨bf NB262_269 BK262⟩, ⟨bp BK269⟩, ⟨by exact bh⟩⟩
       ·rw [if_neg c20] at H
        exact absurd H (by simp)
      ·rw [if_neg c19] at H
       exact absurd H (by simp)
     ·rw [if_neg c18] at H
      exact absurd H (by simp)
    ·rw [if_neg c17] at H
     have c17b0 : decide (x4_1 < (l0_1.length : Int)) = false := decide_eq_false c17
     clear c17
     simp only [Option.some.injEq, Prod.mk.injEq] at H
     obtain ⟨rfl, rfl, rfl, rfl⟩ := H
     have hnb32 := NB261_262.out
     have hnc32 := NB262_261.out
     have hnb33 := NB261_269.out
     have hnc33 := NB269_261.out
     have hcz34_0 := cz0 BK261
     have hcz34_1 := cz1 BK261
     have hcz34_2 := cz2 BK261
     have hcz34_3 := cz3 BK261
     have hfz34_0 := blk_frozen BK261.out 0
     have hfz34_1 := blk_frozen BK261.out 1
     have hfz34_2 := blk_frozen BK261.out 2
     have hfz34_3 := blk_frozen BK261.out 3
     have hnb35 := NB269_262.out
     have hnc35 := NB262_269.out
     have hcz36_0 := cz0 BK269
     have hcz36_1 := cz1 BK269
     have hcz36_2 := cz2 BK269
     have hcz36_3 := cz3 BK269
     have hfz36_0 := blk_frozen BK269.out 0
     have hfz36_1 := blk_frozen BK269.out 1
     have hfz36_2 := blk_frozen BK269.out 2
     have hfz36_3 := blk_frozen BK269.out 3
     have hcz37_0 := cz0 BK262
     have hcz37_1 := cz1 BK262
     have hcz37_2 := cz2 BK262
     have hcz37_3 := cz3 BK262
     have hfz37_0 := blk_frozen BK262.out 0
     have hfz37_1 := blk_frozen BK262.out 1
     have hfz37_2 := blk_frozen BK262.out 2
     have hfz37_3 := blk_frozen BK262.out 3
     obtain ⟨Ao38, co38, eo38⟩ := Kd.S_slice HO_270001.out
     subst eo38
     go_wp2
     refine bodyPost_ret (results_cell_row rfl _ _ gb262 28 #[.int .i64 a0_0, .slice Ao38 x270001_1.length co38, .slice Ao12 y266.length co12, .int .i64 a0_3] (0, 0) _ rfl (bp BK262) Try.underlying28 rfl kr) rfl ?_
     exact ⟨_, _, by first | rfl | (simp [errW_none, errW_some] <;> rfl) | (simp [*, errW_none, errW_some] <;> rfl), by (with_reducible repeat (first | apply Kd.S_alloc | apply Kd.S_drewN | apply Kd.S_drew)); exact Kd.S_mono (Kd.S_far (p := ⟨gb262, 3, none⟩) (Kd.S_far (p := ⟨gb262, 2, none⟩) (Kd.S_far (p := ⟨gb262, 1, none⟩) (Kd.S_far (p := ⟨gb262, 0, none⟩) (Kd.S_types HO_270001.out BK262.out (by decide)) (fun _ hk => hk.2) (.int .i64 a0_0)) (fun _ hk => hk.2) (.slice Ao38 x270001_1.length co38)) (fun _ hk => hk.2) (.slice Ao12 y266.length co12)) (fun _ hk => hk.2) (.int .i64 a0_3)) (fun _ hk => hk.1), by (with_reducible repeat (first | apply Kd.R_alloc | apply Kd.R_drewN | apply Kd.R_drew)); exact Kd.R_mono (Kd.R_far (p := ⟨gb262, 3, none⟩) (Kd.R_far (p := ⟨gb262, 2, none⟩) (Kd.R_far (p := ⟨gb262, 1, none⟩) (Kd.R_far (p := ⟨gb262, 0, none⟩) (Kd.R_types HO_270002.out BK262.out (by decide)) (fun _ hk => hk.2) (.int .i64 a0_0)) (fun _ hk => hk.2) (.slice Ao38 x270001_1.length co38)) (fun _ hk => hk.2) (.slice Ao12 y266.length co12)) (fun _ hk => hk.2) (.int .i64 a0_3)) (fun _ hk => trivial), by exact bh⟩
 ·rw [if_neg c2] at H
  exact absurd H (by simp)

end Go.Proofs.Ytlpjkeejflogjaa.QFnExactAfterDeaths
