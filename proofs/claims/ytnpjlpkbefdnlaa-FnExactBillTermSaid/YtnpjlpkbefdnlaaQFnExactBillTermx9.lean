-- Printed for this claim by a turned copy of the print (wip/myprint). Lean checks it. Squeezed. Worded. Tightened.
import Derived.Test.YtnpjlpkbefdnlaaQFnExactBillTermx0
import Derived.Test.YtnpjlpkbefdnlaaQFnExactBillTermx6
import Derived.Test.YtnpjlpkbefdnlaaQFnExactBillTermx8
namespace Go.Proofs.Ytnpjlpkbefdnlaa.QFnExactBillTerm
open Go.RowKit Go.Proofs.YtnpjlpkbefdnlaaW.PrintWords Go.Proofs.YtnpjlpkbefdnlaaW.PrintLast Go.Proofs.YtnpjlpkbefdnlaaW.PrintMore
attribute [local go_sem] max2_int min2_int max_two min_two max_three min_three max_four min_four Opens.cell_twice   -- for this text's walks alone
set_option linter.unusedVariables false
set_option linter.unusedSimpArgs false

/-! ### impl_billTerm: function 76 -/
mutual
def impl_billTerm.j0 : Nat → List (S41) → Int → List (S78) → Int → Option ((List (S78)) × Int)
 | 0, _, _, _, _ => none
 | k + 1, x0, x1, x6, x7 => if 0 ≤ x1 then (if x1 < (x0.length : Int) then ((impl_billTerm.f k x0 ((rd_T41 x0 x1).f2)).bind fun bt250 => (if bt250.2 = 1 then (some (([] : List (S78)), 1)) else (if x7 = 2 then (some (bt250.1, bt250.2)) else (if bt250.2 = 0 then (if x6.length + bt250.1.length < 5864062014805 then ((some (x6 ++ bt250.1 : List (S78))).bind fun y254 => (if y254.length < 5864062014805 then (some ((y254 ++ [(⟨2, 0, 0⟩ : S78)]), 0)) else (none))) else (none)) else (some (x6, 0)))))) else (none)) else (none)
def impl_billTerm.f : Nat → List (S41) → Int → Option ((List (S78)) × Int)
 | 0, _, _ => none
 | k + 1, l0, a1 => if a1 = 10 then (some (([] : List (S78)), 1)) else (if a1 = 11 then (some (([] : List (S78)), 2)) else ((some (([] : List (S78)) : List (S78))).bind fun y231 => (if 0 ≤ a1 then (if a1 < (l0.length : Int) then (if y231.length + ((rd_T41 l0 a1).f0).length < 5864062014805 then ((some (y231 ++ ((rd_T41 l0 a1).f0) : List (S78))).bind fun y235 => ((impl_billTerm.f k l0 ((rd_T41 l0 a1).f1)).bind fun bt239 => (if bt239.2 = 0 then (if y235.length + bt239.1.length < 5864062014805 then ((some (y235 ++ bt239.1 : List (S78))).bind fun y243 => (if y243.length < 5864062014805 then (impl_billTerm.j0 k l0 a1 (y243 ++ [(⟨1, 0, 0⟩ : S78)]) 0) else (none))) else (none)) else (if bt239.2 = 2 then (impl_billTerm.j0 k l0 a1 ([] : List (S78)) 2) else (impl_billTerm.j0 k l0 a1 y235 0))))) else (none)) else (none)) else (none))))
end
theorem impl_billTerm.mono_l : ∀ k, (∀ y0 y1, LeO (impl_billTerm.f k y0 y1) (impl_billTerm.f (k + 1) y0 y1)) ∧ (∀ y0 y1 y2 y3, LeO (impl_billTerm.j0 k y0 y1 y2 y3) (impl_billTerm.j0 (k + 1) y0 y1 y2 y3))
 | 0 => ⟨fun _ _ r h => by simp [impl_billTerm.f] at h, fun _ _ _ _ r h => by simp [impl_billTerm.j0] at h⟩
 | k + 1 => by
  obtain ⟨ih0, ih1⟩ := impl_billTerm.mono_l k
  refine ⟨?_, ?_⟩
  ·intro y0 y1
   unfold impl_billTerm.f
   repeat' first
   | (with_reducible exact ih0 _ _)
   | (with_reducible exact ih1 _ _ _ _)
   | (with_reducible exact LeO.refl _)
   | (with_reducible exact LeO.none _)
   | (with_reducible refine LeO.ite ?_ ?_)
   | (with_reducible refine LeO.bind ?_ (fun _ => ?_))
   | exact ih0 _ _
   | exact ih1 _ _ _ _
   | exact LeO.none _
   | refine LeO.ite ?_ ?_
   | refine LeO.bind ?_ (fun _ => ?_)
  ·intro y0 y1 y2 y3
   unfold impl_billTerm.j0
   repeat' first
   | (with_reducible exact ih0 _ _)
   | (with_reducible exact ih1 _ _ _ _)
   | (with_reducible exact LeO.refl _)
   | (with_reducible exact LeO.none _)
   | (with_reducible refine LeO.ite ?_ ?_)
   | (with_reducible refine LeO.bind ?_ (fun _ => ?_))
   | exact ih0 _ _
   | exact ih1 _ _ _ _
   | exact LeO.none _
   | refine LeO.ite ?_ ?_
   | refine LeO.bind ?_ (fun _ => ?_)
theorem impl_billTerm.mono : ∀ a0 a1 k, LeO (impl_billTerm.f k a0 a1) (impl_billTerm.f (k + 1) a0 a1) := by
 intro a0 a1 k
 obtain ⟨ih0, ih1⟩ := impl_billTerm.mono_l k
 exact ih0 a0 a1
set_option maxHeartbeats 8000000 in
set_option maxRecDepth 100000 in
theorem impl_billTerm.calls (k : Nat) : ∀ (A0 : Option Addr) (c0 : Nat) (l0 : List (S41)) (a1 : Int) (r1 : List (S78)) (r2 : Int) (w : World) (hr0 : Kd.C k41 w A0 l0.length l0) (hc0 : l0.length ≤ c0) (h : impl_billTerm.f k l0 a1 = some (r1, r2)),
  Calls Try.prog 76 #[.slice A0 l0.length c0, .int .i64 a1] w fun e w' => ∃ v0_ : Value, e = .returned (.tuple #[v0_, .int .i64 r2]) ∧ Kd.R k78 78 w' w.heap.size (fun _ => True) v0_ r1 ∧ Below w.heap.size w w' := by
 induction k using Nat.strongRecOn with
 | _ k ih =>
 intro A0 c0 l0 a1 r1 r2 w hr0 hc0 h
 cases k with
 | zero => exact absurd h (by simp [impl_billTerm.f])
 | succ k =>
 simp only [impl_billTerm.f] at h
 have hu78 := Try.underlying78
 have HR0 := Aside0.mk hr0
 have HC0 := Aside0.mk hc0
 clear hr0 hc0
 have HB := Aside0.mk (Below.refl w.heap.size w)
 have H : (if a1 = 10 then (some (([] : List (S78)), 1)) else (if a1 = 11 then (some (([] : List (S78)), 2)) else ((some (([] : List (S78)) : List (S78))).bind fun y231 => (if 0 ≤ a1 then (if a1 < (l0.length : Int) then (if y231.length + ((rd_T41 l0 a1).f0).length < 5864062014805 then ((some (y231 ++ ((rd_T41 l0 a1).f0) : List (S78))).bind fun y235 => ((impl_billTerm.f k l0 ((rd_T41 l0 a1).f1)).bind fun bt239 => (if bt239.2 = 0 then (if y235.length + bt239.1.length < 5864062014805 then ((some (y235 ++ bt239.1 : List (S78))).bind fun y243 => (if y243.length < 5864062014805 then (impl_billTerm.j0 k l0 a1 (y243 ++ [(⟨1, 0, 0⟩ : S78)]) 0) else (none))) else (none)) else (if bt239.2 = 2 then (impl_billTerm.j0 k l0 a1 ([] : List (S78)) 2) else (impl_billTerm.j0 k l0 a1 y235 0))))) else (none)) else (none)) else (none))))) = some (r1, r2) := h
 clear h
 by_cases c3 : a1 = 10
 ·rw [if_pos c3] at H
  have c3b0 : (a1 == 10) = true := beq_iff_eq.mpr c3
  have c3b1 : (a1 != 10) = false := bne_eq_false_iff_eq.mpr c3
  clear c3
  simp only [Option.some.injEq, Prod.mk.injEq] at H
  obtain ⟨rfl, rfl⟩ := H
  go_enter Try.func76, Try.ntmps76
  go_wp2
  go_ret2
  exact ⟨_, by first | rfl | (simp [errW_none, errW_some] <;> rfl) | (simp [*, errW_none, errW_some] <;> rfl), by first | exact Kd.R_nil _ _ _ _ _ | exact Kd.N_nil _ _ _ _ _ | exact Kd.V_nil _ _ _ _ _ | exact Kd.Q_nil _ _ _ _ _ | exact Kd.S_nil _ _ _ _ _, by exact bh⟩
 ·rw [if_neg c3] at H
  have c3b0 : (a1 == 10) = false := beq_eq_false_iff_ne.mpr c3
  have c3b1 : (a1 != 10) = true := bne_iff_ne.mpr c3
  by_cases c4 : a1 = 11
  ·rw [if_pos c4] at H
   have c4b0 : (a1 == 11) = true := beq_iff_eq.mpr c4
   have c4b1 : (a1 != 11) = false := bne_eq_false_iff_eq.mpr c4
   clear c4
   simp only [Option.some.injEq, Prod.mk.injEq] at H
   obtain ⟨rfl, rfl⟩ := H
   go_enter Try.func76, Try.ntmps76
   go_wp2
   go_ret2
   exact ⟨_, by first | rfl | (simp [errW_none, errW_some] <;> rfl) | (simp [*, errW_none, errW_some] <;> rfl), by first | exact Kd.R_nil _ _ _ _ _ | exact Kd.N_nil _ _ _ _ _ | exact Kd.V_nil _ _ _ _ _ | exact Kd.Q_nil _ _ _ _ _ | exact Kd.S_nil _ _ _ _ _, by exact bh⟩
  ·rw [if_neg c4] at H
   have c4b0 : (a1 == 11) = false := beq_eq_false_iff_ne.mpr c4
   have c4b1 : (a1 != 11) = true := bne_iff_ne.mpr c4
   obtain ⟨y231, hy231⟩ : ∃ y_ : List (S78), y_ = (([] : List (S78))) := ⟨_, rfl⟩
   replace H : (if 0 ≤ a1 then (if a1 < (l0.length : Int) then (if y231.length + ((rd_T41 l0 a1).f0).length < 5864062014805 then ((some (y231 ++ ((rd_T41 l0 a1).f0) : List (S78))).bind fun y235 => ((impl_billTerm.f k l0 ((rd_T41 l0 a1).f1)).bind fun bt239 => (if bt239.2 = 0 then (if y235.length + bt239.1.length < 5864062014805 then ((some (y235 ++ bt239.1 : List (S78))).bind fun y243 => (if y243.length < 5864062014805 then (impl_billTerm.j0 k l0 a1 (y243 ++ [(⟨1, 0, 0⟩ : S78)]) 0) else (none))) else (none)) else (if bt239.2 = 2 then (impl_billTerm.j0 k l0 a1 ([] : List (S78)) 2) else (impl_billTerm.j0 k l0 a1 y235 0))))) else (none)) else (none)) else (none)) = some (r1, r2) := by first | (rw [hy231]; with_reducible exact H) | (have H2_ := (Option.bind_some _ _).symm.trans H; rw [hy231]; with_reducible exact H2_) | (have H2_ := (Option.bind_some _ _).symm.trans H; with_reducible exact H2_) | with_reducible exact H | (rw [hy231]; exact H) | exact H
   have Ny231 := Aside0.mk hy231
   clear hy231
   by_cases c5 : 0 ≤ a1
   ·rw [if_pos c5] at H
    have c5b0 : decide (0 ≤ a1) = true := decide_eq_true c5
    clear c5
    by_cases c6 : a1 < (l0.length : Int)
    ·rw [if_pos c6] at H
     have c6b0 : decide (a1 < (l0.length : Int)) = true := decide_eq_true c6
     clear c6
     by_cases c7 : y231.length + ((rd_T41 l0 a1).f0).length < 5864062014805
     ·rw [if_pos c7] at H
      have LMc7 := Aside0.mk c7
      clear c7
      obtain ⟨y235, hy235⟩ : ∃ y_ : List (S78), y_ = (y231 ++ ((rd_T41 l0 a1).f0)) := ⟨_, rfl⟩
      replace H : ((impl_billTerm.f k l0 ((rd_T41 l0 a1).f1)).bind fun bt239 => (if bt239.2 = 0 then (if y235.length + bt239.1.length < 5864062014805 then ((some (y235 ++ bt239.1 : List (S78))).bind fun y243 => (if y243.length < 5864062014805 then (impl_billTerm.j0 k l0 a1 (y243 ++ [(⟨1, 0, 0⟩ : S78)]) 0) else (none))) else (none)) else (if bt239.2 = 2 then (impl_billTerm.j0 k l0 a1 ([] : List (S78)) 2) else (impl_billTerm.j0 k l0 a1 y235 0)))) = some (r1, r2) := by first | (rw [hy235]; with_reducible exact H) | (have H2_ := (Option.bind_some _ _).symm.trans H; rw [hy235]; with_reducible exact H2_) | (have H2_ := (Option.bind_some _ _).symm.trans H; with_reducible exact H2_) | with_reducible exact H | (rw [hy235]; exact H) | exact H
      have Ny235 := Aside0.mk hy235
      clear hy235
      replace H := Option.bind_eq_some_iff.mp H
      obtain ⟨⟨t239, t240⟩, A80, H⟩ := H
      replace H : (if t240 = 0 then (if y235.length + t239.length < 5864062014805 then ((some (y235 ++ t239 : List (S78))).bind fun y243 => (if y243.length < 5864062014805 then (impl_billTerm.j0 k l0 a1 (y243 ++ [(⟨1, 0, 0⟩ : S78)]) 0) else (none))) else (none)) else (if t240 = 2 then (impl_billTerm.j0 k l0 a1 ([] : List (S78)) 2) else (impl_billTerm.j0 k l0 a1 y235 0))) = some (r1, r2) := H
      have A8 := Aside0.mk A80
      clear A80
      have HC9 := Aside0.mk H
      clear H
      go_enter Try.func76, Try.ntmps76
      go_upto_block 1 with (first | ((with_reducible refine gate_dst (N := 16) rfl ?_); refine Kd.R_lit k78 _ 78 ?hg (N := 16) ?hd (xs := ([] : List (S78))) (inner := []) (ok := fun _ => True) (okp := fun _ => True) ?hr ?hp (fun _ hk => hk) trivial (Below.refl _ _) (Nat.le_refl _) (by simp) ?_; (case hd => rfl); (case hg => rfl); (case hr => first | (go_simp; done) | (go_simp; rfl)); (case hp => exact (Reps.none _ _)); intro v232 w10 ho11 hb hg_ hnew_; clear hg_ hnew_; (first | rw [← Ny231.out] at ho11 | (simp only [Int.reduceToNat] at ho11; rw [← Ny231.out] at ho11)); have n0_ := Aside0.mk (Kd.R_lower ho11 (below_size bh)); have n1_ := Aside0.mk (below_step bh hb); clear HB; have HO233 := n0_; have HB := n1_; clear n0_ n1_ hb ho11; have p234 : 0 ≤ (a1 : Int) := oda; have q234 : a1 < (l0.length : Int) := oda; obtain ⟨ad234, A234_0, c234_0, e234, hx234_0, hx234_1, hx234_2, hl234_0, hi234_0⟩ := at_T41 HR0.out a1 p234 q234; cases e234; replace hx234_0 := (HB.out.cell (World.block_lt_of_cell? w _ hx234_0)).trans hx234_0; replace hx234_1 := (HB.out.cell (World.block_lt_of_cell? w _ hx234_1)).trans hx234_1; replace hx234_2 := (HB.out.cell (World.block_lt_of_cell? w _ hx234_2)).trans hx234_2; have HR234_0 := Aside0.mk hi234_0; have HC234_0 := Aside0.mk hl234_0; clear hi234_0 hl234_0; replace p234 := eq_true p234; replace q234 := eq_true q234) | ((with_reducible refine gate_builtin (b := .append) (xs := #[.tmp 16, .tmp 21]) rfl ?_); at_builtin; refine Kd.R_append_rows k78 (w0 := w) w.heap.size rfl (.tmp 16) (.tmp 21) 33 78 (.agg #[(.int .i64 0), (.int .i64 0), (.int .i64 0)]) 24 rfl Try.underlying33 info78 rfl (by decide) (by omega) v232 y231 ((rd_T41 l0 a1).f0) _ _ _ (fun _ => True) (fun _ => False) rfl rfl ?aO ?aR (fun _ _ h => h) (fun _ h => h.elim) ?aF ?aB ?aS ?aL ?_; (case aR => repeat (first | exact (Kd.C_below HR234_0.out HB.out) | (with_reducible refine Kd.C_alloc ?_ _) | (with_reducible refine Kd.C_drewN ?_ _) | (with_reducible refine Kd.C_drew ?_))); (case aB => exact bh); (case aF => exact (fun _ _ => trivial)); (case aO => exact (rz HO233)); (case aS => exact (below_size bh)); (case aL => have := LMc7.out; omega); intro v236 w12 ho hb hg hat; rw [← Ny235.out] at ho; have n0_ := Aside0.mk (hb); have n1_ := Aside0.mk (ho); clear HB HO233; have HB := n0_; have HO237 := n1_; clear n0_ n1_ ho hb hg hat; have p238 : 0 ≤ (a1 : Int) := oda; have q238 : a1 < (l0.length : Int) := oda; obtain ⟨ad238, A238_0, c238_0, e238, hx238_0, hx238_1, hx238_2, hl238_0, hi238_0⟩ := at_T41 HR0.out a1 p238 q238; obtain rfl : ad234 = ad238 := (by injection e238); replace hx238_0 := (HB.out.cell (World.block_lt_of_cell? w _ hx238_0)).trans hx238_0; replace hx238_1 := (HB.out.cell (World.block_lt_of_cell? w _ hx238_1)).trans hx238_1; replace hx238_2 := (HB.out.cell (World.block_lt_of_cell? w _ hx238_2)).trans hx238_2; have HR238_0 := Aside0.mk hi238_0; have HC238_0 := Aside0.mk hl238_0; clear hi238_0 hl238_0; replace p238 := eq_true p238; replace q238 := eq_true q238) | ((with_reducible refine gate_callee (f := 76) rfl ?_); refine goesL_ (some 30) rfl rfl Try.func76 kr rfl #[.slice (some ad234) l0.length c0, .int .i64 ((rd_T41 l0 a1).f1)] rfl lm ?_; (with_reducible refine (ih k (by omega) _ _ l0 ((rd_T41 l0 a1).f1) t239 t240 _ ?side1 ?side2 A8.out).mono ?_); (case side1 => repeat (first | exact (Kd.C_below HR0.out HB.out) | (with_reducible refine Kd.C_alloc ?_ _) | (with_reducible refine Kd.C_drewN ?_ _) | (with_reducible refine Kd.C_drew ?_))); (case side2 => exact HC0.out); rintro e w13 ⟨v241, rfl, ho0, hb⟩; refine ⟨_, rfl, ?_⟩; have n0_ := Aside0.mk (Kd.R_elder' (rz HO237) (Kd.R_base ho0) hb); have n1_ := Aside0.mk (Kd.R_lower (Kd.R_new' ho0 (Kd.R_lt (rz HO237))) (below_size bh)); have n2_ := Aside0.mk (below_step bh hb); clear HO237 HB; have HO237 := n0_; have HO242 := n1_; have HB := n2_; clear n0_ n1_ n2_; (try clear hb); (try clear hb2); (try clear hk); (try clear hi); (try clear ho0)))
      (try simp only [Act.put, List.setIfInBounds_toArray, List.set_cons_zero, List.set_cons_succ])
      go_cut [6, 7] (fun v6 v7 wc => ∃ (kq : Nat) (x6_8 : List (S78)) (x7_8 : Int), v7 = .int .i64 x7_8 ∧ Aside0 (impl_billTerm.j0 kq l0 a1 x6_8 x7_8 = some (r1, r2)) ∧ Aside0 (kq ≤ k) ∧ Aside0 (Kd.R k78 78 wc w.heap.size (fun _ => True) v6 x6_8) ∧ Aside0 (Below w.heap.size w wc))
      case first =>
       have H := HC9.out
       clear HC9
       by_cases c14 : t240 = 0
       ·rw [if_pos c14] at H
        have c14b0 : (t240 == 0) = true := beq_iff_eq.mpr c14
        have c14b1 : (t240 != 0) = false := bne_eq_false_iff_eq.mpr c14
        clear c14
        (first | rw [c14b0] | (simp only [i64_w, i32_w]; rw [c14b0]) | skip)
        by_cases c15 : y235.length + t239.length < 5864062014805
        ·rw [if_pos c15] at H
         have LMc15 := Aside0.mk c15
         clear c15
         obtain ⟨y243, hy243⟩ : ∃ y_ : List (S78), y_ = (y235 ++ t239) := ⟨_, rfl⟩
         replace H : (if y243.length < 5864062014805 then (impl_billTerm.j0 k l0 a1 (y243 ++ [(⟨1, 0, 0⟩ : S78)]) 0) else (none)) = some (r1, r2) := by first | (rw [hy243]; with_reducible exact H) | (have H2_ := (Option.bind_some _ _).symm.trans H; rw [hy243]; with_reducible exact H2_) | (have H2_ := (Option.bind_some _ _).symm.trans H; with_reducible exact H2_) | with_reducible exact H | (rw [hy243]; exact H) | exact H
         have Ny243 := Aside0.mk hy243
         clear hy243
         by_cases c16 : y243.length < 5864062014805
         ·rw [if_pos c16] at H
          have LMc16 := Aside0.mk c16
          clear c16
          obtain ⟨y246, hy246⟩ : ∃ y_ : List (S78), y_ = (y243 ++ [(⟨1, 0, 0⟩ : S78)]) := ⟨_, rfl⟩
          replace H : (impl_billTerm.j0 k l0 a1 y246 0) = some (r1, r2) := by first | (rw [hy246]; with_reducible exact H) | (have H2_ := (Option.bind_some _ _).symm.trans H; rw [hy246]; with_reducible exact H2_) | (have H2_ := (Option.bind_some _ _).symm.trans H; with_reducible exact H2_) | with_reducible exact H | (rw [hy246]; exact H) | exact H
          have Ny246 := Aside0.mk hy246
          clear hy246
          have H' := Aside0.mk H
          clear H
          obtain ⟨Ao18, co18, eo18⟩ := Kd.R_slice HO242.out
          subst eo18
          go_wp2_with (first | ((with_reducible refine gate_builtin (b := .append) (xs := #[.tmp 36, .tmp 37]) rfl ?_); at_builtin; refine Kd.R_append_rows k78 (w0 := w) w.heap.size rfl (.tmp 36) (.tmp 37) 33 78 (.agg #[(.int .i64 0), (.int .i64 0), (.int .i64 0)]) 24 rfl Try.underlying33 info78 rfl (by decide) (by omega) v236 y235 t239 _ _ _ (fun k_ => some k_ ≠ (.slice Ao18 t239.length co18 : Value).ownBlock) (fun _ => False) rfl rfl ?aO ?aR (fun _ _ h => h) (fun _ h => h.elim) ?aF ?aB ?aS ?aL ?_; (case aR => repeat (first | exact (Kd.R_reads' HO242.out).2.2 | (with_reducible refine Kd.C_alloc ?_ _) | (with_reducible refine Kd.C_drewN ?_ _) | (with_reducible refine Kd.C_drew ?_))); (case aB => exact bh); (case aF => exact (fun k_ hk => Kd.fresh' (Kd.R_lt (rz HO242)) k_ hk)); (case aO => exact (mR HO237)); (case aS => exact (below_size bh)); (case aL => have := LMc15.out; omega); intro v244 w17 ho hb hg hat; rw [← Ny243.out] at ho; have n0_ := Aside0.mk (Kd.R_after (ok := (fun _ => True)) (rz HO242) hg hat); have n1_ := Aside0.mk (hb); have n2_ := Aside0.mk (ho); clear HO242 HB HO237; have HO242 := n0_; have HB := n1_; have HO245 := n2_; clear n0_ n1_ n2_ ho hb hg hat) | ((with_reducible refine gate_builtin (b := .append) (xs := #[.tmp 38, .tmp 40]) rfl ?_); at_builtin; refine Kd.R_append k78 (w0 := w) w.heap.size rfl (.tmp 38) (.tmp 40) 33 78 (.agg #[(.int .i64 0), (.int .i64 0), (.int .i64 0)]) 24 rfl Try.underlying33 info78 rfl (by decide) (by omega) v244 y243 (⟨1, 0, 0⟩ : S78) [.int .i64 1, .int .i64 0, .int .i64 0] (fun k_ => some k_ ≠ (.slice Ao18 t239.length co18 : Value).ownBlock) (fun _ => False) rfl rfl ?aP (fun _ hk => hk.elim) ?aF ?aO ?aB ?aS ?aL ?_; (case aP => exact k78_mkM _ _ _ (⟨1, 0, 0⟩ : S78)); (case aB => exact bh); (case aF => exact (fun k_ hk => Kd.fresh' (Kd.R_lt (rz HO242)) k_ hk)); (case aO => exact (rz HO245)); (case aS => exact (below_size bh)); (case aL => have := LMc16.out; omega); intro v247 w19 ho hb hg hat; rw [← Ny246.out] at ho; have n0_ := Aside0.mk (Kd.R_after (ok := (fun _ => True)) (rz HO242) hg hat); have n1_ := Aside0.mk (hb); have n2_ := Aside0.mk (ho); clear HO242 HB HO245; have HO242 := n0_; have HB := n1_; have HO248 := n2_; clear n0_ n1_ n2_ ho hb hg hat))
          go_meet
          case rel => exact ⟨_, (y246), (0), (by first | rfl | (simp; done) | (simp [*]; done)), H', ⟨by first | omega | exact Nat.le_refl _⟩, ⟨mR HO248⟩, ⟨by exact bh⟩⟩
         ·rw [if_neg c16] at H
          exact absurd H (by simp)
        ·rw [if_neg c15] at H
         exact absurd H (by simp)
       ·rw [if_neg c14] at H
        have c14b0 : (t240 == 0) = false := beq_eq_false_iff_ne.mpr c14
        have c14b1 : (t240 != 0) = true := bne_iff_ne.mpr c14
        (first | rw [c14b0] | (simp only [i64_w, i32_w]; rw [c14b0]) | skip)
        by_cases c20 : t240 = 2
        ·rw [if_pos c20] at H
         have c20b0 : (t240 == 2) = true := beq_iff_eq.mpr c20
         have c20b1 : (t240 != 2) = false := bne_eq_false_iff_eq.mpr c20
         clear c20
         have H' := Aside0.mk H
         clear H
         go_wp2
         go_meet
         case rel => exact ⟨_, (([] : List (S78))), (2), (by first | rfl | (simp; done) | (simp [*]; done)), H', ⟨by first | omega | exact Nat.le_refl _⟩, ⟨by first | exact Kd.R_nil _ _ _ _ _ | exact Kd.N_nil _ _ _ _ _ | exact Kd.V_nil _ _ _ _ _ | exact Kd.Q_nil _ _ _ _ _ | exact Kd.S_nil _ _ _ _ _⟩, ⟨by exact bh⟩⟩
        ·rw [if_neg c20] at H
         have c20b0 : (t240 == 2) = false := beq_eq_false_iff_ne.mpr c20
         have c20b1 : (t240 != 2) = true := bne_iff_ne.mpr c20
         have H' := Aside0.mk H
         clear H
         go_wp2
         go_meet
         case rel => exact ⟨_, (y235), (0), (by first | rfl | (simp; done) | (simp [*]; done)), H', ⟨by first | omega | exact Nat.le_refl _⟩, ⟨mR HO237⟩, ⟨by exact bh⟩⟩
      case rest =>
       clear HC9
       try clear c1
       try clear c2
       try clear p2
       try clear q2
       try clear hx2
       try clear c3
       try clear c3b0
       try clear c3b1
       try clear c4
       try clear c4b0
       try clear c4b1
       try clear c5
       try clear c5b0
       try clear c6
       try clear c6b0
       try clear c7
       try clear c14
       try clear c14b0
       try clear c14b1
       try clear c15
       try clear c16
       try clear c20
       try clear c20b0
       try clear c20b1
       try clear hx234_0
       try clear hx234_1
       try clear hx234_2
       try clear hx238_0
       try clear hx238_1
       try clear hx238_2
       try clear p234
       try clear p238
       try clear q234
       try clear q238
       obtain ⟨kq, x6_8, x7_8, rfl, HA, HJ8, HO_6, HB⟩ := hcut
       cases kq with
       | zero => exact absurd HA.out (by simp [impl_billTerm.j0])
       | succ kj8 =>
        have H := HA.out
        clear HA
        simp only [impl_billTerm.j0] at H
        by_cases c21 : 0 ≤ a1
        ·rw [if_pos c21] at H
         have c21b0 : decide (0 ≤ a1) = true := decide_eq_true c21
         clear c21
         by_cases c22 : a1 < (l0.length : Int)
         ·rw [if_pos c22] at H
          have c22b0 : decide (a1 < (l0.length : Int)) = true := decide_eq_true c22
          clear c22
          replace H := Option.bind_eq_some_iff.mp H
          obtain ⟨⟨t250, t251⟩, A230, H⟩ := H
          replace H : (if t251 = 1 then (some (([] : List (S78)), 1)) else (if x7_8 = 2 then (some (t250, t251)) else (if t251 = 0 then (if x6_8.length + t250.length < 5864062014805 then ((some (x6_8 ++ t250 : List (S78))).bind fun y254 => (if y254.length < 5864062014805 then (some ((y254 ++ [(⟨2, 0, 0⟩ : S78)]), 0)) else (none))) else (none)) else (some (x6_8, 0))))) = some (r1, r2) := H
          have A23 := Aside0.mk A230
          clear A230
          by_cases c24 : t251 = 1
          ·rw [if_pos c24] at H
           have c24b0 : (t251 == 1) = true := beq_iff_eq.mpr c24
           have c24b1 : (t251 != 1) = false := bne_eq_false_iff_eq.mpr c24
           clear c24
           simp only [Option.some.injEq, Prod.mk.injEq] at H
           obtain ⟨rfl, rfl⟩ := H
           have p249 : 0 ≤ (a1 : Int) := oda
           have q249 : a1 < (l0.length : Int) := oda
           obtain ⟨ad249, A249_0, c249_0, e249, hx249_0, hx249_1, hx249_2, hl249_0, hi249_0⟩ := at_T41 HR0.out a1 p249 q249
           obtain rfl : ad234 = ad249 := (by injection e249)
           replace hx249_0 := (HB.out.cell (World.block_lt_of_cell? w _ hx249_0)).trans hx249_0
           replace hx249_1 := (HB.out.cell (World.block_lt_of_cell? w _ hx249_1)).trans hx249_1
           replace hx249_2 := (HB.out.cell (World.block_lt_of_cell? w _ hx249_2)).trans hx249_2
           have HR249_0 := Aside0.mk hi249_0
           have HC249_0 := Aside0.mk hl249_0
           clear hi249_0 hl249_0
           replace p249 := eq_true p249
           replace q249 := eq_true q249
           go_wp2_with (first | ((with_reducible refine gate_callee (f := 76) rfl ?_); refine goesL_ (some 51) rfl rfl Try.func76 kr rfl #[.slice (some ad234) l0.length c0, .int .i64 ((rd_T41 l0 a1).f2)] rfl lm ?_; (with_reducible refine (ih kj8 (by have := HJ8.out; omega) _ _ l0 ((rd_T41 l0 a1).f2) t250 t251 _ ?side1 ?side2 A23.out).mono ?_); (case side1 => repeat (first | exact (Kd.C_below HR0.out HB.out) | (with_reducible refine Kd.C_alloc ?_ _) | (with_reducible refine Kd.C_drewN ?_ _) | (with_reducible refine Kd.C_drew ?_))); (case side2 => exact HC0.out); rintro e w25 ⟨v252, rfl, ho0, hb⟩; refine ⟨_, rfl, ?_⟩; have n0_ := Aside0.mk (Kd.R_elder' (rz HO_6) (Kd.R_base ho0) hb); have n1_ := Aside0.mk (Kd.R_lower (Kd.R_new' ho0 (Kd.R_lt (rz HO_6))) (below_size bh)); have n2_ := Aside0.mk (below_step bh hb); clear HO_6 HB; have HO_6 := n0_; have HO253 := n1_; have HB := n2_; clear n0_ n1_ n2_; (try clear hb); (try clear hb2); (try clear hk); (try clear hi); (try clear ho0)))
           go_ret2
           exact ⟨_, by first | rfl | (simp [errW_none, errW_some] <;> rfl) | (simp [*, errW_none, errW_some] <;> rfl), by first | exact Kd.R_nil _ _ _ _ _ | exact Kd.N_nil _ _ _ _ _ | exact Kd.V_nil _ _ _ _ _ | exact Kd.Q_nil _ _ _ _ _ | exact Kd.S_nil _ _ _ _ _, by exact bh⟩
          ·rw [if_neg c24] at H
           have c24b0 : (t251 == 1) = false := beq_eq_false_iff_ne.mpr c24
           have c24b1 : (t251 != 1) = true := bne_iff_ne.mpr c24
           by_cases c26 : x7_8 = 2
           ·rw [if_pos c26] at H
            have c26b0 : (x7_8 == 2) = true := beq_iff_eq.mpr c26
            have c26b1 : (x7_8 != 2) = false := bne_eq_false_iff_eq.mpr c26
            clear c26
            simp only [Option.some.injEq, Prod.mk.injEq] at H
            obtain ⟨rfl, rfl⟩ := H
            have p249 : 0 ≤ (a1 : Int) := oda
            have q249 : a1 < (l0.length : Int) := oda
            obtain ⟨ad249, A249_0, c249_0, e249, hx249_0, hx249_1, hx249_2, hl249_0, hi249_0⟩ := at_T41 HR0.out a1 p249 q249
            obtain rfl : ad234 = ad249 := (by injection e249)
            replace hx249_0 := (HB.out.cell (World.block_lt_of_cell? w _ hx249_0)).trans hx249_0
            replace hx249_1 := (HB.out.cell (World.block_lt_of_cell? w _ hx249_1)).trans hx249_1
            replace hx249_2 := (HB.out.cell (World.block_lt_of_cell? w _ hx249_2)).trans hx249_2
            have HR249_0 := Aside0.mk hi249_0
            have HC249_0 := Aside0.mk hl249_0
            clear hi249_0 hl249_0
            replace p249 := eq_true p249
            replace q249 := eq_true q249
            go_wp2_with (first | ((with_reducible refine gate_callee (f := 76) rfl ?_); refine goesL_ (some 51) rfl rfl Try.func76 kr rfl #[.slice (some ad234) l0.length c0, .int .i64 ((rd_T41 l0 a1).f2)] rfl lm ?_; (with_reducible refine (ih kj8 (by have := HJ8.out; omega) _ _ l0 ((rd_T41 l0 a1).f2) t250 t251 _ ?side1 ?side2 A23.out).mono ?_); (case side1 => repeat (first | exact (Kd.C_below HR0.out HB.out) | (with_reducible refine Kd.C_alloc ?_ _) | (with_reducible refine Kd.C_drewN ?_ _) | (with_reducible refine Kd.C_drew ?_))); (case side2 => exact HC0.out); rintro e w27 ⟨v252, rfl, ho0, hb⟩; refine ⟨_, rfl, ?_⟩; have n0_ := Aside0.mk (Kd.R_elder' (rz HO_6) (Kd.R_base ho0) hb); have n1_ := Aside0.mk (Kd.R_lower (Kd.R_new' ho0 (Kd.R_lt (rz HO_6))) (below_size bh)); have n2_ := Aside0.mk (below_step bh hb); clear HO_6 HB; have HO_6 := n0_; have HO253 := n1_; have HB := n2_; clear n0_ n1_ n2_; (try clear hb); (try clear hb2); (try clear hk); (try clear hi); (try clear ho0)))
            go_ret2
            exact ⟨_, by first | rfl | (simp [errW_none, errW_some] <;> rfl) | (simp [*, errW_none, errW_some] <;> rfl), by (with_reducible repeat (first | apply Kd.R_alloc | apply Kd.R_drewN | apply Kd.R_drew)); exact Kd.R_mono HO253.out (fun _ hk => trivial), by exact bh⟩
           ·rw [if_neg c26] at H
            have c26b0 : (x7_8 == 2) = false := beq_eq_false_iff_ne.mpr c26
            have c26b1 : (x7_8 != 2) = true := bne_iff_ne.mpr c26
            by_cases c28 : t251 = 0
            ·rw [if_pos c28] at H
             have c28b0 : (t251 == 0) = true := beq_iff_eq.mpr c28
             have c28b1 : (t251 != 0) = false := bne_eq_false_iff_eq.mpr c28
             clear c28
             by_cases c29 : x6_8.length + t250.length < 5864062014805
             ·rw [if_pos c29] at H
              have LMc29 := Aside0.mk c29
              clear c29
              obtain ⟨y254, hy254⟩ : ∃ y_ : List (S78), y_ = (x6_8 ++ t250) := ⟨_, rfl⟩
              replace H : (if y254.length < 5864062014805 then (some ((y254 ++ [(⟨2, 0, 0⟩ : S78)]), 0)) else (none)) = some (r1, r2) := by first | (rw [hy254]; with_reducible exact H) | (have H2_ := (Option.bind_some _ _).symm.trans H; rw [hy254]; with_reducible exact H2_) | (have H2_ := (Option.bind_some _ _).symm.trans H; with_reducible exact H2_) | with_reducible exact H | (rw [hy254]; exact H) | exact H
              have Ny254 := Aside0.mk hy254
              clear hy254
              by_cases c30 : y254.length < 5864062014805
              ·rw [if_pos c30] at H
               have LMc30 := Aside0.mk c30
               clear c30
               obtain ⟨y257, hy257⟩ : ∃ y_ : List (S78), y_ = (y254 ++ [(⟨2, 0, 0⟩ : S78)]) := ⟨_, rfl⟩
               replace H : (some (y257, 0)) = some (r1, r2) := by first | (rw [hy257]; with_reducible exact H) | (have H2_ := (Option.bind_some _ _).symm.trans H; rw [hy257]; with_reducible exact H2_) | (have H2_ := (Option.bind_some _ _).symm.trans H; with_reducible exact H2_) | with_reducible exact H | (rw [hy257]; exact H) | exact H
               have Ny257 := Aside0.mk hy257
               clear hy257
               simp only [Option.some.injEq, Prod.mk.injEq] at H
               obtain ⟨rfl, rfl⟩ := H
               have p249 : 0 ≤ (a1 : Int) := oda
               have q249 : a1 < (l0.length : Int) := oda
               obtain ⟨ad249, A249_0, c249_0, e249, hx249_0, hx249_1, hx249_2, hl249_0, hi249_0⟩ := at_T41 HR0.out a1 p249 q249
               obtain rfl : ad234 = ad249 := (by injection e249)
               replace hx249_0 := (HB.out.cell (World.block_lt_of_cell? w _ hx249_0)).trans hx249_0
               replace hx249_1 := (HB.out.cell (World.block_lt_of_cell? w _ hx249_1)).trans hx249_1
               replace hx249_2 := (HB.out.cell (World.block_lt_of_cell? w _ hx249_2)).trans hx249_2
               have HR249_0 := Aside0.mk hi249_0
               have HC249_0 := Aside0.mk hl249_0
               clear hi249_0 hl249_0
               replace p249 := eq_true p249
               replace q249 := eq_true q249
               go_wp2_with (first | ((with_reducible refine gate_callee (f := 76) rfl ?_); refine goesL_ (some 51) rfl rfl Try.func76 kr rfl #[.slice (some ad234) l0.length c0, .int .i64 ((rd_T41 l0 a1).f2)] rfl lm ?_; (with_reducible refine (ih kj8 (by have := HJ8.out; omega) _ _ l0 ((rd_T41 l0 a1).f2) t250 t251 _ ?side1 ?side2 A23.out).mono ?_); (case side1 => repeat (first | exact (Kd.C_below HR0.out HB.out) | (with_reducible refine Kd.C_alloc ?_ _) | (with_reducible refine Kd.C_drewN ?_ _) | (with_reducible refine Kd.C_drew ?_))); (case side2 => exact HC0.out); rintro e w31 ⟨v252, rfl, ho0, hb⟩; refine ⟨_, rfl, ?_⟩; have n0_ := Aside0.mk (Kd.R_elder' (rz HO_6) (Kd.R_base ho0) hb); have n1_ := Aside0.mk (Kd.R_lower (Kd.R_new' ho0 (Kd.R_lt (rz HO_6))) (below_size bh)); have n2_ := Aside0.mk (below_step bh hb); clear HO_6 HB; have HO_6 := n0_; have HO253 := n1_; have HB := n2_; clear n0_ n1_ n2_; (try clear hb); (try clear hb2); (try clear hk); (try clear hi); (try clear ho0); obtain ⟨Ao33, co33, eo33⟩ := Kd.R_slice HO253.out; subst eo33) | ((with_reducible refine gate_builtin (b := .append) (xs := #[.tmp 65, .tmp 66]) rfl ?_); at_builtin; refine Kd.R_append_rows k78 (w0 := w) w.heap.size rfl (.tmp 65) (.tmp 66) 33 78 (.agg #[(.int .i64 0), (.int .i64 0), (.int .i64 0)]) 24 rfl Try.underlying33 info78 rfl (by decide) (by omega) u6 x6_8 t250 _ _ _ (fun k_ => some k_ ≠ (.slice Ao33 t250.length co33 : Value).ownBlock) (fun _ => False) rfl rfl ?aO ?aR (fun _ _ h => h) (fun _ h => h.elim) ?aF ?aB ?aS ?aL ?_; (case aR => repeat (first | exact (Kd.R_reads' HO253.out).2.2 | (with_reducible refine Kd.C_alloc ?_ _) | (with_reducible refine Kd.C_drewN ?_ _) | (with_reducible refine Kd.C_drew ?_))); (case aB => exact bh); (case aF => exact (fun k_ hk => Kd.fresh' (Kd.R_lt (rz HO253)) k_ hk)); (case aO => exact (mR HO_6)); (case aS => exact (below_size bh)); (case aL => have := LMc29.out; omega); intro v255 w32 ho hb hg hat; rw [← Ny254.out] at ho; have n0_ := Aside0.mk (Kd.R_after (ok := (fun _ => True)) (rz HO253) hg hat); have n1_ := Aside0.mk (hb); have n2_ := Aside0.mk (ho); clear HO253 HB HO_6; have HO253 := n0_; have HB := n1_; have HO256 := n2_; clear n0_ n1_ n2_ ho hb hg hat) | ((with_reducible refine gate_builtin (b := .append) (xs := #[.tmp 67, .tmp 69]) rfl ?_); at_builtin; refine Kd.R_append k78 (w0 := w) w.heap.size rfl (.tmp 67) (.tmp 69) 33 78 (.agg #[(.int .i64 0), (.int .i64 0), (.int .i64 0)]) 24 rfl Try.underlying33 info78 rfl (by decide) (by omega) v255 y254 (⟨2, 0, 0⟩ : S78) [.int .i64 2, .int .i64 0, .int .i64 0] (fun k_ => some k_ ≠ (.slice Ao33 t250.length co33 : Value).ownBlock) (fun _ => False) rfl rfl ?aP (fun _ hk => hk.elim) ?aF ?aO ?aB ?aS ?aL ?_; (case aP => exact k78_mkM _ _ _ (⟨2, 0, 0⟩ : S78)); (case aB => exact bh); (case aF => exact (fun k_ hk => Kd.fresh' (Kd.R_lt (rz HO253)) k_ hk)); (case aO => exact (rz HO256)); (case aS => exact (below_size bh)); (case aL => have := LMc30.out; omega); intro v258 w34 ho hb hg hat; rw [← Ny257.out] at ho; have n0_ := Aside0.mk (Kd.R_after (ok := (fun _ => True)) (rz HO253) hg hat); have n1_ := Aside0.mk (hb); have n2_ := Aside0.mk (ho); clear HO253 HB HO256; have HO253 := n0_; have HB := n1_; have HO259 := n2_; clear n0_ n1_ n2_ ho hb hg hat))
               go_ret2
               exact ⟨_, by first | rfl | (simp [errW_none, errW_some] <;> rfl) | (simp [*, errW_none, errW_some] <;> rfl), by (with_reducible repeat (first | apply Kd.R_alloc | apply Kd.R_drewN | apply Kd.R_drew)); exact Kd.R_mono HO259.out (fun _ hk => trivial), by exact bh⟩
              ·rw [if_neg c30] at H
               exact absurd H (by simp)
             ·rw [if_neg c29] at H
              exact absurd H (by simp)
            ·rw [if_neg c28] at H
             have c28b0 : (t251 == 0) = false := beq_eq_false_iff_ne.mpr c28
             have c28b1 : (t251 != 0) = true := bne_iff_ne.mpr c28
             simp only [Option.some.injEq, Prod.mk.injEq] at H
             obtain ⟨rfl, rfl⟩ := H
             have p249 : 0 ≤ (a1 : Int) := oda
             have q249 : a1 < (l0.length : Int) := oda
             obtain ⟨ad249, A249_0, c249_0, e249, hx249_0, hx249_1, hx249_2, hl249_0, hi249_0⟩ := at_T41 HR0.out a1 p249 q249
             obtain rfl : ad234 = ad249 := (by injection e249)
             replace hx249_0 := (HB.out.cell (World.block_lt_of_cell? w _ hx249_0)).trans hx249_0
             replace hx249_1 := (HB.out.cell (World.block_lt_of_cell? w _ hx249_1)).trans hx249_1
             replace hx249_2 := (HB.out.cell (World.block_lt_of_cell? w _ hx249_2)).trans hx249_2
             have HR249_0 := Aside0.mk hi249_0
             have HC249_0 := Aside0.mk hl249_0
             clear hi249_0 hl249_0
             replace p249 := eq_true p249
             replace q249 := eq_true q249
             go_wp2_with (first | ((with_reducible refine gate_callee (f := 76) rfl ?_); refine goesL_ (some 51) rfl rfl Try.func76 kr rfl #[.slice (some ad234) l0.length c0, .int .i64 ((rd_T41 l0 a1).f2)] rfl lm ?_; (with_reducible refine (ih kj8 (by have := HJ8.out; omega) _ _ l0 ((rd_T41 l0 a1).f2) t250 t251 _ ?side1 ?side2 A23.out).mono ?_); (case side1 => repeat (first | exact (Kd.C_below HR0.out HB.out) | (with_reducible refine Kd.C_alloc ?_ _) | (with_reducible refine Kd.C_drewN ?_ _) | (with_reducible refine Kd.C_drew ?_))); (case side2 => exact HC0.out); rintro e w35 ⟨v252, rfl, ho0, hb⟩; refine ⟨_, rfl, ?_⟩; have n0_ := Aside0.mk (Kd.R_elder' (rz HO_6) (Kd.R_base ho0) hb); have n1_ := Aside0.mk (Kd.R_lower (Kd.R_new' ho0 (Kd.R_lt (rz HO_6))) (below_size bh)); have n2_ := Aside0.mk (below_step bh hb); clear HO_6 HB; have HO_6 := n0_; have HO253 := n1_; have HB := n2_; clear n0_ n1_ n2_; (try clear hb); (try clear hb2); (try clear hk); (try clear hi); (try clear ho0)))
             go_ret2
             exact ⟨_, by first | rfl | (simp [errW_none, errW_some] <;> rfl) | (simp [*, errW_none, errW_some] <;> rfl), by (with_reducible repeat (first | apply Kd.R_alloc | apply Kd.R_drewN | apply Kd.R_drew)); exact Kd.R_mono HO_6.out (fun _ hk => trivial), by exact bh⟩
         ·rw [if_neg c22] at H
          exact absurd H (by simp)
        ·rw [if_neg c21] at H
         exact absurd H (by simp)
     ·rw [if_neg c7] at H
      exact absurd H (by simp)
    ·rw [if_neg c6] at H
     exact absurd H (by simp)
   ·rw [if_neg c5] at H
    exact absurd H (by simp)

/-! ### impl_BillTerm: function 42 -/
def impl_BillTerm.j0 : Nat → List (S41) → Bool → Option ((List (S78)) × Int)
 | 0, _, _ => none
 | k + 1, x1, x17 => if x17 = true then (some (([] : List (S78)), (-1))) else ((impl_billTerm.f k x1 0).bind fun bt263 => (if (bt263.1.length : Int) > 9 then (some (([] : List (S78)), (-1))) else (some (bt263.1, bt263.2))))
def impl_BillTerm.f (k : Nat) (a0_0 : Int) (l0_1 : List Int) (l1 : List (S41)) : Option ((List (S78)) × Int) := (impl_isProcess.f k a0_0 l0_1 l1).bind fun t261 => (if t261 = true then ((impl_isSound.f k a0_0 l0_1 l1).bind fun t262 => (impl_BillTerm.j0 k l1 (!t262))) else (impl_BillTerm.j0 k l1 true))
theorem impl_BillTerm.mono_l : ∀ k, (∀ y0 y1, LeO (impl_BillTerm.j0 k y0 y1) (impl_BillTerm.j0 (k + 1) y0 y1))
 | 0 => fun _ _ r h => by simp [impl_BillTerm.j0] at h
 | k + 1 => by
  have ih0 := impl_BillTerm.mono_l k
  ·intro y0 y1
   unfold impl_BillTerm.j0
   repeat' first
   | (with_reducible exact ih0 _ _)
   | (with_reducible exact impl_billTerm.mono _ _ _)
   | (with_reducible exact impl_isProcess.mono _ _ _ _)
   | (with_reducible exact impl_isSound.mono _ _ _ _)
   | (with_reducible exact LeO.refl _)
   | (with_reducible exact LeO.none _)
   | (with_reducible refine LeO.ite ?_ ?_)
   | (with_reducible refine LeO.bind ?_ (fun _ => ?_))
   | exact ih0 _ _
   | exact impl_billTerm.mono _ _ _
   | exact impl_isProcess.mono _ _ _ _
   | exact impl_isSound.mono _ _ _ _
   | exact LeO.none _
   | refine LeO.ite ?_ ?_
   | refine LeO.bind ?_ (fun _ => ?_)
theorem impl_BillTerm.mono : ∀ a0 a1 a2 k, LeO (impl_BillTerm.f k a0 a1 a2) (impl_BillTerm.f (k + 1) a0 a1 a2) := by
 intro a0 a1 a2 k
 have ih0 := impl_BillTerm.mono_l k
 unfold impl_BillTerm.f
 repeat' first
   | (with_reducible exact ih0 _ _)
   | (with_reducible exact impl_billTerm.mono _ _ _)
   | (with_reducible exact impl_isProcess.mono _ _ _ _)
   | (with_reducible exact impl_isSound.mono _ _ _ _)
   | (with_reducible exact LeO.refl _)
   | (with_reducible exact LeO.none _)
   | (with_reducible refine LeO.ite ?_ ?_)
   | (with_reducible refine LeO.bind ?_ (fun _ => ?_))
   | exact ih0 _ _
   | exact impl_billTerm.mono _ _ _
   | exact impl_isProcess.mono _ _ _ _
   | exact impl_isSound.mono _ _ _ _
   | exact LeO.none _
   | refine LeO.ite ?_ ?_
   | refine LeO.bind ?_ (fun _ => ?_)
set_option maxHeartbeats 8000000 in
set_option maxRecDepth 100000 in
theorem impl_BillTerm.calls (k : Nat) (a0_0 : Int) (A0_1 : Option Addr) (c0_1 : Nat) (l0_1 : List Int) (A1 : Option Addr) (c1 : Nat) (l1 : List (S41)) (r1 : List (S78)) (r2 : Int) (w : World) (hr0_1 : Kd.C (Kd.int .i64) w A0_1 l0_1.length l0_1) (hc0_1 : l0_1.length ≤ c0_1) (hr1 : Kd.C k41 w A1 l1.length l1) (hc1 : l1.length ≤ c1) (h : impl_BillTerm.f k a0_0 l0_1 l1 = some (r1, r2)) :
  Calls Try.prog 42 #[.agg #[.int .i64 a0_0, .slice A0_1 l0_1.length c0_1], .slice A1 l1.length c1] w fun e w' => ∃ v0_ : Value, e = .returned (.tuple #[v0_, .int .i64 r2]) ∧ Kd.R k78 78 w' w.heap.size (fun _ => True) v0_ r1 ∧ Below w.heap.size w w' := by
 have hu25 := Try.underlying25
 have HR0_1 := Aside0.mk hr0_1
 have HC0_1 := Aside0.mk hc0_1
 clear hr0_1 hc0_1
 have HR1 := Aside0.mk hr1
 have HC1 := Aside0.mk hc1
 clear hr1 hc1
 have HB := Aside0.mk (Below.refl w.heap.size w)
 have H : ((impl_isProcess.f k a0_0 l0_1 l1).bind fun t261 => (if t261 = true then ((impl_isSound.f k a0_0 l0_1 l1).bind fun t262 => (impl_BillTerm.j0 k l1 (!t262))) else (impl_BillTerm.j0 k l1 true))) = some (r1, r2) := h
 clear h
 have HC3 := Aside0.mk H
 clear H
 go_enter Try.func42, Try.ntmps42
 go_upto_region 1 with (first | ((with_reducible refine gate_dst (N := 2) rfl ?_); refine box_event ?hg (N := 2) ?hd (cs := #[.int .i64 a0_0, .slice A0_1 l0_1.length c0_1]) (t := 25) ?hr ?_; (case hd => rfl); (case hg => rfl); (case hr => first | (go_simp; done) | (go_simp; rfl)); intro gb260 hg w4 hbox hb; have n0_ := Aside0.mk (below_step bh hb); have n1_ := Aside0.mk (hbox); have n2_ := Aside0.mk ((gs (W0 := w) hg bh)); have n3_ := Aside0.mk ((gs (W0 := w) hg bh)); clear HB; have HB := n0_; have BK260 := n1_; have GW260 := n2_; have GE260 := n3_; clear n0_ n1_ n2_ n3_ hb hbox hg))
 (try simp only [Act.put, List.setIfInBounds_toArray, List.set_cons_zero, List.set_cons_succ])
 go_cut [17] (fun v17 wc => ∃ (kq : Nat) (x17_2 : Bool), v17 = .bool x17_2 ∧ Aside0 (impl_BillTerm.j0 kq l1 x17_2 = some (r1, r2)) ∧ Aside0 (kq ≤ k) ∧ Aside0 (wc.heap[gb260]? = some (.cells #[.int .i64 a0_0, (.slice A0_1 l0_1.length c0_1)] 25 (0, 0))) ∧ Aside0 (Below w.heap.size w wc))
 case first =>
  have H := HC3.out
  clear HC3
  replace H := Option.bind_eq_some_iff.mp H
  obtain ⟨t261, A50, H⟩ := H
  replace H : (if t261 = true then ((impl_isSound.f k a0_0 l0_1 l1).bind fun t262 => (impl_BillTerm.j0 k l1 (!t262))) else (impl_BillTerm.j0 k l1 true)) = some (r1, r2) := H
  have A5 := Aside0.mk A50
  clear A50
  by_cases c6 : t261 = true
  ·subst c6
   have H1 : ((impl_isSound.f k a0_0 l0_1 l1).bind fun t262 => (impl_BillTerm.j0 k l1 (!t262))) = some (r1, r2) := by rw [if_pos rfl] at H; exact H
   clear H
   have H := H1
   clear H1
   replace H := Option.bind_eq_some_iff.mp H
   obtain ⟨t262, A70, H⟩ := H
   replace H : (impl_BillTerm.j0 k l1 (!t262)) = some (r1, r2) := H
   have A7 := Aside0.mk A70
   clear A70
   have H' := Aside0.mk H
   clear H
   have hcz8_0 := cz0 BK260
   have hcz8_1 := cz1 BK260
   have hfz8_0 := blk_frozen BK260.out 0
   have hfz8_1 := blk_frozen BK260.out 1
   go_wp2_with (first | ((with_reducible refine gate_callee (f := 53) rfl ?_); refine goesL_ (some 10) rfl rfl Try.func53 kr rfl #[.agg #[.int .i64 a0_0, .slice A0_1 l0_1.length c0_1], .slice A1 l1.length c1] rfl lm ?_; (with_reducible refine (impl_isProcess.calls k a0_0 _ _ l0_1 _ _ l1 true _ ?side1 ?side2 ?side3 ?side4 A5.out).mono ?_); (case side1 => repeat (first | exact (Kd.C_below HR0_1.out HB.out) | (with_reducible refine Kd.C_alloc ?_ _) | (with_reducible refine Kd.C_drewN ?_ _) | (with_reducible refine Kd.C_drew ?_))); (case side2 => exact HC0_1.out); (case side3 => repeat (first | exact (Kd.C_below HR1.out HB.out) | (with_reducible refine Kd.C_alloc ?_ _) | (with_reducible refine Kd.C_drewN ?_ _) | (with_reducible refine Kd.C_drew ?_))); (case side4 => exact HC1.out); rintro e w9 ⟨rfl, hb⟩; refine ⟨_, rfl, ?_⟩; have n0_ := Aside0.mk (blk_below (bz BK260) hb); have n1_ := Aside0.mk (below_step bh hb); clear BK260 HB; have BK260 := n0_; have HB := n1_; clear n0_ n1_; (try clear hb); (try clear hb2); (try clear hk); (try clear hi); have hcz10_0 := cz0 BK260; have hcz10_1 := cz1 BK260; have hfz10_0 := blk_frozen BK260.out 0; have hfz10_1 := blk_frozen BK260.out 1) | (go_at_call 66; (with_reducible refine (impl_isSound.calls k a0_0 _ _ l0_1 _ _ l1 t262 _ ?side1 ?side2 ?side3 ?side4 A7.out).mono ?_); (case side1 => repeat (first | exact (Kd.C_below HR0_1.out HB.out) | (with_reducible refine Kd.C_alloc ?_ _) | (with_reducible refine Kd.C_drewN ?_ _) | (with_reducible refine Kd.C_drew ?_))); (case side2 => exact HC0_1.out); (case side3 => repeat (first | exact (Kd.C_below HR1.out HB.out) | (with_reducible refine Kd.C_alloc ?_ _) | (with_reducible refine Kd.C_drewN ?_ _) | (with_reducible refine Kd.C_drew ?_))); (case side4 => exact HC1.out); rintro e w11 ⟨rfl, hb⟩; have n0_ := Aside0.mk (blk_below (bz BK260) hb); have n1_ := Aside0.mk (below_step bh hb); clear BK260 HB; have BK260 := n0_; have HB := n1_; clear n0_ n1_; (try clear hb); (try clear hb2); (try clear hk); (try clear hi)))
   go_meet
   case rel => exact ⟨_, (!t262), (by first | rfl | (simp; done) | (simp [*]; done)), H', ⟨by first | omega | exact Nat.le_refl _⟩, ⟨bz BK260⟩, ⟨by exact bh⟩⟩
  ·replace c6 := Bool.eq_false_iff.mpr c6
   subst c6
   have H1 : (impl_BillTerm.j0 k l1 true) = some (r1, r2) := by rw [if_neg (show ¬ (false = true) by decide)] at H; exact H
   clear H
   have H := H1
   clear H1
   have H' := Aside0.mk H
   clear H
   have hcz12_0 := cz0 BK260
   have hcz12_1 := cz1 BK260
   have hfz12_0 := blk_frozen BK260.out 0
   have hfz12_1 := blk_frozen BK260.out 1
   go_wp2_with (first | ((with_reducible refine gate_callee (f := 53) rfl ?_); refine goesL_ (some 10) rfl rfl Try.func53 kr rfl #[.agg #[.int .i64 a0_0, .slice A0_1 l0_1.length c0_1], .slice A1 l1.length c1] rfl lm ?_; (with_reducible refine (impl_isProcess.calls k a0_0 _ _ l0_1 _ _ l1 false _ ?side1 ?side2 ?side3 ?side4 A5.out).mono ?_); (case side1 => repeat (first | exact (Kd.C_below HR0_1.out HB.out) | (with_reducible refine Kd.C_alloc ?_ _) | (with_reducible refine Kd.C_drewN ?_ _) | (with_reducible refine Kd.C_drew ?_))); (case side2 => exact HC0_1.out); (case side3 => repeat (first | exact (Kd.C_below HR1.out HB.out) | (with_reducible refine Kd.C_alloc ?_ _) | (with_reducible refine Kd.C_drewN ?_ _) | (with_reducible refine Kd.C_drew ?_))); (case side4 => exact HC1.out); rintro e w13 ⟨rfl, hb⟩; refine ⟨_, rfl, ?_⟩; have n0_ := Aside0.mk (blk_below (bz BK260) hb); have n1_ := Aside0.mk (below_step bh hb); clear BK260 HB; have BK260 := n0_; have HB := n1_; clear n0_ n1_; (try clear hb); (try clear hb2); (try clear hk); (try clear hi)))
   go_meet
   case rel => exact ⟨_, (true), (by first | rfl | (simp; done) | (simp [*]; done)), H', ⟨by first | omega | exact Nat.le_refl _⟩, ⟨bz BK260⟩, ⟨by exact bh⟩⟩
 case rest =>
  clear HC3
  try clear c1
  try clear p2
  try clear c4
  try clear c5
  try clear c6
  try clear hcz10_0
  try clear hcz10_1
  try clear hcz12_0
  try clear hcz12_1
  try clear hcz8_0
  try clear hcz8_1
  try clear hfz10_0
  try clear hfz10_1
  try clear hfz12_0
  try clear hfz12_1
  try clear hfz8_0
  try clear hfz8_1
  obtain ⟨kq, x17_2, rfl, HA, HJ2, BK260, HB⟩ := hcut
  cases kq with
  | zero => exact absurd HA.out (by simp [impl_BillTerm.j0])
  | succ kj2 =>
   have H := HA.out
   clear HA
   simp only [impl_BillTerm.j0] at H
   by_cases c14 : x17_2 = true
   ·subst c14
    have H1 : (some (([] : List (S78)), (-1))) = some (r1, r2) := by rw [if_pos rfl] at H; exact H
    clear H
    have H := H1
    clear H1
    simp only [Option.some.injEq, Prod.mk.injEq] at H
    obtain ⟨rfl, rfl⟩ := H
    go_wp2
    go_ret2
    exact ⟨_, by first | rfl | (simp [errW_none, errW_some] <;> rfl) | (simp [*, errW_none, errW_some] <;> rfl), by first | exact Kd.R_nil _ _ _ _ _ | exact Kd.N_nil _ _ _ _ _ | exact Kd.V_nil _ _ _ _ _ | exact Kd.Q_nil _ _ _ _ _ | exact Kd.S_nil _ _ _ _ _, by exact bh⟩
   ·replace c14 := Bool.eq_false_iff.mpr c14
    subst c14
    have H1 : ((impl_billTerm.f kj2 l1 0).bind fun bt263 => (if (bt263.1.length : Int) > 9 then (some (([] : List (S78)), (-1))) else (some (bt263.1, bt263.2)))) = some (r1, r2) := by rw [if_neg (show ¬ (false = true) by decide)] at H; exact H
    clear H
    have H := H1
    clear H1
    replace H := Option.bind_eq_some_iff.mp H
    obtain ⟨⟨t263, t264⟩, A150, H⟩ := H
    replace H : (if (t263.length : Int) > 9 then (some (([] : List (S78)), (-1))) else (some (t263, t264))) = some (r1, r2) := H
    have A15 := Aside0.mk A150
    clear A150
    by_cases c16 : (t263.length : Int) > 9
    ·rw [if_pos c16] at H
     have c16b0 : decide (9 < (t263.length : Int)) = true := decide_eq_true c16
     have c16b1 : decide (9 < t263.length) = true := decide_eq_true (by omega)
     clear c16
     simp only [Option.some.injEq, Prod.mk.injEq] at H
     obtain ⟨rfl, rfl⟩ := H
     go_wp2_with (first | ((with_reducible refine gate_callee (f := 76) rfl ?_); refine goesL_ (some 20) rfl rfl Try.func76 kr rfl #[.slice A1 l1.length c1, .int .i64 0] rfl lm ?_; (with_reducible refine (impl_billTerm.calls kj2 _ _ l1 0 t263 t264 _ ?side1 ?side2 A15.out).mono ?_); (case side1 => repeat (first | exact (Kd.C_below HR1.out HB.out) | (with_reducible refine Kd.C_alloc ?_ _) | (with_reducible refine Kd.C_drewN ?_ _) | (with_reducible refine Kd.C_drew ?_))); (case side2 => exact HC1.out); rintro e w17 ⟨v265, rfl, ho0, hb⟩; refine ⟨_, rfl, ?_⟩; have n0_ := Aside0.mk (Kd.R_lower ho0 (below_size bh)); have n1_ := Aside0.mk (blk_below (bz BK260) hb); have n2_ := Aside0.mk (below_step bh hb); clear BK260 HB; have HO266 := n0_; have BK260 := n1_; have HB := n2_; clear n0_ n1_ n2_; (try clear hb); (try clear hb2); (try clear hk); (try clear hi); (try clear ho0); obtain ⟨Ao18, co18, eo18⟩ := Kd.R_slice HO266.out; subst eo18))
     go_ret2
     exact ⟨_, by first | rfl | (simp [errW_none, errW_some] <;> rfl) | (simp [*, errW_none, errW_some] <;> rfl), by first | exact Kd.R_nil _ _ _ _ _ | exact Kd.N_nil _ _ _ _ _ | exact Kd.V_nil _ _ _ _ _ | exact Kd.Q_nil _ _ _ _ _ | exact Kd.S_nil _ _ _ _ _, by exact bh⟩
    ·rw [if_neg c16] at H
     have c16b0 : decide (9 < (t263.length : Int)) = false := decide_eq_false c16
     have c16b1 : decide (9 < t263.length) = false := decide_eq_false (by omega)
     clear c16
     simp only [Option.some.injEq, Prod.mk.injEq] at H
     obtain ⟨rfl, rfl⟩ := H
     go_wp2_with (first | ((with_reducible refine gate_callee (f := 76) rfl ?_); refine goesL_ (some 20) rfl rfl Try.func76 kr rfl #[.slice A1 l1.length c1, .int .i64 0] rfl lm ?_; (with_reducible refine (impl_billTerm.calls kj2 _ _ l1 0 t263 t264 _ ?side1 ?side2 A15.out).mono ?_); (case side1 => repeat (first | exact (Kd.C_below HR1.out HB.out) | (with_reducible refine Kd.C_alloc ?_ _) | (with_reducible refine Kd.C_drewN ?_ _) | (with_reducible refine Kd.C_drew ?_))); (case side2 => exact HC1.out); rintro e w19 ⟨v265, rfl, ho0, hb⟩; refine ⟨_, rfl, ?_⟩; have n0_ := Aside0.mk (Kd.R_lower ho0 (below_size bh)); have n1_ := Aside0.mk (blk_below (bz BK260) hb); have n2_ := Aside0.mk (below_step bh hb); clear BK260 HB; have HO266 := n0_; have BK260 := n1_; have HB := n2_; clear n0_ n1_ n2_; (try clear hb); (try clear hb2); (try clear hk); (try clear hi); (try clear ho0); obtain ⟨Ao20, co20, eo20⟩ := Kd.R_slice HO266.out; subst eo20))
     go_ret2
     exact ⟨_, by first | rfl | (simp [errW_none, errW_some] <;> rfl) | (simp [*, errW_none, errW_some] <;> rfl), by (with_reducible repeat (first | apply Kd.R_alloc | apply Kd.R_drewN | apply Kd.R_drew)); exact HO266.out, by exact bh⟩

/-! ### spec_l1In: function 54 -/
def spec_l1In.f (a0 : Int) (a1 : Int) (a2 : Int) : Option (Bool) := if a0 ≥ a1 then (some (decide (a0 ≤ a2))) else (some false)
set_option maxHeartbeats 8000000 in
set_option maxRecDepth 100000 in
theorem spec_l1In.calls (a0 : Int) (a1 : Int) (a2 : Int) (r : Bool) (w : World) (h : spec_l1In.f a0 a1 a2 = some r) :
  Calls Try.prog 54 #[.int .i64 a0, .int .i64 a1, .int .i64 a2] w fun e w' => e = .returned (.bool r) ∧ Drawn0 w w' := by
 have H : (if a0 ≥ a1 then (some (decide (a0 ≤ a2))) else (some false)) = some r := h
 clear h
 by_cases c4 : a0 ≥ a1
 ·rw [if_pos c4] at H
  have c4b0 : decide (a1 ≤ a0) = true := decide_eq_true c4
  clear c4
  obtain rfl := Option.some.inj H
  go_enter Try.func54, Try.ntmps54
  go_wp2
  go_ret
  exact ⟨by first | rfl | (simp; done) | (simp [*]; done), by repeat (first | exact Drawn0.refl _ | apply Drawn0.step)⟩
 ·rw [if_neg c4] at H
  have c4b0 : decide (a1 ≤ a0) = false := decide_eq_false c4
  clear c4
  obtain rfl := Option.some.inj H
  go_enter Try.func54, Try.ntmps54
  go_wp2
  go_ret
  exact ⟨by first | rfl | (simp; done) | (simp [*]; done), by repeat (first | exact Drawn0.refl _ | apply Drawn0.step)⟩

/-! ### spec_l1Heads: function 60 -/
def spec_l1Heads.l0 : Nat → Int → Int → Option (Int)
 | 0, _, _ => none
 | k + 1, x0, x3 => if x0 > 0 then (spec_l1Heads.l0 k (wrap64 (Int.tdiv x0 2)) (wrap64 (x3 + (Int.tmod x0 2)))) else (some x3)
def spec_l1Heads.f (k : Nat) (a0 : Int) : Option (Int) := spec_l1Heads.l0 k a0 0
theorem spec_l1Heads.mono_l : ∀ k, (∀ y0 y1, LeO (spec_l1Heads.l0 k y0 y1) (spec_l1Heads.l0 (k + 1) y0 y1))
 | 0 => fun _ _ r h => by simp [spec_l1Heads.l0] at h
 | k + 1 => by
  have ih0 := spec_l1Heads.mono_l k
  ·intro y0 y1
   unfold spec_l1Heads.l0
   repeat' first
   | (with_reducible exact ih0 _ _)
   | (with_reducible exact LeO.refl _)
   | (with_reducible exact LeO.none _)
   | (with_reducible refine LeO.ite ?_ ?_)
   | (with_reducible refine LeO.bind ?_ (fun _ => ?_))
   | exact ih0 _ _
   | exact LeO.none _
   | refine LeO.ite ?_ ?_
   | refine LeO.bind ?_ (fun _ => ?_)
theorem spec_l1Heads.mono : ∀ a0 k, LeO (spec_l1Heads.f k a0) (spec_l1Heads.f (k + 1) a0) := by
 intro a0 k
 have ih0 := spec_l1Heads.mono_l k
 unfold spec_l1Heads.f
 repeat' first
   | (with_reducible exact ih0 _ _)
   | (with_reducible exact LeO.refl _)
   | (with_reducible exact LeO.none _)
   | (with_reducible refine LeO.ite ?_ ?_)
   | (with_reducible refine LeO.bind ?_ (fun _ => ?_))
   | exact ih0 _ _
   | exact LeO.none _
   | refine LeO.ite ?_ ?_
   | refine LeO.bind ?_ (fun _ => ?_)
set_option maxHeartbeats 8000000 in
set_option maxRecDepth 100000 in
theorem spec_l1Heads.calls (k : Nat) (a0 : Int) (r : Int) (w : World) (h : spec_l1Heads.f k a0 = some r) :
  Calls Try.prog 60 #[.int .i64 a0] w fun e w' => e = .returned (.int .i64 r) ∧ Drawn0 w w' := by
 have H : (spec_l1Heads.l0 k a0 0) = some r := h
 clear h
 have H' := Aside0.mk H
 clear H
 go_enter Try.func60, Try.ntmps60
 go_wp2
 go_loopg [0, 3] k (fun kq v0 v3 w' => ∃ (x0_1 : Int) (x3_1 : Int), v0 = .int .i64 x0_1 ∧ v3 = .int .i64 x3_1 ∧ Aside0 (spec_l1Heads.l0 kq x0_1 x3_1 = some r) ∧ Aside0 (kq ≤ k) ∧ Drawn0 w w')
 case atStart => exact ⟨(a0), (0), (by first | rfl | (simp; done) | (simp [*]; done)), (by first | rfl | (simp; done) | (simp [*]; done)), H', ⟨Nat.le_refl _⟩, by repeat (first | exact Drawn0.refl _ | apply Drawn0.step)⟩
 case round =>
  clear H'
  obtain ⟨x0_1, x3_1, rfl, rfl, HA, HK1, ⟨m1, rfl⟩⟩ := hrel
  cases gk with
  | zero => exact absurd HA.out (by simp [spec_l1Heads.l0])
  | succ k1 =>
   have H := HA.out
   clear HA
   simp only [spec_l1Heads.l0] at H
   by_cases c2 : x0_1 > 0
   ·rw [if_pos c2] at H
    have c2b0 : decide (0 < x0_1) = true := decide_eq_true c2
    clear c2
    have H' := Aside0.mk H
    clear H
    go_wp2
    go_roundg k1
    case measure => have := HK1.out; omega
    case rel => exact ⟨(wrap64 (Int.tdiv x0_1 2)), (wrap64 (x3_1 + (Int.tmod x0_1 2))), (by first | rfl | (simp; done) | (simp [*]; done)), (by first | rfl | (simp; done) | (simp [*]; done)), H', ⟨by have := HK1.out; omega⟩, by repeat (first | exact Drawn0.refl _ | apply Drawn0.step)⟩
   ·rw [if_neg c2] at H
    have c2b0 : decide (0 < x0_1) = false := decide_eq_false c2
    clear c2
    obtain rfl := Option.some.inj H
    go_wp2
    go_ret
    exact ⟨by first | rfl | (simp; done) | (simp [*]; done), by repeat (first | exact Drawn0.refl _ | apply Drawn0.step)⟩

/-! ### spec_CrowdOk: function 22 -/
def spec_CrowdOk.f (a0 : Int) (a1 : Int) : Option (Bool) := (spec_l1In.f a0 1 6).bind fun t267 => (if t267 = true then (if 0 ≤ a0 then ((spec_l1In.f a1 0 (wrap64 ((shl .i64 1 a0) - 1))).bind fun t268 => (some t268)) else (none)) else (some false))
set_option maxHeartbeats 8000000 in
set_option maxRecDepth 100000 in
theorem spec_CrowdOk.calls (a0 : Int) (a1 : Int) (r : Bool) (w : World) (h : spec_CrowdOk.f a0 a1 = some r) :
  Calls Try.prog 22 #[.int .i64 a0, .int .i64 a1] w fun e w' => e = .returned (.bool r) ∧ Drawn0 w w' := by
 have H : ((spec_l1In.f a0 1 6).bind fun t267 => (if t267 = true then (if 0 ≤ a0 then ((spec_l1In.f a1 0 (wrap64 ((shl .i64 1 a0) - 1))).bind fun t268 => (some t268)) else (none)) else (some false))) = some r := h
 clear h
 replace H := Option.bind_eq_some_iff.mp H
 obtain ⟨t267, A30, H⟩ := H
 replace H : (if t267 = true then (if 0 ≤ a0 then ((spec_l1In.f a1 0 (wrap64 ((shl .i64 1 a0) - 1))).bind fun t268 => (some t268)) else (none)) else (some false)) = some r := H
 have A3 := Aside0.mk A30
 clear A30
 by_cases c4 : t267 = true
 ·subst c4
  have H1 : (if 0 ≤ a0 then ((spec_l1In.f a1 0 (wrap64 ((shl .i64 1 a0) - 1))).bind fun t268 => (some t268)) else (none)) = some r := by rw [if_pos rfl] at H; exact H
  clear H
  have H := H1
  clear H1
  by_cases c5 : 0 ≤ a0
  ·rw [if_pos c5] at H
   have c5b0 := eq_true c5
   have c5b1 : decide (0 ≤ a0) = true := decide_eq_true c5
   clear c5
   obtain ⟨ji6, hji6⟩ : ∃ j_ : Int, (shl .i64 1 a0) = j_ := ⟨_, rfl⟩
   replace H : ((spec_l1In.f a1 0 (wrap64 ((ji6) - 1))).bind fun t268 => (some t268)) = some r := by first | (rw [hji6] at H; exact H) | (simp only [hji6] at H ⊢; exact H)
   (try rw [hji6] at A3)
   have hji6_ : (IntKind.i64.wrap (1 * 2 ^ min a0.toNat 64)) = ji6 := hji6
   have hji6z : a0 ≤ 64 → (IntKind.i64.wrap (1 * 2 ^ a0.toNat)) = ji6 := shl_small hji6
   have hji6u : (IntKind.i64.wrap (2 ^ min a0.toNat 64)) = ji6 := by have h_ := hji6_; rw [Int.one_mul] at h_; exact h_
   have hji6v : a0 ≤ 64 → (IntKind.i64.wrap (2 ^ a0.toNat)) = ji6 := fun hle_ => by have h_ := hji6z hle_; rw [Int.one_mul] at h_; exact h_
   have hji6y : (wrap64 (1 * 2 ^ min a0.toNat 64)) = ji6 := (i64_w _).symm.trans hji6_
   have hji6x : a0 ≤ 64 → (wrap64 (1 * 2 ^ a0.toNat)) = ji6 := fun h_ => (i64_w _).symm.trans (hji6z h_)
   replace H := Option.bind_eq_some_iff.mp H
   obtain ⟨t268, A70, H⟩ := H
   replace H : (some t268) = some r := H
   have A7 := Aside0.mk A70
   clear A70
   obtain rfl := Option.some.inj H
   go_enter Try.func22, Try.ntmps22
   go_wp2_with (first | ((with_reducible refine gate_callee (f := 54) rfl ?_); refine goesL_ (some 6) rfl rfl Try.func54 kr rfl #[.int .i64 a0, .int .i64 1, .int .i64 6] rfl lm ?_; (with_reducible refine (spec_l1In.calls a0 1 6 true _ A3.out).mono ?_); rintro e w' ⟨rfl, ⟨nd, rfl⟩⟩; refine ⟨_, rfl, ?_⟩) | (go_at_call 54; (with_reducible refine (spec_l1In.calls a1 0 (wrap64 ((ji6) - 1)) t268 _ A7.out).mono ?_); rintro e w' ⟨rfl, ⟨nd, rfl⟩⟩))
   go_ret
   exact ⟨by first | rfl | (simp; done) | (simp only [← hji6] <;> (first | rfl | simp)) | (simp [*]; done), by repeat (first | exact Drawn0.refl _ | apply Drawn0.step)⟩
  ·rw [if_neg c5] at H
   exact absurd H (by simp)
 ·replace c4 := Bool.eq_false_iff.mpr c4
  subst c4
  have H1 : (some false) = some r := by rw [if_neg (show ¬ (false = true) by decide)] at H; exact H
  clear H
  have H := H1
  clear H1
  obtain rfl := Option.some.inj H
  go_enter Try.func22, Try.ntmps22
  go_wp2_with (first | ((with_reducible refine gate_callee (f := 54) rfl ?_); refine goesL_ (some 6) rfl rfl Try.func54 kr rfl #[.int .i64 a0, .int .i64 1, .int .i64 6] rfl lm ?_; (with_reducible refine (spec_l1In.calls a0 1 6 false _ A3.out).mono ?_); rintro e w' ⟨rfl, ⟨nd, rfl⟩⟩; refine ⟨_, rfl, ?_⟩))
  go_ret
  exact ⟨by first | rfl | (simp; done) | (simp [*]; done), by repeat (first | exact Drawn0.refl _ | apply Drawn0.step)⟩

/-! ### spec_HouseOk: function 61 -/
def spec_HouseOk.l0 : Nat → Int → Int → List Int → Option (Bool)
 | 0, _, _, _ => none
 | k + 1, x3, x270000, x270001 => if x3 < (x270001.length : Int) then (if 0 ≤ x3 then ((spec_CrowdOk.f x270000 (rd x270001 x3)).bind fun t271 => (if t271 = true then (if (rd x270001 x3) = 0 then (some false) else (spec_HouseOk.l0 k (wrap64 (x3 + 1)) x270000 x270001)) else (some false))) else (none)) else ((spec_l1In.f x270000 1 6).bind fun t273 => (if t273 = true then (some (decide ((x270001.length : Int) ≤ 4))) else (some false)))
def spec_HouseOk.f (k : Nat) (a0_0 : Int) (l0_1 : List Int) : Option (Bool) := spec_HouseOk.l0 k 0 a0_0 l0_1
theorem spec_HouseOk.mono_l : ∀ k, (∀ y0 y1 y2, LeO (spec_HouseOk.l0 k y0 y1 y2) (spec_HouseOk.l0 (k + 1) y0 y1 y2))
 | 0 => fun _ _ _ r h => by simp [spec_HouseOk.l0] at h
 | k + 1 => by
  have ih0 := spec_HouseOk.mono_l k
  ·intro y0 y1 y2
   unfold spec_HouseOk.l0
   repeat' first
   | (with_reducible exact ih0 _ _ _)
   | (with_reducible exact LeO.refl _)
   | (with_reducible exact LeO.none _)
   | (with_reducible refine LeO.ite ?_ ?_)
   | (with_reducible refine LeO.bind ?_ (fun _ => ?_))
   | exact ih0 _ _ _
   | exact LeO.none _
   | refine LeO.ite ?_ ?_
   | refine LeO.bind ?_ (fun _ => ?_)
theorem spec_HouseOk.mono : ∀ a0 a1 k, LeO (spec_HouseOk.f k a0 a1) (spec_HouseOk.f (k + 1) a0 a1) := by
 intro a0 a1 k
 have ih0 := spec_HouseOk.mono_l k
 unfold spec_HouseOk.f
 repeat' first
   | (with_reducible exact ih0 _ _ _)
   | (with_reducible exact LeO.refl _)
   | (with_reducible exact LeO.none _)
   | (with_reducible refine LeO.ite ?_ ?_)
   | (with_reducible refine LeO.bind ?_ (fun _ => ?_))
   | exact ih0 _ _ _
   | exact LeO.none _
   | refine LeO.ite ?_ ?_
   | refine LeO.bind ?_ (fun _ => ?_)
set_option maxHeartbeats 8000000 in
set_option maxRecDepth 100000 in
theorem spec_HouseOk.calls (k : Nat) (a0_0 : Int) (A0_1 : Option Addr) (c0_1 : Nat) (l0_1 : List Int) (r : Bool) (w : World) (hr0_1 : Kd.C (Kd.int .i64) w A0_1 l0_1.length l0_1) (hc0_1 : l0_1.length ≤ c0_1) (h : spec_HouseOk.f k a0_0 l0_1 = some r) :
  Calls Try.prog 61 #[.agg #[.int .i64 a0_0, .slice A0_1 l0_1.length c0_1]] w fun e w' => e = .returned (.bool r) ∧ Below w.heap.size w w' := by
 have hu25 := Try.underlying25
 have HR0_1 := Aside0.mk hr0_1
 have HC0_1 := Aside0.mk hc0_1
 clear hr0_1 hc0_1
 have HB := Aside0.mk (Below.refl w.heap.size w)
 have H : (spec_HouseOk.l0 k 0 a0_0 l0_1) = some r := h
 clear h
 have H' := Aside0.mk H
 clear H
 go_enter Try.func61, Try.ntmps61
 go_wp2_with (first | ((with_reducible refine gate_dst (N := 1) rfl ?_); (try (refine gate_guard (by rfl) ?_; dsimp only)); refine box_event ?hg (N := 1) ?hd (cs := #[.int .i64 a0_0, .slice A0_1 l0_1.length c0_1]) (t := 25) ?hr ?_; (case hd => rfl); (case hg => rfl); (case hr => first | (go_simp; done) | (go_simp; rfl)); intro gb269 hg w2 hbox hb; have n0_ := Aside0.mk (below_step bh hb); have n1_ := Aside0.mk (hbox); have n2_ := Aside0.mk ((gs (W0 := w) hg bh)); have n3_ := Aside0.mk ((gs (W0 := w) hg bh)); clear HB; have HB := n0_; have BK269 := n1_; have GW269 := n2_; have GE269 := n3_; clear n0_ n1_ n2_ n3_ hb hbox hg))
 repeat (go_quiet (first | ((with_reducible refine gate_dst (N := 1) rfl ?_); (try (refine gate_guard (by rfl) ?_; dsimp only)); refine box_event ?hg (N := 1) ?hd (cs := #[.int .i64 a0_0, .slice A0_1 l0_1.length c0_1]) (t := 25) ?hr ?_; (case hd => rfl); (case hg => rfl); (case hr => first | (go_simp; done) | (go_simp; rfl)); intro gb269 hg w2 hbox hb; have n0_ := Aside0.mk (below_step bh hb); have n1_ := Aside0.mk (hbox); have n2_ := Aside0.mk ((gs (W0 := w) hg bh)); have n3_ := Aside0.mk ((gs (W0 := w) hg bh)); clear HB; have HB := n0_; have BK269 := n1_; have GW269 := n2_; have GE269 := n3_; clear n0_ n1_ n2_ n3_ hb hbox hg)); try go_wp2_with (first | ((with_reducible refine gate_dst (N := 1) rfl ?_); (try (refine gate_guard (by rfl) ?_; dsimp only)); refine box_event ?hg (N := 1) ?hd (cs := #[.int .i64 a0_0, .slice A0_1 l0_1.length c0_1]) (t := 25) ?hr ?_; (case hd => rfl); (case hg => rfl); (case hr => first | (go_simp; done) | (go_simp; rfl)); intro gb269 hg w2 hbox hb; have n0_ := Aside0.mk (below_step bh hb); have n1_ := Aside0.mk (hbox); have n2_ := Aside0.mk ((gs (W0 := w) hg bh)); have n3_ := Aside0.mk ((gs (W0 := w) hg bh)); clear HB; have HB := n0_; have BK269 := n1_; have GW269 := n2_; have GE269 := n3_; clear n0_ n1_ n2_ n3_ hb hbox hg)))
 go_loopg [3] k (fun kq v3 w' => ∃ (x3_1 : Int), v3 = .int .i64 x3_1 ∧ Aside0 (spec_HouseOk.l0 kq x3_1 a0_0 l0_1 = some r) ∧ Aside0 (kq ≤ k) ∧ Aside0 (w'.heap[gb269]? = some (.cells #[.int .i64 a0_0, (.slice A0_1 l0_1.length c0_1)] 25 (0, 0))) ∧ Aside0 (Below w.heap.size w w'))
 case atStart => exact ⟨(0), (by first | rfl | (simp; done) | (simp [*]; done)), H', ⟨Nat.le_refl _⟩, ⟨bz BK269⟩, ⟨by exact bh⟩⟩
 case round =>
  clear H'
  try clear p2
  obtain ⟨x3_1, rfl, HA, HK1, BK269, HB⟩ := hrel
  cases gk with
  | zero => exact absurd HA.out (by simp [spec_HouseOk.l0])
  | succ k1 =>
   have H := HA.out
   clear HA
   simp only [spec_HouseOk.l0] at H
   by_cases c3 : x3_1 < (l0_1.length : Int)
   ·rw [if_pos c3] at H
    have c3b0 : decide (x3_1 < (l0_1.length : Int)) = true := decide_eq_true c3
    clear c3
    by_cases c4 : 0 ≤ x3_1
    ·rw [if_pos c4] at H
     have c4b0 : decide (0 ≤ x3_1) = true := decide_eq_true c4
     clear c4
     replace H := Option.bind_eq_some_iff.mp H
     obtain ⟨t271, A50, H⟩ := H
     replace H : (if t271 = true then (if (rd l0_1 x3_1) = 0 then (some false) else (spec_HouseOk.l0 k1 (wrap64 (x3_1 + 1)) a0_0 l0_1)) else (some false)) = some r := H
     have A5 := Aside0.mk A50
     clear A50
     by_cases c6 : t271 = true
     ·subst c6
      have H1 : (if (rd l0_1 x3_1) = 0 then (some false) else (spec_HouseOk.l0 k1 (wrap64 (x3_1 + 1)) a0_0 l0_1)) = some r := by rw [if_pos rfl] at H; exact H
      clear H
      have H := H1
      clear H1
      by_cases c7 : (rd l0_1 x3_1) = 0
      ·rw [if_pos c7] at H
       have c7b0 : ((rd l0_1 x3_1) == 0) = true := beq_iff_eq.mpr c7
       have c7b1 : ((rd l0_1 x3_1) != 0) = false := bne_eq_false_iff_eq.mpr c7
       clear c7
       obtain rfl := Option.some.inj H
       have hcz8_0 := cz0 BK269
       have hcz8_1 := cz1 BK269
       have hfz8_0 := blk_frozen BK269.out 0
       have hfz8_1 := blk_frozen BK269.out 1
       have p270 : 0 ≤ (x3_1 : Int) := oda
       have q270 : x3_1 < (l0_1.length : Int) := oda
       obtain ⟨ad270, e270, hx270_0⟩ := Kd.at_int HR0_1.out x3_1 p270 q270
       cases e270
       replace hx270_0 := (HB.out.cell (World.block_lt_of_cell? w _ hx270_0)).trans hx270_0
       replace p270 := eq_true p270
       replace q270 := eq_true q270
       go_wp2_with (first | (go_at_call 22; (with_reducible refine (spec_CrowdOk.calls a0_0 (rd l0_1 x3_1) true _ A5.out).mono ?_); rintro e w' ⟨rfl, ⟨nd, rfl⟩⟩; (try first | exact ⟨rfl, _, World.drewN_drewN _ _ _⟩ | exact ⟨rfl, _, Eq.trans (World.drewN_drewN _ _ _) (congrArg (World.drewN _) (Nat.add_assoc _ _ _))⟩); have p272 : 0 ≤ (x3_1 : Int) := oda; have q272 : x3_1 < (l0_1.length : Int) := oda; obtain ⟨ad272, e272, hx272_0⟩ := Kd.at_int HR0_1.out x3_1 p272 q272; obtain rfl : ad270 = ad272 := (by injection e272); replace hx272_0 := (HB.out.cell (World.block_lt_of_cell? w _ hx272_0)).trans hx272_0; replace p272 := eq_true p272; replace q272 := eq_true q272))
       repeat (go_quiet (first | (go_at_call 22; (with_reducible refine (spec_CrowdOk.calls a0_0 (rd l0_1 x3_1) true _ A5.out).mono ?_); rintro e w' ⟨rfl, ⟨nd, rfl⟩⟩; (try first | exact ⟨rfl, _, World.drewN_drewN _ _ _⟩ | exact ⟨rfl, _, Eq.trans (World.drewN_drewN _ _ _) (congrArg (World.drewN _) (Nat.add_assoc _ _ _))⟩); have p272 : 0 ≤ (x3_1 : Int) := oda; have q272 : x3_1 < (l0_1.length : Int) := oda; obtain ⟨ad272, e272, hx272_0⟩ := Kd.at_int HR0_1.out x3_1 p272 q272; obtain rfl : ad270 = ad272 := (by injection e272); replace hx272_0 := (HB.out.cell (World.block_lt_of_cell? w _ hx272_0)).trans hx272_0; replace p272 := eq_true p272; replace q272 := eq_true q272)); try go_wp2_with (first | (go_at_call 22; (with_reducible refine (spec_CrowdOk.calls a0_0 (rd l0_1 x3_1) true _ A5.out).mono ?_); rintro e w' ⟨rfl, ⟨nd, rfl⟩⟩; (try first | exact ⟨rfl, _, World.drewN_drewN _ _ _⟩ | exact ⟨rfl, _, Eq.trans (World.drewN_drewN _ _ _) (congrArg (World.drewN _) (Nat.add_assoc _ _ _))⟩); have p272 : 0 ≤ (x3_1 : Int) := oda; have q272 : x3_1 < (l0_1.length : Int) := oda; obtain ⟨ad272, e272, hx272_0⟩ := Kd.at_int HR0_1.out x3_1 p272 q272; obtain rfl : ad270 = ad272 := (by injection e272); replace hx272_0 := (HB.out.cell (World.block_lt_of_cell? w _ hx272_0)).trans hx272_0; replace p272 := eq_true p272; replace q272 := eq_true q272)))
       go_ret
       exact ⟨by first | rfl | (simp [errW_none, errW_some] <;> rfl) | (simp [*, errW_none, errW_some] <;> rfl), by exact bh⟩
      ·rw [if_neg c7] at H
       have c7b0 : ((rd l0_1 x3_1) == 0) = false := beq_eq_false_iff_ne.mpr c7
       have c7b1 : ((rd l0_1 x3_1) != 0) = true := bne_iff_ne.mpr c7
       have H' := Aside0.mk H
       clear H
       have hcz9_0 := cz0 BK269
       have hcz9_1 := cz1 BK269
       have hfz9_0 := blk_frozen BK269.out 0
       have hfz9_1 := blk_frozen BK269.out 1
       have p270 : 0 ≤ (x3_1 : Int) := oda
       have q270 : x3_1 < (l0_1.length : Int) := oda
       obtain ⟨ad270, e270, hx270_0⟩ := Kd.at_int HR0_1.out x3_1 p270 q270
       cases e270
       replace hx270_0 := (HB.out.cell (World.block_lt_of_cell? w _ hx270_0)).trans hx270_0
       replace p270 := eq_true p270
       replace q270 := eq_true q270
       go_wp2_with (first | (go_at_call 22; (with_reducible refine (spec_CrowdOk.calls a0_0 (rd l0_1 x3_1) true _ A5.out).mono ?_); rintro e w' ⟨rfl, ⟨nd, rfl⟩⟩; (try first | exact ⟨rfl, _, World.drewN_drewN _ _ _⟩ | exact ⟨rfl, _, Eq.trans (World.drewN_drewN _ _ _) (congrArg (World.drewN _) (Nat.add_assoc _ _ _))⟩); have p272 : 0 ≤ (x3_1 : Int) := oda; have q272 : x3_1 < (l0_1.length : Int) := oda; obtain ⟨ad272, e272, hx272_0⟩ := Kd.at_int HR0_1.out x3_1 p272 q272; obtain rfl : ad270 = ad272 := (by injection e272); replace hx272_0 := (HB.out.cell (World.block_lt_of_cell? w _ hx272_0)).trans hx272_0; replace p272 := eq_true p272; replace q272 := eq_true q272))
       repeat (go_quiet (first | (go_at_call 22; (with_reducible refine (spec_CrowdOk.calls a0_0 (rd l0_1 x3_1) true _ A5.out).mono ?_); rintro e w' ⟨rfl, ⟨nd, rfl⟩⟩; (try first | exact ⟨rfl, _, World.drewN_drewN _ _ _⟩ | exact ⟨rfl, _, Eq.trans (World.drewN_drewN _ _ _) (congrArg (World.drewN _) (Nat.add_assoc _ _ _))⟩); have p272 : 0 ≤ (x3_1 : Int) := oda; have q272 : x3_1 < (l0_1.length : Int) := oda; obtain ⟨ad272, e272, hx272_0⟩ := Kd.at_int HR0_1.out x3_1 p272 q272; obtain rfl : ad270 = ad272 := (by injection e272); replace hx272_0 := (HB.out.cell (World.block_lt_of_cell? w _ hx272_0)).trans hx272_0; replace p272 := eq_true p272; replace q272 := eq_true q272)); try go_wp2_with (first | (go_at_call 22; (with_reducible refine (spec_CrowdOk.calls a0_0 (rd l0_1 x3_1) true _ A5.out).mono ?_); rintro e w' ⟨rfl, ⟨nd, rfl⟩⟩; (try first | exact ⟨rfl, _, World.drewN_drewN _ _ _⟩ | exact ⟨rfl, _, Eq.trans (World.drewN_drewN _ _ _) (congrArg (World.drewN _) (Nat.add_assoc _ _ _))⟩); have p272 : 0 ≤ (x3_1 : Int) := oda; have q272 : x3_1 < (l0_1.length : Int) := oda; obtain ⟨ad272, e272, hx272_0⟩ := Kd.at_int HR0_1.out x3_1 p272 q272; obtain rfl : ad270 = ad272 := (by injection e272); replace hx272_0 := (HB.out.cell (World.block_lt_of_cell? w _ hx272_0)).trans hx272_0; replace p272 := eq_true p272; replace q272 := eq_true q272)))
       go_roundg k1
       case measure => have := HK1.out; omega
       case rel => exact ⟨(wrap64 (x3_1 + 1)), (by first | rfl | (simp; done) | (simp [*]; done)), H', ⟨by have := HK1.out; omega⟩, ⟨bz BK269⟩, ⟨by exact bh⟩⟩
     ·replace c6 := Bool.eq_false_iff.mpr c6
      subst c6
      have H1 : (some false) = some r := by rw [if_neg (show ¬ (false = true) by decide)] at H; exact H
      clear H
      have H := H1
      clear H1
      obtain rfl := Option.some.inj H
      have hcz10_0 := cz0 BK269
      have hcz10_1 := cz1 BK269
      have hfz10_0 := blk_frozen BK269.out 0
      have hfz10_1 := blk_frozen BK269.out 1
      have p270 : 0 ≤ (x3_1 : Int) := oda
      have q270 : x3_1 < (l0_1.length : Int) := oda
      obtain ⟨ad270, e270, hx270_0⟩ := Kd.at_int HR0_1.out x3_1 p270 q270
      cases e270
      replace hx270_0 := (HB.out.cell (World.block_lt_of_cell? w _ hx270_0)).trans hx270_0
      replace p270 := eq_true p270
      replace q270 := eq_true q270
      go_wp2_with (first | (go_at_call 22; (with_reducible refine (spec_CrowdOk.calls a0_0 (rd l0_1 x3_1) false _ A5.out).mono ?_); rintro e w' ⟨rfl, ⟨nd, rfl⟩⟩; (try first | exact ⟨rfl, _, World.drewN_drewN _ _ _⟩ | exact ⟨rfl, _, Eq.trans (World.drewN_drewN _ _ _) (congrArg (World.drewN _) (Nat.add_assoc _ _ _))⟩)))
      repeat (go_quiet (first | (go_at_call 22; (with_reducible refine (spec_CrowdOk.calls a0_0 (rd l0_1 x3_1) false _ A5.out).mono ?_); rintro e w' ⟨rfl, ⟨nd, rfl⟩⟩; (try first | exact ⟨rfl, _, World.drewN_drewN _ _ _⟩ | exact ⟨rfl, _, Eq.trans (World.drewN_drewN _ _ _) (congrArg (World.drewN _) (Nat.add_assoc _ _ _))⟩))); try go_wp2_with (first | (go_at_call 22; (with_reducible refine (spec_CrowdOk.calls a0_0 (rd l0_1 x3_1) false _ A5.out).mono ?_); rintro e w' ⟨rfl, ⟨nd, rfl⟩⟩; (try first | exact ⟨rfl, _, World.drewN_drewN _ _ _⟩ | exact ⟨rfl, _, Eq.trans (World.drewN_drewN _ _ _) (congrArg (World.drewN _) (Nat.add_assoc _ _ _))⟩))))
      go_ret
      exact ⟨by first | rfl | (simp [errW_none, errW_some] <;> rfl) | (simp [*, errW_none, errW_some] <;> rfl), by exact bh⟩
    ·rw [if_neg c4] at H
     exact absurd H (by simp)
   ·rw [if_neg c3] at H
    have c3b0 : decide (x3_1 < (l0_1.length : Int)) = false := decide_eq_false c3
    clear c3
    replace H := Option.bind_eq_some_iff.mp H
    obtain ⟨t273, A110, H⟩ := H
    replace H : (if t273 = true then (some (decide ((l0_1.length : Int) ≤ 4))) else (some false)) = some r := H
    have A11 := Aside0.mk A110
    clear A110
    by_cases c12 : t273 = true
    ·subst c12
     have H1 : (some (decide ((l0_1.length : Int) ≤ 4))) = some r := by rw [if_pos rfl] at H; exact H
     clear H
     have H := H1
     clear H1
     obtain rfl := Option.some.inj H
     have hcz13_0 := cz0 BK269
     have hcz13_1 := cz1 BK269
     have hfz13_0 := blk_frozen BK269.out 0
     have hfz13_1 := blk_frozen BK269.out 1
     go_wp2_with (first | (go_at_call 54; (with_reducible refine (spec_l1In.calls a0_0 1 6 true _ A11.out).mono ?_); rintro e w' ⟨rfl, ⟨nd, rfl⟩⟩; (try first | exact ⟨rfl, _, World.drewN_drewN _ _ _⟩ | exact ⟨rfl, _, Eq.trans (World.drewN_drewN _ _ _) (congrArg (World.drewN _) (Nat.add_assoc _ _ _))⟩)))
     repeat (go_quiet (first | (go_at_call 54; (with_reducible refine (spec_l1In.calls a0_0 1 6 true _ A11.out).mono ?_); rintro e w' ⟨rfl, ⟨nd, rfl⟩⟩; (try first | exact ⟨rfl, _, World.drewN_drewN _ _ _⟩ | exact ⟨rfl, _, Eq.trans (World.drewN_drewN _ _ _) (congrArg (World.drewN _) (Nat.add_assoc _ _ _))⟩))); try go_wp2_with (first | (go_at_call 54; (with_reducible refine (spec_l1In.calls a0_0 1 6 true _ A11.out).mono ?_); rintro e w' ⟨rfl, ⟨nd, rfl⟩⟩; (try first | exact ⟨rfl, _, World.drewN_drewN _ _ _⟩ | exact ⟨rfl, _, Eq.trans (World.drewN_drewN _ _ _) (congrArg (World.drewN _) (Nat.add_assoc _ _ _))⟩))))
     go_ret
     exact ⟨by first | rfl | (simp [errW_none, errW_some] <;> rfl) | (simp [*, errW_none, errW_some] <;> rfl), by exact bh⟩
    ·replace c12 := Bool.eq_false_iff.mpr c12
     subst c12
     have H1 : (some false) = some r := by rw [if_neg (show ¬ (false = true) by decide)] at H; exact H
     clear H
     have H := H1
     clear H1
     obtain rfl := Option.some.inj H
     have hcz14_0 := cz0 BK269
     have hcz14_1 := cz1 BK269
     have hfz14_0 := blk_frozen BK269.out 0
     have hfz14_1 := blk_frozen BK269.out 1
     go_wp2_with (first | (go_at_call 54; (with_reducible refine (spec_l1In.calls a0_0 1 6 false _ A11.out).mono ?_); rintro e w' ⟨rfl, ⟨nd, rfl⟩⟩; (try first | exact ⟨rfl, _, World.drewN_drewN _ _ _⟩ | exact ⟨rfl, _, Eq.trans (World.drewN_drewN _ _ _) (congrArg (World.drewN _) (Nat.add_assoc _ _ _))⟩)))
     repeat (go_quiet (first | (go_at_call 54; (with_reducible refine (spec_l1In.calls a0_0 1 6 false _ A11.out).mono ?_); rintro e w' ⟨rfl, ⟨nd, rfl⟩⟩; (try first | exact ⟨rfl, _, World.drewN_drewN _ _ _⟩ | exact ⟨rfl, _, Eq.trans (World.drewN_drewN _ _ _) (congrArg (World.drewN _) (Nat.add_assoc _ _ _))⟩))); try go_wp2_with (first | (go_at_call 54; (with_reducible refine (spec_l1In.calls a0_0 1 6 false _ A11.out).mono ?_); rintro e w' ⟨rfl, ⟨nd, rfl⟩⟩; (try first | exact ⟨rfl, _, World.drewN_drewN _ _ _⟩ | exact ⟨rfl, _, Eq.trans (World.drewN_drewN _ _ _) (congrArg (World.drewN _) (Nat.add_assoc _ _ _))⟩))))
     go_ret
     exact ⟨by first | rfl | (simp [errW_none, errW_some] <;> rfl) | (simp [*, errW_none, errW_some] <;> rfl), by exact bh⟩

end Go.Proofs.Ytnpjlpkbefdnlaa.QFnExactBillTerm
