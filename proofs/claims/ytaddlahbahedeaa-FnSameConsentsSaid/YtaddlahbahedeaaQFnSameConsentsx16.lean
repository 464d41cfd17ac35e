-- Printed for this claim by a turned copy of the print (wip/myprint). Lean checks it. Squeezed. Worded. Tightened.
import Derived.Test.YtaddlahbahedeaaQFnSameConsentsx0
import Derived.Test.YtaddlahbahedeaaQFnSameConsentsx7
import Derived.Test.YtaddlahbahedeaaQFnSameConsentsx8
import Derived.Test.YtaddlahbahedeaaQFnSameConsentsx9
import Derived.Test.YtaddlahbahedeaaQFnSameConsentsx15
namespace Go.Proofs.Ytaddlahbahedeaa.QFnSameConsents
open Go.RowKit Go.Proofs.YtaddlahbahedeaaW.PrintWords Go.Proofs.YtaddlahbahedeaaW.PrintLast Go.Proofs.YtaddlahbahedeaaW.PrintMore
attribute [local go_sem] max2_int min2_int max_two min_two max_three min_three max_four min_four Opens.cell_twice   -- for this text's walks alone
set_option linter.unusedVariables false
set_option linter.unusedSimpArgs false

/-! ### impl_leastCrowds: function 78 -/
def impl_leastCrowds.l0 : Nat → List Int → List Int → List Int → Int → Int → Option (List Int)
 | 0, _, _, _, _, _ => none
 | k + 1, x0, x3, x7, x8, x9 => if x9 < x8 then (if 0 ≤ x9 then (if x9 < (x7.length : Int) then ((slices_ContainsFunc_w82.f k x0 [rd x7 x9]).bind fun t426 => (if t426 = true then (impl_leastCrowds.l0 k x0 x3 x7 x8 (wrap64 (x9 + 1))) else (if x3.length < 17592186044416 then (impl_leastCrowds.l0 k x0 (x3 ++ [rd x7 x9]) x7 x8 (wrap64 (x9 + 1))) else (none)))) else (none)) else (none)) else ((slices_Sort_int_int.f k x3).bind fun _ => ((slices_Compact_int_int.f k x3).bind fun t430 => (some t430)))
def impl_leastCrowds.f (k : Nat) (l0 : List Int) : Option (List Int) := impl_leastCrowds.l0 k l0 (([] : List Int)) l0 (l0.length : Int) 0
theorem impl_leastCrowds.mono_l : ∀ k, (∀ y0 y1 y2 y3 y4, LeO (impl_leastCrowds.l0 k y0 y1 y2 y3 y4) (impl_leastCrowds.l0 (k + 1) y0 y1 y2 y3 y4))
 | 0 => fun _ _ _ _ _ r h => by simp [impl_leastCrowds.l0] at h
 | k + 1 => by
  have ih0 := impl_leastCrowds.mono_l k
  ·intro y0 y1 y2 y3 y4
   unfold impl_leastCrowds.l0
   repeat' first
   | (with_reducible exact ih0 _ _ _ _ _)
   | (with_reducible exact slices_Compact_int_int.mono _ _)
   | (with_reducible exact slices_ContainsFunc_w82.mono _ _ _)
   | (with_reducible exact slices_Sort_int_int.mono _ _)
   | (with_reducible exact LeO.refl _)
   | (with_reducible exact LeO.none _)
   | (with_reducible refine LeO.ite ?_ ?_)
   | (with_reducible refine LeO.bind ?_ (fun _ => ?_))
   | exact ih0 _ _ _ _ _
   | exact slices_Compact_int_int.mono _ _
   | exact slices_ContainsFunc_w82.mono _ _ _
   | exact slices_Sort_int_int.mono _ _
   | exact LeO.none _
   | refine LeO.ite ?_ ?_
   | refine LeO.bind ?_ (fun _ => ?_)
theorem impl_leastCrowds.mono : ∀ a0 k, LeO (impl_leastCrowds.f k a0) (impl_leastCrowds.f (k + 1) a0) := by
 intro a0 k
 have ih0 := impl_leastCrowds.mono_l k
 unfold impl_leastCrowds.f
 repeat' first
   | (with_reducible exact ih0 _ _ _ _ _)
   | (with_reducible exact slices_Compact_int_int.mono _ _)
   | (with_reducible exact slices_ContainsFunc_w82.mono _ _ _)
   | (with_reducible exact slices_Sort_int_int.mono _ _)
   | (with_reducible exact LeO.refl _)
   | (with_reducible exact LeO.none _)
   | (with_reducible refine LeO.ite ?_ ?_)
   | (with_reducible refine LeO.bind ?_ (fun _ => ?_))
   | exact ih0 _ _ _ _ _
   | exact slices_Compact_int_int.mono _ _
   | exact slices_ContainsFunc_w82.mono _ _ _
   | exact slices_Sort_int_int.mono _ _
   | exact LeO.none _
   | refine LeO.ite ?_ ?_
   | refine LeO.bind ?_ (fun _ => ?_)
set_option maxHeartbeats 8000000 in
set_option maxRecDepth 100000 in
theorem impl_leastCrowds.calls (k : Nat) (A0 : Option Addr) (c0 : Nat) (l0 : List Int) (r : List Int) (w : World) (hr0 : Kd.C (Kd.int .i64) w A0 l0.length l0) (hc0 : l0.length ≤ c0) (h : impl_leastCrowds.f k l0 = some r) :
  Calls Try.prog 78 #[.slice A0 l0.length c0] w fun e w' => ∃ v0_ : Value, e = .returned (v0_) ∧ Kd.R (Kd.int .i64) 3 w' w.heap.size (fun _ => True) v0_ r ∧ Below w.heap.size w w' := by
 have hmf_ : ∀ (fn_ : Fn) (first_ cap_ : Array Value) (w_ : World), (Instr.makeFunc fn_ first_ cap_).run Try.prog w_ = .ok (.func fn_ first_ cap_) w_ := fun _ _ _ _ => rfl
 have HR0 := Aside0.mk hr0
 have HC0 := Aside0.mk hc0
 clear hr0 hc0
 have HB := Aside0.mk (Below.refl w.heap.size w)
 have H : (impl_leastCrowds.l0 k l0 (([] : List Int)) l0 (l0.length : Int) 0) = some r := h
 clear h
 obtain ⟨y421, hy421⟩ : ∃ y_ : List Int, y_ = (([] : List Int)) := ⟨_, rfl⟩
 replace H : (impl_leastCrowds.l0 k l0 y421 l0 (l0.length : Int) 0) = some r := by first | (rw [hy421]; with_reducible exact H) | (have H2_ := (Option.bind_some _ _).symm.trans H; rw [hy421]; with_reducible exact H2_) | (have H2_ := (Option.bind_some _ _).symm.trans H; with_reducible exact H2_) | with_reducible exact H | (rw [hy421]; exact H) | exact H
 have Ny421 := Aside0.mk hy421
 clear hy421
 have H' := Aside0.mk H
 clear H
 go_enter Try.func78, Try.ntmps78
 go_wp2_with (first | ((with_reducible refine gate_dst (N := 6) rfl ?_); refine Kd.R_lit (Kd.int .i64) _ 3 ?hg (N := 6) ?hd (xs := ([] : List Int)) (inner := []) (ok := fun _ => True) (okp := fun _ => True) ?hr ?hp (fun _ hk => hk) trivial (Below.refl _ _) (Nat.le_refl _) (by simp) ?_; (case hd => rfl); (case hg => rfl); (case hr => first | (go_simp; done) | (go_simp; rfl)); (case hp => exact (Reps.none _ _)); intro v422 w2 ho3 hb hg_ hnew_; clear hg_ hnew_; (first | rw [← Ny421.out] at ho3 | (simp only [Int.reduceToNat] at ho3; rw [← Ny421.out] at ho3)); have n0_ := Aside0.mk (Kd.R_lower ho3 (below_size bh)); have n1_ := Aside0.mk (below_step bh hb); clear HB; have HO423 := n0_; have HB := n1_; clear n0_ n1_ hb ho3))
 go_loopg [3, 9] k (fun kq v3 v9 w' => ∃ (x3_1 : List Int) (x9_1 : Int), v9 = .int .i64 x9_1 ∧ Aside0 (impl_leastCrowds.l0 kq l0 x3_1 l0 (l0.length : Int) x9_1 = some r) ∧ Aside0 (kq ≤ k) ∧ Aside0 (Kd.R (Kd.int .i64) 3 w' w.heap.size (fun _ => True) v3 x3_1) ∧ Aside0 (Below w.heap.size w w'))
 case atStart => exact ⟨(y421), (0), (by first | rfl | (simp; done) | (simp [*]; done)), H', ⟨Nat.le_refl _⟩, ⟨rz HO423⟩, ⟨by exact bh⟩⟩
 case round =>
  clear H'
  try clear p2
  obtain ⟨x3_1, x9_1, rfl, HA, HK1, HO_3, HB⟩ := hrel
  cases gk with
  | zero => exact absurd HA.out (by simp [impl_leastCrowds.l0])
  | succ k1 =>
   have H := HA.out
   clear HA
   simp only [impl_leastCrowds.l0] at H
   by_cases c4 : x9_1 < (l0.length : Int)
   ·rw [if_pos c4] at H
    have c4b0 : decide (x9_1 < (l0.length : Int)) = true := decide_eq_true c4
    clear c4
    by_cases c5 : 0 ≤ x9_1
    ·rw [if_pos c5] at H
     have c5b0 : decide (0 ≤ x9_1) = true := decide_eq_true c5
     clear c5
     by_cases c6 : x9_1 < (l0.length : Int)
     ·rw [if_pos c6] at H
      have c6b0 : decide (x9_1 < (l0.length : Int)) = true := decide_eq_true c6
      clear c6
      replace H := Option.bind_eq_some_iff.mp H
      obtain ⟨t426, A70, H⟩ := H
      replace H : (if t426 = true then (impl_leastCrowds.l0 k1 l0 x3_1 l0 (l0.length : Int) (wrap64 (x9_1 + 1))) else (if x3_1.length < 17592186044416 then (impl_leastCrowds.l0 k1 l0 (x3_1 ++ [rd l0 x9_1]) l0 (l0.length : Int) (wrap64 (x9_1 + 1))) else (none))) = some r := H
      have A7 := Aside0.mk A70
      clear A70
      by_cases c8 : t426 = true
      ·subst c8
       have H1 : (impl_leastCrowds.l0 k1 l0 x3_1 l0 (l0.length : Int) (wrap64 (x9_1 + 1))) = some r := by rw [if_pos rfl] at H; exact H
       clear H
       have H := H1
       clear H1
       have H' := Aside0.mk H
       clear H
       have p424 : 0 ≤ (x9_1 : Int) := oda
       have q424 : x9_1 < (l0.length : Int) := oda
       obtain ⟨ad424, e424, hx424_0⟩ := Kd.at_int HR0.out x9_1 p424 q424
       cases e424
       replace hx424_0 := (HB.out.cell (World.block_lt_of_cell? w _ hx424_0)).trans hx424_0
       replace p424 := eq_true p424
       replace q424 := eq_true q424
       go_wp2_with (first | ((with_reducible refine gate_dst (N := 5) rfl ?_); refine box_event ?hg (N := 5) ?hd (cs := #[.int .i64 0]) (t := 3) ?hr ?_; (case hd => rfl); (case hg => rfl); (case hr => first | (go_simp; done) | (go_simp; rfl)); intro gb425 hg w9 hbox hb; have n0_ := Aside0.mk (Kd.R_below (Kd.R_elderB (rz HO_3) gb425 (Nat.le_of_eq hg.symm)) hb); have n1_ := Aside0.mk (below_step bh hb); have n2_ := Aside0.mk (hbox); have n3_ := Aside0.mk ((gs (W0 := w) hg bh)); have n4_ := Aside0.mk ((gs (W0 := w) hg bh)); clear HO_3 HB; have HO_3 := n0_; have HB := n1_; have BK425 := n2_; have GW425 := n3_; have GE425 := n4_; clear n0_ n1_ n2_ n3_ n4_ hb hbox hg; have hcz10_0 := cz0 BK425; have hfz10_0 := blk_frozen BK425.out 0) | ((with_reducible refine gate_callee (f := 81) rfl ?_); refine goesL_ (some 15) rfl rfl Try.func81 kr rfl #[.slice (some ad424) l0.length c0, .func (.func 82) #[] #[.pointer (some ⟨gb425, 0, none⟩)]] rfl lm ?_; (with_reducible refine (slices_ContainsFunc_w82.calls k1 _ _ l0 (some ⟨gb425, 0, none⟩) [rd l0 x9_1].length [rd l0 x9_1] true _ ?side1 ?side2 ?side3 ?side4 A7.out).mono ?_); (case side1 => exact Kd.C_below HR0.out bh); (case side2 => exact HC0.out); (case side3 => exact Opens.C_box (cs := #[.int .i64 (rd l0 x9_1)]) (t := 3) (bp BK425) rfl); (case side4 => exact Nat.le_refl _); rintro e w' ⟨rfl, ⟨nd, rfl⟩⟩; refine ⟨_, rfl, ?_⟩))
       go_roundg k1
       case measure => have := HK1.out; omega
       case rel => exact ⟨(x3_1), (wrap64 (x9_1 + 1)), (by first | rfl | (simp; done) | (simp [*]; done)), H', ⟨by have := HK1.out; omega⟩, ⟨vR HO_3 (fun _ hk => hk.2)⟩, ⟨by exact bh⟩⟩
      ·replace c8 := Bool.eq_false_iff.mpr c8
       subst c8
       have H1 : (if x3_1.length < 17592186044416 then (impl_leastCrowds.l0 k1 l0 (x3_1 ++ [rd l0 x9_1]) l0 (l0.length : Int) (wrap64 (x9_1 + 1))) else (none)) = some r := by rw [if_neg (show ¬ (false = true) by decide)] at H; exact H
       clear H
       have H := H1
       clear H1
       by_cases c11 : x3_1.length < 17592186044416
       ·rw [if_pos c11] at H
        have LMc11 := Aside0.mk c11
        clear c11
        obtain ⟨y427, hy427⟩ : ∃ y_ : List Int, y_ = (x3_1 ++ [rd l0 x9_1]) := ⟨_, rfl⟩
        replace H : (impl_leastCrowds.l0 k1 l0 y427 l0 (l0.length : Int) (wrap64 (x9_1 + 1))) = some r := by first | (rw [hy427]; with_reducible exact H) | (have H2_ := (Option.bind_some _ _).symm.trans H; rw [hy427]; with_reducible exact H2_) | (have H2_ := (Option.bind_some _ _).symm.trans H; with_reducible exact H2_) | with_reducible exact H | (rw [hy427]; exact H) | exact H
        have Ny427 := Aside0.mk hy427
        clear hy427
        have H' := Aside0.mk H
        clear H
        have p424 : 0 ≤ (x9_1 : Int) := oda
        have q424 : x9_1 < (l0.length : Int) := oda
        obtain ⟨ad424, e424, hx424_0⟩ := Kd.at_int HR0.out x9_1 p424 q424
        cases e424
        replace hx424_0 := (HB.out.cell (World.block_lt_of_cell? w _ hx424_0)).trans hx424_0
        replace p424 := eq_true p424
        replace q424 := eq_true q424
        go_wp2_with (first | ((with_reducible refine gate_dst (N := 5) rfl ?_); refine box_event ?hg (N := 5) ?hd (cs := #[.int .i64 0]) (t := 3) ?hr ?_; (case hd => rfl); (case hg => rfl); (case hr => first | (go_simp; done) | (go_simp; rfl)); intro gb425 hg w12 hbox hb; have n0_ := Aside0.mk (Kd.R_below (Kd.R_elderB (rz HO_3) gb425 (Nat.le_of_eq hg.symm)) hb); have n1_ := Aside0.mk (below_step bh hb); have n2_ := Aside0.mk (hbox); have n3_ := Aside0.mk ((gs (W0 := w) hg bh)); have n4_ := Aside0.mk ((gs (W0 := w) hg bh)); clear HO_3 HB; have HO_3 := n0_; have HB := n1_; have BK425 := n2_; have GW425 := n3_; have GE425 := n4_; clear n0_ n1_ n2_ n3_ n4_ hb hbox hg; have hcz13_0 := cz0 BK425; have hfz13_0 := blk_frozen BK425.out 0) | ((with_reducible refine gate_callee (f := 81) rfl ?_); refine goesL_ (some 15) rfl rfl Try.func81 kr rfl #[.slice (some ad424) l0.length c0, .func (.func 82) #[] #[.pointer (some ⟨gb425, 0, none⟩)]] rfl lm ?_; (with_reducible refine (slices_ContainsFunc_w82.calls k1 _ _ l0 (some ⟨gb425, 0, none⟩) [rd l0 x9_1].length [rd l0 x9_1] false _ ?side1 ?side2 ?side3 ?side4 A7.out).mono ?_); (case side1 => exact Kd.C_below HR0.out bh); (case side2 => exact HC0.out); (case side3 => exact Opens.C_box (cs := #[.int .i64 (rd l0 x9_1)]) (t := 3) (bp BK425) rfl); (case side4 => exact Nat.le_refl _); rintro e w' ⟨rfl, ⟨nd, rfl⟩⟩; refine ⟨_, rfl, ?_⟩) | ((with_reducible refine gate_builtin (b := .append) (xs := #[.tmp 17, .tmp 19]) rfl ?_); at_builtin; refine Kd.R_append (Kd.int .i64) (w0 := w) w.heap.size rfl (.tmp 17) (.tmp 19) 23 3 (.int .i64 0) 8 rfl Try.underlying23 info3 rfl (by decide) (by omega) u3 x3_1 (rd l0 x9_1) [.int .i64 (rd l0 x9_1)] (fun k_ => k_ ≠ gb425) (fun _ => False) rfl (by first | (go_simp; done) | (go_simp; rfl)) ?aP (fun _ hk => hk.elim) ?aF ?aO ?aB ?aS ?aL ?_; (case aP => exact rfl); (case aB => exact bh); (case aF => exact (fun k_ hk => Kd.freshB (g := gb425) (o := .cells #[.int .i64 (rd l0 x9_1)] 3 (0, 0)) (bp BK425) k_ hk)); (case aO => exact (vR HO_3 (fun _ hk => hk.2))); (case aS => exact (below_size bh)); (case aL => have := LMc11.out; omega); intro v428 w14 ho hb hg hat; rw [← Ny427.out] at ho; have n0_ := Aside0.mk (blk_grown (g := gb425) (o := .cells #[.int .i64 (rd l0 x9_1)] 3 (0, 0)) (bp BK425) hg (Kd.R_away HO_3.out (fun _ hk => hk.2))); have n1_ := Aside0.mk (hb); have n2_ := Aside0.mk (ho); clear BK425 HB HO_3; have BK425 := n0_; have HB := n1_; have HO429 := n2_; clear n0_ n1_ n2_ ho hb hg hat))
        go_roundg k1
        case measure => have := HK1.out; omega
        case rel => exact ⟨(y427), (wrap64 (x9_1 + 1)), (by first | rfl | (simp; done) | (simp [*]; done)), H', ⟨by have := HK1.out; omega⟩, ⟨mR HO429⟩, ⟨by exact bh⟩⟩
       ·rw [if_neg c11] at H
        exact absurd H (by simp)
     ·rw [if_neg c6] at H
      exact absurd H (by simp)
    ·rw [if_neg c5] at H
     exact absurd H (by simp)
   ·rw [if_neg c4] at H
    have c4b0 : decide (x9_1 < (l0.length : Int)) = false := decide_eq_false c4
    clear c4
    replace H := Option.bind_eq_some_iff.mp H
    obtain ⟨_, A150, H⟩ := H
    replace H : ((slices_Compact_int_int.f k1 x3_1).bind fun t430 => (some t430)) = some r := H
    have A15 := Aside0.mk A150
    clear A150
    replace H := Option.bind_eq_some_iff.mp H
    obtain ⟨t430, A160, H⟩ := H
    replace H : (some t430) = some r := H
    have A16 := Aside0.mk A160
    clear A160
    obtain rfl := Option.some.inj H
    obtain ⟨Ao17, co17, eo17⟩ := Kd.R_slice HO_3.out
    subst eo17
    go_wp2_with (first | ((with_reducible refine gate_callee (f := 83) rfl ?_); refine goesL_ (some 23) rfl rfl Try.func83 kr rfl #[.slice Ao17 x3_1.length co17] rfl lm ?_; (with_reducible refine (slices_Sort_int_int.calls k1 _ _ x3_1  _ ?side1 ?side2 A15.out).mono ?_); (case side1 => repeat (first | exact (Kd.R_reads' HO_3.out).2.2 | (with_reducible refine Kd.C_alloc ?_ _) | (with_reducible refine Kd.C_drewN ?_ _) | (with_reducible refine Kd.C_drew ?_))); (case side2 => exact (Kd.R_reads' HO_3.out).2.1); rintro e w18 ⟨rfl, hb⟩; refine ⟨_, rfl, ?_⟩; have n0_ := Aside0.mk (Kd.R_below (rz HO_3) hb); have n1_ := Aside0.mk (below_step bh hb); clear HO_3 HB; have HO_3 := n0_; have HB := n1_; clear n0_ n1_; (try clear hb); (try clear hb2); (try clear hk); (try clear hi)) | ((with_reducible refine gate_callee (f := 84) rfl ?_); refine goesL_ (some 25) rfl rfl Try.func84 kr rfl #[.slice Ao17 x3_1.length co17] rfl lm ?_; (with_reducible refine (slices_Compact_int_int.calls k1 (fun k_ => some k_ = (.slice Ao17 x3_1.length co17 : Value).ownBlock) (.slice Ao17 x3_1.length co17) x3_1 t430 w _ ?side1 ?side2 A16.out).mono ?_); (case side1 => repeat (first | (with_reducible first | exact HB.out | apply below_alloc | apply pw_below_drewN | apply below_drew1) | exact HB.out)); (case side2 => exact Kd.R_tight rfl HO_3.out); rintro e w19 ⟨v431, rfl, ho0, hb, hkp⟩; refine ⟨_, rfl, ?_⟩; have n0_ := Aside0.mk (Kd.R_mono (ok' := fun k_ => True) ho0 (fun k_ hk_ => trivial)); have n1_ := Aside0.mk (hb); clear HB HO_3; have HO432 := n0_; have HB := n1_; clear n0_ n1_; (try clear hb); (try clear hkp); (try clear ho0)))
    go_ret
    exact ⟨_, by first | rfl | (simp [errW_none, errW_some] <;> rfl) | (simp [*, errW_none, errW_some] <;> rfl), by (with_reducible repeat (first | apply Kd.R_alloc | apply Kd.R_drewN | apply Kd.R_drew)); exact HO432.out, by exact bh⟩

/-! ### impl_leastConsents_1_c: function 75 -/
def impl_leastConsents_1_c.f (k : Nat) (a0 : Int) (l1 : List (S25)) (l2 : List (List (S61))) : Option (Bool) := if 0 < (l1.length : Int) then (if 0 < (l2.length : Int) then ((impl_consents.f k ((rd_T25 l1 0).f0) ((rd_T25 l1 0).f1) (rd_L3 l2 0) a0).bind fun t435 => (some t435)) else (none)) else (none)
theorem impl_leastConsents_1_c.mono : ∀ a0 a1 a2 k, LeO (impl_leastConsents_1_c.f k a0 a1 a2) (impl_leastConsents_1_c.f (k + 1) a0 a1 a2) := by
 intro a0 a1 a2 k
 unfold impl_leastConsents_1_c.f
 repeat' first
   | (with_reducible exact impl_consents.mono _ _ _ _ _)
   | (with_reducible exact LeO.refl _)
   | (with_reducible exact LeO.none _)
   | (with_reducible refine LeO.ite ?_ ?_)
   | (with_reducible refine LeO.bind ?_ (fun _ => ?_))
   | exact impl_consents.mono _ _ _ _ _
   | exact LeO.none _
   | refine LeO.ite ?_ ?_
   | refine LeO.bind ?_ (fun _ => ?_)
set_option maxHeartbeats 8000000 in
set_option maxRecDepth 100000 in
theorem impl_leastConsents_1_c.calls (k : Nat) (a0 : Int) (A1 : Option Addr) (c1 : Nat) (l1 : List (S25)) (A2 : Option Addr) (c2 : Nat) (l2 : List (List (S61))) (r : Bool) (w : World) (hr1 : Kd.C k25 w A1 l1.length l1) (hc1 : l1.length ≤ c1) (hr2 : Kd.C (Kd.slice 61 k61) w A2 l2.length l2) (hc2 : l2.length ≤ c2) (h : impl_leastConsents_1_c.f k a0 l1 l2 = some r) :
  Calls Try.prog 75 #[.int .i64 a0, .pointer A1, .pointer A2] w fun e w' => e = .returned (.bool r) ∧ Below w.heap.size w w' := by
 have hu25 := Try.underlying25
 have HR1 := Aside0.mk hr1
 have HC1 := Aside0.mk hc1
 clear hr1 hc1
 have HR2 := Aside0.mk hr2
 have HC2 := Aside0.mk hc2
 clear hr2 hc2
 have HB := Aside0.mk (Below.refl w.heap.size w)
 have H : (if 0 < (l1.length : Int) then (if 0 < (l2.length : Int) then ((impl_consents.f k ((rd_T25 l1 0).f0) ((rd_T25 l1 0).f1) (rd_L3 l2 0) a0).bind fun t435 => (some t435)) else (none)) else (none)) = some r := h
 clear h
 by_cases c4 : 0 < (l1.length : Int)
 ·rw [if_pos c4] at H
  have c4b0 : decide (0 < (l1.length : Int)) = true := decide_eq_true c4
  have c4b1 : decide (0 < l1.length) = true := decide_eq_true (by omega)
  clear c4
  by_cases c5 : 0 < (l2.length : Int)
  ·rw [if_pos c5] at H
   have c5b0 : decide (0 < (l2.length : Int)) = true := decide_eq_true c5
   have c5b1 : decide (0 < l2.length) = true := decide_eq_true (by omega)
   clear c5
   replace H := Option.bind_eq_some_iff.mp H
   obtain ⟨t435, A60, H⟩ := H
   replace H : (some t435) = some r := H
   have A6 := Aside0.mk A60
   clear A60
   obtain rfl := Option.some.inj H
   have p433 : 0 ≤ (0 : Int) := (by omega)
   have q433 : 0 < (l1.length : Int) := oda
   obtain ⟨ad433, A433_1, c433_1, e433, hx433_0, hx433_1, hl433_1, hi433_1⟩ := at_T25 HR1.out 0 p433 q433
   cases e433
   have qi433 : (0 < l1.length) = True := eq_true (by omega)
   (try rw [show ((0 : Int)).toNat = 0 from rfl] at hx433_0)
   (try rw [show 0 * 2 = 0 from rfl] at hx433_0)
   (try rw [Addr.add_zero'] at hx433_0)
   (try rw [show ((0 : Int)).toNat = 0 from rfl] at hx433_1)
   (try rw [show 0 * 2 = 0 from rfl] at hx433_1)
   (try rw [Addr.add_zero'] at hx433_1)
   have HR433_1 := Aside0.mk hi433_1
   have HC433_1 := Aside0.mk hl433_1
   clear hi433_1 hl433_1
   replace p433 := eq_true p433
   replace q433 := eq_true q433
   have p434 : 0 ≤ (0 : Int) := (by omega)
   have q434 : 0 < (l2.length : Int) := oda
   obtain ⟨ad434, A434_0, c434_0, e434, hx434_0, hl434_0, hi434_0⟩ := at_L3 HR2.out 0 p434 q434
   cases e434
   have qi434 : (0 < l2.length) = True := eq_true (by omega)
   (try rw [show ((0 : Int)).toNat = 0 from rfl] at hx434_0)
   (try rw [Addr.add_zero'] at hx434_0)
   have HR434_0 := Aside0.mk hi434_0
   have HC434_0 := Aside0.mk hl434_0
   clear hi434_0 hl434_0
   replace p434 := eq_true p434
   replace q434 := eq_true q434
   go_enter Try.func75, Try.ntmps75
   go_wp2_with (first | ((with_reducible refine gate_callee (f := 50) rfl ?_); refine goesL_ (some 8) rfl rfl Try.func50 kr rfl #[.agg #[.int .i64 ((rd_T25 l1 0).f0), .slice A433_1 ((rd_T25 l1 0).f1).length c433_1], .slice A434_0 (rd_L3 l2 0).length c434_0, .int .i64 a0] rfl lm ?_; (with_reducible refine (impl_consents.calls k ((rd_T25 l1 0).f0) _ _ ((rd_T25 l1 0).f1) _ _ (rd_L3 l2 0) a0 t435 _ ?side1 ?side2 ?side3 ?side4 A6.out).mono ?_); (case side1 => repeat (first | exact HR433_1.out | (with_reducible refine Kd.C_alloc ?_ _) | (with_reducible refine Kd.C_drewN ?_ _) | (with_reducible refine Kd.C_drew ?_))); (case side2 => exact HC433_1.out); (case side3 => repeat (first | exact HR434_0.out | (with_reducible refine Kd.C_alloc ?_ _) | (with_reducible refine Kd.C_drewN ?_ _) | (with_reducible refine Kd.C_drew ?_))); (case side4 => exact HC434_0.out); rintro e w7 ⟨rfl, hb⟩; refine ⟨_, rfl, ?_⟩; have n0_ := Aside0.mk (below_step bh hb); clear HB; have HB := n0_; clear n0_; (try clear hb); (try clear hb2); (try clear hk); (try clear hi)))
   go_ret
   exact ⟨by first | rfl | (simp [errW_none, errW_some] <;> rfl) | (simp [*, errW_none, errW_some] <;> rfl), by exact bh⟩
  ·rw [if_neg c5] at H
   exact absurd H (by simp)
 ·rw [if_neg c4] at H
  exact absurd H (by simp)

/-! ### impl_leastOf_w75: function 74 -/
def impl_leastOf_w75.l0 : Nat → List Int → Int → Int → List (S25) → List (List (S61)) → Option (List Int)
 | 0, _, _, _, _, _ => none
 | k + 1, x5, x9, x10, x950, x951 => if x10 < x9 then ((impl_leastConsents_1_c.f k x10 x950 x951).bind fun t439 => (if t439 = true then (if x5.length < 17592186044416 then (impl_leastOf_w75.l0 k (x5 ++ [x10]) x9 (wrap64 (x10 + 1)) x950 x951) else (none)) else (impl_leastOf_w75.l0 k x5 x9 (wrap64 (x10 + 1)) x950 x951))) else ((impl_leastCrowds.f k x5).bind fun t443 => (some t443))
def impl_leastOf_w75.f (k : Nat) (a0 : Int) (l1_0 : List (S25)) (l1_1 : List (List (S61))) : Option (List Int) := if 0 ≤ a0 then (impl_leastOf_w75.l0 k (([] : List Int)) (shl .i64 1 a0) 0 l1_0 l1_1) else (none)
theorem impl_leastOf_w75.mono_l : ∀ k, (∀ y0 y1 y2 y3 y4, LeO (impl_leastOf_w75.l0 k y0 y1 y2 y3 y4) (impl_leastOf_w75.l0 (k + 1) y0 y1 y2 y3 y4))
 | 0 => fun _ _ _ _ _ r h => by simp [impl_leastOf_w75.l0] at h
 | k + 1 => by
  have ih0 := impl_leastOf_w75.mono_l k
  ·intro y0 y1 y2 y3 y4
   unfold impl_leastOf_w75.l0
   repeat' first
   | (with_reducible exact ih0 _ _ _ _ _)
   | (with_reducible exact impl_leastConsents_1_c.mono _ _ _ _)
   | (with_reducible exact impl_leastCrowds.mono _ _)
   | (with_reducible exact LeO.refl _)
   | (with_reducible exact LeO.none _)
   | (with_reducible refine LeO.ite ?_ ?_)
   | (with_reducible refine LeO.bind ?_ (fun _ => ?_))
   | exact ih0 _ _ _ _ _
   | exact impl_leastConsents_1_c.mono _ _ _ _
   | exact impl_leastCrowds.mono _ _
   | exact LeO.none _
   | refine LeO.ite ?_ ?_
   | refine LeO.bind ?_ (fun _ => ?_)
theorem impl_leastOf_w75.mono : ∀ a0 a1 a2 k, LeO (impl_leastOf_w75.f k a0 a1 a2) (impl_leastOf_w75.f (k + 1) a0 a1 a2) := by
 intro a0 a1 a2 k
 have ih0 := impl_leastOf_w75.mono_l k
 unfold impl_leastOf_w75.f
 repeat' first
   | (with_reducible exact ih0 _ _ _ _ _)
   | (with_reducible exact impl_leastConsents_1_c.mono _ _ _ _)
   | (with_reducible exact impl_leastCrowds.mono _ _)
   | (with_reducible exact LeO.refl _)
   | (with_reducible exact LeO.none _)
   | (with_reducible refine LeO.ite ?_ ?_)
   | (with_reducible refine LeO.bind ?_ (fun _ => ?_))
   | exact ih0 _ _ _ _ _
   | exact impl_leastConsents_1_c.mono _ _ _ _
   | exact impl_leastCrowds.mono _ _
   | exact LeO.none _
   | refine LeO.ite ?_ ?_
   | refine LeO.bind ?_ (fun _ => ?_)
set_option maxHeartbeats 8000000 in
set_option maxRecDepth 100000 in
theorem impl_leastOf_w75.calls (k : Nat) (a0 : Int) (A1_0 : Option Addr) (c1_0 : Nat) (l1_0 : List (S25)) (A1_1 : Option Addr) (c1_1 : Nat) (l1_1 : List (List (S61))) (r : List Int) (w : World) (hr1_0 : Kd.C k25 w A1_0 l1_0.length l1_0) (hc1_0 : l1_0.length ≤ c1_0) (hr1_1 : Kd.C (Kd.slice 61 k61) w A1_1 l1_1.length l1_1) (hc1_1 : l1_1.length ≤ c1_1) (h : impl_leastOf_w75.f k a0 l1_0 l1_1 = some r) :
  Calls Try.prog 74 #[.int .i64 a0, .func (.func 75) #[] #[.pointer A1_0, .pointer A1_1]] w fun e w' => ∃ v0_ : Value, e = .returned (v0_) ∧ Kd.R (Kd.int .i64) 3 w' w.heap.size (fun _ => True) v0_ r ∧ Below w.heap.size w w' := by
 have HR1_0 := Aside0.mk hr1_0
 have HC1_0 := Aside0.mk hc1_0
 clear hr1_0 hc1_0
 have HR1_1 := Aside0.mk hr1_1
 have HC1_1 := Aside0.mk hc1_1
 clear hr1_1 hc1_1
 have HB := Aside0.mk (Below.refl w.heap.size w)
 have H : (if 0 ≤ a0 then (impl_leastOf_w75.l0 k (([] : List Int)) (shl .i64 1 a0) 0 l1_0 l1_1) else (none)) = some r := h
 clear h
 obtain ⟨y436, hy436⟩ : ∃ y_ : List Int, y_ = (([] : List Int)) := ⟨_, rfl⟩
 replace H : (if 0 ≤ a0 then (impl_leastOf_w75.l0 k y436 (shl .i64 1 a0) 0 l1_0 l1_1) else (none)) = some r := by first | (rw [hy436]; with_reducible exact H) | (have H2_ := (Option.bind_some _ _).symm.trans H; rw [hy436]; with_reducible exact H2_) | (have H2_ := (Option.bind_some _ _).symm.trans H; with_reducible exact H2_) | with_reducible exact H | (rw [hy436]; exact H) | exact H
 have Ny436 := Aside0.mk hy436
 clear hy436
 by_cases c3 : 0 ≤ a0
 ·rw [if_pos c3] at H
  have c3b0 := eq_true c3
  have c3b1 : decide (0 ≤ a0) = true := decide_eq_true c3
  clear c3
  obtain ⟨ji4, hji4⟩ : ∃ j_ : Int, (shl .i64 1 a0) = j_ := ⟨_, rfl⟩
  replace H : (impl_leastOf_w75.l0 k y436 ji4 0 l1_0 l1_1) = some r := by first | (rw [hji4] at H; exact H) | (simp only [hji4] at H ⊢; exact H)
  have hji4_ : (IntKind.i64.wrap (1 * 2 ^ min a0.toNat 64)) = ji4 := hji4
  have hji4z : a0 ≤ 64 → (IntKind.i64.wrap (1 * 2 ^ a0.toNat)) = ji4 := shl_small hji4
  have hji4u : (IntKind.i64.wrap (2 ^ min a0.toNat 64)) = ji4 := by have h_ := hji4_; rw [Int.one_mul] at h_; exact h_
  have hji4v : a0 ≤ 64 → (IntKind.i64.wrap (2 ^ a0.toNat)) = ji4 := fun hle_ => by have h_ := hji4z hle_; rw [Int.one_mul] at h_; exact h_
  have hji4y : (wrap64 (1 * 2 ^ min a0.toNat 64)) = ji4 := (i64_w _).symm.trans hji4_
  have hji4x : a0 ≤ 64 → (wrap64 (1 * 2 ^ a0.toNat)) = ji4 := fun h_ => (i64_w _).symm.trans (hji4z h_)
  have H' := Aside0.mk H
  clear H
  go_enter Try.func74, Try.ntmps74
  go_wp2_with (first | ((with_reducible refine gate_dst (N := 7) rfl ?_); refine Kd.R_lit (Kd.int .i64) _ 3 ?hg (N := 7) ?hd (xs := ([] : List Int)) (inner := []) (ok := fun _ => True) (okp := fun _ => True) ?hr ?hp (fun _ hk => hk) trivial (Below.refl _ _) (Nat.le_refl _) (by simp) ?_; (case hd => rfl); (case hg => rfl); (case hr => first | (go_simp; done) | (go_simp; rfl)); (case hp => exact (Reps.none _ _)); intro v437 w5 ho6 hb hg_ hnew_; clear hg_ hnew_; (first | rw [← Ny436.out] at ho6 | (simp only [Int.reduceToNat] at ho6; rw [← Ny436.out] at ho6)); have n0_ := Aside0.mk (Kd.R_lower ho6 (below_size bh)); have n1_ := Aside0.mk (below_step bh hb); clear HB; have HO438 := n0_; have HB := n1_; clear n0_ n1_ hb ho6))
  go_loopg [5, 10] k (fun kq v5 v10 w' => ∃ (x5_1 : List Int) (x10_1 : Int), v10 = .int .i64 x10_1 ∧ Aside0 (impl_leastOf_w75.l0 kq x5_1 ji4 x10_1 l1_0 l1_1 = some r) ∧ Aside0 (kq ≤ k) ∧ Aside0 (Kd.R (Kd.int .i64) 3 w' w.heap.size (fun _ => True) v5 x5_1) ∧ Aside0 (Below w.heap.size w w'))
  case atStart => exact ⟨(y436), (0), (by first | rfl | (simp; done) | (simp [*]; done)), H', ⟨Nat.le_refl _⟩, ⟨rz HO438⟩, ⟨by exact bh⟩⟩
  case round =>
   clear H'
   try clear c1
   try clear p2
   try clear c3
   try clear c3b0
   try clear c3b1
   try clear p6
   obtain ⟨x5_1, x10_1, rfl, HA, HK1, HO_5, HB⟩ := hrel
   cases gk with
   | zero => exact absurd HA.out (by simp [impl_leastOf_w75.l0])
   | succ k1 =>
    have H := HA.out
    clear HA
    simp only [impl_leastOf_w75.l0] at H
    by_cases c7 : x10_1 < ji4
    ·rw [if_pos c7] at H
     have c7b0 : decide (x10_1 < ji4) = true := decide_eq_true c7
     clear c7
     replace H := Option.bind_eq_some_iff.mp H
     obtain ⟨t439, A80, H⟩ := H
     replace H : (if t439 = true then (if x5_1.length < 17592186044416 then (impl_leastOf_w75.l0 k1 (x5_1 ++ [x10_1]) ji4 (wrap64 (x10_1 + 1)) l1_0 l1_1) else (none)) else (impl_leastOf_w75.l0 k1 x5_1 ji4 (wrap64 (x10_1 + 1)) l1_0 l1_1)) = some r := H
     have A8 := Aside0.mk A80
     clear A80
     by_cases c9 : t439 = true
     ·subst c9
      have H1 : (if x5_1.length < 17592186044416 then (impl_leastOf_w75.l0 k1 (x5_1 ++ [x10_1]) ji4 (wrap64 (x10_1 + 1)) l1_0 l1_1) else (none)) = some r := by rw [if_pos rfl] at H; exact H
      clear H
      have H := H1
      clear H1
      by_cases c10 : x5_1.length < 17592186044416
      ·rw [if_pos c10] at H
       have LMc10 := Aside0.mk c10
       clear c10
       obtain ⟨y440, hy440⟩ : ∃ y_ : List Int, y_ = (x5_1 ++ [x10_1]) := ⟨_, rfl⟩
       replace H : (impl_leastOf_w75.l0 k1 y440 ji4 (wrap64 (x10_1 + 1)) l1_0 l1_1) = some r := by first | (rw [hy440]; with_reducible exact H) | (have H2_ := (Option.bind_some _ _).symm.trans H; rw [hy440]; with_reducible exact H2_) | (have H2_ := (Option.bind_some _ _).symm.trans H; with_reducible exact H2_) | with_reducible exact H | (rw [hy440]; exact H) | exact H
       have Ny440 := Aside0.mk hy440
       clear hy440
       have H' := Aside0.mk H
       clear H
       go_wp2_with (first | (go_at_call 75; (with_reducible refine (impl_leastConsents_1_c.calls k1 x10_1 _ c1_0 l1_0 _ c1_1 l1_1 true _ ?side1 ?side2 ?side3 ?side4 A8.out).mono ?_); (case side1 => repeat (first | exact (Kd.C_below HR1_0.out HB.out) | (with_reducible refine Kd.C_alloc ?_ _) | (with_reducible refine Kd.C_drewN ?_ _) | (with_reducible refine Kd.C_drew ?_))); (case side2 => exact HC1_0.out); (case side3 => repeat (first | exact (Kd.C_below HR1_1.out HB.out) | (with_reducible refine Kd.C_alloc ?_ _) | (with_reducible refine Kd.C_drewN ?_ _) | (with_reducible refine Kd.C_drew ?_))); (case side4 => exact HC1_1.out); rintro e w11 ⟨rfl, hb⟩; have n0_ := Aside0.mk (Kd.R_below (rz HO_5) hb); have n1_ := Aside0.mk (below_step bh hb); clear HO_5 HB; have HO_5 := n0_; have HB := n1_; clear n0_ n1_; (try clear hb); (try clear hb2); (try clear hk); (try clear hi)) | ((with_reducible refine gate_builtin (b := .append) (xs := #[.tmp 16, .tmp 18]) rfl ?_); at_builtin; refine Kd.R_append (Kd.int .i64) (w0 := w) w.heap.size rfl (.tmp 16) (.tmp 18) 23 3 (.int .i64 0) 8 rfl Try.underlying23 info3 rfl (by decide) (by omega) u5 x5_1 x10_1 [.int .i64 x10_1] (fun _ => True) (fun _ => False) rfl rfl ?aP (fun _ hk => hk.elim) ?aF ?aO ?aB ?aS ?aL ?_; (case aP => exact rfl); (case aB => exact bh); (case aF => exact (fun _ _ => trivial)); (case aO => exact (rz HO_5)); (case aS => exact (below_size bh)); (case aL => have := LMc10.out; omega); intro v441 w12 ho hb hg hat; rw [← Ny440.out] at ho; have n0_ := Aside0.mk (hb); have n1_ := Aside0.mk (ho); clear HB HO_5; have HB := n0_; have HO442 := n1_; clear n0_ n1_ ho hb hg hat))
       go_roundg k1
       case measure => have := HK1.out; omega
       case rel => exact ⟨(y440), (wrap64 (x10_1 + 1)), (by first | rfl | (simp; done) | (simp [*]; done)), H', ⟨by have := HK1.out; omega⟩, ⟨rz HO442⟩, ⟨by exact bh⟩⟩
      ·rw [if_neg c10] at H
       exact absurd H (by simp)
     ·replace c9 := Bool.eq_false_iff.mpr c9
      subst c9
      have H1 : (impl_leastOf_w75.l0 k1 x5_1 ji4 (wrap64 (x10_1 + 1)) l1_0 l1_1) = some r := by rw [if_neg (show ¬ (false = true) by decide)] at H; exact H
      clear H
      have H := H1
      clear H1
      have H' := Aside0.mk H
      clear H
      go_wp2_with (first | (go_at_call 75; (with_reducible refine (impl_leastConsents_1_c.calls k1 x10_1 _ c1_0 l1_0 _ c1_1 l1_1 false _ ?side1 ?side2 ?side3 ?side4 A8.out).mono ?_); (case side1 => repeat (first | exact (Kd.C_below HR1_0.out HB.out) | (with_reducible refine Kd.C_alloc ?_ _) | (with_reducible refine Kd.C_drewN ?_ _) | (with_reducible refine Kd.C_drew ?_))); (case side2 => exact HC1_0.out); (case side3 => repeat (first | exact (Kd.C_below HR1_1.out HB.out) | (with_reducible refine Kd.C_alloc ?_ _) | (with_reducible refine Kd.C_drewN ?_ _) | (with_reducible refine Kd.C_drew ?_))); (case side4 => exact HC1_1.out); rintro e w13 ⟨rfl, hb⟩; have n0_ := Aside0.mk (Kd.R_below (rz HO_5) hb); have n1_ := Aside0.mk (below_step bh hb); clear HO_5 HB; have HO_5 := n0_; have HB := n1_; clear n0_ n1_; (try clear hb); (try clear hb2); (try clear hk); (try clear hi)))
      go_roundg k1
      case measure => have := HK1.out; omega
      case rel => exact ⟨(x5_1), (wrap64 (x10_1 + 1)), (by first | rfl | (simp; done) | (simp [*]; done)), H', ⟨by have := HK1.out; omega⟩, ⟨rz HO_5⟩, ⟨by exact bh⟩⟩
    ·rw [if_neg c7] at H
     have c7b0 : decide (x10_1 < ji4) = false := decide_eq_false c7
     clear c7
     replace H := Option.bind_eq_some_iff.mp H
     obtain ⟨t443, A140, H⟩ := H
     replace H : (some t443) = some r := H
     have A14 := Aside0.mk A140
     clear A140
     obtain rfl := Option.some.inj H
     obtain ⟨Ao15, co15, eo15⟩ := Kd.R_slice HO_5.out
     subst eo15
     go_wp2_with (first | ((with_reducible refine gate_callee (f := 78) rfl ?_); refine goesL_ (some 22) rfl rfl Try.func78 kr rfl #[.slice Ao15 x5_1.length co15] rfl lm ?_; (with_reducible refine (impl_leastCrowds.calls k1 _ _ x5_1 t443 _ ?side1 ?side2 A14.out).mono ?_); (case side1 => repeat (first | exact (Kd.R_reads' HO_5.out).2.2 | (with_reducible refine Kd.C_alloc ?_ _) | (with_reducible refine Kd.C_drewN ?_ _) | (with_reducible refine Kd.C_drew ?_))); (case side2 => exact (Kd.R_reads' HO_5.out).2.1); rintro e w16 ⟨v444, rfl, ho0, hb⟩; refine ⟨_, rfl, ?_⟩; have n0_ := Aside0.mk (Kd.R_elder' (rz HO_5) (Kd.R_base ho0) hb); have n1_ := Aside0.mk (Kd.R_lower (Kd.R_new' ho0 (Kd.R_lt (rz HO_5))) (below_size bh)); have n2_ := Aside0.mk (below_step bh hb); clear HO_5 HB; have HO_5 := n0_; have HO445 := n1_; have HB := n2_; clear n0_ n1_ n2_; (try clear hb); (try clear hb2); (try clear hk); (try clear hi); (try clear ho0)))
     go_ret
     exact ⟨_, by first | rfl | (simp [errW_none, errW_some] <;> rfl) | (simp only [← hji4]; first | rfl | (simp [errW_none, errW_some] <;> rfl)) | (simp [*, errW_none, errW_some] <;> rfl), by (with_reducible repeat (first | apply Kd.R_alloc | apply Kd.R_drewN | apply Kd.R_drew)); exact Kd.R_mono HO445.out (fun _ hk => trivial), by exact bh⟩
 ·rw [if_neg c3] at H
  exact absurd H (by simp)

/-! ### impl_leastConsents: function 56 -/
def impl_leastConsents.f (k : Nat) (a0_0 : Int) (l0_1 : List Int) (l1 : List (S61)) : Option (List Int) := (impl_leastOf_w75.f k a0_0 [(⟨a0_0, l0_1⟩ : S25)] [l1]).bind fun t448 => (some t448)
theorem impl_leastConsents.mono : ∀ a0 a1 a2 k, LeO (impl_leastConsents.f k a0 a1 a2) (impl_leastConsents.f (k + 1) a0 a1 a2) := by
 intro a0 a1 a2 k
 unfold impl_leastConsents.f
 repeat' first
   | (with_reducible exact impl_leastOf_w75.mono _ _ _ _)
   | (with_reducible exact LeO.refl _)
   | (with_reducible exact LeO.none _)
   | (with_reducible refine LeO.ite ?_ ?_)
   | (with_reducible refine LeO.bind ?_ (fun _ => ?_))
   | exact impl_leastOf_w75.mono _ _ _ _
   | exact LeO.none _
   | refine LeO.ite ?_ ?_
   | refine LeO.bind ?_ (fun _ => ?_)
set_option maxHeartbeats 8000000 in
set_option maxRecDepth 100000 in
theorem impl_leastConsents.calls (k : Nat) (a0_0 : Int) (A0_1 : Option Addr) (c0_1 : Nat) (l0_1 : List Int) (A1 : Option Addr) (c1 : Nat) (l1 : List (S61)) (r : List Int) (w : World) (hr0_1 : Kd.C (Kd.int .i64) w A0_1 l0_1.length l0_1) (hc0_1 : l0_1.length ≤ c0_1) (hr1 : Kd.C k61 w A1 l1.length l1) (hc1 : l1.length ≤ c1) (h : impl_leastConsents.f k a0_0 l0_1 l1 = some r) :
  Calls Try.prog 56 #[.agg #[.int .i64 a0_0, .slice A0_1 l0_1.length c0_1], .slice A1 l1.length c1] w fun e w' => ∃ v0_ : Value, e = .returned (v0_) ∧ Kd.R (Kd.int .i64) 3 w' w.heap.size (fun _ => True) v0_ r ∧ Below w.heap.size w w' := by
 have hu25 := Try.underlying25
 have hmf_ : ∀ (fn_ : Fn) (first_ cap_ : Array Value) (w_ : World), (Instr.makeFunc fn_ first_ cap_).run Try.prog w_ = .ok (.func fn_ first_ cap_) w_ := fun _ _ _ _ => rfl
 have HR0_1 := Aside0.mk hr0_1
 have HC0_1 := Aside0.mk hc0_1
 clear hr0_1 hc0_1
 have HR1 := Aside0.mk hr1
 have HC1 := Aside0.mk hc1
 clear hr1 hc1
 have HB := Aside0.mk (Below.refl w.heap.size w)
 have H : ((impl_leastOf_w75.f k a0_0 [(⟨a0_0, l0_1⟩ : S25)] [l1]).bind fun t448 => (some t448)) = some r := h
 clear h
 replace H := Option.bind_eq_some_iff.mp H
 obtain ⟨t448, A30, H⟩ := H
 replace H : (some t448) = some r := H
 have A3 := Aside0.mk A30
 clear A30
 obtain rfl := Option.some.inj H
 go_enter Try.func56, Try.ntmps56
 go_wp2_with (first | ((with_reducible refine gate_dst (N := 2) rfl ?_); refine box_event ?hg (N := 2) ?hd (cs := #[.int .i64 a0_0, .slice A0_1 l0_1.length c0_1]) (t := 25) ?hr ?_; (case hd => rfl); (case hg => rfl); (case hr => first | (go_simp; done) | (go_simp; rfl)); intro gb446 hg w4 hbox hb; have n0_ := Aside0.mk (below_step bh hb); have n1_ := Aside0.mk (hbox); have n2_ := Aside0.mk ((gs (W0 := w) hg bh)); have n3_ := Aside0.mk ((gs (W0 := w) hg bh)); clear HB; have HB := n0_; have BK446 := n1_; have GW446 := n2_; have GE446 := n3_; clear n0_ n1_ n2_ n3_ hb hbox hg) | ((with_reducible refine gate_dst (N := 3) rfl ?_); refine box_event ?hg (N := 3) ?hd (cs := #[.slice A1 l1.length c1]) (t := 26) ?hr ?_; (case hd => rfl); (case hg => rfl); (case hr => first | (go_simp; done) | (go_simp; rfl)); intro gb447 hg w5 hbox hb; have n0_ := Aside0.mk (blk_below (bz BK446) hb); have n1_ := Aside0.mk (below_step bh hb); have n2_ := Aside0.mk (hbox); have n3_ := Aside0.mk ((gs (W0 := w) hg bh)); have n4_ := Aside0.mk ((gs (W0 := w) hg bh)); have n5_ := Aside0.mk ((gn hg (bz BK446))); have n6_ := Aside0.mk ((gm hg (bz BK446))); clear BK446 HB; have BK446 := n0_; have HB := n1_; have BK447 := n2_; have GW447 := n3_; have GE447 := n4_; have NB446_447 := n5_; have NB447_446 := n6_; clear n0_ n1_ n2_ n3_ n4_ n5_ n6_ hb hbox hg; have hnb6 := NB446_447.out; have hnc6 := NB447_446.out; have hcz7_0 := cz0 BK446; have hcz7_1 := cz1 BK446; have hfz7_0 := blk_frozen BK446.out 0; have hfz7_1 := blk_frozen BK446.out 1; have hcz8_0 := cz0 BK447; have hfz8_0 := blk_frozen BK447.out 0) | ((with_reducible refine gate_callee (f := 74) rfl ?_); refine goesL_ (some 8) rfl rfl Try.func74 kr rfl #[.int .i64 a0_0, .func (.func 75) #[] #[.pointer (some ⟨gb446, 0, none⟩), .pointer (some ⟨gb447, 0, none⟩)]] rfl lm ?_; (with_reducible refine (impl_leastOf_w75.calls k a0_0 (some ⟨gb446, 0, none⟩) [(⟨a0_0, l0_1⟩ : S25)].length [(⟨a0_0, l0_1⟩ : S25)] (some ⟨gb447, 0, none⟩) [l1].length [l1] t448 _ ?side1 ?side2 ?side3 ?side4 A3.out).mono ?_); (case side1 => exact Opens.C_box (bz BK446) (k25_mk _ (⟨a0_0, l0_1⟩ : S25) (by exact HC0_1.out) (by repeat (first | exact (Kd.C_below HR0_1.out HB.out) | (with_reducible refine Kd.C_alloc ?_ _) | (with_reducible refine Kd.C_drewN ?_ _) | (with_reducible refine Kd.C_drew ?_))))); (case side2 => exact Nat.le_refl _); (case side3 => exact Opens.C_box (cs := #[.slice A1 l1.length c1]) (t := 26) (bz BK447) (⟨_, _, rfl, (by exact HC1.out), (by repeat (first | exact (Kd.C_below HR1.out HB.out) | (with_reducible refine Kd.C_alloc ?_ _) | (with_reducible refine Kd.C_drewN ?_ _) | (with_reducible refine Kd.C_drew ?_)))⟩)); (case side4 => exact Nat.le_refl _); rintro e w9 ⟨v449, rfl, ho0, hb⟩; refine ⟨_, rfl, ?_⟩; have n0_ := Aside0.mk (Kd.R_lower ho0 (below_size bh)); have n1_ := Aside0.mk (blk_below (bz BK446) hb); have n2_ := Aside0.mk (blk_below (bz BK447) hb); have n3_ := Aside0.mk (below_step bh hb); clear BK446 BK447 HB; have HO450 := n0_; have BK446 := n1_; have BK447 := n2_; have HB := n3_; clear n0_ n1_ n2_ n3_; (try clear hb); (try clear hb2); (try clear hk); (try clear hi); (try clear ho0)))
 go_ret
 exact ⟨_, by first | rfl | (simp [errW_none, errW_some] <;> rfl) | (simp [*, errW_none, errW_some] <;> rfl), by (with_reducible repeat (first | apply Kd.R_alloc | apply Kd.R_drewN | apply Kd.R_drew)); exact HO450.out, by exact bh⟩

/-! ### impl_LeastConsents: function 15 -/
def impl_LeastConsents.f (k : Nat) (a0_0 : Int) (l0_1 : List Int) (l1 : List (S61)) : Option (List Int) := (impl_isTerm.f k a0_0 l0_1 l1).bind fun t452 => (if t452 = true then ((impl_leastConsents.f k a0_0 l0_1 l1).bind fun t453 => (some t453)) else (some ([] : List Int)))
theorem impl_LeastConsents.mono : ∀ a0 a1 a2 k, LeO (impl_LeastConsents.f k a0 a1 a2) (impl_LeastConsents.f (k + 1) a0 a1 a2) := by
 intro a0 a1 a2 k
 unfold impl_LeastConsents.f
 repeat' first
   | (with_reducible exact impl_isTerm.mono _ _ _ _)
   | (with_reducible exact impl_leastConsents.mono _ _ _ _)
   | (with_reducible exact LeO.refl _)
   | (with_reducible exact LeO.none _)
   | (with_reducible refine LeO.ite ?_ ?_)
   | (with_reducible refine LeO.bind ?_ (fun _ => ?_))
   | exact impl_isTerm.mono _ _ _ _
   | exact impl_leastConsents.mono _ _ _ _
   | exact LeO.none _
   | refine LeO.ite ?_ ?_
   | refine LeO.bind ?_ (fun _ => ?_)
set_option maxHeartbeats 8000000 in
set_option maxRecDepth 100000 in
theorem impl_LeastConsents.calls (k : Nat) (a0_0 : Int) (A0_1 : Option Addr) (c0_1 : Nat) (l0_1 : List Int) (A1 : Option Addr) (c1 : Nat) (l1 : List (S61)) (r : List Int) (w : World) (hr0_1 : Kd.C (Kd.int .i64) w A0_1 l0_1.length l0_1) (hc0_1 : l0_1.length ≤ c0_1) (hr1 : Kd.C k61 w A1 l1.length l1) (hc1 : l1.length ≤ c1) (h : impl_LeastConsents.f k a0_0 l0_1 l1 = some r) :
  Calls Try.prog 15 #[.agg #[.int .i64 a0_0, .slice A0_1 l0_1.length c0_1], .slice A1 l1.length c1] w fun e w' => ∃ v0_ : Value, e = .returned (v0_) ∧ Kd.R (Kd.int .i64) 3 w' w.heap.size (fun _ => True) v0_ r ∧ Below w.heap.size w w' := by
 have hu25 := Try.underlying25
 have HR0_1 := Aside0.mk hr0_1
 have HC0_1 := Aside0.mk hc0_1
 clear hr0_1 hc0_1
 have HR1 := Aside0.mk hr1
 have HC1 := Aside0.mk hc1
 clear hr1 hc1
 have HB := Aside0.mk (Below.refl w.heap.size w)
 have H : ((impl_isTerm.f k a0_0 l0_1 l1).bind fun t452 => (if t452 = true then ((impl_leastConsents.f k a0_0 l0_1 l1).bind fun t453 => (some t453)) else (some ([] : List Int)))) = some r := h
 clear h
 replace H := Option.bind_eq_some_iff.mp H
 obtain ⟨t452, A30, H⟩ := H
 replace H : (if t452 = true then ((impl_leastConsents.f k a0_0 l0_1 l1).bind fun t453 => (some t453)) else (some ([] : List Int))) = some r := H
 have A3 := Aside0.mk A30
 clear A30
 by_cases c4 : t452 = true
 ·subst c4
  have H1 : ((impl_leastConsents.f k a0_0 l0_1 l1).bind fun t453 => (some t453)) = some r := by rw [if_pos rfl] at H; exact H
  clear H
  have H := H1
  clear H1
  replace H := Option.bind_eq_some_iff.mp H
  obtain ⟨t453, A50, H⟩ := H
  replace H : (some t453) = some r := H
  have A5 := Aside0.mk A50
  clear A50
  obtain rfl := Option.some.inj H
  go_enter Try.func15, Try.ntmps15
  go_wp2_with (first | ((with_reducible refine gate_dst (N := 2) rfl ?_); refine box_event ?hg (N := 2) ?hd (cs := #[.int .i64 a0_0, .slice A0_1 l0_1.length c0_1]) (t := 25) ?hr ?_; (case hd => rfl); (case hg => rfl); (case hr => first | (go_simp; done) | (go_simp; rfl)); intro gb451 hg w6 hbox hb; have n0_ := Aside0.mk (below_step bh hb); have n1_ := Aside0.mk (hbox); have n2_ := Aside0.mk ((gs (W0 := w) hg bh)); have n3_ := Aside0.mk ((gs (W0 := w) hg bh)); clear HB; have HB := n0_; have BK451 := n1_; have GW451 := n2_; have GE451 := n3_; clear n0_ n1_ n2_ n3_ hb hbox hg; have hcz7_0 := cz0 BK451; have hcz7_1 := cz1 BK451; have hfz7_0 := blk_frozen BK451.out 0; have hfz7_1 := blk_frozen BK451.out 1) | ((with_reducible refine gate_callee (f := 49) rfl ?_); refine goesL_ (some 7) rfl rfl Try.func49 kr rfl #[.agg #[.int .i64 a0_0, .slice A0_1 l0_1.length c0_1], .slice A1 l1.length c1] rfl lm ?_; (with_reducible refine (impl_isTerm.calls k a0_0 _ _ l0_1 _ _ l1 true _ ?side1 ?side2 ?side3 ?side4 A3.out).mono ?_); (case side1 => repeat (first | exact (Kd.C_below HR0_1.out HB.out) | (with_reducible refine Kd.C_alloc ?_ _) | (with_reducible refine Kd.C_drewN ?_ _) | (with_reducible refine Kd.C_drew ?_))); (case side2 => exact HC0_1.out); (case side3 => repeat (first | exact (Kd.C_below HR1.out HB.out) | (with_reducible refine Kd.C_alloc ?_ _) | (with_reducible refine Kd.C_drewN ?_ _) | (with_reducible refine Kd.C_drew ?_))); (case side4 => exact HC1.out); rintro e w8 ⟨rfl, hb⟩; refine ⟨_, rfl, ?_⟩; have n0_ := Aside0.mk (blk_below (bz BK451) hb); have n1_ := Aside0.mk (below_step bh hb); clear BK451 HB; have BK451 := n0_; have HB := n1_; clear n0_ n1_; (try clear hb); (try clear hb2); (try clear hk); (try clear hi); have hcz9_0 := cz0 BK451; have hcz9_1 := cz1 BK451; have hfz9_0 := blk_frozen BK451.out 0; have hfz9_1 := blk_frozen BK451.out 1) | ((with_reducible refine gate_callee (f := 56) rfl ?_); refine goesL_ (some 11) rfl rfl Try.func56 kr rfl #[.agg #[.int .i64 a0_0, .slice A0_1 l0_1.length c0_1], .slice A1 l1.length c1] rfl lm ?_; (with_reducible refine (impl_leastConsents.calls k a0_0 _ _ l0_1 _ _ l1 t453 _ ?side1 ?side2 ?side3 ?side4 A5.out).mono ?_); (case side1 => repeat (first | exact (Kd.C_below HR0_1.out HB.out) | (with_reducible refine Kd.C_alloc ?_ _) | (with_reducible refine Kd.C_drewN ?_ _) | (with_reducible refine Kd.C_drew ?_))); (case side2 => exact HC0_1.out); (case side3 => repeat (first | exact (Kd.C_below HR1.out HB.out) | (with_reducible refine Kd.C_alloc ?_ _) | (with_reducible refine Kd.C_drewN ?_ _) | (with_reducible refine Kd.C_drew ?_))); (case side4 => exact HC1.out); rintro e w10 ⟨v454, rfl, ho0, hb⟩; refine ⟨_, rfl, ?_⟩; have n0_ := Aside0.mk (Kd.R_lower ho0 (below_size bh)); have n1_ := Aside0.mk (blk_below (bz BK451) hb); have n2_ := Aside0.mk (below_step bh hb); clear BK451 HB; have HO455 := n0_; have BK451 := n1_; have HB := n2_; clear n0_ n1_ n2_; (try clear hb); (try clear hb2); (try clear hk); (try clear hi); (try clear ho0)))
  go_ret
  exact ⟨_, by first | rfl | (simp [errW_none, errW_some] <;> rfl) | (simp [*, errW_none, errW_some] <;> rfl), by (with_reducible repeat (first | apply Kd.R_alloc | apply Kd.R_drewN | apply Kd.R_drew)); exact HO455.out, by exact bh⟩
 ·replace c4 := Bool.eq_false_iff.mpr c4
  subst c4
  have H1 : (some ([] : List Int)) = some r := by rw [if_neg (show ¬ (false = true) by decide)] at H; exact H
  clear H
  have H := H1
  clear H1
  obtain rfl := Option.some.inj H
  go_enter Try.func15, Try.ntmps15
  go_wp2_with (first | ((with_reducible refine gate_dst (N := 2) rfl ?_); refine box_event ?hg (N := 2) ?hd (cs := #[.int .i64 a0_0, .slice A0_1 l0_1.length c0_1]) (t := 25) ?hr ?_; (case hd => rfl); (case hg => rfl); (case hr => first | (go_simp; done) | (go_simp; rfl)); intro gb451 hg w11 hbox hb; have n0_ := Aside0.mk (below_step bh hb); have n1_ := Aside0.mk (hbox); have n2_ := Aside0.mk ((gs (W0 := w) hg bh)); have n3_ := Aside0.mk ((gs (W0 := w) hg bh)); clear HB; have HB := n0_; have BK451 := n1_; have GW451 := n2_; have GE451 := n3_; clear n0_ n1_ n2_ n3_ hb hbox hg; have hcz12_0 := cz0 BK451; have hcz12_1 := cz1 BK451; have hfz12_0 := blk_frozen BK451.out 0; have hfz12_1 := blk_frozen BK451.out 1) | ((with_reducible refine gate_callee (f := 49) rfl ?_); refine goesL_ (some 7) rfl rfl Try.func49 kr rfl #[.agg #[.int .i64 a0_0, .slice A0_1 l0_1.length c0_1], .slice A1 l1.length c1] rfl lm ?_; (with_reducible refine (impl_isTerm.calls k a0_0 _ _ l0_1 _ _ l1 false _ ?side1 ?side2 ?side3 ?side4 A3.out).mono ?_); (case side1 => repeat (first | exact (Kd.C_below HR0_1.out HB.out) | (with_reducible refine Kd.C_alloc ?_ _) | (with_reducible refine Kd.C_drewN ?_ _) | (with_reducible refine Kd.C_drew ?_))); (case side2 => exact HC0_1.out); (case side3 => repeat (first | exact (Kd.C_below HR1.out HB.out) | (with_reducible refine Kd.C_alloc ?_ _) | (with_reducible refine Kd.C_drewN ?_ _) | (with_reducible refine Kd.C_drew ?_))); (case side4 => exact HC1.out); rintro e w13 ⟨rfl, hb⟩; refine ⟨_, rfl, ?_⟩; have n0_ := Aside0.mk (blk_below (bz BK451) hb); have n1_ := Aside0.mk (below_step bh hb); clear BK451 HB; have BK451 := n0_; have HB := n1_; clear n0_ n1_; (try clear hb); (try clear hb2); (try clear hk); (try clear hi)))
  go_ret
  exact ⟨_, by first | rfl | (simp [errW_none, errW_some] <;> rfl) | (simp [*, errW_none, errW_some] <;> rfl), by first | exact Kd.R_nil _ _ _ _ _ | exact Kd.N_nil _ _ _ _ _ | exact Kd.V_nil _ _ _ _ _ | exact Kd.Q_nil _ _ _ _ _ | exact Kd.S_nil _ _ _ _ _, by exact bh⟩

/-! ### impl_dualTerm: function 57 -/
def impl_dualTerm.l0 : Nat → List (S61) → List (S61) → Int → Int → Int → List Int → Option ((List (S61)))
 | 0, _, _, _, _, _, _ => none
 | k + 1, x5, x9, x10, x11, x457000, x457001 => if x11 < x10 then (if 0 ≤ x11 then (if x11 < (x9.length : Int) then (if ((rd_T61 x9 x11).f0) = 0 then (if 0 ≤ ((rd_T61 x9 x11).f1) then (if ((rd_T61 x9 x11).f1) < (x457001.length : Int) then ((impl_headsOf.f (rd x457001 ((rd_T61 x9 x11).f1))).bind fun t463 => (if x5.length < 5864062014805 then (impl_dualTerm.l0 k (x5 ++ [(⟨(rd_T61 x9 x11).f0, (rd_T61 x9 x11).f1, wrap64 ((wrap64 (t463 + 1)) - ((rd_T61 x9 x11).f2))⟩ : S61)]) x9 x10 (wrap64 (x11 + 1)) x457000 x457001) else (none))) else (none)) else (none)) else (if ((rd_T61 x9 x11).f0) = 1 then (if x5.length < 5864062014805 then (impl_dualTerm.l0 k (x5 ++ [(⟨2, (rd_T61 x9 x11).f1, (rd_T61 x9 x11).f2⟩ : S61)]) x9 x10 (wrap64 (x11 + 1)) x457000 x457001) else (none)) else (if x5.length < 5864062014805 then (impl_dualTerm.l0 k (x5 ++ [(⟨1, (rd_T61 x9 x11).f1, (rd_T61 x9 x11).f2⟩ : S61)]) x9 x10 (wrap64 (x11 + 1)) x457000 x457001) else (none)))) else (none)) else (none)) else (some x5)
def impl_dualTerm.f (k : Nat) (a0_0 : Int) (l0_1 : List Int) (l1 : List (S61)) : Option ((List (S61))) := impl_dualTerm.l0 k (([] : List (S61))) l1 (l1.length : Int) 0 a0_0 l0_1
theorem impl_dualTerm.mono_l : ∀ k, (∀ y0 y1 y2 y3 y4 y5, LeO (impl_dualTerm.l0 k y0 y1 y2 y3 y4 y5) (impl_dualTerm.l0 (k + 1) y0 y1 y2 y3 y4 y5))
 | 0 => fun _ _ _ _ _ _ r h => by simp [impl_dualTerm.l0] at h
 | k + 1 => by
  have ih0 := impl_dualTerm.mono_l k
  ·intro y0 y1 y2 y3 y4 y5
   unfold impl_dualTerm.l0
   repeat' first
   | (with_reducible exact ih0 _ _ _ _ _ _)
   | (with_reducible exact LeO.refl _)
   | (with_reducible exact LeO.none _)
   | (with_reducible refine LeO.ite ?_ ?_)
   | (with_reducible refine LeO.bind ?_ (fun _ => ?_))
   | exact ih0 _ _ _ _ _ _
   | exact LeO.none _
   | refine LeO.ite ?_ ?_
   | refine LeO.bind ?_ (fun _ => ?_)
theorem impl_dualTerm.mono : ∀ a0 a1 a2 k, LeO (impl_dualTerm.f k a0 a1 a2) (impl_dualTerm.f (k + 1) a0 a1 a2) := by
 intro a0 a1 a2 k
 have ih0 := impl_dualTerm.mono_l k
 unfold impl_dualTerm.f
 repeat' first
   | (with_reducible exact ih0 _ _ _ _ _ _)
   | (with_reducible exact LeO.refl _)
   | (with_reducible exact LeO.none _)
   | (with_reducible refine LeO.ite ?_ ?_)
   | (with_reducible refine LeO.bind ?_ (fun _ => ?_))
   | exact ih0 _ _ _ _ _ _
   | exact LeO.none _
   | refine LeO.ite ?_ ?_
   | refine LeO.bind ?_ (fun _ => ?_)
def impl_dualTerm.T8 : Bool × List (List Nat × List Nat) := (true, [([], []), ([0], [0]), ([], []), ([2], [2]), ([1, 3], [1, 3]), ([4], [4]), ([5], [5]), ([6], [6]), ([], []), ([8], [8]), ([7, 9], [7, 9]), ([0, 1, 2, 3, 4, 5, 6, 7, 8, 9, 10], []), ([11, 10, 6, 0, 1, 2, 3, 4, 5, 6, 7, 8, 9, 10], [10, 11])])
def impl_dualTerm.B8 : List Nat := [0, 1, 0, 4, 15, 31, 63, 127, 0, 256, 1023, 2047, 4095]
theorem impl_dualTerm.tab8 : rtab .any (opsOf Try.f57 8) = impl_dualTerm.T8 := by kernel_rfl
theorem impl_dualTerm.bits8 : waitsOk impl_dualTerm.T8.2 impl_dualTerm.B8 = true := by kernel_rfl
set_option maxHeartbeats 8000000 in
set_option maxRecDepth 100000 in
theorem impl_dualTerm.calls (k : Nat) (a0_0 : Int) (A0_1 : Option Addr) (c0_1 : Nat) (l0_1 : List Int) (A1 : Option Addr) (c1 : Nat) (l1 : List (S61)) (r : List (S61)) (w : World) (hr0_1 : Kd.C (Kd.int .i64) w A0_1 l0_1.length l0_1) (hc0_1 : l0_1.length ≤ c0_1) (hr1 : Kd.C k61 w A1 l1.length l1) (hc1 : l1.length ≤ c1) (h : impl_dualTerm.f k a0_0 l0_1 l1 = some r) :
  Calls Try.prog 57 #[.agg #[.int .i64 a0_0, .slice A0_1 l0_1.length c0_1], .slice A1 l1.length c1] w fun e w' => ∃ v0_ : Value, e = .returned (v0_) ∧ Kd.R k61 61 w' w.heap.size (fun _ => True) v0_ r ∧ Below w.heap.size w w' := by
 have hu25 := Try.underlying25
 have hu61 := Try.underlying61
 have HR0_1 := Aside0.mk hr0_1
 have HC0_1 := Aside0.mk hc0_1
 clear hr0_1 hc0_1
 have HR1 := Aside0.mk hr1
 have HC1 := Aside0.mk hc1
 clear hr1 hc1
 have HB := Aside0.mk (Below.refl w.heap.size w)
 have H : (impl_dualTerm.l0 k (([] : List (S61))) l1 (l1.length : Int) 0 a0_0 l0_1) = some r := h
 clear h
 obtain ⟨y457, hy457⟩ : ∃ y_ : List (S61), y_ = (([] : List (S61))) := ⟨_, rfl⟩
 replace H : (impl_dualTerm.l0 k y457 l1 (l1.length : Int) 0 a0_0 l0_1) = some r := by first | (rw [hy457]; with_reducible exact H) | (have H2_ := (Option.bind_some _ _).symm.trans H; rw [hy457]; with_reducible exact H2_) | (have H2_ := (Option.bind_some _ _).symm.trans H; with_reducible exact H2_) | with_reducible exact H | (rw [hy457]; exact H) | exact H
 have Ny457 := Aside0.mk hy457
 clear hy457
 have H' := Aside0.mk H
 clear H
 go_enter Try.func57, Try.ntmps57
 go_wp2_with (first | ((with_reducible refine gate_dst (N := 2) rfl ?_); refine box_event ?hg (N := 2) ?hd (cs := #[.int .i64 a0_0, .slice A0_1 l0_1.length c0_1]) (t := 25) ?hr ?_; (case hd => rfl); (case hg => rfl); (case hr => first | (go_simp; done) | (go_simp; rfl)); intro gb456 hg w3 hbox hb; have n0_ := Aside0.mk (below_step bh hb); have n1_ := Aside0.mk (hbox); have n2_ := Aside0.mk ((gs (W0 := w) hg bh)); have n3_ := Aside0.mk ((gs (W0 := w) hg bh)); clear HB; have HB := n0_; have BK456 := n1_; have GW456 := n2_; have GE456 := n3_; clear n0_ n1_ n2_ n3_ hb hbox hg) | ((with_reducible refine gate_dst (N := 8) rfl ?_); refine Kd.R_lit k61 _ 61 ?hg (N := 8) ?hd (xs := ([] : List (S61))) (inner := []) (ok := fun _ => True) (okp := fun _ => True) ?hr ?hp (fun _ hk => hk) trivial (Below.refl _ _) (Nat.le_refl _) (by simp) ?_; (case hd => rfl); (case hg => rfl); (case hr => first | (go_simp; done) | (go_simp; rfl)); (case hp => exact (Reps.none _ _)); intro v458 w4 ho5 hb hg_ hnew_; clear hg_ hnew_; (first | rw [← Ny457.out] at ho5 | (simp only [Int.reduceToNat] at ho5; rw [← Ny457.out] at ho5)); have n0_ := Aside0.mk (Kd.R_lower ho5 (below_size bh)); have n1_ := Aside0.mk (blk_below (bz BK456) hb); have n2_ := Aside0.mk (below_step bh hb); clear BK456 HB; have HO459 := n0_; have BK456 := n1_; have HB := n2_; clear n0_ n1_ n2_ hb ho5))
 go_loopg [5, 11] k (fun kq v5 v11 w' => ∃ (x5_1 : List (S61)) (x11_1 : Int), v11 = .int .i64 x11_1 ∧ Aside0 (impl_dualTerm.l0 kq x5_1 l1 (l1.length : Int) x11_1 a0_0 l0_1 = some r) ∧ Aside0 (kq ≤ k) ∧ Aside0 (Kd.R k61 61 w' w.heap.size (fun _ => True) v5 x5_1) ∧ Aside0 (w'.heap[gb456]? = some (.cells #[.int .i64 a0_0, (.slice A0_1 l0_1.length c0_1)] 25 (0, 0))) ∧ Aside0 (Below w.heap.size w w'))
 case atStart => exact ⟨(y457), (0), (by first | rfl | (simp; done) | (simp [*]; done)), H', ⟨Nat.le_refl _⟩, ⟨rz HO459⟩, ⟨bz BK456⟩, ⟨by exact bh⟩⟩
 case round =>
  clear H'
  try clear c1
  try clear p2
  try clear c5
  obtain ⟨x5_1, x11_1, rfl, HA, HK1, HO_5, BK456, HB⟩ := hrel
  cases gk with
  | zero => exact absurd HA.out (by simp [impl_dualTerm.l0])
  | succ k1 =>
   have H := HA.out
   clear HA
   simp only [impl_dualTerm.l0] at H
   by_cases c6 : x11_1 < (l1.length : Int)
   ·rw [if_pos c6] at H
    have c6b0 : decide (x11_1 < (l1.length : Int)) = true := decide_eq_true c6
    clear c6
    by_cases c7 : 0 ≤ x11_1
    ·rw [if_pos c7] at H
     have c7b0 : decide (0 ≤ x11_1) = true := decide_eq_true c7
     clear c7
     by_cases c8 : x11_1 < (l1.length : Int)
     ·rw [if_pos c8] at H
      have c8b0 : decide (x11_1 < (l1.length : Int)) = true := decide_eq_true c8
      clear c8
      by_cases c9 : ((rd_T61 l1 x11_1).f0) = 0
      ·rw [if_pos c9] at H
       have c9b0 : (((rd_T61 l1 x11_1).f0) == 0) = true := beq_iff_eq.mpr c9
       have c9b1 : (((rd_T61 l1 x11_1).f0) != 0) = false := bne_eq_false_iff_eq.mpr c9
       clear c9
       by_cases c10 : 0 ≤ ((rd_T61 l1 x11_1).f1)
       ·rw [if_pos c10] at H
        have c10b0 : decide (0 ≤ ((rd_T61 l1 x11_1).f1)) = true := decide_eq_true c10
        clear c10
        by_cases c11 : ((rd_T61 l1 x11_1).f1) < (l0_1.length : Int)
        ·rw [if_pos c11] at H
         have c11b0 : decide (((rd_T61 l1 x11_1).f1) < (l0_1.length : Int)) = true := decide_eq_true c11
         clear c11
         replace H := Option.bind_eq_some_iff.mp H
         obtain ⟨t463, A120, H⟩ := H
         replace H : (if x5_1.length < 5864062014805 then (impl_dualTerm.l0 k1 (x5_1 ++ [(⟨(rd_T61 l1 x11_1).f0, (rd_T61 l1 x11_1).f1, wrap64 ((wrap64 (t463 + 1)) - ((rd_T61 l1 x11_1).f2))⟩ : S61)]) l1 (l1.length : Int) (wrap64 (x11_1 + 1)) a0_0 l0_1) else (none)) = some r := H
         have A12 := Aside0.mk A120
         clear A120
         by_cases c13 : x5_1.length < 5864062014805
         ·rw [if_pos c13] at H
          have LMc13 := Aside0.mk c13
          clear c13
          obtain ⟨y464, hy464⟩ : ∃ y_ : List (S61), y_ = (x5_1 ++ [(⟨(rd_T61 l1 x11_1).f0, (rd_T61 l1 x11_1).f1, wrap64 ((wrap64 (t463 + 1)) - ((rd_T61 l1 x11_1).f2))⟩ : S61)]) := ⟨_, rfl⟩
          replace H : (impl_dualTerm.l0 k1 y464 l1 (l1.length : Int) (wrap64 (x11_1 + 1)) a0_0 l0_1) = some r := by first | (rw [hy464]; with_reducible exact H) | (have H2_ := (Option.bind_some _ _).symm.trans H; rw [hy464]; with_reducible exact H2_) | (have H2_ := (Option.bind_some _ _).symm.trans H; with_reducible exact H2_) | with_reducible exact H | (rw [hy464]; exact H) | exact H
          have Ny464 := Aside0.mk hy464
          clear hy464
          have H' := Aside0.mk H
          clear H
          have p460 : 0 ≤ (x11_1 : Int) := oda
          have q460 : x11_1 < (l1.length : Int) := oda
          obtain ⟨ad460, e460, hx460_0, hx460_1, hx460_2⟩ := at_T61 HR1.out x11_1 p460 q460
          cases e460
          replace hx460_0 := (HB.out.cell (World.block_lt_of_cell? w _ hx460_0)).trans hx460_0
          replace hx460_1 := (HB.out.cell (World.block_lt_of_cell? w _ hx460_1)).trans hx460_1
          replace hx460_2 := (HB.out.cell (World.block_lt_of_cell? w _ hx460_2)).trans hx460_2
          replace p460 := eq_true p460
          replace q460 := eq_true q460
          try go_wp2_with (first | ((with_reducible refine gate_dst (N := 7) rfl ?_); refine box_event ?hg (N := 7) ?hd (cs := #[.int .i64 0, .int .i64 0, .int .i64 0]) (t := 61) ?hr ?_; (case hd => rfl); (case hg => rfl); (case hr => first | (go_simp; done) | (go_simp; rfl)); intro gb461 hg w14 hbox hb; have n0_ := Aside0.mk (Kd.R_below (Kd.R_elderB (rz HO_5) gb461 (Nat.le_of_eq hg.symm)) hb); have n1_ := Aside0.mk (blk_below (bz BK456) hb); have n2_ := Aside0.mk (below_step bh hb); have n3_ := Aside0.mk (hbox); have n4_ := Aside0.mk ((gs (W0 := w) hg bh)); have n5_ := Aside0.mk ((gs (W0 := w) hg bh)); have n6_ := Aside0.mk ((gn hg (bz BK456))); have n7_ := Aside0.mk ((gm hg (bz BK456))); clear HO_5 BK456 HB; have HO_5 := n0_; have BK456 := n1_; have HB := n2_; have BK461 := n3_; have GW461 := n4_; have GE461 := n5_; have NB456_461 := n6_; have NB461_456 := n7_; clear n0_ n1_ n2_ n3_ n4_ n5_ n6_ n7_ hb hbox hg; have hnb15 := NB461_456.out; have hnc15 := NB456_461.out; have hcz16_0 := cz0 BK461; have hcz16_1 := cz1 BK461; have hcz16_2 := cz2 BK461; have hfz16_0 := blk_frozen BK461.out 0; have hfz16_1 := blk_frozen BK461.out 1; have hfz16_2 := blk_frozen BK461.out 2))
          generalize hW_ : (((w14.setCell ⟨gb461, 0, none⟩ (.int .i64 ((rd_T61 l1 x11_1).f0))).setCell ⟨gb461, 1, none⟩ (.int .i64 ((rd_T61 l1 x11_1).f1))).setCell ⟨gb461, 2, none⟩ (.int .i64 ((rd_T61 l1 x11_1).f2))) = w17
          have n0_ : Aside0 (Kd.R k61 61 w17 w.heap.size (fun k_ => k_ ≠ gb461) u5 x5_1) := ⟨by subst hW_; (with_reducible repeat (first | apply Kd.R_alloc | apply Kd.R_drewN | apply Kd.R_drew)); exact Kd.R_mono (Kd.R_far (p := ⟨gb461, 2, none⟩) (Kd.R_far (p := ⟨gb461, 1, none⟩) (Kd.R_far (p := ⟨gb461, 0, none⟩) (Kd.R_mono HO_5.out (fun k_ hk => (⟨hk, hk.2⟩ : _ ∧ k_ ≠ gb461))) (fun _ hk => hk.2) (.int .i64 ((rd_T61 l1 x11_1).f0))) (fun _ hk => hk.2) (.int .i64 ((rd_T61 l1 x11_1).f1))) (fun _ hk => hk.2) (.int .i64 ((rd_T61 l1 x11_1).f2))) (fun _ hk => hk.1.2)⟩
          have n1_ : Aside0 (w17.heap[gb456]? = some (.cells #[.int .i64 a0_0, .slice A0_1 l0_1.length c0_1] 25 (0, 0))) := ⟨by subst hW_; (with_reducible repeat (first | refine blk_drewN ?_ _ | refine blk_drew ?_ | refine blk_alloc ?_ _)); refine blk_far ?_ NB456_461.out _; (with_reducible repeat (first | refine blk_drewN ?_ _ | refine blk_drew ?_ | refine blk_alloc ?_ _)); refine blk_far ?_ NB456_461.out _; (with_reducible repeat (first | refine blk_drewN ?_ _ | refine blk_drew ?_ | refine blk_alloc ?_ _)); refine blk_far ?_ NB456_461.out _; (with_reducible repeat (first | refine blk_drewN ?_ _ | refine blk_drew ?_ | refine blk_alloc ?_ _)); exact BK456.out⟩
          have n2_ : Aside0 (w17.heap[gb461]? = some (.cells #[.int .i64 ((rd_T61 l1 x11_1).f0), .int .i64 ((rd_T61 l1 x11_1).f1), .int .i64 ((rd_T61 l1 x11_1).f2)] 61 (0, 0))) := ⟨by subst hW_; (with_reducible repeat (first | refine blk_drewN ?_ _ | refine blk_drew ?_ | refine blk_alloc ?_ _)); refine blk_put (cs := #[.int .i64 ((rd_T61 l1 x11_1).f0), .int .i64 ((rd_T61 l1 x11_1).f1), .int .i64 0]) ?_ 2 _ rfl; (with_reducible repeat (first | refine blk_drewN ?_ _ | refine blk_drew ?_ | refine blk_alloc ?_ _)); refine blk_put (cs := #[.int .i64 ((rd_T61 l1 x11_1).f0), .int .i64 0, .int .i64 0]) ?_ 1 _ rfl; (with_reducible repeat (first | refine blk_drewN ?_ _ | refine blk_drew ?_ | refine blk_alloc ?_ _)); refine blk_put (cs := #[.int .i64 0, .int .i64 0, .int .i64 0]) ?_ 0 _ rfl; (with_reducible repeat (first | refine blk_drewN ?_ _ | refine blk_drew ?_ | refine blk_alloc ?_ _)); exact BK461.out⟩
          have n3_ : Aside0 (Below w.heap.size w w17) := ⟨by subst hW_; exact bh⟩
          clear hW_
          (try clear HO_5)
          (try clear BK456)
          (try clear BK461)
          (try clear HB)
          have HO_5 := n0_
          have BK456 := n1_
          have BK461 := n2_
          have HB := n3_
          clear n0_ n1_ n2_ n3_
          have n0_ := Aside0.mk (Kd.R_drew HO_5.out)
          have n1_ := Aside0.mk (blk_drew BK456.out)
          have n2_ := Aside0.mk (blk_drew BK461.out)
          have n3_ := Aside0.mk (below_drew1 HB.out)
          clear HO_5 BK456 BK461 HB
          have HO_5 := n0_
          have BK456 := n1_
          have BK461 := n2_
          have HB := n3_
          clear n0_ n1_ n2_ n3_
          have p462 : 0 ≤ (((rd_T61 l1 x11_1).f1) : Int) := oda
          have q462 : ((rd_T61 l1 x11_1).f1) < (l0_1.length : Int) := oda
          obtain ⟨ad462, e462, hx462_0⟩ := Kd.at_int HR0_1.out ((rd_T61 l1 x11_1).f1) p462 q462
          have hw462_0 := hx462_0
          cases e462
          replace hx462_0 := (HB.out.cell (World.block_lt_of_cell? w _ hx462_0)).trans hx462_0
          replace p462 := eq_true p462
          replace q462 := eq_true q462
          refine start_ (n := 13) (S := fun w' => w'.cell? ⟨gb456, 0, none⟩ = some (.int .i64 a0_0) ∧ w'.cell? ⟨gb456, 1, none⟩ = some (.slice (some ad462) l0_1.length c0_1) ∧ w'.cell? ⟨gb461, 0, none⟩ = some (.int .i64 ((rd_T61 l1 x11_1).f0)) ∧ w'.cell? ⟨gb461, 1, none⟩ = some (.int .i64 ((rd_T61 l1 x11_1).f1)) ∧ w'.cell? ⟨gb461, 2, none⟩ = some (.int .i64 ((rd_T61 l1 x11_1).f2)) ∧ w'.cell? (ad462.add (((rd_T61 l1 x11_1).f1)).toNat) = some (.int .i64 (rd l0_1 ((rd_T61 l1 x11_1).f1)))) (ds := [12]) #[F,F,F,F,F,F,F,F,F,F,F,F,F] kr rfl rfl ⟨cz0 BK456, cz1 BK456, cz0 BK461, cz1 BK461, cz2 BK461, ((HB.out.cell (World.block_lt_of_cell? w _ hw462_0)).trans hw462_0)⟩ (fun hHeld => ?_); refine with_tabW impl_dualTerm.tab8 impl_dualTerm.bits8 (fun HT_ HW_ => ?_)
          generalize w17.drew = w18 at HO_5 BK456 BK461 HB hx462_0 hHeld ⊢
          refine pu 0 (some 20) #[T,F,F,F,F,F,F,F,F,F,F,F,F] (any_of HT_.out kr) ?_
          refine pu 2 (some 22) #[T,F,T,F,F,F,F,F,F,F,F,F,F] (any_of HT_.out kr) ?_
          refine pu 8 (some 28) #[T,F,T,F,F,F,F,F,T,F,F,F,F] (any_of HT_.out kr) ?_
          refine tk6 1 (some 21) #[T,T,T,F,F,F,F,F,T,F,F,F,F] (take_ofW HT_.out HW_.out kr) ?_
          refine tk6 3 (some 23) #[T,T,T,T,F,F,F,F,T,F,F,F,F] (take_ofW HT_.out HW_.out kr) ?_
          refine pu 4 (some 24) #[T,T,T,T,T,F,F,F,T,F,F,F,F] (any_of HT_.out kr) ?_
          refine tk6 5 (some 25) #[T,T,T,T,T,T,F,F,T,F,F,F,F] (take_ofW HT_.out HW_.out kr) ?_
          refine tk6 9 (some 29) #[T,T,T,T,T,T,F,F,T,T,F,F,F] (take_ofW HT_.out HW_.out kr) ?_
          refine one_ (i := 6) (N := some 26) #[T,T,T,T,T,T,T,F,T,T,F,F,F] rfl rfl (one_of HT_.out kr) (by decide) (fun K hK => ?_)
          refine goes_ Try.func71 kr rfl #[.int .i64 (rd l0_1 ((rd_T61 l1 x11_1).f1))] (by rfl) rfl rfl lm ?_
          with_reducible refine (impl_headsOf.calls (rd l0_1 ((rd_T61 l1 x11_1).f1)) t463 _ A12.out).mono ?_
          rintro e w' ⟨rfl, ⟨nd, rfl⟩⟩
          refine ⟨_, rfl, ?_⟩
          refine hK.out _ _ ⟨cz0 BK456, cz1 BK456, cz0 BK461, cz1 BK461, cz2 BK461, ((HB.out.cell (World.block_lt_of_cell? w _ hw462_0)).trans hw462_0)⟩ (fun hHeld => ?_)
          clear hK K
          refine norm_ (a' := ?_) ?_ ?_
          rotate_left
          ·show Act.put _ (some 26) _ = _
           simp only [Act.put, List.setIfInBounds_toArray, List.set_cons_zero, List.set_cons_succ, i64_w, i32_w]
           rfl
          refine pu 7 (some 27) #[T,T,T,T,T,T,T,T,T,T,F,F,F] (any_of HT_.out kr) ?_
          refine pu 10 (some 30) #[T,T,T,T,T,T,T,T,T,T,T,F,F] (any_of HT_.out kr) ?_
          refine pu 11 (some 31) #[T,T,T,T,T,T,T,T,T,T,T,T,F] (any_of HT_.out kr) ?_
          refine last_ (i := 12) (N := none) #[T,T,T,T,T,T,T,T,T,T,T,T,T] rfl rfl (one_of HT_.out kr) (by decide) (fun K hK => ?_)
          have hs19 : w18.cell? ⟨gb461, 2, none⟩ = some (.int .i64 ((rd_T61 l1 x11_1).f2)) := (blk_cell BK461.out 2).trans rfl
          have hfs19 := blk_frozen BK461.out 2
          have hns19_0 := NB456_461.out
          have hms19_0 := NB461_456.out
          refine skip_ (w1 := ?_) (by rfl) rfl ?_ ?_
          rotate_left
          ·go_simp
           rfl
          refine hK.out _ _ ?_
          clear hK K
          refine done_ (done_of HT_.out kr) ?_
          have hcz20_0 : w18.cell? ⟨gb461, 0, none⟩ = some (.int .i64 ((rd_T61 l1 x11_1).f0)) := (blk_cell BK461.out 0).trans rfl
          have hcz20_1 : w18.cell? ⟨gb461, 1, none⟩ = some (.int .i64 ((rd_T61 l1 x11_1).f1)) := (blk_cell BK461.out 1).trans rfl
          have hcz20_2 : w18.cell? ⟨gb461, 2, none⟩ = some (.int .i64 ((rd_T61 l1 x11_1).f2)) := (blk_cell BK461.out 2).trans rfl
          have hfz20_0 := blk_frozen BK461.out 0
          have hfz20_1 := blk_frozen BK461.out 1
          have hfz20_2 := blk_frozen BK461.out 2
          try go_wp2_with (first | ((with_reducible refine gate_builtin (b := .append) (xs := #[.tmp 35, .tmp 37]) rfl ?_); at_builtin; refine Kd.R_append k61 (w0 := w) w.heap.size rfl (.tmp 35) (.tmp 37) 26 61 (.agg #[(.int .i64 0), (.int .i64 0), (.int .i64 0)]) 24 rfl Try.underlying26 info61 rfl (by decide) (by omega) u5 x5_1 (⟨(rd_T61 l1 x11_1).f0, (rd_T61 l1 x11_1).f1, wrap64 ((wrap64 (t463 + 1)) - ((rd_T61 l1 x11_1).f2))⟩ : S61) [.int .i64 ((rd_T61 l1 x11_1).f0), .int .i64 ((rd_T61 l1 x11_1).f1), .int .i64 (wrap64 ((wrap64 (t463 + 1)) - ((rd_T61 l1 x11_1).f2)))] (fun k_ => k_ ≠ gb461) (fun _ => False) rfl (by first | (go_simp; done) | (go_simp; rfl)) ?aP (fun _ hk => hk.elim) ?aF ?aO ?aB ?aS ?aL ?_; (case aP => exact k61_mkM _ _ _ (⟨(rd_T61 l1 x11_1).f0, (rd_T61 l1 x11_1).f1, wrap64 ((wrap64 (t463 + 1)) - ((rd_T61 l1 x11_1).f2))⟩ : S61)); (case aB => exact bh); (case aF => exact (fun k_ hk => Kd.freshB (g := gb461) (o := .cells #[.int .i64 ((rd_T61 l1 x11_1).f0), .int .i64 ((rd_T61 l1 x11_1).f1), .int .i64 (wrap64 ((wrap64 (t463 + 1)) - ((rd_T61 l1 x11_1).f2)))] 61 (0, 0)) (bp BK461) k_ hk)); (case aO => exact (vR HO_5 (fun _ hk => hk))); (case aS => exact (below_size bh)); (case aL => have := LMc13.out; omega); intro v465 w21 ho hb hg hat; rw [← Ny464.out] at ho; have n0_ := Aside0.mk (blk_grown (g := gb456) (o := .cells #[.int .i64 a0_0, .slice (some ad462) l0_1.length c0_1] 25 (0, 0)) (bf NB456_461 BK456) hg (Kd.R_ne HO_5.out BK456.out (by decide))); have n1_ := Aside0.mk (blk_grown (g := gb461) (o := .cells #[.int .i64 ((rd_T61 l1 x11_1).f0), .int .i64 ((rd_T61 l1 x11_1).f1), .int .i64 (wrap64 ((wrap64 (t463 + 1)) - ((rd_T61 l1 x11_1).f2)))] 61 (0, 0)) (bp BK461) hg (Kd.R_away HO_5.out (fun _ hk => hk))); have n2_ := Aside0.mk (hb); have n3_ := Aside0.mk (ho); clear BK456 BK461 HB HO_5; have BK456 := n0_; have BK461 := n1_; have HB := n2_; have HO466 := n3_; clear n0_ n1_ n2_ n3_ ho hb hg hat))
          go_roundg k1
          case measure => have := HK1.out; omega
          case rel => exact ⟨(y464), (wrap64 (x11_1 + 1)), (by first | rfl | (simp; done) | (simp [*]; done)), H', ⟨by have := HK1.out; omega⟩, ⟨mR HO466⟩, ⟨bz BK456⟩, ⟨by exact bh⟩⟩
         ·rw [if_neg c13] at H
          exact absurd H (by simp)
        ·rw [if_neg c11] at H
         exact absurd H (by simp)
       ·rw [if_neg c10] at H
        exact absurd H (by simp)
      ·rw [if_neg c9] at H
       have c9b0 : (((rd_T61 l1 x11_1).f0) == 0) = false := beq_eq_false_iff_ne.mpr c9
       have c9b1 : (((rd_T61 l1 x11_1).f0) != 0) = true := bne_iff_ne.mpr c9
       by_cases c22 : ((rd_T61 l1 x11_1).f0) = 1
       ·rw [if_pos c22] at H
        have c22b0 : (((rd_T61 l1 x11_1).f0) == 1) = true := beq_iff_eq.mpr c22
        have c22b1 : (((rd_T61 l1 x11_1).f0) != 1) = false := bne_eq_false_iff_eq.mpr c22
        clear c22
        by_cases c23 : x5_1.length < 5864062014805
        ·rw [if_pos c23] at H
         have LMc23 := Aside0.mk c23
         clear c23
         obtain ⟨y467, hy467⟩ : ∃ y_ : List (S61), y_ = (x5_1 ++ [(⟨2, (rd_T61 l1 x11_1).f1, (rd_T61 l1 x11_1).f2⟩ : S61)]) := ⟨_, rfl⟩
         replace H : (impl_dualTerm.l0 k1 y467 l1 (l1.length : Int) (wrap64 (x11_1 + 1)) a0_0 l0_1) = some r := by first | (rw [hy467]; with_reducible exact H) | (have H2_ := (Option.bind_some _ _).symm.trans H; rw [hy467]; with_reducible exact H2_) | (have H2_ := (Option.bind_some _ _).symm.trans H; with_reducible exact H2_) | with_reducible exact H | (rw [hy467]; exact H) | exact H
         have Ny467 := Aside0.mk hy467
         clear hy467
         have H' := Aside0.mk H
         clear H
         have p460 : 0 ≤ (x11_1 : Int) := oda
         have q460 : x11_1 < (l1.length : Int) := oda
         obtain ⟨ad460, e460, hx460_0, hx460_1, hx460_2⟩ := at_T61 HR1.out x11_1 p460 q460
         cases e460
         replace hx460_0 := (HB.out.cell (World.block_lt_of_cell? w _ hx460_0)).trans hx460_0
         replace hx460_1 := (HB.out.cell (World.block_lt_of_cell? w _ hx460_1)).trans hx460_1
         replace hx460_2 := (HB.out.cell (World.block_lt_of_cell? w _ hx460_2)).trans hx460_2
         replace p460 := eq_true p460
         replace q460 := eq_true q460
         go_wp2_with (first | ((with_reducible refine gate_dst (N := 7) rfl ?_); refine box_event ?hg (N := 7) ?hd (cs := #[.int .i64 0, .int .i64 0, .int .i64 0]) (t := 61) ?hr ?_; (case hd => rfl); (case hg => rfl); (case hr => first | (go_simp; done) | (go_simp; rfl)); intro gb461 hg w24 hbox hb; have n0_ := Aside0.mk (Kd.R_below (Kd.R_elderB (rz HO_5) gb461 (Nat.le_of_eq hg.symm)) hb); have n1_ := Aside0.mk (blk_below (bz BK456) hb); have n2_ := Aside0.mk (below_step bh hb); have n3_ := Aside0.mk (hbox); have n4_ := Aside0.mk ((gs (W0 := w) hg bh)); have n5_ := Aside0.mk ((gs (W0 := w) hg bh)); have n6_ := Aside0.mk ((gn hg (bz BK456))); have n7_ := Aside0.mk ((gm hg (bz BK456))); clear HO_5 BK456 HB; have HO_5 := n0_; have BK456 := n1_; have HB := n2_; have BK461 := n3_; have GW461 := n4_; have GE461 := n5_; have NB456_461 := n6_; have NB461_456 := n7_; clear n0_ n1_ n2_ n3_ n4_ n5_ n6_ n7_ hb hbox hg; have hnb25 := NB461_456.out; have hnc25 := NB456_461.out; have hcz26_0 := cz0 BK461; have hcz26_1 := cz1 BK461; have hcz26_2 := cz2 BK461; have hfz26_0 := blk_frozen BK461.out 0; have hfz26_1 := blk_frozen BK461.out 1; have hfz26_2 := blk_frozen BK461.out 2) | ((with_reducible refine gate_builtin (b := .append) (xs := #[.tmp 35, .tmp 37]) rfl ?_); at_builtin; refine Kd.R_append k61 (w0 := w) w.heap.size rfl (.tmp 35) (.tmp 37) 26 61 (.agg #[(.int .i64 0), (.int .i64 0), (.int .i64 0)]) 24 rfl Try.underlying26 info61 rfl (by decide) (by omega) u5 x5_1 (⟨2, (rd_T61 l1 x11_1).f1, (rd_T61 l1 x11_1).f2⟩ : S61) [.int .i64 2, .int .i64 ((rd_T61 l1 x11_1).f1), .int .i64 ((rd_T61 l1 x11_1).f2)] (fun k_ => k_ ≠ gb461) (fun _ => False) rfl (by first | (go_simp; done) | (go_simp; rfl)) ?aP (fun _ hk => hk.elim) ?aF ?aO ?aB ?aS ?aL ?_; (case aP => exact k61_mkM _ _ _ (⟨2, (rd_T61 l1 x11_1).f1, (rd_T61 l1 x11_1).f2⟩ : S61)); (case aB => exact bh); (case aF => exact (fun k_ hk => Kd.freshB (g := gb461) (o := .cells #[.int .i64 2, .int .i64 ((rd_T61 l1 x11_1).f1), .int .i64 ((rd_T61 l1 x11_1).f2)] 61 (0, 0)) (bp BK461) k_ hk)); (case aO => exact (vR HO_5 (fun _ hk => hk.2))); (case aS => exact (below_size bh)); (case aL => have := LMc23.out; omega); intro v468 w27 ho hb hg hat; rw [← Ny467.out] at ho; have n0_ := Aside0.mk (blk_grown (g := gb456) (o := .cells #[.int .i64 a0_0, .slice A0_1 l0_1.length c0_1] 25 (0, 0)) (bf NB456_461 BK456) hg (Kd.R_ne HO_5.out BK456.out (by decide))); have n1_ := Aside0.mk (blk_grown (g := gb461) (o := .cells #[.int .i64 2, .int .i64 ((rd_T61 l1 x11_1).f1), .int .i64 ((rd_T61 l1 x11_1).f2)] 61 (0, 0)) (bp BK461) hg (Kd.R_away HO_5.out (fun _ hk => hk.2))); have n2_ := Aside0.mk (hb); have n3_ := Aside0.mk (ho); clear BK456 BK461 HB HO_5; have BK456 := n0_; have BK461 := n1_; have HB := n2_; have HO469 := n3_; clear n0_ n1_ n2_ n3_ ho hb hg hat))
         go_roundg k1
         case measure => have := HK1.out; omega
         case rel => exact ⟨(y467), (wrap64 (x11_1 + 1)), (by first | rfl | (simp; done) | (simp [*]; done)), H', ⟨by have := HK1.out; omega⟩, ⟨mR HO469⟩, ⟨bz BK456⟩, ⟨by exact bh⟩⟩
        ·rw [if_neg c23] at H
         exact absurd H (by simp)
       ·rw [if_neg c22] at H
        have c22b0 : (((rd_T61 l1 x11_1).f0) == 1) = false := beq_eq_false_iff_ne.mpr c22
        have c22b1 : (((rd_T61 l1 x11_1).f0) != 1) = true := bne_iff_ne.mpr c22
        by_cases c28 : x5_1.length < 5864062014805
        ·rw [if_pos c28] at H
         have LMc28 := Aside0.mk c28
         clear c28
         obtain ⟨y470, hy470⟩ : ∃ y_ : List (S61), y_ = (x5_1 ++ [(⟨1, (rd_T61 l1 x11_1).f1, (rd_T61 l1 x11_1).f2⟩ : S61)]) := ⟨_, rfl⟩
         replace H : (impl_dualTerm.l0 k1 y470 l1 (l1.length : Int) (wrap64 (x11_1 + 1)) a0_0 l0_1) = some r := by first | (rw [hy470]; with_reducible exact H) | (have H2_ := (Option.bind_some _ _).symm.trans H; rw [hy470]; with_reducible exact H2_) | (have H2_ := (Option.bind_some _ _).symm.trans H; with_reducible exact H2_) | with_reducible exact H | (rw [hy470]; exact H) | exact H
         have Ny470 := Aside0.mk hy470
         clear hy470
         have H' := Aside0.mk H
         clear H
         have p460 : 0 ≤ (x11_1 : Int) := oda
         have q460 : x11_1 < (l1.length : Int) := oda
         obtain ⟨ad460, e460, hx460_0, hx460_1, hx460_2⟩ := at_T61 HR1.out x11_1 p460 q460
         cases e460
         replace hx460_0 := (HB.out.cell (World.block_lt_of_cell? w _ hx460_0)).trans hx460_0
         replace hx460_1 := (HB.out.cell (World.block_lt_of_cell? w _ hx460_1)).trans hx460_1
         replace hx460_2 := (HB.out.cell (World.block_lt_of_cell? w _ hx460_2)).trans hx460_2
         replace p460 := eq_true p460
         replace q460 := eq_true q460
         go_wp2_with (first | ((with_reducible refine gate_dst (N := 7) rfl ?_); refine box_event ?hg (N := 7) ?hd (cs := #[.int .i64 0, .int .i64 0, .int .i64 0]) (t := 61) ?hr ?_; (case hd => rfl); (case hg => rfl); (case hr => first | (go_simp; done) | (go_simp; rfl)); intro gb461 hg w29 hbox hb; have n0_ := Aside0.mk (Kd.R_below (Kd.R_elderB (rz HO_5) gb461 (Nat.le_of_eq hg.symm)) hb); have n1_ := Aside0.mk (blk_below (bz BK456) hb); have n2_ := Aside0.mk (below_step bh hb); have n3_ := Aside0.mk (hbox); have n4_ := Aside0.mk ((gs (W0 := w) hg bh)); have n5_ := Aside0.mk ((gs (W0 := w) hg bh)); have n6_ := Aside0.mk ((gn hg (bz BK456))); have n7_ := Aside0.mk ((gm hg (bz BK456))); clear HO_5 BK456 HB; have HO_5 := n0_; have BK456 := n1_; have HB := n2_; have BK461 := n3_; have GW461 := n4_; have GE461 := n5_; have NB456_461 := n6_; have NB461_456 := n7_; clear n0_ n1_ n2_ n3_ n4_ n5_ n6_ n7_ hb hbox hg; have hnb30 := NB461_456.out; have hnc30 := NB456_461.out; have hcz31_0 := cz0 BK461; have hcz31_1 := cz1 BK461; have hcz31_2 := cz2 BK461; have hfz31_0 := blk_frozen BK461.out 0; have hfz31_1 := blk_frozen BK461.out 1; have hfz31_2 := blk_frozen BK461.out 2) | ((with_reducible refine gate_builtin (b := .append) (xs := #[.tmp 35, .tmp 37]) rfl ?_); at_builtin; refine Kd.R_append k61 (w0 := w) w.heap.size rfl (.tmp 35) (.tmp 37) 26 61 (.agg #[(.int .i64 0), (.int .i64 0), (.int .i64 0)]) 24 rfl Try.underlying26 info61 rfl (by decide) (by omega) u5 x5_1 (⟨1, (rd_T61 l1 x11_1).f1, (rd_T61 l1 x11_1).f2⟩ : S61) [.int .i64 1, .int .i64 ((rd_T61 l1 x11_1).f1), .int .i64 ((rd_T61 l1 x11_1).f2)] (fun k_ => k_ ≠ gb461) (fun _ => False) rfl (by first | (go_simp; done) | (go_simp; rfl)) ?aP (fun _ hk => hk.elim) ?aF ?aO ?aB ?aS ?aL ?_; (case aP => exact k61_mkM _ _ _ (⟨1, (rd_T61 l1 x11_1).f1, (rd_T61 l1 x11_1).f2⟩ : S61)); (case aB => exact bh); (case aF => exact (fun k_ hk => Kd.freshB (g := gb461) (o := .cells #[.int .i64 1, .int .i64 ((rd_T61 l1 x11_1).f1), .int .i64 ((rd_T61 l1 x11_1).f2)] 61 (0, 0)) (bp BK461) k_ hk)); (case aO => exact (vR HO_5 (fun _ hk => hk.2))); (case aS => exact (below_size bh)); (case aL => have := LMc28.out; omega); intro v471 w32 ho hb hg hat; rw [← Ny470.out] at ho; have n0_ := Aside0.mk (blk_grown (g := gb456) (o := .cells #[.int .i64 a0_0, .slice A0_1 l0_1.length c0_1] 25 (0, 0)) (bf NB456_461 BK456) hg (Kd.R_ne HO_5.out BK456.out (by decide))); have n1_ := Aside0.mk (blk_grown (g := gb461) (o := .cells #[.int .i64 1, .int .i64 ((rd_T61 l1 x11_1).f1), .int .i64 ((rd_T61 l1 x11_1).f2)] 61 (0, 0)) (bp BK461) hg (Kd.R_away HO_5.out (fun _ hk => hk.2))); have n2_ := Aside0.mk (hb); have n3_ := Aside0.mk (ho); clear BK456 BK461 HB HO_5; have BK456 := n0_; have BK461 := n1_; have HB := n2_; have HO472 := n3_; clear n0_ n1_ n2_ n3_ ho hb hg hat))
         go_roundg k1
         case measure => have := HK1.out; omega
         case rel => exact ⟨(y470), (wrap64 (x11_1 + 1)), (by first | rfl | (simp; done) | (simp [*]; done)), H', ⟨by have := HK1.out; omega⟩, ⟨mR HO472⟩, ⟨bz BK456⟩, ⟨by exact bh⟩⟩
        ·rw [if_neg c28] at H
         exact absurd H (by simp)
     ·rw [if_neg c8] at H
      exact absurd H (by simp)
    ·rw [if_neg c7] at H
     exact absurd H (by simp)
   ·rw [if_neg c6] at H
    have c6b0 : decide (x11_1 < (l1.length : Int)) = false := decide_eq_false c6
    clear c6
    obtain rfl := Option.some.inj H
    go_wp2
    go_ret
    exact ⟨_, by first | rfl | (simp [errW_none, errW_some] <;> rfl) | (simp [*, errW_none, errW_some] <;> rfl), by (with_reducible repeat (first | apply Kd.R_alloc | apply Kd.R_drewN | apply Kd.R_drew)); exact HO_5.out, by exact bh⟩

end Go.Proofs.Ytaddlahbahedeaa.QFnSameConsents
