-- Printed for this claim by a turned copy of the print (wip/myprint). Lean checks it. Squeezed. Worded. Tightened.
import Derived.Test.YtaddlahbahedeaaQFnClashOkx0
import Derived.Test.YtaddlahbahedeaaQFnClashOkx8
namespace Go.Proofs.Ytaddlahbahedeaa.QFnClashOk
open Go.RowKit Go.Proofs.YtaddlahbahedeaaW.PrintWords Go.Proofs.YtaddlahbahedeaaW.PrintLast Go.Proofs.YtaddlahbahedeaaW.PrintMore
attribute [local go_sem] max2_int min2_int max_two min_two max_three min_three max_four min_four Opens.cell_twice   -- for this text's walks alone
set_option linter.unusedVariables false
set_option linter.unusedSimpArgs false

/-! ### impl_leastCrowds: function 78 -/
def impl_leastCrowds.l0 : Nat → List Int → List Int → List Int → Int → Int → Option (List Int)
 | 0, _, _, _, _, _ => none
 | k + 1, x0, x3, x7, x8, x9 => if x9 < x8 then (if 0 ≤ x9 then (if x9 < (x7.length : Int) then ((slices_ContainsFunc_w82.f k x0 [rd x7 x9]).bind fun t178 => (if t178 = true then (impl_leastCrowds.l0 k x0 x3 x7 x8 (wrap64 (x9 + 1))) else (if x3.length < 17592186044416 then (impl_leastCrowds.l0 k x0 (x3 ++ [rd x7 x9]) x7 x8 (wrap64 (x9 + 1))) else (none)))) else (none)) else (none)) else ((slices_Sort_int_int.f k x3).bind fun _ => ((slices_Compact_int_int.f k x3).bind fun t182 => (some t182)))
def impl_leastCrowds.f (k : Nat) (l0 : List Int) : Option (List Int) := impl_leastCrowds.l0 k l0 (([] : List Int)) l0 (l0.length : Int) 0
theorem impl_leastCrowds.mono_l : ∀ k, (∀ y0 y1 y2 y3 y4, LeO (impl_leastCrowds.l0 k y0 y1 y2 y3 y4) (impl_leastCrowds.l0 (k + 1) y0 y1 y2 y3 y4))
 | 0 => fun _ _ _ _ _ r h => by simp [impl_leastCrowds.l0] at h
 | k + 1 => by
  have ih0 := impl_leastCrowds.mono_l k
  ·intro y0 y1 y2 y3 y4
   unfold impl_leastCrowds.l0
   repeat' first
   | (with_reducible exact ih0 _ _ _ _ _)
   | (with_reducible exact slices_Compact_int_int.mono _ _)
   | (with_reducible exact slices_ContainsFunc_w82.mono _ _ _)
   | (with_reducible exact slices_Sort_int_int.mono _ _)
   | (with_reducible exact LeO.refl _)
   | (with_reducible exact LeO.none _)
   | (with_reducible refine LeO.ite ?_ ?_)
   | (with_reducible refine LeO.bind ?_ (fun _ => ?_))
   | exact ih0 _ _ _ _ _
   | exact slices_Compact_int_int.mono _ _
   | exact slices_ContainsFunc_w82.mono _ _ _
   | exact slices_Sort_int_int.mono _ _
   | exact LeO.none _
   | refine LeO.ite ?_ ?_
   | refine LeO.bind ?_ (fun _ => ?_)
theorem impl_leastCrowds.mono : ∀ a0 k, LeO (impl_leastCrowds.f k a0) (impl_leastCrowds.f (k + 1) a0) := by
 intro a0 k
 have ih0 := impl_leastCrowds.mono_l k
 unfold impl_leastCrowds.f
 repeat' first
   | (with_reducible exact ih0 _ _ _ _ _)
   | (with_reducible exact slices_Compact_int_int.mono _ _)
   | (with_reducible exact slices_ContainsFunc_w82.mono _ _ _)
   | (with_reducible exact slices_Sort_int_int.mono _ _)
   | (with_reducible exact LeO.refl _)
   | (with_reducible exact LeO.none _)
   | (with_reducible refine LeO.ite ?_ ?_)
   | (with_reducible refine LeO.bind ?_ (fun _ => ?_))
   | exact ih0 _ _ _ _ _
   | exact slices_Compact_int_int.mono _ _
   | exact slices_ContainsFunc_w82.mono _ _ _
   | exact slices_Sort_int_int.mono _ _
   | exact LeO.none _
   | refine LeO.ite ?_ ?_
   | refine LeO.bind ?_ (fun _ => ?_)
set_option maxHeartbeats 8000000 in
set_option maxRecDepth 100000 in
theorem impl_leastCrowds.calls (k : Nat) (A0 : Option Addr) (c0 : Nat) (l0 : List Int) (r : List Int) (w : World) (hr0 : Kd.C (Kd.int .i64) w A0 l0.length l0) (hc0 : l0.length ≤ c0) (h : impl_leastCrowds.f k l0 = some r) :
  Calls Try.prog 78 #[.slice A0 l0.length c0] w fun e w' => ∃ v0_ : Value, e = .returned (v0_) ∧ Kd.R (Kd.int .i64) 3 w' w.heap.size (fun _ => True) v0_ r ∧ Below w.heap.size w w' := by
 have hmf_ : ∀ (fn_ : Fn) (first_ cap_ : Array Value) (w_ : World), (Instr.makeFunc fn_ first_ cap_).run Try.prog w_ = .ok (.func fn_ first_ cap_) w_ := fun _ _ _ _ => rfl
 have HR0 := Aside0.mk hr0
 have HC0 := Aside0.mk hc0
 clear hr0 hc0
 have HB := Aside0.mk (Below.refl w.heap.size w)
 have H : (impl_leastCrowds.l0 k l0 (([] : List Int)) l0 (l0.length : Int) 0) = some r := h
 clear h
 obtain ⟨y173, hy173⟩ : ∃ y_ : List Int, y_ = (([] : List Int)) := ⟨_, rfl⟩
 replace H : (impl_leastCrowds.l0 k l0 y173 l0 (l0.length : Int) 0) = some r := by first | (rw [hy173]; with_reducible exact H) | (have H2_ := (Option.bind_some _ _).symm.trans H; rw [hy173]; with_reducible exact H2_) | (have H2_ := (Option.bind_some _ _).symm.trans H; with_reducible exact H2_) | with_reducible exact H | (rw [hy173]; exact H) | exact H
 have Ny173 := Aside0.mk hy173
 clear hy173
 have H' := Aside0.mk H
 clear H
 go_enter Try.func78, Try.ntmps78
 go_wp2_with (first | ((with_reducible refine gate_dst (N := 6) rfl ?_); refine Kd.R_lit (Kd.int .i64) _ 3 ?hg (N := 6) ?hd (xs := ([] : List Int)) (inner := []) (ok := fun _ => True) (okp := fun _ => True) ?hr ?hp (fun _ hk => hk) trivial (Below.refl _ _) (Nat.le_refl _) (by simp) ?_; (case hd => rfl); (case hg => rfl); (case hr => first | (go_simp; done) | (go_simp; rfl)); (case hp => exact (Reps.none _ _)); intro v174 w2 ho3 hb hg_ hnew_; clear hg_ hnew_; (first | rw [← Ny173.out] at ho3 | (simp only [Int.reduceToNat] at ho3; rw [← Ny173.out] at ho3)); have n0_ := Aside0.mk (Kd.R_lower ho3 (below_size bh)); have n1_ := Aside0.mk (below_step bh hb); clear HB; have HO175 := n0_; have HB := n1_; clear n0_ n1_ hb ho3))
 go_loopg [3, 9] k (fun kq v3 v9 w' => ∃ (x3_1 : List Int) (x9_1 : Int), v9 = .int .i64 x9_1 ∧ Aside0 (impl_leastCrowds.l0 kq l0 x3_1 l0 (l0.length : Int) x9_1 = some r) ∧ Aside0 (kq ≤ k) ∧ Aside0 (Kd.R (Kd.int .i64) 3 w' w.heap.size (fun _ => True) v3 x3_1) ∧ Aside0 (Below w.heap.size w w'))
 case atStart => exact ⟨(y173), (0), (by first | rfl | (simp; done) | (simp [*]; done)), H', ⟨Nat.le_refl _⟩, ⟨rz HO175⟩, ⟨by exact bh⟩⟩
 case round =>
  clear H'
  try clear p2
  obtain ⟨x3_1, x9_1, rfl, HA, HK1, HO_3, HB⟩ := hrel
  cases gk with
  | zero => exact absurd HA.out (by simp [impl_leastCrowds.l0])
  | succ k1 =>
   have H := HA.out
   clear HA
   simp only [impl_leastCrowds.l0] at H
   by_cases c4 : x9_1 < (l0.length : Int)
   ·rw [if_pos c4] at H
    have c4b0 : decide (x9_1 < (l0.length : Int)) = true := decide_eq_true c4
    clear c4
    by_cases c5 : 0 ≤ x9_1
    ·rw [if_pos c5] at H
     have c5b0 : decide (0 ≤ x9_1) = true := decide_eq_true c5
     clear c5
     by_cases c6 : x9_1 < (l0.length : Int)
     ·rw [if_pos c6] at H
      have c6b0 : decide (x9_1 < (l0.length : Int)) = true := decide_eq_true c6
      clear c6
      replace H := Option.bind_eq_some_iff.mp H
      obtain ⟨t178, A70, H⟩ := H
      replace H : (if t178 = true then (impl_leastCrowds.l0 k1 l0 x3_1 l0 (l0.length : Int) (wrap64 (x9_1 + 1))) else (if x3_1.length < 17592186044416 then (impl_leastCrowds.l0 k1 l0 (x3_1 ++ [rd l0 x9_1]) l0 (l0.length : Int) (wrap64 (x9_1 + 1))) else (none))) = some r := H
      have A7 := Aside0.mk A70
      clear A70
      by_cases c8 : t178 = true
      ·subst c8
       have H1 : (impl_leastCrowds.l0 k1 l0 x3_1 l0 (l0.length : Int) (wrap64 (x9_1 + 1))) = some r := by rw [if_pos rfl] at H; exact H
       clear H
       have H := H1
       clear H1
       have H' := Aside0.mk H
       clear H
       have p176 : 0 ≤ (x9_1 : Int) := oda
       have q176 : x9_1 < (l0.length : Int) := oda
       obtain ⟨ad176, e176, hx176_0⟩ := Kd.at_int HR0.out x9_1 p176 q176
       cases e176
       replace hx176_0 := (HB.out.cell (World.block_lt_of_cell? w _ hx176_0)).trans hx176_0
       replace p176 := eq_true p176
       replace q176 := eq_true q176
       go_wp2_with (first | ((with_reducible refine gate_dst (N := 5) rfl ?_); refine box_event ?hg (N := 5) ?hd (cs := #[.int .i64 0]) (t := 3) ?hr ?_; (case hd => rfl); (case hg => rfl); (case hr => first | (go_simp; done) | (go_simp; rfl)); intro gb177 hg w9 hbox hb; have n0_ := Aside0.mk (Kd.R_below (Kd.R_elderB (rz HO_3) gb177 (Nat.le_of_eq hg.symm)) hb); have n1_ := Aside0.mk (below_step bh hb); have n2_ := Aside0.mk (hbox); have n3_ := Aside0.mk ((gs (W0 := w) hg bh)); have n4_ := Aside0.mk ((gs (W0 := w) hg bh)); clear HO_3 HB; have HO_3 := n0_; have HB := n1_; have BK177 := n2_; have GW177 := n3_; have GE177 := n4_; clear n0_ n1_ n2_ n3_ n4_ hb hbox hg; have hcz10_0 := cz0 BK177; have hfz10_0 := blk_frozen BK177.out 0) | ((with_reducible refine gate_callee (f := 81) rfl ?_); refine goesL_ (some 15) rfl rfl Try.func81 kr rfl #[.slice (some ad176) l0.length c0, .func (.func 82) #[] #[.pointer (some ⟨gb177, 0, none⟩)]] rfl lm ?_; (with_reducible refine (slices_ContainsFunc_w82.calls k1 _ _ l0 (some ⟨gb177, 0, none⟩) [rd l0 x9_1].length [rd l0 x9_1] true _ ?side1 ?side2 ?side3 ?side4 A7.out).mono ?_); (case side1 => exact Kd.C_below HR0.out bh); (case side2 => exact HC0.out); (case side3 => exact Opens.C_box (cs := #[.int .i64 (rd l0 x9_1)]) (t := 3) (bp BK177) rfl); (case side4 => exact Nat.le_refl _); rintro e w' ⟨rfl, ⟨nd, rfl⟩⟩; refine ⟨_, rfl, ?_⟩))
       go_roundg k1
       case measure => have := HK1.out; omega
       case rel => exact ⟨(x3_1), (wrap64 (x9_1 + 1)), (by first | rfl | (simp; done) | (simp [*]; done)), H', ⟨by have := HK1.out; omega⟩, ⟨vR HO_3 (fun _ hk => hk.2)⟩, ⟨by exact bh⟩⟩
      ·replace c8 := Bool.eq_false_iff.mpr c8
       subst c8
       have H1 : (if x3_1.length < 17592186044416 then (impl_leastCrowds.l0 k1 l0 (x3_1 ++ [rd l0 x9_1]) l0 (l0.length : Int) (wrap64 (x9_1 + 1))) else (none)) = some r := by rw [if_neg (show ¬ (false = true) by decide)] at H; exact H
       clear H
       have H := H1
       clear H1
       by_cases c11 : x3_1.length < 17592186044416
       ·rw [if_pos c11] at H
        have LMc11 := Aside0.mk c11
        clear c11
        obtain ⟨y179, hy179⟩ : ∃ y_ : List Int, y_ = (x3_1 ++ [rd l0 x9_1]) := ⟨_, rfl⟩
        replace H : (impl_leastCrowds.l0 k1 l0 y179 l0 (l0.length : Int) (wrap64 (x9_1 + 1))) = some r := by first | (rw [hy179]; with_reducible exact H) | (have H2_ := (Option.bind_some _ _).symm.trans H; rw [hy179]; with_reducible exact H2_) | (have H2_ := (Option.bind_some _ _).symm.trans H; with_reducible exact H2_) | with_reducible exact H | (rw [hy179]; exact H) | exact H
        have Ny179 := Aside0.mk hy179
        clear hy179
        have H' := Aside0.mk H
        clear H
        have p176 : 0 ≤ (x9_1 : Int) := oda
        have q176 : x9_1 < (l0.length : Int) := oda
        obtain ⟨ad176, e176, hx176_0⟩ := Kd.at_int HR0.out x9_1 p176 q176
        cases e176
        replace hx176_0 := (HB.out.cell (World.block_lt_of_cell? w _ hx176_0)).trans hx176_0
        replace p176 := eq_true p176
        replace q176 := eq_true q176
        go_wp2_with (first | ((with_reducible refine gate_dst (N := 5) rfl ?_); refine box_event ?hg (N := 5) ?hd (cs := #[.int .i64 0]) (t := 3) ?hr ?_; (case hd => rfl); (case hg => rfl); (case hr => first | (go_simp; done) | (go_simp; rfl)); intro gb177 hg w12 hbox hb; have n0_ := Aside0.mk (Kd.R_below (Kd.R_elderB (rz HO_3) gb177 (Nat.le_of_eq hg.symm)) hb); have n1_ := Aside0.mk (below_step bh hb); have n2_ := Aside0.mk (hbox); have n3_ := Aside0.mk ((gs (W0 := w) hg bh)); have n4_ := Aside0.mk ((gs (W0 := w) hg bh)); clear HO_3 HB; have HO_3 := n0_; have HB := n1_; have BK177 := n2_; have GW177 := n3_; have GE177 := n4_; clear n0_ n1_ n2_ n3_ n4_ hb hbox hg; have hcz13_0 := cz0 BK177; have hfz13_0 := blk_frozen BK177.out 0) | ((with_reducible refine gate_callee (f := 81) rfl ?_); refine goesL_ (some 15) rfl rfl Try.func81 kr rfl #[.slice (some ad176) l0.length c0, .func (.func 82) #[] #[.pointer (some ⟨gb177, 0, none⟩)]] rfl lm ?_; (with_reducible refine (slices_ContainsFunc_w82.calls k1 _ _ l0 (some ⟨gb177, 0, none⟩) [rd l0 x9_1].length [rd l0 x9_1] false _ ?side1 ?side2 ?side3 ?side4 A7.out).mono ?_); (case side1 => exact Kd.C_below HR0.out bh); (case side2 => exact HC0.out); (case side3 => exact Opens.C_box (cs := #[.int .i64 (rd l0 x9_1)]) (t := 3) (bp BK177) rfl); (case side4 => exact Nat.le_refl _); rintro e w' ⟨rfl, ⟨nd, rfl⟩⟩; refine ⟨_, rfl, ?_⟩) | ((with_reducible refine gate_builtin (b := .append) (xs := #[.tmp 17, .tmp 19]) rfl ?_); at_builtin; refine Kd.R_append (Kd.int .i64) (w0 := w) w.heap.size rfl (.tmp 17) (.tmp 19) 23 3 (.int .i64 0) 8 rfl Try.underlying23 info3 rfl (by decide) (by omega) u3 x3_1 (rd l0 x9_1) [.int .i64 (rd l0 x9_1)] (fun k_ => k_ ≠ gb177) (fun _ => False) rfl (by first | (go_simp; done) | (go_simp; rfl)) ?aP (fun _ hk => hk.elim) ?aF ?aO ?aB ?aS ?aL ?_; (case aP => exact rfl); (case aB => exact bh); (case aF => exact (fun k_ hk => Kd.freshB (g := gb177) (o := .cells #[.int .i64 (rd l0 x9_1)] 3 (0, 0)) (bp BK177) k_ hk)); (case aO => exact (vR HO_3 (fun _ hk => hk.2))); (case aS => exact (below_size bh)); (case aL => have := LMc11.out; omega); intro v180 w14 ho hb hg hat; rw [← Ny179.out] at ho; have n0_ := Aside0.mk (blk_grown (g := gb177) (o := .cells #[.int .i64 (rd l0 x9_1)] 3 (0, 0)) (bp BK177) hg (Kd.R_away HO_3.out (fun _ hk => hk.2))); have n1_ := Aside0.mk (hb); have n2_ := Aside0.mk (ho); clear BK177 HB HO_3; have BK177 := n0_; have HB := n1_; have HO181 := n2_; clear n0_ n1_ n2_ ho hb hg hat))
        go_roundg k1
        case measure => have := HK1.out; omega
        case rel => exact ⟨(y179), (wrap64 (x9_1 + 1)), (by first | rfl | (simp; done) | (simp [*]; done)), H', ⟨by have := HK1.out; omega⟩, ⟨mR HO181⟩, ⟨by exact bh⟩⟩
       ·rw [if_neg c11] at H
        exact absurd H (by simp)
     ·rw [if_neg c6] at H
      exact absurd H (by simp)
    ·rw [if_neg c5] at H
     exact absurd H (by simp)
   ·rw [if_neg c4] at H
    have c4b0 : decide (x9_1 < (l0.length : Int)) = false := decide_eq_false c4
    clear c4
    replace H := Option.bind_eq_some_iff.mp H
    obtain ⟨_, A150, H⟩ := H
    replace H : ((slices_Compact_int_int.f k1 x3_1).bind fun t182 => (some t182)) = some r := H
    have A15 := Aside0.mk A150
    clear A150
    replace H := Option.bind_eq_some_iff.mp H
    obtain ⟨t182, A160, H⟩ := H
    replace H : (some t182) = some r := H
    have A16 := Aside0.mk A160
    clear A160
    obtain rfl := Option.some.inj H
    obtain ⟨Ao17, co17, eo17⟩ := Kd.R_slice HO_3.out
    subst eo17
    go_wp2_with (first | ((with_reducible refine gate_callee (f := 83) rfl ?_); refine goesL_ (some 23) rfl rfl Try.func83 kr rfl #[.slice Ao17 x3_1.length co17] rfl lm ?_; (with_reducible refine (slices_Sort_int_int.calls k1 _ _ x3_1  _ ?side1 ?side2 A15.out).mono ?_); (case side1 => repeat (first | exact (Kd.R_reads' HO_3.out).2.2 | (with_reducible refine Kd.C_alloc ?_ _) | (with_reducible refine Kd.C_drewN ?_ _) | (with_reducible refine Kd.C_drew ?_))); (case side2 => exact (Kd.R_reads' HO_3.out).2.1); rintro e w18 ⟨rfl, hb⟩; refine ⟨_, rfl, ?_⟩; have n0_ := Aside0.mk (Kd.R_below (rz HO_3) hb); have n1_ := Aside0.mk (below_step bh hb); clear HO_3 HB; have HO_3 := n0_; have HB := n1_; clear n0_ n1_; (try clear hb); (try clear hb2); (try clear hk); (try clear hi)) | ((with_reducible refine gate_callee (f := 84) rfl ?_); refine goesL_ (some 25) rfl rfl Try.func84 kr rfl #[.slice Ao17 x3_1.length co17] rfl lm ?_; (with_reducible refine (slices_Compact_int_int.calls k1 (fun k_ => some k_ = (.slice Ao17 x3_1.length co17 : Value).ownBlock) (.slice Ao17 x3_1.length co17) x3_1 t182 w _ ?side1 ?side2 A16.out).mono ?_); (case side1 => repeat (first | (with_reducible first | exact HB.out | apply below_alloc | apply pw_below_drewN | apply below_drew1) | exact HB.out)); (case side2 => exact Kd.R_tight rfl HO_3.out); rintro e w19 ⟨v183, rfl, ho0, hb, hkp⟩; refine ⟨_, rfl, ?_⟩; have n0_ := Aside0.mk (Kd.R_mono (ok' := fun k_ => True) ho0 (fun k_ hk_ => trivial)); have n1_ := Aside0.mk (hb); clear HB HO_3; have HO184 := n0_; have HB := n1_; clear n0_ n1_; (try clear hb); (try clear hkp); (try clear ho0)))
    go_ret
    exact ⟨_, by first | rfl | (simp [errW_none, errW_some] <;> rfl) | (simp [*, errW_none, errW_some] <;> rfl), by (with_reducible repeat (first | apply Kd.R_alloc | apply Kd.R_drewN | apply Kd.R_drew)); exact HO184.out, by exact bh⟩

end Go.Proofs.Ytaddlahbahedeaa.QFnClashOk
