-- Printed for this claim by a turned copy of the print (wip/myprint). Lean checks it. Squeezed. Worded. Tightened.
import Derived.Test.YtnandbgcejkonaaQFnExactIdleLawsx0
import Derived.Test.YtnandbgcejkonaaQFnExactIdleLawsx2
namespace Go.Proofs.Ytnandbgcejkonaa.QFnExactIdleLaws
open Go.RowKit Go.Proofs.YtnandbgcejkonaaW.PrintWords Go.Proofs.YtnandbgcejkonaaW.PrintLast Go.Proofs.YtnandbgcejkonaaW.PrintMore
attribute [local go_sem] max2_int min2_int max_two min_two max_three min_three max_four min_four Opens.cell_twice   -- for this text's walks alone
set_option linter.unusedVariables false
set_option linter.unusedSimpArgs false

/-! ### spec_BeatsOk: function 59 -/
def spec_BeatsOk.j0 : Nat → Bool → Int → Int → Int → Int → Bool → Int → Int → Int → Int → Bool → Option (Bool)
 | 0, _, _, _, _, _, _, _, _, _, _, _ => none
 | k + 1, x5, x135000, x135001, x135002, x135003, x135004, x136000, x136001, x136002, x136003, x136004 => if x5 = true then (some false) else (if x135002 = x136002 then ((spec_l1Heads.f k x135001).bind fun t138 => ((spec_l1Heads.f k x136001).bind fun t139 => (if t138 = t139 then (some (decide (x135003 > x136003))) else (some (decide (t138 > t139)))))) else (some (decide (x135002 > x136002))))
def spec_BeatsOk.f (k : Nat) (a0_0 : Int) (a0_1 : Int) (a0_2 : Int) (a0_3 : Int) (a0_4 : Bool) (a1_0 : Int) (a1_1 : Int) (a1_2 : Int) (a1_3 : Int) (a1_4 : Bool) : Option (Bool) := (spec_LawOk.f a0_0 a0_1 a0_2 a0_3 a0_4).bind fun t136 => (if t136 = true then ((spec_LawOk.f a1_0 a1_1 a1_2 a1_3 a1_4).bind fun t137 => (spec_BeatsOk.j0 k (!t137) a0_0 a0_1 a0_2 a0_3 a0_4 a1_0 a1_1 a1_2 a1_3 a1_4)) else (spec_BeatsOk.j0 k true a0_0 a0_1 a0_2 a0_3 a0_4 a1_0 a1_1 a1_2 a1_3 a1_4))
theorem spec_BeatsOk.mono_l : ∀ k, (∀ y0 y1 y2 y3 y4 y5 y6 y7 y8 y9 y10, LeO (spec_BeatsOk.j0 k y0 y1 y2 y3 y4 y5 y6 y7 y8 y9 y10) (spec_BeatsOk.j0 (k + 1) y0 y1 y2 y3 y4 y5 y6 y7 y8 y9 y10))
 | 0 => fun _ _ _ _ _ _ _ _ _ _ _ r h => by simp [spec_BeatsOk.j0] at h
 | k + 1 => by
  have ih0 := spec_BeatsOk.mono_l k
  ·intro y0 y1 y2 y3 y4 y5 y6 y7 y8 y9 y10
   unfold spec_BeatsOk.j0
   repeat' first
   | (with_reducible exact ih0 _ _ _ _ _ _ _ _ _ _ _)
   | (with_reducible exact spec_l1Heads.mono _ _)
   | (with_reducible exact LeO.refl _)
   | (with_reducible exact LeO.none _)
   | (with_reducible refine LeO.ite ?_ ?_)
   | (with_reducible refine LeO.bind ?_ (fun _ => ?_))
   | exact ih0 _ _ _ _ _ _ _ _ _ _ _
   | exact spec_l1Heads.mono _ _
   | exact LeO.none _
   | refine LeO.ite ?_ ?_
   | refine LeO.bind ?_ (fun _ => ?_)
theorem spec_BeatsOk.mono : ∀ a0 a1 a2 a3 a4 a5 a6 a7 a8 a9 k, LeO (spec_BeatsOk.f k a0 a1 a2 a3 a4 a5 a6 a7 a8 a9) (spec_BeatsOk.f (k + 1) a0 a1 a2 a3 a4 a5 a6 a7 a8 a9) := by
 intro a0 a1 a2 a3 a4 a5 a6 a7 a8 a9 k
 have ih0 := spec_BeatsOk.mono_l k
 unfold spec_BeatsOk.f
 repeat' first
   | (with_reducible exact ih0 _ _ _ _ _ _ _ _ _ _ _)
   | (with_reducible exact spec_l1Heads.mono _ _)
   | (with_reducible exact LeO.refl _)
   | (with_reducible exact LeO.none _)
   | (with_reducible refine LeO.ite ?_ ?_)
   | (with_reducible refine LeO.bind ?_ (fun _ => ?_))
   | exact ih0 _ _ _ _ _ _ _ _ _ _ _
   | exact spec_l1Heads.mono _ _
   | exact LeO.none _
   | refine LeO.ite ?_ ?_
   | refine LeO.bind ?_ (fun _ => ?_)
set_option maxHeartbeats 8000000 in
set_option maxRecDepth 100000 in
theorem spec_BeatsOk.calls (k : Nat) (a0_0 : Int) (a0_1 : Int) (a0_2 : Int) (a0_3 : Int) (a0_4 : Bool) (a1_0 : Int) (a1_1 : Int) (a1_2 : Int) (a1_3 : Int) (a1_4 : Bool) (r : Bool) (w : World) (h : spec_BeatsOk.f k a0_0 a0_1 a0_2 a0_3 a0_4 a1_0 a1_1 a1_2 a1_3 a1_4 = some r) :
  Calls Try.prog 59 #[.agg #[.int .i64 a0_0, .int .i64 a0_1, .int .i64 a0_2, .int .i64 a0_3, .bool a0_4], .agg #[.int .i64 a1_0, .int .i64 a1_1, .int .i64 a1_2, .int .i64 a1_3, .bool a1_4]] w fun e w' => e = .returned (.bool r) ∧ Below w.heap.size w w' := by
 have hu46 := Try.underlying46
 have HB := Aside0.mk (Below.refl w.heap.size w)
 have H : ((spec_LawOk.f a0_0 a0_1 a0_2 a0_3 a0_4).bind fun t136 => (if t136 = true then ((spec_LawOk.f a1_0 a1_1 a1_2 a1_3 a1_4).bind fun t137 => (spec_BeatsOk.j0 k (!t137) a0_0 a0_1 a0_2 a0_3 a0_4 a1_0 a1_1 a1_2 a1_3 a1_4)) else (spec_BeatsOk.j0 k true a0_0 a0_1 a0_2 a0_3 a0_4 a1_0 a1_1 a1_2 a1_3 a1_4))) = some r := h
 clear h
 have HC3 := Aside0.mk H
 clear H
 go_enter Try.func59, Try.ntmps59
 go_upto_region 1 with (first | ((with_reducible refine gate_dst (N := 2) rfl ?_); refine box_event ?hg (N := 2) ?hd (cs := #[.int .i64 a0_0, .int .i64 a0_1, .int .i64 a0_2, .int .i64 a0_3, .bool a0_4]) (t := 46) ?hr ?_; (case hd => rfl); (case hg => rfl); (case hr => first | (go_simp; done) | (go_simp; rfl)); intro gb134 hg w4 hbox hb; have n0_ := Aside0.mk (below_step bh hb); have n1_ := Aside0.mk (hbox); have n2_ := Aside0.mk ((gs (W0 := w) hg bh)); have n3_ := Aside0.mk ((gs (W0 := w) hg bh)); clear HB; have HB := n0_; have BK134 := n1_; have GW134 := n2_; have GE134 := n3_; clear n0_ n1_ n2_ n3_ hb hbox hg) | ((with_reducible refine gate_dst (N := 3) rfl ?_); refine box_event ?hg (N := 3) ?hd (cs := #[.int .i64 a1_0, .int .i64 a1_1, .int .i64 a1_2, .int .i64 a1_3, .bool a1_4]) (t := 46) ?hr ?_; (case hd => rfl); (case hg => rfl); (case hr => first | (go_simp; done) | (go_simp; rfl)); intro gb135 hg w5 hbox hb; have n0_ := Aside0.mk (blk_below (bz BK134) hb); have n1_ := Aside0.mk (below_step bh hb); have n2_ := Aside0.mk (hbox); have n3_ := Aside0.mk ((gs (W0 := w) hg bh)); have n4_ := Aside0.mk ((gs (W0 := w) hg bh)); have n5_ := Aside0.mk ((gn hg (bz BK134))); have n6_ := Aside0.mk ((gm hg (bz BK134))); clear BK134 HB; have BK134 := n0_; have HB := n1_; have BK135 := n2_; have GW135 := n3_; have GE135 := n4_; have NB134_135 := n5_; have NB135_134 := n6_; clear n0_ n1_ n2_ n3_ n4_ n5_ n6_ hb hbox hg))
 repeat (go_quiet (first | ((with_reducible refine gate_dst (N := 2) rfl ?_); refine box_event ?hg (N := 2) ?hd (cs := #[.int .i64 a0_0, .int .i64 a0_1, .int .i64 a0_2, .int .i64 a0_3, .bool a0_4]) (t := 46) ?hr ?_; (case hd => rfl); (case hg => rfl); (case hr => first | (go_simp; done) | (go_simp; rfl)); intro gb134 hg w4 hbox hb; have n0_ := Aside0.mk (below_step bh hb); have n1_ := Aside0.mk (hbox); have n2_ := Aside0.mk ((gs (W0 := w) hg bh)); have n3_ := Aside0.mk ((gs (W0 := w) hg bh)); clear HB; have HB := n0_; have BK134 := n1_; have GW134 := n2_; have GE134 := n3_; clear n0_ n1_ n2_ n3_ hb hbox hg) | ((with_reducible refine gate_dst (N := 3) rfl ?_); refine box_event ?hg (N := 3) ?hd (cs := #[.int .i64 a1_0, .int .i64 a1_1, .int .i64 a1_2, .int .i64 a1_3, .bool a1_4]) (t := 46) ?hr ?_; (case hd => rfl); (case hg => rfl); (case hr => first | (go_simp; done) | (go_simp; rfl)); intro gb135 hg w5 hbox hb; have n0_ := Aside0.mk (blk_below (bz BK134) hb); have n1_ := Aside0.mk (below_step bh hb); have n2_ := Aside0.mk (hbox); have n3_ := Aside0.mk ((gs (W0 := w) hg bh)); have n4_ := Aside0.mk ((gs (W0 := w) hg bh)); have n5_ := Aside0.mk ((gn hg (bz BK134))); have n6_ := Aside0.mk ((gm hg (bz BK134))); clear BK134 HB; have BK134 := n0_; have HB := n1_; have BK135 := n2_; have GW135 := n3_; have GE135 := n4_; have NB134_135 := n5_; have NB135_134 := n6_; clear n0_ n1_ n2_ n3_ n4_ n5_ n6_ hb hbox hg)); go_upto_region 1 with (first | ((with_reducible refine gate_dst (N := 2) rfl ?_); refine box_event ?hg (N := 2) ?hd (cs := #[.int .i64 a0_0, .int .i64 a0_1, .int .i64 a0_2, .int .i64 a0_3, .bool a0_4]) (t := 46) ?hr ?_; (case hd => rfl); (case hg => rfl); (case hr => first | (go_simp; done) | (go_simp; rfl)); intro gb134 hg w4 hbox hb; have n0_ := Aside0.mk (below_step bh hb); have n1_ := Aside0.mk (hbox); have n2_ := Aside0.mk ((gs (W0 := w) hg bh)); have n3_ := Aside0.mk ((gs (W0 := w) hg bh)); clear HB; have HB := n0_; have BK134 := n1_; have GW134 := n2_; have GE134 := n3_; clear n0_ n1_ n2_ n3_ hb hbox hg) | ((with_reducible refine gate_dst (N := 3) rfl ?_); refine box_event ?hg (N := 3) ?hd (cs := #[.int .i64 a1_0, .int .i64 a1_1, .int .i64 a1_2, .int .i64 a1_3, .bool a1_4]) (t := 46) ?hr ?_; (case hd => rfl); (case hg => rfl); (case hr => first | (go_simp; done) | (go_simp; rfl)); intro gb135 hg w5 hbox hb; have n0_ := Aside0.mk (blk_below (bz BK134) hb); have n1_ := Aside0.mk (below_step bh hb); have n2_ := Aside0.mk (hbox); have n3_ := Aside0.mk ((gs (W0 := w) hg bh)); have n4_ := Aside0.mk ((gs (W0 := w) hg bh)); have n5_ := Aside0.mk ((gn hg (bz BK134))); have n6_ := Aside0.mk ((gm hg (bz BK134))); clear BK134 HB; have BK134 := n0_; have HB := n1_; have BK135 := n2_; have GW135 := n3_; have GE135 := n4_; have NB134_135 := n5_; have NB135_134 := n6_; clear n0_ n1_ n2_ n3_ n4_ n5_ n6_ hb hbox hg)))
 (try simp only [Act.put, List.setIfInBounds_toArray, List.set_cons_zero, List.set_cons_succ])
 go_cut [5] (fun v5 wc => ∃ (kq : Nat) (x5_2 : Bool), v5 = .bool x5_2 ∧ Aside0 (spec_BeatsOk.j0 kq x5_2 a0_0 a0_1 a0_2 a0_3 a0_4 a1_0 a1_1 a1_2 a1_3 a1_4 = some r) ∧ Aside0 (kq ≤ k) ∧ Aside0 (wc.heap[gb134]? = some (.cells #[.int .i64 a0_0, .int .i64 a0_1, .int .i64 a0_2, .int .i64 a0_3, .bool a0_4] 46 (0, 0))) ∧ Aside0 (wc.heap[gb135]? = some (.cells #[.int .i64 a1_0, .int .i64 a1_1, .int .i64 a1_2, .int .i64 a1_3, .bool a1_4] 46 (0, 0))) ∧ Aside0 (Below w.heap.size w wc))
 case first =>
  have H := HC3.out
  clear HC3
  replace H := Option.bind_eq_some_iff.mp H
  obtain ⟨t136, A60, H⟩ := H
  replace H : (if t136 = true then ((spec_LawOk.f a1_0 a1_1 a1_2 a1_3 a1_4).bind fun t137 => (spec_BeatsOk.j0 k (!t137) a0_0 a0_1 a0_2 a0_3 a0_4 a1_0 a1_1 a1_2 a1_3 a1_4)) else (spec_BeatsOk.j0 k true a0_0 a0_1 a0_2 a0_3 a0_4 a1_0 a1_1 a1_2 a1_3 a1_4)) = some r := H
  have A6 := Aside0.mk A60
  clear A60
  by_cases c7 : t136 = true
  ·subst c7
   have H1 : ((spec_LawOk.f a1_0 a1_1 a1_2 a1_3 a1_4).bind fun t137 => (spec_BeatsOk.j0 k (!t137) a0_0 a0_1 a0_2 a0_3 a0_4 a1_0 a1_1 a1_2 a1_3 a1_4)) = some r := by rw [if_pos rfl] at H; exact H
   clear H
   have H := H1
   clear H1
   replace H := Option.bind_eq_some_iff.mp H
   obtain ⟨t137, A80, H⟩ := H
   replace H : (spec_BeatsOk.j0 k (!t137) a0_0 a0_1 a0_2 a0_3 a0_4 a1_0 a1_1 a1_2 a1_3 a1_4) = some r := H
   have A8 := Aside0.mk A80
   clear A80
   have H' := Aside0.mk H
   clear H
   have hnb9 := NB134_135.out
   have hnc9 := NB135_134.out
   have hcz10_0 := cz0 BK134
   have hcz10_1 := cz1 BK134
   have hcz10_2 := cz2 BK134
   have hcz10_3 := cz3 BK134
   have hcz10_4 := cz4 BK134
   have hfz10_0 := blk_frozen BK134.out 0
   have hfz10_1 := blk_frozen BK134.out 1
   have hfz10_2 := blk_frozen BK134.out 2
   have hfz10_3 := blk_frozen BK134.out 3
   have hfz10_4 := blk_frozen BK134.out 4
   go_wp2_with (first | (go_at_call 41; (with_reducible refine (spec_LawOk.calls a0_0 a0_1 a0_2 a0_3 a0_4 true _ A6.out).mono ?_); rintro e w11 ⟨rfl, hb⟩; have n0_ := Aside0.mk (blk_below (bz BK134) hb); have n1_ := Aside0.mk (blk_below (bz BK135) hb); have n2_ := Aside0.mk (below_step bh hb); clear BK134 BK135 HB; have BK134 := n0_; have BK135 := n1_; have HB := n2_; clear n0_ n1_ n2_; (try clear hb); (try clear hb2); (try clear hk); (try clear hi); have hcz12_0 := cz0 BK135; have hcz12_1 := cz1 BK135; have hcz12_2 := cz2 BK135; have hcz12_3 := cz3 BK135; have hcz12_4 := cz4 BK135; have hfz12_0 := blk_frozen BK135.out 0; have hfz12_1 := blk_frozen BK135.out 1; have hfz12_2 := blk_frozen BK135.out 2; have hfz12_3 := blk_frozen BK135.out 3; have hfz12_4 := blk_frozen BK135.out 4) | (go_at_call 41; (with_reducible refine (spec_LawOk.calls a1_0 a1_1 a1_2 a1_3 a1_4 t137 _ A8.out).mono ?_); rintro e w13 ⟨rfl, hb⟩; have n0_ := Aside0.mk (blk_below (bz BK134) hb); have n1_ := Aside0.mk (blk_below (bz BK135) hb); have n2_ := Aside0.mk (below_step bh hb); clear BK134 BK135 HB; have BK134 := n0_; have BK135 := n1_; have HB := n2_; clear n0_ n1_ n2_; (try clear hb); (try clear hb2); (try clear hk); (try clear hi)))
   repeat (go_quiet (first | (go_at_call 41; (with_reducible refine (spec_LawOk.calls a0_0 a0_1 a0_2 a0_3 a0_4 true _ A6.out).mono ?_); rintro e w11 ⟨rfl, hb⟩; have n0_ := Aside0.mk (blk_below (bz BK134) hb); have n1_ := Aside0.mk (blk_below (bz BK135) hb); have n2_ := Aside0.mk (below_step bh hb); clear BK134 BK135 HB; have BK134 := n0_; have BK135 := n1_; have HB := n2_; clear n0_ n1_ n2_; (try clear hb); (try clear hb2); (try clear hk); (try clear hi); have hcz12_0 := cz0 BK135; have hcz12_1 := cz1 BK135; have hcz12_2 := cz2 BK135; have hcz12_3 := cz3 BK135; have hcz12_4 := cz4 BK135; have hfz12_0 := blk_frozen BK135.out 0; have hfz12_1 := blk_frozen BK135.out 1; have hfz12_2 := blk_frozen BK135.out 2; have hfz12_3 := blk_frozen BK135.out 3; have hfz12_4 := blk_frozen BK135.out 4) | (go_at_call 41; (with_reducible refine (spec_LawOk.calls a1_0 a1_1 a1_2 a1_3 a1_4 t137 _ A8.out).mono ?_); rintro e w13 ⟨rfl, hb⟩; have n0_ := Aside0.mk (blk_below (bz BK134) hb); have n1_ := Aside0.mk (blk_below (bz BK135) hb); have n2_ := Aside0.mk (below_step bh hb); clear BK134 BK135 HB; have BK134 := n0_; have BK135 := n1_; have HB := n2_; clear n0_ n1_ n2_; (try clear hb); (try clear hb2); (try clear hk); (try clear hi))); try go_wp2_with (first | (go_at_call 41; (with_reducible refine (spec_LawOk.calls a0_0 a0_1 a0_2 a0_3 a0_4 true _ A6.out).mono ?_); rintro e w11 ⟨rfl, hb⟩; have n0_ := Aside0.mk (blk_below (bz BK134) hb); have n1_ := Aside0.mk (blk_below (bz BK135) hb); have n2_ := Aside0.mk (below_step bh hb); clear BK134 BK135 HB; have BK134 := n0_; have BK135 := n1_; have HB := n2_; clear n0_ n1_ n2_; (try clear hb); (try clear hb2); (try clear hk); (try clear hi); have hcz12_0 := cz0 BK135; have hcz12_1 := cz1 BK135; have hcz12_2 := cz2 BK135; have hcz12_3 := cz3 BK135; have hcz12_4 := cz4 BK135; have hfz12_0 := blk_frozen BK135.out 0; have hfz12_1 := blk_frozen BK135.out 1; have hfz12_2 := blk_frozen BK135.out 2; have hfz12_3 := blk_frozen BK135.out 3; have hfz12_4 := blk_frozen BK135.out 4) | (go_at_call 41; (with_reducible refine (spec_LawOk.calls a1_0 a1_1 a1_2 a1_3 a1_4 t137 _ A8.out).mono ?_); rintro e w13 ⟨rfl, hb⟩; have n0_ := Aside0.mk (blk_below (bz BK134) hb); have n1_ := Aside0.mk (blk_below (bz BK135) hb); have n2_ := Aside0.mk (below_step bh hb); clear BK134 BK135 HB; have BK134 := n0_; have BK135 := n1_; have HB := n2_; clear n0_ n1_ n2_; (try clear hb); (try clear hb2); (try clear hk); (try clear hi))))
   go_meet
   case rel => exact ⟨_, (!t137), (by first | rfl | (simp; done) | (simp [*]; done)), H', ⟨by first | omega | exact Nat.le_refl _⟩, ⟨bz BK134⟩, ⟨bz BK135⟩, ⟨by exact bh⟩⟩
  ·replace c7 := Bool.eq_false_iff.mpr c7
   subst c7
   have H1 : (spec_BeatsOk.j0 k true a0_0 a0_1 a0_2 a0_3 a0_4 a1_0 a1_1 a1_2 a1_3 a1_4) = some r := by rw [if_neg (show ¬ (false = true) by decide)] at H; exact H
   clear H
   have H := H1
   clear H1
   have H' := Aside0.mk H
   clear H
   have hnb14 := NB134_135.out
   have hnc14 := NB135_134.out
   have hcz15_0 := cz0 BK134
   have hcz15_1 := cz1 BK134
   have hcz15_2 := cz2 BK134
   have hcz15_3 := cz3 BK134
   have hcz15_4 := cz4 BK134
   have hfz15_0 := blk_frozen BK134.out 0
   have hfz15_1 := blk_frozen BK134.out 1
   have hfz15_2 := blk_frozen BK134.out 2
   have hfz15_3 := blk_frozen BK134.out 3
   have hfz15_4 := blk_frozen BK134.out 4
   go_wp2_with (first | (go_at_call 41; (with_reducible refine (spec_LawOk.calls a0_0 a0_1 a0_2 a0_3 a0_4 false _ A6.out).mono ?_); rintro e w16 ⟨rfl, hb⟩; have n0_ := Aside0.mk (blk_below (bz BK134) hb); have n1_ := Aside0.mk (blk_below (bz BK135) hb); have n2_ := Aside0.mk (below_step bh hb); clear BK134 BK135 HB; have BK134 := n0_; have BK135 := n1_; have HB := n2_; clear n0_ n1_ n2_; (try clear hb); (try clear hb2); (try clear hk); (try clear hi)))
   repeat (go_quiet (first | (go_at_call 41; (with_reducible refine (spec_LawOk.calls a0_0 a0_1 a0_2 a0_3 a0_4 false _ A6.out).mono ?_); rintro e w16 ⟨rfl, hb⟩; have n0_ := Aside0.mk (blk_below (bz BK134) hb); have n1_ := Aside0.mk (blk_below (bz BK135) hb); have n2_ := Aside0.mk (below_step bh hb); clear BK134 BK135 HB; have BK134 := n0_; have BK135 := n1_; have HB := n2_; clear n0_ n1_ n2_; (try clear hb); (try clear hb2); (try clear hk); (try clear hi))); try go_wp2_with (first | (go_at_call 41; (with_reducible refine (spec_LawOk.calls a0_0 a0_1 a0_2 a0_3 a0_4 false _ A6.out).mono ?_); rintro e w16 ⟨rfl, hb⟩; have n0_ := Aside0.mk (blk_below (bz BK134) hb); have n1_ := Aside0.mk (blk_below (bz BK135) hb); have n2_ := Aside0.mk (below_step bh hb); clear BK134 BK135 HB; have BK134 := n0_; have BK135 := n1_; have HB := n2_; clear n0_ n1_ n2_; (try clear hb); (try clear hb2); (try clear hk); (try clear hi))))
   go_meet
   case rel => exact ⟨_, (true), (by first | rfl | (simp; done) | (simp [*]; done)), H', ⟨by first | omega | exact Nat.le_refl _⟩, ⟨bz BK134⟩, ⟨bz BK135⟩, ⟨by exact bh⟩⟩
 case rest =>
  clear HC3
  try clear c1
  try clear p2
  try clear c5
  try clear c7
  try clear c9
  try clear c14
  try clear hcz10_0
  try clear hcz10_1
  try clear hcz10_2
  try clear hcz10_3
  try clear hcz10_4
  try clear hcz12_0
  try clear hcz12_1
  try clear hcz12_2
  try clear hcz12_3
  try clear hcz12_4
  try clear hcz15_0
  try clear hcz15_1
  try clear hcz15_2
  try clear hcz15_3
  try clear hcz15_4
  try clear hfz10_0
  try clear hfz10_1
  try clear hfz10_2
  try clear hfz10_3
  try clear hfz10_4
  try clear hfz12_0
  try clear hfz12_1
  try clear hfz12_2
  try clear hfz12_3
  try clear hfz12_4
  try clear hfz15_0
  try clear hfz15_1
  try clear hfz15_2
  try clear hfz15_3
  try clear hfz15_4
  obtain ⟨kq, x5_2, rfl, HA, HJ2, BK134, BK135, HB⟩ := hcut
  cases kq with
  | zero => exact absurd HA.out (by simp [spec_BeatsOk.j0])
  | succ kj2 =>
   have H := HA.out
   clear HA
   simp only [spec_BeatsOk.j0] at H
   by_cases c17 : x5_2 = true
   ·subst c17
    have H1 : (some false) = some r := by rw [if_pos rfl] at H; exact H
    clear H
    have H := H1
    clear H1
    obtain rfl := Option.some.inj H
    go_wp2
    repeat (go_quiet (fail); try go_wp2)
    go_ret
    exact ⟨by first | rfl | (simp [errW_none, errW_some] <;> rfl) | (simp [*, errW_none, errW_some] <;> rfl), by exact bh⟩
   ·replace c17 := Bool.eq_false_iff.mpr c17
    subst c17
    have H1 : (if a0_2 = a1_2 then ((spec_l1Heads.f kj2 a0_1).bind fun t138 => ((spec_l1Heads.f kj2 a1_1).bind fun t139 => (if t138 = t139 then (some (decide (a0_3 > a1_3))) else (some (decide (t138 > t139)))))) else (some (decide (a0_2 > a1_2)))) = some r := by rw [if_neg (show ¬ (false = true) by decide)] at H; exact H
    clear H
    have H := H1
    clear H1
    by_cases c18 : a0_2 = a1_2
    ·rw [if_pos c18] at H
     have c18b0 : (a0_2 == a1_2) = true := beq_iff_eq.mpr c18
     have c18b1 : (a0_2 != a1_2) = false := bne_eq_false_iff_eq.mpr c18
     clear c18
     replace H := Option.bind_eq_some_iff.mp H
     obtain ⟨t138, A190, H⟩ := H
     replace H : ((spec_l1Heads.f kj2 a1_1).bind fun t139 => (if t138 = t139 then (some (decide (a0_3 > a1_3))) else (some (decide (t138 > t139))))) = some r := H
     have A19 := Aside0.mk A190
     clear A190
     replace H := Option.bind_eq_some_iff.mp H
     obtain ⟨t139, A200, H⟩ := H
     replace H : (if t138 = t139 then (some (decide (a0_3 > a1_3))) else (some (decide (t138 > t139)))) = some r := H
     have A20 := Aside0.mk A200
     clear A200
     by_cases c21 : t138 = t139
     ·rw [if_pos c21] at H
      have c21b0 : (t138 == t139) = true := beq_iff_eq.mpr c21
      have c21b1 : (t138 != t139) = false := bne_eq_false_iff_eq.mpr c21
      clear c21
      obtain rfl := Option.some.inj H
      have hnb22 := NB134_135.out
      have hnc22 := NB135_134.out
      have hcz23_0 := cz0 BK134
      have hcz23_1 := cz1 BK134
      have hcz23_2 := cz2 BK134
      have hcz23_3 := cz3 BK134
      have hcz23_4 := cz4 BK134
      have hfz23_0 := blk_frozen BK134.out 0
      have hfz23_1 := blk_frozen BK134.out 1
      have hfz23_2 := blk_frozen BK134.out 2
      have hfz23_3 := blk_frozen BK134.out 3
      have hfz23_4 := blk_frozen BK134.out 4
      have hcz24_0 := cz0 BK135
      have hcz24_1 := cz1 BK135
      have hcz24_2 := cz2 BK135
      have hcz24_3 := cz3 BK135
      have hcz24_4 := cz4 BK135
      have hfz24_0 := blk_frozen BK135.out 0
      have hfz24_1 := blk_frozen BK135.out 1
      have hfz24_2 := blk_frozen BK135.out 2
      have hfz24_3 := blk_frozen BK135.out 3
      have hfz24_4 := blk_frozen BK135.out 4
      go_wp2_with (first | (go_at_call 62; (with_reducible refine (spec_l1Heads.calls kj2 a0_1 t138 _ A19.out).mono ?_); rintro e w' ⟨rfl, ⟨nd, rfl⟩⟩; (try first | exact ⟨rfl, _, World.drewN_drewN _ _ _⟩ | exact ⟨rfl, _, Eq.trans (World.drewN_drewN _ _ _) (congrArg (World.drewN _) (Nat.add_assoc _ _ _))⟩)) | (go_at_call 62; (with_reducible refine (spec_l1Heads.calls kj2 a1_1 t139 _ A20.out).mono ?_); rintro e w' ⟨rfl, ⟨nd, rfl⟩⟩; (try first | exact ⟨rfl, _, World.drewN_drewN _ _ _⟩ | exact ⟨rfl, _, Eq.trans (World.drewN_drewN _ _ _) (congrArg (World.drewN _) (Nat.add_assoc _ _ _))⟩)))
      repeat (go_quiet (first | (go_at_call 62; (with_reducible refine (spec_l1Heads.calls kj2 a0_1 t138 _ A19.out).mono ?_); rintro e w' ⟨rfl, ⟨nd, rfl⟩⟩; (try first | exact ⟨rfl, _, World.drewN_drewN _ _ _⟩ | exact ⟨rfl, _, Eq.trans (World.drewN_drewN _ _ _) (congrArg (World.drewN _) (Nat.add_assoc _ _ _))⟩)) | (go_at_call 62; (with_reducible refine (spec_l1Heads.calls kj2 a1_1 t139 _ A20.out).mono ?_); rintro e w' ⟨rfl, ⟨nd, rfl⟩⟩; (try first | exact ⟨rfl, _, World.drewN_drewN _ _ _⟩ | exact ⟨rfl, _, Eq.trans (World.drewN_drewN _ _ _) (congrArg (World.drewN _) (Nat.add_assoc _ _ _))⟩))); try go_wp2_with (first | (go_at_call 62; (with_reducible refine (spec_l1Heads.calls kj2 a0_1 t138 _ A19.out).mono ?_); rintro e w' ⟨rfl, ⟨nd, rfl⟩⟩; (try first | exact ⟨rfl, _, World.drewN_drewN _ _ _⟩ | exact ⟨rfl, _, Eq.trans (World.drewN_drewN _ _ _) (congrArg (World.drewN _) (Nat.add_assoc _ _ _))⟩)) | (go_at_call 62; (with_reducible refine (spec_l1Heads.calls kj2 a1_1 t139 _ A20.out).mono ?_); rintro e w' ⟨rfl, ⟨nd, rfl⟩⟩; (try first | exact ⟨rfl, _, World.drewN_drewN _ _ _⟩ | exact ⟨rfl, _, Eq.trans (World.drewN_drewN _ _ _) (congrArg (World.drewN _) (Nat.add_assoc _ _ _))⟩))))
      go_ret
      exact ⟨by first | rfl | (simp [errW_none, errW_some] <;> rfl) | (simp [*, errW_none, errW_some] <;> rfl), by exact bh⟩
     ·rw [if_neg c21] at H
      have c21b0 : (t138 == t139) = false := beq_eq_false_iff_ne.mpr c21
      have c21b1 : (t138 != t139) = true := bne_iff_ne.mpr c21
      obtain rfl := Option.some.inj H
      have hnb25 := NB134_135.out
      have hnc25 := NB135_134.out
      have hcz26_0 := cz0 BK134
      have hcz26_1 := cz1 BK134
      have hcz26_2 := cz2 BK134
      have hcz26_3 := cz3 BK134
      have hcz26_4 := cz4 BK134
      have hfz26_0 := blk_frozen BK134.out 0
      have hfz26_1 := blk_frozen BK134.out 1
      have hfz26_2 := blk_frozen BK134.out 2
      have hfz26_3 := blk_frozen BK134.out 3
      have hfz26_4 := blk_frozen BK134.out 4
      have hcz27_0 := cz0 BK135
      have hcz27_1 := cz1 BK135
      have hcz27_2 := cz2 BK135
      have hcz27_3 := cz3 BK135
      have hcz27_4 := cz4 BK135
      have hfz27_0 := blk_frozen BK135.out 0
      have hfz27_1 := blk_frozen BK135.out 1
      have hfz27_2 := blk_frozen BK135.out 2
      have hfz27_3 := blk_frozen BK135.out 3
      have hfz27_4 := blk_frozen BK135.out 4
      go_wp2_with (first | (go_at_call 62; (with_reducible refine (spec_l1Heads.calls kj2 a0_1 t138 _ A19.out).mono ?_); rintro e w' ⟨rfl, ⟨nd, rfl⟩⟩; (try first | exact ⟨rfl, _, World.drewN_drewN _ _ _⟩ | exact ⟨rfl, _, Eq.trans (World.drewN_drewN _ _ _) (congrArg (World.drewN _) (Nat.add_assoc _ _ _))⟩)) | (go_at_call 62; (with_reducible refine (spec_l1Heads.calls kj2 a1_1 t139 _ A20.out).mono ?_); rintro e w' ⟨rfl, ⟨nd, rfl⟩⟩; (try first | exact ⟨rfl, _, World.drewN_drewN _ _ _⟩ | exact ⟨rfl, _, Eq.trans (World.drewN_drewN _ _ _) (congrArg (World.drewN _) (Nat.add_assoc _ _ _))⟩)))
      repeat (go_quiet (first | (go_at_call 62; (with_reducible refine (spec_l1Heads.calls kj2 a0_1 t138 _ A19.out).mono ?_); rintro e w' ⟨rfl, ⟨nd, rfl⟩⟩; (try first | exact ⟨rfl, _, World.drewN_drewN _ _ _⟩ | exact ⟨rfl, _, Eq.trans (World.drewN_drewN _ _ _) (congrArg (World.drewN _) (Nat.add_assoc _ _ _))⟩)) | (go_at_call 62; (with_reducible refine (spec_l1Heads.calls kj2 a1_1 t139 _ A20.out).mono ?_); rintro e w' ⟨rfl, ⟨nd, rfl⟩⟩; (try first | exact ⟨rfl, _, World.drewN_drewN _ _ _⟩ | exact ⟨rfl, _, Eq.trans (World.drewN_drewN _ _ _) (congrArg (World.drewN _) (Nat.add_assoc _ _ _))⟩))); try go_wp2_with (first | (go_at_call 62; (with_reducible refine (spec_l1Heads.calls kj2 a0_1 t138 _ A19.out).mono ?_); rintro e w' ⟨rfl, ⟨nd, rfl⟩⟩; (try first | exact ⟨rfl, _, World.drewN_drewN _ _ _⟩ | exact ⟨rfl, _, Eq.trans (World.drewN_drewN _ _ _) (congrArg (World.drewN _) (Nat.add_assoc _ _ _))⟩)) | (go_at_call 62; (with_reducible refine (spec_l1Heads.calls kj2 a1_1 t139 _ A20.out).mono ?_); rintro e w' ⟨rfl, ⟨nd, rfl⟩⟩; (try first | exact ⟨rfl, _, World.drewN_drewN _ _ _⟩ | exact ⟨rfl, _, Eq.trans (World.drewN_drewN _ _ _) (congrArg (World.drewN _) (Nat.add_assoc _ _ _))⟩))))
      go_ret
      exact ⟨by first | rfl | (simp [errW_none, errW_some] <;> rfl) | (simp [*, errW_none, errW_some] <;> rfl), by exact bh⟩
    ·rw [if_neg c18] at H
     have c18b0 : (a0_2 == a1_2) = false := beq_eq_false_iff_ne.mpr c18
     have c18b1 : (a0_2 != a1_2) = true := bne_iff_ne.mpr c18
     obtain rfl := Option.some.inj H
     have hnb28 := NB134_135.out
     have hnc28 := NB135_134.out
     have hcz29_0 := cz0 BK134
     have hcz29_1 := cz1 BK134
     have hcz29_2 := cz2 BK134
     have hcz29_3 := cz3 BK134
     have hcz29_4 := cz4 BK134
     have hfz29_0 := blk_frozen BK134.out 0
     have hfz29_1 := blk_frozen BK134.out 1
     have hfz29_2 := blk_frozen BK134.out 2
     have hfz29_3 := blk_frozen BK134.out 3
     have hfz29_4 := blk_frozen BK134.out 4
     have hcz30_0 := cz0 BK135
     have hcz30_1 := cz1 BK135
     have hcz30_2 := cz2 BK135
     have hcz30_3 := cz3 BK135
     have hcz30_4 := cz4 BK135
     have hfz30_0 := blk_frozen BK135.out 0
     have hfz30_1 := blk_frozen BK135.out 1
     have hfz30_2 := blk_frozen BK135.out 2
     have hfz30_3 := blk_frozen BK135.out 3
     have hfz30_4 := blk_frozen BK135.out 4
     go_wp2
     repeat (go_quiet (fail); try go_wp2)
     go_ret
     exact ⟨by first | rfl | (simp [errW_none, errW_some] <;> rfl) | (simp [*, errW_none, errW_some] <;> rfl), by exact bh⟩

end Go.Proofs.Ytnandbgcejkonaa.QFnExactIdleLaws
