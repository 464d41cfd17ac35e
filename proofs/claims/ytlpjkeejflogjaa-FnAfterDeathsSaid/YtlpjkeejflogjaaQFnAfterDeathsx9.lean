-- Printed for this claim by a turned copy of the print (wip/myprint). Lean checks it. Squeezed. Worded. Tightened.
import Derived.Test.YtlpjkeejflogjaaQFnAfterDeathsx0
import Derived.Test.YtlpjkeejflogjaaQFnAfterDeathsx7
import Derived.Test.YtlpjkeejflogjaaQFnAfterDeathsx8
namespace Go.Proofs.Ytlpjkeejflogjaa.QFnAfterDeaths
open Go.RowKit Go.Proofs.YtlpjkeejflogjaaW.PrintWords Go.Proofs.YtlpjkeejflogjaaW.PrintLast Go.Proofs.YtlpjkeejflogjaaW.PrintMore
attribute [local go_sem] max2_int min2_int max_two min_two max_three min_three max_four min_four Opens.cell_twice   -- for this text's walks alone
set_option linter.unusedVariables false
set_option linter.unusedSimpArgs false

/-! ### spec_l20Open: function 57 -/
def spec_l20Open.f (l0 : List Int) : Option (List Int × Int) := if (l0.length : Int) > 2000 then (if 2000 ≤ (l0.length : Int) then (some (l0.take 2000, 0)) else (none)) else (some (l0, 0))
set_option maxHeartbeats 8000000 in
set_option maxRecDepth 100000 in
theorem spec_l20Open.calls (A0 : Option Addr) (c0 : Nat) (l0 : List Int) (r1 : List Int) (r2 : Int) (w0 w : World) (hB : Below w0.heap.size w0 w) (hr0 : Kd.C (Kd.int .u8) w0 A0 l0.length l0) (hc0 : l0.length ≤ c0) (h : spec_l20Open.f l0 = some (r1, r2)) :
  Calls Try.prog 57 #[.slice A0 l0.length c0] w fun e w' => ∃ g_ : Nat, e = .returned (.pointer (some ⟨g_, 0, none⟩)) ∧ IsS67 w0 w' g_ r1 r2 ∧ Below w0.heap.size w0 w' ∧ Below w.heap.size w w' := by
 have hu67 := Try.underlying67
 have HR0 := Aside0.mk hr0
 have HC0 := Aside0.mk hc0
 clear hr0 hc0
 have HBW := Aside0.mk (Below.refl w.heap.size w)
 have HW0 := Aside0.mk hB.size
 have HB := Aside0.mk hB
 clear hB
 have H : (if (l0.length : Int) > 2000 then (if 2000 ≤ (l0.length : Int) then (some (l0.take 2000, 0)) else (none)) else (some (l0, 0))) = some (r1, r2) := h
 clear h
 by_cases c2 : (l0.length : Int) > 2000
 ·rw [if_pos c2] at H
  have c2b0 : decide (2000 < (l0.length : Int)) = true := decide_eq_true c2
  have c2b1 : decide (2000 < l0.length) = true := decide_eq_true (by omega)
  clear c2
  by_cases c3 : 2000 ≤ (l0.length : Int)
  ·rw [if_pos c3] at H
   have c3b0 := eq_true c3
   have c3b1 : decide (2000 ≤ (l0.length : Int)) = true := decide_eq_true c3
   clear c3
   simp only [Option.some.injEq, Prod.mk.injEq] at H
   obtain ⟨rfl, rfl⟩ := H
   obtain ⟨i04, hi04, _, hsz4, _⟩ := info_parts info5
   obtain ⟨hcut4, hA4, hC4⟩ := print_take_of (P := Try.prog) (Value.int .u8) 0 32 5 .i64 Try.underlying32 hi04 hsz4 A0 c0 l0 2000 (by omega) oda HC0.out
   have HR258 := Aside0.mk (Kd.C_of_reads (h1 := fun _ => rfl) (hA4 _ (Kd.reads_of_C HR0.out)))
   have HC258 := Aside0.mk hC4
   clear hA4 hC4 hi04 hsz4
   go_enter Try.func57, Try.ntmps57
   go_wp2_with (first | ((with_reducible refine gate_dst (N := 10) rfl ?_); refine box_event ?hg (N := 10) ?hd (cs := #[.slice A0 (l0.take 2000).length c0, .int .i64 0]) (t := 67) ?hr ?_; (case hd => rfl); (case hg => rfl); (case hr => first | (go_simp; done) | (go_simp; rfl)); intro gb259 hg w5 hbox hb; have n0_ := Aside0.mk (below_step HBW.out hb); have n1_ := Aside0.mk (below_step bh hb); have n2_ := Aside0.mk (hbox); have n3_ := Aside0.mk ((by rw [hg]; exact (below_size (by repeat (first | (with_reducible first | exact HBW.out | apply below_alloc | apply pw_below_drewN | apply below_drew1) | exact HBW.out))) : w.heap.size ≤ gb259)); have n4_ := Aside0.mk ((Nat.le_trans HW0.out (by rw [hg]; exact (below_size (by repeat (first | (with_reducible first | exact HBW.out | apply below_alloc | apply pw_below_drewN | apply below_drew1) | exact HBW.out))) : w.heap.size ≤ gb259) : w0.heap.size ≤ gb259)); clear HBW HB; have HBW := n0_; have HB := n1_; have BK259 := n2_; have GW259 := n3_; have GE259 := n4_; clear n0_ n1_ n2_ n3_ n4_ hb hbox hg))
   go_ret
   exact ⟨_, rfl, (show IsS67 w0 _ gb259 (l0.take 2000) 0 from ⟨_, _, by (with_reducible repeat (first | refine blk_drewN ?_ _ | refine blk_drew ?_ | refine blk_alloc ?_ _)); exact BK259.out, GE259.out, HR258.out⟩), by repeat (first | (with_reducible first | exact HB.out | apply below_alloc | apply pw_below_drewN | apply below_drew1 | refine below_set ?_ GE259.out) | exact HB.out), by repeat (first | (with_reducible first | exact HBW.out | apply below_alloc | apply pw_below_drewN | apply below_drew1 | refine below_set ?_ GW259.out) | exact HBW.out)⟩
  ·rw [if_neg c3] at H
   exact absurd H (by simp)
 ·rw [if_neg c2] at H
  have c2b0 : decide (2000 < (l0.length : Int)) = false := decide_eq_false c2
  have c2b1 : decide (2000 < l0.length) = false := decide_eq_false (by omega)
  clear c2
  simp only [Option.some.injEq, Prod.mk.injEq] at H
  obtain ⟨rfl, rfl⟩ := H
  go_enter Try.func57, Try.ntmps57
  go_wp2_with (first | ((with_reducible refine gate_dst (N := 10) rfl ?_); refine box_event ?hg (N := 10) ?hd (cs := #[.slice A0 l0.length c0, .int .i64 0]) (t := 67) ?hr ?_; (case hd => rfl); (case hg => rfl); (case hr => first | (go_simp; done) | (go_simp; rfl)); intro gb260 hg w6 hbox hb; have n0_ := Aside0.mk (below_step HBW.out hb); have n1_ := Aside0.mk (below_step bh hb); have n2_ := Aside0.mk (hbox); have n3_ := Aside0.mk ((by rw [hg]; exact (below_size (by repeat (first | (with_reducible first | exact HBW.out | apply below_alloc | apply pw_below_drewN | apply below_drew1) | exact HBW.out))) : w.heap.size ≤ gb260)); have n4_ := Aside0.mk ((Nat.le_trans HW0.out (by rw [hg]; exact (below_size (by repeat (first | (with_reducible first | exact HBW.out | apply below_alloc | apply pw_below_drewN | apply below_drew1) | exact HBW.out))) : w.heap.size ≤ gb260) : w0.heap.size ≤ gb260)); clear HBW HB; have HBW := n0_; have HB := n1_; have BK260 := n2_; have GW260 := n3_; have GE260 := n4_; clear n0_ n1_ n2_ n3_ n4_ hb hbox hg))
  go_ret
  exact ⟨_, rfl, (show IsS67 w0 _ gb260 l0 0 from ⟨_, _, by (with_reducible repeat (first | refine blk_drewN ?_ _ | refine blk_drew ?_ | refine blk_alloc ?_ _)); exact BK260.out, GE260.out, HR0.out⟩), by repeat (first | (with_reducible first | exact HB.out | apply below_alloc | apply pw_below_drewN | apply below_drew1 | refine below_set ?_ GE260.out) | exact HB.out), by repeat (first | (with_reducible first | exact HBW.out | apply below_alloc | apply pw_below_drewN | apply below_drew1 | refine below_set ?_ GW260.out) | exact HBW.out)⟩

/-! ### spec_DrawAfterDeaths: function 31 -/
def spec_DrawAfterDeaths.l0 : Nat → List Int → Int → List Int → Int → Int → List (List Int) → List Int → Int → Option (Int × (List (List Int)) × List Int × Int × List Int)
 | 0, _, _, _, _, _, _, _, _ => none
 | k + 1, x6, x7, x265000, x265001, x275000, x275001, x275002, x275003 => if x7 > 0 then ((spec_l20Rd_pick.f k x265000 x265001 (mx x275000 1)).bind fun bt282 => (if x6.length < 17592186044416 then (spec_DrawAfterDeaths.l0 k (x6 ++ [bt282.1]) (wrap64 (x7 - 1)) x265000 bt282.2 x275000 x275001 x275002 x275003) else (none))) else (some (x275000, x275001, x275002, x275003, x6))
def spec_DrawAfterDeaths.f (k : Nat) (l0 : List Int) : Option (Int × (List (List Int)) × List Int × Int × List Int) := (spec_l20Open.f l0).bind fun bt262 => ((spec_l20Court.f k bt262.1 bt262.2 12).bind fun bt265 => ((spec_l20Rd_pick.f k bt262.1 bt265.2.2.2.2 6).bind fun bt278 => ((spec_l20Rd_pick.f k bt262.1 bt278.2 40).bind fun bt280 => (spec_DrawAfterDeaths.l0 k (([] : List Int)) (wrap64 (bt278.1 + (wrap64 ((wrap64 (Int.tdiv bt280.1 39)) * 20)))) bt262.1 bt280.2 bt265.1 bt265.2.1 bt265.2.2.1 bt265.2.2.2.1))))
theorem spec_DrawAfterDeaths.mono_l : ∀ k, (∀ y0 y1 y2 y3 y4 y5 y6 y7, LeO (spec_DrawAfterDeaths.l0 k y0 y1 y2 y3 y4 y5 y6 y7) (spec_DrawAfterDeaths.l0 (k + 1) y0 y1 y2 y3 y4 y5 y6 y7))
 | 0 => fun _ _ _ _ _ _ _ _ r h => by simp [spec_DrawAfterDeaths.l0] at h
 | k + 1 => by
  have ih0 := spec_DrawAfterDeaths.mono_l k
  ·intro y0 y1 y2 y3 y4 y5 y6 y7
   unfold spec_DrawAfterDeaths.l0
   repeat' first
   | (with_reducible exact ih0 _ _ _ _ _ _ _ _)
   | (with_reducible exact spec_l20Court.mono _ _ _ _)
   | (with_reducible exact spec_l20Rd_pick.mono _ _ _ _)
   | (with_reducible exact LeO.refl _)
   | (with_reducible exact LeO.none _)
   | (with_reducible refine LeO.ite ?_ ?_)
   | (with_reducible refine LeO.bind ?_ (fun _ => ?_))
   | exact ih0 _ _ _ _ _ _ _ _
   | exact spec_l20Court.mono _ _ _ _
   | exact spec_l20Rd_pick.mono _ _ _ _
   | exact LeO.none _
   | refine LeO.ite ?_ ?_
   | refine LeO.bind ?_ (fun _ => ?_)
theorem spec_DrawAfterDeaths.mono : ∀ a0 k, LeO (spec_DrawAfterDeaths.f k a0) (spec_DrawAfterDeaths.f (k + 1) a0) := by
 intro a0 k
 have ih0 := spec_DrawAfterDeaths.mono_l k
 unfold spec_DrawAfterDeaths.f
 repeat' first
   | (with_reducible exact ih0 _ _ _ _ _ _ _ _)
   | (with_reducible exact spec_l20Court.mono _ _ _ _)
   | (with_reducible exact spec_l20Rd_pick.mono _ _ _ _)
   | (with_reducible exact LeO.refl _)
   | (with_reducible exact LeO.none _)
   | (with_reducible refine LeO.ite ?_ ?_)
   | (with_reducible refine LeO.bind ?_ (fun _ => ?_))
   | exact ih0 _ _ _ _ _ _ _ _
   | exact spec_l20Court.mono _ _ _ _
   | exact spec_l20Rd_pick.mono _ _ _ _
   | exact LeO.none _
   | refine LeO.ite ?_ ?_
   | refine LeO.bind ?_ (fun _ => ?_)
set_option maxHeartbeats 8000000 in
set_option maxRecDepth 100000 in
theorem spec_DrawAfterDeaths.calls (k : Nat) (A0 : Option Addr) (c0 : Nat) (l0 : List Int) (r1 : Int) (r2 : List (List Int)) (r3 : List Int) (r4 : Int) (r5 : List Int) (w : World) (hr0 : Kd.C (Kd.int .u8) w A0 l0.length l0) (hc0 : l0.length ≤ c0) (h : spec_DrawAfterDeaths.f k l0 = some (r1, r2, r3, r4, r5)) :
  Calls Try.prog 31 #[.slice A0 l0.length c0] w fun e w' => ∃ v1_ v2_ v4_ : Value, e = .returned (.tuple #[.agg #[.int .i64 r1, v1_, v2_, .int .i64 r4], v4_]) ∧ Kd.S (Kd.slice 3 (Kd.int .i64)) 23 w' w.heap.size (fun k_ => some k_ ≠ (v2_ : Value).ownBlock ∧ some k_ ≠ (v4_ : Value).ownBlock) v1_ r2 ∧ Kd.R (Kd.int .i64) 3 w' w.heap.size (fun k_ => some k_ ≠ (v4_ : Value).ownBlock) v2_ r3 ∧ Kd.R (Kd.int .i64) 3 w' w.heap.size (fun k_ => some k_ ≠ (v2_ : Value).ownBlock) v4_ r5 ∧ Below w.heap.size w w' := by
 have hu28 := Try.underlying28
 have HR0 := Aside0.mk hr0
 have HC0 := Aside0.mk hc0
 clear hr0 hc0
 have HB := Aside0.mk (Below.refl w.heap.size w)
 have H : ((spec_l20Open.f l0).bind fun bt262 => ((spec_l20Court.f k bt262.1 bt262.2 12).bind fun bt265 => ((spec_l20Rd_pick.f k bt262.1 bt265.2.2.2.2 6).bind fun bt278 => ((spec_l20Rd_pick.f k bt262.1 bt278.2 40).bind fun bt280 => (spec_DrawAfterDeaths.l0 k (([] : List Int)) (wrap64 (bt278.1 + (wrap64 ((wrap64 (Int.tdiv bt280.1 39)) * 20)))) bt262.1 bt280.2 bt265.1 bt265.2.1 bt265.2.2.1 bt265.2.2.2.1))))) = some (r1, r2, r3, r4, r5) := h
 clear h
 replace H := Option.bind_eq_some_iff.mp H
 obtain ⟨⟨t262, t263⟩, A20, H⟩ := H
 replace H : ((spec_l20Court.f k t262 t263 12).bind fun bt265 => ((spec_l20Rd_pick.f k t262 bt265.2.2.2.2 6).bind fun bt278 => ((spec_l20Rd_pick.f k t262 bt278.2 40).bind fun bt280 => (spec_DrawAfterDeaths.l0 k (([] : List Int)) (wrap64 (bt278.1 + (wrap64 ((wrap64 (Int.tdiv bt280.1 39)) * 20)))) t262 bt280.2 bt265.1 bt265.2.1 bt265.2.2.1 bt265.2.2.2.1)))) = some (r1, r2, r3, r4, r5) := H
 have A2 := Aside0.mk A20
 clear A20
 replace H := Option.bind_eq_some_iff.mp H
 obtain ⟨⟨t265, t266, t269, t272, t273⟩, A30, H⟩ := H
 replace H : ((spec_l20Rd_pick.f k t262 t273 6).bind fun bt278 => ((spec_l20Rd_pick.f k t262 bt278.2 40).bind fun bt280 => (spec_DrawAfterDeaths.l0 k (([] : List Int)) (wrap64 (bt278.1 + (wrap64 ((wrap64 (Int.tdiv bt280.1 39)) * 20)))) t262 bt280.2 t265 t266 t269 t272))) = some (r1, r2, r3, r4, r5) := H
 have A3 := Aside0.mk A30
 clear A30
 obtain ⟨y275, hy275⟩ : ∃ y_ : List Int, y_ = (([] : List Int)) := ⟨_, rfl⟩
 replace H : ((spec_l20Rd_pick.f k t262 t273 6).bind fun bt278 => ((spec_l20Rd_pick.f k t262 bt278.2 40).bind fun bt280 => (spec_DrawAfterDeaths.l0 k y275 (wrap64 (bt278.1 + (wrap64 ((wrap64 (Int.tdiv bt280.1 39)) * 20)))) t262 bt280.2 t265 t266 t269 t272))) = some (r1, r2, r3, r4, r5) := by first | (rw [hy275]; with_reducible exact H) | (have H2_ := (Option.bind_some _ _).symm.trans H; rw [hy275]; with_reducible exact H2_) | (have H2_ := (Option.bind_some _ _).symm.trans H; with_reducible exact H2_) | with_reducible exact H | (rw [hy275]; exact H) | exact H
 have Ny275 := Aside0.mk hy275
 clear hy275
 replace H := Option.bind_eq_some_iff.mp H
 obtain ⟨⟨t278, t279⟩, A40, H⟩ := H
 replace H : ((spec_l20Rd_pick.f k t262 t279 40).bind fun bt280 => (spec_DrawAfterDeaths.l0 k y275 (wrap64 (t278 + (wrap64 ((wrap64 (Int.tdiv bt280.1 39)) * 20)))) t262 bt280.2 t265 t266 t269 t272)) = some (r1, r2, r3, r4, r5) := H
 have A4 := Aside0.mk A40
 clear A40
 replace H := Option.bind_eq_some_iff.mp H
 obtain ⟨⟨t280, t281⟩, A50, H⟩ := H
 replace H : (spec_DrawAfterDeaths.l0 k y275 (wrap64 (t278 + (wrap64 ((wrap64 (Int.tdiv t280 39)) * 20)))) t262 t281 t265 t266 t269 t272) = some (r1, r2, r3, r4, r5) := H
 have A5 := Aside0.mk A50
 clear A50
 have H' := Aside0.mk H
 clear H
 go_enter Try.func31, Try.ntmps31
 go_wp2_with (first | ((with_reducible refine gate_dst (N := 2) rfl ?_); refine box_event ?hg (N := 2) ?hd (cs := #[.int .i64 0, .slice none 0 0, .slice none 0 0, .int .i64 0]) (t := 28) ?hr ?_; (case hd => rfl); (case hg => rfl); (case hr => first | (go_simp; done) | (go_simp; rfl)); intro gb261 hg w6 hbox hb; have n0_ := Aside0.mk (below_step bh hb); have n1_ := Aside0.mk (hbox); have n2_ := Aside0.mk ((gs (W0 := w) hg bh)); have n3_ := Aside0.mk ((gs (W0 := w) hg bh)); clear HB; have HB := n0_; have BK261 := n1_; have GW261 := n2_; have GE261 := n3_; clear n0_ n1_ n2_ n3_ hb hbox hg) | ((with_reducible refine gate_callee (f := 57) rfl ?_); refine goesL_ (some 9) rfl rfl Try.func57 kr rfl #[.slice A0 l0.length c0] rfl lm ?_; (with_reducible refine (spec_l20Open.calls _ _ l0 t262 t263 w _ ?side1 ?side2 ?side3 A2.out).mono ?_); (case side1 => repeat (first | (with_reducible first | exact HB.out | apply below_alloc | apply pw_below_drewN | apply below_drew1 | refine below_set ?_ GE261.out) | exact HB.out)); (case side2 => exact HR0.out); (case side3 => exact HC0.out); rintro e w7 ⟨g264, rfl, hi, hb, hb2⟩; refine ⟨_, rfl, ?_⟩; have n0_ := Aside0.mk (blk_below (bz BK261) hb2); have n1_ := Aside0.mk (hb); have n2_ := Aside0.mk (hi); have n3_ := Aside0.mk (IsS67.ne_blk hi (blk_below (bz BK261) hb2) (by decide)); have n4_ := Aside0.mk (Ne.symm (IsS67.ne_blk hi (blk_below (bz BK261) hb2) (by decide))); clear BK261 HB; have BK261 := n0_; have HB := n1_; have HI264 := n2_; have NB264_261 := n3_; have NB261_264 := n4_; clear n0_ n1_ n2_ n3_ n4_; (try clear hb); (try clear hb2); (try clear hk); (try clear hi)) | ((with_reducible refine gate_callee (f := 56) rfl ?_); refine goesL_ (some 11) rfl rfl Try.func56 kr rfl #[.pointer (some ⟨g264, 0, none⟩), .int .i64 12] rfl lm ?_; (with_reducible refine (spec_l20Court.calls k g264 t262 t263 12 t265 t266 t269 t272 t273 w _ ?side1 ?side2 A3.out).mono ?_); (case side1 => repeat (first | (with_reducible first | exact HI264.out | apply IsS67.alloc | apply IsS67.drewN | apply IsS67.drew | apply IsS67.set_1 | refine IsS67.far ?_ NB264_261.out _) | exact HI264.out)); (case side2 => repeat (first | (with_reducible first | exact HB.out | apply below_alloc | apply pw_below_drewN | apply below_drew1 | refine below_set ?_ (IsS67.ge HI264.out) | refine below_set ?_ GE261.out) | exact HB.out)); rintro e w8 ⟨v267, v270, rfl, ho0, ho1, hi, hb, hk⟩; refine ⟨_, rfl, ?_⟩; have n0_ := Aside0.mk (KeepBut.blk hk (bz BK261) NB261_264.out (by simp)); have n1_ := Aside0.mk (Kd.S_lower ho0 (below_size (by repeat (first | (with_reducible first | exact HB.out | apply below_alloc | apply pw_below_drewN | apply below_drew1 | refine below_set ?_ (IsS67.ge HI264.out) | refine below_set ?_ GE261.out) | exact HB.out)))); have n2_ := Aside0.mk (Kd.R_lower ho1 (below_size (by repeat (first | (with_reducible first | exact HB.out | apply below_alloc | apply pw_below_drewN | apply below_drew1 | refine below_set ?_ (IsS67.ge HI264.out) | refine below_set ?_ GE261.out) | exact HB.out)))); have n3_ := Aside0.mk (hb); have n4_ := Aside0.mk (hi); clear BK261 HB HI264; have BK261 := n0_; have HO268 := n1_; have HO271 := n2_; have HB := n3_; have HI264 := n4_; clear n0_ n1_ n2_ n3_ n4_; (try clear hb); (try clear hb2); (try clear hk); (try clear hi); (try clear ho0); (try clear ho1)) | ((with_reducible refine gate_dst (N := 5) rfl ?_); refine box_event ?hg (N := 5) ?hd (cs := #[.int .i64 0, .slice none 0 0, .slice none 0 0, .int .i64 0]) (t := 28) ?hr ?_; (case hd => rfl); (case hg => rfl); (case hr => first | (go_simp; done) | (go_simp; rfl)); intro gb274 hg w9 hbox hb; have n0_ := Aside0.mk (Kd.S_below (sz HO268) hb); have n1_ := Aside0.mk (Kd.R_below (rz HO271) hb); have n2_ := Aside0.mk (blk_below (bz BK261) hb); have n3_ := Aside0.mk (IsS67.below (by repeat (first | (with_reducible first | exact HI264.out | apply IsS67.alloc | apply IsS67.drewN | apply IsS67.drew | apply IsS67.set_1 | refine IsS67.far ?_ NB264_261.out _) | exact HI264.out)) hb); have n4_ := Aside0.mk (below_step (by repeat (first | (with_reducible first | exact HB.out | apply below_alloc | apply pw_below_drewN | apply below_drew1 | refine below_set ?_ (IsS67.ge HI264.out) | refine below_set ?_ GE261.out) | exact HB.out)) hb); have n5_ := Aside0.mk (hbox); have n6_ := Aside0.mk ((by rw [hg]; exact (below_size (by repeat (first | (with_reducible first | exact HB.out | apply below_alloc | apply pw_below_drewN | apply below_drew1 | refine below_set ?_ (IsS67.ge HI264.out) | refine below_set ?_ GE261.out) | exact HB.out))) : w.heap.size ≤ gb274)); have n7_ := Aside0.mk ((by rw [hg]; exact (below_size (by repeat (first | (with_reducible first | exact HB.out | apply below_alloc | apply pw_below_drewN | apply below_drew1 | refine below_set ?_ (IsS67.ge HI264.out) | refine below_set ?_ GE261.out) | exact HB.out))) : w.heap.size ≤ gb274)); have n8_ := Aside0.mk ((gn hg (bz BK261))); have n9_ := Aside0.mk ((gm hg (bz BK261))); have n10_ := Aside0.mk ((by rw [hg]; exact Nat.ne_of_lt (IsS67.lt (show IsS67 w _ g264 t262 t273 from by repeat (first | (with_reducible first | exact HI264.out | apply IsS67.alloc | apply IsS67.drewN | apply IsS67.drew | apply IsS67.set_1 | refine IsS67.far ?_ NB264_261.out _) | exact HI264.out))) : g264 ≠ gb274)); have n11_ := Aside0.mk ((by rw [hg]; exact Nat.ne_of_gt (IsS67.lt (show IsS67 w _ g264 t262 t273 from by repeat (first | (with_reducible first | exact HI264.out | apply IsS67.alloc | apply IsS67.drewN | apply IsS67.drew | apply IsS67.set_1 | refine IsS67.far ?_ NB264_261.out _) | exact HI264.out))) : gb274 ≠ g264)); clear HO268 HO271 BK261 HI264 HB; have HO268 := n0_; have HO271 := n1_; have BK261 := n2_; have HI264 := n3_; have HB := n4_; have BK274 := n5_; have GW274 := n6_; have GE274 := n7_; have NB261_274 := n8_; have NB274_261 := n9_; have NB264_274 := n10_; have NB274_264 := n11_; clear n0_ n1_ n2_ n3_ n4_ n5_ n6_ n7_ n8_ n9_ n10_ n11_ hb hbox hg; have hnb10 := NB274_261.out; have hnc10 := NB261_274.out; have hnb11 := NB274_264.out; have hnc11 := NB264_274.out; have hcz12_0 := cz0 BK274; have hcz12_1 := cz1 BK274; have hcz12_2 := cz2 BK274; have hcz12_3 := cz3 BK274; have hfz12_0 := blk_frozen BK274.out 0; have hfz12_1 := blk_frozen BK274.out 1; have hfz12_2 := blk_frozen BK274.out 2; have hfz12_3 := blk_frozen BK274.out 3; obtain ⟨Ao13, co13, eo13⟩ := Kd.S_slice HO268.out; subst eo13; obtain ⟨Ao14, co14, eo14⟩ := Kd.R_slice HO271.out; subst eo14) | ((with_reducible refine gate_dst (N := 12) rfl ?_); refine Kd.R_lit (Kd.int .i64) _ 3 ?hg (N := 12) ?hd (xs := ([] : List Int)) (inner := []) (ok := fun _ => True) (okp := fun _ => True) ?hr ?hp (fun _ hk => hk) trivial (Below.refl _ _) (Nat.le_refl _) (by simp) ?_; (case hd => rfl); (case hg => rfl); (case hr => first | (go_simp; done) | (go_simp; rfl)); (case hp => exact (Reps.none _ _)); intro v276 w15 ho16 hb hg_ hnew_; clear hg_ hnew_; (first | rw [← Ny275.out] at ho16 | (simp only [Int.reduceToNat] at ho16; rw [← Ny275.out] at ho16)); have n0_ := Aside0.mk (Kd.S_elder' (fS HO268 BK274) (Kd.R_base ho16) hb); have n1_ := Aside0.mk (Kd.R_elder' (fR HO271 BK274) (Kd.R_base ho16) hb); have n2_ := Aside0.mk (Kd.R_lower (Kd.R_new' ho16 (Kd.R_lt (fR HO271 BK274))) (below_size (by repeat (first | (with_reducible first | exact HB.out | apply below_alloc | apply pw_below_drewN | apply below_drew1 | refine below_set ?_ (IsS67.ge HI264.out) | refine below_set ?_ GE261.out | refine below_set ?_ GE274.out) | exact HB.out)))); have n3_ := Aside0.mk (blk_below (g := gb261) (o := .cells #[.int .i64 0, .slice none 0 0, .slice none 0 0, .int .i64 0] 28 (0, 0)) (bf NB261_274 BK261) hb); have n4_ := Aside0.mk (IsS67.below (show IsS67 w ((((w9.setCell ⟨gb274, 0, none⟩ (.int .i64 t265)).setCell ⟨gb274, 1, none⟩ (.slice Ao13 t266.length co13)).setCell ⟨gb274, 2, none⟩ (.slice Ao14 t269.length co14)).setCell ⟨gb274, 3, none⟩ (.int .i64 t272)) g264 t262 t273 from by repeat (first | (with_reducible first | exact HI264.out | apply IsS67.alloc | apply IsS67.drewN | apply IsS67.drew | apply IsS67.set_1 | refine IsS67.far ?_ NB264_261.out _ | refine IsS67.far ?_ NB264_274.out _) | exact HI264.out)) hb); have n5_ := Aside0.mk (blk_below (g := gb274) (o := .cells #[.int .i64 t265, .slice Ao13 t266.length co13, .slice Ao14 t269.length co14, .int .i64 t272] 28 (0, 0)) (bp BK274) hb); have n6_ := Aside0.mk (below_step (by repeat (first | (with_reducible first | exact HB.out | apply below_alloc | apply pw_below_drewN | apply below_drew1 | refine below_set ?_ (IsS67.ge HI264.out) | refine below_set ?_ GE261.out | refine below_set ?_ GE274.out) | exact HB.out)) hb); clear HO268 HO271 BK261 HI264 BK274 HB; have HO268 := n0_; have HO271 := n1_; have HO277 := n2_; have BK261 := n3_; have HI264 := n4_; have BK274 := n5_; have HB := n6_; clear n0_ n1_ n2_ n3_ n4_ n5_ n6_ hb ho16) | ((with_reducible refine gate_callee (f := 62) rfl ?_); refine goesL_ (some 14) rfl rfl Try.func62 kr rfl #[.pointer (some ⟨g264, 0, none⟩), .int .i64 6] rfl lm ?_; (with_reducible refine (spec_l20Rd_pick.calls k g264 t262 t273 6 t278 t279 w _ ?side1 ?side2 A4.out).mono ?_); (case side1 => repeat (first | (with_reducible first | exact HI264.out | apply IsS67.alloc | apply IsS67.drewN | apply IsS67.drew | apply IsS67.set_1 | refine IsS67.far ?_ NB264_261.out _ | refine IsS67.far ?_ NB264_274.out _) | exact HI264.out)); (case side2 => repeat (first | (with_reducible first | exact HB.out | apply below_alloc | apply pw_below_drewN | apply below_drew1 | refine below_set ?_ (IsS67.ge HI264.out) | refine below_set ?_ GE261.out | refine below_set ?_ GE274.out) | exact HB.out)); rintro e w17 ⟨rfl, hi, hb, hk⟩; refine ⟨_, rfl, ?_⟩; have n0_ := Aside0.mk (KeepBut.blk hk (bz BK261) NB261_264.out (by simp)); have n1_ := Aside0.mk (Kd.S_mono (Kd.S_keep (IsS67.apartS (show IsS67 w _ g264 t262 t273 from by repeat (first | (with_reducible first | exact HI264.out | apply IsS67.alloc | apply IsS67.drewN | apply IsS67.drew | apply IsS67.set_1 | refine IsS67.far ?_ NB264_261.out _ | refine IsS67.far ?_ NB264_274.out _) | exact HI264.out)) (sz HO268) (by decide)) hk (fun _ h => h.2)) (fun _ h => h.1)); have n2_ := Aside0.mk (Kd.R_mono (Kd.R_keep (IsS67.apart (show IsS67 w _ g264 t262 t273 from by repeat (first | (with_reducible first | exact HI264.out | apply IsS67.alloc | apply IsS67.drewN | apply IsS67.drew | apply IsS67.set_1 | refine IsS67.far ?_ NB264_261.out _ | refine IsS67.far ?_ NB264_274.out _) | exact HI264.out)) (rz HO271) (by decide)) hk (fun _ h => h.2)) (fun _ h => h.1)); have n3_ := Aside0.mk (KeepBut.blk hk (bz BK274) NB274_264.out (by simp)); have n4_ := Aside0.mk (Kd.R_mono (Kd.R_keep (IsS67.apart (show IsS67 w _ g264 t262 t273 from by repeat (first | (with_reducible first | exact HI264.out | apply IsS67.alloc | apply IsS67.drewN | apply IsS67.drew | apply IsS67.set_1 | refine IsS67.far ?_ NB264_261.out _ | refine IsS67.far ?_ NB264_274.out _) | exact HI264.out)) (rz HO277) (by decide)) hk (fun _ h => h.2)) (fun _ h => h.1)); have n5_ := Aside0.mk (hb); have n6_ := Aside0.mk (hi); clear BK261 HO268 HO271 BK274 HO277 HB HI264; have BK261 := n0_; have HO268 := n1_; have HO271 := n2_; have BK274 := n3_; have HO277 := n4_; have HB := n5_; have HI264 := n6_; clear n0_ n1_ n2_ n3_ n4_ n5_ n6_; (try clear hb); (try clear hb2); (try clear hk); (try clear hi)) | ((with_reducible refine gate_callee (f := 62) rfl ?_); refine goesL_ (some 16) rfl rfl Try.func62 kr rfl #[.pointer (some ⟨g264, 0, none⟩), .int .i64 40] rfl lm ?_; (with_reducible refine (spec_l20Rd_pick.calls k g264 t262 t279 40 t280 t281 w _ ?side1 ?side2 A5.out).mono ?_); (case side1 => repeat (first | (with_reducible first | exact HI264.out | apply IsS67.alloc | apply IsS67.drewN | apply IsS67.drew | apply IsS67.set_1 | refine IsS67.far ?_ NB264_261.out _ | refine IsS67.far ?_ NB264_274.out _) | exact HI264.out)); (case side2 => repeat (first | (with_reducible first | exact HB.out | apply below_alloc | apply pw_below_drewN | apply below_drew1 | refine below_set ?_ (IsS67.ge HI264.out) | refine below_set ?_ GE261.out | refine below_set ?_ GE274.out) | exact HB.out)); rintro e w18 ⟨rfl, hi, hb, hk⟩; refine ⟨_, rfl, ?_⟩; have n0_ := Aside0.mk (KeepBut.blk hk (bz BK261) NB261_264.out (by simp)); have n1_ := Aside0.mk (Kd.S_mono (Kd.S_keep (IsS67.apartS (show IsS67 w _ g264 t262 t279 from by repeat (first | (with_reducible first | exact HI264.out | apply IsS67.alloc | apply IsS67.drewN | apply IsS67.drew | apply IsS67.set_1 | refine IsS67.far ?_ NB264_261.out _ | refine IsS67.far ?_ NB264_274.out _) | exact HI264.out)) (sz HO268) (by decide)) hk (fun _ h => h.2)) (fun _ h => h.1)); have n2_ := Aside0.mk (Kd.R_mono (Kd.R_keep (IsS67.apart (show IsS67 w _ g264 t262 t279 from by repeat (first | (with_reducible first | exact HI264.out | apply IsS67.alloc | apply IsS67.drewN | apply IsS67.drew | apply IsS67.set_1 | refine IsS67.far ?_ NB264_261.out _ | refine IsS67.far ?_ NB264_274.out _) | exact HI264.out)) (rz HO271) (by decide)) hk (fun _ h => h.2)) (fun _ h => h.1)); have n3_ := Aside0.mk (KeepBut.blk hk (bz BK274) NB274_264.out (by simp)); have n4_ := Aside0.mk (Kd.R_mono (Kd.R_keep (IsS67.apart (show IsS67 w _ g264 t262 t279 from by repeat (first | (with_reducible first | exact HI264.out | apply IsS67.alloc | apply IsS67.drewN | apply IsS67.drew | apply IsS67.set_1 | refine IsS67.far ?_ NB264_261.out _ | refine IsS67.far ?_ NB264_274.out _) | exact HI264.out)) (rz HO277) (by decide)) hk (fun _ h => h.2)) (fun _ h => h.1)); have n5_ := Aside0.mk (hb); have n6_ := Aside0.mk (hi); clear BK261 HO268 HO271 BK274 HO277 HB HI264; have BK261 := n0_; have HO268 := n1_; have HO271 := n2_; have BK274 := n3_; have HO277 := n4_; have HB := n5_; have HI264 := n6_; clear n0_ n1_ n2_ n3_ n4_ n5_ n6_; (try clear hb); (try clear hb2); (try clear hk); (try clear hi)))
 go_loopg [6, 7] k (fun kq v6 v7 w' => ∃ (x6_1 : List Int) (x7_1 : Int) (x265001_1 : Int), v7 = .int .i64 x7_1 ∧ Aside0 (spec_DrawAfterDeaths.l0 kq x6_1 x7_1 t262 x265001_1 t265 t266 t269 t272 = some (r1, r2, r3, r4, r5)) ∧ Aside0 (kq ≤ k) ∧ Aside0 (Kd.R (Kd.int .i64) 3 w' w.heap.size (fun k_ => some k_ ≠ ((.slice Ao14 t269.length co14) : Value).ownBlock) v6 x6_1) ∧ Aside0 (Kd.S (Kd.slice 3 (Kd.int .i64)) 23 w' w.heap.size (fun k_ => some k_ ≠ (v6 : Value).ownBlock ∧ some k_ ≠ ((.slice Ao14 t269.length co14) : Value).ownBlock) (.slice Ao13 t266.length co13) t266) ∧ Aside0 (Kd.R (Kd.int .i64) 3 w' w.heap.size (fun k_ => some k_ ≠ (v6 : Value).ownBlock) (.slice Ao14 t269.length co14) t269) ∧ Aside0 (w'.heap[gb261]? = some (.cells #[.int .i64 0, (.slice none 0 0), (.slice none 0 0), .int .i64 0] 28 (0, 0))) ∧ Aside0 (w'.heap[gb274]? = some (.cells #[.int .i64 t265, (.slice Ao13 t266.length co13), (.slice Ao14 t269.length co14), .int .i64 t272] 28 (0, 0))) ∧ Aside0 (IsS67 w w' g264 t262 x265001_1) ∧ Aside0 (Below w.heap.size w w'))
 case atStart => exact ⟨(y275), (wrap64 (t278 + (wrap64 ((wrap64 (Int.tdiv t280 39)) * 20)))), (t281), (by first | rfl | (simp; done) | (simp [*]; done)), H', ⟨Nat.le_refl _⟩, ⟨mR HO277⟩, ⟨mS HO268⟩, ⟨mR HO271⟩, ⟨bz BK261⟩, ⟨bz BK274⟩, ⟨by repeat (first | (with_reducible first | exact HI264.out | apply IsS67.alloc | apply IsS67.drewN | apply IsS67.drew | apply IsS67.set_1 | refine IsS67.far ?_ NB264_261.out _ | refine IsS67.far ?_ NB264_274.out _) | exact HI264.out)⟩, ⟨by repeat (first | (with_reducible first | exact HB.out | apply below_alloc | apply pw_below_drewN | apply below_drew1 | refine below_set ?_ (IsS67.ge HI264.out) | refine below_set ?_ GE261.out | refine below_set ?_ GE274.out) | exact HB.out)⟩⟩
 case round =>
  clear H'
  try clear c1
  try clear p2
  try clear c3
  try clear c5
  try clear c6
  try clear p6
  try clear c10
  try clear c11
  try clear hcz12_0
  try clear hcz12_1
  try clear hcz12_2
  try clear hcz12_3
  try clear hfz12_0
  try clear hfz12_1
  try clear hfz12_2
  try clear hfz12_3
  obtain ⟨x6_1, x7_1, x265001_1, rfl, HA, HK1, HO_6, HO_275001, HO_275002, BK261, BK274, HI264, HB⟩ := hrel
  cases gk with
  | zero => exact absurd HA.out (by simp [spec_DrawAfterDeaths.l0])
  | succ k1 =>
   have H := HA.out
   clear HA
   simp only [spec_DrawAfterDeaths.l0] at H
   by_cases c19 : x7_1 > 0
   ·rw [if_pos c19] at H
    have c19b0 : decide (0 < x7_1) = true := decide_eq_true c19
    clear c19
    obtain ⟨ji20, hji20⟩ : ∃ j_ : Int, (mx t265 1) = j_ := ⟨_, rfl⟩
    replace H : ((spec_l20Rd_pick.f k1 t262 x265001_1 (ji20)).bind fun bt282 => (if x6_1.length < 17592186044416 then (spec_DrawAfterDeaths.l0 k1 (x6_1 ++ [bt282.1]) (wrap64 (x7_1 - 1)) t262 bt282.2 t265 t266 t269 t272) else (none))) = some (r1, r2, r3, r4, r5) := by first | (rw [hji20] at H; exact H) | (simp only [hji20] at H ⊢; exact H)
    have hji20_ : (if t265 < 1 then 1 else t265) = ji20 := hji20
    replace H := Option.bind_eq_some_iff.mp H
    obtain ⟨⟨t282, t283⟩, A210, H⟩ := H
    replace H : (if x6_1.length < 17592186044416 then (spec_DrawAfterDeaths.l0 k1 (x6_1 ++ [t282]) (wrap64 (x7_1 - 1)) t262 t283 t265 t266 t269 t272) else (none)) = some (r1, r2, r3, r4, r5) := H
    have A21 := Aside0.mk A210
    clear A210
    by_cases c22 : x6_1.length < 17592186044416
    ·rw [if_pos c22] at H
     have LMc22 := Aside0.mk c22
     clear c22
     obtain ⟨y284, hy284⟩ : ∃ y_ : List Int, y_ = (x6_1 ++ [t282]) := ⟨_, rfl⟩
     replace H : (spec_DrawAfterDeaths.l0 k1 y284 (wrap64 (x7_1 - 1)) t262 t283 t265 t266 t269 t272) = some (r1, r2, r3, r4, r5) := by first | (rw [hy284]; with_reducible exact H) | (have H2_ := (Option.bind_some _ _).symm.trans H; rw [hy284]; with_reducible exact H2_) | (have H2_ := (Option.bind_some _ _).symm.trans H; with_reducible exact H2_) | with_reducible exact H | (rw [hy284]; exact H) | exact H
     have Ny284 := Aside0.mk hy284
     clear hy284
     have H' := Aside0.mk H
     clear H
     have hnb23 := NB274_261.out
     have hnc23 := NB261_274.out
     have hnb24 := NB274_264.out
     have hnc24 := NB264_274.out
     have hcz25_0 := cz0 BK274
     have hcz25_1 := cz1 BK274
     have hcz25_2 := cz2 BK274
     have hcz25_3 := cz3 BK274
     have hfz25_0 := blk_frozen BK274.out 0
     have hfz25_1 := blk_frozen BK274.out 1
     have hfz25_2 := blk_frozen BK274.out 2
     have hfz25_3 := blk_frozen BK274.out 3
     go_wp2_with (first | ((with_reducible refine gate_callee (f := 62) rfl ?_); refine goesL_ (some 29) rfl rfl Try.func62 kr rfl #[.pointer (some ⟨g264, 0, none⟩), .int .i64 ji20] rfl (by (try simp only [List.map_toArray, List.map_cons, List.map_nil]); first | done | (simp only [hji20]; rfl) | rfl | (simp only [List.length_drop, List.length_take]; rfl)) ?_; (with_reducible refine (spec_l20Rd_pick.calls k1 g264 t262 x265001_1 ji20 t282 t283 w _ ?side1 ?side2 A21.out).mono ?_); (case side1 => repeat (first | (with_reducible first | exact HI264.out | apply IsS67.alloc | apply IsS67.drewN | apply IsS67.drew | apply IsS67.set_1 | refine IsS67.far ?_ NB264_261.out _ | refine IsS67.far ?_ NB264_274.out _) | exact HI264.out)); (case side2 => repeat (first | (with_reducible first | exact HB.out | apply below_alloc | apply pw_below_drewN | apply below_drew1 | refine below_set ?_ (IsS67.ge HI264.out) | refine below_set ?_ GE261.out | refine below_set ?_ GE274.out) | exact HB.out)); rintro e w26 ⟨rfl, hi, hb, hk⟩; refine ⟨_, rfl, ?_⟩; have n0_ := Aside0.mk (Kd.R_mono (Kd.R_keep (IsS67.apart (show IsS67 w _ g264 t262 x265001_1 from by repeat (first | (with_reducible first | exact HI264.out | apply IsS67.alloc | apply IsS67.drewN | apply IsS67.drew | apply IsS67.set_1 | refine IsS67.far ?_ NB264_261.out _ | refine IsS67.far ?_ NB264_274.out _) | exact HI264.out)) (rz HO_6) (by decide)) hk (fun _ h => h.2)) (fun _ h => h.1)); have n1_ := Aside0.mk (Kd.S_mono (Kd.S_keep (IsS67.apartS (show IsS67 w _ g264 t262 x265001_1 from by repeat (first | (with_reducible first | exact HI264.out | apply IsS67.alloc | apply IsS67.drewN | apply IsS67.drew | apply IsS67.set_1 | refine IsS67.far ?_ NB264_261.out _ | refine IsS67.far ?_ NB264_274.out _) | exact HI264.out)) (sz HO_275001) (by decide)) hk (fun _ h => h.2)) (fun _ h => h.1)); have n2_ := Aside0.mk (Kd.R_mono (Kd.R_keep (IsS67.apart (show IsS67 w _ g264 t262 x265001_1 from by repeat (first | (with_reducible first | exact HI264.out | apply IsS67.alloc | apply IsS67.drewN | apply IsS67.drew | apply IsS67.set_1 | refine IsS67.far ?_ NB264_261.out _ | refine IsS67.far ?_ NB264_274.out _) | exact HI264.out)) (rz HO_275002) (by decide)) hk (fun _ h => h.2)) (fun _ h => h.1)); have n3_ := Aside0.mk (KeepBut.blk hk (bz BK261) NB261_264.out (by simp)); have n4_ := Aside0.mk (KeepBut.blk hk (bz BK274) NB274_264.out (by simp)); have n5_ := Aside0.mk (hb); have n6_ := Aside0.mk (hi); clear HO_6 HO_275001 HO_275002 BK261 BK274 HB HI264; have HO_6 := n0_; have HO_275001 := n1_; have HO_275002 := n2_; have BK261 := n3_; have BK274 := n4_; have HB := n5_; have HI264 := n6_; clear n0_ n1_ n2_ n3_ n4_ n5_ n6_; (try clear hb); (try clear hb2); (try clear hk); (try clear hi)) | ((with_reducible refine gate_builtin (b := .append) (xs := #[.tmp 24, .tmp 30]) rfl ?_); at_builtin; refine Kd.R_append (Kd.int .i64) (w0 := w) w.heap.size rfl (.tmp 24) (.tmp 30) 23 3 (.int .i64 0) 8 rfl Try.underlying23 info3 rfl (by decide) (by omega) u6 x6_1 t282 [.int .i64 t282] (fun k_ => some k_ ≠ (.slice Ao14 t269.length co14 : Value).ownBlock) (fun _ => False) rfl rfl ?aP (fun _ hk => hk.elim) ?aF ?aO ?aB ?aS ?aL ?_; (case aP => exact rfl); (case aB => exact (by repeat (first | (with_reducible first | exact HB.out | apply below_alloc | apply pw_below_drewN | apply below_drew1 | refine below_set ?_ (IsS67.ge HI264.out) | refine below_set ?_ GE261.out | refine below_set ?_ GE274.out) | exact HB.out))); (case aF => exact (fun k_ hk => Kd.fresh' (Kd.R_lt (rz HO_275002)) k_ hk)); (case aO => exact (rz HO_6)); (case aS => exact (below_size (by repeat (first | (with_reducible first | exact HB.out | apply below_alloc | apply pw_below_drewN | apply below_drew1 | refine below_set ?_ (IsS67.ge HI264.out) | refine below_set ?_ GE261.out | refine below_set ?_ GE274.out) | exact HB.out)))); (case aL => have := LMc22.out; omega); intro v285 w27 ho hb hg hat; rw [← Ny284.out] at ho; have n0_ := Aside0.mk (Kd.S_after (ok := (fun k_ => some k_ ≠ (.slice Ao14 t269.length co14 : Value).ownBlock)) (mS HO_275001) hg hat); have n1_ := Aside0.mk (Kd.R_after (ok := (fun _ => True)) (mR HO_275002) hg hat); have n2_ := Aside0.mk (blk_grown (bz BK261) hg (Kd.R_ne HO_6.out BK261.out (by decide))); have n3_ := Aside0.mk (blk_grown (bz BK274) hg (Kd.R_ne HO_6.out BK274.out (by decide))); have n4_ := Aside0.mk (IsS67.grown ((show IsS67 w _ g264 t262 t283 from by repeat (first | (with_reducible first | exact HI264.out | apply IsS67.alloc | apply IsS67.drewN | apply IsS67.drew | apply IsS67.set_1 | refine IsS67.far ?_ NB264_261.out _ | refine IsS67.far ?_ NB264_274.out _) | exact HI264.out))) hg (IsS67.own_ne HI264.out HO_6.out (by decide))); have n5_ := Aside0.mk (hb); have n6_ := Aside0.mk (ho); clear HO_275001 HO_275002 BK261 BK274 HI264 HB HO_6; have HO_275001 := n0_; have HO_275002 := n1_; have BK261 := n2_; have BK274 := n3_; have HI264 := n4_; have HB := n5_; have HO286 := n6_; clear n0_ n1_ n2_ n3_ n4_ n5_ n6_ ho hb hg hat))
     go_roundg k1
     case measure => have := HK1.out; omega
     case rel => exact ⟨(y284), (wrap64 (x7_1 - 1)), (t283), (by first | rfl | (simp; done) | (simp [*]; done)), H', ⟨by have := HK1.out; omega⟩, ⟨rz HO286⟩, ⟨mS HO_275001⟩, ⟨mR HO_275002⟩, ⟨bz BK261⟩, ⟨bz BK274⟩, ⟨by repeat (first | (with_reducible first | exact HI264.out | apply IsS67.alloc | apply IsS67.drewN | apply IsS67.drew | apply IsS67.set_1 | refine IsS67.far ?_ NB264_261.out _ | refine IsS67.far ?_ NB264_274.out _) | exact HI264.out)⟩, ⟨by repeat (first | (with_reducible first | exact HB.out | apply below_alloc | apply pw_below_drewN | apply below_drew1 | refine below_set ?_ (IsS67.ge HI264.out) | refine below_set ?_ GE261.out | refine below_set ?_ GE274.out) | exact HB.out)⟩⟩
    ·rw [if_neg c22] at H
     exact absurd H (by simp)
   ·rw [if_neg c19] at H
    have c19b0 : decide (0 < x7_1) = false := decide_eq_false c19
    clear c19
    simp only [Option.some.injEq, Prod.mk.injEq] at H
    obtain ⟨rfl, rfl, rfl, rfl, rfl⟩ := H
    have hnb28 := NB274_261.out
    have hnc28 := NB261_274.out
    have hnb29 := NB274_264.out
    have hnc29 := NB264_274.out
    have hcz30_0 := cz0 BK274
    have hcz30_1 := cz1 BK274
    have hcz30_2 := cz2 BK274
    have hcz30_3 := cz3 BK274
    have hfz30_0 := blk_frozen BK274.out 0
    have hfz30_1 := blk_frozen BK274.out 1
    have hfz30_2 := blk_frozen BK274.out 2
    have hfz30_3 := blk_frozen BK274.out 3
    have hnb31 := NB261_264.out
    have hnc31 := NB264_261.out
    have hcz32_0 := cz0 BK261
    have hcz32_1 := cz1 BK261
    have hcz32_2 := cz2 BK261
    have hcz32_3 := cz3 BK261
    have hfz32_0 := blk_frozen BK261.out 0
    have hfz32_1 := blk_frozen BK261.out 1
    have hfz32_2 := blk_frozen BK261.out 2
    have hfz32_3 := blk_frozen BK261.out 3
    go_wp2
    refine bodyPost_ret (results_ct rfl _ _ gb261 28 #[.int .i64 t265, .slice Ao13 t266.length co13, .slice Ao14 t269.length co14, .int .i64 t272] (0, 0) _ rfl (bp BK261) Try.underlying28 rfl kr) rfl ?_
    exact ⟨_, _, _, by first | rfl | (simp [errW_none, errW_some] <;> rfl) | (simp [*, errW_none, errW_some] <;> rfl), by (with_reducible repeat (first | apply Kd.S_alloc | apply Kd.S_drewN | apply Kd.S_drew)); exact Kd.S_mono (Kd.S_far (p := ⟨gb261, 3, none⟩) (Kd.S_far (p := ⟨gb261, 2, none⟩) (Kd.S_far (p := ⟨gb261, 1, none⟩) (Kd.S_far (p := ⟨gb261, 0, none⟩) (Kd.S_types HO_275001.out BK261.out (by decide)) (fun _ hk => hk.2) (.int .i64 t265)) (fun _ hk => hk.2) (.slice Ao13 t266.length co13)) (fun _ hk => hk.2) (.slice Ao14 t269.length co14)) (fun _ hk => hk.2) (.int .i64 t272)) (fun _ hk => ⟨hk.1.2, hk.1.1⟩), by (with_reducible repeat (first | apply Kd.R_alloc | apply Kd.R_drewN | apply Kd.R_drew)); exact Kd.R_mono (Kd.R_far (p := ⟨gb261, 3, none⟩) (Kd.R_far (p := ⟨gb261, 2, none⟩) (Kd.R_far (p := ⟨gb261, 1, none⟩) (Kd.R_far (p := ⟨gb261, 0, none⟩) (Kd.R_types HO_275002.out BK261.out (by decide)) (fun _ hk => hk.2) (.int .i64 t265)) (fun _ hk => hk.2) (.slice Ao13 t266.length co13)) (fun _ hk => hk.2) (.slice Ao14 t269.length co14)) (fun _ hk => hk.2) (.int .i64 t272)) (fun _ hk => hk.1), by (with_reducible repeat (first | apply Kd.R_alloc | apply Kd.R_drewN | apply Kd.R_drew)); exact Kd.R_mono (Kd.R_far (p := ⟨gb261, 3, none⟩) (Kd.R_far (p := ⟨gb261, 2, none⟩) (Kd.R_far (p := ⟨gb261, 1, none⟩) (Kd.R_far (p := ⟨gb261, 0, none⟩) (Kd.R_types HO_6.out BK261.out (by decide)) (fun _ hk => hk.2) (.int .i64 t265)) (fun _ hk => hk.2) (.slice Ao13 t266.length co13)) (fun _ hk => hk.2) (.slice Ao14 t269.length co14)) (fun _ hk => hk.2) (.int .i64 t272)) (fun _ hk => hk.1), by repeat (first | (with_reducible first | exact HB.out | apply below_alloc | apply pw_below_drewN | apply below_drew1 | refine below_set ?_ (IsS67.ge HI264.out) | refine below_set ?_ GE261.out | refine below_set ?_ GE274.out) | exact HB.out)⟩

end Go.Proofs.Ytlpjkeejflogjaa.QFnAfterDeaths
