-- Printed for this claim by a turned copy of the print (wip/myprint). Lean checks it. Squeezed. Worded. Tightened.
import Derived.Test.YtnpjlpkbefdnlaaQFnLawByx0
import Derived.Test.YtnpjlpkbefdnlaaQFnLawByx10
import Derived.Test.YtnpjlpkbefdnlaaQFnLawByx12
namespace Go.Proofs.Ytnpjlpkbefdnlaa.QFnLawBy
open Go.RowKit Go.Proofs.YtnpjlpkbefdnlaaW.PrintWords Go.Proofs.YtnpjlpkbefdnlaaW.PrintLast Go.Proofs.YtnpjlpkbefdnlaaW.PrintMore
attribute [local go_sem] max2_int min2_int max_two min_two max_three min_three max_four min_four Opens.cell_twice   -- for this text's walks alone
set_option linter.unusedVariables false
set_option linter.unusedSimpArgs false

/-! ### spec_DrawLawBy: function 37 -/
def spec_DrawLawBy.f (k : Nat) (l0 : List Int) : Option (Int × List Int × (List (S41)) × Int) := (spec_l20Open.f l0).bind fun bt332 => ((spec_l20Process.f k bt332.1 bt332.2 14).bind fun bt335 => ((spec_l20Rd_pick.f k bt332.1 bt335.2.2.2 (wrap64 (2 ^ (mn (mx bt335.1 1) 6).toNat))).bind fun bt344 => ((spec_l20Rd_pick.f k bt332.1 bt344.2 40).bind fun bt346 => (some (bt335.1, bt335.2.1, bt335.2.2.1, wrap64 (bt344.1 + (wrap64 ((wrap64 (Int.tdiv bt346.1 39)) * 64))))))))
theorem spec_DrawLawBy.mono : ∀ a0 k, LeO (spec_DrawLawBy.f k a0) (spec_DrawLawBy.f (k + 1) a0) := by
 intro a0 k
 unfold spec_DrawLawBy.f
 repeat' first
   | (with_reducible exact spec_l20Process.mono _ _ _ _)
   | (with_reducible exact spec_l20Rd_pick.mono _ _ _ _)
   | (with_reducible exact LeO.refl _)
   | (with_reducible exact LeO.none _)
   | (with_reducible refine LeO.ite ?_ ?_)
   | (with_reducible refine LeO.bind ?_ (fun _ => ?_))
   | exact spec_l20Process.mono _ _ _ _
   | exact spec_l20Rd_pick.mono _ _ _ _
   | exact LeO.none _
   | refine LeO.ite ?_ ?_
   | refine LeO.bind ?_ (fun _ => ?_)
def spec_DrawLawBy.T3 : Bool × List (List Nat × List Nat) := (true, [([], []), ([], []), ([], []), ([], []), ([3], [3]), ([4], [4]), ([5], [5]), ([6], [6]), ([2, 7], [2, 7]), ([], []), ([9, 8], [9]), ([10], [10]), ([11], [11]), ([8, 12], [8, 12]), ([0, 10, 0], [0]), ([1, 14, 0, 1, 14], [1]), ([13, 15, 0, 1, 2, 3, 4, 5, 6, 7, 8, 9, 10, 11, 12, 13, 14, 15], [13])])
def spec_DrawLawBy.B3 : List Nat := [0, 0, 0, 0, 8, 24, 56, 120, 252, 0, 1020, 2044, 4092, 8188, 2045, 18431, 65535]
theorem spec_DrawLawBy.tab3 : rtab .any (opsOf Try.f37 3) = spec_DrawLawBy.T3 := by kernel_rfl
theorem spec_DrawLawBy.bits3 : waitsOk spec_DrawLawBy.T3.2 spec_DrawLawBy.B3 = true := by kernel_rfl
set_option maxHeartbeats 8000000 in
set_option maxRecDepth 100000 in
theorem spec_DrawLawBy.calls (k : Nat) (A0 : Option Addr) (c0 : Nat) (l0 : List Int) (r1 : Int) (r2 : List Int) (r3 : List (S41)) (r4 : Int) (w : World) (hr0 : Kd.C (Kd.int .u8) w A0 l0.length l0) (hc0 : l0.length ≤ c0) (h : spec_DrawLawBy.f k l0 = some (r1, r2, r3, r4)) :
  Calls Try.prog 37 #[.slice A0 l0.length c0] w fun e w' => ∃ v1_ v2_ : Value, e = .returned (.tuple #[.agg #[.int .i64 r1, v1_], v2_, .int .i64 r4]) ∧ Kd.R (Kd.int .i64) 3 w' w.heap.size (fun _ => True) v1_ r2 ∧ Kd.S k41 41 w' w.heap.size (fun _ => True) v2_ r3 ∧ Below w.heap.size w w' := by
 have hu25 := Try.underlying25
 have HR0 := Aside0.mk hr0
 have HC0 := Aside0.mk hc0
 clear hr0 hc0
 have HB := Aside0.mk (Below.refl w.heap.size w)
 have H : ((spec_l20Open.f l0).bind fun bt332 => ((spec_l20Process.f k bt332.1 bt332.2 14).bind fun bt335 => ((spec_l20Rd_pick.f k bt332.1 bt335.2.2.2 (wrap64 (2 ^ (mn (mx bt335.1 1) 6).toNat))).bind fun bt344 => ((spec_l20Rd_pick.f k bt332.1 bt344.2 40).bind fun bt346 => (some (bt335.1, bt335.2.1, bt335.2.2.1, wrap64 (bt344.1 + (wrap64 ((wrap64 (Int.tdiv bt346.1 39)) * 64))))))))) = some (r1, r2, r3, r4) := h
 clear h
 replace H := Option.bind_eq_some_iff.mp H
 obtain ⟨⟨t332, t333⟩, A20, H⟩ := H
 replace H : ((spec_l20Process.f k t332 t333 14).bind fun bt335 => ((spec_l20Rd_pick.f k t332 bt335.2.2.2 (wrap64 (2 ^ (mn (mx bt335.1 1) 6).toNat))).bind fun bt344 => ((spec_l20Rd_pick.f k t332 bt344.2 40).bind fun bt346 => (some (bt335.1, bt335.2.1, bt335.2.2.1, wrap64 (bt344.1 + (wrap64 ((wrap64 (Int.tdiv bt346.1 39)) * 64)))))))) = some (r1, r2, r3, r4) := H
 have A2 := Aside0.mk A20
 clear A20
 replace H := Option.bind_eq_some_iff.mp H
 obtain ⟨⟨t335, t336, t339, t342⟩, A30, H⟩ := H
 replace H : ((spec_l20Rd_pick.f k t332 t342 (wrap64 (2 ^ (mn (mx t335 1) 6).toNat))).bind fun bt344 => ((spec_l20Rd_pick.f k t332 bt344.2 40).bind fun bt346 => (some (t335, t336, t339, wrap64 (bt344.1 + (wrap64 ((wrap64 (Int.tdiv bt346.1 39)) * 64))))))) = some (r1, r2, r3, r4) := H
 have A3 := Aside0.mk A30
 clear A30
 obtain ⟨ji4, hji4⟩ : ∃ j_ : Int, (mx t335 1) = j_ := ⟨_, rfl⟩
 replace H : ((spec_l20Rd_pick.f k t332 t342 (wrap64 (2 ^ (mn (ji4) 6).toNat))).bind fun bt344 => ((spec_l20Rd_pick.f k t332 bt344.2 40).bind fun bt346 => (some (t335, t336, t339, wrap64 (bt344.1 + (wrap64 ((wrap64 (Int.tdiv bt346.1 39)) * 64))))))) = some (r1, r2, r3, r4) := by first | (rw [hji4] at H; exact H) | (simp only [hji4] at H ⊢; exact H)
 (try rw [hji4] at A2)
 (try rw [hji4] at A3)
 (try (have hji4l : 1 ≤ ji4 := by (rw [← hji4]; unfold mx; (repeat' split) <;> omega)))
 (try (have hji4m : 0 ≤ ji4 := by omega))
 have hji4_ : (if t335 < 1 then 1 else t335) = ji4 := hji4
 obtain ⟨ji5, hji5⟩ : ∃ j_ : Int, (mn (ji4) 6) = j_ := ⟨_, rfl⟩
 replace H : ((spec_l20Rd_pick.f k t332 t342 (wrap64 (2 ^ (ji5).toNat))).bind fun bt344 => ((spec_l20Rd_pick.f k t332 bt344.2 40).bind fun bt346 => (some (t335, t336, t339, wrap64 (bt344.1 + (wrap64 ((wrap64 (Int.tdiv bt346.1 39)) * 64))))))) = some (r1, r2, r3, r4) := by first | (rw [hji5] at H; exact H) | (simp only [hji5] at H ⊢; exact H)
 (try rw [hji5] at A2)
 (try rw [hji5] at A3)
 have hji5_ : (if 6 < (ji4) then 6 else (ji4)) = ji5 := hji5
 replace H := Option.bind_eq_some_iff.mp H
 obtain ⟨⟨t344, t345⟩, A60, H⟩ := H
 replace H : ((spec_l20Rd_pick.f k t332 t345 40).bind fun bt346 => (some (t335, t336, t339, wrap64 (t344 + (wrap64 ((wrap64 (Int.tdiv bt346.1 39)) * 64)))))) = some (r1, r2, r3, r4) := H
 have A6 := Aside0.mk A60
 clear A60
 replace H := Option.bind_eq_some_iff.mp H
 obtain ⟨⟨t346, t347⟩, A70, H⟩ := H
 replace H : (some (t335, t336, t339, wrap64 (t344 + (wrap64 ((wrap64 (Int.tdiv t346 39)) * 64))))) = some (r1, r2, r3, r4) := H
 have A7 := Aside0.mk A70
 clear A70
 simp only [Option.some.injEq, Prod.mk.injEq] at H
 obtain ⟨rfl, rfl, rfl, rfl⟩ := H
 go_enter Try.func37, Try.ntmps37
 try go_wp2_with (first | ((with_reducible refine gate_dst (N := 2) rfl ?_); refine box_event ?hg (N := 2) ?hd (cs := #[.int .i64 0, .slice none 0 0]) (t := 25) ?hr ?_; (case hd => rfl); (case hg => rfl); (case hr => first | (go_simp; done) | (go_simp; rfl)); intro gb331 hg w8 hbox hb; have n0_ := Aside0.mk (below_step bh hb); have n1_ := Aside0.mk (hbox); have n2_ := Aside0.mk ((gs (W0 := w) hg bh)); have n3_ := Aside0.mk ((gs (W0 := w) hg bh)); clear HB; have HB := n0_; have BK331 := n1_; have GW331 := n2_; have GE331 := n3_; clear n0_ n1_ n2_ n3_ hb hbox hg) | ((with_reducible refine gate_callee (f := 52) rfl ?_); refine goesL_ (some 9) rfl rfl Try.func52 kr rfl #[.slice A0 l0.length c0] rfl lm ?_; (with_reducible refine (spec_l20Open.calls _ _ l0 t332 t333 w _ ?side1 ?side2 ?side3 A2.out).mono ?_); (case side1 => repeat (first | (with_reducible first | exact HB.out | apply below_alloc | apply pw_below_drewN | apply below_drew1 | refine below_set ?_ GE331.out) | exact HB.out)); (case side2 => exact HR0.out); (case side3 => exact HC0.out); rintro e w9 ⟨g334, rfl, hi, hb, hb2⟩; refine ⟨_, rfl, ?_⟩; have n0_ := Aside0.mk (blk_below (bz BK331) hb2); have n1_ := Aside0.mk (hb); have n2_ := Aside0.mk (hi); have n3_ := Aside0.mk (IsS95.ne_blk hi (blk_below (bz BK331) hb2) (by decide)); have n4_ := Aside0.mk (Ne.symm (IsS95.ne_blk hi (blk_below (bz BK331) hb2) (by decide))); clear BK331 HB; have BK331 := n0_; have HB := n1_; have HI334 := n2_; have NB334_331 := n3_; have NB331_334 := n4_; clear n0_ n1_ n2_ n3_ n4_; (try clear hb); (try clear hb2); (try clear hk); (try clear hi)) | ((with_reducible refine gate_callee (f := 51) rfl ?_); refine goesL_ (some 12) rfl rfl Try.func51 kr rfl #[.pointer (some ⟨g334, 0, none⟩), .int .i64 14] rfl lm ?_; (with_reducible refine (spec_l20Process.calls k g334 t332 t333 14 t335 t336 t339 t342 w _ ?side1 ?side2 A3.out).mono ?_); (case side1 => repeat (first | (with_reducible first | exact HI334.out | apply IsS95.alloc | apply IsS95.drewN | apply IsS95.drew | apply IsS95.set_1 | refine IsS95.far ?_ NB334_331.out _) | exact HI334.out)); (case side2 => repeat (first | (with_reducible first | exact HB.out | apply below_alloc | apply pw_below_drewN | apply below_drew1 | refine below_set ?_ (IsS95.ge HI334.out) | refine below_set ?_ GE331.out) | exact HB.out)); rintro e w10 ⟨v337, v340, rfl, ho0, ho1, hi, hb, hk⟩; refine ⟨_, rfl, ?_⟩; have n0_ := Aside0.mk (KeepBut.blk hk (bz BK331) NB331_334.out (by simp)); have n1_ := Aside0.mk (Kd.R_lower ho0 (below_size (by repeat (first | (with_reducible first | exact HB.out | apply below_alloc | apply pw_below_drewN | apply below_drew1 | refine below_set ?_ (IsS95.ge HI334.out) | refine below_set ?_ GE331.out) | exact HB.out)))); have n2_ := Aside0.mk (Kd.S_lower ho1 (below_size (by repeat (first | (with_reducible first | exact HB.out | apply below_alloc | apply pw_below_drewN | apply below_drew1 | refine below_set ?_ (IsS95.ge HI334.out) | refine below_set ?_ GE331.out) | exact HB.out)))); have n3_ := Aside0.mk (hb); have n4_ := Aside0.mk (hi); clear BK331 HB HI334; have BK331 := n0_; have HO338 := n1_; have HO341 := n2_; have HB := n3_; have HI334 := n4_; clear n0_ n1_ n2_ n3_ n4_; (try clear hb); (try clear hb2); (try clear hk); (try clear hi); (try clear ho0); (try clear ho1)) | ((with_reducible refine gate_dst (N := 6) rfl ?_); refine box_event ?hg (N := 6) ?hd (cs := #[.int .i64 0, .slice none 0 0]) (t := 25) ?hr ?_; (case hd => rfl); (case hg => rfl); (case hr => first | (go_simp; done) | (go_simp; rfl)); intro gb343 hg w11 hbox hb; have n0_ := Aside0.mk (Kd.R_below (rz HO338) hb); have n1_ := Aside0.mk (Kd.S_below (sz HO341) hb); have n2_ := Aside0.mk (blk_below (bz BK331) hb); have n3_ := Aside0.mk (IsS95.below (by repeat (first | (with_reducible first | exact HI334.out | apply IsS95.alloc | apply IsS95.drewN | apply IsS95.drew | apply IsS95.set_1 | refine IsS95.far ?_ NB334_331.out _) | exact HI334.out)) hb); have n4_ := Aside0.mk (below_step (by repeat (first | (with_reducible first | exact HB.out | apply below_alloc | apply pw_below_drewN | apply below_drew1 | refine below_set ?_ (IsS95.ge HI334.out) | refine below_set ?_ GE331.out) | exact HB.out)) hb); have n5_ := Aside0.mk (hbox); have n6_ := Aside0.mk ((by rw [hg]; exact (below_size (by repeat (first | (with_reducible first | exact HB.out | apply below_alloc | apply pw_below_drewN | apply below_drew1 | refine below_set ?_ (IsS95.ge HI334.out) | refine below_set ?_ GE331.out) | exact HB.out))) : w.heap.size ≤ gb343)); have n7_ := Aside0.mk ((by rw [hg]; exact (below_size (by repeat (first | (with_reducible first | exact HB.out | apply below_alloc | apply pw_below_drewN | apply below_drew1 | refine below_set ?_ (IsS95.ge HI334.out) | refine below_set ?_ GE331.out) | exact HB.out))) : w.heap.size ≤ gb343)); have n8_ := Aside0.mk ((gn hg (bz BK331))); have n9_ := Aside0.mk ((gm hg (bz BK331))); have n10_ := Aside0.mk ((by rw [hg]; exact Nat.ne_of_lt (IsS95.lt (show IsS95 w _ g334 t332 t342 from by repeat (first | (with_reducible first | exact HI334.out | apply IsS95.alloc | apply IsS95.drewN | apply IsS95.drew | apply IsS95.set_1 | refine IsS95.far ?_ NB334_331.out _) | exact HI334.out))) : g334 ≠ gb343)); have n11_ := Aside0.mk ((by rw [hg]; exact Nat.ne_of_gt (IsS95.lt (show IsS95 w _ g334 t332 t342 from by repeat (first | (with_reducible first | exact HI334.out | apply IsS95.alloc | apply IsS95.drewN | apply IsS95.drew | apply IsS95.set_1 | refine IsS95.far ?_ NB334_331.out _) | exact HI334.out))) : gb343 ≠ g334)); clear HO338 HO341 BK331 HI334 HB; have HO338 := n0_; have HO341 := n1_; have BK331 := n2_; have HI334 := n3_; have HB := n4_; have BK343 := n5_; have GW343 := n6_; have GE343 := n7_; have NB331_343 := n8_; have NB343_331 := n9_; have NB334_343 := n10_; have NB343_334 := n11_; clear n0_ n1_ n2_ n3_ n4_ n5_ n6_ n7_ n8_ n9_ n10_ n11_ hb hbox hg; have hnb12 := NB343_331.out; have hnc12 := NB331_343.out; have hnb13 := NB343_334.out; have hnc13 := NB334_343.out; have hcz14_0 := cz0 BK343; have hcz14_1 := cz1 BK343; have hfz14_0 := blk_frozen BK343.out 0; have hfz14_1 := blk_frozen BK343.out 1; obtain ⟨Ao15, co15, eo15⟩ := Kd.R_slice HO338.out; subst eo15))
 generalize hW_ : ((w11.setCell ⟨gb343, 0, none⟩ (.int .i64 t335)).setCell ⟨gb343, 1, none⟩ (.slice Ao15 t336.length co15)) = w16
 have n0_ : Aside0 (Kd.R (Kd.int .i64) 3 w16 w.heap.size (fun _ => True) (.slice Ao15 t336.length co15) t336) := ⟨by subst hW_; (with_reducible repeat (first | apply Kd.R_alloc | apply Kd.R_drewN | apply Kd.R_drew)); exact Kd.R_mono (Kd.R_far (p := ⟨gb343, 1, none⟩) (Kd.R_far (p := ⟨gb343, 0, none⟩) (Kd.R_types HO338.out BK343.out (by decide)) (fun _ hk => hk.2) (.int .i64 t335)) (fun _ hk => hk.2) (.slice Ao15 t336.length co15)) (fun _ hk => trivial)⟩
 have n1_ : Aside0 (Kd.S k41 41 w16 w.heap.size (fun _ => True) v340 t339) := ⟨by subst hW_; (with_reducible repeat (first | apply Kd.S_alloc | apply Kd.S_drewN | apply Kd.S_drew)); exact Kd.S_mono (Kd.S_far (p := ⟨gb343, 1, none⟩) (Kd.S_far (p := ⟨gb343, 0, none⟩) (Kd.S_types HO341.out BK343.out (by decide)) (fun _ hk => hk.2) (.int .i64 t335)) (fun _ hk => hk.2) (.slice Ao15 t336.length co15)) (fun _ hk => trivial)⟩
 have n2_ : Aside0 (w16.heap[gb331]? = some (.cells #[.int .i64 0, .slice none 0 0] 25 (0, 0))) := ⟨by subst hW_; (with_reducible repeat (first | refine blk_drewN ?_ _ | refine blk_drew ?_ | refine blk_alloc ?_ _)); refine blk_far ?_ NB331_343.out _; (with_reducible repeat (first | refine blk_drewN ?_ _ | refine blk_drew ?_ | refine blk_alloc ?_ _)); refine blk_far ?_ NB331_343.out _; (with_reducible repeat (first | refine blk_drewN ?_ _ | refine blk_drew ?_ | refine blk_alloc ?_ _)); exact BK331.out⟩
 have n3_ : Aside0 (w16.heap[gb343]? = some (.cells #[.int .i64 t335, .slice Ao15 t336.length co15] 25 (0, 0))) := ⟨by subst hW_; (with_reducible repeat (first | refine blk_drewN ?_ _ | refine blk_drew ?_ | refine blk_alloc ?_ _)); refine blk_put (cs := #[.int .i64 t335, .slice none 0 0]) ?_ 1 _ rfl; (with_reducible repeat (first | refine blk_drewN ?_ _ | refine blk_drew ?_ | refine blk_alloc ?_ _)); refine blk_put (cs := #[.int .i64 0, .slice none 0 0]) ?_ 0 _ rfl; (with_reducible repeat (first | refine blk_drewN ?_ _ | refine blk_drew ?_ | refine blk_alloc ?_ _)); exact BK343.out⟩
 have n4_ : Aside0 (IsS95 w w16 g334 t332 t342) := ⟨by subst hW_; repeat (first | (with_reducible first | exact HI334.out | apply IsS95.alloc | apply IsS95.drewN | apply IsS95.drew | apply IsS95.set_1 | refine IsS95.far ?_ NB334_331.out _ | refine IsS95.far ?_ NB334_343.out _) | exact HI334.out)⟩
 have n5_ : Aside0 (Below w.heap.size w w16) := ⟨by subst hW_; repeat (first | (with_reducible first | exact HB.out | apply below_alloc | apply pw_below_drewN | apply below_drew1 | refine below_set ?_ (IsS95.ge HI334.out) | refine below_set ?_ GE331.out | refine below_set ?_ GE343.out) | exact HB.out)⟩
 clear hW_
 (try clear HO338)
 (try clear HO341)
 (try clear BK331)
 (try clear BK343)
 (try clear HI334)
 (try clear HB)
 have HO338 := n0_
 have HO341 := n1_
 have BK331 := n2_
 have BK343 := n3_
 have HI334 := n4_
 have HB := n5_
 clear n0_ n1_ n2_ n3_ n4_ n5_
 have n0_ := Aside0.mk (Kd.R_drew HO338.out)
 have n1_ := Aside0.mk (Kd.S_drew HO341.out)
 have n2_ := Aside0.mk (blk_drew BK331.out)
 have n3_ := Aside0.mk (blk_drew BK343.out)
 have n4_ := Aside0.mk (IsS95.drew HI334.out)
 have n5_ := Aside0.mk (below_drew1 HB.out)
 clear HO338 HO341 BK331 BK343 HI334 HB
 have HO338 := n0_
 have HO341 := n1_
 have BK331 := n2_
 have BK343 := n3_
 have HI334 := n4_
 have HB := n5_
 clear n0_ n1_ n2_ n3_ n4_ n5_
 refine start_ (n := 17) (S := fun w' => w'.cell? ⟨gb343, 0, none⟩ = some (.int .i64 t335) ∧ w'.cell? ⟨gb343, 1, none⟩ = some (.slice Ao15 t336.length co15)) (ds := []) #[F,F,F,F,F,F,F,F,F,F,F,F,F,F,F,F,F] kr rfl rfl ⟨cz0 BK343, cz1 BK343⟩ (fun hHeld => ?_); refine with_tabW spec_DrawLawBy.tab3 spec_DrawLawBy.bits3 (fun HT_ HW_ => ?_)
 generalize w16.drew = w17 at HO338 HO341 BK331 BK343 HI334 HB hHeld ⊢
 refine pu 1 (some 16) #[F,T,F,F,F,F,F,F,F,F,F,F,F,F,F,F,F] (any_of HT_.out kr) ?_
 refine pu 2 (some 17) #[F,T,T,F,F,F,F,F,F,F,F,F,F,F,F,F,F] (any_of HT_.out kr) ?_
 refine pu 3 (some 18) #[F,T,T,T,F,F,F,F,F,F,F,F,F,F,F,F,F] (any_of HT_.out kr) ?_
 refine pu 9 (some 24) #[F,T,T,T,F,F,F,F,F,T,F,F,F,F,F,F,F] (any_of HT_.out kr) ?_
 refine tk2 0 (some 15) #[T,T,T,T,F,F,F,F,F,T,F,F,F,F,F,F,F] (take_ofW HT_.out HW_.out kr) ?_
 refine tk2 4 (some 19) #[T,T,T,T,T,F,F,F,F,T,F,F,F,F,F,F,F] (take_ofW HT_.out HW_.out kr) ?_
 refine pu 5 (some 20) #[T,T,T,T,T,T,F,F,F,T,F,F,F,F,F,F,F] (any_of HT_.out kr) ?_
 refine pu 6 (some 21) #[T,T,T,T,T,T,T,F,F,T,F,F,F,F,F,F,F] (any_of HT_.out kr) ?_
 refine pu 7 (some 22) #[T,T,T,T,T,T,T,T,F,T,F,F,F,F,F,F,F] (any_of HT_.out kr) ?_
 refine one_ (i := 8) (N := some 23) #[T,T,T,T,T,T,T,T,T,T,F,F,F,F,F,F,F] rfl rfl (one_of HT_.out kr) (by decide) (fun K hK => ?_)
 refine goes_ Try.func57 kr rfl #[.pointer (some ⟨g334, 0, none⟩), .int .i64 (wrap64 (2 ^ (ji5).toNat))] (by rfl) rfl rfl (by (try simp only [List.map_toArray, List.map_cons, List.map_nil]); first | done | (simp only [hji5]; rfl) | rfl | (simp only [List.length_drop, List.length_take]; rfl)) ?_
 with_reducible refine (spec_l20Rd_pick.calls k g334 t332 t342 (wrap64 (2 ^ (ji5).toNat)) t344 t345 w _ ?side1 ?side2 A6.out).mono ?_
 (case side1 => repeat (first | (with_reducible first | exact HI334.out | apply IsS95.alloc | apply IsS95.drewN | apply IsS95.drew | apply IsS95.set_1 | refine IsS95.far ?_ NB334_331.out _ | refine IsS95.far ?_ NB334_343.out _) | exact HI334.out))
 (case side2 => repeat (first | (with_reducible first | exact HB.out | apply below_alloc | apply pw_below_drewN | apply below_drew1 | refine below_set ?_ (IsS95.ge HI334.out) | refine below_set ?_ GE331.out | refine below_set ?_ GE343.out) | exact HB.out))
 rintro e w18 ⟨rfl, hi, hb, hk⟩
 refine ⟨_, rfl, ?_⟩
 have n0_ := Aside0.mk (KeepBut.blk hk (bz BK331) NB331_334.out (by simp))
 have n1_ := Aside0.mk (Kd.R_mono (Kd.R_keep (IsS95.apart (show IsS95 w _ g334 t332 t342 from by repeat (first | (with_reducible first | exact HI334.out | apply IsS95.alloc | apply IsS95.drewN | apply IsS95.drew | apply IsS95.set_1 | refine IsS95.far ?_ NB334_331.out _ | refine IsS95.far ?_ NB334_343.out _) | exact HI334.out)) (rz HO338) (by decide)) hk (fun _ h => h.2)) (fun _ h => h.1))
 have n2_ := Aside0.mk (Kd.S_mono (Kd.S_keep (IsS95.apartS (show IsS95 w _ g334 t332 t342 from by repeat (first | (with_reducible first | exact HI334.out | apply IsS95.alloc | apply IsS95.drewN | apply IsS95.drew | apply IsS95.set_1 | refine IsS95.far ?_ NB334_331.out _ | refine IsS95.far ?_ NB334_343.out _) | exact HI334.out)) (sz HO341) (by decide)) hk (fun _ h => h.2)) (fun _ h => h.1))
 have n3_ := Aside0.mk (KeepBut.blk hk (bz BK343) NB343_334.out (by simp))
 have n4_ := Aside0.mk (hb)
 have n5_ := Aside0.mk (hi)
 clear BK331 HO338 HO341 BK343 HB HI334
 have BK331 := n0_
 have HO338 := n1_
 have HO341 := n2_
 have BK343 := n3_
 have HB := n4_
 have HI334 := n5_
 clear n0_ n1_ n2_ n3_ n4_ n5_
 (try clear hb)
 (try clear hb2)
 (try clear hk)
 (try clear hi)
 refine hK.out _ _ ⟨cz0 BK343, cz1 BK343⟩ (fun hHeld => ?_)
 clear hK K
 refine norm_ (a' := ?_) ?_ ?_
 rotate_left
 ·show Act.put _ (some 23) _ = _
  simp only [Act.put, List.setIfInBounds_toArray, List.set_cons_zero, List.set_cons_succ, i64_w, i32_w]
  rfl
 refine one_ (i := 10) (N := some 25) #[T,T,T,T,T,T,T,T,T,T,T,F,F,F,F,F,F] rfl rfl (one_of HT_.out kr) (by decide) (fun K hK => ?_)
 refine goes_ Try.func57 kr rfl #[.pointer (some ⟨g334, 0, none⟩), .int .i64 40] (by rfl) rfl rfl lm ?_
 with_reducible refine (spec_l20Rd_pick.calls k g334 t332 t345 40 t346 t347 w _ ?side1 ?side2 A7.out).mono ?_
 (case side1 => repeat (first | (with_reducible first | exact HI334.out | apply IsS95.alloc | apply IsS95.drewN | apply IsS95.drew | apply IsS95.set_1 | refine IsS95.far ?_ NB334_331.out _ | refine IsS95.far ?_ NB334_343.out _) | exact HI334.out))
 (case side2 => repeat (first | (with_reducible first | exact HB.out | apply below_alloc | apply pw_below_drewN | apply below_drew1 | refine below_set ?_ (IsS95.ge HI334.out) | refine below_set ?_ GE331.out | refine below_set ?_ GE343.out) | exact HB.out))
 rintro e w19 ⟨rfl, hi, hb, hk⟩
 refine ⟨_, rfl, ?_⟩
 have n0_ := Aside0.mk (KeepBut.blk hk (bz BK331) NB331_334.out (by simp))
 have n1_ := Aside0.mk (Kd.R_mono (Kd.R_keep (IsS95.apart (show IsS95 w _ g334 t332 t345 from by repeat (first | (with_reducible first | exact HI334.out | apply IsS95.alloc | apply IsS95.drewN | apply IsS95.drew | apply IsS95.set_1 | refine IsS95.far ?_ NB334_331.out _ | refine IsS95.far ?_ NB334_343.out _) | exact HI334.out)) (rz HO338) (by decide)) hk (fun _ h => h.2)) (fun _ h => h.1))
 have n2_ := Aside0.mk (Kd.S_mono (Kd.S_keep (IsS95.apartS (show IsS95 w _ g334 t332 t345 from by repeat (first | (with_reducible first | exact HI334.out | apply IsS95.alloc | apply IsS95.drewN | apply IsS95.drew | apply IsS95.set_1 | refine IsS95.far ?_ NB334_331.out _ | refine IsS95.far ?_ NB334_343.out _) | exact HI334.out)) (sz HO341) (by decide)) hk (fun _ h => h.2)) (fun _ h => h.1))
 have n3_ := Aside0.mk (KeepBut.blk hk (bz BK343) NB343_334.out (by simp))
 have n4_ := Aside0.mk (hb)
 have n5_ := Aside0.mk (hi)
 clear BK331 HO338 HO341 BK343 HB HI334
 have BK331 := n0_
 have HO338 := n1_
 have HO341 := n2_
 have BK343 := n3_
 have HB := n4_
 have HI334 := n5_
 clear n0_ n1_ n2_ n3_ n4_ n5_
 (try clear hb)
 (try clear hb2)
 (try clear hk)
 (try clear hi)
 refine hK.out _ _ ⟨cz0 BK343, cz1 BK343⟩ (fun hHeld => ?_)
 clear hK K
 refine norm_ (a' := ?_) ?_ ?_
 rotate_left
 ·show Act.put _ (some 25) _ = _
  simp only [Act.put, List.setIfInBounds_toArray, List.set_cons_zero, List.set_cons_succ, i64_w, i32_w]
  rfl
 refine pu 11 (some 26) #[T,T,T,T,T,T,T,T,T,T,T,T,F,F,F,F,F] (any_of HT_.out kr) ?_
 refine pu 12 (some 27) #[T,T,T,T,T,T,T,T,T,T,T,T,T,F,F,F,F] (any_of HT_.out kr) ?_
 refine pu 13 (some 28) #[T,T,T,T,T,T,T,T,T,T,T,T,T,T,F,F,F] (any_of HT_.out kr) ?_
 refine one_ (i := 14) (N := none) #[T,T,T,T,T,T,T,T,T,T,T,T,T,T,T,F,F] rfl rfl (one_of HT_.out kr) (by decide) (fun K hK => ?_)
 have hs20 := cz0 BK331
 have hfs20 := blk_frozen BK331.out 0
 have hns20_1 := NB343_331.out
 have hms20_1 := NB331_343.out
 have hs21 := cz1 BK331
 have hfs21 := blk_frozen BK331.out 1
 have hns21_1 := NB343_331.out
 have hms21_1 := NB331_343.out
 refine skip_ (w1 := ?_) (by rfl) rfl ?_ ?_
 rotate_left
 ·go_simp
  rfl
 refine hK.out _ _ ⟨((cell_far (p := ⟨gb331, _, none⟩) NB343_331.out _).trans (((cell_far (p := ⟨gb331, _, none⟩) NB343_331.out _).trans (hHeld.1)))), ((cell_far (p := ⟨gb331, _, none⟩) NB343_331.out _).trans (((cell_far (p := ⟨gb331, _, none⟩) NB343_331.out _).trans (hHeld.2))))⟩ (fun hHeld => ?_)
 clear hK K
 refine pu 15 (some 3) #[T,T,T,T,T,T,T,T,T,T,T,T,T,T,T,T,F] (any_of HT_.out kr) ?_
 refine pu 16 (some 4) #[T,T,T,T,T,T,T,T,T,T,T,T,T,T,T,T,T] (any_of HT_.out kr) ?_
 refine done_ (done_of HT_.out kr) ?_
 try go_wp2
 refine bodyPost_ret (results_ctt rfl _ _ gb331 25 #[.int .i64 t335, .slice Ao15 t336.length co15] (0, 0) _ rfl (bp BK331) Try.underlying25 rfl kr) rfl ?_
 exact ⟨_, _, by first | rfl | (simp [errW_none, errW_some] <;> rfl) | (simp only [← hji4, ← hji5]; first | rfl | (simp [errW_none, errW_some] <;> rfl)) | (simp [*, errW_none, errW_some] <;> rfl), by (with_reducible repeat (first | apply Kd.R_alloc | apply Kd.R_drewN | apply Kd.R_drew)); exact Kd.R_mono (Kd.R_far (p := ⟨gb331, 1, none⟩) (Kd.R_far (p := ⟨gb331, 0, none⟩) (Kd.R_types HO338.out BK331.out (by decide)) (fun _ hk => hk.2) (.int .i64 t335)) (fun _ hk => hk.2) (.slice Ao15 t336.length co15)) (fun _ hk => trivial), by (with_reducible repeat (first | apply Kd.S_alloc | apply Kd.S_drewN | apply Kd.S_drew)); exact Kd.S_mono (Kd.S_far (p := ⟨gb331, 1, none⟩) (Kd.S_far (p := ⟨gb331, 0, none⟩) (Kd.S_types HO341.out BK331.out (by decide)) (fun _ hk => hk.2) (.int .i64 t335)) (fun _ hk => hk.2) (.slice Ao15 t336.length co15)) (fun _ hk => trivial), by repeat (first | (with_reducible first | exact HB.out | apply below_alloc | apply pw_below_drewN | apply below_drew1 | refine below_set ?_ (IsS95.ge HI334.out) | refine below_set ?_ GE331.out | refine below_set ?_ GE343.out) | exact HB.out)⟩

/-! ### spec_l3Starts: function 89 -/
def spec_l3Starts.l0 : Nat → List (S78) → Int → Int → Option (Int)
 | 0, _, _, _ => none
 | k + 1, x0, x5, x6 => if x5 > 0 then (if 0 ≤ x6 then (if x6 < (x0.length : Int) then (if ((rd_T78 x0 x6).f0) = 0 then (spec_l3Starts.l0 k x0 (wrap64 (x5 - 1)) (wrap64 (x6 - 1))) else (spec_l3Starts.l0 k x0 (wrap64 (x5 + 1)) (wrap64 (x6 - 1)))) else (none)) else (none)) else (some (wrap64 (x6 + 1)))
def spec_l3Starts.f (k : Nat) (l0 : List (S78)) (a1 : Int) : Option (Int) := spec_l3Starts.l0 k l0 1 a1
theorem spec_l3Starts.mono_l : ∀ k, (∀ y0 y1 y2, LeO (spec_l3Starts.l0 k y0 y1 y2) (spec_l3Starts.l0 (k + 1) y0 y1 y2))
 | 0 => fun _ _ _ r h => by simp [spec_l3Starts.l0] at h
 | k + 1 => by
  have ih0 := spec_l3Starts.mono_l k
  ·intro y0 y1 y2
   unfold spec_l3Starts.l0
   repeat' first
   | (with_reducible exact ih0 _ _ _)
   | (with_reducible exact LeO.refl _)
   | (with_reducible exact LeO.none _)
   | (with_reducible refine LeO.ite ?_ ?_)
   | (with_reducible refine LeO.bind ?_ (fun _ => ?_))
   | exact ih0 _ _ _
   | exact LeO.none _
   | refine LeO.ite ?_ ?_
   | refine LeO.bind ?_ (fun _ => ?_)
theorem spec_l3Starts.mono : ∀ a0 a1 k, LeO (spec_l3Starts.f k a0 a1) (spec_l3Starts.f (k + 1) a0 a1) := by
 intro a0 a1 k
 have ih0 := spec_l3Starts.mono_l k
 unfold spec_l3Starts.f
 repeat' first
   | (with_reducible exact ih0 _ _ _)
   | (with_reducible exact LeO.refl _)
   | (with_reducible exact LeO.none _)
   | (with_reducible refine LeO.ite ?_ ?_)
   | (with_reducible refine LeO.bind ?_ (fun _ => ?_))
   | exact ih0 _ _ _
   | exact LeO.none _
   | refine LeO.ite ?_ ?_
   | refine LeO.bind ?_ (fun _ => ?_)
set_option maxHeartbeats 8000000 in
set_option maxRecDepth 100000 in
theorem spec_l3Starts.calls (k : Nat) (A0 : Option Addr) (c0 : Nat) (l0 : List (S78)) (a1 : Int) (r : Int) (w : World) (hr0 : Kd.C k78 w A0 l0.length l0) (hc0 : l0.length ≤ c0) (h : spec_l3Starts.f k l0 a1 = some r) :
  Calls Try.prog 89 #[.slice A0 l0.length c0, .int .i64 a1] w fun e w' => e = .returned (.int .i64 r) ∧ Drawn0 w w' := by
 have HR0 := Aside0.mk hr0
 have HC0 := Aside0.mk hc0
 clear hr0 hc0
 have H : (spec_l3Starts.l0 k l0 1 a1) = some r := h
 clear h
 have H' := Aside0.mk H
 clear H
 go_enter Try.func89, Try.ntmps89
 go_wp2
 go_loopg [5, 6] k (fun kq v5 v6 w' => ∃ (x5_1 : Int) (x6_1 : Int), v5 = .int .i64 x5_1 ∧ v6 = .int .i64 x6_1 ∧ Aside0 (spec_l3Starts.l0 kq l0 x5_1 x6_1 = some r) ∧ Aside0 (kq ≤ k) ∧ Drawn0 w w')
 case atStart => exact ⟨(1), (a1), (by first | rfl | (simp; done) | (simp [*]; done)), (by first | rfl | (simp; done) | (simp [*]; done)), H', ⟨Nat.le_refl _⟩, by repeat (first | exact Drawn0.refl _ | apply Drawn0.step)⟩
 case round =>
  clear H'
  try clear p2
  obtain ⟨x5_1, x6_1, rfl, rfl, HA, HK1, ⟨m1, rfl⟩⟩ := hrel
  cases gk with
  | zero => exact absurd HA.out (by simp [spec_l3Starts.l0])
  | succ k1 =>
   have H := HA.out
   clear HA
   simp only [spec_l3Starts.l0] at H
   by_cases c3 : x5_1 > 0
   ·rw [if_pos c3] at H
    have c3b0 : decide (0 < x5_1) = true := decide_eq_true c3
    clear c3
    by_cases c4 : 0 ≤ x6_1
    ·rw [if_pos c4] at H
     have c4b0 : decide (0 ≤ x6_1) = true := decide_eq_true c4
     clear c4
     by_cases c5 : x6_1 < (l0.length : Int)
     ·rw [if_pos c5] at H
      have c5b0 : decide (x6_1 < (l0.length : Int)) = true := decide_eq_true c5
      clear c5
      by_cases c6 : ((rd_T78 l0 x6_1).f0) = 0
      ·rw [if_pos c6] at H
       have c6b0 : (((rd_T78 l0 x6_1).f0) == 0) = true := beq_iff_eq.mpr c6
       have c6b1 : (((rd_T78 l0 x6_1).f0) != 0) = false := bne_eq_false_iff_eq.mpr c6
       clear c6
       have H' := Aside0.mk H
       clear H
       have p348 : 0 ≤ (x6_1 : Int) := oda
       have q348 : x6_1 < (l0.length : Int) := oda
       obtain ⟨ad348, e348, hx348_0, hx348_1, hx348_2⟩ := at_T78 HR0.out x6_1 p348 q348
       cases e348
       replace p348 := eq_true p348
       replace q348 := eq_true q348
       go_wp2
       go_roundg k1
       case measure => have := HK1.out; omega
       case rel => exact ⟨(wrap64 (x5_1 - 1)), (wrap64 (x6_1 - 1)), (by first | rfl | (simp; done) | (simp [*]; done)), (by first | rfl | (simp; done) | (simp [*]; done)), H', ⟨by have := HK1.out; omega⟩, by repeat (first | exact Drawn0.refl _ | apply Drawn0.step)⟩
      ·rw [if_neg c6] at H
       have c6b0 : (((rd_T78 l0 x6_1).f0) == 0) = false := beq_eq_false_iff_ne.mpr c6
       have c6b1 : (((rd_T78 l0 x6_1).f0) != 0) = true := bne_iff_ne.mpr c6
       have H' := Aside0.mk H
       clear H
       have p348 : 0 ≤ (x6_1 : Int) := oda
       have q348 : x6_1 < (l0.length : Int) := oda
       obtain ⟨ad348, e348, hx348_0, hx348_1, hx348_2⟩ := at_T78 HR0.out x6_1 p348 q348
       cases e348
       replace p348 := eq_true p348
       replace q348 := eq_true q348
       go_wp2
       go_roundg k1
       case measure => have := HK1.out; omega
       case rel => exact ⟨(wrap64 (x5_1 + 1)), (wrap64 (x6_1 - 1)), (by first | rfl | (simp; done) | (simp [*]; done)), (by first | rfl | (simp; done) | (simp [*]; done)), H', ⟨by have := HK1.out; omega⟩, by repeat (first | exact Drawn0.refl _ | apply Drawn0.step)⟩
     ·rw [if_neg c5] at H
      exact absurd H (by simp)
    ·rw [if_neg c4] at H
     exact absurd H (by simp)
   ·rw [if_neg c3] at H
    have c3b0 : decide (0 < x5_1) = false := decide_eq_false c3
    clear c3
    obtain rfl := Option.some.inj H
    go_wp2
    go_ret
    exact ⟨by first | rfl | (simp; done) | (simp [*]; done), by repeat (first | exact Drawn0.refl _ | apply Drawn0.step)⟩

end Go.Proofs.Ytnpjlpkbefdnlaa.QFnLawBy
