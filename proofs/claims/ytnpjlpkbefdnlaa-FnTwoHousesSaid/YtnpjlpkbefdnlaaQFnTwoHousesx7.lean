-- Printed for this claim by a turned copy of the print (wip/myprint). Lean checks it. Squeezed. Worded. Tightened.
import Derived.Test.YtnpjlpkbefdnlaaQFnTwoHousesx0
import Derived.Test.YtnpjlpkbefdnlaaQFnTwoHousesx2
import Derived.Test.YtnpjlpkbefdnlaaQFnTwoHousesx3
import Derived.Test.YtnpjlpkbefdnlaaQFnTwoHousesx4
import Derived.Test.YtnpjlpkbefdnlaaQFnTwoHousesx6
namespace Go.Proofs.Ytnpjlpkbefdnlaa.QFnTwoHouses
open Go.RowKit Go.Proofs.YtnpjlpkbefdnlaaW.PrintWords Go.Proofs.YtnpjlpkbefdnlaaW.PrintLast Go.Proofs.YtnpjlpkbefdnlaaW.PrintMore
attribute [local go_sem] max2_int min2_int max_two min_two max_three min_three max_four min_four Opens.cell_twice   -- for this text's walks alone
set_option linter.unusedVariables false
set_option linter.unusedSimpArgs false

/-! ### spec_DrawSameConsents: function 19 -/
def spec_DrawSameConsents.f (k : Nat) (l0 : List Int) : Option (Int × List Int × (List (S78)) × (List (S78))) := (spec_l20Open.f l0).bind fun bt272 => ((spec_l20Termed.f k bt272.1 bt272.2 14).bind fun bt275 => ((spec_l20Rd_pick.f k bt272.1 bt275.2.2.2 3).bind fun bt284 => (if bt284.1 = 0 then ((spec_DualTerm.f k bt275.1 bt275.2.1 bt275.2.2.1).bind fun t286 => (some (bt275.1, bt275.2.1, bt275.2.2.1, t286))) else ((spec_l20Term.f k bt272.1 bt284.2 bt275.1 bt275.2.1 14).bind fun bt289 => (some (bt275.1, bt275.2.1, bt275.2.2.1, bt289.1))))))
theorem spec_DrawSameConsents.mono : ∀ a0 k, LeO (spec_DrawSameConsents.f k a0) (spec_DrawSameConsents.f (k + 1) a0) := by
 intro a0 k
 unfold spec_DrawSameConsents.f
 repeat' first
   | (with_reducible exact spec_DualTerm.mono _ _ _ _)
   | (with_reducible exact spec_l20Rd_pick.mono _ _ _ _)
   | (with_reducible exact spec_l20Term.mono _ _ _ _ _ _)
   | (with_reducible exact spec_l20Termed.mono _ _ _ _)
   | (with_reducible exact LeO.refl _)
   | (with_reducible exact LeO.none _)
   | (with_reducible refine LeO.ite ?_ ?_)
   | (with_reducible refine LeO.bind ?_ (fun _ => ?_))
   | exact spec_DualTerm.mono _ _ _ _
   | exact spec_l20Rd_pick.mono _ _ _ _
   | exact spec_l20Term.mono _ _ _ _ _ _
   | exact spec_l20Termed.mono _ _ _ _
   | exact LeO.none _
   | refine LeO.ite ?_ ?_
   | refine LeO.bind ?_ (fun _ => ?_)
def spec_DrawSameConsents.T4 : Bool × List (List Nat × List Nat) := (true, [([], []), ([], []), ([], []), ([], []), ([2, 3], [2, 3]), ([0, 4, 0], [0]), ([1, 5, 0, 1, 5], [1]), ([4, 6, 0, 1, 2, 3, 4, 5, 6], [4])])
def spec_DrawSameConsents.B4 : List Nat := [0, 0, 0, 0, 12, 29, 63, 127]
theorem spec_DrawSameConsents.tab4 : rtab .any (opsOf Try.f19 4) = spec_DrawSameConsents.T4 := by kernel_rfl
theorem spec_DrawSameConsents.bits4 : waitsOk spec_DrawSameConsents.T4.2 spec_DrawSameConsents.B4 = true := by kernel_rfl
def spec_DrawSameConsents.T5 : Bool × List (List Nat × List Nat) := (true, [([], []), ([], []), ([], []), ([], []), ([2, 3], [2, 3]), ([0, 4, 0], [0]), ([1, 5, 0, 1, 5], [1]), ([4, 6, 0, 1, 2, 3, 4, 5, 6], [4])])
def spec_DrawSameConsents.B5 : List Nat := [0, 0, 0, 0, 12, 29, 63, 127]
theorem spec_DrawSameConsents.tab5 : rtab .any (opsOf Try.f19 5) = spec_DrawSameConsents.T5 := by kernel_rfl
theorem spec_DrawSameConsents.bits5 : waitsOk spec_DrawSameConsents.T5.2 spec_DrawSameConsents.B5 = true := by kernel_rfl
set_option maxHeartbeats 8000000 in
set_option maxRecDepth 100000 in
theorem spec_DrawSameConsents.calls (k : Nat) (A0 : Option Addr) (c0 : Nat) (l0 : List Int) (r1 : Int) (r2 : List Int) (r3 : List (S78)) (r4 : List (S78)) (w : World) (hr0 : Kd.C (Kd.int .u8) w A0 l0.length l0) (hc0 : l0.length ≤ c0) (h : spec_DrawSameConsents.f k l0 = some (r1, r2, r3, r4)) :
  Calls Try.prog 19 #[.slice A0 l0.length c0] w fun e w' => ∃ v1_ v2_ v3_ : Value, e = .returned (.tuple #[.agg #[.int .i64 r1, v1_], v2_, v3_]) ∧ Kd.R (Kd.int .i64) 3 w' w.heap.size (fun k_ => (w.heap.size ≤ k_)) v1_ r2 ∧ Kd.V k78 78 w' w.heap.size (fun k_ => (w.heap.size ≤ k_) ∧ some k_ ≠ (v1_ : Value).ownBlock) v2_ r3 ∧ Kd.V k78 78 w' w.heap.size (fun k_ => (w.heap.size ≤ k_) ∧ some k_ ≠ (v1_ : Value).ownBlock) v3_ r4 ∧ Below w.heap.size w w' := by
 have hu25 := Try.underlying25
 have HR0 := Aside0.mk hr0
 have HC0 := Aside0.mk hc0
 clear hr0 hc0
 have HB := Aside0.mk (Below.refl w.heap.size w)
 have H : ((spec_l20Open.f l0).bind fun bt272 => ((spec_l20Termed.f k bt272.1 bt272.2 14).bind fun bt275 => ((spec_l20Rd_pick.f k bt272.1 bt275.2.2.2 3).bind fun bt284 => (if bt284.1 = 0 then ((spec_DualTerm.f k bt275.1 bt275.2.1 bt275.2.2.1).bind fun t286 => (some (bt275.1, bt275.2.1, bt275.2.2.1, t286))) else ((spec_l20Term.f k bt272.1 bt284.2 bt275.1 bt275.2.1 14).bind fun bt289 => (some (bt275.1, bt275.2.1, bt275.2.2.1, bt289.1))))))) = some (r1, r2, r3, r4) := h
 clear h
 replace H := Option.bind_eq_some_iff.mp H
 obtain ⟨⟨t272, t273⟩, A20, H⟩ := H
 replace H : ((spec_l20Termed.f k t272 t273 14).bind fun bt275 => ((spec_l20Rd_pick.f k t272 bt275.2.2.2 3).bind fun bt284 => (if bt284.1 = 0 then ((spec_DualTerm.f k bt275.1 bt275.2.1 bt275.2.2.1).bind fun t286 => (some (bt275.1, bt275.2.1, bt275.2.2.1, t286))) else ((spec_l20Term.f k t272 bt284.2 bt275.1 bt275.2.1 14).bind fun bt289 => (some (bt275.1, bt275.2.1, bt275.2.2.1, bt289.1)))))) = some (r1, r2, r3, r4) := H
 have A2 := Aside0.mk A20
 clear A20
 replace H := Option.bind_eq_some_iff.mp H
 obtain ⟨⟨t275, t276, t279, t282⟩, A30, H⟩ := H
 replace H : ((spec_l20Rd_pick.f k t272 t282 3).bind fun bt284 => (if bt284.1 = 0 then ((spec_DualTerm.f k t275 t276 t279).bind fun t286 => (some (t275, t276, t279, t286))) else ((spec_l20Term.f k t272 bt284.2 t275 t276 14).bind fun bt289 => (some (t275, t276, t279, bt289.1))))) = some (r1, r2, r3, r4) := H
 have A3 := Aside0.mk A30
 clear A30
 replace H := Option.bind_eq_some_iff.mp H
 obtain ⟨⟨t284, t285⟩, A40, H⟩ := H
 replace H : (if t284 = 0 then ((spec_DualTerm.f k t275 t276 t279).bind fun t286 => (some (t275, t276, t279, t286))) else ((spec_l20Term.f k t272 t285 t275 t276 14).bind fun bt289 => (some (t275, t276, t279, bt289.1)))) = some (r1, r2, r3, r4) := H
 have A4 := Aside0.mk A40
 clear A40
 by_cases c5 : t284 = 0
 ·rw [if_pos c5] at H
  have c5b0 : (t284 == 0) = true := beq_iff_eq.mpr c5
  have c5b1 : (t284 != 0) = false := bne_eq_false_iff_eq.mpr c5
  clear c5
  replace H := Option.bind_eq_some_iff.mp H
  obtain ⟨t286, A60, H⟩ := H
  replace H : (some (t275, t276, t279, t286)) = some (r1, r2, r3, r4) := H
  have A6 := Aside0.mk A60
  clear A60
  simp only [Option.some.injEq, Prod.mk.injEq] at H
  obtain ⟨rfl, rfl, rfl, rfl⟩ := H
  go_enter Try.func19, Try.ntmps19
  try go_wp2_with (first | ((with_reducible refine gate_dst (N := 2) rfl ?_); refine box_event ?hg (N := 2) ?hd (cs := #[.int .i64 0, .slice none 0 0]) (t := 25) ?hr ?_; (case hd => rfl); (case hg => rfl); (case hr => first | (go_simp; done) | (go_simp; rfl)); intro gb271 hg w7 hbox hb; have n0_ := Aside0.mk (below_step bh hb); have n1_ := Aside0.mk (hbox); have n2_ := Aside0.mk ((gs (W0 := w) hg bh)); have n3_ := Aside0.mk ((gs (W0 := w) hg bh)); clear HB; have HB := n0_; have BK271 := n1_; have GW271 := n2_; have GE271 := n3_; clear n0_ n1_ n2_ n3_ hb hbox hg) | ((with_reducible refine gate_callee (f := 52) rfl ?_); refine goesL_ (some 9) rfl rfl Try.func52 kr rfl #[.slice A0 l0.length c0] rfl lm ?_; (with_reducible refine (spec_l20Open.calls _ _ l0 t272 t273 w _ ?side1 ?side2 ?side3 A2.out).mono ?_); (case side1 => repeat (first | (with_reducible first | exact HB.out | apply below_alloc | apply pw_below_drewN | apply below_drew1 | refine below_set ?_ GE271.out) | exact HB.out)); (case side2 => exact HR0.out); (case side3 => exact HC0.out); rintro e w8 ⟨g274, rfl, hi, hb, hb2⟩; refine ⟨_, rfl, ?_⟩; have n0_ := Aside0.mk (blk_below (bz BK271) hb2); have n1_ := Aside0.mk (hb); have n2_ := Aside0.mk (hi); have n3_ := Aside0.mk (IsS95.ne_blk hi (blk_below (bz BK271) hb2) (by decide)); have n4_ := Aside0.mk (Ne.symm (IsS95.ne_blk hi (blk_below (bz BK271) hb2) (by decide))); clear BK271 HB; have BK271 := n0_; have HB := n1_; have HI274 := n2_; have NB274_271 := n3_; have NB271_274 := n4_; clear n0_ n1_ n2_ n3_ n4_; (try clear hb); (try clear hb2); (try clear hk); (try clear hi)) | ((with_reducible refine gate_callee (f := 56) rfl ?_); refine goesL_ (some 12) rfl rfl Try.func56 kr rfl #[.pointer (some ⟨g274, 0, none⟩), .int .i64 14] rfl lm ?_; (with_reducible refine (spec_l20Termed.calls k g274 t272 t273 14 t275 t276 t279 t282 w _ ?side1 ?side2 A3.out).mono ?_); (case side1 => repeat (first | (with_reducible first | exact HI274.out | apply IsS95.alloc | apply IsS95.drewN | apply IsS95.drew | apply IsS95.set_1 | refine IsS95.far ?_ NB274_271.out _) | exact HI274.out)); (case side2 => repeat (first | (with_reducible first | exact HB.out | apply below_alloc | apply pw_below_drewN | apply below_drew1 | refine below_set ?_ (IsS95.ge HI274.out) | refine below_set ?_ GE271.out) | exact HB.out)); rintro e w9 ⟨v277, v280, rfl, ho0, ho1, hi, hb, hk⟩; refine ⟨_, rfl, ?_⟩; have n0_ := Aside0.mk (KeepBut.blk hk (bz BK271) NB271_274.out (by simp)); have n1_ := Aside0.mk (Kd.R_lower (Kd.R_newM (M := fun k_ => (w.heap.size ≤ k_)) (Kd.R_mono (ok' := fun k_ => True) ho0 (fun _ hk_ => trivial)) (below_size (by repeat (first | (with_reducible first | exact HB.out | apply below_alloc | apply pw_below_drewN | apply below_drew1 | refine below_set ?_ (IsS95.ge HI274.out) | refine below_set ?_ GE271.out) | exact HB.out))) (fun k_ h_ => h_)) (below_size (by repeat (first | (with_reducible first | exact HB.out | apply below_alloc | apply pw_below_drewN | apply below_drew1 | refine below_set ?_ (IsS95.ge HI274.out) | refine below_set ?_ GE271.out) | exact HB.out)))); have n2_ := Aside0.mk (Kd.V_lower (Kd.V_mono (ok' := fun k_ => (w.heap.size ≤ k_) ∧ some k_ ≠ (v277 : Value).ownBlock ∧ k_ ≠ gb271 ∧ k_ ≠ g274) ho1 (fun k_ hk_ => ⟨(Nat.le_trans (below_size (by repeat (first | (with_reducible first | exact HB.out | apply below_alloc | apply pw_below_drewN | apply below_drew1 | refine below_set ?_ (IsS95.ge HI274.out) | refine below_set ?_ GE271.out) | exact HB.out))) hk_.1), hk_.2, (Kd.freshB (bz BK271) k_ hk_.1), (IsS95.fresh (by repeat (first | (with_reducible first | exact HI274.out | apply IsS95.alloc | apply IsS95.drewN | apply IsS95.drew | apply IsS95.set_1 | refine IsS95.far ?_ NB274_271.out _) | exact HI274.out)) k_ hk_.1)⟩)) (below_size (by repeat (first | (with_reducible first | exact HB.out | apply below_alloc | apply pw_below_drewN | apply below_drew1 | refine below_set ?_ (IsS95.ge HI274.out) | refine below_set ?_ GE271.out) | exact HB.out)))); have n3_ := Aside0.mk (hb); have n4_ := Aside0.mk (hi); clear BK271 HB HI274; have BK271 := n0_; have HO278 := n1_; have HO281 := n2_; have HB := n3_; have HI274 := n4_; clear n0_ n1_ n2_ n3_ n4_; (try clear hb); (try clear hb2); (try clear hk); (try clear hi); (try clear ho0); (try clear ho1)) | ((with_reducible refine gate_dst (N := 6) rfl ?_); refine box_event ?hg (N := 6) ?hd (cs := #[.int .i64 0, .slice none 0 0]) (t := 25) ?hr ?_; (case hd => rfl); (case hg => rfl); (case hr => first | (go_simp; done) | (go_simp; rfl)); intro gb283 hg w10 hbox hb; have n0_ := Aside0.mk (Kd.R_below (rz HO278) hb); have n1_ := Aside0.mk (Kd.V_below (Kd.V_elderB (vz HO281) gb283 (Nat.le_of_eq hg.symm)) hb); have n2_ := Aside0.mk (blk_below (bz BK271) hb); have n3_ := Aside0.mk (IsS95.below (by repeat (first | (with_reducible first | exact HI274.out | apply IsS95.alloc | apply IsS95.drewN | apply IsS95.drew | apply IsS95.set_1 | refine IsS95.far ?_ NB274_271.out _) | exact HI274.out)) hb); have n4_ := Aside0.mk (below_step (by repeat (first | (with_reducible first | exact HB.out | apply below_alloc | apply pw_below_drewN | apply below_drew1 | refine below_set ?_ (IsS95.ge HI274.out) | refine below_set ?_ GE271.out) | exact HB.out)) hb); have n5_ := Aside0.mk (hbox); have n6_ := Aside0.mk ((by rw [hg]; exact (below_size (by repeat (first | (with_reducible first | exact HB.out | apply below_alloc | apply pw_below_drewN | apply below_drew1 | refine below_set ?_ (IsS95.ge HI274.out) | refine below_set ?_ GE271.out) | exact HB.out))) : w.heap.size ≤ gb283)); have n7_ := Aside0.mk ((by rw [hg]; exact (below_size (by repeat (first | (with_reducible first | exact HB.out | apply below_alloc | apply pw_below_drewN | apply below_drew1 | refine below_set ?_ (IsS95.ge HI274.out) | refine below_set ?_ GE271.out) | exact HB.out))) : w.heap.size ≤ gb283)); have n8_ := Aside0.mk ((gn hg (bz BK271))); have n9_ := Aside0.mk ((gm hg (bz BK271))); have n10_ := Aside0.mk ((by rw [hg]; exact Nat.ne_of_lt (IsS95.lt (show IsS95 w _ g274 t272 t282 from by repeat (first | (with_reducible first | exact HI274.out | apply IsS95.alloc | apply IsS95.drewN | apply IsS95.drew | apply IsS95.set_1 | refine IsS95.far ?_ NB274_271.out _) | exact HI274.out))) : g274 ≠ gb283)); have n11_ := Aside0.mk ((by rw [hg]; exact Nat.ne_of_gt (IsS95.lt (show IsS95 w _ g274 t272 t282 from by repeat (first | (with_reducible first | exact HI274.out | apply IsS95.alloc | apply IsS95.drewN | apply IsS95.drew | apply IsS95.set_1 | refine IsS95.far ?_ NB274_271.out _) | exact HI274.out))) : gb283 ≠ g274)); clear HO278 HO281 BK271 HI274 HB; have HO278 := n0_; have HO281 := n1_; have BK271 := n2_; have HI274 := n3_; have HB := n4_; have BK283 := n5_; have GW283 := n6_; have GE283 := n7_; have NB271_283 := n8_; have NB283_271 := n9_; have NB274_283 := n10_; have NB283_274 := n11_; clear n0_ n1_ n2_ n3_ n4_ n5_ n6_ n7_ n8_ n9_ n10_ n11_ hb hbox hg; have hnb11 := NB283_271.out; have hnc11 := NB271_283.out; have hnb12 := NB283_274.out; have hnc12 := NB274_283.out; have hcz13_0 := cz0 BK283; have hcz13_1 := cz1 BK283; have hfz13_0 := blk_frozen BK283.out 0; have hfz13_1 := blk_frozen BK283.out 1; obtain ⟨Ao14, co14, eo14⟩ := Kd.R_slice HO278.out; subst eo14) | ((with_reducible refine gate_callee (f := 57) rfl ?_); refine goesL_ (some 16) rfl rfl Try.func57 kr rfl #[.pointer (some ⟨g274, 0, none⟩), .int .i64 3] rfl lm ?_; (with_reducible refine (spec_l20Rd_pick.calls k g274 t272 t282 3 t284 t285 w _ ?side1 ?side2 A4.out).mono ?_); (case side1 => repeat (first | (with_reducible first | exact HI274.out | apply IsS95.alloc | apply IsS95.drewN | apply IsS95.drew | apply IsS95.set_1 | refine IsS95.far ?_ NB274_271.out _ | refine IsS95.far ?_ NB274_283.out _) | exact HI274.out)); (case side2 => repeat (first | (with_reducible first | exact HB.out | apply below_alloc | apply pw_below_drewN | apply below_drew1 | refine below_set ?_ (IsS95.ge HI274.out) | refine below_set ?_ GE271.out | refine below_set ?_ GE283.out) | exact HB.out)); rintro e w15 ⟨rfl, hi, hb, hk⟩; refine ⟨_, rfl, ?_⟩; have n0_ := Aside0.mk (KeepBut.blk hk (g' := gb271) (o := .cells #[.int .i64 0, .slice none 0 0] 25 (0, 0)) (bf NB271_283 BK271) NB271_274.out (by simp)); have n1_ := Aside0.mk (Kd.R_mono (Kd.R_keep (IsS95.apart (show IsS95 w _ g274 t272 t282 from by repeat (first | (with_reducible first | exact HI274.out | apply IsS95.alloc | apply IsS95.drewN | apply IsS95.drew | apply IsS95.set_1 | refine IsS95.far ?_ NB274_271.out _ | refine IsS95.far ?_ NB274_283.out _) | exact HI274.out)) (fR HO278 BK283) (by decide)) hk (fun _ h => h.2)) (fun _ h => h.1)); have n2_ := Aside0.mk (Kd.V_mono (Kd.V_keep (Kd.V_mono (ok := fun k_ => ((((w.heap.size ≤ k_)) ∧ (some k_ ≠ (.slice Ao14 t276.length co14 : Value).ownBlock ∧ (k_ ≠ gb271 ∧ k_ ≠ g274))) ∧ k_ ≠ gb283)) (uV HO281 (fun _ hk => hk.2)) (fun k_ hk_ => (⟨hk_, hk_.1.2.2.2⟩ : _ ∧ k_ ≠ g274))) hk (fun _ h => h.2)) (fun _ h => h.1)); have n3_ := Aside0.mk (KeepBut.blk hk (g' := gb283) (o := .cells #[.int .i64 t275, .slice Ao14 t276.length co14] 25 (0, 0)) (bp BK283) NB283_274.out (by simp)); have n4_ := Aside0.mk (hb); have n5_ := Aside0.mk (hi); clear BK271 HO278 HO281 BK283 HB HI274; have BK271 := n0_; have HO278 := n1_; have HO281 := n2_; have BK283 := n3_; have HB := n4_; have HI274 := n5_; clear n0_ n1_ n2_ n3_ n4_ n5_; (try clear hb); (try clear hb2); (try clear hk); (try clear hi)))
  have n0_ := Aside0.mk (Kd.R_drew HO278.out)
  have n1_ := Aside0.mk (Kd.V_drew HO281.out)
  have n2_ := Aside0.mk (blk_drew BK271.out)
  have n3_ := Aside0.mk (blk_drew BK283.out)
  have n4_ := Aside0.mk (IsS95.drew HI274.out)
  have n5_ := Aside0.mk (below_drew1 HB.out)
  clear HO278 HO281 BK271 BK283 HI274 HB
  have HO278 := n0_
  have HO281 := n1_
  have BK271 := n2_
  have BK283 := n3_
  have HI274 := n4_
  have HB := n5_
  clear n0_ n1_ n2_ n3_ n4_ n5_
  obtain ⟨Ao17, co17, eo17⟩ := Kd.V_slice HO281.out
  (first | subst eo17 | (injection eo17 with f1_ f2_ f3_; have f4_ := f1_.symm; have f5_ := f3_.symm; clear f1_ f2_ f3_; subst f4_; subst f5_))
  refine start_ (n := 8) (S := fun w' => w'.cell? ⟨gb283, 0, none⟩ = some (.int .i64 t275) ∧ w'.cell? ⟨gb283, 1, none⟩ = some (.slice Ao14 t276.length co14)) (ds := []) #[F,F,F,F,F,F,F,F] kr rfl rfl ⟨cz0 BK283, cz1 BK283⟩ (fun hHeld => ?_); refine with_tabW spec_DrawSameConsents.tab4 spec_DrawSameConsents.bits4 (fun HT_ HW_ => ?_)
  generalize w15.drew = w16 at HO278 HO281 BK271 BK283 HI274 HB hHeld ⊢
  refine pu 1 (some 19) #[F,T,F,F,F,F,F,F] (any_of HT_.out kr) ?_
  refine pu 3 (some 21) #[F,T,F,T,F,F,F,F] (any_of HT_.out kr) ?_
  refine tk2 0 (some 18) #[T,T,F,T,F,F,F,F] (take_ofW HT_.out HW_.out kr) ?_
  refine tk2 2 (some 20) #[T,T,T,T,F,F,F,F] (take_ofW HT_.out HW_.out kr) ?_
  refine one_ (i := 4) (N := some 22) #[T,T,T,T,T,F,F,F] rfl rfl (one_of HT_.out kr) (by decide) (fun K hK => ?_)
  refine goes_ Try.func58 kr rfl #[.agg #[.int .i64 t275, .slice Ao14 t276.length co14], .slice Ao17 t279.length co17] (by rfl) rfl rfl lm ?_
  with_reducible refine (spec_DualTerm.calls k t275 _ _ t276 _ _ t279 t286 _ ?side1 ?side2 ?side3 ?side4 A6.out).mono ?_
  (case side1 => repeat (first | exact (Kd.R_reads' HO278.out).2.2 | (with_reducible refine Kd.C_alloc ?_ _) | (with_reducible refine Kd.C_drewN ?_ _) | (with_reducible refine Kd.C_drew ?_)))
  (case side2 => exact (Kd.R_reads' HO278.out).2.1)
  (case side3 => repeat (first | exact (Kd.V_reads' HO281.out).2.2 | (with_reducible refine Kd.C_alloc ?_ _) | (with_reducible refine Kd.C_drewN ?_ _) | (with_reducible refine Kd.C_drew ?_)))
  (case side4 => exact (Kd.V_reads' HO281.out).2.1)
  rintro e w18 ⟨v287, rfl, ho0, hb⟩
  refine ⟨_, rfl, ?_⟩
  have n0_ := Aside0.mk (Kd.R_below (rz HO278) hb)
  have n1_ := Aside0.mk (Kd.V_elder' (vz HO281) (Kd.R_base ho0) hb)
  have n2_ := Aside0.mk (Kd.R_lower (Kd.R_newM (M := fun k_ => (w.heap.size ≤ k_)) ho0 (below_size (by repeat (first | (with_reducible first | exact HB.out | apply below_alloc | apply pw_below_drewN | apply below_drew1 | refine below_set ?_ (IsS95.ge HI274.out) | refine below_set ?_ GE271.out | refine below_set ?_ GE283.out) | exact HB.out))) (fun k_ h_ => h_)) (below_size (by repeat (first | (with_reducible first | exact HB.out | apply below_alloc | apply pw_below_drewN | apply below_drew1 | refine below_set ?_ (IsS95.ge HI274.out) | refine below_set ?_ GE271.out | refine below_set ?_ GE283.out) | exact HB.out))))
  have n3_ := Aside0.mk (blk_below (bz BK271) hb)
  have n4_ := Aside0.mk (IsS95.below (by repeat (first | (with_reducible first | exact HI274.out | apply IsS95.alloc | apply IsS95.drewN | apply IsS95.drew | apply IsS95.set_1 | refine IsS95.far ?_ NB274_271.out _ | refine IsS95.far ?_ NB274_283.out _) | exact HI274.out)) hb)
  have n5_ := Aside0.mk (blk_below (bz BK283) hb)
  have n6_ := Aside0.mk (below_step (by repeat (first | (with_reducible first | exact HB.out | apply below_alloc | apply pw_below_drewN | apply below_drew1 | refine below_set ?_ (IsS95.ge HI274.out) | refine below_set ?_ GE271.out | refine below_set ?_ GE283.out) | exact HB.out)) hb)
  clear HO278 HO281 BK271 HI274 BK283 HB
  have HO278 := n0_
  have HO281 := n1_
  have HO288 := n2_
  have BK271 := n3_
  have HI274 := n4_
  have BK283 := n5_
  have HB := n6_
  clear n0_ n1_ n2_ n3_ n4_ n5_ n6_
  (try clear hb)
  (try clear hb2)
  (try clear hk)
  (try clear hi)
  (try clear ho0)
  refine hK.out _ _ ⟨cz0 BK283, cz1 BK283⟩ (fun hHeld => ?_)
  clear hK K
  refine norm_ (a' := ?_) ?_ ?_
  rotate_left
  ·show Act.put _ (some 22) _ = _
   simp only [Act.put, List.setIfInBounds_toArray, List.set_cons_zero, List.set_cons_succ, i64_w, i32_w]
   rfl
  refine one_ (i := 5) (N := none) #[T,T,T,T,T,T,F,F] rfl rfl (one_of HT_.out kr) (by decide) (fun K hK => ?_)
  have hs19 := cz0 BK271
  have hfs19 := blk_frozen BK271.out 0
  have hns19_1 := NB283_271.out
  have hms19_1 := NB271_283.out
  have hs20 := cz1 BK271
  have hfs20 := blk_frozen BK271.out 1
  have hns20_1 := NB283_271.out
  have hms20_1 := NB271_283.out
  refine skip_ (w1 := ?_) (by rfl) rfl ?_ ?_
  rotate_left
  ·go_simp
   rfl
  refine hK.out _ _ ⟨((cell_far (p := ⟨gb271, _, none⟩) NB283_271.out _).trans (((cell_far (p := ⟨gb271, _, none⟩) NB283_271.out _).trans (hHeld.1)))), ((cell_far (p := ⟨gb271, _, none⟩) NB283_271.out _).trans (((cell_far (p := ⟨gb271, _, none⟩) NB283_271.out _).trans (hHeld.2))))⟩ (fun hHeld => ?_)
  clear hK K
  refine pu 6 (some 3) #[T,T,T,T,T,T,T,F] (any_of HT_.out kr) ?_
  refine pu 7 (some 4) #[T,T,T,T,T,T,T,T] (any_of HT_.out kr) ?_
  refine done_ (done_of HT_.out kr) ?_
  try go_wp2
  refine bodyPost_ret (results_ctt rfl _ _ gb271 25 #[.int .i64 t275, .slice Ao14 t276.length co14] (0, 0) _ rfl (bp BK271) Try.underlying25 rfl kr) rfl ?_
  exact ⟨_, _, _, by first | rfl | (simp [errW_none, errW_some] <;> rfl) | (simp [*, errW_none, errW_some] <;> rfl), by (with_reducible repeat (first | apply Kd.R_alloc | apply Kd.R_drewN | apply Kd.R_drew)); exact Kd.R_mono (Kd.R_far (p := ⟨gb271, 1, none⟩) (Kd.R_far (p := ⟨gb271, 0, none⟩) (Kd.R_types HO278.out BK271.out (by decide)) (fun _ hk => hk.2) (.int .i64 t275)) (fun _ hk => hk.2) (.slice Ao14 t276.length co14)) (fun _ hk => hk.1.1), by (with_reducible repeat (first | apply Kd.V_alloc | apply Kd.V_drewN | apply Kd.V_drew)); exact Kd.V_mono (Kd.V_far (p := ⟨gb271, 1, none⟩) (Kd.V_far (p := ⟨gb271, 0, none⟩) (Kd.V_mono HO281.out (fun k_ hk => (⟨hk, hk.1.1.2.2.1⟩ : _ ∧ k_ ≠ gb271))) (fun _ hk => hk.2) (.int .i64 t275)) (fun _ hk => hk.2) (.slice Ao14 t276.length co14)) (fun _ hk => ⟨hk.1.1.1.1, hk.1.1.1.2.1⟩), Kd.R_V (by (with_reducible repeat (first | apply Kd.R_alloc | apply Kd.R_drewN | apply Kd.R_drew)); exact Kd.R_mono (Kd.R_far (p := ⟨gb271, 1, none⟩) (Kd.R_far (p := ⟨gb271, 0, none⟩) (Kd.R_types (Kd.R_apart' HO288.out (Kd.R_typed HO278.out) (by decide)) BK271.out (by decide)) (fun _ hk => hk.2) (.int .i64 t275)) (fun _ hk => hk.2) (.slice Ao14 t276.length co14)) (fun _ hk => ⟨hk.1.1.1, hk.1.2⟩)), by repeat (first | (with_reducible first | exact HB.out | apply below_alloc | apply pw_below_drewN | apply below_drew1 | refine below_set ?_ (IsS95.ge HI274.out) | refine below_set ?_ GE271.out | refine below_set ?_ GE283.out) | exact HB.out)⟩
 ·rw [if_neg c5] at H
  have c5b0 : (t284 == 0) = false := beq_eq_false_iff_ne.mpr c5
  have c5b1 : (t284 != 0) = true := bne_iff_ne.mpr c5
  replace H := Option.bind_eq_some_iff.mp H
  obtain ⟨⟨t289, t292⟩, A210, H⟩ := H
  replace H : (some (t275, t276, t279, t289)) = some (r1, r2, r3, r4) := H
  have A21 := Aside0.mk A210
  clear A210
  simp only [Option.some.injEq, Prod.mk.injEq] at H
  obtain ⟨rfl, rfl, rfl, rfl⟩ := H
  go_enter Try.func19, Try.ntmps19
  try go_wp2_with (first | ((with_reducible refine gate_dst (N := 2) rfl ?_); refine box_event ?hg (N := 2) ?hd (cs := #[.int .i64 0, .slice none 0 0]) (t := 25) ?hr ?_; (case hd => rfl); (case hg => rfl); (case hr => first | (go_simp; done) | (go_simp; rfl)); intro gb271 hg w22 hbox hb; have n0_ := Aside0.mk (below_step bh hb); have n1_ := Aside0.mk (hbox); have n2_ := Aside0.mk ((gs (W0 := w) hg bh)); have n3_ := Aside0.mk ((gs (W0 := w) hg bh)); clear HB; have HB := n0_; have BK271 := n1_; have GW271 := n2_; have GE271 := n3_; clear n0_ n1_ n2_ n3_ hb hbox hg) | ((with_reducible refine gate_callee (f := 52) rfl ?_); refine goesL_ (some 9) rfl rfl Try.func52 kr rfl #[.slice A0 l0.length c0] rfl lm ?_; (with_reducible refine (spec_l20Open.calls _ _ l0 t272 t273 w _ ?side1 ?side2 ?side3 A2.out).mono ?_); (case side1 => repeat (first | (with_reducible first | exact HB.out | apply below_alloc | apply pw_below_drewN | apply below_drew1 | refine below_set ?_ GE271.out) | exact HB.out)); (case side2 => exact HR0.out); (case side3 => exact HC0.out); rintro e w23 ⟨g274, rfl, hi, hb, hb2⟩; refine ⟨_, rfl, ?_⟩; have n0_ := Aside0.mk (blk_below (bz BK271) hb2); have n1_ := Aside0.mk (hb); have n2_ := Aside0.mk (hi); have n3_ := Aside0.mk (IsS95.ne_blk hi (blk_below (bz BK271) hb2) (by decide)); have n4_ := Aside0.mk (Ne.symm (IsS95.ne_blk hi (blk_below (bz BK271) hb2) (by decide))); clear BK271 HB; have BK271 := n0_; have HB := n1_; have HI274 := n2_; have NB274_271 := n3_; have NB271_274 := n4_; clear n0_ n1_ n2_ n3_ n4_; (try clear hb); (try clear hb2); (try clear hk); (try clear hi)) | ((with_reducible refine gate_callee (f := 56) rfl ?_); refine goesL_ (some 12) rfl rfl Try.func56 kr rfl #[.pointer (some ⟨g274, 0, none⟩), .int .i64 14] rfl lm ?_; (with_reducible refine (spec_l20Termed.calls k g274 t272 t273 14 t275 t276 t279 t282 w _ ?side1 ?side2 A3.out).mono ?_); (case side1 => repeat (first | (with_reducible first | exact HI274.out | apply IsS95.alloc | apply IsS95.drewN | apply IsS95.drew | apply IsS95.set_1 | refine IsS95.far ?_ NB274_271.out _) | exact HI274.out)); (case side2 => repeat (first | (with_reducible first | exact HB.out | apply below_alloc | apply pw_below_drewN | apply below_drew1 | refine below_set ?_ (IsS95.ge HI274.out) | refine below_set ?_ GE271.out) | exact HB.out)); rintro e w24 ⟨v277, v280, rfl, ho0, ho1, hi, hb, hk⟩; refine ⟨_, rfl, ?_⟩; have n0_ := Aside0.mk (KeepBut.blk hk (bz BK271) NB271_274.out (by simp)); have n1_ := Aside0.mk (Kd.R_lower (Kd.R_newM (M := fun k_ => (w.heap.size ≤ k_)) (Kd.R_mono (ok' := fun k_ => True) ho0 (fun _ hk_ => trivial)) (below_size (by repeat (first | (with_reducible first | exact HB.out | apply below_alloc | apply pw_below_drewN | apply below_drew1 | refine below_set ?_ (IsS95.ge HI274.out) | refine below_set ?_ GE271.out) | exact HB.out))) (fun k_ h_ => h_)) (below_size (by repeat (first | (with_reducible first | exact HB.out | apply below_alloc | apply pw_below_drewN | apply below_drew1 | refine below_set ?_ (IsS95.ge HI274.out) | refine below_set ?_ GE271.out) | exact HB.out)))); have n2_ := Aside0.mk (Kd.V_lower (Kd.V_mono (ok' := fun k_ => (w.heap.size ≤ k_) ∧ some k_ ≠ (v277 : Value).ownBlock ∧ k_ ≠ gb271 ∧ k_ ≠ g274) ho1 (fun k_ hk_ => ⟨(Nat.le_trans (below_size (by repeat (first | (with_reducible first | exact HB.out | apply below_alloc | apply pw_below_drewN | apply below_drew1 | refine below_set ?_ (IsS95.ge HI274.out) | refine below_set ?_ GE271.out) | exact HB.out))) hk_.1), hk_.2, (Kd.freshB (bz BK271) k_ hk_.1), (IsS95.fresh (by repeat (first | (with_reducible first | exact HI274.out | apply IsS95.alloc | apply IsS95.drewN | apply IsS95.drew | apply IsS95.set_1 | refine IsS95.far ?_ NB274_271.out _) | exact HI274.out)) k_ hk_.1)⟩)) (below_size (by repeat (first | (with_reducible first | exact HB.out | apply below_alloc | apply pw_below_drewN | apply below_drew1 | refine below_set ?_ (IsS95.ge HI274.out) | refine below_set ?_ GE271.out) | exact HB.out)))); have n3_ := Aside0.mk (hb); have n4_ := Aside0.mk (hi); clear BK271 HB HI274; have BK271 := n0_; have HO278 := n1_; have HO281 := n2_; have HB := n3_; have HI274 := n4_; clear n0_ n1_ n2_ n3_ n4_; (try clear hb); (try clear hb2); (try clear hk); (try clear hi); (try clear ho0); (try clear ho1)) | ((with_reducible refine gate_dst (N := 6) rfl ?_); refine box_event ?hg (N := 6) ?hd (cs := #[.int .i64 0, .slice none 0 0]) (t := 25) ?hr ?_; (case hd => rfl); (case hg => rfl); (case hr => first | (go_simp; done) | (go_simp; rfl)); intro gb283 hg w25 hbox hb; have n0_ := Aside0.mk (Kd.R_below (rz HO278) hb); have n1_ := Aside0.mk (Kd.V_below (Kd.V_elderB (vz HO281) gb283 (Nat.le_of_eq hg.symm)) hb); have n2_ := Aside0.mk (blk_below (bz BK271) hb); have n3_ := Aside0.mk (IsS95.below (by repeat (first | (with_reducible first | exact HI274.out | apply IsS95.alloc | apply IsS95.drewN | apply IsS95.drew | apply IsS95.set_1 | refine IsS95.far ?_ NB274_271.out _) | exact HI274.out)) hb); have n4_ := Aside0.mk (below_step (by repeat (first | (with_reducible first | exact HB.out | apply below_alloc | apply pw_below_drewN | apply below_drew1 | refine below_set ?_ (IsS95.ge HI274.out) | refine below_set ?_ GE271.out) | exact HB.out)) hb); have n5_ := Aside0.mk (hbox); have n6_ := Aside0.mk ((by rw [hg]; exact (below_size (by repeat (first | (with_reducible first | exact HB.out | apply below_alloc | apply pw_below_drewN | apply below_drew1 | refine below_set ?_ (IsS95.ge HI274.out) | refine below_set ?_ GE271.out) | exact HB.out))) : w.heap.size ≤ gb283)); have n7_ := Aside0.mk ((by rw [hg]; exact (below_size (by repeat (first | (with_reducible first | exact HB.out | apply below_alloc | apply pw_below_drewN | apply below_drew1 | refine below_set ?_ (IsS95.ge HI274.out) | refine below_set ?_ GE271.out) | exact HB.out))) : w.heap.size ≤ gb283)); have n8_ := Aside0.mk ((gn hg (bz BK271))); have n9_ := Aside0.mk ((gm hg (bz BK271))); have n10_ := Aside0.mk ((by rw [hg]; exact Nat.ne_of_lt (IsS95.lt (show IsS95 w _ g274 t272 t282 from by repeat (first | (with_reducible first | exact HI274.out | apply IsS95.alloc | apply IsS95.drewN | apply IsS95.drew | apply IsS95.set_1 | refine IsS95.far ?_ NB274_271.out _) | exact HI274.out))) : g274 ≠ gb283)); have n11_ := Aside0.mk ((by rw [hg]; exact Nat.ne_of_gt (IsS95.lt (show IsS95 w _ g274 t272 t282 from by repeat (first | (with_reducible first | exact HI274.out | apply IsS95.alloc | apply IsS95.drewN | apply IsS95.drew | apply IsS95.set_1 | refine IsS95.far ?_ NB274_271.out _) | exact HI274.out))) : gb283 ≠ g274)); clear HO278 HO281 BK271 HI274 HB; have HO278 := n0_; have HO281 := n1_; have BK271 := n2_; have HI274 := n3_; have HB := n4_; have BK283 := n5_; have GW283 := n6_; have GE283 := n7_; have NB271_283 := n8_; have NB283_271 := n9_; have NB274_283 := n10_; have NB283_274 := n11_; clear n0_ n1_ n2_ n3_ n4_ n5_ n6_ n7_ n8_ n9_ n10_ n11_ hb hbox hg; have hnb26 := NB283_271.out; have hnc26 := NB271_283.out; have hnb27 := NB283_274.out; have hnc27 := NB274_283.out; have hcz28_0 := cz0 BK283; have hcz28_1 := cz1 BK283; have hfz28_0 := blk_frozen BK283.out 0; have hfz28_1 := blk_frozen BK283.out 1; obtain ⟨Ao29, co29, eo29⟩ := Kd.R_slice HO278.out; subst eo29) | ((with_reducible refine gate_callee (f := 57) rfl ?_); refine goesL_ (some 16) rfl rfl Try.func57 kr rfl #[.pointer (some ⟨g274, 0, none⟩), .int .i64 3] rfl lm ?_; (with_reducible refine (spec_l20Rd_pick.calls k g274 t272 t282 3 t284 t285 w _ ?side1 ?side2 A4.out).mono ?_); (case side1 => repeat (first | (with_reducible first | exact HI274.out | apply IsS95.alloc | apply IsS95.drewN | apply IsS95.drew | apply IsS95.set_1 | refine IsS95.far ?_ NB274_271.out _ | refine IsS95.far ?_ NB274_283.out _) | exact HI274.out)); (case side2 => repeat (first | (with_reducible first | exact HB.out | apply below_alloc | apply pw_below_drewN | apply below_drew1 | refine below_set ?_ (IsS95.ge HI274.out) | refine below_set ?_ GE271.out | refine below_set ?_ GE283.out) | exact HB.out)); rintro e w30 ⟨rfl, hi, hb, hk⟩; refine ⟨_, rfl, ?_⟩; have n0_ := Aside0.mk (KeepBut.blk hk (g' := gb271) (o := .cells #[.int .i64 0, .slice none 0 0] 25 (0, 0)) (bf NB271_283 BK271) NB271_274.out (by simp)); have n1_ := Aside0.mk (Kd.R_mono (Kd.R_keep (IsS95.apart (show IsS95 w _ g274 t272 t282 from by repeat (first | (with_reducible first | exact HI274.out | apply IsS95.alloc | apply IsS95.drewN | apply IsS95.drew | apply IsS95.set_1 | refine IsS95.far ?_ NB274_271.out _ | refine IsS95.far ?_ NB274_283.out _) | exact HI274.out)) (fR HO278 BK283) (by decide)) hk (fun _ h => h.2)) (fun _ h => h.1)); have n2_ := Aside0.mk (Kd.V_mono (Kd.V_keep (Kd.V_mono (ok := fun k_ => ((((w.heap.size ≤ k_)) ∧ (some k_ ≠ (.slice Ao29 t276.length co29 : Value).ownBlock ∧ (k_ ≠ gb271 ∧ k_ ≠ g274))) ∧ k_ ≠ gb283)) (uV HO281 (fun _ hk => hk.2)) (fun k_ hk_ => (⟨hk_, hk_.1.2.2.2⟩ : _ ∧ k_ ≠ g274))) hk (fun _ h => h.2)) (fun _ h => h.1)); have n3_ := Aside0.mk (KeepBut.blk hk (g' := gb283) (o := .cells #[.int .i64 t275, .slice Ao29 t276.length co29] 25 (0, 0)) (bp BK283) NB283_274.out (by simp)); have n4_ := Aside0.mk (hb); have n5_ := Aside0.mk (hi); clear BK271 HO278 HO281 BK283 HB HI274; have BK271 := n0_; have HO278 := n1_; have HO281 := n2_; have BK283 := n3_; have HB := n4_; have HI274 := n5_; clear n0_ n1_ n2_ n3_ n4_ n5_; (try clear hb); (try clear hb2); (try clear hk); (try clear hi)))
  have n0_ := Aside0.mk (Kd.R_drew HO278.out)
  have n1_ := Aside0.mk (Kd.V_drew HO281.out)
  have n2_ := Aside0.mk (blk_drew BK271.out)
  have n3_ := Aside0.mk (blk_drew BK283.out)
  have n4_ := Aside0.mk (IsS95.drew HI274.out)
  have n5_ := Aside0.mk (below_drew1 HB.out)
  clear HO278 HO281 BK271 BK283 HI274 HB
  have HO278 := n0_
  have HO281 := n1_
  have BK271 := n2_
  have BK283 := n3_
  have HI274 := n4_
  have HB := n5_
  clear n0_ n1_ n2_ n3_ n4_ n5_
  refine start_ (n := 8) (S := fun w' => w'.cell? ⟨gb283, 0, none⟩ = some (.int .i64 t275) ∧ w'.cell? ⟨gb283, 1, none⟩ = some (.slice Ao29 t276.length co29)) (ds := []) #[F,F,F,F,F,F,F,F] kr rfl rfl ⟨cz0 BK283, cz1 BK283⟩ (fun hHeld => ?_); refine with_tabW spec_DrawSameConsents.tab5 spec_DrawSameConsents.bits5 (fun HT_ HW_ => ?_)
  generalize w30.drew = w31 at HO278 HO281 BK271 BK283 HI274 HB hHeld ⊢
  refine pu 1 (some 24) #[F,T,F,F,F,F,F,F] (any_of HT_.out kr) ?_
  refine pu 2 (some 25) #[F,T,T,F,F,F,F,F] (any_of HT_.out kr) ?_
  refine tk2 0 (some 23) #[T,T,T,F,F,F,F,F] (take_ofW HT_.out HW_.out kr) ?_
  refine tk2 3 (some 26) #[T,T,T,T,F,F,F,F] (take_ofW HT_.out HW_.out kr) ?_
  refine one_ (i := 4) (N := some 27) #[T,T,T,T,T,F,F,F] rfl rfl (one_of HT_.out kr) (by decide) (fun K hK => ?_)
  refine goes_ Try.func59 kr rfl #[.pointer (some ⟨g274, 0, none⟩), .agg #[.int .i64 t275, .slice Ao29 t276.length co29], .int .i64 14] (by rfl) rfl rfl lm ?_
  with_reducible refine (spec_l20Term.calls k g274 t272 t285 t275 _ _ t276 14 t289 t292 w _ ?side1 ?side2 ?side3 ?side4 ?side5 A21.out).mono ?_
  (case side1 => repeat (first | (with_reducible first | exact HI274.out | apply IsS95.alloc | apply IsS95.drewN | apply IsS95.drew | apply IsS95.set_1 | refine IsS95.far ?_ NB274_271.out _ | refine IsS95.far ?_ NB274_283.out _) | exact HI274.out))
  (case side2 => repeat (first | (with_reducible first | exact HB.out | apply below_alloc | apply pw_below_drewN | apply below_drew1 | refine below_set ?_ (IsS95.ge HI274.out) | refine below_set ?_ GE271.out | refine below_set ?_ GE283.out) | exact HB.out))
  (case side3 => repeat (first | exact (Kd.R_reads' HO278.out).2.2 | (with_reducible refine Kd.C_alloc ?_ _) | (with_reducible refine Kd.C_drewN ?_ _) | (with_reducible refine Kd.C_drew ?_)))
  (case side4 => exact (Kd.R_reads' HO278.out).2.1)
  (case side5 => exact far_slice (IsS95.own_ne HI274.out HO278.out (by decide)))
  rintro e w32 ⟨v290, rfl, ho0, hi, hb, hk⟩
  refine ⟨_, rfl, ?_⟩
  have n0_ := Aside0.mk (KeepBut.blk hk (bz BK271) NB271_274.out (by simp))
  have n1_ := Aside0.mk (Kd.R_mono (Kd.R_keep (IsS95.apart (show IsS95 w _ g274 t272 t285 from by repeat (first | (with_reducible first | exact HI274.out | apply IsS95.alloc | apply IsS95.drewN | apply IsS95.drew | apply IsS95.set_1 | refine IsS95.far ?_ NB274_271.out _ | refine IsS95.far ?_ NB274_283.out _) | exact HI274.out)) (rz HO278) (by decide)) hk (fun _ h => h.2)) (fun _ h => h.1))
  have n2_ := Aside0.mk (Kd.V_mono (Kd.V_keep (Kd.V_mono (ok := fun k_ => ((((w.heap.size ≤ k_)) ∧ (some k_ ≠ (.slice Ao29 t276.length co29 : Value).ownBlock ∧ (k_ ≠ gb271 ∧ k_ ≠ g274))) ∧ k_ ≠ gb283)) (vz HO281) (fun k_ hk_ => (⟨hk_, hk_.1.2.2.2⟩ : _ ∧ k_ ≠ g274))) hk (fun _ h => h.2)) (fun _ h => h.1))
  have n3_ := Aside0.mk (KeepBut.blk hk (bz BK283) NB283_274.out (by simp))
  have n4_ := Aside0.mk (Kd.V_lower (Kd.V_mono (ok' := fun k_ => (w.heap.size ≤ k_) ∧ some k_ ≠ (.slice Ao29 t276.length co29 : Value).ownBlock ∧ k_ ≠ gb271 ∧ k_ ≠ gb283 ∧ k_ ≠ g274) ho0 (fun k_ hk_ => ⟨(Nat.le_trans (below_size (by repeat (first | (with_reducible first | exact HB.out | apply below_alloc | apply pw_below_drewN | apply below_drew1 | refine below_set ?_ (IsS95.ge HI274.out) | refine below_set ?_ GE271.out | refine below_set ?_ GE283.out) | exact HB.out))) hk_), (Kd.fresh' (Kd.R_lt (rz HO278)) k_ hk_), (Kd.freshB (bz BK271) k_ hk_), (Kd.freshB (bz BK283) k_ hk_), (IsS95.fresh (by repeat (first | (with_reducible first | exact HI274.out | apply IsS95.alloc | apply IsS95.drewN | apply IsS95.drew | apply IsS95.set_1 | refine IsS95.far ?_ NB274_271.out _ | refine IsS95.far ?_ NB274_283.out _) | exact HI274.out)) k_ hk_)⟩)) (below_size (by repeat (first | (with_reducible first | exact HB.out | apply below_alloc | apply pw_below_drewN | apply below_drew1 | refine below_set ?_ (IsS95.ge HI274.out) | refine below_set ?_ GE271.out | refine below_set ?_ GE283.out) | exact HB.out))))
  have n5_ := Aside0.mk (hb)
  have n6_ := Aside0.mk (hi)
  clear BK271 HO278 HO281 BK283 HB HI274
  have BK271 := n0_
  have HO278 := n1_
  have HO281 := n2_
  have BK283 := n3_
  have HO291 := n4_
  have HB := n5_
  have HI274 := n6_
  clear n0_ n1_ n2_ n3_ n4_ n5_ n6_
  (try clear hb)
  (try clear hb2)
  (try clear hk)
  (try clear hi)
  (try clear ho0)
  refine hK.out _ _ ⟨cz0 BK283, cz1 BK283⟩ (fun hHeld => ?_)
  clear hK K
  refine norm_ (a' := ?_) ?_ ?_
  rotate_left
  ·show Act.put _ (some 27) _ = _
   simp only [Act.put, List.setIfInBounds_toArray, List.set_cons_zero, List.set_cons_succ, i64_w, i32_w]
   rfl
  refine one_ (i := 5) (N := none) #[T,T,T,T,T,T,F,F] rfl rfl (one_of HT_.out kr) (by decide) (fun K hK => ?_)
  have hs33 := cz0 BK271
  have hfs33 := blk_frozen BK271.out 0
  have hns33_1 := NB283_271.out
  have hms33_1 := NB271_283.out
  have hs34 := cz1 BK271
  have hfs34 := blk_frozen BK271.out 1
  have hns34_1 := NB283_271.out
  have hms34_1 := NB271_283.out
  refine skip_ (w1 := ?_) (by rfl) rfl ?_ ?_
  rotate_left
  ·go_simp
   rfl
  refine hK.out _ _ ⟨((cell_far (p := ⟨gb271, _, none⟩) NB283_271.out _).trans (((cell_far (p := ⟨gb271, _, none⟩) NB283_271.out _).trans (hHeld.1)))), ((cell_far (p := ⟨gb271, _, none⟩) NB283_271.out _).trans (((cell_far (p := ⟨gb271, _, none⟩) NB283_271.out _).trans (hHeld.2))))⟩ (fun hHeld => ?_)
  clear hK K
  refine pu 6 (some 3) #[T,T,T,T,T,T,T,F] (any_of HT_.out kr) ?_
  refine pu 7 (some 4) #[T,T,T,T,T,T,T,T] (any_of HT_.out kr) ?_
  refine done_ (done_of HT_.out kr) ?_
  try go_wp2
  refine bodyPost_ret (results_ctt rfl _ _ gb271 25 #[.int .i64 t275, .slice Ao29 t276.length co29] (0, 0) _ rfl (bp BK271) Try.underlying25 rfl kr) rfl ?_
  exact ⟨_, _, _, by first | rfl | (simp [errW_none, errW_some] <;> rfl) | (simp [*, errW_none, errW_some] <;> rfl), by (with_reducible repeat (first | apply Kd.R_alloc | apply Kd.R_drewN | apply Kd.R_drew)); exact Kd.R_mono (Kd.R_far (p := ⟨gb271, 1, none⟩) (Kd.R_far (p := ⟨gb271, 0, none⟩) (Kd.R_types HO278.out BK271.out (by decide)) (fun _ hk => hk.2) (.int .i64 t275)) (fun _ hk => hk.2) (.slice Ao29 t276.length co29)) (fun _ hk => hk.1.1), by (with_reducible repeat (first | apply Kd.V_alloc | apply Kd.V_drewN | apply Kd.V_drew)); exact Kd.V_mono (Kd.V_far (p := ⟨gb271, 1, none⟩) (Kd.V_far (p := ⟨gb271, 0, none⟩) (Kd.V_mono HO281.out (fun k_ hk => (⟨hk, hk.1.2.2.1⟩ : _ ∧ k_ ≠ gb271))) (fun _ hk => hk.2) (.int .i64 t275)) (fun _ hk => hk.2) (.slice Ao29 t276.length co29)) (fun _ hk => ⟨hk.1.1.1, hk.1.1.2.1⟩), by (with_reducible repeat (first | apply Kd.V_alloc | apply Kd.V_drewN | apply Kd.V_drew)); exact Kd.V_mono (Kd.V_far (p := ⟨gb271, 1, none⟩) (Kd.V_far (p := ⟨gb271, 0, none⟩) (Kd.V_mono HO291.out (fun k_ hk => (⟨hk, hk.2.2.1⟩ : _ ∧ k_ ≠ gb271))) (fun _ hk => hk.2) (.int .i64 t275)) (fun _ hk => hk.2) (.slice Ao29 t276.length co29)) (fun _ hk => ⟨hk.1.1, hk.1.2.1⟩), by repeat (first | (with_reducible first | exact HB.out | apply below_alloc | apply pw_below_drewN | apply below_drew1 | refine below_set ?_ (IsS95.ge HI274.out) | refine below_set ?_ GE271.out | refine below_set ?_ GE283.out) | exact HB.out)⟩

/-! ### spec_DrawConsentOk: function 20 -/
def spec_DrawConsentOk.f (k : Nat) (l0 : List Int) : Option (Int × List Int × (List (S78)) × Int) := (spec_l20Open.f l0).bind fun bt294 => ((spec_l20Termed.f k bt294.1 bt294.2 14).bind fun bt297 => ((spec_l20Rd_pick.f k bt294.1 bt297.2.2.2 (wrap64 (2 ^ (mn (mx bt297.1 1) 6).toNat))).bind fun bt306 => ((spec_l20Rd_pick.f k bt294.1 bt306.2 40).bind fun bt308 => (some (bt297.1, bt297.2.1, bt297.2.2.1, wrap64 (bt306.1 + (wrap64 ((wrap64 (Int.tdiv bt308.1 39)) * 64))))))))
theorem spec_DrawConsentOk.mono : ∀ a0 k, LeO (spec_DrawConsentOk.f k a0) (spec_DrawConsentOk.f (k + 1) a0) := by
 intro a0 k
 unfold spec_DrawConsentOk.f
 repeat' first
   | (with_reducible exact spec_l20Rd_pick.mono _ _ _ _)
   | (with_reducible exact spec_l20Termed.mono _ _ _ _)
   | (with_reducible exact LeO.refl _)
   | (with_reducible exact LeO.none _)
   | (with_reducible refine LeO.ite ?_ ?_)
   | (with_reducible refine LeO.bind ?_ (fun _ => ?_))
   | exact spec_l20Rd_pick.mono _ _ _ _
   | exact spec_l20Termed.mono _ _ _ _
   | exact LeO.none _
   | refine LeO.ite ?_ ?_
   | refine LeO.bind ?_ (fun _ => ?_)
def spec_DrawConsentOk.T3 : Bool × List (List Nat × List Nat) := (true, [([], []), ([], []), ([], []), ([], []), ([3], [3]), ([4], [4]), ([5], [5]), ([6], [6]), ([2, 7], [2, 7]), ([], []), ([9, 8], [9]), ([10], [10]), ([11], [11]), ([8, 12], [8, 12]), ([0, 10, 0], [0]), ([1, 14, 0, 1, 14], [1]), ([13, 15, 0, 1, 2, 3, 4, 5, 6, 7, 8, 9, 10, 11, 12, 13, 14, 15], [13])])
def spec_DrawConsentOk.B3 : List Nat := [0, 0, 0, 0, 8, 24, 56, 120, 252, 0, 1020, 2044, 4092, 8188, 2045, 18431, 65535]
theorem spec_DrawConsentOk.tab3 : rtab .any (opsOf Try.f20 3) = spec_DrawConsentOk.T3 := by kernel_rfl
theorem spec_DrawConsentOk.bits3 : waitsOk spec_DrawConsentOk.T3.2 spec_DrawConsentOk.B3 = true := by kernel_rfl
set_option maxHeartbeats 8000000 in
set_option maxRecDepth 100000 in
theorem spec_DrawConsentOk.calls (k : Nat) (A0 : Option Addr) (c0 : Nat) (l0 : List Int) (r1 : Int) (r2 : List Int) (r3 : List (S78)) (r4 : Int) (w : World) (hr0 : Kd.C (Kd.int .u8) w A0 l0.length l0) (hc0 : l0.length ≤ c0) (h : spec_DrawConsentOk.f k l0 = some (r1, r2, r3, r4)) :
  Calls Try.prog 20 #[.slice A0 l0.length c0] w fun e w' => ∃ v1_ v2_ : Value, e = .returned (.tuple #[.agg #[.int .i64 r1, v1_], v2_, .int .i64 r4]) ∧ Kd.R (Kd.int .i64) 3 w' w.heap.size (fun k_ => (w.heap.size ≤ k_)) v1_ r2 ∧ Kd.V k78 78 w' w.heap.size (fun k_ => (w.heap.size ≤ k_) ∧ some k_ ≠ (v1_ : Value).ownBlock) v2_ r3 ∧ Below w.heap.size w w' := by
 have hu25 := Try.underlying25
 have HR0 := Aside0.mk hr0
 have HC0 := Aside0.mk hc0
 clear hr0 hc0
 have HB := Aside0.mk (Below.refl w.heap.size w)
 have H : ((spec_l20Open.f l0).bind fun bt294 => ((spec_l20Termed.f k bt294.1 bt294.2 14).bind fun bt297 => ((spec_l20Rd_pick.f k bt294.1 bt297.2.2.2 (wrap64 (2 ^ (mn (mx bt297.1 1) 6).toNat))).bind fun bt306 => ((spec_l20Rd_pick.f k bt294.1 bt306.2 40).bind fun bt308 => (some (bt297.1, bt297.2.1, bt297.2.2.1, wrap64 (bt306.1 + (wrap64 ((wrap64 (Int.tdiv bt308.1 39)) * 64))))))))) = some (r1, r2, r3, r4) := h
 clear h
 replace H := Option.bind_eq_some_iff.mp H
 obtain ⟨⟨t294, t295⟩, A20, H⟩ := H
 replace H : ((spec_l20Termed.f k t294 t295 14).bind fun bt297 => ((spec_l20Rd_pick.f k t294 bt297.2.2.2 (wrap64 (2 ^ (mn (mx bt297.1 1) 6).toNat))).bind fun bt306 => ((spec_l20Rd_pick.f k t294 bt306.2 40).bind fun bt308 => (some (bt297.1, bt297.2.1, bt297.2.2.1, wrap64 (bt306.1 + (wrap64 ((wrap64 (Int.tdiv bt308.1 39)) * 64)))))))) = some (r1, r2, r3, r4) := H
 have A2 := Aside0.mk A20
 clear A20
 replace H := Option.bind_eq_some_iff.mp H
 obtain ⟨⟨t297, t298, t301, t304⟩, A30, H⟩ := H
 replace H : ((spec_l20Rd_pick.f k t294 t304 (wrap64 (2 ^ (mn (mx t297 1) 6).toNat))).bind fun bt306 => ((spec_l20Rd_pick.f k t294 bt306.2 40).bind fun bt308 => (some (t297, t298, t301, wrap64 (bt306.1 + (wrap64 ((wrap64 (Int.tdiv bt308.1 39)) * 64))))))) = some (r1, r2, r3, r4) := H
 have A3 := Aside0.mk A30
 clear A30
 obtain ⟨ji4, hji4⟩ : ∃ j_ : Int, (mx t297 1) = j_ := ⟨_, rfl⟩
 replace H : ((spec_l20Rd_pick.f k t294 t304 (wrap64 (2 ^ (mn (ji4) 6).toNat))).bind fun bt306 => ((spec_l20Rd_pick.f k t294 bt306.2 40).bind fun bt308 => (some (t297, t298, t301, wrap64 (bt306.1 + (wrap64 ((wrap64 (Int.tdiv bt308.1 39)) * 64))))))) = some (r1, r2, r3, r4) := by first | (rw [hji4] at H; exact H) | (simp only [hji4] at H ⊢; exact H)
 (try rw [hji4] at A2)
 (try rw [hji4] at A3)
 (try (have hji4l : 1 ≤ ji4 := by (rw [← hji4]; unfold mx; (repeat' split) <;> omega)))
 (try (have hji4m : 0 ≤ ji4 := by omega))
 have hji4_ : (if t297 < 1 then 1 else t297) = ji4 := hji4
 obtain ⟨ji5, hji5⟩ : ∃ j_ : Int, (mn (ji4) 6) = j_ := ⟨_, rfl⟩
 replace H : ((spec_l20Rd_pick.f k t294 t304 (wrap64 (2 ^ (ji5).toNat))).bind fun bt306 => ((spec_l20Rd_pick.f k t294 bt306.2 40).bind fun bt308 => (some (t297, t298, t301, wrap64 (bt306.1 + (wrap64 ((wrap64 (Int.tdiv bt308.1 39)) * 64))))))) = some (r1, r2, r3, r4) := by first | (rw [hji5] at H; exact H) | (simp only [hji5] at H ⊢; exact H)
 (try rw [hji5] at A2)
 (try rw [hji5] at A3)
 have hji5_ : (if 6 < (ji4) then 6 else (ji4)) = ji5 := hji5
 replace H := Option.bind_eq_some_iff.mp H
 obtain ⟨⟨t306, t307⟩, A60, H⟩ := H
 replace H : ((spec_l20Rd_pick.f k t294 t307 40).bind fun bt308 => (some (t297, t298, t301, wrap64 (t306 + (wrap64 ((wrap64 (Int.tdiv bt308.1 39)) * 64)))))) = some (r1, r2, r3, r4) := H
 have A6 := Aside0.mk A60
 clear A60
 replace H := Option.bind_eq_some_iff.mp H
 obtain ⟨⟨t308, t309⟩, A70, H⟩ := H
 replace H : (some (t297, t298, t301, wrap64 (t306 + (wrap64 ((wrap64 (Int.tdiv t308 39)) * 64))))) = some (r1, r2, r3, r4) := H
 have A7 := Aside0.mk A70
 clear A70
 simp only [Option.some.injEq, Prod.mk.injEq] at H
 obtain ⟨rfl, rfl, rfl, rfl⟩ := H
 go_enter Try.func20, Try.ntmps20
 try go_wp2_with (first | ((with_reducible refine gate_dst (N := 2) rfl ?_); refine box_event ?hg (N := 2) ?hd (cs := #[.int .i64 0, .slice none 0 0]) (t := 25) ?hr ?_; (case hd => rfl); (case hg => rfl); (case hr => first | (go_simp; done) | (go_simp; rfl)); intro gb293 hg w8 hbox hb; have n0_ := Aside0.mk (below_step bh hb); have n1_ := Aside0.mk (hbox); have n2_ := Aside0.mk ((gs (W0 := w) hg bh)); have n3_ := Aside0.mk ((gs (W0 := w) hg bh)); clear HB; have HB := n0_; have BK293 := n1_; have GW293 := n2_; have GE293 := n3_; clear n0_ n1_ n2_ n3_ hb hbox hg) | ((with_reducible refine gate_callee (f := 52) rfl ?_); refine goesL_ (some 9) rfl rfl Try.func52 kr rfl #[.slice A0 l0.length c0] rfl lm ?_; (with_reducible refine (spec_l20Open.calls _ _ l0 t294 t295 w _ ?side1 ?side2 ?side3 A2.out).mono ?_); (case side1 => repeat (first | (with_reducible first | exact HB.out | apply below_alloc | apply pw_below_drewN | apply below_drew1 | refine below_set ?_ GE293.out) | exact HB.out)); (case side2 => exact HR0.out); (case side3 => exact HC0.out); rintro e w9 ⟨g296, rfl, hi, hb, hb2⟩; refine ⟨_, rfl, ?_⟩; have n0_ := Aside0.mk (blk_below (bz BK293) hb2); have n1_ := Aside0.mk (hb); have n2_ := Aside0.mk (hi); have n3_ := Aside0.mk (IsS95.ne_blk hi (blk_below (bz BK293) hb2) (by decide)); have n4_ := Aside0.mk (Ne.symm (IsS95.ne_blk hi (blk_below (bz BK293) hb2) (by decide))); clear BK293 HB; have BK293 := n0_; have HB := n1_; have HI296 := n2_; have NB296_293 := n3_; have NB293_296 := n4_; clear n0_ n1_ n2_ n3_ n4_; (try clear hb); (try clear hb2); (try clear hk); (try clear hi)) | ((with_reducible refine gate_callee (f := 56) rfl ?_); refine goesL_ (some 12) rfl rfl Try.func56 kr rfl #[.pointer (some ⟨g296, 0, none⟩), .int .i64 14] rfl lm ?_; (with_reducible refine (spec_l20Termed.calls k g296 t294 t295 14 t297 t298 t301 t304 w _ ?side1 ?side2 A3.out).mono ?_); (case side1 => repeat (first | (with_reducible first | exact HI296.out | apply IsS95.alloc | apply IsS95.drewN | apply IsS95.drew | apply IsS95.set_1 | refine IsS95.far ?_ NB296_293.out _) | exact HI296.out)); (case side2 => repeat (first | (with_reducible first | exact HB.out | apply below_alloc | apply pw_below_drewN | apply below_drew1 | refine below_set ?_ (IsS95.ge HI296.out) | refine below_set ?_ GE293.out) | exact HB.out)); rintro e w10 ⟨v299, v302, rfl, ho0, ho1, hi, hb, hk⟩; refine ⟨_, rfl, ?_⟩; have n0_ := Aside0.mk (KeepBut.blk hk (bz BK293) NB293_296.out (by simp)); have n1_ := Aside0.mk (Kd.R_lower (Kd.R_newM (M := fun k_ => (w.heap.size ≤ k_)) (Kd.R_mono (ok' := fun k_ => True) ho0 (fun _ hk_ => trivial)) (below_size (by repeat (first | (with_reducible first | exact HB.out | apply below_alloc | apply pw_below_drewN | apply below_drew1 | refine below_set ?_ (IsS95.ge HI296.out) | refine below_set ?_ GE293.out) | exact HB.out))) (fun k_ h_ => h_)) (below_size (by repeat (first | (with_reducible first | exact HB.out | apply below_alloc | apply pw_below_drewN | apply below_drew1 | refine below_set ?_ (IsS95.ge HI296.out) | refine below_set ?_ GE293.out) | exact HB.out)))); have n2_ := Aside0.mk (Kd.V_lower (Kd.V_mono (ok' := fun k_ => (w.heap.size ≤ k_) ∧ some k_ ≠ (v299 : Value).ownBlock ∧ k_ ≠ gb293 ∧ k_ ≠ g296) ho1 (fun k_ hk_ => ⟨(Nat.le_trans (below_size (by repeat (first | (with_reducible first | exact HB.out | apply below_alloc | apply pw_below_drewN | apply below_drew1 | refine below_set ?_ (IsS95.ge HI296.out) | refine below_set ?_ GE293.out) | exact HB.out))) hk_.1), hk_.2, (Kd.freshB (bz BK293) k_ hk_.1), (IsS95.fresh (by repeat (first | (with_reducible first | exact HI296.out | apply IsS95.alloc | apply IsS95.drewN | apply IsS95.drew | apply IsS95.set_1 | refine IsS95.far ?_ NB296_293.out _) | exact HI296.out)) k_ hk_.1)⟩)) (below_size (by repeat (first | (with_reducible first | exact HB.out | apply below_alloc | apply pw_below_drewN | apply below_drew1 | refine below_set ?_ (IsS95.ge HI296.out) | refine below_set ?_ GE293.out) | exact HB.out)))); have n3_ := Aside0.mk (hb); have n4_ := Aside0.mk (hi); clear BK293 HB HI296; have BK293 := n0_; have HO300 := n1_; have HO303 := n2_; have HB := n3_; have HI296 := n4_; clear n0_ n1_ n2_ n3_ n4_; (try clear hb); (try clear hb2); (try clear hk); (try clear hi); (try clear ho0); (try clear ho1)) | ((with_reducible refine gate_dst (N := 6) rfl ?_); refine box_event ?hg (N := 6) ?hd (cs := #[.int .i64 0, .slice none 0 0]) (t := 25) ?hr ?_; (case hd => rfl); (case hg => rfl); (case hr => first | (go_simp; done) | (go_simp; rfl)); intro gb305 hg w11 hbox hb; have n0_ := Aside0.mk (Kd.R_below (rz HO300) hb); have n1_ := Aside0.mk (Kd.V_below (Kd.V_elderB (vz HO303) gb305 (Nat.le_of_eq hg.symm)) hb); have n2_ := Aside0.mk (blk_below (bz BK293) hb); have n3_ := Aside0.mk (IsS95.below (by repeat (first | (with_reducible first | exact HI296.out | apply IsS95.alloc | apply IsS95.drewN | apply IsS95.drew | apply IsS95.set_1 | refine IsS95.far ?_ NB296_293.out _) | exact HI296.out)) hb); have n4_ := Aside0.mk (below_step (by repeat (first | (with_reducible first | exact HB.out | apply below_alloc | apply pw_below_drewN | apply below_drew1 | refine below_set ?_ (IsS95.ge HI296.out) | refine below_set ?_ GE293.out) | exact HB.out)) hb); have n5_ := Aside0.mk (hbox); have n6_ := Aside0.mk ((by rw [hg]; exact (below_size (by repeat (first | (with_reducible first | exact HB.out | apply below_alloc | apply pw_below_drewN | apply below_drew1 | refine below_set ?_ (IsS95.ge HI296.out) | refine below_set ?_ GE293.out) | exact HB.out))) : w.heap.size ≤ gb305)); have n7_ := Aside0.mk ((by rw [hg]; exact (below_size (by repeat (first | (with_reducible first | exact HB.out | apply below_alloc | apply pw_below_drewN | apply below_drew1 | refine below_set ?_ (IsS95.ge HI296.out) | refine below_set ?_ GE293.out) | exact HB.out))) : w.heap.size ≤ gb305)); have n8_ := Aside0.mk ((gn hg (bz BK293))); have n9_ := Aside0.mk ((gm hg (bz BK293))); have n10_ := Aside0.mk ((by rw [hg]; exact Nat.ne_of_lt (IsS95.lt (show IsS95 w _ g296 t294 t304 from by repeat (first | (with_reducible first | exact HI296.out | apply IsS95.alloc | apply IsS95.drewN | apply IsS95.drew | apply IsS95.set_1 | refine IsS95.far ?_ NB296_293.out _) | exact HI296.out))) : g296 ≠ gb305)); have n11_ := Aside0.mk ((by rw [hg]; exact Nat.ne_of_gt (IsS95.lt (show IsS95 w _ g296 t294 t304 from by repeat (first | (with_reducible first | exact HI296.out | apply IsS95.alloc | apply IsS95.drewN | apply IsS95.drew | apply IsS95.set_1 | refine IsS95.far ?_ NB296_293.out _) | exact HI296.out))) : gb305 ≠ g296)); clear HO300 HO303 BK293 HI296 HB; have HO300 := n0_; have HO303 := n1_; have BK293 := n2_; have HI296 := n3_; have HB := n4_; have BK305 := n5_; have GW305 := n6_; have GE305 := n7_; have NB293_305 := n8_; have NB305_293 := n9_; have NB296_305 := n10_; have NB305_296 := n11_; clear n0_ n1_ n2_ n3_ n4_ n5_ n6_ n7_ n8_ n9_ n10_ n11_ hb hbox hg; have hnb12 := NB305_293.out; have hnc12 := NB293_305.out; have hnb13 := NB305_296.out; have hnc13 := NB296_305.out; have hcz14_0 := cz0 BK305; have hcz14_1 := cz1 BK305; have hfz14_0 := blk_frozen BK305.out 0; have hfz14_1 := blk_frozen BK305.out 1; obtain ⟨Ao15, co15, eo15⟩ := Kd.R_slice HO300.out; subst eo15))
 generalize hW_ : ((w11.setCell ⟨gb305, 0, none⟩ (.int .i64 t297)).setCell ⟨gb305, 1, none⟩ (.slice Ao15 t298.length co15)) = w16
 have n0_ : Aside0 (Kd.R (Kd.int .i64) 3 w16 w.heap.size (fun k_ => (w.heap.size ≤ k_)) (.slice Ao15 t298.length co15) t298) := ⟨by subst hW_; (with_reducible repeat (first | apply Kd.R_alloc | apply Kd.R_drewN | apply Kd.R_drew)); exact Kd.R_mono (Kd.R_far (p := ⟨gb305, 1, none⟩) (Kd.R_far (p := ⟨gb305, 0, none⟩) (Kd.R_types HO300.out BK305.out (by decide)) (fun _ hk => hk.2) (.int .i64 t297)) (fun _ hk => hk.2) (.slice Ao15 t298.length co15)) (fun _ hk => hk.1.1)⟩
 have n1_ : Aside0 (Kd.V k78 78 w16 w.heap.size (fun k_ => (w.heap.size ≤ k_) ∧ some k_ ≠ (.slice Ao15 t298.length co15 : Value).ownBlock ∧ k_ ≠ gb293 ∧ k_ ≠ g296 ∧ k_ ≠ gb305) v302 t301) := ⟨by subst hW_; (with_reducible repeat (first | apply Kd.V_alloc | apply Kd.V_drewN | apply Kd.V_drew)); exact Kd.V_mono (Kd.V_far (p := ⟨gb305, 1, none⟩) (Kd.V_far (p := ⟨gb305, 0, none⟩) (Kd.V_mono HO303.out (fun k_ hk => (⟨hk, hk.2⟩ : _ ∧ k_ ≠ gb305))) (fun _ hk => hk.2) (.int .i64 t297)) (fun _ hk => hk.2) (.slice Ao15 t298.length co15)) (fun _ hk => ⟨hk.1.1.1, ⟨hk.1.1.2.1, ⟨hk.1.1.2.2.1, ⟨hk.1.1.2.2.2, hk.1.2⟩⟩⟩⟩)⟩
 have n2_ : Aside0 (w16.heap[gb293]? = some (.cells #[.int .i64 0, .slice none 0 0] 25 (0, 0))) := ⟨by subst hW_; (with_reducible repeat (first | refine blk_drewN ?_ _ | refine blk_drew ?_ | refine blk_alloc ?_ _)); refine blk_far ?_ NB293_305.out _; (with_reducible repeat (first | refine blk_drewN ?_ _ | refine blk_drew ?_ | refine blk_alloc ?_ _)); refine blk_far ?_ NB293_305.out _; (with_reducible repeat (first | refine blk_drewN ?_ _ | refine blk_drew ?_ | refine blk_alloc ?_ _)); exact BK293.out⟩
 have n3_ : Aside0 (w16.heap[gb305]? = some (.cells #[.int .i64 t297, .slice Ao15 t298.length co15] 25 (0, 0))) := ⟨by subst hW_; (with_reducible repeat (first | refine blk_drewN ?_ _ | refine blk_drew ?_ | refine blk_alloc ?_ _)); refine blk_put (cs := #[.int .i64 t297, .slice none 0 0]) ?_ 1 _ rfl; (with_reducible repeat (first | refine blk_drewN ?_ _ | refine blk_drew ?_ | refine blk_alloc ?_ _)); refine blk_put (cs := #[.int .i64 0, .slice none 0 0]) ?_ 0 _ rfl; (with_reducible repeat (first | refine blk_drewN ?_ _ | refine blk_drew ?_ | refine blk_alloc ?_ _)); exact BK305.out⟩
 have n4_ : Aside0 (IsS95 w w16 g296 t294 t304) := ⟨by subst hW_; repeat (first | (with_reducible first | exact HI296.out | apply IsS95.alloc | apply IsS95.drewN | apply IsS95.drew | apply IsS95.set_1 | refine IsS95.far ?_ NB296_293.out _ | refine IsS95.far ?_ NB296_305.out _) | exact HI296.out)⟩
 have n5_ : Aside0 (Below w.heap.size w w16) := ⟨by subst hW_; repeat (first | (with_reducible first | exact HB.out | apply below_alloc | apply pw_below_drewN | apply below_drew1 | refine below_set ?_ (IsS95.ge HI296.out) | refine below_set ?_ GE293.out | refine below_set ?_ GE305.out) | exact HB.out)⟩
 clear hW_
 (try clear HO300)
 (try clear HO303)
 (try clear BK293)
 (try clear BK305)
 (try clear HI296)
 (try clear HB)
 have HO300 := n0_
 have HO303 := n1_
 have BK293 := n2_
 have BK305 := n3_
 have HI296 := n4_
 have HB := n5_
 clear n0_ n1_ n2_ n3_ n4_ n5_
 have n0_ := Aside0.mk (Kd.R_drew HO300.out)
 have n1_ := Aside0.mk (Kd.V_drew HO303.out)
 have n2_ := Aside0.mk (blk_drew BK293.out)
 have n3_ := Aside0.mk (blk_drew BK305.out)
 have n4_ := Aside0.mk (IsS95.drew HI296.out)
 have n5_ := Aside0.mk (below_drew1 HB.out)
 clear HO300 HO303 BK293 BK305 HI296 HB
 have HO300 := n0_
 have HO303 := n1_
 have BK293 := n2_
 have BK305 := n3_
 have HI296 := n4_
 have HB := n5_
 clear n0_ n1_ n2_ n3_ n4_ n5_
 refine start_ (n := 17) (S := fun w' => w'.cell? ⟨gb305, 0, none⟩ = some (.int .i64 t297) ∧ w'.cell? ⟨gb305, 1, none⟩ = some (.slice Ao15 t298.length co15)) (ds := []) #[F,F,F,F,F,F,F,F,F,F,F,F,F,F,F,F,F] kr rfl rfl ⟨cz0 BK305, cz1 BK305⟩ (fun hHeld => ?_); refine with_tabW spec_DrawConsentOk.tab3 spec_DrawConsentOk.bits3 (fun HT_ HW_ => ?_)
 generalize w16.drew = w17 at HO300 HO303 BK293 BK305 HI296 HB hHeld ⊢
 refine pu 1 (some 16) #[F,T,F,F,F,F,F,F,F,F,F,F,F,F,F,F,F] (any_of HT_.out kr) ?_
 refine pu 2 (some 17) #[F,T,T,F,F,F,F,F,F,F,F,F,F,F,F,F,F] (any_of HT_.out kr) ?_
 refine pu 3 (some 18) #[F,T,T,T,F,F,F,F,F,F,F,F,F,F,F,F,F] (any_of HT_.out kr) ?_
 refine pu 9 (some 24) #[F,T,T,T,F,F,F,F,F,T,F,F,F,F,F,F,F] (any_of HT_.out kr) ?_
 refine tk2 0 (some 15) #[T,T,T,T,F,F,F,F,F,T,F,F,F,F,F,F,F] (take_ofW HT_.out HW_.out kr) ?_
 refine tk2 4 (some 19) #[T,T,T,T,T,F,F,F,F,T,F,F,F,F,F,F,F] (take_ofW HT_.out HW_.out kr) ?_
 refine pu 5 (some 20) #[T,T,T,T,T,T,F,F,F,T,F,F,F,F,F,F,F] (any_of HT_.out kr) ?_
 refine pu 6 (some 21) #[T,T,T,T,T,T,T,F,F,T,F,F,F,F,F,F,F] (any_of HT_.out kr) ?_
 refine pu 7 (some 22) #[T,T,T,T,T,T,T,T,F,T,F,F,F,F,F,F,F] (any_of HT_.out kr) ?_
 refine one_ (i := 8) (N := some 23) #[T,T,T,T,T,T,T,T,T,T,F,F,F,F,F,F,F] rfl rfl (one_of HT_.out kr) (by decide) (fun K hK => ?_)
 refine goes_ Try.func57 kr rfl #[.pointer (some ⟨g296, 0, none⟩), .int .i64 (wrap64 (2 ^ (ji5).toNat))] (by rfl) rfl rfl (by (try simp only [List.map_toArray, List.map_cons, List.map_nil]); first | done | (simp only [hji5]; rfl) | rfl | (simp only [List.length_drop, List.length_take]; rfl)) ?_
 with_reducible refine (spec_l20Rd_pick.calls k g296 t294 t304 (wrap64 (2 ^ (ji5).toNat)) t306 t307 w _ ?side1 ?side2 A6.out).mono ?_
 (case side1 => repeat (first | (with_reducible first | exact HI296.out | apply IsS95.alloc | apply IsS95.drewN | apply IsS95.drew | apply IsS95.set_1 | refine IsS95.far ?_ NB296_293.out _ | refine IsS95.far ?_ NB296_305.out _) | exact HI296.out))
 (case side2 => repeat (first | (with_reducible first | exact HB.out | apply below_alloc | apply pw_below_drewN | apply below_drew1 | refine below_set ?_ (IsS95.ge HI296.out) | refine below_set ?_ GE293.out | refine below_set ?_ GE305.out) | exact HB.out))
 rintro e w18 ⟨rfl, hi, hb, hk⟩
 refine ⟨_, rfl, ?_⟩
 have n0_ := Aside0.mk (KeepBut.blk hk (bz BK293) NB293_296.out (by simp))
 have n1_ := Aside0.mk (Kd.R_mono (Kd.R_keep (IsS95.apart (show IsS95 w _ g296 t294 t304 from by repeat (first | (with_reducible first | exact HI296.out | apply IsS95.alloc | apply IsS95.drewN | apply IsS95.drew | apply IsS95.set_1 | refine IsS95.far ?_ NB296_293.out _ | refine IsS95.far ?_ NB296_305.out _) | exact HI296.out)) (rz HO300) (by decide)) hk (fun _ h => h.2)) (fun _ h => h.1))
 have n2_ := Aside0.mk (Kd.V_mono (Kd.V_keep (Kd.V_mono (ok := fun k_ => (((w.heap.size ≤ k_)) ∧ (some k_ ≠ (.slice Ao15 t298.length co15 : Value).ownBlock ∧ (k_ ≠ gb293 ∧ (k_ ≠ g296 ∧ k_ ≠ gb305))))) (vz HO303) (fun k_ hk_ => (⟨hk_, hk_.2.2.2.1⟩ : _ ∧ k_ ≠ g296))) hk (fun _ h => h.2)) (fun _ h => h.1))
 have n3_ := Aside0.mk (KeepBut.blk hk (bz BK305) NB305_296.out (by simp))
 have n4_ := Aside0.mk (hb)
 have n5_ := Aside0.mk (hi)
 clear BK293 HO300 HO303 BK305 HB HI296
 have BK293 := n0_
 have HO300 := n1_
 have HO303 := n2_
 have BK305 := n3_
 have HB := n4_
 have HI296 := n5_
 clear n0_ n1_ n2_ n3_ n4_ n5_
 (try clear hb)
 (try clear hb2)
 (try clear hk)
 (try clear hi)
 refine hK.out _ _ ⟨cz0 BK305, cz1 BK305⟩ (fun hHeld => ?_)
 clear hK K
 refine norm_ (a' := ?_) ?_ ?_
 rotate_left
 ·show Act.put _ (some 23) _ = _
  simp only [Act.put, List.setIfInBounds_toArray, List.set_cons_zero, List.set_cons_succ, i64_w, i32_w]
  rfl
 refine one_ (i := 10) (N := some 25) #[T,T,T,T,T,T,T,T,T,T,T,F,F,F,F,F,F] rfl rfl (one_of HT_.out kr) (by decide) (fun K hK => ?_)
 refine goes_ Try.func57 kr rfl #[.pointer (some ⟨g296, 0, none⟩), .int .i64 40] (by rfl) rfl rfl lm ?_
 with_reducible refine (spec_l20Rd_pick.calls k g296 t294 t307 40 t308 t309 w _ ?side1 ?side2 A7.out).mono ?_
 (case side1 => repeat (first | (with_reducible first | exact HI296.out | apply IsS95.alloc | apply IsS95.drewN | apply IsS95.drew | apply IsS95.set_1 | refine IsS95.far ?_ NB296_293.out _ | refine IsS95.far ?_ NB296_305.out _) | exact HI296.out))
 (case side2 => repeat (first | (with_reducible first | exact HB.out | apply below_alloc | apply pw_below_drewN | apply below_drew1 | refine below_set ?_ (IsS95.ge HI296.out) | refine below_set ?_ GE293.out | refine below_set ?_ GE305.out) | exact HB.out))
 rintro e w19 ⟨rfl, hi, hb, hk⟩
 refine ⟨_, rfl, ?_⟩
 have n0_ := Aside0.mk (KeepBut.blk hk (bz BK293) NB293_296.out (by simp))
 have n1_ := Aside0.mk (Kd.R_mono (Kd.R_keep (IsS95.apart (show IsS95 w _ g296 t294 t307 from by repeat (first | (with_reducible first | exact HI296.out | apply IsS95.alloc | apply IsS95.drewN | apply IsS95.drew | apply IsS95.set_1 | refine IsS95.far ?_ NB296_293.out _ | refine IsS95.far ?_ NB296_305.out _) | exact HI296.out)) (rz HO300) (by decide)) hk (fun _ h => h.2)) (fun _ h => h.1))
 have n2_ := Aside0.mk (Kd.V_mono (Kd.V_keep (Kd.V_mono (ok := fun k_ => (((w.heap.size ≤ k_)) ∧ (some k_ ≠ (.slice Ao15 t298.length co15 : Value).ownBlock ∧ (k_ ≠ gb293 ∧ (k_ ≠ g296 ∧ k_ ≠ gb305))))) (vz HO303) (fun k_ hk_ => (⟨hk_, hk_.2.2.2.1⟩ : _ ∧ k_ ≠ g296))) hk (fun _ h => h.2)) (fun _ h => h.1))
 have n3_ := Aside0.mk (KeepBut.blk hk (bz BK305) NB305_296.out (by simp))
 have n4_ := Aside0.mk (hb)
 have n5_ := Aside0.mk (hi)
 clear BK293 HO300 HO303 BK305 HB HI296
 have BK293 := n0_
 have HO300 := n1_
 have HO303 := n2_
 have BK305 := n3_
 have HB := n4_
 have HI296 := n5_
 clear n0_ n1_ n2_ n3_ n4_ n5_
 (try clear hb)
 (try clear hb2)
 (try clear hk)
 (try clear hi)
 refine hK.out _ _ ⟨cz0 BK305, cz1 BK305⟩ (fun hHeld => ?_)
 clear hK K
 refine norm_ (a' := ?_) ?_ ?_
 rotate_left
 ·show Act.put _ (some 25) _ = _
  simp only [Act.put, List.setIfInBounds_toArray, List.set_cons_zero, List.set_cons_succ, i64_w, i32_w]
  rfl
 refine pu 11 (some 26) #[T,T,T,T,T,T,T,T,T,T,T,T,F,F,F,F,F] (any_of HT_.out kr) ?_
 refine pu 12 (some 27) #[T,T,T,T,T,T,T,T,T,T,T,T,T,F,F,F,F] (any_of HT_.out kr) ?_
 refine pu 13 (some 28) #[T,T,T,T,T,T,T,T,T,T,T,T,T,T,F,F,F] (any_of HT_.out kr) ?_
 refine one_ (i := 14) (N := none) #[T,T,T,T,T,T,T,T,T,T,T,T,T,T,T,F,F] rfl rfl (one_of HT_.out kr) (by decide) (fun K hK => ?_)
 have hs20 := cz0 BK293
 have hfs20 := blk_frozen BK293.out 0
 have hns20_1 := NB305_293.out
 have hms20_1 := NB293_305.out
 have hs21 := cz1 BK293
 have hfs21 := blk_frozen BK293.out 1
 have hns21_1 := NB305_293.out
 have hms21_1 := NB293_305.out
 refine skip_ (w1 := ?_) (by rfl) rfl ?_ ?_
 rotate_left
 ·go_simp
  rfl
 refine hK.out _ _ ⟨((cell_far (p := ⟨gb293, _, none⟩) NB305_293.out _).trans (((cell_far (p := ⟨gb293, _, none⟩) NB305_293.out _).trans (hHeld.1)))), ((cell_far (p := ⟨gb293, _, none⟩) NB305_293.out _).trans (((cell_far (p := ⟨gb293, _, none⟩) NB305_293.out _).trans (hHeld.2))))⟩ (fun hHeld => ?_)
 clear hK K
 refine pu 15 (some 3) #[T,T,T,T,T,T,T,T,T,T,T,T,T,T,T,T,F] (any_of HT_.out kr) ?_
 refine pu 16 (some 4) #[T,T,T,T,T,T,T,T,T,T,T,T,T,T,T,T,T] (any_of HT_.out kr) ?_
 refine done_ (done_of HT_.out kr) ?_
 try go_wp2
 refine bodyPost_ret (results_ctt rfl _ _ gb293 25 #[.int .i64 t297, .slice Ao15 t298.length co15] (0, 0) _ rfl (bp BK293) Try.underlying25 rfl kr) rfl ?_
 exact ⟨_, _, by first | rfl | (simp [errW_none, errW_some] <;> rfl) | (simp only [← hji4, ← hji5]; first | rfl | (simp [errW_none, errW_some] <;> rfl)) | (simp [*, errW_none, errW_some] <;> rfl), by (with_reducible repeat (first | apply Kd.R_alloc | apply Kd.R_drewN | apply Kd.R_drew)); exact Kd.R_mono (Kd.R_far (p := ⟨gb293, 1, none⟩) (Kd.R_far (p := ⟨gb293, 0, none⟩) (Kd.R_types HO300.out BK293.out (by decide)) (fun _ hk => hk.2) (.int .i64 t297)) (fun _ hk => hk.2) (.slice Ao15 t298.length co15)) (fun _ hk => hk.1), by (with_reducible repeat (first | apply Kd.V_alloc | apply Kd.V_drewN | apply Kd.V_drew)); exact Kd.V_mono (Kd.V_far (p := ⟨gb293, 1, none⟩) (Kd.V_far (p := ⟨gb293, 0, none⟩) (Kd.V_mono HO303.out (fun k_ hk => (⟨hk, hk.2.2.1⟩ : _ ∧ k_ ≠ gb293))) (fun _ hk => hk.2) (.int .i64 t297)) (fun _ hk => hk.2) (.slice Ao15 t298.length co15)) (fun _ hk => ⟨hk.1.1, hk.1.2.1⟩), by repeat (first | (with_reducible first | exact HB.out | apply below_alloc | apply pw_below_drewN | apply below_drew1 | refine below_set ?_ (IsS95.ge HI296.out) | refine below_set ?_ GE293.out | refine below_set ?_ GE305.out) | exact HB.out)⟩

/-! ### impl_isHouse: function 83 -/
def impl_isHouse.l0 : Nat → List Int → Int → Int → Int → List Int → Option (Bool)
 | 0, _, _, _, _, _ => none
 | k + 1, x6, x7, x8, x311000, x311001 => if x8 < x7 then (if 0 ≤ x8 then (if x8 < (x6.length : Int) then ((impl_isCrowd.f x311000 (rd x6 x8)).bind fun t312 => (if t312 = true then (if (rd x6 x8) = 0 then (some false) else (impl_isHouse.l0 k x6 x7 (wrap64 (x8 + 1)) x311000 x311001)) else (some false))) else (none)) else (none)) else ((impl_arePeople.f x311000).bind fun t313 => (if t313 = true then (some (decide ((x311001.length : Int) ≤ 4))) else (some false)))
def impl_isHouse.f (k : Nat) (a0_0 : Int) (l0_1 : List Int) : Option (Bool) := impl_isHouse.l0 k l0_1 (l0_1.length : Int) 0 a0_0 l0_1
theorem impl_isHouse.mono_l : ∀ k, (∀ y0 y1 y2 y3 y4, LeO (impl_isHouse.l0 k y0 y1 y2 y3 y4) (impl_isHouse.l0 (k + 1) y0 y1 y2 y3 y4))
 | 0 => fun _ _ _ _ _ r h => by simp [impl_isHouse.l0] at h
 | k + 1 => by
  have ih0 := impl_isHouse.mono_l k
  ·intro y0 y1 y2 y3 y4
   unfold impl_isHouse.l0
   repeat' first
   | (with_reducible exact ih0 _ _ _ _ _)
   | (with_reducible exact LeO.refl _)
   | (with_reducible exact LeO.none _)
   | (with_reducible refine LeO.ite ?_ ?_)
   | (with_reducible refine LeO.bind ?_ (fun _ => ?_))
   | exact ih0 _ _ _ _ _
   | exact LeO.none _
   | refine LeO.ite ?_ ?_
   | refine LeO.bind ?_ (fun _ => ?_)
theorem impl_isHouse.mono : ∀ a0 a1 k, LeO (impl_isHouse.f k a0 a1) (impl_isHouse.f (k + 1) a0 a1) := by
 intro a0 a1 k
 have ih0 := impl_isHouse.mono_l k
 unfold impl_isHouse.f
 repeat' first
   | (with_reducible exact ih0 _ _ _ _ _)
   | (with_reducible exact LeO.refl _)
   | (with_reducible exact LeO.none _)
   | (with_reducible refine LeO.ite ?_ ?_)
   | (with_reducible refine LeO.bind ?_ (fun _ => ?_))
   | exact ih0 _ _ _ _ _
   | exact LeO.none _
   | refine LeO.ite ?_ ?_
   | refine LeO.bind ?_ (fun _ => ?_)
set_option maxHeartbeats 8000000 in
set_option maxRecDepth 100000 in
theorem impl_isHouse.calls (k : Nat) (a0_0 : Int) (A0_1 : Option Addr) (c0_1 : Nat) (l0_1 : List Int) (r : Bool) (w : World) (hr0_1 : Kd.C (Kd.int .i64) w A0_1 l0_1.length l0_1) (hc0_1 : l0_1.length ≤ c0_1) (h : impl_isHouse.f k a0_0 l0_1 = some r) :
  Calls Try.prog 83 #[.agg #[.int .i64 a0_0, .slice A0_1 l0_1.length c0_1]] w fun e w' => e = .returned (.bool r) ∧ Below w.heap.size w w' := by
 have hu25 := Try.underlying25
 have HR0_1 := Aside0.mk hr0_1
 have HC0_1 := Aside0.mk hc0_1
 clear hr0_1 hc0_1
 have HB := Aside0.mk (Below.refl w.heap.size w)
 have H : (impl_isHouse.l0 k l0_1 (l0_1.length : Int) 0 a0_0 l0_1) = some r := h
 clear h
 have H' := Aside0.mk H
 clear H
 go_enter Try.func83, Try.ntmps83
 go_wp2_with (first | ((with_reducible refine gate_dst (N := 1) rfl ?_); (try (refine gate_guard (by rfl) ?_; dsimp only)); refine box_event ?hg (N := 1) ?hd (cs := #[.int .i64 a0_0, .slice A0_1 l0_1.length c0_1]) (t := 25) ?hr ?_; (case hd => rfl); (case hg => rfl); (case hr => first | (go_simp; done) | (go_simp; rfl)); intro gb310 hg w2 hbox hb; have n0_ := Aside0.mk (below_step bh hb); have n1_ := Aside0.mk (hbox); have n2_ := Aside0.mk ((gs (W0 := w) hg bh)); have n3_ := Aside0.mk ((gs (W0 := w) hg bh)); clear HB; have HB := n0_; have BK310 := n1_; have GW310 := n2_; have GE310 := n3_; clear n0_ n1_ n2_ n3_ hb hbox hg; have hcz3_0 := cz0 BK310; have hcz3_1 := cz1 BK310; have hfz3_0 := blk_frozen BK310.out 0; have hfz3_1 := blk_frozen BK310.out 1))
 go_loopg [8] k (fun kq v8 w' => ∃ (x8_1 : Int), v8 = .int .i64 x8_1 ∧ Aside0 (impl_isHouse.l0 kq l0_1 (l0_1.length : Int) x8_1 a0_0 l0_1 = some r) ∧ Aside0 (kq ≤ k) ∧ Aside0 (w'.heap[gb310]? = some (.cells #[.int .i64 a0_0, (.slice A0_1 l0_1.length c0_1)] 25 (0, 0))) ∧ Aside0 (Below w.heap.size w w'))
 case atStart => exact ⟨(0), (by first | rfl | (simp; done) | (simp [*]; done)), H', ⟨Nat.le_refl _⟩, ⟨bz BK310⟩, ⟨by exact bh⟩⟩
 case round =>
  clear H'
  try clear p2
  try clear hcz3_0
  try clear hcz3_1
  try clear hfz3_0
  try clear hfz3_1
  obtain ⟨x8_1, rfl, HA, HK1, BK310, HB⟩ := hrel
  cases gk with
  | zero => exact absurd HA.out (by simp [impl_isHouse.l0])
  | succ k1 =>
   have H := HA.out
   clear HA
   simp only [impl_isHouse.l0] at H
   by_cases c4 : x8_1 < (l0_1.length : Int)
   ·rw [if_pos c4] at H
    have c4b0 : decide (x8_1 < (l0_1.length : Int)) = true := decide_eq_true c4
    clear c4
    by_cases c5 : 0 ≤ x8_1
    ·rw [if_pos c5] at H
     have c5b0 : decide (0 ≤ x8_1) = true := decide_eq_true c5
     clear c5
     by_cases c6 : x8_1 < (l0_1.length : Int)
     ·rw [if_pos c6] at H
      have c6b0 : decide (x8_1 < (l0_1.length : Int)) = true := decide_eq_true c6
      clear c6
      replace H := Option.bind_eq_some_iff.mp H
      obtain ⟨t312, A70, H⟩ := H
      replace H : (if t312 = true then (if (rd l0_1 x8_1) = 0 then (some false) else (impl_isHouse.l0 k1 l0_1 (l0_1.length : Int) (wrap64 (x8_1 + 1)) a0_0 l0_1)) else (some false)) = some r := H
      have A7 := Aside0.mk A70
      clear A70
      by_cases c8 : t312 = true
      ·subst c8
       have H1 : (if (rd l0_1 x8_1) = 0 then (some false) else (impl_isHouse.l0 k1 l0_1 (l0_1.length : Int) (wrap64 (x8_1 + 1)) a0_0 l0_1)) = some r := by rw [if_pos rfl] at H; exact H
       clear H
       have H := H1
       clear H1
       by_cases c9 : (rd l0_1 x8_1) = 0
       ·rw [if_pos c9] at H
        have c9b0 : ((rd l0_1 x8_1) == 0) = true := beq_iff_eq.mpr c9
        have c9b1 : ((rd l0_1 x8_1) != 0) = false := bne_eq_false_iff_eq.mpr c9
        clear c9
        obtain rfl := Option.some.inj H
        have p311 : 0 ≤ (x8_1 : Int) := oda
        have q311 : x8_1 < (l0_1.length : Int) := oda
        obtain ⟨ad311, e311, hx311_0⟩ := Kd.at_int HR0_1.out x8_1 p311 q311
        cases e311
        replace hx311_0 := (HB.out.cell (World.block_lt_of_cell? w _ hx311_0)).trans hx311_0
        replace p311 := eq_true p311
        replace q311 := eq_true q311
        have hcz10_0 := cz0 BK310
        have hcz10_1 := cz1 BK310
        have hfz10_0 := blk_frozen BK310.out 0
        have hfz10_1 := blk_frozen BK310.out 1
        go_wp2_with (first | ((with_reducible refine gate_callee (f := 63) rfl ?_); refine goesL_ (some 15) rfl rfl Try.func63 kr rfl #[.int .i64 a0_0, .int .i64 (rd l0_1 x8_1)] rfl lm ?_; (with_reducible refine (impl_isCrowd.calls a0_0 (rd l0_1 x8_1) true _ A7.out).mono ?_); rintro e w' ⟨rfl, ⟨nd, rfl⟩⟩; refine ⟨_, rfl, ?_⟩))
        go_ret
        exact ⟨by first | rfl | (simp [errW_none, errW_some] <;> rfl) | (simp [*, errW_none, errW_some] <;> rfl), by exact bh⟩
       ·rw [if_neg c9] at H
        have c9b0 : ((rd l0_1 x8_1) == 0) = false := beq_eq_false_iff_ne.mpr c9
        have c9b1 : ((rd l0_1 x8_1) != 0) = true := bne_iff_ne.mpr c9
        have H' := Aside0.mk H
        clear H
        have p311 : 0 ≤ (x8_1 : Int) := oda
        have q311 : x8_1 < (l0_1.length : Int) := oda
        obtain ⟨ad311, e311, hx311_0⟩ := Kd.at_int HR0_1.out x8_1 p311 q311
        cases e311
        replace hx311_0 := (HB.out.cell (World.block_lt_of_cell? w _ hx311_0)).trans hx311_0
        replace p311 := eq_true p311
        replace q311 := eq_true q311
        have hcz11_0 := cz0 BK310
        have hcz11_1 := cz1 BK310
        have hfz11_0 := blk_frozen BK310.out 0
        have hfz11_1 := blk_frozen BK310.out 1
        go_wp2_with (first | ((with_reducible refine gate_callee (f := 63) rfl ?_); refine goesL_ (some 15) rfl rfl Try.func63 kr rfl #[.int .i64 a0_0, .int .i64 (rd l0_1 x8_1)] rfl lm ?_; (with_reducible refine (impl_isCrowd.calls a0_0 (rd l0_1 x8_1) true _ A7.out).mono ?_); rintro e w' ⟨rfl, ⟨nd, rfl⟩⟩; refine ⟨_, rfl, ?_⟩))
        go_roundg k1
        case measure => have := HK1.out; omega
        case rel => exact ⟨(wrap64 (x8_1 + 1)), (by first | rfl | (simp; done) | (simp [*]; done)), H', ⟨by have := HK1.out; omega⟩, ⟨bz BK310⟩, ⟨by exact bh⟩⟩
      ·replace c8 := Bool.eq_false_iff.mpr c8
       subst c8
       have H1 : (some false) = some r := by rw [if_neg (show ¬ (false = true) by decide)] at H; exact H
       clear H
       have H := H1
       clear H1
       obtain rfl := Option.some.inj H
       have p311 : 0 ≤ (x8_1 : Int) := oda
       have q311 : x8_1 < (l0_1.length : Int) := oda
       obtain ⟨ad311, e311, hx311_0⟩ := Kd.at_int HR0_1.out x8_1 p311 q311
       cases e311
       replace hx311_0 := (HB.out.cell (World.block_lt_of_cell? w _ hx311_0)).trans hx311_0
       replace p311 := eq_true p311
       replace q311 := eq_true q311
       have hcz12_0 := cz0 BK310
       have hcz12_1 := cz1 BK310
       have hfz12_0 := blk_frozen BK310.out 0
       have hfz12_1 := blk_frozen BK310.out 1
       go_wp2_with (first | ((with_reducible refine gate_callee (f := 63) rfl ?_); refine goesL_ (some 15) rfl rfl Try.func63 kr rfl #[.int .i64 a0_0, .int .i64 (rd l0_1 x8_1)] rfl lm ?_; (with_reducible refine (impl_isCrowd.calls a0_0 (rd l0_1 x8_1) false _ A7.out).mono ?_); rintro e w' ⟨rfl, ⟨nd, rfl⟩⟩; refine ⟨_, rfl, ?_⟩))
       go_ret
       exact ⟨by first | rfl | (simp [errW_none, errW_some] <;> rfl) | (simp [*, errW_none, errW_some] <;> rfl), by exact bh⟩
     ·rw [if_neg c6] at H
      exact absurd H (by simp)
    ·rw [if_neg c5] at H
     exact absurd H (by simp)
   ·rw [if_neg c4] at H
    have c4b0 : decide (x8_1 < (l0_1.length : Int)) = false := decide_eq_false c4
    clear c4
    replace H := Option.bind_eq_some_iff.mp H
    obtain ⟨t313, A130, H⟩ := H
    replace H : (if t313 = true then (some (decide ((l0_1.length : Int) ≤ 4))) else (some false)) = some r := H
    have A13 := Aside0.mk A130
    clear A130
    by_cases c14 : t313 = true
    ·subst c14
     have H1 : (some (decide ((l0_1.length : Int) ≤ 4))) = some r := by rw [if_pos rfl] at H; exact H
     clear H
     have H := H1
     clear H1
     obtain rfl := Option.some.inj H
     have hcz15_0 := cz0 BK310
     have hcz15_1 := cz1 BK310
     have hfz15_0 := blk_frozen BK310.out 0
     have hfz15_1 := blk_frozen BK310.out 1
     go_wp2_with (first | ((with_reducible refine gate_callee (f := 85) rfl ?_); refine goesL_ (some 24) rfl rfl Try.func85 kr rfl #[.int .i64 a0_0] rfl lm ?_; (with_reducible refine (impl_arePeople.calls a0_0 true _ A13.out).mono ?_); rintro e w' ⟨rfl, ⟨nd, rfl⟩⟩; refine ⟨_, rfl, ?_⟩))
     go_ret
     exact ⟨by first | rfl | (simp [errW_none, errW_some] <;> rfl) | (simp [*, errW_none, errW_some] <;> rfl), by exact bh⟩
    ·replace c14 := Bool.eq_false_iff.mpr c14
     subst c14
     have H1 : (some false) = some r := by rw [if_neg (show ¬ (false = true) by decide)] at H; exact H
     clear H
     have H := H1
     clear H1
     obtain rfl := Option.some.inj H
     have hcz16_0 := cz0 BK310
     have hcz16_1 := cz1 BK310
     have hfz16_0 := blk_frozen BK310.out 0
     have hfz16_1 := blk_frozen BK310.out 1
     go_wp2_with (first | ((with_reducible refine gate_callee (f := 85) rfl ?_); refine goesL_ (some 24) rfl rfl Try.func85 kr rfl #[.int .i64 a0_0] rfl lm ?_; (with_reducible refine (impl_arePeople.calls a0_0 false _ A13.out).mono ?_); rintro e w' ⟨rfl, ⟨nd, rfl⟩⟩; refine ⟨_, rfl, ?_⟩))
     go_ret
     exact ⟨by first | rfl | (simp [errW_none, errW_some] <;> rfl) | (simp [*, errW_none, errW_some] <;> rfl), by exact bh⟩

/-! ### bits_OnesCount64: function 93 -/
def bits_OnesCount64.f (a0 : Int) : Option (Int) := some (Go.bits .and .i64 (wrap64 (IntKind.u64.wrap ((IntKind.u64.wrap ((IntKind.u64.wrap ((Go.bits .and .u64 (IntKind.u64.wrap (((IntKind.u64.wrap ((Go.bits .and .u64 ((IntKind.u64.wrap ((Go.bits .and .u64 (a0 / 2) 6148914691236517205) + (Go.bits .and .u64 a0 6148914691236517205))) / 4) 3689348814741910323) + (Go.bits .and .u64 (IntKind.u64.wrap ((Go.bits .and .u64 (a0 / 2) 6148914691236517205) + (Go.bits .and .u64 a0 6148914691236517205))) 3689348814741910323))) / 16) + (IntKind.u64.wrap ((Go.bits .and .u64 ((IntKind.u64.wrap ((Go.bits .and .u64 (a0 / 2) 6148914691236517205) + (Go.bits .and .u64 a0 6148914691236517205))) / 4) 3689348814741910323) + (Go.bits .and .u64 (IntKind.u64.wrap ((Go.bits .and .u64 (a0 / 2) 6148914691236517205) + (Go.bits .and .u64 a0 6148914691236517205))) 3689348814741910323))))) 1085102592571150095) + ((Go.bits .and .u64 (IntKind.u64.wrap (((IntKind.u64.wrap ((Go.bits .and .u64 ((IntKind.u64.wrap ((Go.bits .and .u64 (a0 / 2) 6148914691236517205) + (Go.bits .and .u64 a0 6148914691236517205))) / 4) 3689348814741910323) + (Go.bits .and .u64 (IntKind.u64.wrap ((Go.bits .and .u64 (a0 / 2) 6148914691236517205) + (Go.bits .and .u64 a0 6148914691236517205))) 3689348814741910323))) / 16) + (IntKind.u64.wrap ((Go.bits .and .u64 ((IntKind.u64.wrap ((Go.bits .and .u64 (a0 / 2) 6148914691236517205) + (Go.bits .and .u64 a0 6148914691236517205))) / 4) 3689348814741910323) + (Go.bits .and .u64 (IntKind.u64.wrap ((Go.bits .and .u64 (a0 / 2) 6148914691236517205) + (Go.bits .and .u64 a0 6148914691236517205))) 3689348814741910323))))) 1085102592571150095) / 256))) + ((IntKind.u64.wrap ((Go.bits .and .u64 (IntKind.u64.wrap (((IntKind.u64.wrap ((Go.bits .and .u64 ((IntKind.u64.wrap ((Go.bits .and .u64 (a0 / 2) 6148914691236517205) + (Go.bits .and .u64 a0 6148914691236517205))) / 4) 3689348814741910323) + (Go.bits .and .u64 (IntKind.u64.wrap ((Go.bits .and .u64 (a0 / 2) 6148914691236517205) + (Go.bits .and .u64 a0 6148914691236517205))) 3689348814741910323))) / 16) + (IntKind.u64.wrap ((Go.bits .and .u64 ((IntKind.u64.wrap ((Go.bits .and .u64 (a0 / 2) 6148914691236517205) + (Go.bits .and .u64 a0 6148914691236517205))) / 4) 3689348814741910323) + (Go.bits .and .u64 (IntKind.u64.wrap ((Go.bits .and .u64 (a0 / 2) 6148914691236517205) + (Go.bits .and .u64 a0 6148914691236517205))) 3689348814741910323))))) 1085102592571150095) + ((Go.bits .and .u64 (IntKind.u64.wrap (((IntKind.u64.wrap ((Go.bits .and .u64 ((IntKind.u64.wrap ((Go.bits .and .u64 (a0 / 2) 6148914691236517205) + (Go.bits .and .u64 a0 6148914691236517205))) / 4) 3689348814741910323) + (Go.bits .and .u64 (IntKind.u64.wrap ((Go.bits .and .u64 (a0 / 2) 6148914691236517205) + (Go.bits .and .u64 a0 6148914691236517205))) 3689348814741910323))) / 16) + (IntKind.u64.wrap ((Go.bits .and .u64 ((IntKind.u64.wrap ((Go.bits .and .u64 (a0 / 2) 6148914691236517205) + (Go.bits .and .u64 a0 6148914691236517205))) / 4) 3689348814741910323) + (Go.bits .and .u64 (IntKind.u64.wrap ((Go.bits .and .u64 (a0 / 2) 6148914691236517205) + (Go.bits .and .u64 a0 6148914691236517205))) 3689348814741910323))))) 1085102592571150095) / 256))) / 65536))) + ((IntKind.u64.wrap ((IntKind.u64.wrap ((Go.bits .and .u64 (IntKind.u64.wrap (((IntKind.u64.wrap ((Go.bits .and .u64 ((IntKind.u64.wrap ((Go.bits .and .u64 (a0 / 2) 6148914691236517205) + (Go.bits .and .u64 a0 6148914691236517205))) / 4) 3689348814741910323) + (Go.bits .and .u64 (IntKind.u64.wrap ((Go.bits .and .u64 (a0 / 2) 6148914691236517205) + (Go.bits .and .u64 a0 6148914691236517205))) 3689348814741910323))) / 16) + (IntKind.u64.wrap ((Go.bits .and .u64 ((IntKind.u64.wrap ((Go.bits .and .u64 (a0 / 2) 6148914691236517205) + (Go.bits .and .u64 a0 6148914691236517205))) / 4) 3689348814741910323) + (Go.bits .and .u64 (IntKind.u64.wrap ((Go.bits .and .u64 (a0 / 2) 6148914691236517205) + (Go.bits .and .u64 a0 6148914691236517205))) 3689348814741910323))))) 1085102592571150095) + ((Go.bits .and .u64 (IntKind.u64.wrap (((IntKind.u64.wrap ((Go.bits .and .u64 ((IntKind.u64.wrap ((Go.bits .and .u64 (a0 / 2) 6148914691236517205) + (Go.bits .and .u64 a0 6148914691236517205))) / 4) 3689348814741910323) + (Go.bits .and .u64 (IntKind.u64.wrap ((Go.bits .and .u64 (a0 / 2) 6148914691236517205) + (Go.bits .and .u64 a0 6148914691236517205))) 3689348814741910323))) / 16) + (IntKind.u64.wrap ((Go.bits .and .u64 ((IntKind.u64.wrap ((Go.bits .and .u64 (a0 / 2) 6148914691236517205) + (Go.bits .and .u64 a0 6148914691236517205))) / 4) 3689348814741910323) + (Go.bits .and .u64 (IntKind.u64.wrap ((Go.bits .and .u64 (a0 / 2) 6148914691236517205) + (Go.bits .and .u64 a0 6148914691236517205))) 3689348814741910323))))) 1085102592571150095) / 256))) + ((IntKind.u64.wrap ((Go.bits .and .u64 (IntKind.u64.wrap (((IntKind.u64.wrap ((Go.bits .and .u64 ((IntKind.u64.wrap ((Go.bits .and .u64 (a0 / 2) 6148914691236517205) + (Go.bits .and .u64 a0 6148914691236517205))) / 4) 3689348814741910323) + (Go.bits .and .u64 (IntKind.u64.wrap ((Go.bits .and .u64 (a0 / 2) 6148914691236517205) + (Go.bits .and .u64 a0 6148914691236517205))) 3689348814741910323))) / 16) + (IntKind.u64.wrap ((Go.bits .and .u64 ((IntKind.u64.wrap ((Go.bits .and .u64 (a0 / 2) 6148914691236517205) + (Go.bits .and .u64 a0 6148914691236517205))) / 4) 3689348814741910323) + (Go.bits .and .u64 (IntKind.u64.wrap ((Go.bits .and .u64 (a0 / 2) 6148914691236517205) + (Go.bits .and .u64 a0 6148914691236517205))) 3689348814741910323))))) 1085102592571150095) + ((Go.bits .and .u64 (IntKind.u64.wrap (((IntKind.u64.wrap ((Go.bits .and .u64 ((IntKind.u64.wrap ((Go.bits .and .u64 (a0 / 2) 6148914691236517205) + (Go.bits .and .u64 a0 6148914691236517205))) / 4) 3689348814741910323) + (Go.bits .and .u64 (IntKind.u64.wrap ((Go.bits .and .u64 (a0 / 2) 6148914691236517205) + (Go.bits .and .u64 a0 6148914691236517205))) 3689348814741910323))) / 16) + (IntKind.u64.wrap ((Go.bits .and .u64 ((IntKind.u64.wrap ((Go.bits .and .u64 (a0 / 2) 6148914691236517205) + (Go.bits .and .u64 a0 6148914691236517205))) / 4) 3689348814741910323) + (Go.bits .and .u64 (IntKind.u64.wrap ((Go.bits .and .u64 (a0 / 2) 6148914691236517205) + (Go.bits .and .u64 a0 6148914691236517205))) 3689348814741910323))))) 1085102592571150095) / 256))) / 65536))) / 4294967296)))) 127)
set_option maxHeartbeats 8000000 in
set_option maxRecDepth 100000 in
theorem bits_OnesCount64.calls (a0 : Int) (r : Int) (w : World) (h : bits_OnesCount64.f a0 = some r) :
  Calls Try.prog 93 #[.int .u64 a0] w fun e w' => e = .returned (.int .i64 r) ∧ Drawn0 w w' := by
 have H : (some (Go.bits .and .i64 (wrap64 (IntKind.u64.wrap ((IntKind.u64.wrap ((IntKind.u64.wrap ((Go.bits .and .u64 (IntKind.u64.wrap (((IntKind.u64.wrap ((Go.bits .and .u64 ((IntKind.u64.wrap ((Go.bits .and .u64 (a0 / 2) 6148914691236517205) + (Go.bits .and .u64 a0 6148914691236517205))) / 4) 3689348814741910323) + (Go.bits .and .u64 (IntKind.u64.wrap ((Go.bits .and .u64 (a0 / 2) 6148914691236517205) + (Go.bits .and .u64 a0 6148914691236517205))) 3689348814741910323))) / 16) + (IntKind.u64.wrap ((Go.bits .and .u64 ((IntKind.u64.wrap ((Go.bits .and .u64 (a0 / 2) 6148914691236517205) + (Go.bits .and .u64 a0 6148914691236517205))) / 4) 3689348814741910323) + (Go.bits .and .u64 (IntKind.u64.wrap ((Go.bits .and .u64 (a0 / 2) 6148914691236517205) + (Go.bits .and .u64 a0 6148914691236517205))) 3689348814741910323))))) 1085102592571150095) + ((Go.bits .and .u64 (IntKind.u64.wrap (((IntKind.u64.wrap ((Go.bits .and .u64 ((IntKind.u64.wrap ((Go.bits .and .u64 (a0 / 2) 6148914691236517205) + (Go.bits .and .u64 a0 6148914691236517205))) / 4) 3689348814741910323) + (Go.bits .and .u64 (IntKind.u64.wrap ((Go.bits .and .u64 (a0 / 2) 6148914691236517205) + (Go.bits .and .u64 a0 6148914691236517205))) 3689348814741910323))) / 16) + (IntKind.u64.wrap ((Go.bits .and .u64 ((IntKind.u64.wrap ((Go.bits .and .u64 (a0 / 2) 6148914691236517205) + (Go.bits .and .u64 a0 6148914691236517205))) / 4) 3689348814741910323) + (Go.bits .and .u64 (IntKind.u64.wrap ((Go.bits .and .u64 (a0 / 2) 6148914691236517205) + (Go.bits .and .u64 a0 6148914691236517205))) 3689348814741910323))))) 1085102592571150095) / 256))) + ((IntKind.u64.wrap ((Go.bits .and .u64 (IntKind.u64.wrap (((IntKind.u64.wrap ((Go.bits .and .u64 ((IntKind.u64.wrap ((Go.bits .and .u64 (a0 / 2) 6148914691236517205) + (Go.bits .and .u64 a0 6148914691236517205))) / 4) 3689348814741910323) + (Go.bits .and .u64 (IntKind.u64.wrap ((Go.bits .and .u64 (a0 / 2) 6148914691236517205) + (Go.bits .and .u64 a0 6148914691236517205))) 3689348814741910323))) / 16) + (IntKind.u64.wrap ((Go.bits .and .u64 ((IntKind.u64.wrap ((Go.bits .and .u64 (a0 / 2) 6148914691236517205) + (Go.bits .and .u64 a0 6148914691236517205))) / 4) 3689348814741910323) + (Go.bits .and .u64 (IntKind.u64.wrap ((Go.bits .and .u64 (a0 / 2) 6148914691236517205) + (Go.bits .and .u64 a0 6148914691236517205))) 3689348814741910323))))) 1085102592571150095) + ((Go.bits .and .u64 (IntKind.u64.wrap (((IntKind.u64.wrap ((Go.bits .and .u64 ((IntKind.u64.wrap ((Go.bits .and .u64 (a0 / 2) 6148914691236517205) + (Go.bits .and .u64 a0 6148914691236517205))) / 4) 3689348814741910323) + (Go.bits .and .u64 (IntKind.u64.wrap ((Go.bits .and .u64 (a0 / 2) 6148914691236517205) + (Go.bits .and .u64 a0 6148914691236517205))) 3689348814741910323))) / 16) + (IntKind.u64.wrap ((Go.bits .and .u64 ((IntKind.u64.wrap ((Go.bits .and .u64 (a0 / 2) 6148914691236517205) + (Go.bits .and .u64 a0 6148914691236517205))) / 4) 3689348814741910323) + (Go.bits .and .u64 (IntKind.u64.wrap ((Go.bits .and .u64 (a0 / 2) 6148914691236517205) + (Go.bits .and .u64 a0 6148914691236517205))) 3689348814741910323))))) 1085102592571150095) / 256))) / 65536))) + ((IntKind.u64.wrap ((IntKind.u64.wrap ((Go.bits .and .u64 (IntKind.u64.wrap (((IntKind.u64.wrap ((Go.bits .and .u64 ((IntKind.u64.wrap ((Go.bits .and .u64 (a0 / 2) 6148914691236517205) + (Go.bits .and .u64 a0 6148914691236517205))) / 4) 3689348814741910323) + (Go.bits .and .u64 (IntKind.u64.wrap ((Go.bits .and .u64 (a0 / 2) 6148914691236517205) + (Go.bits .and .u64 a0 6148914691236517205))) 3689348814741910323))) / 16) + (IntKind.u64.wrap ((Go.bits .and .u64 ((IntKind.u64.wrap ((Go.bits .and .u64 (a0 / 2) 6148914691236517205) + (Go.bits .and .u64 a0 6148914691236517205))) / 4) 3689348814741910323) + (Go.bits .and .u64 (IntKind.u64.wrap ((Go.bits .and .u64 (a0 / 2) 6148914691236517205) + (Go.bits .and .u64 a0 6148914691236517205))) 3689348814741910323))))) 1085102592571150095) + ((Go.bits .and .u64 (IntKind.u64.wrap (((IntKind.u64.wrap ((Go.bits .and .u64 ((IntKind.u64.wrap ((Go.bits .and .u64 (a0 / 2) 6148914691236517205) + (Go.bits .and .u64 a0 6148914691236517205))) / 4) 3689348814741910323) + (Go.bits .and .u64 (IntKind.u64.wrap ((Go.bits .and .u64 (a0 / 2) 6148914691236517205) + (Go.bits .and .u64 a0 6148914691236517205))) 3689348814741910323))) / 16) + (IntKind.u64.wrap ((Go.bits .and .u64 ((IntKind.u64.wrap ((Go.bits .and .u64 (a0 / 2) 6148914691236517205) + (Go.bits .and .u64 a0 6148914691236517205))) / 4) 3689348814741910323) + (Go.bits .and .u64 (IntKind.u64.wrap ((Go.bits .and .u64 (a0 / 2) 6148914691236517205) + (Go.bits .and .u64 a0 6148914691236517205))) 3689348814741910323))))) 1085102592571150095) / 256))) + ((IntKind.u64.wrap ((Go.bits .and .u64 (IntKind.u64.wrap (((IntKind.u64.wrap ((Go.bits .and .u64 ((IntKind.u64.wrap ((Go.bits .and .u64 (a0 / 2) 6148914691236517205) + (Go.bits .and .u64 a0 6148914691236517205))) / 4) 3689348814741910323) + (Go.bits .and .u64 (IntKind.u64.wrap ((Go.bits .and .u64 (a0 / 2) 6148914691236517205) + (Go.bits .and .u64 a0 6148914691236517205))) 3689348814741910323))) / 16) + (IntKind.u64.wrap ((Go.bits .and .u64 ((IntKind.u64.wrap ((Go.bits .and .u64 (a0 / 2) 6148914691236517205) + (Go.bits .and .u64 a0 6148914691236517205))) / 4) 3689348814741910323) + (Go.bits .and .u64 (IntKind.u64.wrap ((Go.bits .and .u64 (a0 / 2) 6148914691236517205) + (Go.bits .and .u64 a0 6148914691236517205))) 3689348814741910323))))) 1085102592571150095) + ((Go.bits .and .u64 (IntKind.u64.wrap (((IntKind.u64.wrap ((Go.bits .and .u64 ((IntKind.u64.wrap ((Go.bits .and .u64 (a0 / 2) 6148914691236517205) + (Go.bits .and .u64 a0 6148914691236517205))) / 4) 3689348814741910323) + (Go.bits .and .u64 (IntKind.u64.wrap ((Go.bits .and .u64 (a0 / 2) 6148914691236517205) + (Go.bits .and .u64 a0 6148914691236517205))) 3689348814741910323))) / 16) + (IntKind.u64.wrap ((Go.bits .and .u64 ((IntKind.u64.wrap ((Go.bits .and .u64 (a0 / 2) 6148914691236517205) + (Go.bits .and .u64 a0 6148914691236517205))) / 4) 3689348814741910323) + (Go.bits .and .u64 (IntKind.u64.wrap ((Go.bits .and .u64 (a0 / 2) 6148914691236517205) + (Go.bits .and .u64 a0 6148914691236517205))) 3689348814741910323))))) 1085102592571150095) / 256))) / 65536))) / 4294967296)))) 127)) = some r := h
 clear h
 obtain rfl := Option.some.inj H
 go_enter Try.func93, Try.ntmps93
 go_wp2
 go_ret
 exact ⟨by first | rfl | (simp; done) | (simp [*]; done), by repeat (first | exact Drawn0.refl _ | apply Drawn0.step)⟩

/-! ### bits_OnesCount: function 90 -/
def bits_OnesCount.f (a0 : Int) : Option (Int) := (bits_OnesCount64.f a0).bind fun t314 => (some t314)
set_option maxHeartbeats 8000000 in
set_option maxRecDepth 100000 in
theorem bits_OnesCount.calls (a0 : Int) (r : Int) (w : World) (h : bits_OnesCount.f a0 = some r) :
  Calls Try.prog 90 #[.int .u64 a0] w fun e w' => e = .returned (.int .i64 r) ∧ Drawn0 w w' := by
 have H : ((bits_OnesCount64.f a0).bind fun t314 => (some t314)) = some r := h
 clear h
 replace H := Option.bind_eq_some_iff.mp H
 obtain ⟨t314, A20, H⟩ := H
 replace H : (some t314) = some r := H
 have A2 := Aside0.mk A20
 clear A20
 obtain rfl := Option.some.inj H
 go_enter Try.func90, Try.ntmps90
 go_wp2_with (first | ((with_reducible refine gate_callee (f := 93) rfl ?_); refine goesL_ (some 7) rfl rfl Try.func93 kr rfl #[.int .u64 a0] rfl lm ?_; (with_reducible refine (bits_OnesCount64.calls a0 t314 _ A2.out).mono ?_); rintro e w' ⟨rfl, ⟨nd, rfl⟩⟩; refine ⟨_, rfl, ?_⟩))
 go_ret
 exact ⟨by first | rfl | (simp; done) | (simp [*]; done), by repeat (first | exact Drawn0.refl _ | apply Drawn0.step)⟩

/-! ### impl_headsOf: function 84 -/
def impl_headsOf.f (a0 : Int) : Option (Int) := (bits_OnesCount.f (IntKind.u64.wrap (a0))).bind fun t315 => (some t315)
set_option maxHeartbeats 8000000 in
set_option maxRecDepth 100000 in
theorem impl_headsOf.calls (a0 : Int) (r : Int) (w : World) (h : impl_headsOf.f a0 = some r) :
  Calls Try.prog 84 #[.int .i64 a0] w fun e w' => e = .returned (.int .i64 r) ∧ Drawn0 w w' := by
 have H : ((bits_OnesCount.f (IntKind.u64.wrap (a0))).bind fun t315 => (some t315)) = some r := h
 clear h
 replace H := Option.bind_eq_some_iff.mp H
 obtain ⟨t315, A20, H⟩ := H
 replace H : (some t315) = some r := H
 have A2 := Aside0.mk A20
 clear A20
 obtain rfl := Option.some.inj H
 go_enter Try.func84, Try.ntmps84
 go_wp2_with (first | ((with_reducible refine gate_callee (f := 90) rfl ?_); refine goesL_ (some 5) rfl rfl Try.func90 kr rfl #[.int .u64 (IntKind.u64.wrap (a0))] rfl lm ?_; (with_reducible refine (bits_OnesCount.calls (IntKind.u64.wrap (a0)) t315 _ A2.out).mono ?_); rintro e w' ⟨rfl, ⟨nd, rfl⟩⟩; refine ⟨_, rfl, ?_⟩))
 go_ret
 exact ⟨by first | rfl | (simp; done) | (simp [*]; done), by repeat (first | exact Drawn0.refl _ | apply Drawn0.step)⟩

end Go.Proofs.Ytnpjlpkbefdnlaa.QFnTwoHouses
