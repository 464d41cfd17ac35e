-- Printed for this claim by a turned copy of the print (wip/myprint). Lean checks it. Squeezed. Worded. Tightened.
import Derived.Test.YtaddlahbahedeaaQFnClashOkx0
import Derived.Test.YtaddlahbahedeaaQFnClashOkx2
import Derived.Test.YtaddlahbahedeaaQFnClashOkx11
namespace Go.Proofs.Ytaddlahbahedeaa.QFnClashOk
open Go.RowKit Go.Proofs.YtaddlahbahedeaaW.PrintWords Go.Proofs.YtaddlahbahedeaaW.PrintLast Go.Proofs.YtaddlahbahedeaaW.PrintMore
attribute [local go_sem] max2_int min2_int max_two min_two max_three min_three max_four min_four Opens.cell_twice   -- for this text's walks alone
set_option linter.unusedVariables false
set_option linter.unusedSimpArgs false

/-! ### spec_l20Term: function 48 -/
mutual
def spec_l20Term.j0 : Nat → Bool → List Int → Int → Int → List Int → Option ((List (S61)) × Int)
 | 0, _, _, _, _, _ => none
 | k + 1, x21, x1000, x1001, x255000, x255001 => if x21 = true then ((some (([(([] : List (S61))), (([(⟨1, 0, 0⟩ : S61)] : List (S61))), (([(⟨0, 3, 7⟩ : S61)] : List (S61))), (([(⟨0, 0, 1⟩ : S61), (⟨0, 0, 1⟩ : S61)] : List (S61)))] : List (List (S61))) : List (List (S61)))).bind fun y269 => ((spec_l20Rd_pick.f k x1000 x1001 4).bind fun bt272 => (if 0 ≤ bt272.1 then (if bt272.1 < (y269.length : Int) then (some (rd_L5 y269 bt272.1, bt272.2)) else (none)) else (none)))) else ((spec_l20Rd_pick.f k x1000 x1001 4).bind fun bt278 => (spec_l20Term.l0 k (([] : List (List (S61)))) (wrap64 (1 + bt278.1)) x1000 bt278.2 x255000 x255001))
def spec_l20Term.l0 : Nat → List (List (S61)) → Int → List Int → Int → Int → List Int → Option ((List (S61)) × Int)
 | 0, _, _, _, _, _, _ => none
 | k + 1, x7, x8, x1000, x1001, x255000, x255001 => if x8 > 0 then ((spec_l20Rd_pick.f k x1000 x1001 (x255001.length : Int)).bind fun bt280 => (if 0 ≤ bt280.1 then (if bt280.1 < (x255001.length : Int) then ((spec_l1Heads.f k (mx (rd x255001 bt280.1) 0)).bind fun t283 => ((spec_l20Rd_pick.f k x1000 bt280.2 (mx t283 1)).bind fun bt284 => (if x7.length < 5864062014805 then (spec_l20Term.l0 k (x7 ++ [(([(⟨0, bt280.1, wrap64 (1 + bt284.1)⟩ : S61)] : List (S61)))]) (wrap64 (x8 - 1)) x1000 bt284.2 x255000 x255001) else (none)))) else (none)) else (none))) else (spec_l20Term.l1 k x7 x1000 x1001)
def spec_l20Term.l1 : Nat → List (List (S61)) → List Int → Int → Option ((List (S61)) × Int)
 | 0, _, _, _ => none
 | k + 1, x7, x1000, x1001 => if (x7.length : Int) > 1 then ((spec_l20Rd_pick.f k x1000 x1001 (wrap64 ((x7.length : Int) - 1))).bind fun bt292 => ((some (([] : List (S61)) : List (S61))).bind fun y294 => (if 0 ≤ bt292.1 then (if bt292.1 < (x7.length : Int) then (if y294.length + (rd_L5 x7 bt292.1).length < 5864062014805 then ((some (y294 ++ (rd_L5 x7 bt292.1) : List (S61))).bind fun y298 => (if 0 ≤ (wrap64 (bt292.1 + 1)) then (if (wrap64 (bt292.1 + 1)) < (x7.length : Int) then (if y298.length + (rd_L5 x7 (wrap64 (bt292.1 + 1))).length < 5864062014805 then ((some (y298 ++ (rd_L5 x7 (wrap64 (bt292.1 + 1))) : List (S61))).bind fun y302 => ((spec_l20Rd_pick.f k x1000 bt292.2 2).bind fun bt305 => (if y302.length < 5864062014805 then ((some (([] : List (List (S61))) : List (List (S61)))).bind fun y310 => (if bt292.1 ≤ (x7.length : Int) then ((some (x7.take (bt292.1 : Int).toNat : List (List (S61)))).bind fun y313 => (if y310.length + y313.length < 5864062014805 then ((some (y310 ++ y313 : List (List (S61)))).bind fun y318 => (if y318.length < 5864062014805 then ((some (y318 ++ [(y302 ++ [(⟨wrap64 (1 + bt305.1), 0, 0⟩ : S61)])] : List (List (S61)))).bind fun y321 => (if 0 ≤ (wrap64 (bt292.1 + 2)) then (if (wrap64 (bt292.1 + 2)) ≤ (x7.length : Int) then ((some (x7.drop ((wrap64 (bt292.1 + 2)) : Int).toNat : List (List (S61)))).bind fun y324 => (if y321.length + y324.length < 5864062014805 then (spec_l20Term.l1 k (y321 ++ y324) x1000 bt305.2) else (none))) else (none)) else (none))) else (none))) else (none))) else (none))) else (none)))) else (none)) else (none)) else (none))) else (none)) else (none)) else (none)))) else (if 0 < (x7.length : Int) then (some (rd_L5 x7 0, x1001)) else (none))
end
def spec_l20Term.f (k : Nat) (s0_0 : List Int) (s0_1 : Int) (a1_0 : Int) (l1_1 : List Int) (a2 : Int) : Option ((List (S61)) × Int) := if (l1_1.length : Int) = 0 then (spec_l20Term.j0 k true s0_0 s0_1 a1_0 l1_1) else ((spec_l20Rd_odd.f k s0_0 s0_1 a2).bind fun bt255 => (spec_l20Term.j0 k bt255.1 s0_0 bt255.2 a1_0 l1_1))
theorem spec_l20Term.mono_l : ∀ k, (∀ y0 y1 y2 y3 y4, LeO (spec_l20Term.j0 k y0 y1 y2 y3 y4) (spec_l20Term.j0 (k + 1) y0 y1 y2 y3 y4)) ∧ (∀ y0 y1 y2 y3 y4 y5, LeO (spec_l20Term.l0 k y0 y1 y2 y3 y4 y5) (spec_l20Term.l0 (k + 1) y0 y1 y2 y3 y4 y5)) ∧ (∀ y0 y1 y2, LeO (spec_l20Term.l1 k y0 y1 y2) (spec_l20Term.l1 (k + 1) y0 y1 y2))
 | 0 => ⟨fun _ _ _ _ _ r h => by simp [spec_l20Term.j0] at h, fun _ _ _ _ _ _ r h => by simp [spec_l20Term.l0] at h, fun _ _ _ r h => by simp [spec_l20Term.l1] at h⟩
 | k + 1 => by
  obtain ⟨ih0, ih1, ih2⟩ := spec_l20Term.mono_l k
  refine ⟨?_, ?_, ?_⟩
  ·intro y0 y1 y2 y3 y4
   unfold spec_l20Term.j0
   repeat' first
   | (with_reducible exact ih0 _ _ _ _ _)
   | (with_reducible exact ih1 _ _ _ _ _ _)
   | (with_reducible exact ih2 _ _ _)
   | (with_reducible exact spec_l1Heads.mono _ _)
   | (with_reducible exact spec_l20Rd_odd.mono _ _ _ _)
   | (with_reducible exact spec_l20Rd_pick.mono _ _ _ _)
   | (with_reducible exact LeO.refl _)
   | (with_reducible exact LeO.none _)
   | (with_reducible refine LeO.ite ?_ ?_)
   | (with_reducible refine LeO.bind ?_ (fun _ => ?_))
   | exact ih0 _ _ _ _ _
   | exact ih1 _ _ _ _ _ _
   | exact ih2 _ _ _
   | exact spec_l1Heads.mono _ _
   | exact spec_l20Rd_odd.mono _ _ _ _
   | exact spec_l20Rd_pick.mono _ _ _ _
   | exact LeO.none _
   | refine LeO.ite ?_ ?_
   | refine LeO.bind ?_ (fun _ => ?_)
  ·intro y0 y1 y2 y3 y4 y5
   unfold spec_l20Term.l0
   repeat' first
   | (with_reducible exact ih0 _ _ _ _ _)
   | (with_reducible exact ih1 _ _ _ _ _ _)
   | (with_reducible exact ih2 _ _ _)
   | (with_reducible exact spec_l1Heads.mono _ _)
   | (with_reducible exact spec_l20Rd_odd.mono _ _ _ _)
   | (with_reducible exact spec_l20Rd_pick.mono _ _ _ _)
   | (with_reducible exact LeO.refl _)
   | (with_reducible exact LeO.none _)
   | (with_reducible refine LeO.ite ?_ ?_)
   | (with_reducible refine LeO.bind ?_ (fun _ => ?_))
   | exact ih0 _ _ _ _ _
   | exact ih1 _ _ _ _ _ _
   | exact ih2 _ _ _
   | exact spec_l1Heads.mono _ _
   | exact spec_l20Rd_odd.mono _ _ _ _
   | exact spec_l20Rd_pick.mono _ _ _ _
   | exact LeO.none _
   | refine LeO.ite ?_ ?_
   | refine LeO.bind ?_ (fun _ => ?_)
  ·intro y0 y1 y2
   unfold spec_l20Term.l1
   repeat' first
   | (with_reducible exact ih0 _ _ _ _ _)
   | (with_reducible exact ih1 _ _ _ _ _ _)
   | (with_reducible exact ih2 _ _ _)
   | (with_reducible exact spec_l1Heads.mono _ _)
   | (with_reducible exact spec_l20Rd_odd.mono _ _ _ _)
   | (with_reducible exact spec_l20Rd_pick.mono _ _ _ _)
   | (with_reducible exact LeO.refl _)
   | (with_reducible exact LeO.none _)
   | (with_reducible refine LeO.ite ?_ ?_)
   | (with_reducible refine LeO.bind ?_ (fun _ => ?_))
   | exact ih0 _ _ _ _ _
   | exact ih1 _ _ _ _ _ _
   | exact ih2 _ _ _
   | exact spec_l1Heads.mono _ _
   | exact spec_l20Rd_odd.mono _ _ _ _
   | exact spec_l20Rd_pick.mono _ _ _ _
   | exact LeO.none _
   | refine LeO.ite ?_ ?_
   | refine LeO.bind ?_ (fun _ => ?_)
theorem spec_l20Term.mono : ∀ a0 a1 a2 a3 a4 k, LeO (spec_l20Term.f k a0 a1 a2 a3 a4) (spec_l20Term.f (k + 1) a0 a1 a2 a3 a4) := by
 intro a0 a1 a2 a3 a4 k
 obtain ⟨ih0, ih1, ih2⟩ := spec_l20Term.mono_l k
 unfold spec_l20Term.f
 repeat' first
   | (with_reducible exact ih0 _ _ _ _ _)
   | (with_reducible exact ih1 _ _ _ _ _ _)
   | (with_reducible exact ih2 _ _ _)
   | (with_reducible exact spec_l1Heads.mono _ _)
   | (with_reducible exact spec_l20Rd_odd.mono _ _ _ _)
   | (with_reducible exact spec_l20Rd_pick.mono _ _ _ _)
   | (with_reducible exact LeO.refl _)
   | (with_reducible exact LeO.none _)
   | (with_reducible refine LeO.ite ?_ ?_)
   | (with_reducible refine LeO.bind ?_ (fun _ => ?_))
   | exact ih0 _ _ _ _ _
   | exact ih1 _ _ _ _ _ _
   | exact ih2 _ _ _
   | exact spec_l1Heads.mono _ _
   | exact spec_l20Rd_odd.mono _ _ _ _
   | exact spec_l20Rd_pick.mono _ _ _ _
   | exact LeO.none _
   | refine LeO.ite ?_ ?_
   | refine LeO.bind ?_ (fun _ => ?_)
def spec_l20Term.T11 : Bool × List (List Nat × List Nat) := (true, [([], []), ([], []), ([], []), ([1, 2], [1, 2]), ([3], [3]), ([0, 4], [0, 4]), ([], []), ([], []), ([7], [7]), ([6, 8], [6, 8]), ([9], [9]), ([5, 10, 5], [5, 10]), ([], []), ([12, 11], [12]), ([13], [13]), ([14], [14]), ([15], [15]), ([11, 16, 13], [11, 16]), ([17, 17, 0, 1, 2, 3, 4, 5, 6, 7, 8, 9, 10, 11, 12, 13, 14, 15, 16, 17], [17])])
def spec_l20Term.B11 : List Nat := [0, 0, 0, 6, 14, 31, 0, 0, 128, 448, 960, 2047, 0, 8191, 16383, 32767, 65535, 131071, 262143]
theorem spec_l20Term.tab11 : rtab .any (opsOf Try.f48 11) = spec_l20Term.T11 := by kernel_rfl
theorem spec_l20Term.bits11 : waitsOk spec_l20Term.T11.2 spec_l20Term.B11 = true := by kernel_rfl
set_option maxHeartbeats 8000000 in
set_option maxRecDepth 100000 in
theorem spec_l20Term.calls (k : Nat) (g : Nat) (s0_0 : List Int) (s0_1 : Int) (a1_0 : Int) (A1_1 : Option Addr) (c1_1 : Nat) (l1_1 : List Int) (a2 : Int) (r1 : List (S61)) (r2 : Int) (w0 w : World) (hI : IsS73 w0 w g s0_0 s0_1) (hB : Below w0.heap.size w0 w) (hr1_1 : Kd.C (Kd.int .i64) w A1_1 l1_1.length l1_1) (hc1_1 : l1_1.length ≤ c1_1) (hf1_1 : ∀ ad, A1_1 = some ad → 0 < l1_1.length → ad.block ≠ g) (h : spec_l20Term.f k s0_0 s0_1 a1_0 l1_1 a2 = some (r1, r2)) :
  Calls Try.prog 48 #[.pointer (some ⟨g, 0, none⟩), .agg #[.int .i64 a1_0, .slice A1_1 l1_1.length c1_1], .int .i64 a2] w fun e w' => ∃ v0_ : Value, e = .returned (v0_) ∧ Kd.V k61 61 w' w.heap.size (fun k_ => (w.heap.size ≤ k_)) v0_ r1 ∧ IsS73 w0 w' g s0_0 r2 ∧ Below w0.heap.size w0 w' ∧ KeepBut w w' g none := by
 have hu25 := Try.underlying25
 have hu61 := Try.underlying61
 have HR1_1 := Aside0.mk hr1_1
 have HC1_1 := Aside0.mk hc1_1
 clear hr1_1 hc1_1
 have HI0 := Aside0.mk hI
 have HK := Aside0.mk (KeepBut.refl w g none)
 have HL := Aside0.mk hB.size
 clear hI
 have HW0 := Aside0.mk hB.size
 have HB := Aside0.mk hB
 clear hB
 have H : (if (l1_1.length : Int) = 0 then (spec_l20Term.j0 k true s0_0 s0_1 a1_0 l1_1) else ((spec_l20Rd_odd.f k s0_0 s0_1 a2).bind fun bt255 => (spec_l20Term.j0 k bt255.1 s0_0 bt255.2 a1_0 l1_1))) = some (r1, r2) := h
 clear h
 have HC4 := Aside0.mk H
 clear H
 go_enter Try.func48, Try.ntmps48
 go_upto_region 1 with (first | ((with_reducible refine gate_dst (N := 4) rfl ?_); refine box_event ?hg (N := 4) ?hd (cs := #[.int .i64 a1_0, .slice A1_1 l1_1.length c1_1]) (t := 25) ?hr ?_; (case hd => rfl); (case hg => rfl); (case hr => first | (go_simp; done) | (go_simp; rfl)); intro gb254 hg w5 hbox hb; have n0_ := Aside0.mk (IsS73.below (by repeat (first | (with_reducible first | exact HI0.out | apply IsS73.alloc | apply IsS73.drewN | apply IsS73.drew | apply IsS73.set_1) | exact HI0.out)) hb); have n1_ := Aside0.mk (KeepBut.trans (by repeat (first | (with_reducible first | exact HK.out | apply KeepBut.set_ | apply keep_drewN | apply keep_drew | apply keep_alloc) | exact HK.out)) (KeepBut.of_below hb g none) (.inl rfl)); have n2_ := Aside0.mk (below_step (by repeat (first | (with_reducible first | exact HB.out | apply below_alloc | apply pw_below_drewN | apply below_drew1 | refine below_set ?_ (IsS73.ge HI0.out)) | exact HB.out)) hb); have n3_ := Aside0.mk (hbox); have n4_ := Aside0.mk ((by rw [hg]; exact (keep_size (w := w) (g := g) (row := none) (by repeat (first | (with_reducible first | exact HK.out | apply KeepBut.set_ | apply keep_drewN | apply keep_drew | apply keep_alloc) | exact HK.out))) : w.heap.size ≤ gb254)); have n5_ := Aside0.mk ((Nat.le_trans HW0.out (by rw [hg]; exact (keep_size (w := w) (g := g) (row := none) (by repeat (first | (with_reducible first | exact HK.out | apply KeepBut.set_ | apply keep_drewN | apply keep_drew | apply keep_alloc) | exact HK.out))) : w.heap.size ≤ gb254) : w0.heap.size ≤ gb254)); have n6_ := Aside0.mk ((by rw [hg]; exact Nat.ne_of_lt (IsS73.lt (show IsS73 w0 _ g s0_0 s0_1 from by repeat (first | (with_reducible first | exact HI0.out | apply IsS73.alloc | apply IsS73.drewN | apply IsS73.drew | apply IsS73.set_1) | exact HI0.out))) : g ≠ gb254)); have n7_ := Aside0.mk ((by rw [hg]; exact Nat.ne_of_gt (IsS73.lt (show IsS73 w0 _ g s0_0 s0_1 from by repeat (first | (with_reducible first | exact HI0.out | apply IsS73.alloc | apply IsS73.drewN | apply IsS73.drew | apply IsS73.set_1) | exact HI0.out))) : gb254 ≠ g)); clear HI0 HK HB; have HI0 := n0_; have HK := n1_; have HB := n2_; have BK254 := n3_; have GW254 := n4_; have GE254 := n5_; have NB0_254 := n6_; have NB254_0 := n7_; clear n0_ n1_ n2_ n3_ n4_ n5_ n6_ n7_ hb hbox hg))
 (try simp only [Act.put, List.setIfInBounds_toArray, List.set_cons_zero, List.set_cons_succ])
 go_cut [21] (fun v21 wc => ∃ (kq : Nat) (x21_3 : Bool) (x1001_3 : Int), v21 = .bool x21_3 ∧ Aside0 (spec_l20Term.j0 kq x21_3 s0_0 x1001_3 a1_0 l1_1 = some (r1, r2)) ∧ Aside0 (kq ≤ k) ∧ Aside0 (wc.heap[gb254]? = some (.cells #[.int .i64 a1_0, (.slice A1_1 l1_1.length c1_1)] 25 (0, 0))) ∧ Aside0 (IsS73 w0 wc g s0_0 x1001_3) ∧ Aside0 (KeepBut w wc g none) ∧ Aside0 (Below w0.heap.size w0 wc))
 case first =>
  have H := HC4.out
  clear HC4
  by_cases c6 : (l1_1.length : Int) = 0
  ·rw [if_pos c6] at H
   have c6b0 : ((l1_1.length : Int) == 0) = true := beq_iff_eq.mpr c6
   have c6b1 : ((l1_1.length : Int) != 0) = false := bne_eq_false_iff_eq.mpr c6
   clear c6
   (first | rw [c6b0] | (simp only [i64_w, i32_w]; rw [c6b0]) | skip)
   have H' := Aside0.mk H
   clear H
   have hnb7 := NB254_0.out
   have hnc7 := NB0_254.out
   have hcz8_0 := cz0 BK254
   have hcz8_1 := cz1 BK254
   have hfz8_0 := blk_frozen BK254.out 0
   have hfz8_1 := blk_frozen BK254.out 1
   go_wp2
   go_meet
   case rel => exact ⟨_, (true), (s0_1), (by first | rfl | (simp; done) | (simp [*]; done)), H', ⟨by first | omega | exact Nat.le_refl _⟩, ⟨bz BK254⟩, ⟨by repeat (first | (with_reducible first | exact HI0.out | apply IsS73.alloc | apply IsS73.drewN | apply IsS73.drew | apply IsS73.set_1 | refine IsS73.far ?_ NB0_254.out _) | exact HI0.out)⟩, ⟨by repeat (first | (with_reducible first | exact HK.out | apply KeepBut.set_ | apply keep_drewN | apply keep_drew | apply keep_alloc | refine keep_far ?_ GW254.out _) | exact HK.out)⟩, ⟨by repeat (first | (with_reducible first | exact HB.out | apply below_alloc | apply pw_below_drewN | apply below_drew1 | refine below_set ?_ (IsS73.ge HI0.out) | refine below_set ?_ GE254.out) | exact HB.out)⟩⟩
  ·rw [if_neg c6] at H
   have c6b0 : ((l1_1.length : Int) == 0) = false := beq_eq_false_iff_ne.mpr c6
   have c6b1 : ((l1_1.length : Int) != 0) = true := bne_iff_ne.mpr c6
   have c6b2 : ¬ (l1_1 = []) := fun h_ => c6 (by rw [h_]; rfl)
   (first | rw [c6b0] | (simp only [i64_w, i32_w]; rw [c6b0]) | skip)
   replace H := Option.bind_eq_some_iff.mp H
   obtain ⟨⟨t255, t256⟩, A90, H⟩ := H
   replace H : (spec_l20Term.j0 k t255 s0_0 t256 a1_0 l1_1) = some (r1, r2) := H
   have A9 := Aside0.mk A90
   clear A90
   have H' := Aside0.mk H
   clear H
   have hnb10 := NB254_0.out
   have hnc10 := NB0_254.out
   have hcz11_0 := cz0 BK254
   have hcz11_1 := cz1 BK254
   have hfz11_0 := blk_frozen BK254.out 0
   have hfz11_1 := blk_frozen BK254.out 1
   go_wp2_with (first | (go_at_call 69; (with_reducible refine (spec_l20Rd_odd.calls k g s0_0 s0_1 a2 t255 t256 w0 _ ?side1 ?side2 A9.out).mono ?_); (case side1 => repeat (first | (with_reducible first | exact HI0.out | apply IsS73.alloc | apply IsS73.drewN | apply IsS73.drew | apply IsS73.set_1 | refine IsS73.far ?_ NB0_254.out _) | exact HI0.out)); (case side2 => repeat (first | (with_reducible first | exact HB.out | apply below_alloc | apply pw_below_drewN | apply below_drew1 | refine below_set ?_ (IsS73.ge HI0.out) | refine below_set ?_ GE254.out) | exact HB.out)); rintro e w12 ⟨rfl, hi, hb, hk⟩; have n0_ := Aside0.mk (KeepBut.blk hk (bz BK254) NB254_0.out (by simp)); have n1_ := Aside0.mk (KeepBut.trans (by repeat (first | (with_reducible first | exact HK.out | apply KeepBut.set_ | apply keep_drewN | apply keep_drew | apply keep_alloc | refine keep_far ?_ GW254.out _) | exact HK.out)) hk (.inl rfl)); have n2_ := Aside0.mk (hb); have n3_ := Aside0.mk (hi); clear BK254 HK HB HI0; have BK254 := n0_; have HK := n1_; have HB := n2_; have HI0 := n3_; clear n0_ n1_ n2_ n3_; (try clear hb); (try clear hb2); (try clear hk); (try clear hi)))
   go_meet
   case rel => exact ⟨_, (t255), (t256), (by first | rfl | (simp; done) | (simp [*]; done)), H', ⟨by first | omega | exact Nat.le_refl _⟩, ⟨bz BK254⟩, ⟨by repeat (first | (with_reducible first | exact HI0.out | apply IsS73.alloc | apply IsS73.drewN | apply IsS73.drew | apply IsS73.set_1 | refine IsS73.far ?_ NB0_254.out _) | exact HI0.out)⟩, ⟨by repeat (first | (with_reducible first | exact HK.out | apply KeepBut.set_ | apply keep_drewN | apply keep_drew | apply keep_alloc | refine keep_far ?_ GW254.out _) | exact HK.out)⟩, ⟨by repeat (first | (with_reducible first | exact HB.out | apply below_alloc | apply pw_below_drewN | apply below_drew1 | refine below_set ?_ (IsS73.ge HI0.out) | refine below_set ?_ GE254.out) | exact HB.out)⟩⟩
 case rest =>
  clear HC4
  try clear c1
  try clear p2
  try clear c4
  try clear c6
  try clear c6b0
  try clear c6b1
  try clear c6b2
  try clear c7
  try clear c10
  try clear hcz11_0
  try clear hcz11_1
  try clear hcz8_0
  try clear hcz8_1
  try clear hfz11_0
  try clear hfz11_1
  try clear hfz8_0
  try clear hfz8_1
  obtain ⟨kq, x21_3, x1001_3, rfl, HA, HJ3, BK254, HI0, HK, HB⟩ := hcut
  cases kq with
  | zero => exact absurd HA.out (by simp [spec_l20Term.j0])
  | succ kj3 =>
   have H := HA.out
   clear HA
   simp only [spec_l20Term.j0] at H
   by_cases c13 : x21_3 = true
   ·subst c13
    have H1 : ((some (([(([] : List (S61))), (([(⟨1, 0, 0⟩ : S61)] : List (S61))), (([(⟨0, 3, 7⟩ : S61)] : List (S61))), (([(⟨0, 0, 1⟩ : S61), (⟨0, 0, 1⟩ : S61)] : List (S61)))] : List (List (S61))) : List (List (S61)))).bind fun y269 => ((spec_l20Rd_pick.f kj3 s0_0 x1001_3 4).bind fun bt272 => (if 0 ≤ bt272.1 then (if bt272.1 < (y269.length : Int) then (some (rd_L5 y269 bt272.1, bt272.2)) else (none)) else (none)))) = some (r1, r2) := by rw [if_pos rfl] at H; exact H
    clear H
    have H := H1
    clear H1
    obtain ⟨y257, hy257⟩ : ∃ y_ : List (S61), y_ = (([] : List (S61))) := ⟨_, rfl⟩
    replace H : ((some (([y257, (([(⟨1, 0, 0⟩ : S61)] : List (S61))), (([(⟨0, 3, 7⟩ : S61)] : List (S61))), (([(⟨0, 0, 1⟩ : S61), (⟨0, 0, 1⟩ : S61)] : List (S61)))] : List (List (S61))) : List (List (S61)))).bind fun y269 => ((spec_l20Rd_pick.f kj3 s0_0 x1001_3 4).bind fun bt272 => (if 0 ≤ bt272.1 then (if bt272.1 < (y269.length : Int) then (some (rd_L5 y269 bt272.1, bt272.2)) else (none)) else (none)))) = some (r1, r2) := by first | (rw [hy257]; with_reducible exact H) | (have H2_ := (Option.bind_some _ _).symm.trans H; rw [hy257]; with_reducible exact H2_) | (have H2_ := (Option.bind_some _ _).symm.trans H; with_reducible exact H2_) | with_reducible exact H | (rw [hy257]; exact H) | exact H
    have Ny257 := Aside0.mk hy257
    clear hy257
    obtain ⟨y260, hy260⟩ : ∃ y_ : List (S61), y_ = (([(⟨1, 0, 0⟩ : S61)] : List (S61))) := ⟨_, rfl⟩
    replace H : ((some (([y257, y260, (([(⟨0, 3, 7⟩ : S61)] : List (S61))), (([(⟨0, 0, 1⟩ : S61), (⟨0, 0, 1⟩ : S61)] : List (S61)))] : List (List (S61))) : List (List (S61)))).bind fun y269 => ((spec_l20Rd_pick.f kj3 s0_0 x1001_3 4).bind fun bt272 => (if 0 ≤ bt272.1 then (if bt272.1 < (y269.length : Int) then (some (rd_L5 y269 bt272.1, bt272.2)) else (none)) else (none)))) = some (r1, r2) := by first | (rw [hy260]; with_reducible exact H) | (have H2_ := (Option.bind_some _ _).symm.trans H; rw [hy260]; with_reducible exact H2_) | (have H2_ := (Option.bind_some _ _).symm.trans H; with_reducible exact H2_) | with_reducible exact H | (rw [hy260]; exact H) | exact H
    have Ny260 := Aside0.mk hy260
    clear hy260
    obtain ⟨y263, hy263⟩ : ∃ y_ : List (S61), y_ = (([(⟨0, 3, 7⟩ : S61)] : List (S61))) := ⟨_, rfl⟩
    replace H : ((some (([y257, y260, y263, (([(⟨0, 0, 1⟩ : S61), (⟨0, 0, 1⟩ : S61)] : List (S61)))] : List (List (S61))) : List (List (S61)))).bind fun y269 => ((spec_l20Rd_pick.f kj3 s0_0 x1001_3 4).bind fun bt272 => (if 0 ≤ bt272.1 then (if bt272.1 < (y269.length : Int) then (some (rd_L5 y269 bt272.1, bt272.2)) else (none)) else (none)))) = some (r1, r2) := by first | (rw [hy263]; with_reducible exact H) | (have H2_ := (Option.bind_some _ _).symm.trans H; rw [hy263]; with_reducible exact H2_) | (have H2_ := (Option.bind_some _ _).symm.trans H; with_reducible exact H2_) | with_reducible exact H | (rw [hy263]; exact H) | exact H
    have Ny263 := Aside0.mk hy263
    clear hy263
    obtain ⟨y266, hy266⟩ : ∃ y_ : List (S61), y_ = (([(⟨0, 0, 1⟩ : S61), (⟨0, 0, 1⟩ : S61)] : List (S61))) := ⟨_, rfl⟩
    replace H : ((some (([y257, y260, y263, y266] : List (List (S61))) : List (List (S61)))).bind fun y269 => ((spec_l20Rd_pick.f kj3 s0_0 x1001_3 4).bind fun bt272 => (if 0 ≤ bt272.1 then (if bt272.1 < (y269.length : Int) then (some (rd_L5 y269 bt272.1, bt272.2)) else (none)) else (none)))) = some (r1, r2) := by first | (rw [hy266]; with_reducible exact H) | (have H2_ := (Option.bind_some _ _).symm.trans H; rw [hy266]; with_reducible exact H2_) | (have H2_ := (Option.bind_some _ _).symm.trans H; with_reducible exact H2_) | with_reducible exact H | (rw [hy266]; exact H) | exact H
    have Ny266 := Aside0.mk hy266
    clear hy266
    obtain ⟨y269, hy269⟩ : ∃ y_ : List (List (S61)), y_ = (([y257, y260, y263, y266] : List (List (S61)))) := ⟨_, rfl⟩
    replace H : ((spec_l20Rd_pick.f kj3 s0_0 x1001_3 4).bind fun bt272 => (if 0 ≤ bt272.1 then (if bt272.1 < (y269.length : Int) then (some (rd_L5 y269 bt272.1, bt272.2)) else (none)) else (none))) = some (r1, r2) := by first | (rw [hy269]; with_reducible exact H) | (have H2_ := (Option.bind_some _ _).symm.trans H; rw [hy269]; with_reducible exact H2_) | (have H2_ := (Option.bind_some _ _).symm.trans H; with_reducible exact H2_) | with_reducible exact H | (rw [hy269]; exact H) | exact H
    have Ny269 := Aside0.mk hy269
    clear hy269
    replace H := Option.bind_eq_some_iff.mp H
    obtain ⟨⟨t272, t273⟩, A140, H⟩ := H
    replace H : (if 0 ≤ t272 then (if t272 < (y269.length : Int) then (some (rd_L5 y269 t272, t273)) else (none)) else (none)) = some (r1, r2) := H
    have A14 := Aside0.mk A140
    clear A140
    by_cases c15 : 0 ≤ t272
    ·rw [if_pos c15] at H
     have c15b0 : decide (0 ≤ t272) = true := decide_eq_true c15
     clear c15
     by_cases c16 : t272 < (y269.length : Int)
     ·rw [if_pos c16] at H
      have c16b0 : decide (t272 < (y269.length : Int)) = true := decide_eq_true c16
      clear c16
      simp only [Option.some.injEq, Prod.mk.injEq] at H
      obtain ⟨rfl, rfl⟩ := H
      go_wp2_with (first | ((with_reducible refine gate_dst (N := 22) rfl ?_); refine Kd.R_lit k61 _ 61 ?hg (N := 22) ?hd (xs := ([] : List (S61))) (inner := []) (ok := fun _ => True) (okp := fun _ => True) ?hr ?hp (fun _ hk => hk) trivial (Below.refl _ _) (Nat.le_refl _) (by simp) ?_; (case hd => rfl); (case hg => rfl); (case hr => first | (go_simp; done) | (go_simp; rfl)); (case hp => exact (Reps.none _ _)); intro v258 w17 ho18 hb hg_ hnew_; clear hg_ hnew_; (first | rw [← Ny257.out] at ho18 | (simp only [Int.reduceToNat] at ho18; rw [← Ny257.out] at ho18)); have n0_ := Aside0.mk (Kd.R_lower (Kd.R_newM (M := fun k_ => (w.heap.size ≤ k_)) ho18 (keep_size (w := w) (g := g) (row := none) (by repeat (first | (with_reducible first | exact HK.out | apply KeepBut.set_ | apply keep_drewN | apply keep_drew | apply keep_alloc | refine keep_far ?_ GW254.out _) | exact HK.out))) (fun k_ h_ => h_)) (keep_size (w := w) (g := g) (row := none) (by repeat (first | (with_reducible first | exact HK.out | apply KeepBut.set_ | apply keep_drewN | apply keep_drew | apply keep_alloc | refine keep_far ?_ GW254.out _) | exact HK.out)))); have n1_ := Aside0.mk (blk_below (bz BK254) hb); have n2_ := Aside0.mk (IsS73.below (by repeat (first | (with_reducible first | exact HI0.out | apply IsS73.alloc | apply IsS73.drewN | apply IsS73.drew | apply IsS73.set_1 | refine IsS73.far ?_ NB0_254.out _) | exact HI0.out)) hb); have n3_ := Aside0.mk (KeepBut.trans (by repeat (first | (with_reducible first | exact HK.out | apply KeepBut.set_ | apply keep_drewN | apply keep_drew | apply keep_alloc | refine keep_far ?_ GW254.out _) | exact HK.out)) (KeepBut.of_below hb g none) (.inl rfl)); have n4_ := Aside0.mk (below_step (by repeat (first | (with_reducible first | exact HB.out | apply below_alloc | apply pw_below_drewN | apply below_drew1 | refine below_set ?_ (IsS73.ge HI0.out) | refine below_set ?_ GE254.out) | exact HB.out)) hb); clear BK254 HI0 HK HB; have HO259 := n0_; have BK254 := n1_; have HI0 := n2_; have HK := n3_; have HB := n4_; clear n0_ n1_ n2_ n3_ n4_ hb ho18) | ((with_reducible refine gate_dst (N := 24) rfl ?_); refine Kd.R_lit k61 _ 61 ?hg (N := 24) ?hd (xs := ([(⟨1, 0, 0⟩ : S61)] : List (S61))) (inner := [.int .i64 1, .int .i64 0, .int .i64 0]) (ok := fun _ => True) (okp := fun _ => True) ?hr ?hp (fun _ hk => hk) trivial (Below.refl _ _) (Nat.le_refl _) (by simp) ?_; (case hd => rfl); (case hg => rfl); (case hr => first | (go_simp; done) | (go_simp; rfl)); (case hp => exact (Reps.c3 (show Kd.M k61 _ _ _ (⟨1, 0, 0⟩ : S61) [.int .i64 1, .int .i64 0, .int .i64 0] from (k61_mkM _ _ _ (⟨1, 0, 0⟩ : S61) )) (Reps.none _ _))); intro v261 w19 ho20 hb hg_ hnew_; clear hg_ hnew_; (first | rw [← Ny260.out] at ho20 | (simp only [Int.reduceToNat] at ho20; rw [← Ny260.out] at ho20)); have n0_ := Aside0.mk (Kd.R_elder' (rz HO259) (Kd.R_base ho20) hb); have n1_ := Aside0.mk (Kd.R_lower (Kd.R_new' (Kd.R_newM (M := fun k_ => (w.heap.size ≤ k_)) ho20 (keep_size (w := w) (g := g) (row := none) (by repeat (first | (with_reducible first | exact HK.out | apply KeepBut.set_ | apply keep_drewN | apply keep_drew | apply keep_alloc | refine keep_far ?_ GW254.out _) | exact HK.out))) (fun k_ h_ => h_)) (Kd.R_lt (rz HO259))) (keep_size (w := w) (g := g) (row := none) (by repeat (first | (with_reducible first | exact HK.out | apply KeepBut.set_ | apply keep_drewN | apply keep_drew | apply keep_alloc | refine keep_far ?_ GW254.out _) | exact HK.out)))); have n2_ := Aside0.mk (blk_below (bz BK254) hb); have n3_ := Aside0.mk (IsS73.below (by repeat (first | (with_reducible first | exact HI0.out | apply IsS73.alloc | apply IsS73.drewN | apply IsS73.drew | apply IsS73.set_1 | refine IsS73.far ?_ NB0_254.out _) | exact HI0.out)) hb); have n4_ := Aside0.mk (KeepBut.trans (by repeat (first | (with_reducible first | exact HK.out | apply KeepBut.set_ | apply keep_drewN | apply keep_drew | apply keep_alloc | refine keep_far ?_ GW254.out _) | exact HK.out)) (KeepBut.of_below hb g none) (.inl rfl)); have n5_ := Aside0.mk (below_step (by repeat (first | (with_reducible first | exact HB.out | apply below_alloc | apply pw_below_drewN | apply below_drew1 | refine below_set ?_ (IsS73.ge HI0.out) | refine below_set ?_ GE254.out) | exact HB.out)) hb); clear HO259 BK254 HI0 HK HB; have HO259 := n0_; have HO262 := n1_; have BK254 := n2_; have HI0 := n3_; have HK := n4_; have HB := n5_; clear n0_ n1_ n2_ n3_ n4_ n5_ hb ho20) | ((with_reducible refine gate_dst (N := 26) rfl ?_); refine Kd.R_lit k61 _ 61 ?hg (N := 26) ?hd (xs := ([(⟨0, 3, 7⟩ : S61)] : List (S61))) (inner := [.int .i64 0, .int .i64 3, .int .i64 7]) (ok := fun _ => True) (okp := fun _ => True) ?hr ?hp (fun _ hk => hk) trivial (Below.refl _ _) (Nat.le_refl _) (by simp) ?_; (case hd => rfl); (case hg => rfl); (case hr => first | (go_simp; done) | (go_simp; rfl)); (case hp => exact (Reps.c3 (show Kd.M k61 _ _ _ (⟨0, 3, 7⟩ : S61) [.int .i64 0, .int .i64 3, .int .i64 7] from (k61_mkM _ _ _ (⟨0, 3, 7⟩ : S61) )) (Reps.none _ _))); intro v264 w21 ho22 hb hg_ hnew_; clear hg_ hnew_; (first | rw [← Ny263.out] at ho22 | (simp only [Int.reduceToNat] at ho22; rw [← Ny263.out] at ho22)); have n0_ := Aside0.mk (Kd.R_elder' (rz HO259) (Kd.R_base ho22) hb); have n1_ := Aside0.mk (Kd.R_elder' (rz HO262) (Kd.R_base ho22) hb); have n2_ := Aside0.mk (Kd.R_lower (Kd.R_new' (Kd.R_new' (Kd.R_newM (M := fun k_ => (w.heap.size ≤ k_)) ho22 (keep_size (w := w) (g := g) (row := none) (by repeat (first | (with_reducible first | exact HK.out | apply KeepBut.set_ | apply keep_drewN | apply keep_drew | apply keep_alloc | refine keep_far ?_ GW254.out _) | exact HK.out))) (fun k_ h_ => h_)) (Kd.R_lt (rz HO259))) (Kd.R_lt (rz HO262))) (keep_size (w := w) (g := g) (row := none) (by repeat (first | (with_reducible first | exact HK.out | apply KeepBut.set_ | apply keep_drewN | apply keep_drew | apply keep_alloc | refine keep_far ?_ GW254.out _) | exact HK.out)))); have n3_ := Aside0.mk (blk_below (bz BK254) hb); have n4_ := Aside0.mk (IsS73.below (by repeat (first | (with_reducible first | exact HI0.out | apply IsS73.alloc | apply IsS73.drewN | apply IsS73.drew | apply IsS73.set_1 | refine IsS73.far ?_ NB0_254.out _) | exact HI0.out)) hb); have n5_ := Aside0.mk (KeepBut.trans (by repeat (first | (with_reducible first | exact HK.out | apply KeepBut.set_ | apply keep_drewN | apply keep_drew | apply keep_alloc | refine keep_far ?_ GW254.out _) | exact HK.out)) (KeepBut.of_below hb g none) (.inl rfl)); have n6_ := Aside0.mk (below_step (by repeat (first | (with_reducible first | exact HB.out | apply below_alloc | apply pw_below_drewN | apply below_drew1 | refine below_set ?_ (IsS73.ge HI0.out) | refine below_set ?_ GE254.out) | exact HB.out)) hb); clear HO259 HO262 BK254 HI0 HK HB; have HO259 := n0_; have HO262 := n1_; have HO265 := n2_; have BK254 := n3_; have HI0 := n4_; have HK := n5_; have HB := n6_; clear n0_ n1_ n2_ n3_ n4_ n5_ n6_ hb ho22) | ((with_reducible refine gate_dst (N := 29) rfl ?_); refine Kd.R_lit k61 _ 61 ?hg (N := 29) ?hd (xs := ([(⟨0, 0, 1⟩ : S61), (⟨0, 0, 1⟩ : S61)] : List (S61))) (inner := [.int .i64 0, .int .i64 0, .int .i64 1, .int .i64 0, .int .i64 0, .int .i64 1]) (ok := fun _ => True) (okp := fun _ => True) ?hr ?hp (fun _ hk => hk) trivial (Below.refl _ _) (Nat.le_refl _) (by simp) ?_; (case hd => rfl); (case hg => rfl); (case hr => first | (go_simp; done) | (go_simp; rfl)); (case hp => exact (Reps.c3 (show Kd.M k61 _ _ _ (⟨0, 0, 1⟩ : S61) [.int .i64 0, .int .i64 0, .int .i64 1] from (k61_mkM _ _ _ (⟨0, 0, 1⟩ : S61) )) (Reps.c3 (show Kd.M k61 _ _ _ (⟨0, 0, 1⟩ : S61) [.int .i64 0, .int .i64 0, .int .i64 1] from (k61_mkM _ _ _ (⟨0, 0, 1⟩ : S61) )) (Reps.none _ _)))); intro v267 w23 ho24 hb hg_ hnew_; clear hg_ hnew_; (first | rw [← Ny266.out] at ho24 | (simp only [Int.reduceToNat] at ho24; rw [← Ny266.out] at ho24)); have n0_ := Aside0.mk (Kd.R_elder' (rz HO259) (Kd.R_base ho24) hb); have n1_ := Aside0.mk (Kd.R_elder' (rz HO262) (Kd.R_base ho24) hb); have n2_ := Aside0.mk (Kd.R_elder' (rz HO265) (Kd.R_base ho24) hb); have n3_ := Aside0.mk (Kd.R_lower (Kd.R_new' (Kd.R_new' (Kd.R_new' (Kd.R_newM (M := fun k_ => (w.heap.size ≤ k_)) ho24 (keep_size (w := w) (g := g) (row := none) (by repeat (first | (with_reducible first | exact HK.out | apply KeepBut.set_ | apply keep_drewN | apply keep_drew | apply keep_alloc | refine keep_far ?_ GW254.out _) | exact HK.out))) (fun k_ h_ => h_)) (Kd.R_lt (rz HO259))) (Kd.R_lt (rz HO262))) (Kd.R_lt (rz HO265))) (keep_size (w := w) (g := g) (row := none) (by repeat (first | (with_reducible first | exact HK.out | apply KeepBut.set_ | apply keep_drewN | apply keep_drew | apply keep_alloc | refine keep_far ?_ GW254.out _) | exact HK.out)))); have n4_ := Aside0.mk (blk_below (bz BK254) hb); have n5_ := Aside0.mk (IsS73.below (by repeat (first | (with_reducible first | exact HI0.out | apply IsS73.alloc | apply IsS73.drewN | apply IsS73.drew | apply IsS73.set_1 | refine IsS73.far ?_ NB0_254.out _) | exact HI0.out)) hb); have n6_ := Aside0.mk (KeepBut.trans (by repeat (first | (with_reducible first | exact HK.out | apply KeepBut.set_ | apply keep_drewN | apply keep_drew | apply keep_alloc | refine keep_far ?_ GW254.out _) | exact HK.out)) (KeepBut.of_below hb g none) (.inl rfl)); have n7_ := Aside0.mk (below_step (by repeat (first | (with_reducible first | exact HB.out | apply below_alloc | apply pw_below_drewN | apply below_drew1 | refine below_set ?_ (IsS73.ge HI0.out) | refine below_set ?_ GE254.out) | exact HB.out)) hb); clear HO259 HO262 HO265 BK254 HI0 HK HB; have HO259 := n0_; have HO262 := n1_; have HO265 := n2_; have HO268 := n3_; have BK254 := n4_; have HI0 := n5_; have HK := n6_; have HB := n7_; clear n0_ n1_ n2_ n3_ n4_ n5_ n6_ n7_ hb ho24; obtain ⟨Ao25, co25, eo25⟩ := Kd.R_slice HO259.out; subst eo25; obtain ⟨Ao26, co26, eo26⟩ := Kd.R_slice HO262.out; subst eo26; obtain ⟨Ao27, co27, eo27⟩ := Kd.R_slice HO265.out; subst eo27; obtain ⟨Ao28, co28, eo28⟩ := Kd.R_slice HO268.out; subst eo28) | ((with_reducible refine gate_dst (N := 30) rfl ?_); refine Kd.N_lit (Kd.slice 61 k61) _ 26 ?hg (N' := 30) ?hd (xs := ([y257, y260, y263, y266] : List (List (S61)))) (inner := [.slice Ao25 y257.length co25, .slice Ao26 y260.length co26, .slice Ao27 y263.length co27, .slice Ao28 y266.length co28]) (ok := (fun k_ => (w.heap.size ≤ k_) ∧ k_ ≠ gb254 ∧ k_ ≠ g)) (okp := (fun k_ => (w.heap.size ≤ k_) ∧ k_ ≠ gb254 ∧ k_ ≠ g)) ?hr ?hp (fun _ hk => hk) ((show ∀ k_, w23.heap.size ≤ k_ → (fun k_ => (w.heap.size ≤ k_) ∧ k_ ≠ gb254 ∧ k_ ≠ g) k_ from fun k_ hk => ⟨(Nat.le_trans (keep_size (w := w) (g := g) (row := none) (by repeat (first | (with_reducible first | exact HK.out | apply KeepBut.set_ | apply keep_drewN | apply keep_drew | apply keep_alloc | refine keep_far ?_ GW254.out _) | exact HK.out))) hk), Kd.freshB (bz BK254) k_ hk, IsS73.fresh (by repeat (first | (with_reducible first | exact HI0.out | apply IsS73.alloc | apply IsS73.drewN | apply IsS73.drew | apply IsS73.set_1 | refine IsS73.far ?_ NB0_254.out _) | exact HI0.out)) k_ hk⟩) _ (Nat.le_refl _)) (Below.refl _ _) (Nat.le_refl _) (by simp) ?_; (case hd => rfl); (case hg => rfl); (case hr => first | (go_simp; done) | (go_simp; rfl)); (case hp => exact (Reps.one (show Kd.FK (Kd.slice 61 k61) _ _ y257 [.slice Ao25 y257.length co25] from (Kd.FK_slice_mk (Kd.R_reads' (Kd.R_mono (ok' := (fun k_ => (w.heap.size ≤ k_) ∧ k_ ≠ gb254 ∧ k_ ≠ g)) (IsS73.apart HI0.out (Kd.R_types (HO259.out) BK254.out (by decide)) (by decide)) (fun k_ hk => ⟨hk.1.1.1.1.1.1, ⟨hk.1.2, hk.2⟩⟩))).2.1 (Kd.R_F (Kd.R_mono (ok' := (fun k_ => (w.heap.size ≤ k_) ∧ k_ ≠ gb254 ∧ k_ ≠ g)) (IsS73.apart HI0.out (Kd.R_types (HO259.out) BK254.out (by decide)) (by decide)) (fun k_ hk => ⟨hk.1.1.1.1.1.1, ⟨hk.1.2, hk.2⟩⟩))))) (Reps.one (show Kd.FK (Kd.slice 61 k61) _ _ y260 [.slice Ao26 y260.length co26] from (Kd.FK_slice_mk (Kd.R_reads' (Kd.R_mono (ok' := (fun k_ => (w.heap.size ≤ k_) ∧ k_ ≠ gb254 ∧ k_ ≠ g)) (IsS73.apart HI0.out (Kd.R_types (HO262.out) BK254.out (by decide)) (by decide)) (fun k_ hk => ⟨hk.1.1.1.1.1.1, ⟨hk.1.2, hk.2⟩⟩))).2.1 (Kd.R_F (Kd.R_mono (ok' := (fun k_ => (w.heap.size ≤ k_) ∧ k_ ≠ gb254 ∧ k_ ≠ g)) (IsS73.apart HI0.out (Kd.R_types (HO262.out) BK254.out (by decide)) (by decide)) (fun k_ hk => ⟨hk.1.1.1.1.1.1, ⟨hk.1.2, hk.2⟩⟩))))) (Reps.one (show Kd.FK (Kd.slice 61 k61) _ _ y263 [.slice Ao27 y263.length co27] from (Kd.FK_slice_mk (Kd.R_reads' (Kd.R_mono (ok' := (fun k_ => (w.heap.size ≤ k_) ∧ k_ ≠ gb254 ∧ k_ ≠ g)) (IsS73.apart HI0.out (Kd.R_types (HO265.out) BK254.out (by decide)) (by decide)) (fun k_ hk => ⟨hk.1.1.1.1.1.1, ⟨hk.1.2, hk.2⟩⟩))).2.1 (Kd.R_F (Kd.R_mono (ok' := (fun k_ => (w.heap.size ≤ k_) ∧ k_ ≠ gb254 ∧ k_ ≠ g)) (IsS73.apart HI0.out (Kd.R_types (HO265.out) BK254.out (by decide)) (by decide)) (fun k_ hk => ⟨hk.1.1.1.1.1.1, ⟨hk.1.2, hk.2⟩⟩))))) (Reps.one (show Kd.FK (Kd.slice 61 k61) _ _ y266 [.slice Ao28 y266.length co28] from (Kd.FK_slice_mk (Kd.R_reads' (Kd.R_mono (ok' := (fun k_ => (w.heap.size ≤ k_) ∧ k_ ≠ gb254 ∧ k_ ≠ g)) (IsS73.apart HI0.out (Kd.R_types (HO268.out) BK254.out (by decide)) (by decide)) (fun k_ hk => ⟨hk.1.1.1.1.1.1, ⟨hk.1.2, hk.2⟩⟩))).2.1 (Kd.R_F (Kd.R_mono (ok' := (fun k_ => (w.heap.size ≤ k_) ∧ k_ ≠ gb254 ∧ k_ ≠ g)) (IsS73.apart HI0.out (Kd.R_types (HO268.out) BK254.out (by decide)) (by decide)) (fun k_ hk => ⟨hk.1.1.1.1.1.1, ⟨hk.1.2, hk.2⟩⟩))))) (Reps.none _ _)))))); intro v270 w29 ho30 hb hg_ hnew_; clear hg_ hnew_; (first | rw [← Ny269.out] at ho30 | (simp only [Int.reduceToNat] at ho30; rw [← Ny269.out] at ho30)); have n0_ := Aside0.mk (Kd.N_lower ho30 (keep_size (w := w) (g := g) (row := none) (by repeat (first | (with_reducible first | exact HK.out | apply KeepBut.set_ | apply keep_drewN | apply keep_drew | apply keep_alloc | refine keep_far ?_ GW254.out _) | exact HK.out)))); have n1_ := Aside0.mk (blk_below (bz BK254) hb); have n2_ := Aside0.mk (IsS73.below (by repeat (first | (with_reducible first | exact HI0.out | apply IsS73.alloc | apply IsS73.drewN | apply IsS73.drew | apply IsS73.set_1 | refine IsS73.far ?_ NB0_254.out _) | exact HI0.out)) hb); have n3_ := Aside0.mk (KeepBut.trans (by repeat (first | (with_reducible first | exact HK.out | apply KeepBut.set_ | apply keep_drewN | apply keep_drew | apply keep_alloc | refine keep_far ?_ GW254.out _) | exact HK.out)) (KeepBut.of_below hb g none) (.inl rfl)); have n4_ := Aside0.mk (below_step (by repeat (first | (with_reducible first | exact HB.out | apply below_alloc | apply pw_below_drewN | apply below_drew1 | refine below_set ?_ (IsS73.ge HI0.out) | refine below_set ?_ GE254.out) | exact HB.out)) hb); clear BK254 HI0 HK HB HO259 HO262 HO265 HO268; have HO271 := n0_; have BK254 := n1_; have HI0 := n2_; have HK := n3_; have HB := n4_; clear n0_ n1_ n2_ n3_ n4_ hb ho30) | ((with_reducible refine gate_callee (f := 46) rfl ?_); refine goesL_ (some 32) rfl rfl Try.func46 kr rfl #[.pointer (some ⟨g, 0, none⟩), .int .i64 4] rfl lm ?_; (with_reducible refine (spec_l20Rd_pick.calls kj3 g s0_0 x1001_3 4 t272 t273 w0 _ ?side1 ?side2 A14.out).mono ?_); (case side1 => repeat (first | (with_reducible first | exact HI0.out | apply IsS73.alloc | apply IsS73.drewN | apply IsS73.drew | apply IsS73.set_1 | refine IsS73.far ?_ NB0_254.out _) | exact HI0.out)); (case side2 => repeat (first | (with_reducible first | exact HB.out | apply below_alloc | apply pw_below_drewN | apply below_drew1 | refine below_set ?_ (IsS73.ge HI0.out) | refine below_set ?_ GE254.out) | exact HB.out)); rintro e w31 ⟨rfl, hi, hb, hk⟩; refine ⟨_, rfl, ?_⟩; have n0_ := Aside0.mk (KeepBut.blk hk (bz BK254) NB254_0.out (by simp)); have n1_ := Aside0.mk (Kd.N_mono (Kd.N_keep (Kd.N_mono (ok := fun k_ => (((w.heap.size ≤ k_)) ∧ (k_ ≠ gb254 ∧ k_ ≠ g))) (nz HO271) (fun k_ hk_ => (⟨hk_, hk_.2.2⟩ : _ ∧ k_ ≠ g))) hk (fun _ h => h.2)) (fun _ h => h.1)); have n2_ := Aside0.mk (KeepBut.trans (by repeat (first | (with_reducible first | exact HK.out | apply KeepBut.set_ | apply keep_drewN | apply keep_drew | apply keep_alloc | refine keep_far ?_ GW254.out _) | exact HK.out)) hk (.inl rfl)); have n3_ := Aside0.mk (hb); have n4_ := Aside0.mk (hi); clear BK254 HO271 HK HB HI0; have BK254 := n0_; have HO271 := n1_; have HK := n2_; have HB := n3_; have HI0 := n4_; clear n0_ n1_ n2_ n3_ n4_; (try clear hb); (try clear hb2); (try clear hk); (try clear hi); obtain ⟨Ao32, co32, eo32⟩ := Kd.N_slice HO271.out; subst eo32; have p274 : 0 ≤ (t272 : Int) := oda; have q274 : t272 < (y269.length : Int) := oda; obtain ⟨ad274, A274_0, c274_0, e274, hx274_0, hl274_0, hi274_0⟩ := at_L5 (Kd.N_reads' HO271.out).2.2 t272 p274 q274; cases e274; obtain ⟨ce274, hce274, hMe274, hcc274⟩ := Kd.N_get HO271.out [] t272 p274 (by first | exact q274 | exact oda | (have e_ := (Kd.N_reads' HO271.out).1; omega)); obtain ⟨ua274_0, uc274_0, rfl, ul274_0, ge274_0⟩ := Kd.FK_slice_open hMe274; have hv274_0 := hcc274 0 _ rfl; rw [Nat.add_zero, show ((Kd.slice 61 k61)).sz = 1 from rfl, Nat.mul_one] at hv274_0; replace hv274_0 := Option.some.inj (hv274_0.symm.trans hx274_0); injection hv274_0 with hva_ hvn_ hvc_; rw [hva_] at ge274_0; rw [hvc_] at ul274_0; have HL274_0 := Aside0.mk (show Kd.V k61 61 _ w.heap.size _ _ (rd_L5 y269 t272) from Kd.V_mk ul274_0 ge274_0); clear hva_ hvn_ hvc_ ge274_0 ul274_0 hcc274 hce274; have HR274_0 := Aside0.mk hi274_0; have HC274_0 := Aside0.mk hl274_0; clear hi274_0 hl274_0; replace p274 := eq_true p274; replace q274 := eq_true q274))
      go_ret
      exact ⟨_, by first | rfl | (simp [errW_none, errW_some] <;> rfl) | (simp [*, errW_none, errW_some] <;> rfl), by (with_reducible repeat (first | apply Kd.V_alloc | apply Kd.V_drewN | apply Kd.V_drew)); exact Kd.V_mono HL274_0.out (fun _ hk => hk.1.1), by repeat (first | (with_reducible first | exact HI0.out | apply IsS73.alloc | apply IsS73.drewN | apply IsS73.drew | apply IsS73.set_1 | refine IsS73.far ?_ NB0_254.out _) | exact HI0.out), by repeat (first | (with_reducible first | exact HB.out | apply below_alloc | apply pw_below_drewN | apply below_drew1 | refine below_set ?_ (IsS73.ge HI0.out) | refine below_set ?_ GE254.out) | exact HB.out), by repeat (first | (with_reducible first | exact HK.out | apply KeepBut.set_ | apply keep_drewN | apply keep_drew | apply keep_alloc | refine keep_far ?_ GW254.out _) | exact HK.out)⟩
     ·rw [if_neg c16] at H
      exact absurd H (by simp)
    ·rw [if_neg c15] at H
     exact absurd H (by simp)
   ·replace c13 := Bool.eq_false_iff.mpr c13
    subst c13
    have H1 : ((spec_l20Rd_pick.f kj3 s0_0 x1001_3 4).bind fun bt278 => (spec_l20Term.l0 kj3 (([] : List (List (S61)))) (wrap64 (1 + bt278.1)) s0_0 bt278.2 a1_0 l1_1)) = some (r1, r2) := by rw [if_neg (show ¬ (false = true) by decide)] at H; exact H
    clear H
    have H := H1
    clear H1
    obtain ⟨y275, hy275⟩ : ∃ y_ : List (List (S61)), y_ = (([] : List (List (S61)))) := ⟨_, rfl⟩
    replace H : ((spec_l20Rd_pick.f kj3 s0_0 x1001_3 4).bind fun bt278 => (spec_l20Term.l0 kj3 y275 (wrap64 (1 + bt278.1)) s0_0 bt278.2 a1_0 l1_1)) = some (r1, r2) := by first | (rw [hy275]; with_reducible exact H) | (have H2_ := (Option.bind_some _ _).symm.trans H; rw [hy275]; with_reducible exact H2_) | (have H2_ := (Option.bind_some _ _).symm.trans H; with_reducible exact H2_) | with_reducible exact H | (rw [hy275]; exact H) | exact H
    have Ny275 := Aside0.mk hy275
    clear hy275
    replace H := Option.bind_eq_some_iff.mp H
    obtain ⟨⟨t278, t279⟩, A330, H⟩ := H
    replace H : (spec_l20Term.l0 kj3 y275 (wrap64 (1 + t278)) s0_0 t279 a1_0 l1_1) = some (r1, r2) := H
    have A33 := Aside0.mk A330
    clear A330
    have H' := Aside0.mk H
    clear H
    go_wp2_with (first | ((with_reducible refine gate_dst (N := 35) rfl ?_); refine Kd.N_lit (Kd.slice 61 k61) _ 26 ?hg (N' := 35) ?hd (xs := ([] : List (List (S61)))) (inner := []) (ok := (fun k_ => (w.heap.size ≤ k_) ∧ k_ ≠ gb254 ∧ k_ ≠ g)) (okp := (fun k_ => (w.heap.size ≤ k_) ∧ k_ ≠ gb254 ∧ k_ ≠ g)) ?hr ?hp (fun _ hk => hk) ((show ∀ k_, wc.heap.size ≤ k_ → (fun k_ => (w.heap.size ≤ k_) ∧ k_ ≠ gb254 ∧ k_ ≠ g) k_ from fun k_ hk => ⟨(Nat.le_trans (keep_size (w := w) (g := g) (row := none) (by repeat (first | (with_reducible first | exact HK.out | apply KeepBut.set_ | apply keep_drewN | apply keep_drew | apply keep_alloc | refine keep_far ?_ GW254.out _) | exact HK.out))) hk), Kd.freshB (bz BK254) k_ hk, IsS73.fresh (by repeat (first | (with_reducible first | exact HI0.out | apply IsS73.alloc | apply IsS73.drewN | apply IsS73.drew | apply IsS73.set_1 | refine IsS73.far ?_ NB0_254.out _) | exact HI0.out)) k_ hk⟩) _ (Nat.le_refl _)) (Below.refl _ _) (Nat.le_refl _) (by simp) ?_; (case hd => rfl); (case hg => rfl); (case hr => first | (go_simp; done) | (go_simp; rfl)); (case hp => exact (Reps.none _ _)); intro v276 w34 ho35 hb hg_ hnew_; clear hg_ hnew_; (first | rw [← Ny275.out] at ho35 | (simp only [Int.reduceToNat] at ho35; rw [← Ny275.out] at ho35)); have n0_ := Aside0.mk (Kd.N_lower ho35 (keep_size (w := w) (g := g) (row := none) (by repeat (first | (with_reducible first | exact HK.out | apply KeepBut.set_ | apply keep_drewN | apply keep_drew | apply keep_alloc | refine keep_far ?_ GW254.out _) | exact HK.out)))); have n1_ := Aside0.mk (blk_below (bz BK254) hb); have n2_ := Aside0.mk (IsS73.below (by repeat (first | (with_reducible first | exact HI0.out | apply IsS73.alloc | apply IsS73.drewN | apply IsS73.drew | apply IsS73.set_1 | refine IsS73.far ?_ NB0_254.out _) | exact HI0.out)) hb); have n3_ := Aside0.mk (KeepBut.trans (by repeat (first | (with_reducible first | exact HK.out | apply KeepBut.set_ | apply keep_drewN | apply keep_drew | apply keep_alloc | refine keep_far ?_ GW254.out _) | exact HK.out)) (KeepBut.of_below hb g none) (.inl rfl)); have n4_ := Aside0.mk (below_step (by repeat (first | (with_reducible first | exact HB.out | apply below_alloc | apply pw_below_drewN | apply below_drew1 | refine below_set ?_ (IsS73.ge HI0.out) | refine below_set ?_ GE254.out) | exact HB.out)) hb); clear BK254 HI0 HK HB; have HO277 := n0_; have BK254 := n1_; have HI0 := n2_; have HK := n3_; have HB := n4_; clear n0_ n1_ n2_ n3_ n4_ hb ho35) | ((with_reducible refine gate_callee (f := 46) rfl ?_); refine goesL_ (some 37) rfl rfl Try.func46 kr rfl #[.pointer (some ⟨g, 0, none⟩), .int .i64 4] rfl lm ?_; (with_reducible refine (spec_l20Rd_pick.calls kj3 g s0_0 x1001_3 4 t278 t279 w0 _ ?side1 ?side2 A33.out).mono ?_); (case side1 => repeat (first | (with_reducible first | exact HI0.out | apply IsS73.alloc | apply IsS73.drewN | apply IsS73.drew | apply IsS73.set_1 | refine IsS73.far ?_ NB0_254.out _) | exact HI0.out)); (case side2 => repeat (first | (with_reducible first | exact HB.out | apply below_alloc | apply pw_below_drewN | apply below_drew1 | refine below_set ?_ (IsS73.ge HI0.out) | refine below_set ?_ GE254.out) | exact HB.out)); rintro e w36 ⟨rfl, hi, hb, hk⟩; refine ⟨_, rfl, ?_⟩; have n0_ := Aside0.mk (KeepBut.blk hk (bz BK254) NB254_0.out (by simp)); have n1_ := Aside0.mk (Kd.N_mono (Kd.N_keep (Kd.N_mono (ok := fun k_ => (((w.heap.size ≤ k_)) ∧ (k_ ≠ gb254 ∧ k_ ≠ g))) (nz HO277) (fun k_ hk_ => (⟨hk_, hk_.2.2⟩ : _ ∧ k_ ≠ g))) hk (fun _ h => h.2)) (fun _ h => h.1)); have n2_ := Aside0.mk (KeepBut.trans (by repeat (first | (with_reducible first | exact HK.out | apply KeepBut.set_ | apply keep_drewN | apply keep_drew | apply keep_alloc | refine keep_far ?_ GW254.out _) | exact HK.out)) hk (.inl rfl)); have n3_ := Aside0.mk (hb); have n4_ := Aside0.mk (hi); clear BK254 HO277 HK HB HI0; have BK254 := n0_; have HO277 := n1_; have HK := n2_; have HB := n3_; have HI0 := n4_; clear n0_ n1_ n2_ n3_ n4_; (try clear hb); (try clear hb2); (try clear hk); (try clear hi)))
    go_loopg [7, 8] kj3 (fun kq v7 v8 w' => ∃ (x7_2 : List (List (S61))) (x8_2 : Int) (x1001_2 : Int), v8 = .int .i64 x8_2 ∧ Aside0 (spec_l20Term.l0 kq x7_2 x8_2 s0_0 x1001_2 a1_0 l1_1 = some (r1, r2)) ∧ Aside0 (kq ≤ kj3) ∧ Aside0 (Kd.N (Kd.slice 61 k61) 26 w' w.heap.size (fun k_ => (w.heap.size ≤ k_) ∧ k_ ≠ gb254 ∧ k_ ≠ g) v7 x7_2) ∧ Aside0 (w'.heap[gb254]? = some (.cells #[.int .i64 a1_0, (.slice A1_1 l1_1.length c1_1)] 25 (0, 0))) ∧ Aside0 (IsS73 w0 w' g s0_0 x1001_2) ∧ Aside0 (KeepBut w w' g none) ∧ Aside0 (Below w0.heap.size w0 w'))
    case atStart => exact ⟨(y275), (wrap64 (1 + t278)), (t279), (by first | rfl | (simp; done) | (simp [*]; done)), H', ⟨Nat.le_refl _⟩, ⟨nz HO277⟩, ⟨bz BK254⟩, ⟨by repeat (first | (with_reducible first | exact HI0.out | apply IsS73.alloc | apply IsS73.drewN | apply IsS73.drew | apply IsS73.set_1 | refine IsS73.far ?_ NB0_254.out _) | exact HI0.out)⟩, ⟨by repeat (first | (with_reducible first | exact HK.out | apply KeepBut.set_ | apply keep_drewN | apply keep_drew | apply keep_alloc | refine keep_far ?_ GW254.out _) | exact HK.out)⟩, ⟨by repeat (first | (with_reducible first | exact HB.out | apply below_alloc | apply pw_below_drewN | apply below_drew1 | refine below_set ?_ (IsS73.ge HI0.out) | refine below_set ?_ GE254.out) | exact HB.out)⟩⟩
    case round =>
     clear H'
     try clear c1
     try clear c2
     try clear p2
     try clear q2
     try clear hx2
     try clear c3
     try clear c4
     try clear c6
     try clear c6b0
     try clear c6b1
     try clear c6b2
     try clear p6
     try clear c7
     try clear c10
     try clear c13
     try clear c15
     try clear c15b0
     try clear c16
     try clear c16b0
     try clear c27
     try clear p27
     try clear q27
     try clear hx27
     try clear hcz11_0
     try clear hcz11_1
     try clear hcz8_0
     try clear hcz8_1
     try clear hfz11_0
     try clear hfz11_1
     try clear hfz8_0
     try clear hfz8_1
     try clear hx274_0
     try clear p2
     try clear p274
     try clear q274
     obtain ⟨x7_2, x8_2, x1001_2, rfl, HA, HK2, HO_7, BK254, HI0, HK, HB⟩ := hrel
     cases gk with
     | zero => exact absurd HA.out (by simp [spec_l20Term.l0])
     | succ k2 =>
      have H := HA.out
      clear HA
      simp only [spec_l20Term.l0] at H
      by_cases c37 : x8_2 > 0
      ·rw [if_pos c37] at H
       have c37b0 : decide (0 < x8_2) = true := decide_eq_true c37
       clear c37
       replace H := Option.bind_eq_some_iff.mp H
       obtain ⟨⟨t280, t281⟩, A380, H⟩ := H
       replace H : (if 0 ≤ t280 then (if t280 < (l1_1.length : Int) then ((spec_l1Heads.f k2 (mx (rd l1_1 t280) 0)).bind fun t283 => ((spec_l20Rd_pick.f k2 s0_0 t281 (mx t283 1)).bind fun bt284 => (if x7_2.length < 5864062014805 then (spec_l20Term.l0 k2 (x7_2 ++ [(([(⟨0, t280, wrap64 (1 + bt284.1)⟩ : S61)] : List (S61)))]) (wrap64 (x8_2 - 1)) s0_0 bt284.2 a1_0 l1_1) else (none)))) else (none)) else (none)) = some (r1, r2) := H
       have A38 := Aside0.mk A380
       clear A380
       by_cases c39 : 0 ≤ t280
       ·rw [if_pos c39] at H
        have c39b0 : decide (0 ≤ t280) = true := decide_eq_true c39
        clear c39
        by_cases c40 : t280 < (l1_1.length : Int)
        ·rw [if_pos c40] at H
         have c40b0 : decide (t280 < (l1_1.length : Int)) = true := decide_eq_true c40
         clear c40
         obtain ⟨ji41, hji41⟩ : ∃ j_ : Int, (mx (rd l1_1 t280) 0) = j_ := ⟨_, rfl⟩
         replace H : ((spec_l1Heads.f k2 (ji41)).bind fun t283 => ((spec_l20Rd_pick.f k2 s0_0 t281 (mx t283 1)).bind fun bt284 => (if x7_2.length < 5864062014805 then (spec_l20Term.l0 k2 (x7_2 ++ [(([(⟨0, t280, wrap64 (1 + bt284.1)⟩ : S61)] : List (S61)))]) (wrap64 (x8_2 - 1)) s0_0 bt284.2 a1_0 l1_1) else (none)))) = some (r1, r2) := by first | (rw [hji41] at H; exact H) | (simp only [hji41] at H ⊢; exact H)
         (try rw [hji41] at A38)
         have hji41_ : (if (rd l1_1 t280) < 0 then 0 else (rd l1_1 t280)) = ji41 := hji41
         replace H := Option.bind_eq_some_iff.mp H
         obtain ⟨t283, A420, H⟩ := H
         replace H : ((spec_l20Rd_pick.f k2 s0_0 t281 (mx t283 1)).bind fun bt284 => (if x7_2.length < 5864062014805 then (spec_l20Term.l0 k2 (x7_2 ++ [(([(⟨0, t280, wrap64 (1 + bt284.1)⟩ : S61)] : List (S61)))]) (wrap64 (x8_2 - 1)) s0_0 bt284.2 a1_0 l1_1) else (none))) = some (r1, r2) := H
         have A42 := Aside0.mk A420
         clear A420
         obtain ⟨ji43, hji43⟩ : ∃ j_ : Int, (mx t283 1) = j_ := ⟨_, rfl⟩
         replace H : ((spec_l20Rd_pick.f k2 s0_0 t281 (ji43)).bind fun bt284 => (if x7_2.length < 5864062014805 then (spec_l20Term.l0 k2 (x7_2 ++ [(([(⟨0, t280, wrap64 (1 + bt284.1)⟩ : S61)] : List (S61)))]) (wrap64 (x8_2 - 1)) s0_0 bt284.2 a1_0 l1_1) else (none))) = some (r1, r2) := by first | (rw [hji43] at H; exact H) | (simp only [hji43] at H ⊢; exact H)
         (try rw [hji43] at A38)
         (try rw [hji43] at A42)
         (try (have hji43l : 1 ≤ ji43 := by (rw [← hji43]; unfold mx; (repeat' split) <;> omega)))
         (try (have hji43m : 0 ≤ ji43 := by omega))
         have hji43_ : (if t283 < 1 then 1 else t283) = ji43 := hji43
         replace H := Option.bind_eq_some_iff.mp H
         obtain ⟨⟨t284, t285⟩, A440, H⟩ := H
         replace H : (if x7_2.length < 5864062014805 then (spec_l20Term.l0 k2 (x7_2 ++ [(([(⟨0, t280, wrap64 (1 + t284)⟩ : S61)] : List (S61)))]) (wrap64 (x8_2 - 1)) s0_0 t285 a1_0 l1_1) else (none)) = some (r1, r2) := H
         have A44 := Aside0.mk A440
         clear A440
         obtain ⟨y286, hy286⟩ : ∃ y_ : List (S61), y_ = (([(⟨0, t280, wrap64 (1 + t284)⟩ : S61)] : List (S61))) := ⟨_, rfl⟩
         replace H : (if x7_2.length < 5864062014805 then (spec_l20Term.l0 k2 (x7_2 ++ [y286]) (wrap64 (x8_2 - 1)) s0_0 t285 a1_0 l1_1) else (none)) = some (r1, r2) := by first | (rw [hy286]; with_reducible exact H) | (have H2_ := (Option.bind_some _ _).symm.trans H; rw [hy286]; with_reducible exact H2_) | (have H2_ := (Option.bind_some _ _).symm.trans H; with_reducible exact H2_) | with_reducible exact H | (rw [hy286]; exact H) | exact H
         have Ny286 := Aside0.mk hy286
         clear hy286
         by_cases c45 : x7_2.length < 5864062014805
         ·rw [if_pos c45] at H
          have LMc45 := Aside0.mk c45
          clear c45
          obtain ⟨y289, hy289⟩ : ∃ y_ : List (List (S61)), y_ = (x7_2 ++ [y286]) := ⟨_, rfl⟩
          replace H : (spec_l20Term.l0 k2 y289 (wrap64 (x8_2 - 1)) s0_0 t285 a1_0 l1_1) = some (r1, r2) := by first | (rw [hy289]; with_reducible exact H) | (have H2_ := (Option.bind_some _ _).symm.trans H; rw [hy289]; with_reducible exact H2_) | (have H2_ := (Option.bind_some _ _).symm.trans H; with_reducible exact H2_) | with_reducible exact H | (rw [hy289]; exact H) | exact H
          have Ny289 := Aside0.mk hy289
          clear hy289
          have H' := Aside0.mk H
          clear H
          have hnb46 := NB254_0.out
          have hnc46 := NB0_254.out
          have hcz47_0 := cz0 BK254
          have hcz47_1 := cz1 BK254
          have hfz47_0 := blk_frozen BK254.out 0
          have hfz47_1 := blk_frozen BK254.out 1
          go_wp2_with (first | ((with_reducible refine gate_callee (f := 46) rfl ?_); refine goesL_ (some 47) rfl rfl Try.func46 kr rfl #[.pointer (some ⟨g, 0, none⟩), .int .i64 (l1_1.length : Int)] rfl lm ?_; (with_reducible refine (spec_l20Rd_pick.calls k2 g s0_0 x1001_2 (l1_1.length : Int) t280 t281 w0 _ ?side1 ?side2 A38.out).mono ?_); (case side1 => repeat (first | (with_reducible first | exact HI0.out | apply IsS73.alloc | apply IsS73.drewN | apply IsS73.drew | apply IsS73.set_1 | refine IsS73.far ?_ NB0_254.out _) | exact HI0.out)); (case side2 => repeat (first | (with_reducible first | exact HB.out | apply below_alloc | apply pw_below_drewN | apply below_drew1 | refine below_set ?_ (IsS73.ge HI0.out) | refine below_set ?_ GE254.out) | exact HB.out)); rintro e w48 ⟨rfl, hi, hb, hk⟩; refine ⟨_, rfl, ?_⟩; have n0_ := Aside0.mk (Kd.N_mono (Kd.N_keep (Kd.N_mono (ok := fun k_ => (((w.heap.size ≤ k_)) ∧ (k_ ≠ gb254 ∧ k_ ≠ g))) (nz HO_7) (fun k_ hk_ => (⟨hk_, hk_.2.2⟩ : _ ∧ k_ ≠ g))) hk (fun _ h => h.2)) (fun _ h => h.1)); have n1_ := Aside0.mk (KeepBut.blk hk (bz BK254) NB254_0.out (by simp)); have n2_ := Aside0.mk (KeepBut.trans (by repeat (first | (with_reducible first | exact HK.out | apply KeepBut.set_ | apply keep_drewN | apply keep_drew | apply keep_alloc | refine keep_far ?_ GW254.out _) | exact HK.out)) hk (.inl rfl)); have n3_ := Aside0.mk (hb); have n4_ := Aside0.mk (hi); clear HO_7 BK254 HK HB HI0; have HO_7 := n0_; have BK254 := n1_; have HK := n2_; have HB := n3_; have HI0 := n4_; clear n0_ n1_ n2_ n3_ n4_; (try clear hb); (try clear hb2); (try clear hk); (try clear hi); have hcz49_0 := cz0 BK254; have hcz49_1 := cz1 BK254; have hfz49_0 := blk_frozen BK254.out 0; have hfz49_1 := blk_frozen BK254.out 1; have p282 : 0 ≤ (t280 : Int) := oda; have q282 : t280 < (l1_1.length : Int) := oda; obtain ⟨ad282, e282, hx282_0⟩ := Kd.at_int HR1_1.out t280 p282 q282; cases e282; replace hx282_0 := keep_cell HK.out hx282_0 (by first | (rw [add_block]; exact hf1_1 _ rfl (by omega)) | exact hf1_1 _ rfl (by omega) | exact hf1_1 ad282 rfl (by omega)); replace p282 := eq_true p282; replace q282 := eq_true q282) | ((with_reducible refine gate_callee (f := 53) rfl ?_); refine goesL_ (some 57) rfl rfl Try.func53 kr rfl #[.int .i64 ji41] rfl (by (try simp only [List.map_toArray, List.map_cons, List.map_nil]); first | done | (simp only [hji41]; rfl) | rfl | (simp only [List.length_drop, List.length_take]; rfl)) ?_; (with_reducible refine (spec_l1Heads.calls k2 ji41 t283 _ A42.out).mono ?_); rintro e w' ⟨rfl, ⟨nd, rfl⟩⟩; refine ⟨_, rfl, ?_⟩) | ((with_reducible refine gate_callee (f := 46) rfl ?_); refine goesL_ (some 59) rfl rfl Try.func46 kr rfl #[.pointer (some ⟨g, 0, none⟩), .int .i64 ji43] rfl (by (try simp only [List.map_toArray, List.map_cons, List.map_nil]); first | done | (simp only [hji43]; rfl) | rfl | (simp only [List.length_drop, List.length_take]; rfl)) ?_; (with_reducible refine (spec_l20Rd_pick.calls k2 g s0_0 t281 ji43 t284 t285 w0 _ ?side1 ?side2 A44.out).mono ?_); (case side1 => repeat (first | (with_reducible first | exact HI0.out | apply IsS73.alloc | apply IsS73.drewN | apply IsS73.drew | apply IsS73.set_1 | refine IsS73.far ?_ NB0_254.out _) | exact HI0.out)); (case side2 => repeat (first | (with_reducible first | exact HB.out | apply below_alloc | apply pw_below_drewN | apply below_drew1 | refine below_set ?_ (IsS73.ge HI0.out) | refine below_set ?_ GE254.out) | exact HB.out)); rintro e w50 ⟨rfl, hi, hb, hk⟩; refine ⟨_, rfl, ?_⟩; have n0_ := Aside0.mk (Kd.N_mono (Kd.N_keep (Kd.N_mono (ok := fun k_ => (((w.heap.size ≤ k_)) ∧ (k_ ≠ gb254 ∧ k_ ≠ g))) (nz HO_7) (fun k_ hk_ => (⟨hk_, hk_.2.2⟩ : _ ∧ k_ ≠ g))) hk (fun _ h => h.2)) (fun _ h => h.1)); have n1_ := Aside0.mk (KeepBut.blk hk (bz BK254) NB254_0.out (by simp)); have n2_ := Aside0.mk (KeepBut.trans (by repeat (first | (with_reducible first | exact HK.out | apply KeepBut.set_ | apply keep_drewN | apply keep_drew | apply keep_alloc | refine keep_far ?_ GW254.out _) | exact HK.out)) hk (.inl rfl)); have n3_ := Aside0.mk (hb); have n4_ := Aside0.mk (hi); clear HO_7 BK254 HK HB HI0; have HO_7 := n0_; have BK254 := n1_; have HK := n2_; have HB := n3_; have HI0 := n4_; clear n0_ n1_ n2_ n3_ n4_; (try clear hb); (try clear hb2); (try clear hk); (try clear hi)) | ((with_reducible refine gate_dst (N := 62) rfl ?_); refine Kd.R_lit k61 _ 61 ?hg (N := 62) ?hd (xs := ([(⟨0, t280, wrap64 (1 + t284)⟩ : S61)] : List (S61))) (inner := [.int .i64 0, .int .i64 t280, .int .i64 (wrap64 (1 + t284))]) (ok := fun _ => True) (okp := fun _ => True) ?hr ?hp (fun _ hk => hk) trivial (Below.refl _ _) (Nat.le_refl _) (by simp) ?_; (case hd => rfl); (case hg => rfl); (case hr => first | (go_simp; done) | (go_simp; rfl)); (case hp => exact (Reps.c3 (show Kd.M k61 _ _ _ (⟨0, t280, wrap64 (1 + t284)⟩ : S61) [.int .i64 0, .int .i64 t280, .int .i64 (wrap64 (1 + t284))] from (k61_mkM _ _ _ (⟨0, t280, wrap64 (1 + t284)⟩ : S61) )) (Reps.none _ _))); intro v287 w51 ho52 hb hg_ hnew_; clear hg_ hnew_; (first | rw [← Ny286.out] at ho52 | (simp only [Int.reduceToNat] at ho52; rw [← Ny286.out] at ho52)); have n0_ := Aside0.mk (Kd.N_elder' (nz HO_7) (Kd.R_base ho52) hb); have n1_ := Aside0.mk (Kd.R_lower (Kd.R_newM (M := fun k_ => (w.heap.size ≤ k_)) ho52 (keep_size (w := w) (g := g) (row := none) (by repeat (first | (with_reducible first | exact HK.out | apply KeepBut.set_ | apply keep_drewN | apply keep_drew | apply keep_alloc | refine keep_far ?_ GW254.out _) | exact HK.out))) (fun k_ h_ => h_)) (keep_size (w := w) (g := g) (row := none) (by repeat (first | (with_reducible first | exact HK.out | apply KeepBut.set_ | apply keep_drewN | apply keep_drew | apply keep_alloc | refine keep_far ?_ GW254.out _) | exact HK.out)))); have n2_ := Aside0.mk (blk_below (bz BK254) hb); have n3_ := Aside0.mk (IsS73.below (by repeat (first | (with_reducible first | exact HI0.out | apply IsS73.alloc | apply IsS73.drewN | apply IsS73.drew | apply IsS73.set_1 | refine IsS73.far ?_ NB0_254.out _) | exact HI0.out)) hb); have n4_ := Aside0.mk (KeepBut.trans (by repeat (first | (with_reducible first | exact HK.out | apply KeepBut.set_ | apply keep_drewN | apply keep_drew | apply keep_alloc | refine keep_far ?_ GW254.out _) | exact HK.out)) (KeepBut.of_below hb g none) (.inl rfl)); have n5_ := Aside0.mk (below_step (by repeat (first | (with_reducible first | exact HB.out | apply below_alloc | apply pw_below_drewN | apply below_drew1 | refine below_set ?_ (IsS73.ge HI0.out) | refine below_set ?_ GE254.out) | exact HB.out)) hb); clear HO_7 BK254 HI0 HK HB; have HO_7 := n0_; have HO288 := n1_; have BK254 := n2_; have HI0 := n3_; have HK := n4_; have HB := n5_; clear n0_ n1_ n2_ n3_ n4_ n5_ hb ho52; obtain ⟨Ao54, co54, eo54⟩ := Kd.R_slice HO288.out; subst eo54) | ((with_reducible refine gate_builtin (b := .append) (xs := #[.tmp 48, .tmp 63]) rfl ?_); at_builtin; refine Kd.N_append (Kd.slice 61 k61) w.heap.size rfl (.tmp 48) (.tmp 63) 76 26 (.slice none 0 0) 24 rfl Try.underlying76 info26 rfl (by decide) (by omega) u7 x7_2 y286 [.slice Ao54 y286.length co54] (fun k_ => (w.heap.size ≤ k_) ∧ k_ ≠ gb254 ∧ k_ ≠ g) (fun k_ => ((fun k_ => (w.heap.size ≤ k_) ∧ k_ ≠ gb254 ∧ k_ ≠ g)) k_ ∧ some k_ ≠ (u7 : Value).ownBlock) rfl rfl ?aP (fun _ hk => hk) ?aF ?aO (Below.refl _ _) ?aS ?aL ?_; (case aP => exact (Kd.FK_slice_mk (Kd.R_reads' (Kd.R_mono (ok' := (fun k_ => ((fun k_ => (w.heap.size ≤ k_) ∧ k_ ≠ gb254 ∧ k_ ≠ g)) k_ ∧ some k_ ≠ (u7 : Value).ownBlock)) (IsS73.apart HI0.out (Kd.R_types (Kd.R_apart' (HO288.out) (Kd.N_typed HO_7.out) (by decide)) BK254.out (by decide)) (by decide)) (fun k_ hk => ⟨⟨hk.1.1.1.1, ⟨hk.1.2, hk.2⟩⟩, hk.1.1.2⟩))).2.1 (Kd.R_F (Kd.R_mono (ok' := (fun k_ => ((fun k_ => (w.heap.size ≤ k_) ∧ k_ ≠ gb254 ∧ k_ ≠ g)) k_ ∧ some k_ ≠ (u7 : Value).ownBlock)) (IsS73.apart HI0.out (Kd.R_types (Kd.R_apart' (HO288.out) (Kd.N_typed HO_7.out) (by decide)) BK254.out (by decide)) (by decide)) (fun k_ hk => ⟨⟨hk.1.1.1.1, ⟨hk.1.2, hk.2⟩⟩, hk.1.1.2⟩))))); (case aF => exact (fun k_ hk => ⟨(Nat.le_trans (keep_size (w := w) (g := g) (row := none) (by repeat (first | (with_reducible first | exact HK.out | apply KeepBut.set_ | apply keep_drewN | apply keep_drew | apply keep_alloc | refine keep_far ?_ GW254.out _) | exact HK.out))) hk), Kd.freshB (bz BK254) k_ hk, IsS73.fresh (by repeat (first | (with_reducible first | exact HI0.out | apply IsS73.alloc | apply IsS73.drewN | apply IsS73.drew | apply IsS73.set_1 | refine IsS73.far ?_ NB0_254.out _) | exact HI0.out)) k_ hk⟩)); (case aO => exact (mN HO_7)); (case aS => exact (keep_size (w := w) (g := g) (row := none) (by repeat (first | (with_reducible first | exact HK.out | apply KeepBut.set_ | apply keep_drewN | apply keep_drew | apply keep_alloc | refine keep_far ?_ GW254.out _) | exact HK.out)))); (case aL => have := LMc45.out; omega); intro v290 w53 ho hb hg hat; rw [← Ny289.out] at ho; have n0_ := Aside0.mk (blk_grown (bz BK254) hg (Kd.N_ne HO_7.out BK254.out (by decide))); have n1_ := Aside0.mk (IsS73.grown ((show IsS73 w0 _ g s0_0 t285 from by repeat (first | (with_reducible first | exact HI0.out | apply IsS73.alloc | apply IsS73.drewN | apply IsS73.drew | apply IsS73.set_1 | refine IsS73.far ?_ NB0_254.out _) | exact HI0.out))) hg (IsS73.own_neN HI0.out HO_7.out (by decide))); have n2_ := Aside0.mk (below_weaken (by repeat (first | (with_reducible first | exact HB.out | apply below_alloc | apply pw_below_drewN | apply below_drew1 | refine below_set ?_ (IsS73.ge HI0.out) | refine below_set ?_ GE254.out) | exact HB.out)) HL.out hb); have n3_ := Aside0.mk (KeepBut.trans (by repeat (first | (with_reducible first | exact HK.out | apply KeepBut.set_ | apply keep_drewN | apply keep_drew | apply keep_alloc | refine keep_far ?_ GW254.out _) | exact HK.out)) (KeepBut.of_grown hg g) (Kd.N_base2 HO_7.out)); have n4_ := Aside0.mk (ho); clear BK254 HI0 HB HK HO_7 HO288; have BK254 := n0_; have HI0 := n1_; have HB := n2_; have HK := n3_; have HO291 := n4_; clear n0_ n1_ n2_ n3_ n4_ ho hb hg hat))
          go_roundg k2
          case measure => have := HJ3.out; have := HK2.out; omega
          case rel => exact ⟨(y289), (wrap64 (x8_2 - 1)), (t285), (by first | rfl | (simp; done) | (simp [*]; done)), H', ⟨by have := HJ3.out; have := HK2.out; omega⟩, ⟨nz HO291⟩, ⟨bz BK254⟩, ⟨by repeat (first | (with_reducible first | exact HI0.out | apply IsS73.alloc | apply IsS73.drewN | apply IsS73.drew | apply IsS73.set_1 | refine IsS73.far ?_ NB0_254.out _) | exact HI0.out)⟩, ⟨by repeat (first | (with_reducible first | exact HK.out | apply KeepBut.set_ | apply keep_drewN | apply keep_drew | apply keep_alloc | refine keep_far ?_ GW254.out _) | exact HK.out)⟩, ⟨by repeat (first | (with_reducible first | exact HB.out | apply below_alloc | apply pw_below_drewN | apply below_drew1 | refine below_set ?_ (IsS73.ge HI0.out) | refine below_set ?_ GE254.out) | exact HB.out)⟩⟩
         ·rw [if_neg c45] at H
          exact absurd H (by simp)
        ·rw [if_neg c40] at H
         exact absurd H (by simp)
       ·rw [if_neg c39] at H
        exact absurd H (by simp)
      ·rw [if_neg c37] at H
       have c37b0 : decide (0 < x8_2) = false := decide_eq_false c37
       clear c37
       have H' := Aside0.mk H
       clear H
       go_wp2
       go_loopg [7] k2 (fun kq v7 w' => ∃ (x7_3 : List (List (S61))) (x1001_3 : Int), Aside0 (spec_l20Term.l1 kq x7_3 s0_0 x1001_3 = some (r1, r2)) ∧ Aside0 (kq ≤ k2) ∧ Aside0 (Kd.N (Kd.slice 61 k61) 26 w' w.heap.size (fun k_ => (w.heap.size ≤ k_) ∧ k_ ≠ gb254 ∧ k_ ≠ g) v7 x7_3) ∧ Aside0 (w'.heap[gb254]? = some (.cells #[.int .i64 a1_0, (.slice A1_1 l1_1.length c1_1)] 25 (0, 0))) ∧ Aside0 (IsS73 w0 w' g s0_0 x1001_3) ∧ Aside0 (KeepBut w w' g none) ∧ Aside0 (Below w0.heap.size w0 w'))
       case atStart => exact ⟨(x7_2), (x1001_2), H', ⟨Nat.le_refl _⟩, ⟨nz HO_7⟩, ⟨bz BK254⟩, ⟨by repeat (first | (with_reducible first | exact HI0.out | apply IsS73.alloc | apply IsS73.drewN | apply IsS73.drew | apply IsS73.set_1 | refine IsS73.far ?_ NB0_254.out _) | exact HI0.out)⟩, ⟨by repeat (first | (with_reducible first | exact HK.out | apply KeepBut.set_ | apply keep_drewN | apply keep_drew | apply keep_alloc | refine keep_far ?_ GW254.out _) | exact HK.out)⟩, ⟨by repeat (first | (with_reducible first | exact HB.out | apply below_alloc | apply pw_below_drewN | apply below_drew1 | refine below_set ?_ (IsS73.ge HI0.out) | refine below_set ?_ GE254.out) | exact HB.out)⟩⟩
       case round =>
        clear H'
        try clear c1
        try clear c2
        try clear p2
        try clear q2
        try clear hx2
        try clear c3
        try clear c4
        try clear c5
        try clear c6
        try clear c6b0
        try clear c6b1
        try clear c6b2
        try clear p6
        try clear c7
        try clear c10
        try clear c13
        try clear c15
        try clear c15b0
        try clear c16
        try clear c16b0
        try clear c27
        try clear p27
        try clear q27
        try clear hx27
        try clear p28
        try clear q28
        try clear hx28
        try clear c37
        try clear c37b0
        try clear c39
        try clear c39b0
        try clear c40
        try clear c40b0
        try clear c45
        try clear c46
        try clear c48
        try clear c53
        try clear hcz11_0
        try clear hcz11_1
        try clear hcz47_0
        try clear hcz47_1
        try clear hcz49_0
        try clear hcz49_1
        try clear hcz8_0
        try clear hcz8_1
        try clear hfz11_0
        try clear hfz11_1
        try clear hfz47_0
        try clear hfz47_1
        try clear hfz49_0
        try clear hfz49_1
        try clear hfz8_0
        try clear hfz8_1
        try clear hx274_0
        try clear hx282_0
        try clear p2
        try clear p27
        try clear p274
        try clear p282
        try clear p6
        try clear q2
        try clear q27
        try clear q274
        try clear q282
        obtain ⟨x7_3, x1001_3, HA, HK3, HO_7, BK254, HI0, HK, HB⟩ := hrel
        cases gk with
        | zero => exact absurd HA.out (by simp [spec_l20Term.l1])
        | succ k3 =>
         have H := HA.out
         clear HA
         simp only [spec_l20Term.l1] at H
         by_cases c55 : (x7_3.length : Int) > 1
         ·rw [if_pos c55] at H
          have c55b0 : decide (1 < (x7_3.length : Int)) = true := decide_eq_true c55
          have c55b1 : decide (1 < x7_3.length) = true := decide_eq_true (by omega)
          clear c55
          replace H := Option.bind_eq_some_iff.mp H
          obtain ⟨⟨t292, t293⟩, A560, H⟩ := H
          replace H : ((some (([] : List (S61)) : List (S61))).bind fun y294 => (if 0 ≤ t292 then (if t292 < (x7_3.length : Int) then (if y294.length + (rd_L5 x7_3 t292).length < 5864062014805 then ((some (y294 ++ (rd_L5 x7_3 t292) : List (S61))).bind fun y298 => (if 0 ≤ (wrap64 (t292 + 1)) then (if (wrap64 (t292 + 1)) < (x7_3.length : Int) then (if y298.length + (rd_L5 x7_3 (wrap64 (t292 + 1))).length < 5864062014805 then ((some (y298 ++ (rd_L5 x7_3 (wrap64 (t292 + 1))) : List (S61))).bind fun y302 => ((spec_l20Rd_pick.f k3 s0_0 t293 2).bind fun bt305 => (if y302.length < 5864062014805 then ((some (([] : List (List (S61))) : List (List (S61)))).bind fun y310 => (if t292 ≤ (x7_3.length : Int) then ((some (x7_3.take (t292 : Int).toNat : List (List (S61)))).bind fun y313 => (if y310.length + y313.length < 5864062014805 then ((some (y310 ++ y313 : List (List (S61)))).bind fun y318 => (if y318.length < 5864062014805 then ((some (y318 ++ [(y302 ++ [(⟨wrap64 (1 + bt305.1), 0, 0⟩ : S61)])] : List (List (S61)))).bind fun y321 => (if 0 ≤ (wrap64 (t292 + 2)) then (if (wrap64 (t292 + 2)) ≤ (x7_3.length : Int) then ((some (x7_3.drop ((wrap64 (t292 + 2)) : Int).toNat : List (List (S61)))).bind fun y324 => (if y321.length + y324.length < 5864062014805 then (spec_l20Term.l1 k3 (y321 ++ y324) s0_0 bt305.2) else (none))) else (none)) else (none))) else (none))) else (none))) else (none))) else (none)))) else (none)) else (none)) else (none))) else (none)) else (none)) else (none))) = some (r1, r2) := H
          have A56 := Aside0.mk A560
          clear A560
          obtain ⟨y294, hy294⟩ : ∃ y_ : List (S61), y_ = (([] : List (S61))) := ⟨_, rfl⟩
          replace H : (if 0 ≤ t292 then (if t292 < (x7_3.length : Int) then (if y294.length + (rd_L5 x7_3 t292).length < 5864062014805 then ((some (y294 ++ (rd_L5 x7_3 t292) : List (S61))).bind fun y298 => (if 0 ≤ (wrap64 (t292 + 1)) then (if (wrap64 (t292 + 1)) < (x7_3.length : Int) then (if y298.length + (rd_L5 x7_3 (wrap64 (t292 + 1))).length < 5864062014805 then ((some (y298 ++ (rd_L5 x7_3 (wrap64 (t292 + 1))) : List (S61))).bind fun y302 => ((spec_l20Rd_pick.f k3 s0_0 t293 2).bind fun bt305 => (if y302.length < 5864062014805 then ((some (([] : List (List (S61))) : List (List (S61)))).bind fun y310 => (if t292 ≤ (x7_3.length : Int) then ((some (x7_3.take (t292 : Int).toNat : List (List (S61)))).bind fun y313 => (if y310.length + y313.length < 5864062014805 then ((some (y310 ++ y313 : List (List (S61)))).bind fun y318 => (if y318.length < 5864062014805 then ((some (y318 ++ [(y302 ++ [(⟨wrap64 (1 + bt305.1), 0, 0⟩ : S61)])] : List (List (S61)))).bind fun y321 => (if 0 ≤ (wrap64 (t292 + 2)) then (if (wrap64 (t292 + 2)) ≤ (x7_3.length : Int) then ((some (x7_3.drop ((wrap64 (t292 + 2)) : Int).toNat : List (List (S61)))).bind fun y324 => (if y321.length + y324.length < 5864062014805 then (spec_l20Term.l1 k3 (y321 ++ y324) s0_0 bt305.2) else (none))) else (none)) else (none))) else (none))) else (none))) else (none))) else (none)))) else (none)) else (none)) else (none))) else (none)) else (none)) else (none)) = some (r1, r2) := by first | (rw [hy294]; with_reducible exact H) | (have H2_ := (Option.bind_some _ _).symm.trans H; rw [hy294]; with_reducible exact H2_) | (have H2_ := (Option.bind_some _ _).symm.trans H; with_reducible exact H2_) | with_reducible exact H | (rw [hy294]; exact H) | exact H
          have Ny294 := Aside0.mk hy294
          clear hy294
          by_cases c57 : 0 ≤ t292
          ·rw [if_pos c57] at H
           have c57b0 : decide (0 ≤ t292) = true := decide_eq_true c57
           clear c57
           by_cases c58 : t292 < (x7_3.length : Int)
           ·rw [if_pos c58] at H
            have c58b0 : decide (t292 < (x7_3.length : Int)) = true := decide_eq_true c58
            clear c58
            by_cases c59 : y294.length + (rd_L5 x7_3 t292).length < 5864062014805
            ·rw [if_pos c59] at H
             have LMc59 := Aside0.mk c59
             clear c59
             obtain ⟨y298, hy298⟩ : ∃ y_ : List (S61), y_ = (y294 ++ (rd_L5 x7_3 t292)) := ⟨_, rfl⟩
             replace H : (if 0 ≤ (wrap64 (t292 + 1)) then (if (wrap64 (t292 + 1)) < (x7_3.length : Int) then (if y298.length + (rd_L5 x7_3 (wrap64 (t292 + 1))).length < 5864062014805 then ((some (y298 ++ (rd_L5 x7_3 (wrap64 (t292 + 1))) : List (S61))).bind fun y302 => ((spec_l20Rd_pick.f k3 s0_0 t293 2).bind fun bt305 => (if y302.length < 5864062014805 then ((some (([] : List (List (S61))) : List (List (S61)))).bind fun y310 => (if t292 ≤ (x7_3.length : Int) then ((some (x7_3.take (t292 : Int).toNat : List (List (S61)))).bind fun y313 => (if y310.length + y313.length < 5864062014805 then ((some (y310 ++ y313 : List (List (S61)))).bind fun y318 => (if y318.length < 5864062014805 then ((some (y318 ++ [(y302 ++ [(⟨wrap64 (1 + bt305.1), 0, 0⟩ : S61)])] : List (List (S61)))).bind fun y321 => (if 0 ≤ (wrap64 (t292 + 2)) then (if (wrap64 (t292 + 2)) ≤ (x7_3.length : Int) then ((some (x7_3.drop ((wrap64 (t292 + 2)) : Int).toNat : List (List (S61)))).bind fun y324 => (if y321.length + y324.length < 5864062014805 then (spec_l20Term.l1 k3 (y321 ++ y324) s0_0 bt305.2) else (none))) else (none)) else (none))) else (none))) else (none))) else (none))) else (none)))) else (none)) else (none)) else (none)) = some (r1, r2) := by first | (rw [hy298]; with_reducible exact H) | (have H2_ := (Option.bind_some _ _).symm.trans H; rw [hy298]; with_reducible exact H2_) | (have H2_ := (Option.bind_some _ _).symm.trans H; with_reducible exact H2_) | with_reducible exact H | (rw [hy298]; exact H) | exact H
             have Ny298 := Aside0.mk hy298
             clear hy298
             obtain ⟨ji60, hji60⟩ : ∃ j_ : Int, (wrap64 (t292 + 1)) = j_ := ⟨_, rfl⟩
             replace H : (if 0 ≤ (ji60) then (if (ji60) < (x7_3.length : Int) then (if y298.length + (rd_L5 x7_3 (ji60)).length < 5864062014805 then ((some (y298 ++ (rd_L5 x7_3 (ji60)) : List (S61))).bind fun y302 => ((spec_l20Rd_pick.f k3 s0_0 t293 2).bind fun bt305 => (if y302.length < 5864062014805 then ((some (([] : List (List (S61))) : List (List (S61)))).bind fun y310 => (if t292 ≤ (x7_3.length : Int) then ((some (x7_3.take (t292 : Int).toNat : List (List (S61)))).bind fun y313 => (if y310.length + y313.length < 5864062014805 then ((some (y310 ++ y313 : List (List (S61)))).bind fun y318 => (if y318.length < 5864062014805 then ((some (y318 ++ [(y302 ++ [(⟨wrap64 (1 + bt305.1), 0, 0⟩ : S61)])] : List (List (S61)))).bind fun y321 => (if 0 ≤ (wrap64 (t292 + 2)) then (if (wrap64 (t292 + 2)) ≤ (x7_3.length : Int) then ((some (x7_3.drop ((wrap64 (t292 + 2)) : Int).toNat : List (List (S61)))).bind fun y324 => (if y321.length + y324.length < 5864062014805 then (spec_l20Term.l1 k3 (y321 ++ y324) s0_0 bt305.2) else (none))) else (none)) else (none))) else (none))) else (none))) else (none))) else (none)))) else (none)) else (none)) else (none)) = some (r1, r2) := by first | (rw [hji60] at H; exact H) | (simp only [hji60] at H ⊢; exact H)
             (try rw [hji60] at A56)
             have hji60w : (IntKind.i64.wrap (t292 + 1)) = ji60 := (i64_w _).trans hji60
             by_cases c61 : 0 ≤ (ji60)
             ·rw [if_pos c61] at H
              have c61b0 : decide (0 ≤ (ji60)) = true := decide_eq_true c61
              clear c61
              by_cases c62 : (ji60) < (x7_3.length : Int)
              ·rw [if_pos c62] at H
               have c62b0 : decide ((ji60) < (x7_3.length : Int)) = true := decide_eq_true c62
               clear c62
               by_cases c63 : y298.length + (rd_L5 x7_3 (ji60)).length < 5864062014805
               ·rw [if_pos c63] at H
                have LMc63 := Aside0.mk c63
                clear c63
                obtain ⟨y302, hy302⟩ : ∃ y_ : List (S61), y_ = (y298 ++ (rd_L5 x7_3 (ji60))) := ⟨_, rfl⟩
                replace H : ((spec_l20Rd_pick.f k3 s0_0 t293 2).bind fun bt305 => (if y302.length < 5864062014805 then ((some (([] : List (List (S61))) : List (List (S61)))).bind fun y310 => (if t292 ≤ (x7_3.length : Int) then ((some (x7_3.take (t292 : Int).toNat : List (List (S61)))).bind fun y313 => (if y310.length + y313.length < 5864062014805 then ((some (y310 ++ y313 : List (List (S61)))).bind fun y318 => (if y318.length < 5864062014805 then ((some (y318 ++ [(y302 ++ [(⟨wrap64 (1 + bt305.1), 0, 0⟩ : S61)])] : List (List (S61)))).bind fun y321 => (if 0 ≤ (wrap64 (t292 + 2)) then (if (wrap64 (t292 + 2)) ≤ (x7_3.length : Int) then ((some (x7_3.drop ((wrap64 (t292 + 2)) : Int).toNat : List (List (S61)))).bind fun y324 => (if y321.length + y324.length < 5864062014805 then (spec_l20Term.l1 k3 (y321 ++ y324) s0_0 bt305.2) else (none))) else (none)) else (none))) else (none))) else (none))) else (none))) else (none))) = some (r1, r2) := by first | (rw [hy302]; with_reducible exact H) | (have H2_ := (Option.bind_some _ _).symm.trans H; rw [hy302]; with_reducible exact H2_) | (have H2_ := (Option.bind_some _ _).symm.trans H; with_reducible exact H2_) | with_reducible exact H | (rw [hy302]; exact H) | exact H
                have Ny302 := Aside0.mk hy302
                clear hy302
                replace H := Option.bind_eq_some_iff.mp H
                obtain ⟨⟨t305, t306⟩, A640, H⟩ := H
                replace H : (if y302.length < 5864062014805 then ((some (([] : List (List (S61))) : List (List (S61)))).bind fun y310 => (if t292 ≤ (x7_3.length : Int) then ((some (x7_3.take (t292 : Int).toNat : List (List (S61)))).bind fun y313 => (if y310.length + y313.length < 5864062014805 then ((some (y310 ++ y313 : List (List (S61)))).bind fun y318 => (if y318.length < 5864062014805 then ((some (y318 ++ [(y302 ++ [(⟨wrap64 (1 + t305), 0, 0⟩ : S61)])] : List (List (S61)))).bind fun y321 => (if 0 ≤ (wrap64 (t292 + 2)) then (if (wrap64 (t292 + 2)) ≤ (x7_3.length : Int) then ((some (x7_3.drop ((wrap64 (t292 + 2)) : Int).toNat : List (List (S61)))).bind fun y324 => (if y321.length + y324.length < 5864062014805 then (spec_l20Term.l1 k3 (y321 ++ y324) s0_0 t306) else (none))) else (none)) else (none))) else (none))) else (none))) else (none))) else (none)) = some (r1, r2) := H
                have A64 := Aside0.mk A640
                clear A640
                by_cases c65 : y302.length < 5864062014805
                ·rw [if_pos c65] at H
                 have LMc65 := Aside0.mk c65
                 clear c65
                 obtain ⟨y307, hy307⟩ : ∃ y_ : List (S61), y_ = (y302 ++ [(⟨wrap64 (1 + t305), 0, 0⟩ : S61)]) := ⟨_, rfl⟩
                 replace H : ((some (([] : List (List (S61))) : List (List (S61)))).bind fun y310 => (if t292 ≤ (x7_3.length : Int) then ((some (x7_3.take (t292 : Int).toNat : List (List (S61)))).bind fun y313 => (if y310.length + y313.length < 5864062014805 then ((some (y310 ++ y313 : List (List (S61)))).bind fun y318 => (if y318.length < 5864062014805 then ((some (y318 ++ [y307] : List (List (S61)))).bind fun y321 => (if 0 ≤ (wrap64 (t292 + 2)) then (if (wrap64 (t292 + 2)) ≤ (x7_3.length : Int) then ((some (x7_3.drop ((wrap64 (t292 + 2)) : Int).toNat : List (List (S61)))).bind fun y324 => (if y321.length + y324.length < 5864062014805 then (spec_l20Term.l1 k3 (y321 ++ y324) s0_0 t306) else (none))) else (none)) else (none))) else (none))) else (none))) else (none))) = some (r1, r2) := by first | (rw [hy307]; with_reducible exact H) | (have H2_ := (Option.bind_some _ _).symm.trans H; rw [hy307]; with_reducible exact H2_) | (have H2_ := (Option.bind_some _ _).symm.trans H; with_reducible exact H2_) | with_reducible exact H | (rw [hy307]; exact H) | exact H
                 have Ny307 := Aside0.mk hy307
                 clear hy307
                 obtain ⟨y310, hy310⟩ : ∃ y_ : List (List (S61)), y_ = (([] : List (List (S61)))) := ⟨_, rfl⟩
                 replace H : (if t292 ≤ (x7_3.length : Int) then ((some (x7_3.take (t292 : Int).toNat : List (List (S61)))).bind fun y313 => (if y310.length + y313.length < 5864062014805 then ((some (y310 ++ y313 : List (List (S61)))).bind fun y318 => (if y318.length < 5864062014805 then ((some (y318 ++ [y307] : List (List (S61)))).bind fun y321 => (if 0 ≤ (wrap64 (t292 + 2)) then (if (wrap64 (t292 + 2)) ≤ (x7_3.length : Int) then ((some (x7_3.drop ((wrap64 (t292 + 2)) : Int).toNat : List (List (S61)))).bind fun y324 => (if y321.length + y324.length < 5864062014805 then (spec_l20Term.l1 k3 (y321 ++ y324) s0_0 t306) else (none))) else (none)) else (none))) else (none))) else (none))) else (none)) = some (r1, r2) := by first | (rw [hy310]; with_reducible exact H) | (have H2_ := (Option.bind_some _ _).symm.trans H; rw [hy310]; with_reducible exact H2_) | (have H2_ := (Option.bind_some _ _).symm.trans H; with_reducible exact H2_) | with_reducible exact H | (rw [hy310]; exact H) | exact H
                 have Ny310 := Aside0.mk hy310
                 clear hy310
                 have c66b0 := eq_true (oda : 0 ≤ t292)
                 by_cases c67 : t292 ≤ (x7_3.length : Int)
                 ·rw [if_pos c67] at H
                  have c67b0 := eq_true c67
                  have c67b1 : decide (t292 ≤ (x7_3.length : Int)) = true := decide_eq_true c67
                  clear c67
                  obtain ⟨y313, hy313⟩ : ∃ y_ : List (List (S61)), y_ = (x7_3.take (t292 : Int).toNat) := ⟨_, rfl⟩
                  replace H : (if y310.length + y313.length < 5864062014805 then ((some (y310 ++ y313 : List (List (S61)))).bind fun y318 => (if y318.length < 5864062014805 then ((some (y318 ++ [y307] : List (List (S61)))).bind fun y321 => (if 0 ≤ (wrap64 (t292 + 2)) then (if (wrap64 (t292 + 2)) ≤ (x7_3.length : Int) then ((some (x7_3.drop ((wrap64 (t292 + 2)) : Int).toNat : List (List (S61)))).bind fun y324 => (if y321.length + y324.length < 5864062014805 then (spec_l20Term.l1 k3 (y321 ++ y324) s0_0 t306) else (none))) else (none)) else (none))) else (none))) else (none)) = some (r1, r2) := by first | (rw [hy313]; with_reducible exact H) | (have H2_ := (Option.bind_some _ _).symm.trans H; rw [hy313]; with_reducible exact H2_) | (have H2_ := (Option.bind_some _ _).symm.trans H; with_reducible exact H2_) | with_reducible exact H | (rw [hy313]; exact H) | exact H
                  have Ny313 := Aside0.mk hy313
                  clear hy313
                  by_cases c68 : y310.length + y313.length < 5864062014805
                  ·rw [if_pos c68] at H
                   have LMc68 := Aside0.mk c68
                   clear c68
                   obtain ⟨y318, hy318⟩ : ∃ y_ : List (List (S61)), y_ = (y310 ++ y313) := ⟨_, rfl⟩
                   replace H : (if y318.length < 5864062014805 then ((some (y318 ++ [y307] : List (List (S61)))).bind fun y321 => (if 0 ≤ (wrap64 (t292 + 2)) then (if (wrap64 (t292 + 2)) ≤ (x7_3.length : Int) then ((some (x7_3.drop ((wrap64 (t292 + 2)) : Int).toNat : List (List (S61)))).bind fun y324 => (if y321.length + y324.length < 5864062014805 then (spec_l20Term.l1 k3 (y321 ++ y324) s0_0 t306) else (none))) else (none)) else (none))) else (none)) = some (r1, r2) := by first | (rw [hy318]; with_reducible exact H) | (have H2_ := (Option.bind_some _ _).symm.trans H; rw [hy318]; with_reducible exact H2_) | (have H2_ := (Option.bind_some _ _).symm.trans H; with_reducible exact H2_) | with_reducible exact H | (rw [hy318]; exact H) | exact H
                   have Ny318 := Aside0.mk hy318
                   clear hy318
                   by_cases c69 : y318.length < 5864062014805
                   ·rw [if_pos c69] at H
                    have LMc69 := Aside0.mk c69
                    clear c69
                    obtain ⟨y321, hy321⟩ : ∃ y_ : List (List (S61)), y_ = (y318 ++ [y307]) := ⟨_, rfl⟩
                    replace H : (if 0 ≤ (wrap64 (t292 + 2)) then (if (wrap64 (t292 + 2)) ≤ (x7_3.length : Int) then ((some (x7_3.drop ((wrap64 (t292 + 2)) : Int).toNat : List (List (S61)))).bind fun y324 => (if y321.length + y324.length < 5864062014805 then (spec_l20Term.l1 k3 (y321 ++ y324) s0_0 t306) else (none))) else (none)) else (none)) = some (r1, r2) := by first | (rw [hy321]; with_reducible exact H) | (have H2_ := (Option.bind_some _ _).symm.trans H; rw [hy321]; with_reducible exact H2_) | (have H2_ := (Option.bind_some _ _).symm.trans H; with_reducible exact H2_) | with_reducible exact H | (rw [hy321]; exact H) | exact H
                    have Ny321 := Aside0.mk hy321
                    clear hy321
                    obtain ⟨ji70, hji70⟩ : ∃ j_ : Int, (wrap64 (t292 + 2)) = j_ := ⟨_, rfl⟩
                    replace H : (if 0 ≤ (ji70) then (if (ji70) ≤ (x7_3.length : Int) then ((some (x7_3.drop ((ji70) : Int).toNat : List (List (S61)))).bind fun y324 => (if y321.length + y324.length < 5864062014805 then (spec_l20Term.l1 k3 (y321 ++ y324) s0_0 t306) else (none))) else (none)) else (none)) = some (r1, r2) := by first | (rw [hji70] at H; exact H) | (simp only [hji70] at H ⊢; exact H)
                    (try rw [hji70] at A56)
                    (try rw [hji70] at A64)
                    have hji70w : (IntKind.i64.wrap (t292 + 2)) = ji70 := (i64_w _).trans hji70
                    by_cases c71 : 0 ≤ (ji70)
                    ·rw [if_pos c71] at H
                     have c71b0 := eq_true c71
                     have c71b1 : decide (0 ≤ (ji70)) = true := decide_eq_true c71
                     clear c71
                     by_cases c72 : (ji70) ≤ (x7_3.length : Int)
                     ·rw [if_pos c72] at H
                      have c72b0 := eq_true c72
                      have c72b1 : decide ((ji70) ≤ (x7_3.length : Int)) = true := decide_eq_true c72
                      clear c72
                      obtain ⟨y324, hy324⟩ : ∃ y_ : List (List (S61)), y_ = (x7_3.drop ((ji70) : Int).toNat) := ⟨_, rfl⟩
                      replace H : (if y321.length + y324.length < 5864062014805 then (spec_l20Term.l1 k3 (y321 ++ y324) s0_0 t306) else (none)) = some (r1, r2) := by first | (rw [hy324]; with_reducible exact H) | (have H2_ := (Option.bind_some _ _).symm.trans H; rw [hy324]; with_reducible exact H2_) | (have H2_ := (Option.bind_some _ _).symm.trans H; with_reducible exact H2_) | with_reducible exact H | (rw [hy324]; exact H) | exact H
                      have Ny324 := Aside0.mk hy324
                      clear hy324
                      by_cases c73 : y321.length + y324.length < 5864062014805
                      ·rw [if_pos c73] at H
                       have LMc73 := Aside0.mk c73
                       clear c73
                       obtain ⟨y329, hy329⟩ : ∃ y_ : List (List (S61)), y_ = (y321 ++ y324) := ⟨_, rfl⟩
                       replace H : (spec_l20Term.l1 k3 y329 s0_0 t306) = some (r1, r2) := by first | (rw [hy329]; with_reducible exact H) | (have H2_ := (Option.bind_some _ _).symm.trans H; rw [hy329]; with_reducible exact H2_) | (have H2_ := (Option.bind_some _ _).symm.trans H; with_reducible exact H2_) | with_reducible exact H | (rw [hy329]; exact H) | exact H
                       have Ny329 := Aside0.mk hy329
                       clear hy329
                       have H' := Aside0.mk H
                       clear H
                       obtain ⟨Ao74, co74, eo74⟩ := Kd.N_slice HO_7.out
                       subst eo74
                       try go_wp2_with (first | ((with_reducible refine gate_callee (f := 46) rfl ?_); refine goesL_ (some 72) rfl rfl Try.func46 kr rfl #[.pointer (some ⟨g, 0, none⟩), .int .i64 (wrap64 ((x7_3.length : Int) - 1))] rfl lm ?_; (with_reducible refine (spec_l20Rd_pick.calls k3 g s0_0 x1001_3 (wrap64 ((x7_3.length : Int) - 1)) t292 t293 w0 _ ?side1 ?side2 A56.out).mono ?_); (case side1 => repeat (first | (with_reducible first | exact HI0.out | apply IsS73.alloc | apply IsS73.drewN | apply IsS73.drew | apply IsS73.set_1 | refine IsS73.far ?_ NB0_254.out _) | exact HI0.out)); (case side2 => repeat (first | (with_reducible first | exact HB.out | apply below_alloc | apply pw_below_drewN | apply below_drew1 | refine below_set ?_ (IsS73.ge HI0.out) | refine below_set ?_ GE254.out) | exact HB.out)); rintro e w75 ⟨rfl, hi, hb, hk⟩; refine ⟨_, rfl, ?_⟩; have n0_ := Aside0.mk (Kd.N_mono (Kd.N_keep (Kd.N_mono (ok := fun k_ => (((w.heap.size ≤ k_)) ∧ (k_ ≠ gb254 ∧ k_ ≠ g))) (nz HO_7) (fun k_ hk_ => (⟨hk_, hk_.2.2⟩ : _ ∧ k_ ≠ g))) hk (fun _ h => h.2)) (fun _ h => h.1)); have n1_ := Aside0.mk (KeepBut.blk hk (bz BK254) NB254_0.out (by simp)); have n2_ := Aside0.mk (KeepBut.trans (by repeat (first | (with_reducible first | exact HK.out | apply KeepBut.set_ | apply keep_drewN | apply keep_drew | apply keep_alloc | refine keep_far ?_ GW254.out _) | exact HK.out)) hk (.inl rfl)); have n3_ := Aside0.mk (hb); have n4_ := Aside0.mk (hi); clear HO_7 BK254 HK HB HI0; have HO_7 := n0_; have BK254 := n1_; have HK := n2_; have HB := n3_; have HI0 := n4_; clear n0_ n1_ n2_ n3_ n4_; (try clear hb); (try clear hb2); (try clear hk); (try clear hi)))
                       have n0_ := Aside0.mk (Kd.N_drew HO_7.out)
                       have n1_ := Aside0.mk (blk_drew BK254.out)
                       have n2_ := Aside0.mk (IsS73.drew HI0.out)
                       have n3_ := Aside0.mk (keep_drew HK.out)
                       have n4_ := Aside0.mk (below_drew1 HB.out)
                       clear HO_7 BK254 HI0 HK HB
                       have HO_7 := n0_
                       have BK254 := n1_
                       have HI0 := n2_
                       have HK := n3_
                       have HB := n4_
                       clear n0_ n1_ n2_ n3_ n4_
                       have p297 : 0 ≤ (t292 : Int) := oda
                       have q297 : t292 < (x7_3.length : Int) := oda
                       obtain ⟨ad297, A297_0, c297_0, e297, hx297_0, hl297_0, hi297_0⟩ := at_L5 (Kd.N_reads' HO_7.out).2.2 t292 p297 q297
                       cases e297
                       obtain ⟨ce297, hce297, hMe297, hcc297⟩ := Kd.N_get HO_7.out [] t292 p297 (by first | exact q297 | exact oda | (have e_ := (Kd.N_reads' HO_7.out).1; omega))
                       obtain ⟨ua297_0, uc297_0, rfl, ul297_0, ge297_0⟩ := Kd.FK_slice_open hMe297
                       have hv297_0 := hcc297 0 _ rfl
                       rw [Nat.add_zero, show ((Kd.slice 61 k61)).sz = 1 from rfl, Nat.mul_one] at hv297_0
                       replace hv297_0 := Option.some.inj (hv297_0.symm.trans hx297_0)
                       injection hv297_0 with hva_ hvn_ hvc_
                       rw [hva_] at ge297_0
                       rw [hvc_] at ul297_0
                       have HL297_0 := Aside0.mk (show Kd.V k61 61 _ w.heap.size _ _ (rd_L5 x7_3 t292) from Kd.V_mk ul297_0 ge297_0)
                       clear hva_ hvn_ hvc_ ge297_0 ul297_0 hcc297 hce297
                       have HR297_0 := Aside0.mk hi297_0
                       have HC297_0 := Aside0.mk hl297_0
                       clear hi297_0 hl297_0
                       replace p297 := eq_true p297
                       replace q297 := eq_true q297
                       have p301 : 0 ≤ ((ji60) : Int) := oda
                       have q301 : (ji60) < (x7_3.length : Int) := oda
                       obtain ⟨ad301, A301_0, c301_0, e301, hx301_0, hl301_0, hi301_0⟩ := at_L5 (Kd.N_reads' HO_7.out).2.2 (ji60) p301 q301
                       obtain rfl : ad297 = ad301 := (by injection e301)
                       obtain ⟨ce301, hce301, hMe301, hcc301⟩ := Kd.N_get HO_7.out [] (ji60) p301 (by first | exact q301 | exact oda | (have e_ := (Kd.N_reads' HO_7.out).1; omega))
                       obtain ⟨ua301_0, uc301_0, rfl, ul301_0, ge301_0⟩ := Kd.FK_slice_open hMe301
                       have hv301_0 := hcc301 0 _ rfl
                       rw [Nat.add_zero, show ((Kd.slice 61 k61)).sz = 1 from rfl, Nat.mul_one] at hv301_0
                       replace hv301_0 := Option.some.inj (hv301_0.symm.trans hx301_0)
                       injection hv301_0 with hva_ hvn_ hvc_
                       rw [hva_] at ge301_0
                       rw [hvc_] at ul301_0
                       have HL301_0 := Aside0.mk (show Kd.V k61 61 _ w.heap.size _ _ (rd_L5 x7_3 (ji60)) from Kd.V_mk ul301_0 ge301_0)
                       clear hva_ hvn_ hvc_ ge301_0 ul301_0 hcc301 hce301
                       have HR301_0 := Aside0.mk hi301_0
                       have HC301_0 := Aside0.mk hl301_0
                       clear hi301_0 hl301_0
                       replace p301 := eq_true p301
                       replace q301 := eq_true q301
                       refine start_ (n := 19) (S := fun w' => w'.cell? (ad297.add (t292).toNat) = some (.slice A297_0 (rd_L5 x7_3 t292).length c297_0) ∧ w'.cell? (ad297.add ((ji60)).toNat) = some (.slice A301_0 (rd_L5 x7_3 (ji60)).length c301_0)) (ds := [16]) #[F,F,F,F,F,F,F,F,F,F,F,F,F,F,F,F,F,F,F] kr rfl rfl ⟨hx297_0, hx301_0⟩ (fun hHeld => ?_); refine with_tabW spec_l20Term.tab11 spec_l20Term.bits11 (fun HT_ HW_ => ?_)
                       generalize w75.drew = w76 at HO_7 BK254 HI0 HK HB HL297_0 HL301_0 HR297_0 HR301_0 hx297_0 hx301_0 hHeld ⊢
                       refine pu 1 (some 74) #[F,T,F,F,F,F,F,F,F,F,F,F,F,F,F,F,F,F,F] (any_of HT_.out kr) ?_
                       refine pu 2 (some 75) #[F,T,T,F,F,F,F,F,F,F,F,F,F,F,F,F,F,F,F] (any_of HT_.out kr) ?_
                       refine pu 3 (some 76) #[F,T,T,T,F,F,F,F,F,F,F,F,F,F,F,F,F,F,F] (any_of HT_.out kr) ?_
                       refine pu 6 (some 79) #[F,T,T,T,F,F,T,F,F,F,F,F,F,F,F,F,F,F,F] (any_of HT_.out kr) ?_
                       refine pu 7 (some 80) #[F,T,T,T,F,F,T,T,F,F,F,F,F,F,F,F,F,F,F] (any_of HT_.out kr) ?_
                       refine pu 8 (some 81) #[F,T,T,T,F,F,T,T,T,F,F,F,F,F,F,F,F,F,F] (any_of HT_.out kr) ?_
                       refine pu 9 (some 82) #[F,T,T,T,F,F,T,T,T,T,F,F,F,F,F,F,F,F,F] (any_of HT_.out kr) ?_
                       refine pu 12 (some 85) #[F,T,T,T,F,F,T,T,T,T,F,F,T,F,F,F,F,F,F] (any_of HT_.out kr) ?_
                       refine tk2 4 (some 77) #[F,T,T,T,T,F,T,T,T,T,F,F,T,F,F,F,F,F,F] (take_ofW HT_.out HW_.out kr) ?_
                       refine tk2 10 (some 83) #[F,T,T,T,T,F,T,T,T,T,T,F,T,F,F,F,F,F,F] (take_ofW HT_.out HW_.out kr) ?_
                       refine one_ (i := 0) (N := some 73) #[T,T,T,T,T,F,T,T,T,T,T,F,T,F,F,F,F,F,F] rfl rfl (one_of HT_.out kr) (by decide) (fun K hK => ?_)
                       refine Kd.R_lit_step k61 _ 61 ?hg (N := 73) ?hd (xs := ([] : List (S61))) (inner := []) (ok := fun _ => True) (okp := fun _ => True) ?hr ?hp (fun _ hk => hk) trivial (Below.refl _ _) (Nat.le_refl _) (by simp) ?_; (case hd => rfl); (case hg => rfl); (case hr => first | (go_simp; done) | (go_simp; rfl)); (case hp => exact (Reps.none _ _))
                       intro v295 w77 ho78 hb hg_ hnew_
                       have HS0_ := (hb.cell (World.block_lt_of_cell? _ _ (hHeld.1))).trans (hHeld.1)
                       have HS1_ := (hb.cell (World.block_lt_of_cell? _ _ (hHeld.2))).trans (hHeld.2)
                       clear hg_ hnew_
                       (first | rw [← Ny294.out] at ho78 | (simp only [Int.reduceToNat] at ho78; rw [← Ny294.out] at ho78))
                       have n0_ := Aside0.mk (Kd.N_elder' (nz HO_7) (Kd.R_base ho78) hb)
                       have n1_ := Aside0.mk (Kd.V_elder' (vz HL297_0) (Kd.R_base ho78) hb)
                       have n2_ := Aside0.mk (Kd.V_elder' (vz HL301_0) (Kd.R_base ho78) hb)
                       have n3_ := Aside0.mk (Kd.R_lower (Kd.R_newM (M := fun k_ => (w.heap.size ≤ k_)) ho78 (keep_size (w := w) (g := g) (row := none) (by repeat (first | (with_reducible first | exact HK.out | apply KeepBut.set_ | apply keep_drewN | apply keep_drew | apply keep_alloc | refine keep_far ?_ GW254.out _) | exact HK.out))) (fun k_ h_ => h_)) (keep_size (w := w) (g := g) (row := none) (by repeat (first | (with_reducible first | exact HK.out | apply KeepBut.set_ | apply keep_drewN | apply keep_drew | apply keep_alloc | refine keep_far ?_ GW254.out _) | exact HK.out))))
                       have n4_ := Aside0.mk (blk_below (bz BK254) hb)
                       have n5_ := Aside0.mk (IsS73.below (by repeat (first | (with_reducible first | exact HI0.out | apply IsS73.alloc | apply IsS73.drewN | apply IsS73.drew | apply IsS73.set_1 | refine IsS73.far ?_ NB0_254.out _) | exact HI0.out)) hb)
                       have n6_ := Aside0.mk (Kd.C_below (by repeat (first | (with_reducible exact HR297_0.out) | (with_reducible refine Kd.C_alloc ?_ _) | (with_reducible refine Kd.C_drewN ?_ _) | (with_reducible refine Kd.C_drew ?_) | exact HR297_0.out)) hb)
                       have n7_ := Aside0.mk (Kd.C_below (by repeat (first | (with_reducible exact HR301_0.out) | (with_reducible refine Kd.C_alloc ?_ _) | (with_reducible refine Kd.C_drewN ?_ _) | (with_reducible refine Kd.C_drew ?_) | exact HR301_0.out)) hb)
                       have n8_ := Aside0.mk (KeepBut.trans (by repeat (first | (with_reducible first | exact HK.out | apply KeepBut.set_ | apply keep_drewN | apply keep_drew | apply keep_alloc | refine keep_far ?_ GW254.out _) | exact HK.out)) (KeepBut.of_below hb g none) (.inl rfl))
                       have n9_ := Aside0.mk (below_step (by repeat (first | (with_reducible first | exact HB.out | apply below_alloc | apply pw_below_drewN | apply below_drew1 | refine below_set ?_ (IsS73.ge HI0.out) | refine below_set ?_ GE254.out) | exact HB.out)) hb)
                       clear HO_7 HL297_0 HL301_0 BK254 HI0 HR297_0 HR301_0 HK HB
                       have HO_7 := n0_
                       have HL297_0 := n1_
                       have HL301_0 := n2_
                       have HO296 := n3_
                       have BK254 := n4_
                       have HI0 := n5_
                       have HR297_0 := n6_
                       have HR301_0 := n7_
                       have HK := n8_
                       have HB := n9_
                       clear n0_ n1_ n2_ n3_ n4_ n5_ n6_ n7_ n8_ n9_ hb ho78
                       refine hK.out _ _ ⟨HS0_, HS1_⟩ (fun hHeld => ?_)
                       clear hK K
                       refine norm_ (a' := ?_) ?_ ?_
                       rotate_left
                       ·show Act.put _ (some 73) _ = _
                        simp only [Act.put, List.setIfInBounds_toArray, List.set_cons_zero, List.set_cons_succ, i64_w, i32_w]
                        rfl
                       refine one_ (i := 5) (N := some 78) #[T,T,T,T,T,T,T,T,T,T,T,F,T,F,F,F,F,F,F] rfl rfl (one_of HT_.out kr) (by decide) (fun K hK => ?_)
                       refine Kd.R_append_rows_step k61 w.heap.size (by rfl) (.tmp 73) (.tmp 77) 26 61 (.agg #[(.int .i64 0), (.int .i64 0), (.int .i64 0)]) 24 rfl Try.underlying26 info61 rfl (by decide) (by omega) v295 y294 (rd_L5 x7_3 t292) _ _ _ (fun k_ => (w.heap.size ≤ k_)) (fun _ => False) rfl rfl ?aO ?aR (fun _ _ h => h) (fun _ h => h.elim) ?aF (Below.refl _ _) ?aS ?aL ?_
                       (case aR => repeat (first | exact (by repeat (first | (with_reducible exact HR297_0.out) | (with_reducible refine Kd.C_alloc ?_ _) | (with_reducible refine Kd.C_drewN ?_ _) | (with_reducible refine Kd.C_drew ?_) | exact HR297_0.out)) | (with_reducible refine Kd.C_alloc ?_ _) | (with_reducible refine Kd.C_drewN ?_ _) | (with_reducible refine Kd.C_drew ?_)))
                       (case aF => exact (fun k_ hk => (Nat.le_trans (keep_size (w := w) (g := g) (row := none) (by repeat (first | (with_reducible first | exact HK.out | apply KeepBut.set_ | apply keep_drewN | apply keep_drew | apply keep_alloc | refine keep_far ?_ GW254.out _) | exact HK.out))) hk)))
                       (case aO => exact (mR HO296))
                       (case aS => exact (keep_size (w := w) (g := g) (row := none) (by repeat (first | (with_reducible first | exact HK.out | apply KeepBut.set_ | apply keep_drewN | apply keep_drew | apply keep_alloc | refine keep_far ?_ GW254.out _) | exact HK.out))))
                       (case aL => have := LMc59.out; omega)
                       intro v299 w79 ho hb hg hat
                       (first | have HS0_ := cell_grown hg (hHeld.1) (by first | (rw [add_block]; exact (HO_7.out.1 _ rfl).2) | (show some (Addr.add _ _).block ≠ _; rw [add_block]; exact (HO_7.out.1 _ rfl).2) | exact (HO_7.out.1 _ rfl).2) | have HS0_ := cell_grown hg (cell_unalloc (hHeld.1) (by first | (rw [add_block]; exact Kd.N_lt HO_7.out _ rfl) | (show (Addr.add _ _).block < _; rw [add_block]; exact Kd.N_lt HO_7.out _ rfl) | exact Kd.N_lt HO_7.out _ rfl)) (by first | (rw [add_block]; exact (HO_7.out.1 _ rfl).2) | (show some (Addr.add _ _).block ≠ _; rw [add_block]; exact (HO_7.out.1 _ rfl).2) | exact (HO_7.out.1 _ rfl).2))
                       (first | have HS1_ := cell_grown hg (hHeld.2) (by first | (rw [add_block]; exact (HO_7.out.1 _ rfl).2) | (show some (Addr.add _ _).block ≠ _; rw [add_block]; exact (HO_7.out.1 _ rfl).2) | exact (HO_7.out.1 _ rfl).2) | have HS1_ := cell_grown hg (cell_unalloc (hHeld.2) (by first | (rw [add_block]; exact Kd.N_lt HO_7.out _ rfl) | (show (Addr.add _ _).block < _; rw [add_block]; exact Kd.N_lt HO_7.out _ rfl) | exact Kd.N_lt HO_7.out _ rfl)) (by first | (rw [add_block]; exact (HO_7.out.1 _ rfl).2) | (show some (Addr.add _ _).block ≠ _; rw [add_block]; exact (HO_7.out.1 _ rfl).2) | exact (HO_7.out.1 _ rfl).2))
                       rw [← Ny298.out] at ho
                       have n0_ := Aside0.mk (Kd.N_afterv (ok := (fun k_ => (w.heap.size ≤ k_) ∧ k_ ≠ gb254 ∧ k_ ≠ g)) (nz HO_7) hg hat)
                       have n1_ := Aside0.mk (blk_grown (bz BK254) hg (Kd.R_ne HO296.out BK254.out (by decide)))
                       have n2_ := Aside0.mk (IsS73.grown ((show IsS73 w0 _ g s0_0 t293 from by repeat (first | (with_reducible first | exact HI0.out | apply IsS73.alloc | apply IsS73.drewN | apply IsS73.drew | apply IsS73.set_1 | refine IsS73.far ?_ NB0_254.out _) | exact HI0.out))) hg (IsS73.own_ne HI0.out HO296.out (by decide)))
                       have n3_ := Aside0.mk (Kd.V_afterv (ok := (fun k_ => (w.heap.size ≤ k_) ∧ some k_ ≠ (.slice (some ad297) x7_3.length co74 : Value).ownBlock ∧ k_ ≠ gb254 ∧ k_ ≠ g)) (mV HL297_0) hg hat)
                       have n4_ := Aside0.mk (Kd.V_afterv (ok := (fun k_ => (w.heap.size ≤ k_) ∧ some k_ ≠ (.slice (some ad297) x7_3.length co74 : Value).ownBlock ∧ k_ ≠ gb254 ∧ k_ ≠ g)) (mV HL301_0) hg hat)
                       have n5_ := Aside0.mk (below_weaken (by repeat (first | (with_reducible first | exact HB.out | apply below_alloc | apply pw_below_drewN | apply below_drew1 | refine below_set ?_ (IsS73.ge HI0.out) | refine below_set ?_ GE254.out) | exact HB.out)) HL.out hb)
                       have n6_ := Aside0.mk (KeepBut.trans (by repeat (first | (with_reducible first | exact HK.out | apply KeepBut.set_ | apply keep_drewN | apply keep_drew | apply keep_alloc | refine keep_far ?_ GW254.out _) | exact HK.out)) (KeepBut.of_grown hg g) (Kd.R_base2 HO296.out))
                       have n7_ := Aside0.mk (ho)
                       clear HO_7 BK254 HI0 HL297_0 HL301_0 HB HK HO296
                       have HO_7 := n0_
                       have BK254 := n1_
                       have HI0 := n2_
                       have HL297_0 := n3_
                       have HL301_0 := n4_
                       have HB := n5_
                       have HK := n6_
                       have HO300 := n7_
                       clear n0_ n1_ n2_ n3_ n4_ n5_ n6_ n7_ ho hb hg hat
                       refine hK.out _ _ ⟨HS0_, HS1_⟩ (fun hHeld => ?_)
                       clear hK K
                       refine norm_ (a' := ?_) ?_ ?_
                       rotate_left
                       ·show Act.put _ (some 78) _ = _
                        simp only [Act.put, List.setIfInBounds_toArray, List.set_cons_zero, List.set_cons_succ, i64_w, i32_w]
                        rfl
                       refine one_ (i := 11) (N := some 84) #[T,T,T,T,T,T,T,T,T,T,T,T,T,F,F,F,F,F,F] rfl rfl (one_of HT_.out kr) (by decide) (fun K hK => ?_)
                       refine Kd.R_append_rows_step k61 w.heap.size (by rfl) (.tmp 78) (.tmp 83) 26 61 (.agg #[(.int .i64 0), (.int .i64 0), (.int .i64 0)]) 24 rfl Try.underlying26 info61 rfl (by decide) (by omega) v299 y298 (rd_L5 x7_3 (ji60)) _ _ _ (fun k_ => (w.heap.size ≤ k_)) (fun _ => False) rfl rfl ?aO ?aR (fun _ _ h => h) (fun _ h => h.elim) ?aF (Below.refl _ _) ?aS ?aL ?_
                       (case aR => repeat (first | exact ((Kd.V_reads' (vz HL301_0)).2.2) | (with_reducible refine Kd.C_alloc ?_ _) | (with_reducible refine Kd.C_drewN ?_ _) | (with_reducible refine Kd.C_drew ?_)))
                       (case aF => exact (fun k_ hk => (Nat.le_trans (keep_size (w := w) (g := g) (row := none) (by repeat (first | (with_reducible first | exact HK.out | apply KeepBut.set_ | apply keep_drewN | apply keep_drew | apply keep_alloc | refine keep_far ?_ GW254.out _) | exact HK.out))) hk)))
                       (case aO => exact (rz HO300))
                       (case aS => exact (keep_size (w := w) (g := g) (row := none) (by repeat (first | (with_reducible first | exact HK.out | apply KeepBut.set_ | apply keep_drewN | apply keep_drew | apply keep_alloc | refine keep_far ?_ GW254.out _) | exact HK.out))))
                       (case aL => have := LMc63.out; omega)
                       intro v303 w80 ho hb hg hat
                       (first | have HS0_ := cell_grown hg (hHeld.1) (by first | (rw [add_block]; exact (HO_7.out.1 _ rfl).2) | (show some (Addr.add _ _).block ≠ _; rw [add_block]; exact (HO_7.out.1 _ rfl).2) | exact (HO_7.out.1 _ rfl).2) | have HS0_ := cell_grown hg (cell_unalloc (hHeld.1) (by first | (rw [add_block]; exact Kd.N_lt HO_7.out _ rfl) | (show (Addr.add _ _).block < _; rw [add_block]; exact Kd.N_lt HO_7.out _ rfl) | exact Kd.N_lt HO_7.out _ rfl)) (by first | (rw [add_block]; exact (HO_7.out.1 _ rfl).2) | (show some (Addr.add _ _).block ≠ _; rw [add_block]; exact (HO_7.out.1 _ rfl).2) | exact (HO_7.out.1 _ rfl).2))
                       (first | have HS1_ := cell_grown hg (hHeld.2) (by first | (rw [add_block]; exact (HO_7.out.1 _ rfl).2) | (show some (Addr.add _ _).block ≠ _; rw [add_block]; exact (HO_7.out.1 _ rfl).2) | exact (HO_7.out.1 _ rfl).2) | have HS1_ := cell_grown hg (cell_unalloc (hHeld.2) (by first | (rw [add_block]; exact Kd.N_lt HO_7.out _ rfl) | (show (Addr.add _ _).block < _; rw [add_block]; exact Kd.N_lt HO_7.out _ rfl) | exact Kd.N_lt HO_7.out _ rfl)) (by first | (rw [add_block]; exact (HO_7.out.1 _ rfl).2) | (show some (Addr.add _ _).block ≠ _; rw [add_block]; exact (HO_7.out.1 _ rfl).2) | exact (HO_7.out.1 _ rfl).2))
                       rw [← Ny302.out] at ho
                       have n0_ := Aside0.mk (Kd.N_afterv (ok := (fun k_ => (w.heap.size ≤ k_) ∧ k_ ≠ gb254 ∧ k_ ≠ g)) (nz HO_7) hg hat)
                       have n1_ := Aside0.mk (blk_grown (bz BK254) hg (Kd.R_ne HO300.out BK254.out (by decide)))
                       have n2_ := Aside0.mk (IsS73.grown ((show IsS73 w0 _ g s0_0 t293 from by repeat (first | (with_reducible first | exact HI0.out | apply IsS73.alloc | apply IsS73.drewN | apply IsS73.drew | apply IsS73.set_1 | refine IsS73.far ?_ NB0_254.out _) | exact HI0.out))) hg (IsS73.own_ne HI0.out HO300.out (by decide)))
                       have n3_ := Aside0.mk (Kd.V_afterv (ok := (fun k_ => (w.heap.size ≤ k_) ∧ some k_ ≠ (.slice (some ad297) x7_3.length co74 : Value).ownBlock ∧ k_ ≠ gb254 ∧ k_ ≠ g)) (vz HL297_0) hg hat)
                       have n4_ := Aside0.mk (Kd.V_afterv (ok := (fun k_ => (w.heap.size ≤ k_) ∧ some k_ ≠ (.slice (some ad297) x7_3.length co74 : Value).ownBlock ∧ k_ ≠ gb254 ∧ k_ ≠ g)) (vz HL301_0) hg hat)
                       have n5_ := Aside0.mk (below_weaken (by repeat (first | (with_reducible first | exact HB.out | apply below_alloc | apply pw_below_drewN | apply below_drew1 | refine below_set ?_ (IsS73.ge HI0.out) | refine below_set ?_ GE254.out) | exact HB.out)) HL.out hb)
                       have n6_ := Aside0.mk (KeepBut.trans (by repeat (first | (with_reducible first | exact HK.out | apply KeepBut.set_ | apply keep_drewN | apply keep_drew | apply keep_alloc | refine keep_far ?_ GW254.out _) | exact HK.out)) (KeepBut.of_grown hg g) (Kd.R_base2 HO300.out))
                       have n7_ := Aside0.mk (ho)
                       clear HO_7 BK254 HI0 HL297_0 HL301_0 HB HK HO300
                       have HO_7 := n0_
                       have BK254 := n1_
                       have HI0 := n2_
                       have HL297_0 := n3_
                       have HL301_0 := n4_
                       have HB := n5_
                       have HK := n6_
                       have HO304 := n7_
                       clear n0_ n1_ n2_ n3_ n4_ n5_ n6_ n7_ ho hb hg hat
                       refine hK.out _ _ ⟨HS0_, HS1_⟩ (fun hHeld => ?_)
                       clear hK K
                       refine norm_ (a' := ?_) ?_ ?_
                       rotate_left
                       ·show Act.put _ (some 84) _ = _
                        simp only [Act.put, List.setIfInBounds_toArray, List.set_cons_zero, List.set_cons_succ, i64_w, i32_w]
                        rfl
                       refine one_ (i := 13) (N := some 86) #[T,T,T,T,T,T,T,T,T,T,T,T,T,T,F,F,F,F,F] rfl rfl (one_of HT_.out kr) (by decide) (fun K hK => ?_)
                       refine goes_ Try.func46 kr rfl #[.pointer (some ⟨g, 0, none⟩), .int .i64 2] (by rfl) rfl rfl lm ?_
                       with_reducible refine (spec_l20Rd_pick.calls k3 g s0_0 t293 2 t305 t306 w0 _ ?side1 ?side2 A64.out).mono ?_
                       (case side1 => repeat (first | (with_reducible first | exact HI0.out | apply IsS73.alloc | apply IsS73.drewN | apply IsS73.drew | apply IsS73.set_1 | refine IsS73.far ?_ NB0_254.out _) | exact HI0.out))
                       (case side2 => repeat (first | (with_reducible first | exact HB.out | apply below_alloc | apply pw_below_drewN | apply below_drew1 | refine below_set ?_ (IsS73.ge HI0.out) | refine below_set ?_ GE254.out) | exact HB.out))
                       rintro e w81 ⟨rfl, hi, hb, hk⟩
                       have HS0_ := keep_cell hk (hHeld.1) (by first | (rw [add_block]; exact Kd.own_blk (IsS73.own_neN HI0.out HO_7.out (by decide))) | (show (Addr.add _ _).block ≠ _; rw [add_block]; exact Kd.own_blk (IsS73.own_neN HI0.out HO_7.out (by decide))) | exact Kd.own_blk (IsS73.own_neN HI0.out HO_7.out (by decide)))
                       have HS1_ := keep_cell hk (hHeld.2) (by first | (rw [add_block]; exact Kd.own_blk (IsS73.own_neN HI0.out HO_7.out (by decide))) | (show (Addr.add _ _).block ≠ _; rw [add_block]; exact Kd.own_blk (IsS73.own_neN HI0.out HO_7.out (by decide))) | exact Kd.own_blk (IsS73.own_neN HI0.out HO_7.out (by decide)))
                       refine ⟨_, rfl, ?_⟩
                       have n0_ := Aside0.mk (Kd.N_mono (Kd.N_keep (Kd.N_mono (ok := fun k_ => ((((w.heap.size ≤ k_)) ∧ (k_ ≠ gb254 ∧ k_ ≠ g)) ∧ some k_ ≠ (v303 : Value).ownBlock)) (nz HO_7) (fun k_ hk_ => (⟨hk_, hk_.1.2.2⟩ : _ ∧ k_ ≠ g))) hk (fun _ h => h.2)) (fun _ h => h.1))
                       have n1_ := Aside0.mk (KeepBut.blk hk (bz BK254) NB254_0.out (by simp))
                       have n2_ := Aside0.mk (Kd.V_mono (Kd.V_keep (Kd.V_mono (ok := fun k_ => ((((w.heap.size ≤ k_)) ∧ (some k_ ≠ (.slice (some ad297) x7_3.length co74 : Value).ownBlock ∧ (k_ ≠ gb254 ∧ k_ ≠ g))) ∧ some k_ ≠ (v303 : Value).ownBlock)) (vz HL297_0) (fun k_ hk_ => (⟨hk_, hk_.1.2.2.2⟩ : _ ∧ k_ ≠ g))) hk (fun _ h => h.2)) (fun _ h => h.1))
                       have n3_ := Aside0.mk (Kd.V_mono (Kd.V_keep (Kd.V_mono (ok := fun k_ => ((((w.heap.size ≤ k_)) ∧ (some k_ ≠ (.slice (some ad297) x7_3.length co74 : Value).ownBlock ∧ (k_ ≠ gb254 ∧ k_ ≠ g))) ∧ some k_ ≠ (v303 : Value).ownBlock)) (vz HL301_0) (fun k_ hk_ => (⟨hk_, hk_.1.2.2.2⟩ : _ ∧ k_ ≠ g))) hk (fun _ h => h.2)) (fun _ h => h.1))
                       have n4_ := Aside0.mk (Kd.R_mono (Kd.R_keep (IsS73.apart (show IsS73 w0 _ g s0_0 t293 from by repeat (first | (with_reducible first | exact HI0.out | apply IsS73.alloc | apply IsS73.drewN | apply IsS73.drew | apply IsS73.set_1 | refine IsS73.far ?_ NB0_254.out _) | exact HI0.out)) (rz HO304) (by decide)) hk (fun _ h => h.2)) (fun _ h => h.1))
                       have n5_ := Aside0.mk (KeepBut.trans (by repeat (first | (with_reducible first | exact HK.out | apply KeepBut.set_ | apply keep_drewN | apply keep_drew | apply keep_alloc | refine keep_far ?_ GW254.out _) | exact HK.out)) hk (.inl rfl))
                       have n6_ := Aside0.mk (hb)
                       have n7_ := Aside0.mk (hi)
                       clear HO_7 BK254 HL297_0 HL301_0 HO304 HK HB HI0
                       have HO_7 := n0_
                       have BK254 := n1_
                       have HL297_0 := n2_
                       have HL301_0 := n3_
                       have HO304 := n4_
                       have HK := n5_
                       have HB := n6_
                       have HI0 := n7_
                       clear n0_ n1_ n2_ n3_ n4_ n5_ n6_ n7_
                       (try clear hb)
                       (try clear hb2)
                       (try clear hk)
                       (try clear hi)
                       refine hK.out _ _ ⟨HS0_, HS1_⟩ (fun hHeld => ?_)
                       clear hK K
                       refine norm_ (a' := ?_) ?_ ?_
                       rotate_left
                       ·show Act.put _ (some 86) _ = _
                        simp only [Act.put, List.setIfInBounds_toArray, List.set_cons_zero, List.set_cons_succ, i64_w, i32_w]
                        rfl
                       refine pu 14 (some 87) #[T,T,T,T,T,T,T,T,T,T,T,T,T,T,T,F,F,F,F] (any_of HT_.out kr) ?_
                       refine pu 15 (some 88) #[T,T,T,T,T,T,T,T,T,T,T,T,T,T,T,T,F,F,F] (any_of HT_.out kr) ?_
                       refine last_ (i := 16) (N := some 89) #[T,T,T,T,T,T,T,T,T,T,T,T,T,T,T,T,T,F,F] rfl rfl (one_of HT_.out kr) (by decide) (fun K hK => ?_)
                       refine value_ (w1 := ?_) (v := ?_) (by rfl) rfl ?_ ?_
                       rotate_left 2
                       ·go_simp
                        constructor
                        ·rfl
                        ·rfl
                       refine hK.out _ _ ?_
                       clear hK K
                       refine norm_ (a' := ?_) ?_ ?_
                       rotate_left
                       ·show Act.put _ (some 89) _ = _
                        simp only [Act.put, List.setIfInBounds_toArray, List.set_cons_zero, List.set_cons_succ, i64_w, i32_w]
                        rfl
                       refine one_ (i := 17) (N := some 90) #[T,T,T,T,T,T,T,T,T,T,T,T,T,T,T,T,T,T,F] rfl rfl (one_of HT_.out kr) (by decide) (fun K hK => ?_)
                       refine Kd.R_append_step k61 w.heap.size (by rfl) (.tmp 84) (.tmp 89) 26 61 (.agg #[(.int .i64 0), (.int .i64 0), (.int .i64 0)]) 24 rfl Try.underlying26 info61 rfl (by decide) (by omega) v303 y302 (⟨wrap64 (1 + t305), 0, 0⟩ : S61) [.int .i64 (wrap64 (1 + t305)), .int .i64 0, .int .i64 0] (fun k_ => (w.heap.size ≤ k_)) (fun _ => False) rfl rfl ?aP (fun _ hk => hk.elim) ?aF ?aO (Below.refl _ _) ?aS ?aL ?_
                       (case aP => exact k61_mkM _ _ _ (⟨wrap64 (1 + t305), 0, 0⟩ : S61))
                       (case aF => exact (fun k_ hk => (Nat.le_trans (keep_size (w := w) (g := g) (row := none) (by repeat (first | (with_reducible first | exact HK.out | apply KeepBut.set_ | apply keep_drewN | apply keep_drew | apply keep_alloc | refine keep_far ?_ GW254.out _) | exact HK.out))) hk)))
                       (case aO => exact (rz HO304))
                       (case aS => exact (keep_size (w := w) (g := g) (row := none) (by repeat (first | (with_reducible first | exact HK.out | apply KeepBut.set_ | apply keep_drewN | apply keep_drew | apply keep_alloc | refine keep_far ?_ GW254.out _) | exact HK.out))))
                       (case aL => have := LMc65.out; omega)
                       intro v308 w82 ho hb hg hat
                       (first | have HS0_ := cell_grown hg (hHeld.1) (by first | (rw [add_block]; exact (HO_7.out.1 _ rfl).2) | (show some (Addr.add _ _).block ≠ _; rw [add_block]; exact (HO_7.out.1 _ rfl).2) | exact (HO_7.out.1 _ rfl).2) | have HS0_ := cell_grown hg (cell_unalloc (hHeld.1) (by first | (rw [add_block]; exact Kd.N_lt HO_7.out _ rfl) | (show (Addr.add _ _).block < _; rw [add_block]; exact Kd.N_lt HO_7.out _ rfl) | exact Kd.N_lt HO_7.out _ rfl)) (by first | (rw [add_block]; exact (HO_7.out.1 _ rfl).2) | (show some (Addr.add _ _).block ≠ _; rw [add_block]; exact (HO_7.out.1 _ rfl).2) | exact (HO_7.out.1 _ rfl).2))
                       (first | have HS1_ := cell_grown hg (hHeld.2) (by first | (rw [add_block]; exact (HO_7.out.1 _ rfl).2) | (show some (Addr.add _ _).block ≠ _; rw [add_block]; exact (HO_7.out.1 _ rfl).2) | exact (HO_7.out.1 _ rfl).2) | have HS1_ := cell_grown hg (cell_unalloc (hHeld.2) (by first | (rw [add_block]; exact Kd.N_lt HO_7.out _ rfl) | (show (Addr.add _ _).block < _; rw [add_block]; exact Kd.N_lt HO_7.out _ rfl) | exact Kd.N_lt HO_7.out _ rfl)) (by first | (rw [add_block]; exact (HO_7.out.1 _ rfl).2) | (show some (Addr.add _ _).block ≠ _; rw [add_block]; exact (HO_7.out.1 _ rfl).2) | exact (HO_7.out.1 _ rfl).2))
                       rw [← Ny307.out] at ho
                       have n0_ := Aside0.mk (Kd.N_afterv (ok := (fun k_ => (w.heap.size ≤ k_) ∧ k_ ≠ gb254 ∧ k_ ≠ g)) (nz HO_7) hg hat)
                       have n1_ := Aside0.mk (blk_grown (bz BK254) hg (Kd.R_ne HO304.out BK254.out (by decide)))
                       have n2_ := Aside0.mk (IsS73.grown ((show IsS73 w0 _ g s0_0 t306 from by repeat (first | (with_reducible first | exact HI0.out | apply IsS73.alloc | apply IsS73.drewN | apply IsS73.drew | apply IsS73.set_1 | refine IsS73.far ?_ NB0_254.out _) | exact HI0.out))) hg (IsS73.own_ne HI0.out HO304.out (by decide)))
                       have n3_ := Aside0.mk (Kd.V_afterv (ok := (fun k_ => (w.heap.size ≤ k_) ∧ some k_ ≠ (.slice (some ad297) x7_3.length co74 : Value).ownBlock ∧ k_ ≠ gb254 ∧ k_ ≠ g)) (vz HL297_0) hg hat)
                       have n4_ := Aside0.mk (Kd.V_afterv (ok := (fun k_ => (w.heap.size ≤ k_) ∧ some k_ ≠ (.slice (some ad297) x7_3.length co74 : Value).ownBlock ∧ k_ ≠ gb254 ∧ k_ ≠ g)) (vz HL301_0) hg hat)
                       have n5_ := Aside0.mk (below_weaken (by repeat (first | (with_reducible first | exact HB.out | apply below_alloc | apply pw_below_drewN | apply below_drew1 | refine below_set ?_ (IsS73.ge HI0.out) | refine below_set ?_ GE254.out) | exact HB.out)) HL.out hb)
                       have n6_ := Aside0.mk (KeepBut.trans (by repeat (first | (with_reducible first | exact HK.out | apply KeepBut.set_ | apply keep_drewN | apply keep_drew | apply keep_alloc | refine keep_far ?_ GW254.out _) | exact HK.out)) (KeepBut.of_grown hg g) (Kd.R_base2 HO304.out))
                       have n7_ := Aside0.mk (ho)
                       clear HO_7 BK254 HI0 HL297_0 HL301_0 HB HK HO304
                       have HO_7 := n0_
                       have BK254 := n1_
                       have HI0 := n2_
                       have HL297_0 := n3_
                       have HL301_0 := n4_
                       have HB := n5_
                       have HK := n6_
                       have HO309 := n7_
                       clear n0_ n1_ n2_ n3_ n4_ n5_ n6_ n7_ ho hb hg hat
                       refine hK.out _ _ ⟨HS0_, HS1_⟩ (fun hHeld => ?_)
                       clear hK K
                       refine norm_ (a' := ?_) ?_ ?_
                       rotate_left
                       ·show Act.put _ (some 90) _ = _
                        simp only [Act.put, List.setIfInBounds_toArray, List.set_cons_zero, List.set_cons_succ, i64_w, i32_w]
                        rfl
                       refine pu 18 (some 11) #[T,T,T,T,T,T,T,T,T,T,T,T,T,T,T,T,T,T,T] (any_of HT_.out kr) ?_
                       refine done_ (done_of HT_.out kr) ?_
                       try go_wp2_with (first | ((with_reducible refine gate_dst (N := 91) rfl ?_); refine Kd.N_lit (Kd.slice 61 k61) _ 26 ?hg (N' := 91) ?hd (xs := ([] : List (List (S61)))) (inner := []) (ok := (fun k_ => (w.heap.size ≤ k_) ∧ some k_ ≠ (.slice (some ad297) x7_3.length co74 : Value).ownBlock ∧ some k_ ≠ (v308 : Value).ownBlock ∧ k_ ≠ gb254 ∧ k_ ≠ g)) (okp := (fun k_ => (w.heap.size ≤ k_) ∧ some k_ ≠ (.slice (some ad297) x7_3.length co74 : Value).ownBlock ∧ some k_ ≠ (v308 : Value).ownBlock ∧ k_ ≠ gb254 ∧ k_ ≠ g)) ?hr ?hp (fun _ hk => hk) ((show ∀ k_, w82.heap.size ≤ k_ → (fun k_ => (w.heap.size ≤ k_) ∧ some k_ ≠ (.slice (some ad297) x7_3.length co74 : Value).ownBlock ∧ some k_ ≠ (v308 : Value).ownBlock ∧ k_ ≠ gb254 ∧ k_ ≠ g) k_ from fun k_ hk => ⟨(Nat.le_trans (keep_size (w := w) (g := g) (row := none) (by repeat (first | (with_reducible first | exact HK.out | apply KeepBut.set_ | apply keep_drewN | apply keep_drew | apply keep_alloc | refine keep_far ?_ GW254.out _) | exact HK.out))) hk), Kd.fresh' (Kd.N_lt (nz HO_7)) k_ hk, Kd.fresh' (Kd.R_lt (rz HO309)) k_ hk, Kd.freshB (bz BK254) k_ hk, IsS73.fresh (by repeat (first | (with_reducible first | exact HI0.out | apply IsS73.alloc | apply IsS73.drewN | apply IsS73.drew | apply IsS73.set_1 | refine IsS73.far ?_ NB0_254.out _) | exact HI0.out)) k_ hk⟩) _ (Nat.le_refl _)) (Below.refl _ _) (Nat.le_refl _) (by simp) ?_; (case hd => rfl); (case hg => rfl); (case hr => first | (go_simp; done) | (go_simp; rfl)); (case hp => exact (Reps.none _ _)); intro v311 w83 ho84 hb hg_ hnew_; clear hg_ hnew_; (first | rw [← Ny310.out] at ho84 | (simp only [Int.reduceToNat] at ho84; rw [← Ny310.out] at ho84)); have n0_ := Aside0.mk (Kd.N_elder' (nz HO_7) (Kd.N_base ho84) hb); have n1_ := Aside0.mk (Kd.V_elder' (vz HL297_0) (Kd.N_base ho84) hb); have n2_ := Aside0.mk (Kd.V_elder' (vz HL301_0) (Kd.N_base ho84) hb); have n3_ := Aside0.mk (Kd.R_below (rz HO309) hb); have n4_ := Aside0.mk (Kd.N_lower ho84 (keep_size (w := w) (g := g) (row := none) (by repeat (first | (with_reducible first | exact HK.out | apply KeepBut.set_ | apply keep_drewN | apply keep_drew | apply keep_alloc | refine keep_far ?_ GW254.out _) | exact HK.out)))); have n5_ := Aside0.mk (blk_below (bz BK254) hb); have n6_ := Aside0.mk (IsS73.below (by repeat (first | (with_reducible first | exact HI0.out | apply IsS73.alloc | apply IsS73.drewN | apply IsS73.drew | apply IsS73.set_1 | refine IsS73.far ?_ NB0_254.out _) | exact HI0.out)) hb); have n7_ := Aside0.mk (KeepBut.trans (by repeat (first | (with_reducible first | exact HK.out | apply KeepBut.set_ | apply keep_drewN | apply keep_drew | apply keep_alloc | refine keep_far ?_ GW254.out _) | exact HK.out)) (KeepBut.of_below hb g none) (.inl rfl)); have n8_ := Aside0.mk (below_step (by repeat (first | (with_reducible first | exact HB.out | apply below_alloc | apply pw_below_drewN | apply below_drew1 | refine below_set ?_ (IsS73.ge HI0.out) | refine below_set ?_ GE254.out) | exact HB.out)) hb); clear HO_7 HL297_0 HL301_0 HO309 BK254 HI0 HK HB; have HO_7 := n0_; have HL297_0 := n1_; have HL301_0 := n2_; have HO309 := n3_; have HO312 := n4_; have BK254 := n5_; have HI0 := n6_; have HK := n7_; have HB := n8_; clear n0_ n1_ n2_ n3_ n4_ n5_ n6_ n7_ n8_ hb ho84; have q85 : (t292 : Int) ≤ ((x7_3.length : Int) : Int) := oda; obtain ⟨i085, hi085, _, hsz85, _⟩ := info_parts info26; have hroom85 : x7_3.length ≤ co74 := (Kd.N_reads' HO_7.out).2.1; have hC85 : Kd.F (Kd.slice 61 k61) _ _ (some ad297) x7_3.length x7_3 := (Kd.V_at (base := w.heap.size) (Kd.N_V HO_7.out)).2.2; have hcut85 := cut_to (P := Try.prog) 76 26 .i64 Try.underlying76 hi085 (some ad297) x7_3.length co74 t292 oda q85 hroom85; have hr85 := Kd.F_take (m := (t292 : Int).toNat) hC85 (by omega); have hy85 : y313.length = (t292 : Int).toNat := (by rw [Ny313.out, List.length_take]; omega); rw [← Ny313.out] at hr85; rw [← hy85] at hcut85; have HO317 := Aside0.mk (show Kd.V (Kd.slice 61 k61) 26 _ w.heap.size _ (.slice (some ad297) y313.length co74) y313 from Kd.V_mk (by omega) hr85); have HC317 := Aside0.mk (show y313.length ≤ co74 from by omega); clear hr85 hC85 hroom85 hi085 hsz85; have KY85 := Aside0.mk hy85; clear hy85; replace q85 := eq_true q85) | ((with_reducible refine gate_builtin (b := .append) (xs := #[.tmp 91, .tmp 94]) rfl ?_); at_builtin; refine Kd.N_append_rows (Kd.slice 61 k61) w.heap.size rfl (.tmp 91) (.tmp 94) 76 26 (.slice none 0 0) 24 rfl Try.underlying76 info26 rfl (by decide) (by omega) v311 y310 y313 _ _ _ (fun k_ => (w.heap.size ≤ k_) ∧ some k_ ≠ (v308 : Value).ownBlock ∧ k_ ≠ gb254 ∧ k_ ≠ g) (fun k_ => ((fun k_ => (w.heap.size ≤ k_) ∧ some k_ ≠ (v308 : Value).ownBlock ∧ k_ ≠ gb254 ∧ k_ ≠ g)) k_ ∧ some k_ ≠ (v311 : Value).ownBlock) rfl rfl ?aO ?aR (fun _ hk => hk) ?aF (Below.refl _ _) ?aS ?aL ?_; (case aR => exact (by skip; exact Kd.V_F (Kd.V_mono (ok' := (fun k_ => ((fun k_ => (w.heap.size ≤ k_) ∧ some k_ ≠ (v308 : Value).ownBlock ∧ k_ ≠ gb254 ∧ k_ ≠ g)) k_ ∧ some k_ ≠ (v311 : Value).ownBlock)) (HO317.out) (fun k_ hk => ⟨⟨hk.1.1.1, ⟨hk.1.2, ⟨hk.1.1.2.1, hk.1.1.2.2⟩⟩⟩, hk.2⟩)))); (case aF => exact (fun k_ hk => ⟨(Nat.le_trans (keep_size (w := w) (g := g) (row := none) (by repeat (first | (with_reducible first | exact HK.out | apply KeepBut.set_ | apply keep_drewN | apply keep_drew | apply keep_alloc | refine keep_far ?_ GW254.out _) | exact HK.out))) hk), Kd.fresh' (Kd.R_lt (rz HO309)) k_ hk, Kd.freshB (bz BK254) k_ hk, IsS73.fresh (by repeat (first | (with_reducible first | exact HI0.out | apply IsS73.alloc | apply IsS73.drewN | apply IsS73.drew | apply IsS73.set_1 | refine IsS73.far ?_ NB0_254.out _) | exact HI0.out)) k_ hk⟩)); (case aO => exact (mN HO312)); (case aS => exact (keep_size (w := w) (g := g) (row := none) (by repeat (first | (with_reducible first | exact HK.out | apply KeepBut.set_ | apply keep_drewN | apply keep_drew | apply keep_alloc | refine keep_far ?_ GW254.out _) | exact HK.out)))); (case aL => have := LMc68.out; omega); intro v319 w86 ho hb hg hat; rw [← Ny318.out] at ho; have n0_ := Aside0.mk (Kd.N_afterv (ok := (fun k_ => (w.heap.size ≤ k_) ∧ some k_ ≠ (v308 : Value).ownBlock ∧ k_ ≠ gb254 ∧ k_ ≠ g)) (mN HO_7) hg hat); have n1_ := Aside0.mk (blk_grown (bz BK254) hg (Kd.N_ne HO312.out BK254.out (by decide))); have n2_ := Aside0.mk (IsS73.grown ((show IsS73 w0 _ g s0_0 t306 from by repeat (first | (with_reducible first | exact HI0.out | apply IsS73.alloc | apply IsS73.drewN | apply IsS73.drew | apply IsS73.set_1 | refine IsS73.far ?_ NB0_254.out _) | exact HI0.out))) hg (IsS73.own_neN HI0.out HO312.out (by decide))); have n3_ := Aside0.mk (Kd.V_afterv (ok := (fun k_ => (w.heap.size ≤ k_) ∧ some k_ ≠ (.slice (some ad297) x7_3.length co74 : Value).ownBlock ∧ some k_ ≠ (v308 : Value).ownBlock ∧ k_ ≠ gb254 ∧ k_ ≠ g)) (mV HL297_0) hg hat); have n4_ := Aside0.mk (Kd.V_afterv (ok := (fun k_ => (w.heap.size ≤ k_) ∧ some k_ ≠ (.slice (some ad297) x7_3.length co74 : Value).ownBlock ∧ some k_ ≠ (v308 : Value).ownBlock ∧ k_ ≠ gb254 ∧ k_ ≠ g)) (mV HL301_0) hg hat); have n5_ := Aside0.mk (Kd.R_over' (rz HO309) (Kd.N_typed (nz HO312)) (by decide) hg); have n6_ := Aside0.mk (Kd.V_afterv (ok := (fun k_ => (w.heap.size ≤ k_) ∧ some k_ ≠ (v308 : Value).ownBlock ∧ k_ ≠ gb254 ∧ k_ ≠ g)) (mV HO317) hg hat); have n7_ := Aside0.mk (below_weaken (by repeat (first | (with_reducible first | exact HB.out | apply below_alloc | apply pw_below_drewN | apply below_drew1 | refine below_set ?_ (IsS73.ge HI0.out) | refine below_set ?_ GE254.out) | exact HB.out)) HL.out hb); have n8_ := Aside0.mk (KeepBut.trans (by repeat (first | (with_reducible first | exact HK.out | apply KeepBut.set_ | apply keep_drewN | apply keep_drew | apply keep_alloc | refine keep_far ?_ GW254.out _) | exact HK.out)) (KeepBut.of_grown hg g) (Kd.N_base2 HO312.out)); have n9_ := Aside0.mk (ho); clear HO_7 BK254 HI0 HL297_0 HL301_0 HO309 HO317 HB HK HO312; have HO_7 := n0_; have BK254 := n1_; have HI0 := n2_; have HL297_0 := n3_; have HL301_0 := n4_; have HO309 := n5_; have HO317 := n6_; have HB := n7_; have HK := n8_; have HO320 := n9_; clear n0_ n1_ n2_ n3_ n4_ n5_ n6_ n7_ n8_ n9_ ho hb hg hat; obtain ⟨Ao88, co88, eo88⟩ := Kd.R_slice HO309.out; subst eo88) | ((with_reducible refine gate_builtin (b := .append) (xs := #[.tmp 96, .tmp 98]) rfl ?_); at_builtin; refine Kd.N_append (Kd.slice 61 k61) w.heap.size rfl (.tmp 96) (.tmp 98) 76 26 (.slice none 0 0) 24 rfl Try.underlying76 info26 rfl (by decide) (by omega) v319 y318 y307 [.slice Ao88 y307.length co88] (fun k_ => (w.heap.size ≤ k_) ∧ k_ ≠ gb254 ∧ k_ ≠ g) (fun k_ => ((fun k_ => (w.heap.size ≤ k_) ∧ k_ ≠ gb254 ∧ k_ ≠ g)) k_ ∧ some k_ ≠ (v319 : Value).ownBlock) rfl rfl ?aP (fun _ hk => hk) ?aF ?aO (Below.refl _ _) ?aS ?aL ?_; (case aP => exact (Kd.FK_slice_mk (Kd.R_reads' (Kd.R_mono (ok' := (fun k_ => ((fun k_ => (w.heap.size ≤ k_) ∧ k_ ≠ gb254 ∧ k_ ≠ g)) k_ ∧ some k_ ≠ (v319 : Value).ownBlock)) (IsS73.apart HI0.out (Kd.R_types (Kd.R_apart' (HO309.out) (Kd.N_typed HO320.out) (by decide)) BK254.out (by decide)) (by decide)) (fun k_ hk => ⟨⟨hk.1.1.1, ⟨hk.1.2, hk.2⟩⟩, hk.1.1.2⟩))).2.1 (Kd.R_F (Kd.R_mono (ok' := (fun k_ => ((fun k_ => (w.heap.size ≤ k_) ∧ k_ ≠ gb254 ∧ k_ ≠ g)) k_ ∧ some k_ ≠ (v319 : Value).ownBlock)) (IsS73.apart HI0.out (Kd.R_types (Kd.R_apart' (HO309.out) (Kd.N_typed HO320.out) (by decide)) BK254.out (by decide)) (by decide)) (fun k_ hk => ⟨⟨hk.1.1.1, ⟨hk.1.2, hk.2⟩⟩, hk.1.1.2⟩))))); (case aF => exact (fun k_ hk => ⟨(Nat.le_trans (keep_size (w := w) (g := g) (row := none) (by repeat (first | (with_reducible first | exact HK.out | apply KeepBut.set_ | apply keep_drewN | apply keep_drew | apply keep_alloc | refine keep_far ?_ GW254.out _) | exact HK.out))) hk), Kd.freshB (bz BK254) k_ hk, IsS73.fresh (by repeat (first | (with_reducible first | exact HI0.out | apply IsS73.alloc | apply IsS73.drewN | apply IsS73.drew | apply IsS73.set_1 | refine IsS73.far ?_ NB0_254.out _) | exact HI0.out)) k_ hk⟩)); (case aO => exact (mN HO320)); (case aS => exact (keep_size (w := w) (g := g) (row := none) (by repeat (first | (with_reducible first | exact HK.out | apply KeepBut.set_ | apply keep_drewN | apply keep_drew | apply keep_alloc | refine keep_far ?_ GW254.out _) | exact HK.out)))); (case aL => have := LMc69.out; omega); intro v322 w87 ho hb hg hat; rw [← Ny321.out] at ho; have n0_ := Aside0.mk (Kd.N_afterv (ok := (fun k_ => (w.heap.size ≤ k_) ∧ some k_ ≠ (.slice Ao88 y307.length co88 : Value).ownBlock ∧ k_ ≠ gb254 ∧ k_ ≠ g)) (nz HO_7) hg hat); have n1_ := Aside0.mk (blk_grown (bz BK254) hg (Kd.N_ne HO320.out BK254.out (by decide))); have n2_ := Aside0.mk (IsS73.grown ((show IsS73 w0 _ g s0_0 t306 from by repeat (first | (with_reducible first | exact HI0.out | apply IsS73.alloc | apply IsS73.drewN | apply IsS73.drew | apply IsS73.set_1 | refine IsS73.far ?_ NB0_254.out _) | exact HI0.out))) hg (IsS73.own_neN HI0.out HO320.out (by decide))); have n3_ := Aside0.mk (Kd.V_afterv (ok := (fun k_ => (w.heap.size ≤ k_) ∧ some k_ ≠ (.slice (some ad297) x7_3.length co74 : Value).ownBlock ∧ some k_ ≠ (.slice Ao88 y307.length co88 : Value).ownBlock ∧ k_ ≠ gb254 ∧ k_ ≠ g)) (vz HL297_0) hg hat); have n4_ := Aside0.mk (Kd.V_afterv (ok := (fun k_ => (w.heap.size ≤ k_) ∧ some k_ ≠ (.slice (some ad297) x7_3.length co74 : Value).ownBlock ∧ some k_ ≠ (.slice Ao88 y307.length co88 : Value).ownBlock ∧ k_ ≠ gb254 ∧ k_ ≠ g)) (vz HL301_0) hg hat); have n5_ := Aside0.mk (Kd.V_afterv (ok := (fun k_ => (w.heap.size ≤ k_) ∧ some k_ ≠ (.slice Ao88 y307.length co88 : Value).ownBlock ∧ k_ ≠ gb254 ∧ k_ ≠ g)) (vz HO317) hg hat); have n6_ := Aside0.mk (below_weaken (by repeat (first | (with_reducible first | exact HB.out | apply below_alloc | apply pw_below_drewN | apply below_drew1 | refine below_set ?_ (IsS73.ge HI0.out) | refine below_set ?_ GE254.out) | exact HB.out)) HL.out hb); have n7_ := Aside0.mk (KeepBut.trans (by repeat (first | (with_reducible first | exact HK.out | apply KeepBut.set_ | apply keep_drewN | apply keep_drew | apply keep_alloc | refine keep_far ?_ GW254.out _) | exact HK.out)) (KeepBut.of_grown hg g) (Kd.N_base2 HO320.out)); have n8_ := Aside0.mk (ho); clear HO_7 BK254 HI0 HL297_0 HL301_0 HO317 HB HK HO320 HO309; have HO_7 := n0_; have BK254 := n1_; have HI0 := n2_; have HL297_0 := n3_; have HL301_0 := n4_; have HO317 := n5_; have HB := n6_; have HK := n7_; have HO323 := n8_; clear n0_ n1_ n2_ n3_ n4_ n5_ n6_ n7_ n8_ ho hb hg hat; have q89 : ((ji70) : Int) ≤ ((x7_3.length : Int) : Int) := oda; obtain ⟨i089, hi089, _, hsz89, _⟩ := info_parts info26; have hroom89 : x7_3.length ≤ co74 := (Kd.N_reads' HO_7.out).2.1; have hC89 : Kd.F (Kd.slice 61 k61) _ _ (some ad297) x7_3.length x7_3 := (Kd.V_at (base := w.heap.size) (Kd.N_V HO_7.out)).2.2; have q089 : (0 : Int) ≤ ((ji70) : Int) := oda; have hcut89 := cut_from (P := Try.prog) 76 26 .i64 Try.underlying76 hi089 1 hsz89 (some ad297) x7_3.length co74 (ji70) q089 q89; have hr89 := Kd.F_cut (m := ((ji70) : Int).toNat) (c := co74) hC89 (by omega) hroom89; obtain ⟨A89, hA89⟩ : ∃ Az_, Az_ = (if co74 = ((ji70) : Int).toNat then (some ad297) else ((some ad297) : Option Addr).map (·.add (((ji70) : Int).toNat * 1))) := ⟨_, rfl⟩; obtain ⟨c89, hc89⟩ : ∃ cz_, cz_ = co74 - ((ji70) : Int).toNat := ⟨_, rfl⟩; have hy89 : y324.length = x7_3.length - ((ji70) : Int).toNat := (by rw [Ny324.out, List.length_drop] <;> omega); rw [show (x7_3).drop ((ji70) : Int).toNat = y324 from Ny324.out.symm] at hr89; replace hr89 : Kd.F (Kd.slice 61 k61) _ _ A89 y324.length y324 := (by rw [hA89]; exact hr89); rw [← hy89, ← hA89, ← hc89] at hcut89; have HO328 := Aside0.mk (show Kd.V (Kd.slice 61 k61) 26 _ w.heap.size _ (.slice A89 y324.length c89) y324 from Kd.V_mk (by rw [hy89, hc89]; exact Nat.sub_le_sub_right hroom89 _) hr89); have HC328 := Aside0.mk (show y324.length ≤ c89 from by rw [hy89, hc89]; exact Nat.sub_le_sub_right hroom89 _); clear hr89 hC89 hroom89 hi089 hsz89 hc89; have KY89 := Aside0.mk hy89; have KA89 := Aside0.mk hA89; clear hy89 hA89; replace q89 := eq_true q89) | ((with_reducible refine gate_builtin (b := .append) (xs := #[.tmp 100, .tmp 104]) rfl ?_); at_builtin; refine Kd.N_append_rows (Kd.slice 61 k61) w.heap.size rfl (.tmp 100) (.tmp 104) 76 26 (.slice none 0 0) 24 rfl Try.underlying76 info26 rfl (by decide) (by omega) v322 y321 y324 _ _ _ (fun k_ => (w.heap.size ≤ k_) ∧ k_ ≠ gb254 ∧ k_ ≠ g) (fun k_ => ((fun k_ => (w.heap.size ≤ k_) ∧ k_ ≠ gb254 ∧ k_ ≠ g)) k_ ∧ some k_ ≠ (v322 : Value).ownBlock) rfl rfl ?aO ?aR (fun _ hk => hk) ?aF (Below.refl _ _) ?aS ?aL ?_; (case aR => exact (by skip; exact Kd.V_F (Kd.V_mono (ok' := (fun k_ => ((fun k_ => (w.heap.size ≤ k_) ∧ k_ ≠ gb254 ∧ k_ ≠ g)) k_ ∧ some k_ ≠ (v322 : Value).ownBlock)) (HO328.out) (fun k_ hk => ⟨⟨hk.1.1, ⟨hk.1.2.2.1, hk.1.2.2.2⟩⟩, hk.2⟩)))); (case aF => exact (fun k_ hk => ⟨(Nat.le_trans (keep_size (w := w) (g := g) (row := none) (by repeat (first | (with_reducible first | exact HK.out | apply KeepBut.set_ | apply keep_drewN | apply keep_drew | apply keep_alloc | refine keep_far ?_ GW254.out _) | exact HK.out))) hk), Kd.freshB (bz BK254) k_ hk, IsS73.fresh (by repeat (first | (with_reducible first | exact HI0.out | apply IsS73.alloc | apply IsS73.drewN | apply IsS73.drew | apply IsS73.set_1 | refine IsS73.far ?_ NB0_254.out _) | exact HI0.out)) k_ hk⟩)); (case aO => exact (nz HO323)); (case aS => exact (keep_size (w := w) (g := g) (row := none) (by repeat (first | (with_reducible first | exact HK.out | apply KeepBut.set_ | apply keep_drewN | apply keep_drew | apply keep_alloc | refine keep_far ?_ GW254.out _) | exact HK.out)))); (case aL => have := LMc73.out; omega); intro v330 w90 ho hb hg hat; rw [← Ny329.out] at ho; have n0_ := Aside0.mk (Kd.N_afterv (ok := (fun k_ => (w.heap.size ≤ k_) ∧ k_ ≠ gb254 ∧ k_ ≠ g)) (mN HO_7) hg hat); have n1_ := Aside0.mk (blk_grown (bz BK254) hg (Kd.N_ne HO323.out BK254.out (by decide))); have n2_ := Aside0.mk (IsS73.grown ((show IsS73 w0 _ g s0_0 t306 from by repeat (first | (with_reducible first | exact HI0.out | apply IsS73.alloc | apply IsS73.drewN | apply IsS73.drew | apply IsS73.set_1 | refine IsS73.far ?_ NB0_254.out _) | exact HI0.out))) hg (IsS73.own_neN HI0.out HO323.out (by decide))); have n3_ := Aside0.mk (Kd.V_afterv (ok := (fun k_ => (w.heap.size ≤ k_) ∧ some k_ ≠ (.slice (some ad297) x7_3.length co74 : Value).ownBlock ∧ k_ ≠ gb254 ∧ k_ ≠ g)) (mV HL297_0) hg hat); have n4_ := Aside0.mk (Kd.V_afterv (ok := (fun k_ => (w.heap.size ≤ k_) ∧ some k_ ≠ (.slice (some ad297) x7_3.length co74 : Value).ownBlock ∧ k_ ≠ gb254 ∧ k_ ≠ g)) (mV HL301_0) hg hat); have n5_ := Aside0.mk (Kd.V_afterv (ok := (fun k_ => (w.heap.size ≤ k_) ∧ k_ ≠ gb254 ∧ k_ ≠ g)) (mV HO317) hg hat); have n6_ := Aside0.mk (Kd.V_afterv (ok := (fun k_ => (w.heap.size ≤ k_) ∧ k_ ≠ gb254 ∧ k_ ≠ g)) (mV HO328) hg hat); have n7_ := Aside0.mk (below_weaken (by repeat (first | (with_reducible first | exact HB.out | apply below_alloc | apply pw_below_drewN | apply below_drew1 | refine below_set ?_ (IsS73.ge HI0.out) | refine below_set ?_ GE254.out) | exact HB.out)) HL.out hb); have n8_ := Aside0.mk (KeepBut.trans (by repeat (first | (with_reducible first | exact HK.out | apply KeepBut.set_ | apply keep_drewN | apply keep_drew | apply keep_alloc | refine keep_far ?_ GW254.out _) | exact HK.out)) (KeepBut.of_grown hg g) (Kd.N_base2 HO323.out)); have n9_ := Aside0.mk (ho); clear HO_7 BK254 HI0 HL297_0 HL301_0 HO317 HO328 HB HK HO323; have HO_7 := n0_; have BK254 := n1_; have HI0 := n2_; have HL297_0 := n3_; have HL301_0 := n4_; have HO317 := n5_; have HO328 := n6_; have HB := n7_; have HK := n8_; have HO331 := n9_; clear n0_ n1_ n2_ n3_ n4_ n5_ n6_ n7_ n8_ n9_ ho hb hg hat))
                       go_roundg k3
                       case measure => have := HJ3.out; have := HK2.out; have := HK3.out; omega
                       case rel => exact ⟨(y329), (t306), H', ⟨by have := HJ3.out; have := HK2.out; have := HK3.out; omega⟩, ⟨nz HO331⟩, ⟨bz BK254⟩, ⟨by repeat (first | (with_reducible first | exact HI0.out | apply IsS73.alloc | apply IsS73.drewN | apply IsS73.drew | apply IsS73.set_1 | refine IsS73.far ?_ NB0_254.out _) | exact HI0.out)⟩, ⟨by repeat (first | (with_reducible first | exact HK.out | apply KeepBut.set_ | apply keep_drewN | apply keep_drew | apply keep_alloc | refine keep_far ?_ GW254.out _) | exact HK.out)⟩, ⟨by repeat (first | (with_reducible first | exact HB.out | apply below_alloc | apply pw_below_drewN | apply below_drew1 | refine below_set ?_ (IsS73.ge HI0.out) | refine below_set ?_ GE254.out) | exact HB.out)⟩⟩
                      ·rw [if_neg c73] at H
                       exact absurd H (by simp)
                     ·rw [if_neg c72] at H
                      exact absurd H (by simp)
                    ·rw [if_neg c71] at H
                     exact absurd H (by simp)
                   ·rw [if_neg c69] at H
                    exact absurd H (by simp)
                  ·rw [if_neg c68] at H
                   exact absurd H (by simp)
                 ·rw [if_neg c67] at H
                  exact absurd H (by simp)
                ·rw [if_neg c65] at H
                 exact absurd H (by simp)
               ·rw [if_neg c63] at H
                exact absurd H (by simp)
              ·rw [if_neg c62] at H
               exact absurd H (by simp)
             ·rw [if_neg c61] at H
              exact absurd H (by simp)
            ·rw [if_neg c59] at H
             exact absurd H (by simp)
           ·rw [if_neg c58] at H
            exact absurd H (by simp)
          ·rw [if_neg c57] at H
           exact absurd H (by simp)
         ·rw [if_neg c55] at H
          have c55b0 : decide (1 < (x7_3.length : Int)) = false := decide_eq_false c55
          have c55b1 : decide (1 < x7_3.length) = false := decide_eq_false (by omega)
          clear c55
          by_cases c91 : 0 < (x7_3.length : Int)
          ·rw [if_pos c91] at H
           have c91b0 : decide (0 < (x7_3.length : Int)) = true := decide_eq_true c91
           have c91b1 : decide (0 < x7_3.length) = true := decide_eq_true (by omega)
           clear c91
           simp only [Option.some.injEq, Prod.mk.injEq] at H
           obtain ⟨rfl, rfl⟩ := H
           obtain ⟨Ao92, co92, eo92⟩ := Kd.N_slice HO_7.out
           subst eo92
           have p332 : 0 ≤ (0 : Int) := (by omega)
           have q332 : 0 < (x7_3.length : Int) := oda
           obtain ⟨ad332, A332_0, c332_0, e332, hx332_0, hl332_0, hi332_0⟩ := at_L5 (Kd.N_reads' HO_7.out).2.2 0 p332 q332
           cases e332
           obtain ⟨ce332, hce332, hMe332, hcc332⟩ := Kd.N_get HO_7.out [] 0 p332 (by first | exact q332 | exact oda | (have e_ := (Kd.N_reads' HO_7.out).1; omega))
           obtain ⟨ua332_0, uc332_0, rfl, ul332_0, ge332_0⟩ := Kd.FK_slice_open hMe332
           have hv332_0 := hcc332 0 _ rfl
           rw [Nat.add_zero, show ((Kd.slice 61 k61)).sz = 1 from rfl, Nat.mul_one] at hv332_0
           replace hv332_0 := Option.some.inj (hv332_0.symm.trans hx332_0)
           injection hv332_0 with hva_ hvn_ hvc_
           rw [hva_] at ge332_0
           rw [hvc_] at ul332_0
           have HL332_0 := Aside0.mk (show Kd.V k61 61 _ w.heap.size _ _ (rd_L5 x7_3 0) from Kd.V_mk ul332_0 ge332_0)
           clear hva_ hvn_ hvc_ ge332_0 ul332_0 hcc332 hce332
           have qi332 : (0 < x7_3.length) = True := eq_true (by omega)
           (try rw [show ((0 : Int)).toNat = 0 from rfl] at hx332_0)
           (try rw [Addr.add_zero'] at hx332_0)
           have HR332_0 := Aside0.mk hi332_0
           have HC332_0 := Aside0.mk hl332_0
           clear hi332_0 hl332_0
           replace p332 := eq_true p332
           replace q332 := eq_true q332
           go_wp2
           go_ret
           exact ⟨_, by first | rfl | (simp [errW_none, errW_some] <;> rfl) | (simp [*, errW_none, errW_some] <;> rfl), by (with_reducible repeat (first | apply Kd.V_alloc | apply Kd.V_drewN | apply Kd.V_drew)); exact Kd.V_mono HL332_0.out (fun _ hk => hk.1.1), by repeat (first | (with_reducible first | exact HI0.out | apply IsS73.alloc | apply IsS73.drewN | apply IsS73.drew | apply IsS73.set_1 | refine IsS73.far ?_ NB0_254.out _) | exact HI0.out), by repeat (first | (with_reducible first | exact HB.out | apply below_alloc | apply pw_below_drewN | apply below_drew1 | refine below_set ?_ (IsS73.ge HI0.out) | refine below_set ?_ GE254.out) | exact HB.out), by repeat (first | (with_reducible first | exact HK.out | apply KeepBut.set_ | apply keep_drewN | apply keep_drew | apply keep_alloc | refine keep_far ?_ GW254.out _) | exact HK.out)⟩
          ·rw [if_neg c91] at H
           exact absurd H (by simp)

end Go.Proofs.Ytaddlahbahedeaa.QFnClashOk
