-- Printed for this claim by a turned copy of the print (wip/myprint). Lean checks it. Squeezed. Worded. Tightened.
import Derived.Test.YtnpjlpkbefdnlaaQFnTwoHousesx0
import Derived.Test.YtnpjlpkbefdnlaaQFnTwoHousesx2
namespace Go.Proofs.Ytnpjlpkbefdnlaa.QFnTwoHouses
open Go.RowKit Go.Proofs.YtnpjlpkbefdnlaaW.PrintWords Go.Proofs.YtnpjlpkbefdnlaaW.PrintLast Go.Proofs.YtnpjlpkbefdnlaaW.PrintMore
attribute [local go_sem] max2_int min2_int max_two min_two max_three min_three max_four min_four Opens.cell_twice   -- for this text's walks alone
set_option linter.unusedVariables false
set_option linter.unusedSimpArgs false

/-! ### spec_l20Term: function 59 -/
mutual
def spec_l20Term.j0 : Nat → Bool → List Int → Int → Int → List Int → Option ((List (S78)) × Int)
 | 0, _, _, _, _, _ => none
 | k + 1, x21, x1000, x1001, x114000, x114001 => if x21 = true then ((some (([(([] : List (S78))), (([(⟨1, 0, 0⟩ : S78)] : List (S78))), (([(⟨0, 3, 7⟩ : S78)] : List (S78))), (([(⟨0, 0, 1⟩ : S78), (⟨0, 0, 1⟩ : S78)] : List (S78)))] : List (List (S78))) : List (List (S78)))).bind fun y128 => ((spec_l20Rd_pick.f k x1000 x1001 4).bind fun bt131 => (if 0 ≤ bt131.1 then (if bt131.1 < (y128.length : Int) then (some (rd_L3 y128 bt131.1, bt131.2)) else (none)) else (none)))) else ((spec_l20Rd_pick.f k x1000 x1001 4).bind fun bt137 => (spec_l20Term.l0 k (([] : List (List (S78)))) (wrap64 (1 + bt137.1)) x1000 bt137.2 x114000 x114001))
def spec_l20Term.l0 : Nat → List (List (S78)) → Int → List Int → Int → Int → List Int → Option ((List (S78)) × Int)
 | 0, _, _, _, _, _, _ => none
 | k + 1, x7, x8, x1000, x1001, x114000, x114001 => if x8 > 0 then ((spec_l20Rd_pick.f k x1000 x1001 (x114001.length : Int)).bind fun bt139 => (if 0 ≤ bt139.1 then (if bt139.1 < (x114001.length : Int) then ((spec_l1Heads.f k (mx (rd x114001 bt139.1) 0)).bind fun t142 => ((spec_l20Rd_pick.f k x1000 bt139.2 (mx t142 1)).bind fun bt143 => (if x7.length < 5864062014805 then (spec_l20Term.l0 k (x7 ++ [(([(⟨0, bt139.1, wrap64 (1 + bt143.1)⟩ : S78)] : List (S78)))]) (wrap64 (x8 - 1)) x1000 bt143.2 x114000 x114001) else (none)))) else (none)) else (none))) else (spec_l20Term.l1 k x7 x1000 x1001)
def spec_l20Term.l1 : Nat → List (List (S78)) → List Int → Int → Option ((List (S78)) × Int)
 | 0, _, _, _ => none
 | k + 1, x7, x1000, x1001 => if (x7.length : Int) > 1 then ((spec_l20Rd_pick.f k x1000 x1001 (wrap64 ((x7.length : Int) - 1))).bind fun bt151 => ((some (([] : List (S78)) : List (S78))).bind fun y153 => (if 0 ≤ bt151.1 then (if bt151.1 < (x7.length : Int) then (if y153.length + (rd_L3 x7 bt151.1).length < 5864062014805 then ((some (y153 ++ (rd_L3 x7 bt151.1) : List (S78))).bind fun y157 => (if 0 ≤ (wrap64 (bt151.1 + 1)) then (if (wrap64 (bt151.1 + 1)) < (x7.length : Int) then (if y157.length + (rd_L3 x7 (wrap64 (bt151.1 + 1))).length < 5864062014805 then ((some (y157 ++ (rd_L3 x7 (wrap64 (bt151.1 + 1))) : List (S78))).bind fun y161 => ((spec_l20Rd_pick.f k x1000 bt151.2 2).bind fun bt164 => (if y161.length < 5864062014805 then ((some (([] : List (List (S78))) : List (List (S78)))).bind fun y169 => (if bt151.1 ≤ (x7.length : Int) then ((some (x7.take (bt151.1 : Int).toNat : List (List (S78)))).bind fun y172 => (if y169.length + y172.length < 5864062014805 then ((some (y169 ++ y172 : List (List (S78)))).bind fun y177 => (if y177.length < 5864062014805 then ((some (y177 ++ [(y161 ++ [(⟨wrap64 (1 + bt164.1), 0, 0⟩ : S78)])] : List (List (S78)))).bind fun y180 => (if 0 ≤ (wrap64 (bt151.1 + 2)) then (if (wrap64 (bt151.1 + 2)) ≤ (x7.length : Int) then ((some (x7.drop ((wrap64 (bt151.1 + 2)) : Int).toNat : List (List (S78)))).bind fun y183 => (if y180.length + y183.length < 5864062014805 then (spec_l20Term.l1 k (y180 ++ y183) x1000 bt164.2) else (none))) else (none)) else (none))) else (none))) else (none))) else (none))) else (none)))) else (none)) else (none)) else (none))) else (none)) else (none)) else (none)))) else (if 0 < (x7.length : Int) then (some (rd_L3 x7 0, x1001)) else (none))
end
def spec_l20Term.f (k : Nat) (s0_0 : List Int) (s0_1 : Int) (a1_0 : Int) (l1_1 : List Int) (a2 : Int) : Option ((List (S78)) × Int) := if (l1_1.length : Int) = 0 then (spec_l20Term.j0 k true s0_0 s0_1 a1_0 l1_1) else ((spec_l20Rd_odd.f k s0_0 s0_1 a2).bind fun bt114 => (spec_l20Term.j0 k bt114.1 s0_0 bt114.2 a1_0 l1_1))
theorem spec_l20Term.mono_l : ∀ k, (∀ y0 y1 y2 y3 y4, LeO (spec_l20Term.j0 k y0 y1 y2 y3 y4) (spec_l20Term.j0 (k + 1) y0 y1 y2 y3 y4)) ∧ (∀ y0 y1 y2 y3 y4 y5, LeO (spec_l20Term.l0 k y0 y1 y2 y3 y4 y5) (spec_l20Term.l0 (k + 1) y0 y1 y2 y3 y4 y5)) ∧ (∀ y0 y1 y2, LeO (spec_l20Term.l1 k y0 y1 y2) (spec_l20Term.l1 (k + 1) y0 y1 y2))
 | 0 => ⟨fun _ _ _ _ _ r h => by simp [spec_l20Term.j0] at h, fun _ _ _ _ _ _ r h => by simp [spec_l20Term.l0] at h, fun _ _ _ r h => by simp [spec_l20Term.l1] at h⟩
 | k + 1 => by
  obtain ⟨ih0, ih1, ih2⟩ := spec_l20Term.mono_l k
  refine ⟨?_, ?_, ?_⟩
  ·intro y0 y1 y2 y3 y4
   unfold spec_l20Term.j0
   repeat' first
   | (with_reducible exact ih0 _ _ _ _ _)
   | (with_reducible exact ih1 _ _ _ _ _ _)
   | (with_reducible exact ih2 _ _ _)
   | (with_reducible exact spec_l1Heads.mono _ _)
   | (with_reducible exact spec_l20Rd_odd.mono _ _ _ _)
   | (with_reducible exact spec_l20Rd_pick.mono _ _ _ _)
   | (with_reducible exact LeO.refl _)
   | (with_reducible exact LeO.none _)
   | (with_reducible refine LeO.ite ?_ ?_)
   | (with_reducible refine LeO.bind ?_ (fun _ => ?_))
   | exact ih0 _ _ _ _ _
   | exact ih1 _ _ _ _ _ _
   | exact ih2 _ _ _
   | exact spec_l1Heads.mono _ _
   | exact spec_l20Rd_odd.mono _ _ _ _
   | exact spec_l20Rd_pick.mono _ _ _ _
   | exact LeO.none _
   | refine LeO.ite ?_ ?_
   | refine LeO.bind ?_ (fun _ => ?_)
  ·intro y0 y1 y2 y3 y4 y5
   unfold spec_l20Term.l0
   repeat' first
   | (with_reducible exact ih0 _ _ _ _ _)
   | (with_reducible exact ih1 _ _ _ _ _ _)
   | (with_reducible exact ih2 _ _ _)
   | (with_reducible exact spec_l1Heads.mono _ _)
   | (with_reducible exact spec_l20Rd_odd.mono _ _ _ _)
   | (with_reducible exact spec_l20Rd_pick.mono _ _ _ _)
   | (with_reducible exact LeO.refl _)
   | (with_reducible exact LeO.none _)
   | (with_reducible refine LeO.ite ?_ ?_)
   | (with_reducible refine LeO.bind ?_ (fun _ => ?_))
   | exact ih0 _ _ _ _ _
   | exact ih1 _ _ _ _ _ _
   | exact ih2 _ _ _
   | exact spec_l1Heads.mono _ _
   | exact spec_l20Rd_odd.mono _ _ _ _
   | exact spec_l20Rd_pick.mono _ _ _ _
   | exact LeO.none _
   | refine LeO.ite ?_ ?_
   | refine LeO.bind ?_ (fun _ => ?_)
  ·intro y0 y1 y2
   unfold spec_l20Term.l1
   repeat' first
   | (with_reducible exact ih0 _ _ _ _ _)
   | (with_reducible exact ih1 _ _ _ _ _ _)
   | (with_reducible exact ih2 _ _ _)
   | (with_reducible exact spec_l1Heads.mono _ _)
   | (with_reducible exact spec_l20Rd_odd.mono _ _ _ _)
   | (with_reducible exact spec_l20Rd_pick.mono _ _ _ _)
   | (with_reducible exact LeO.refl _)
   | (with_reducible exact LeO.none _)
   | (with_reducible refine LeO.ite ?_ ?_)
   | (with_reducible refine LeO.bind ?_ (fun _ => ?_))
   | exact ih0 _ _ _ _ _
   | exact ih1 _ _ _ _ _ _
   | exact ih2 _ _ _
   | exact spec_l1Heads.mono _ _
   | exact spec_l20Rd_odd.mono _ _ _ _
   | exact spec_l20Rd_pick.mono _ _ _ _
   | exact LeO.none _
   | refine LeO.ite ?_ ?_
   | refine LeO.bind ?_ (fun _ => ?_)
theorem spec_l20Term.mono : ∀ a0 a1 a2 a3 a4 k, LeO (spec_l20Term.f k a0 a1 a2 a3 a4) (spec_l20Term.f (k + 1) a0 a1 a2 a3 a4) := by
 intro a0 a1 a2 a3 a4 k
 obtain ⟨ih0, ih1, ih2⟩ := spec_l20Term.mono_l k
 unfold spec_l20Term.f
 repeat' first
   | (with_reducible exact ih0 _ _ _ _ _)
   | (with_reducible exact ih1 _ _ _ _ _ _)
   | (with_reducible exact ih2 _ _ _)
   | (with_reducible exact spec_l1Heads.mono _ _)
   | (with_reducible exact spec_l20Rd_odd.mono _ _ _ _)
   | (with_reducible exact spec_l20Rd_pick.mono _ _ _ _)
   | (with_reducible exact LeO.refl _)
   | (with_reducible exact LeO.none _)
   | (with_reducible refine LeO.ite ?_ ?_)
   | (with_reducible refine LeO.bind ?_ (fun _ => ?_))
   | exact ih0 _ _ _ _ _
   | exact ih1 _ _ _ _ _ _
   | exact ih2 _ _ _
   | exact spec_l1Heads.mono _ _
   | exact spec_l20Rd_odd.mono _ _ _ _
   | exact spec_l20Rd_pick.mono _ _ _ _
   | exact LeO.none _
   | refine LeO.ite ?_ ?_
   | refine LeO.bind ?_ (fun _ => ?_)
def spec_l20Term.T11 : Bool × List (List Nat × List Nat) := (true, [([], []), ([], []), ([], []), ([1, 2], [1, 2]), ([3], [3]), ([0, 4], [0, 4]), ([], []), ([], []), ([7], [7]), ([6, 8], [6, 8]), ([9], [9]), ([5, 10, 5], [5, 10]), ([], []), ([12, 11], [12]), ([13], [13]), ([14], [14]), ([15], [15]), ([11, 16, 13], [11, 16]), ([17, 17, 0, 1, 2, 3, 4, 5, 6, 7, 8, 9, 10, 11, 12, 13, 14, 15, 16, 17], [17])])
def spec_l20Term.B11 : List Nat := [0, 0, 0, 6, 14, 31, 0, 0, 128, 448, 960, 2047, 0, 8191, 16383, 32767, 65535, 131071, 262143]
theorem spec_l20Term.tab11 : rtab .any (opsOf Try.f59 11) = spec_l20Term.T11 := by kernel_rfl
theorem spec_l20Term.bits11 : waitsOk spec_l20Term.T11.2 spec_l20Term.B11 = true := by kernel_rfl
set_option maxHeartbeats 8000000 in
set_option maxRecDepth 100000 in
theorem spec_l20Term.calls (k : Nat) (g : Nat) (s0_0 : List Int) (s0_1 : Int) (a1_0 : Int) (A1_1 : Option Addr) (c1_1 : Nat) (l1_1 : List Int) (a2 : Int) (r1 : List (S78)) (r2 : Int) (w0 w : World) (hI : IsS95 w0 w g s0_0 s0_1) (hB : Below w0.heap.size w0 w) (hr1_1 : Kd.C (Kd.int .i64) w A1_1 l1_1.length l1_1) (hc1_1 : l1_1.length ≤ c1_1) (hf1_1 : ∀ ad, A1_1 = some ad → 0 < l1_1.length → ad.block ≠ g) (h : spec_l20Term.f k s0_0 s0_1 a1_0 l1_1 a2 = some (r1, r2)) :
  Calls Try.prog 59 #[.pointer (some ⟨g, 0, none⟩), .agg #[.int .i64 a1_0, .slice A1_1 l1_1.length c1_1], .int .i64 a2] w fun e w' => ∃ v0_ : Value, e = .returned (v0_) ∧ Kd.V k78 78 w' w.heap.size (fun k_ => (w.heap.size ≤ k_)) v0_ r1 ∧ IsS95 w0 w' g s0_0 r2 ∧ Below w0.heap.size w0 w' ∧ KeepBut w w' g none := by
 have hu25 := Try.underlying25
 have hu78 := Try.underlying78
 have HR1_1 := Aside0.mk hr1_1
 have HC1_1 := Aside0.mk hc1_1
 clear hr1_1 hc1_1
 have HI0 := Aside0.mk hI
 have HK := Aside0.mk (KeepBut.refl w g none)
 have HL := Aside0.mk hB.size
 clear hI
 have HW0 := Aside0.mk hB.size
 have HB := Aside0.mk hB
 clear hB
 have H : (if (l1_1.length : Int) = 0 then (spec_l20Term.j0 k true s0_0 s0_1 a1_0 l1_1) else ((spec_l20Rd_odd.f k s0_0 s0_1 a2).bind fun bt114 => (spec_l20Term.j0 k bt114.1 s0_0 bt114.2 a1_0 l1_1))) = some (r1, r2) := h
 clear h
 have HC4 := Aside0.mk H
 clear H
 go_enter Try.func59, Try.ntmps59
 go_upto_region 1 with (first | ((with_reducible refine gate_dst (N := 4) rfl ?_); refine box_event ?hg (N := 4) ?hd (cs := #[.int .i64 a1_0, .slice A1_1 l1_1.length c1_1]) (t := 25) ?hr ?_; (case hd => rfl); (case hg => rfl); (case hr => first | (go_simp; done) | (go_simp; rfl)); intro gb113 hg w5 hbox hb; have n0_ := Aside0.mk (IsS95.below (by repeat (first | (with_reducible first | exact HI0.out | apply IsS95.alloc | apply IsS95.drewN | apply IsS95.drew | apply IsS95.set_1) | exact HI0.out)) hb); have n1_ := Aside0.mk (KeepBut.trans (by repeat (first | (with_reducible first | exact HK.out | apply KeepBut.set_ | apply keep_drewN | apply keep_drew | apply keep_alloc) | exact HK.out)) (KeepBut.of_below hb g none) (.inl rfl)); have n2_ := Aside0.mk (below_step (by repeat (first | (with_reducible first | exact HB.out | apply below_alloc | apply pw_below_drewN | apply below_drew1 | refine below_set ?_ (IsS95.ge HI0.out)) | exact HB.out)) hb); have n3_ := Aside0.mk (hbox); have n4_ := Aside0.mk ((by rw [hg]; exact (keep_size (w := w) (g := g) (row := none) (by repeat (first | (with_reducible first | exact HK.out | apply KeepBut.set_ | apply keep_drewN | apply keep_drew | apply keep_alloc) | exact HK.out))) : w.heap.size ≤ gb113)); have n5_ := Aside0.mk ((Nat.le_trans HW0.out (by rw [hg]; exact (keep_size (w := w) (g := g) (row := none) (by repeat (first | (with_reducible first | exact HK.out | apply KeepBut.set_ | apply keep_drewN | apply keep_drew | apply keep_alloc) | exact HK.out))) : w.heap.size ≤ gb113) : w0.heap.size ≤ gb113)); have n6_ := Aside0.mk ((by rw [hg]; exact Nat.ne_of_lt (IsS95.lt (show IsS95 w0 _ g s0_0 s0_1 from by repeat (first | (with_reducible first | exact HI0.out | apply IsS95.alloc | apply IsS95.drewN | apply IsS95.drew | apply IsS95.set_1) | exact HI0.out))) : g ≠ gb113)); have n7_ := Aside0.mk ((by rw [hg]; exact Nat.ne_of_gt (IsS95.lt (show IsS95 w0 _ g s0_0 s0_1 from by repeat (first | (with_reducible first | exact HI0.out | apply IsS95.alloc | apply IsS95.drewN | apply IsS95.drew | apply IsS95.set_1) | exact HI0.out))) : gb113 ≠ g)); clear HI0 HK HB; have HI0 := n0_; have HK := n1_; have HB := n2_; have BK113 := n3_; have GW113 := n4_; have GE113 := n5_; have NB0_113 := n6_; have NB113_0 := n7_; clear n0_ n1_ n2_ n3_ n4_ n5_ n6_ n7_ hb hbox hg))
 (try simp only [Act.put, List.setIfInBounds_toArray, List.set_cons_zero, List.set_cons_succ])
 go_cut [21] (fun v21 wc => ∃ (kq : Nat) (x21_3 : Bool) (x1001_3 : Int), v21 = .bool x21_3 ∧ Aside0 (spec_l20Term.j0 kq x21_3 s0_0 x1001_3 a1_0 l1_1 = some (r1, r2)) ∧ Aside0 (kq ≤ k) ∧ Aside0 (wc.heap[gb113]? = some (.cells #[.int .i64 a1_0, (.slice A1_1 l1_1.length c1_1)] 25 (0, 0))) ∧ Aside0 (IsS95 w0 wc g s0_0 x1001_3) ∧ Aside0 (KeepBut w wc g none) ∧ Aside0 (Below w0.heap.size w0 wc))
 case first =>
  have H := HC4.out
  clear HC4
  by_cases c6 : (l1_1.length : Int) = 0
  ·rw [if_pos c6] at H
   have c6b0 : ((l1_1.length : Int) == 0) = true := beq_iff_eq.mpr c6
   have c6b1 : ((l1_1.length : Int) != 0) = false := bne_eq_false_iff_eq.mpr c6
   clear c6
   (first | rw [c6b0] | (simp only [i64_w, i32_w]; rw [c6b0]) | skip)
   have H' := Aside0.mk H
   clear H
   have hnb7 := NB113_0.out
   have hnc7 := NB0_113.out
   have hcz8_0 := cz0 BK113
   have hcz8_1 := cz1 BK113
   have hfz8_0 := blk_frozen BK113.out 0
   have hfz8_1 := blk_frozen BK113.out 1
   go_wp2
   go_meet
   case rel => exact ⟨_, (true), (s0_1), (by first | rfl | (simp; done) | (simp [*]; done)), H', ⟨by first | omega | exact Nat.le_refl _⟩, ⟨bz BK113⟩, ⟨by repeat (first | (with_reducible first | exact HI0.out | apply IsS95.alloc | apply IsS95.drewN | apply IsS95.drew | apply IsS95.set_1 | refine IsS95.far ?_ NB0_113.out _) | exact HI0.out)⟩, ⟨by repeat (first | (with_reducible first | exact HK.out | apply KeepBut.set_ | apply keep_drewN | apply keep_drew | apply keep_alloc | refine keep_far ?_ GW113.out _) | exact HK.out)⟩, ⟨by repeat (first | (with_reducible first | exact HB.out | apply below_alloc | apply pw_below_drewN | apply below_drew1 | refine below_set ?_ (IsS95.ge HI0.out) | refine below_set ?_ GE113.out) | exact HB.out)⟩⟩
  ·rw [if_neg c6] at H
   have c6b0 : ((l1_1.length : Int) == 0) = false := beq_eq_false_iff_ne.mpr c6
   have c6b1 : ((l1_1.length : Int) != 0) = true := bne_iff_ne.mpr c6
   have c6b2 : ¬ (l1_1 = []) := fun h_ => c6 (by rw [h_]; rfl)
   (first | rw [c6b0] | (simp only [i64_w, i32_w]; rw [c6b0]) | skip)
   replace H := Option.bind_eq_some_iff.mp H
   obtain ⟨⟨t114, t115⟩, A90, H⟩ := H
   replace H : (spec_l20Term.j0 k t114 s0_0 t115 a1_0 l1_1) = some (r1, r2) := H
   have A9 := Aside0.mk A90
   clear A90
   have H' := Aside0.mk H
   clear H
   have hnb10 := NB113_0.out
   have hnc10 := NB0_113.out
   have hcz11_0 := cz0 BK113
   have hcz11_1 := cz1 BK113
   have hfz11_0 := blk_frozen BK113.out 0
   have hfz11_1 := blk_frozen BK113.out 1
   go_wp2_with (first | (go_at_call 82; (with_reducible refine (spec_l20Rd_odd.calls k g s0_0 s0_1 a2 t114 t115 w0 _ ?side1 ?side2 A9.out).mono ?_); (case side1 => repeat (first | (with_reducible first | exact HI0.out | apply IsS95.alloc | apply IsS95.drewN | apply IsS95.drew | apply IsS95.set_1 | refine IsS95.far ?_ NB0_113.out _) | exact HI0.out)); (case side2 => repeat (first | (with_reducible first | exact HB.out | apply below_alloc | apply pw_below_drewN | apply below_drew1 | refine below_set ?_ (IsS95.ge HI0.out) | refine below_set ?_ GE113.out) | exact HB.out)); rintro e w12 ⟨rfl, hi, hb, hk⟩; have n0_ := Aside0.mk (KeepBut.blk hk (bz BK113) NB113_0.out (by simp)); have n1_ := Aside0.mk (KeepBut.trans (by repeat (first | (with_reducible first | exact HK.out | apply KeepBut.set_ | apply keep_drewN | apply keep_drew | apply keep_alloc | refine keep_far ?_ GW113.out _) | exact HK.out)) hk (.inl rfl)); have n2_ := Aside0.mk (hb); have n3_ := Aside0.mk (hi); clear BK113 HK HB HI0; have BK113 := n0_; have HK := n1_; have HB := n2_; have HI0 := n3_; clear n0_ n1_ n2_ n3_; (try clear hb); (try clear hb2); (try clear hk); (try clear hi)))
   go_meet
   case rel => exact ⟨_, (t114), (t115), (by first | rfl | (simp; done) | (simp [*]; done)), H', ⟨by first | omega | exact Nat.le_refl _⟩, ⟨bz BK113⟩, ⟨by repeat (first | (with_reducible first | exact HI0.out | apply IsS95.alloc | apply IsS95.drewN | apply IsS95.drew | apply IsS95.set_1 | refine IsS95.far ?_ NB0_113.out _) | exact HI0.out)⟩, ⟨by repeat (first | (with_reducible first | exact HK.out | apply KeepBut.set_ | apply keep_drewN | apply keep_drew | apply keep_alloc | refine keep_far ?_ GW113.out _) | exact HK.out)⟩, ⟨by repeat (first | (with_reducible first | exact HB.out | apply below_alloc | apply pw_below_drewN | apply below_drew1 | refine below_set ?_ (IsS95.ge HI0.out) | refine below_set ?_ GE113.out) | exact HB.out)⟩⟩
 case rest =>
  clear HC4
  try clear c1
  try clear p2
  try clear c5
  try clear c6
  try clear c6b0
  try clear c6b1
  try clear c6b2
  try clear c7
  try clear c10
  try clear hcz11_0
  try clear hcz11_1
  try clear hcz8_0
  try clear hcz8_1
  try clear hfz11_0
  try clear hfz11_1
  try clear hfz8_0
  try clear hfz8_1
  obtain ⟨kq, x21_3, x1001_3, rfl, HA, HJ3, BK113, HI0, HK, HB⟩ := hcut
  cases kq with
  | zero => exact absurd HA.out (by simp [spec_l20Term.j0])
  | succ kj3 =>
   have H := HA.out
   clear HA
   simp only [spec_l20Term.j0] at H
   by_cases c13 : x21_3 = true
   ·subst c13
    have H1 : ((some (([(([] : List (S78))), (([(⟨1, 0, 0⟩ : S78)] : List (S78))), (([(⟨0, 3, 7⟩ : S78)] : List (S78))), (([(⟨0, 0, 1⟩ : S78), (⟨0, 0, 1⟩ : S78)] : List (S78)))] : List (List (S78))) : List (List (S78)))).bind fun y128 => ((spec_l20Rd_pick.f kj3 s0_0 x1001_3 4).bind fun bt131 => (if 0 ≤ bt131.1 then (if bt131.1 < (y128.length : Int) then (some (rd_L3 y128 bt131.1, bt131.2)) else (none)) else (none)))) = some (r1, r2) := by rw [if_pos rfl] at H; exact H
    clear H
    have H := H1
    clear H1
    obtain ⟨y116, hy116⟩ : ∃ y_ : List (S78), y_ = (([] : List (S78))) := ⟨_, rfl⟩
    replace H : ((some (([y116, (([(⟨1, 0, 0⟩ : S78)] : List (S78))), (([(⟨0, 3, 7⟩ : S78)] : List (S78))), (([(⟨0, 0, 1⟩ : S78), (⟨0, 0, 1⟩ : S78)] : List (S78)))] : List (List (S78))) : List (List (S78)))).bind fun y128 => ((spec_l20Rd_pick.f kj3 s0_0 x1001_3 4).bind fun bt131 => (if 0 ≤ bt131.1 then (if bt131.1 < (y128.length : Int) then (some (rd_L3 y128 bt131.1, bt131.2)) else (none)) else (none)))) = some (r1, r2) := by first | (rw [hy116]; with_reducible exact H) | (have H2_ := (Option.bind_some _ _).symm.trans H; rw [hy116]; with_reducible exact H2_) | (have H2_ := (Option.bind_some _ _).symm.trans H; with_reducible exact H2_) | with_reducible exact H | (rw [hy116]; exact H) | exact H
    have Ny116 := Aside0.mk hy116
    clear hy116
    obtain ⟨y119, hy119⟩ : ∃ y_ : List (S78), y_ = (([(⟨1, 0, 0⟩ : S78)] : List (S78))) := ⟨_, rfl⟩
    replace H : ((some (([y116, y119, (([(⟨0, 3, 7⟩ : S78)] : List (S78))), (([(⟨0, 0, 1⟩ : S78), (⟨0, 0, 1⟩ : S78)] : List (S78)))] : List (List (S78))) : List (List (S78)))).bind fun y128 => ((spec_l20Rd_pick.f kj3 s0_0 x1001_3 4).bind fun bt131 => (if 0 ≤ bt131.1 then (if bt131.1 < (y128.length : Int) then (some (rd_L3 y128 bt131.1, bt131.2)) else (none)) else (none)))) = some (r1, r2) := by first | (rw [hy119]; with_reducible exact H) | (have H2_ := (Option.bind_some _ _).symm.trans H; rw [hy119]; with_reducible exact H2_) | (have H2_ := (Option.bind_some _ _).symm.trans H; with_reducible exact H2_) | with_reducible exact H | (rw [hy119]; exact H) | exact H
    have Ny119 := Aside0.mk hy119
    clear hy119
    obtain ⟨y122, hy122⟩ : ∃ y_ : List (S78), y_ = (([(⟨0, 3, 7⟩ : S78)] : List (S78))) := ⟨_, rfl⟩
    replace H : ((some (([y116, y119, y122, (([(⟨0, 0, 1⟩ : S78), (⟨0, 0, 1⟩ : S78)] : List (S78)))] : List (List (S78))) : List (List (S78)))).bind fun y128 => ((spec_l20Rd_pick.f kj3 s0_0 x1001_3 4).bind fun bt131 => (if 0 ≤ bt131.1 then (if bt131.1 < (y128.length : Int) then (some (rd_L3 y128 bt131.1, bt131.2)) else (none)) else (none)))) = some (r1, r2) := by first | (rw [hy122]; with_reducible exact H) | (have H2_ := (Option.bind_some _ _).symm.trans H; rw [hy122]; with_reducible exact H2_) | (have H2_ := (Option.bind_some _ _).symm.trans H; with_reducible exact H2_) | with_reducible exact H | (rw [hy122]; exact H) | exact H
    have Ny122 := Aside0.mk hy122
    clear hy122
    obtain ⟨y125, hy125⟩ : ∃ y_ : List (S78), y_ = (([(⟨0, 0, 1⟩ : S78), (⟨0, 0, 1⟩ : S78)] : List (S78))) := ⟨_, rfl⟩
    replace H : ((some (([y116, y119, y122, y125] : List (List (S78))) : List (List (S78)))).bind fun y128 => ((spec_l20Rd_pick.f kj3 s0_0 x1001_3 4).bind fun bt131 => (if 0 ≤ bt131.1 then (if bt131.1 < (y128.length : Int) then (some (rd_L3 y128 bt131.1, bt131.2)) else (none)) else (none)))) = some (r1, r2) := by first | (rw [hy125]; with_reducible exact H) | (have H2_ := (Option.bind_some _ _).symm.trans H; rw [hy125]; with_reducible exact H2_) | (have H2_ := (Option.bind_some _ _).symm.trans H; with_reducible exact H2_) | with_reducible exact H | (rw [hy125]; exact H) | exact H
    have Ny125 := Aside0.mk hy125
    clear hy125
    obtain ⟨y128, hy128⟩ : ∃ y_ : List (List (S78)), y_ = (([y116, y119, y122, y125] : List (List (S78)))) := ⟨_, rfl⟩
    replace H : ((spec_l20Rd_pick.f kj3 s0_0 x1001_3 4).bind fun bt131 => (if 0 ≤ bt131.1 then (if bt131.1 < (y128.length : Int) then (some (rd_L3 y128 bt131.1, bt131.2)) else (none)) else (none))) = some (r1, r2) := by first | (rw [hy128]; with_reducible exact H) | (have H2_ := (Option.bind_some _ _).symm.trans H; rw [hy128]; with_reducible exact H2_) | (have H2_ := (Option.bind_some _ _).symm.trans H; with_reducible exact H2_) | with_reducible exact H | (rw [hy128]; exact H) | exact H
    have Ny128 := Aside0.mk hy128
    clear hy128
    replace H := Option.bind_eq_some_iff.mp H
    obtain ⟨⟨t131, t132⟩, A140, H⟩ := H
    replace H : (if 0 ≤ t131 then (if t131 < (y128.length : Int) then (some (rd_L3 y128 t131, t132)) else (none)) else (none)) = some (r1, r2) := H
    have A14 := Aside0.mk A140
    clear A140
    by_cases c15 : 0 ≤ t131
    ·rw [if_pos c15] at H
     have c15b0 : decide (0 ≤ t131) = true := decide_eq_true c15
     clear c15
     by_cases c16 : t131 < (y128.length : Int)
     ·rw [if_pos c16] at H
      have c16b0 : decide (t131 < (y128.length : Int)) = true := decide_eq_true c16
      clear c16
      simp only [Option.some.injEq, Prod.mk.injEq] at H
      obtain ⟨rfl, rfl⟩ := H
      go_wp2_with (first | ((with_reducible refine gate_dst (N := 22) rfl ?_); refine Kd.R_lit k78 _ 78 ?hg (N := 22) ?hd (xs := ([] : List (S78))) (inner := []) (ok := fun _ => True) (okp := fun _ => True) ?hr ?hp (fun _ hk => hk) trivial (Below.refl _ _) (Nat.le_refl _) (by simp) ?_; (case hd => rfl); (case hg => rfl); (case hr => first | (go_simp; done) | (go_simp; rfl)); (case hp => exact (Reps.none _ _)); intro v117 w17 ho18 hb hg_ hnew_; clear hg_ hnew_; (first | rw [← Ny116.out] at ho18 | (simp only [Int.reduceToNat] at ho18; rw [← Ny116.out] at ho18)); have n0_ := Aside0.mk (Kd.R_lower (Kd.R_newM (M := fun k_ => (w.heap.size ≤ k_)) ho18 (keep_size (w := w) (g := g) (row := none) (by repeat (first | (with_reducible first | exact HK.out | apply KeepBut.set_ | apply keep_drewN | apply keep_drew | apply keep_alloc | refine keep_far ?_ GW113.out _) | exact HK.out))) (fun k_ h_ => h_)) (keep_size (w := w) (g := g) (row := none) (by repeat (first | (with_reducible first | exact HK.out | apply KeepBut.set_ | apply keep_drewN | apply keep_drew | apply keep_alloc | refine keep_far ?_ GW113.out _) | exact HK.out)))); have n1_ := Aside0.mk (blk_below (bz BK113) hb); have n2_ := Aside0.mk (IsS95.below (by repeat (first | (with_reducible first | exact HI0.out | apply IsS95.alloc | apply IsS95.drewN | apply IsS95.drew | apply IsS95.set_1 | refine IsS95.far ?_ NB0_113.out _) | exact HI0.out)) hb); have n3_ := Aside0.mk (KeepBut.trans (by repeat (first | (with_reducible first | exact HK.out | apply KeepBut.set_ | apply keep_drewN | apply keep_drew | apply keep_alloc | refine keep_far ?_ GW113.out _) | exact HK.out)) (KeepBut.of_below hb g none) (.inl rfl)); have n4_ := Aside0.mk (below_step (by repeat (first | (with_reducible first | exact HB.out | apply below_alloc | apply pw_below_drewN | apply below_drew1 | refine below_set ?_ (IsS95.ge HI0.out) | refine below_set ?_ GE113.out) | exact HB.out)) hb); clear BK113 HI0 HK HB; have HO118 := n0_; have BK113 := n1_; have HI0 := n2_; have HK := n3_; have HB := n4_; clear n0_ n1_ n2_ n3_ n4_ hb ho18) | ((with_reducible refine gate_dst (N := 24) rfl ?_); refine Kd.R_lit k78 _ 78 ?hg (N := 24) ?hd (xs := ([(⟨1, 0, 0⟩ : S78)] : List (S78))) (inner := [.int .i64 1, .int .i64 0, .int .i64 0]) (ok := fun _ => True) (okp := fun _ => True) ?hr ?hp (fun _ hk => hk) trivial (Below.refl _ _) (Nat.le_refl _) (by simp) ?_; (case hd => rfl); (case hg => rfl); (case hr => first | (go_simp; done) | (go_simp; rfl)); (case hp => exact (Reps.c3 (show Kd.M k78 _ _ _ (⟨1, 0, 0⟩ : S78) [.int .i64 1, .int .i64 0, .int .i64 0] from (k78_mkM _ _ _ (⟨1, 0, 0⟩ : S78) )) (Reps.none _ _))); intro v120 w19 ho20 hb hg_ hnew_; clear hg_ hnew_; (first | rw [← Ny119.out] at ho20 | (simp only [Int.reduceToNat] at ho20; rw [← Ny119.out] at ho20)); have n0_ := Aside0.mk (Kd.R_elder' (rz HO118) (Kd.R_base ho20) hb); have n1_ := Aside0.mk (Kd.R_lower (Kd.R_new' (Kd.R_newM (M := fun k_ => (w.heap.size ≤ k_)) ho20 (keep_size (w := w) (g := g) (row := none) (by repeat (first | (with_reducible first | exact HK.out | apply KeepBut.set_ | apply keep_drewN | apply keep_drew | apply keep_alloc | refine keep_far ?_ GW113.out _) | exact HK.out))) (fun k_ h_ => h_)) (Kd.R_lt (rz HO118))) (keep_size (w := w) (g := g) (row := none) (by repeat (first | (with_reducible first | exact HK.out | apply KeepBut.set_ | apply keep_drewN | apply keep_drew | apply keep_alloc | refine keep_far ?_ GW113.out _) | exact HK.out)))); have n2_ := Aside0.mk (blk_below (bz BK113) hb); have n3_ := Aside0.mk (IsS95.below (by repeat (first | (with_reducible first | exact HI0.out | apply IsS95.alloc | apply IsS95.drewN | apply IsS95.drew | apply IsS95.set_1 | refine IsS95.far ?_ NB0_113.out _) | exact HI0.out)) hb); have n4_ := Aside0.mk (KeepBut.trans (by repeat (first | (with_reducible first | exact HK.out | apply KeepBut.set_ | apply keep_drewN | apply keep_drew | apply keep_alloc | refine keep_far ?_ GW113.out _) | exact HK.out)) (KeepBut.of_below hb g none) (.inl rfl)); have n5_ := Aside0.mk (below_step (by repeat (first | (with_reducible first | exact HB.out | apply below_alloc | apply pw_below_drewN | apply below_drew1 | refine below_set ?_ (IsS95.ge HI0.out) | refine below_set ?_ GE113.out) | exact HB.out)) hb); clear HO118 BK113 HI0 HK HB; have HO118 := n0_; have HO121 := n1_; have BK113 := n2_; have HI0 := n3_; have HK := n4_; have HB := n5_; clear n0_ n1_ n2_ n3_ n4_ n5_ hb ho20) | ((with_reducible refine gate_dst (N := 26) rfl ?_); refine Kd.R_lit k78 _ 78 ?hg (N := 26) ?hd (xs := ([(⟨0, 3, 7⟩ : S78)] : List (S78))) (inner := [.int .i64 0, .int .i64 3, .int .i64 7]) (ok := fun _ => True) (okp := fun _ => True) ?hr ?hp (fun _ hk => hk) trivial (Below.refl _ _) (Nat.le_refl _) (by simp) ?_; (case hd => rfl); (case hg => rfl); (case hr => first | (go_simp; done) | (go_simp; rfl)); (case hp => exact (Reps.c3 (show Kd.M k78 _ _ _ (⟨0, 3, 7⟩ : S78) [.int .i64 0, .int .i64 3, .int .i64 7] from (k78_mkM _ _ _ (⟨0, 3, 7⟩ : S78) )) (Reps.none _ _))); intro v123 w21 ho22 hb hg_ hnew_; clear hg_ hnew_; (first | rw [← Ny122.out] at ho22 | (simp only [Int.reduceToNat] at ho22; rw [← Ny122.out] at ho22)); have n0_ := Aside0.mk (Kd.R_elder' (rz HO118) (Kd.R_base ho22) hb); have n1_ := Aside0.mk (Kd.R_elder' (rz HO121) (Kd.R_base ho22) hb); have n2_ := Aside0.mk (Kd.R_lower (Kd.R_new' (Kd.R_new' (Kd.R_newM (M := fun k_ => (w.heap.size ≤ k_)) ho22 (keep_size (w := w) (g := g) (row := none) (by repeat (first | (with_reducible first | exact HK.out | apply KeepBut.set_ | apply keep_drewN | apply keep_drew | apply keep_alloc | refine keep_far ?_ GW113.out _) | exact HK.out))) (fun k_ h_ => h_)) (Kd.R_lt (rz HO118))) (Kd.R_lt (rz HO121))) (keep_size (w := w) (g := g) (row := none) (by repeat (first | (with_reducible first | exact HK.out | apply KeepBut.set_ | apply keep_drewN | apply keep_drew | apply keep_alloc | refine keep_far ?_ GW113.out _) | exact HK.out)))); have n3_ := Aside0.mk (blk_below (bz BK113) hb); have n4_ := Aside0.mk (IsS95.below (by repeat (first | (with_reducible first | exact HI0.out | apply IsS95.alloc | apply IsS95.drewN | apply IsS95.drew | apply IsS95.set_1 | refine IsS95.far ?_ NB0_113.out _) | exact HI0.out)) hb); have n5_ := Aside0.mk (KeepBut.trans (by repeat (first | (with_reducible first | exact HK.out | apply KeepBut.set_ | apply keep_drewN | apply keep_drew | apply keep_alloc | refine keep_far ?_ GW113.out _) | exact HK.out)) (KeepBut.of_below hb g none) (.inl rfl)); have n6_ := Aside0.mk (below_step (by repeat (first | (with_reducible first | exact HB.out | apply below_alloc | apply pw_below_drewN | apply below_drew1 | refine below_set ?_ (IsS95.ge HI0.out) | refine below_set ?_ GE113.out) | exact HB.out)) hb); clear HO118 HO121 BK113 HI0 HK HB; have HO118 := n0_; have HO121 := n1_; have HO124 := n2_; have BK113 := n3_; have HI0 := n4_; have HK := n5_; have HB := n6_; clear n0_ n1_ n2_ n3_ n4_ n5_ n6_ hb ho22) | ((with_reducible refine gate_dst (N := 29) rfl ?_); refine Kd.R_lit k78 _ 78 ?hg (N := 29) ?hd (xs := ([(⟨0, 0, 1⟩ : S78), (⟨0, 0, 1⟩ : S78)] : List (S78))) (inner := [.int .i64 0, .int .i64 0, .int .i64 1, .int .i64 0, .int .i64 0, .int .i64 1]) (ok := fun _ => True) (okp := fun _ => True) ?hr ?hp (fun _ hk => hk) trivial (Below.refl _ _) (Nat.le_refl _) (by simp) ?_; (case hd => rfl); (case hg => rfl); (case hr => first | (go_simp; done) | (go_simp; rfl)); (case hp => exact (Reps.c3 (show Kd.M k78 _ _ _ (⟨0, 0, 1⟩ : S78) [.int .i64 0, .int .i64 0, .int .i64 1] from (k78_mkM _ _ _ (⟨0, 0, 1⟩ : S78) )) (Reps.c3 (show Kd.M k78 _ _ _ (⟨0, 0, 1⟩ : S78) [.int .i64 0, .int .i64 0, .int .i64 1] from (k78_mkM _ _ _ (⟨0, 0, 1⟩ : S78) )) (Reps.none _ _)))); intro v126 w23 ho24 hb hg_ hnew_; clear hg_ hnew_; (first | rw [← Ny125.out] at ho24 | (simp only [Int.reduceToNat] at ho24; rw [← Ny125.out] at ho24)); have n0_ := Aside0.mk (Kd.R_elder' (rz HO118) (Kd.R_base ho24) hb); have n1_ := Aside0.mk (Kd.R_elder' (rz HO121) (Kd.R_base ho24) hb); have n2_ := Aside0.mk (Kd.R_elder' (rz HO124) (Kd.R_base ho24) hb); have n3_ := Aside0.mk (Kd.R_lower (Kd.R_new' (Kd.R_new' (Kd.R_new' (Kd.R_newM (M := fun k_ => (w.heap.size ≤ k_)) ho24 (keep_size (w := w) (g := g) (row := none) (by repeat (first | (with_reducible first | exact HK.out | apply KeepBut.set_ | apply keep_drewN | apply keep_drew | apply keep_alloc | refine keep_far ?_ GW113.out _) | exact HK.out))) (fun k_ h_ => h_)) (Kd.R_lt (rz HO118))) (Kd.R_lt (rz HO121))) (Kd.R_lt (rz HO124))) (keep_size (w := w) (g := g) (row := none) (by repeat (first | (with_reducible first | exact HK.out | apply KeepBut.set_ | apply keep_drewN | apply keep_drew | apply keep_alloc | refine keep_far ?_ GW113.out _) | exact HK.out)))); have n4_ := Aside0.mk (blk_below (bz BK113) hb); have n5_ := Aside0.mk (IsS95.below (by repeat (first | (with_reducible first | exact HI0.out | apply IsS95.alloc | apply IsS95.drewN | apply IsS95.drew | apply IsS95.set_1 | refine IsS95.far ?_ NB0_113.out _) | exact HI0.out)) hb); have n6_ := Aside0.mk (KeepBut.trans (by repeat (first | (with_reducible first | exact HK.out | apply KeepBut.set_ | apply keep_drewN | apply keep_drew | apply keep_alloc | refine keep_far ?_ GW113.out _) | exact HK.out)) (KeepBut.of_below hb g none) (.inl rfl)); have n7_ := Aside0.mk (below_step (by repeat (first | (with_reducible first | exact HB.out | apply below_alloc | apply pw_below_drewN | apply below_drew1 | refine below_set ?_ (IsS95.ge HI0.out) | refine below_set ?_ GE113.out) | exact HB.out)) hb); clear HO118 HO121 HO124 BK113 HI0 HK HB; have HO118 := n0_; have HO121 := n1_; have HO124 := n2_; have HO127 := n3_; have BK113 := n4_; have HI0 := n5_; have HK := n6_; have HB := n7_; clear n0_ n1_ n2_ n3_ n4_ n5_ n6_ n7_ hb ho24; obtain ⟨Ao25, co25, eo25⟩ := Kd.R_slice HO118.out; subst eo25; obtain ⟨Ao26, co26, eo26⟩ := Kd.R_slice HO121.out; subst eo26; obtain ⟨Ao27, co27, eo27⟩ := Kd.R_slice HO124.out; subst eo27; obtain ⟨Ao28, co28, eo28⟩ := Kd.R_slice HO127.out; subst eo28) | ((with_reducible refine gate_dst (N := 30) rfl ?_); refine Kd.N_lit (Kd.slice 78 k78) _ 33 ?hg (N' := 30) ?hd (xs := ([y116, y119, y122, y125] : List (List (S78)))) (inner := [.slice Ao25 y116.length co25, .slice Ao26 y119.length co26, .slice Ao27 y122.length co27, .slice Ao28 y125.length co28]) (ok := (fun k_ => (w.heap.size ≤ k_) ∧ k_ ≠ gb113 ∧ k_ ≠ g)) (okp := (fun k_ => (w.heap.size ≤ k_) ∧ k_ ≠ gb113 ∧ k_ ≠ g)) ?hr ?hp (fun _ hk => hk) ((show ∀ k_, w23.heap.size ≤ k_ → (fun k_ => (w.heap.size ≤ k_) ∧ k_ ≠ gb113 ∧ k_ ≠ g) k_ from fun k_ hk => ⟨(Nat.le_trans (keep_size (w := w) (g := g) (row := none) (by repeat (first | (with_reducible first | exact HK.out | apply KeepBut.set_ | apply keep_drewN | apply keep_drew | apply keep_alloc | refine keep_far ?_ GW113.out _) | exact HK.out))) hk), Kd.freshB (bz BK113) k_ hk, IsS95.fresh (by repeat (first | (with_reducible first | exact HI0.out | apply IsS95.alloc | apply IsS95.drewN | apply IsS95.drew | apply IsS95.set_1 | refine IsS95.far ?_ NB0_113.out _) | exact HI0.out)) k_ hk⟩) _ (Nat.le_refl _)) (Below.refl _ _) (Nat.le_refl _) (by simp) ?_; (case hd => rfl); (case hg => rfl); (case hr => first | (go_simp; done) | (go_simp; rfl)); (case hp => exact (Reps.one (show Kd.FK (Kd.slice 78 k78) _ _ y116 [.slice Ao25 y116.length co25] from (Kd.FK_slice_mk (Kd.R_reads' (Kd.R_mono (ok' := (fun k_ => (w.heap.size ≤ k_) ∧ k_ ≠ gb113 ∧ k_ ≠ g)) (IsS95.apart HI0.out (Kd.R_types (HO118.out) BK113.out (by decide)) (by decide)) (fun k_ hk => ⟨hk.1.1.1.1.1.1, ⟨hk.1.2, hk.2⟩⟩))).2.1 (Kd.R_F (Kd.R_mono (ok' := (fun k_ => (w.heap.size ≤ k_) ∧ k_ ≠ gb113 ∧ k_ ≠ g)) (IsS95.apart HI0.out (Kd.R_types (HO118.out) BK113.out (by decide)) (by decide)) (fun k_ hk => ⟨hk.1.1.1.1.1.1, ⟨hk.1.2, hk.2⟩⟩))))) (Reps.one (show Kd.FK (Kd.slice 78 k78) _ _ y119 [.slice Ao26 y119.length co26] from (Kd.FK_slice_mk (Kd.R_reads' (Kd.R_mono (ok' := (fun k_ => (w.heap.size ≤ k_) ∧ k_ ≠ gb113 ∧ k_ ≠ g)) (IsS95.apart HI0.out (Kd.R_types (HO121.out) BK113.out (by decide)) (by decide)) (fun k_ hk => ⟨hk.1.1.1.1.1.1, ⟨hk.1.2, hk.2⟩⟩))).2.1 (Kd.R_F (Kd.R_mono (ok' := (fun k_ => (w.heap.size ≤ k_) ∧ k_ ≠ gb113 ∧ k_ ≠ g)) (IsS95.apart HI0.out (Kd.R_types (HO121.out) BK113.out (by decide)) (by decide)) (fun k_ hk => ⟨hk.1.1.1.1.1.1, ⟨hk.1.2, hk.2⟩⟩))))) (Reps.one (show Kd.FK (Kd.slice 78 k78) _ _ y122 [.slice Ao27 y122.length co27] from (Kd.FK_slice_mk (Kd.R_reads' (Kd.R_mono (ok' := (fun k_ => (w.heap.size ≤ k_) ∧ k_ ≠ gb113 ∧ k_ ≠ g)) (IsS95.apart HI0.out (Kd.R_types (HO124.out) BK113.out (by decide)) (by decide)) (fun k_ hk => ⟨hk.1.1.1.1.1.1, ⟨hk.1.2, hk.2⟩⟩))).2.1 (Kd.R_F (Kd.R_mono (ok' := (fun k_ => (w.heap.size ≤ k_) ∧ k_ ≠ gb113 ∧ k_ ≠ g)) (IsS95.apart HI0.out (Kd.R_types (HO124.out) BK113.out (by decide)) (by decide)) (fun k_ hk => ⟨hk.1.1.1.1.1.1, ⟨hk.1.2, hk.2⟩⟩))))) (Reps.one (show Kd.FK (Kd.slice 78 k78) _ _ y125 [.slice Ao28 y125.length co28] from (Kd.FK_slice_mk (Kd.R_reads' (Kd.R_mono (ok' := (fun k_ => (w.heap.size ≤ k_) ∧ k_ ≠ gb113 ∧ k_ ≠ g)) (IsS95.apart HI0.out (Kd.R_types (HO127.out) BK113.out (by decide)) (by decide)) (fun k_ hk => ⟨hk.1.1.1.1.1.1, ⟨hk.1.2, hk.2⟩⟩))).2.1 (Kd.R_F (Kd.R_mono (ok' := (fun k_ => (w.heap.size ≤ k_) ∧ k_ ≠ gb113 ∧ k_ ≠ g)) (IsS95.apart HI0.out (Kd.R_types (HO127.out) BK113.out (by decide)) (by decide)) (fun k_ hk => ⟨hk.1.1.1.1.1.1, ⟨hk.1.2, hk.2⟩⟩))))) (Reps.none _ _)))))); intro v129 w29 ho30 hb hg_ hnew_; clear hg_ hnew_; (first | rw [← Ny128.out] at ho30 | (simp only [Int.reduceToNat] at ho30; rw [← Ny128.out] at ho30)); have n0_ := Aside0.mk (Kd.N_lower ho30 (keep_size (w := w) (g := g) (row := none) (by repeat (first | (with_reducible first | exact HK.out | apply KeepBut.set_ | apply keep_drewN | apply keep_drew | apply keep_alloc | refine keep_far ?_ GW113.out _) | exact HK.out)))); have n1_ := Aside0.mk (blk_below (bz BK113) hb); have n2_ := Aside0.mk (IsS95.below (by repeat (first | (with_reducible first | exact HI0.out | apply IsS95.alloc | apply IsS95.drewN | apply IsS95.drew | apply IsS95.set_1 | refine IsS95.far ?_ NB0_113.out _) | exact HI0.out)) hb); have n3_ := Aside0.mk (KeepBut.trans (by repeat (first | (with_reducible first | exact HK.out | apply KeepBut.set_ | apply keep_drewN | apply keep_drew | apply keep_alloc | refine keep_far ?_ GW113.out _) | exact HK.out)) (KeepBut.of_below hb g none) (.inl rfl)); have n4_ := Aside0.mk (below_step (by repeat (first | (with_reducible first | exact HB.out | apply below_alloc | apply pw_below_drewN | apply below_drew1 | refine below_set ?_ (IsS95.ge HI0.out) | refine below_set ?_ GE113.out) | exact HB.out)) hb); clear BK113 HI0 HK HB HO118 HO121 HO124 HO127; have HO130 := n0_; have BK113 := n1_; have HI0 := n2_; have HK := n3_; have HB := n4_; clear n0_ n1_ n2_ n3_ n4_ hb ho30) | ((with_reducible refine gate_callee (f := 57) rfl ?_); refine goesL_ (some 32) rfl rfl Try.func57 kr rfl #[.pointer (some ⟨g, 0, none⟩), .int .i64 4] rfl lm ?_; (with_reducible refine (spec_l20Rd_pick.calls kj3 g s0_0 x1001_3 4 t131 t132 w0 _ ?side1 ?side2 A14.out).mono ?_); (case side1 => repeat (first | (with_reducible first | exact HI0.out | apply IsS95.alloc | apply IsS95.drewN | apply IsS95.drew | apply IsS95.set_1 | refine IsS95.far ?_ NB0_113.out _) | exact HI0.out)); (case side2 => repeat (first | (with_reducible first | exact HB.out | apply below_alloc | apply pw_below_drewN | apply below_drew1 | refine below_set ?_ (IsS95.ge HI0.out) | refine below_set ?_ GE113.out) | exact HB.out)); rintro e w31 ⟨rfl, hi, hb, hk⟩; refine ⟨_, rfl, ?_⟩; have n0_ := Aside0.mk (KeepBut.blk hk (bz BK113) NB113_0.out (by simp)); have n1_ := Aside0.mk (Kd.N_mono (Kd.N_keep (Kd.N_mono (ok := fun k_ => (((w.heap.size ≤ k_)) ∧ (k_ ≠ gb113 ∧ k_ ≠ g))) (nz HO130) (fun k_ hk_ => (⟨hk_, hk_.2.2⟩ : _ ∧ k_ ≠ g))) hk (fun _ h => h.2)) (fun _ h => h.1)); have n2_ := Aside0.mk (KeepBut.trans (by repeat (first | (with_reducible first | exact HK.out | apply KeepBut.set_ | apply keep_drewN | apply keep_drew | apply keep_alloc | refine keep_far ?_ GW113.out _) | exact HK.out)) hk (.inl rfl)); have n3_ := Aside0.mk (hb); have n4_ := Aside0.mk (hi); clear BK113 HO130 HK HB HI0; have BK113 := n0_; have HO130 := n1_; have HK := n2_; have HB := n3_; have HI0 := n4_; clear n0_ n1_ n2_ n3_ n4_; (try clear hb); (try clear hb2); (try clear hk); (try clear hi); obtain ⟨Ao32, co32, eo32⟩ := Kd.N_slice HO130.out; subst eo32; have p133 : 0 ≤ (t131 : Int) := oda; have q133 : t131 < (y128.length : Int) := oda; obtain ⟨ad133, A133_0, c133_0, e133, hx133_0, hl133_0, hi133_0⟩ := at_L3 (Kd.N_reads' HO130.out).2.2 t131 p133 q133; cases e133; obtain ⟨ce133, hce133, hMe133, hcc133⟩ := Kd.N_get HO130.out [] t131 p133 (by first | exact q133 | exact oda | (have e_ := (Kd.N_reads' HO130.out).1; omega)); obtain ⟨ua133_0, uc133_0, rfl, ul133_0, ge133_0⟩ := Kd.FK_slice_open hMe133; have hv133_0 := hcc133 0 _ rfl; rw [Nat.add_zero, show ((Kd.slice 78 k78)).sz = 1 from rfl, Nat.mul_one] at hv133_0; replace hv133_0 := Option.some.inj (hv133_0.symm.trans hx133_0); injection hv133_0 with hva_ hvn_ hvc_; rw [hva_] at ge133_0; rw [hvc_] at ul133_0; have HL133_0 := Aside0.mk (show Kd.V k78 78 _ w.heap.size _ _ (rd_L3 y128 t131) from Kd.V_mk ul133_0 ge133_0); clear hva_ hvn_ hvc_ ge133_0 ul133_0 hcc133 hce133; have HR133_0 := Aside0.mk hi133_0; have HC133_0 := Aside0.mk hl133_0; clear hi133_0 hl133_0; replace p133 := eq_true p133; replace q133 := eq_true q133))
      go_ret
      exact ⟨_, by first | rfl | (simp [errW_none, errW_some] <;> rfl) | (simp [*, errW_none, errW_some] <;> rfl), by (with_reducible repeat (first | apply Kd.V_alloc | apply Kd.V_drewN | apply Kd.V_drew)); exact Kd.V_mono HL133_0.out (fun _ hk => hk.1.1), by repeat (first | (with_reducible first | exact HI0.out | apply IsS95.alloc | apply IsS95.drewN | apply IsS95.drew | apply IsS95.set_1 | refine IsS95.far ?_ NB0_113.out _) | exact HI0.out), by repeat (first | (with_reducible first | exact HB.out | apply below_alloc | apply pw_below_drewN | apply below_drew1 | refine below_set ?_ (IsS95.ge HI0.out) | refine below_set ?_ GE113.out) | exact HB.out), by repeat (first | (with_reducible first | exact HK.out | apply KeepBut.set_ | apply keep_drewN | apply keep_drew | apply keep_alloc | refine keep_far ?_ GW113.out _) | exact HK.out)⟩
     ·rw [if_neg c16] at H
      exact absurd H (by simp)
    ·rw [if_neg c15] at H
     exact absurd H (by simp)
   ·replace c13 := Bool.eq_false_iff.mpr c13
    subst c13
    have H1 : ((spec_l20Rd_pick.f kj3 s0_0 x1001_3 4).bind fun bt137 => (spec_l20Term.l0 kj3 (([] : List (List (S78)))) (wrap64 (1 + bt137.1)) s0_0 bt137.2 a1_0 l1_1)) = some (r1, r2) := by rw [if_neg (show ¬ (false = true) by decide)] at H; exact H
    clear H
    have H := H1
    clear H1
    obtain ⟨y134, hy134⟩ : ∃ y_ : List (List (S78)), y_ = (([] : List (List (S78)))) := ⟨_, rfl⟩
    replace H : ((spec_l20Rd_pick.f kj3 s0_0 x1001_3 4).bind fun bt137 => (spec_l20Term.l0 kj3 y134 (wrap64 (1 + bt137.1)) s0_0 bt137.2 a1_0 l1_1)) = some (r1, r2) := by first | (rw [hy134]; with_reducible exact H) | (have H2_ := (Option.bind_some _ _).symm.trans H; rw [hy134]; with_reducible exact H2_) | (have H2_ := (Option.bind_some _ _).symm.trans H; with_reducible exact H2_) | with_reducible exact H | (rw [hy134]; exact H) | exact H
    have Ny134 := Aside0.mk hy134
    clear hy134
    replace H := Option.bind_eq_some_iff.mp H
    obtain ⟨⟨t137, t138⟩, A330, H⟩ := H
    replace H : (spec_l20Term.l0 kj3 y134 (wrap64 (1 + t137)) s0_0 t138 a1_0 l1_1) = some (r1, r2) := H
    have A33 := Aside0.mk A330
    clear A330
    have H' := Aside0.mk H
    clear H
    go_wp2_with (first | ((with_reducible refine gate_dst (N := 35) rfl ?_); refine Kd.N_lit (Kd.slice 78 k78) _ 33 ?hg (N' := 35) ?hd (xs := ([] : List (List (S78)))) (inner := []) (ok := (fun k_ => (w.heap.size ≤ k_) ∧ k_ ≠ gb113 ∧ k_ ≠ g)) (okp := (fun k_ => (w.heap.size ≤ k_) ∧ k_ ≠ gb113 ∧ k_ ≠ g)) ?hr ?hp (fun _ hk => hk) ((show ∀ k_, wc.heap.size ≤ k_ → (fun k_ => (w.heap.size ≤ k_) ∧ k_ ≠ gb113 ∧ k_ ≠ g) k_ from fun k_ hk => ⟨(Nat.le_trans (keep_size (w := w) (g := g) (row := none) (by repeat (first | (with_reducible first | exact HK.out | apply KeepBut.set_ | apply keep_drewN | apply keep_drew | apply keep_alloc | refine keep_far ?_ GW113.out _) | exact HK.out))) hk), Kd.freshB (bz BK113) k_ hk, IsS95.fresh (by repeat (first | (with_reducible first | exact HI0.out | apply IsS95.alloc | apply IsS95.drewN | apply IsS95.drew | apply IsS95.set_1 | refine IsS95.far ?_ NB0_113.out _) | exact HI0.out)) k_ hk⟩) _ (Nat.le_refl _)) (Below.refl _ _) (Nat.le_refl _) (by simp) ?_; (case hd => rfl); (case hg => rfl); (case hr => first | (go_simp; done) | (go_simp; rfl)); (case hp => exact (Reps.none _ _)); intro v135 w34 ho35 hb hg_ hnew_; clear hg_ hnew_; (first | rw [← Ny134.out] at ho35 | (simp only [Int.reduceToNat] at ho35; rw [← Ny134.out] at ho35)); have n0_ := Aside0.mk (Kd.N_lower ho35 (keep_size (w := w) (g := g) (row := none) (by repeat (first | (with_reducible first | exact HK.out | apply KeepBut.set_ | apply keep_drewN | apply keep_drew | apply keep_alloc | refine keep_far ?_ GW113.out _) | exact HK.out)))); have n1_ := Aside0.mk (blk_below (bz BK113) hb); have n2_ := Aside0.mk (IsS95.below (by repeat (first | (with_reducible first | exact HI0.out | apply IsS95.alloc | apply IsS95.drewN | apply IsS95.drew | apply IsS95.set_1 | refine IsS95.far ?_ NB0_113.out _) | exact HI0.out)) hb); have n3_ := Aside0.mk (KeepBut.trans (by repeat (first | (with_reducible first | exact HK.out | apply KeepBut.set_ | apply keep_drewN | apply keep_drew | apply keep_alloc | refine keep_far ?_ GW113.out _) | exact HK.out)) (KeepBut.of_below hb g none) (.inl rfl)); have n4_ := Aside0.mk (below_step (by repeat (first | (with_reducible first | exact HB.out | apply below_alloc | apply pw_below_drewN | apply below_drew1 | refine below_set ?_ (IsS95.ge HI0.out) | refine below_set ?_ GE113.out) | exact HB.out)) hb); clear BK113 HI0 HK HB; have HO136 := n0_; have BK113 := n1_; have HI0 := n2_; have HK := n3_; have HB := n4_; clear n0_ n1_ n2_ n3_ n4_ hb ho35) | ((with_reducible refine gate_callee (f := 57) rfl ?_); refine goesL_ (some 37) rfl rfl Try.func57 kr rfl #[.pointer (some ⟨g, 0, none⟩), .int .i64 4] rfl lm ?_; (with_reducible refine (spec_l20Rd_pick.calls kj3 g s0_0 x1001_3 4 t137 t138 w0 _ ?side1 ?side2 A33.out).mono ?_); (case side1 => repeat (first | (with_reducible first | exact HI0.out | apply IsS95.alloc | apply IsS95.drewN | apply IsS95.drew | apply IsS95.set_1 | refine IsS95.far ?_ NB0_113.out _) | exact HI0.out)); (case side2 => repeat (first | (with_reducible first | exact HB.out | apply below_alloc | apply pw_below_drewN | apply below_drew1 | refine below_set ?_ (IsS95.ge HI0.out) | refine below_set ?_ GE113.out) | exact HB.out)); rintro e w36 ⟨rfl, hi, hb, hk⟩; refine ⟨_, rfl, ?_⟩; have n0_ := Aside0.mk (KeepBut.blk hk (bz BK113) NB113_0.out (by simp)); have n1_ := Aside0.mk (Kd.N_mono (Kd.N_keep (Kd.N_mono (ok := fun k_ => (((w.heap.size ≤ k_)) ∧ (k_ ≠ gb113 ∧ k_ ≠ g))) (nz HO136) (fun k_ hk_ => (⟨hk_, hk_.2.2⟩ : _ ∧ k_ ≠ g))) hk (fun _ h => h.2)) (fun _ h => h.1)); have n2_ := Aside0.mk (KeepBut.trans (by repeat (first | (with_reducible first | exact HK.out | apply KeepBut.set_ | apply keep_drewN | apply keep_drew | apply keep_alloc | refine keep_far ?_ GW113.out _) | exact HK.out)) hk (.inl rfl)); have n3_ := Aside0.mk (hb); have n4_ := Aside0.mk (hi); clear BK113 HO136 HK HB HI0; have BK113 := n0_; have HO136 := n1_; have HK := n2_; have HB := n3_; have HI0 := n4_; clear n0_ n1_ n2_ n3_ n4_; (try clear hb); (try clear hb2); (try clear hk); (try clear hi)))
    go_loopg [7, 8] kj3 (fun kq v7 v8 w' => ∃ (x7_2 : List (List (S78))) (x8_2 : Int) (x1001_2 : Int), v8 = .int .i64 x8_2 ∧ Aside0 (spec_l20Term.l0 kq x7_2 x8_2 s0_0 x1001_2 a1_0 l1_1 = some (r1, r2)) ∧ Aside0 (kq ≤ kj3) ∧ Aside0 (Kd.N (Kd.slice 78 k78) 33 w' w.heap.size (fun k_ => (w.heap.size ≤ k_) ∧ k_ ≠ gb113 ∧ k_ ≠ g) v7 x7_2) ∧ Aside0 (w'.heap[gb113]? = some (.cells #[.int .i64 a1_0, (.slice A1_1 l1_1.length c1_1)] 25 (0, 0))) ∧ Aside0 (IsS95 w0 w' g s0_0 x1001_2) ∧ Aside0 (KeepBut w w' g none) ∧ Aside0 (Below w0.heap.size w0 w'))
    case atStart => exact ⟨(y134), (wrap64 (1 + t137)), (t138), (by first | rfl | (simp; done) | (simp [*]; done)), H', ⟨Nat.le_refl _⟩, ⟨nz HO136⟩, ⟨bz BK113⟩, ⟨by repeat (first | (with_reducible first | exact HI0.out | apply IsS95.alloc | apply IsS95.drewN | apply IsS95.drew | apply IsS95.set_1 | refine IsS95.far ?_ NB0_113.out _) | exact HI0.out)⟩, ⟨by repeat (first | (with_reducible first | exact HK.out | apply KeepBut.set_ | apply keep_drewN | apply keep_drew | apply keep_alloc | refine keep_far ?_ GW113.out _) | exact HK.out)⟩, ⟨by repeat (first | (with_reducible first | exact HB.out | apply below_alloc | apply pw_below_drewN | apply below_drew1 | refine below_set ?_ (IsS95.ge HI0.out) | refine below_set ?_ GE113.out) | exact HB.out)⟩⟩
    case round =>
     clear H'
     try clear c1
     try clear p1
     try clear q1
     try clear hx1
     try clear p2
     try clear c3
     try clear c5
     try clear c6
     try clear c6b0
     try clear c6b1
     try clear c6b2
     try clear p6
     try clear c7
     try clear c10
     try clear c13
     try clear p13
     try clear q13
     try clear hx13
     try clear c15
     try clear c15b0
     try clear c16
     try clear c16b0
     try clear hcz11_0
     try clear hcz11_1
     try clear hcz8_0
     try clear hcz8_1
     try clear hfz11_0
     try clear hfz11_1
     try clear hfz8_0
     try clear hfz8_1
     try clear hx133_0
     try clear p133
     try clear p2
     try clear q133
     obtain ⟨x7_2, x8_2, x1001_2, rfl, HA, HK2, HO_7, BK113, HI0, HK, HB⟩ := hrel
     cases gk with
     | zero => exact absurd HA.out (by simp [spec_l20Term.l0])
     | succ k2 =>
      have H := HA.out
      clear HA
      simp only [spec_l20Term.l0] at H
      by_cases c37 : x8_2 > 0
      ·rw [if_pos c37] at H
       have c37b0 : decide (0 < x8_2) = true := decide_eq_true c37
       clear c37
       replace H := Option.bind_eq_some_iff.mp H
       obtain ⟨⟨t139, t140⟩, A380, H⟩ := H
       replace H : (if 0 ≤ t139 then (if t139 < (l1_1.length : Int) then ((spec_l1Heads.f k2 (mx (rd l1_1 t139) 0)).bind fun t142 => ((spec_l20Rd_pick.f k2 s0_0 t140 (mx t142 1)).bind fun bt143 => (if x7_2.length < 5864062014805 then (spec_l20Term.l0 k2 (x7_2 ++ [(([(⟨0, t139, wrap64 (1 + bt143.1)⟩ : S78)] : List (S78)))]) (wrap64 (x8_2 - 1)) s0_0 bt143.2 a1_0 l1_1) else (none)))) else (none)) else (none)) = some (r1, r2) := H
       have A38 := Aside0.mk A380
       clear A380
       by_cases c39 : 0 ≤ t139
       ·rw [if_pos c39] at H
        have c39b0 : decide (0 ≤ t139) = true := decide_eq_true c39
        clear c39
        by_cases c40 : t139 < (l1_1.length : Int)
        ·rw [if_pos c40] at H
         have c40b0 : decide (t139 < (l1_1.length : Int)) = true := decide_eq_true c40
         clear c40
         obtain ⟨ji41, hji41⟩ : ∃ j_ : Int, (mx (rd l1_1 t139) 0) = j_ := ⟨_, rfl⟩
         replace H : ((spec_l1Heads.f k2 (ji41)).bind fun t142 => ((spec_l20Rd_pick.f k2 s0_0 t140 (mx t142 1)).bind fun bt143 => (if x7_2.length < 5864062014805 then (spec_l20Term.l0 k2 (x7_2 ++ [(([(⟨0, t139, wrap64 (1 + bt143.1)⟩ : S78)] : List (S78)))]) (wrap64 (x8_2 - 1)) s0_0 bt143.2 a1_0 l1_1) else (none)))) = some (r1, r2) := by first | (rw [hji41] at H; exact H) | (simp only [hji41] at H ⊢; exact H)
         (try rw [hji41] at A38)
         have hji41_ : (if (rd l1_1 t139) < 0 then 0 else (rd l1_1 t139)) = ji41 := hji41
         replace H := Option.bind_eq_some_iff.mp H
         obtain ⟨t142, A420, H⟩ := H
         replace H : ((spec_l20Rd_pick.f k2 s0_0 t140 (mx t142 1)).bind fun bt143 => (if x7_2.length < 5864062014805 then (spec_l20Term.l0 k2 (x7_2 ++ [(([(⟨0, t139, wrap64 (1 + bt143.1)⟩ : S78)] : List (S78)))]) (wrap64 (x8_2 - 1)) s0_0 bt143.2 a1_0 l1_1) else (none))) = some (r1, r2) := H
         have A42 := Aside0.mk A420
         clear A420
         obtain ⟨ji43, hji43⟩ : ∃ j_ : Int, (mx t142 1) = j_ := ⟨_, rfl⟩
         replace H : ((spec_l20Rd_pick.f k2 s0_0 t140 (ji43)).bind fun bt143 => (if x7_2.length < 5864062014805 then (spec_l20Term.l0 k2 (x7_2 ++ [(([(⟨0, t139, wrap64 (1 + bt143.1)⟩ : S78)] : List (S78)))]) (wrap64 (x8_2 - 1)) s0_0 bt143.2 a1_0 l1_1) else (none))) = some (r1, r2) := by first | (rw [hji43] at H; exact H) | (simp only [hji43] at H ⊢; exact H)
         (try rw [hji43] at A38)
         (try rw [hji43] at A42)
         (try (have hji43l : 1 ≤ ji43 := by (rw [← hji43]; unfold mx; (repeat' split) <;> omega)))
         (try (have hji43m : 0 ≤ ji43 := by omega))
         have hji43_ : (if t142 < 1 then 1 else t142) = ji43 := hji43
         replace H := Option.bind_eq_some_iff.mp H
         obtain ⟨⟨t143, t144⟩, A440, H⟩ := H
         replace H : (if x7_2.length < 5864062014805 then (spec_l20Term.l0 k2 (x7_2 ++ [(([(⟨0, t139, wrap64 (1 + t143)⟩ : S78)] : List (S78)))]) (wrap64 (x8_2 - 1)) s0_0 t144 a1_0 l1_1) else (none)) = some (r1, r2) := H
         have A44 := Aside0.mk A440
         clear A440
         obtain ⟨y145, hy145⟩ : ∃ y_ : List (S78), y_ = (([(⟨0, t139, wrap64 (1 + t143)⟩ : S78)] : List (S78))) := ⟨_, rfl⟩
         replace H : (if x7_2.length < 5864062014805 then (spec_l20Term.l0 k2 (x7_2 ++ [y145]) (wrap64 (x8_2 - 1)) s0_0 t144 a1_0 l1_1) else (none)) = some (r1, r2) := by first | (rw [hy145]; with_reducible exact H) | (have H2_ := (Option.bind_some _ _).symm.trans H; rw [hy145]; with_reducible exact H2_) | (have H2_ := (Option.bind_some _ _).symm.trans H; with_reducible exact H2_) | with_reducible exact H | (rw [hy145]; exact H) | exact H
         have Ny145 := Aside0.mk hy145
         clear hy145
         by_cases c45 : x7_2.length < 5864062014805
         ·rw [if_pos c45] at H
          have LMc45 := Aside0.mk c45
          clear c45
          obtain ⟨y148, hy148⟩ : ∃ y_ : List (List (S78)), y_ = (x7_2 ++ [y145]) := ⟨_, rfl⟩
          replace H : (spec_l20Term.l0 k2 y148 (wrap64 (x8_2 - 1)) s0_0 t144 a1_0 l1_1) = some (r1, r2) := by first | (rw [hy148]; with_reducible exact H) | (have H2_ := (Option.bind_some _ _).symm.trans H; rw [hy148]; with_reducible exact H2_) | (have H2_ := (Option.bind_some _ _).symm.trans H; with_reducible exact H2_) | with_reducible exact H | (rw [hy148]; exact H) | exact H
          have Ny148 := Aside0.mk hy148
          clear hy148
          have H' := Aside0.mk H
          clear H
          have hnb46 := NB113_0.out
          have hnc46 := NB0_113.out
          have hcz47_0 := cz0 BK113
          have hcz47_1 := cz1 BK113
          have hfz47_0 := blk_frozen BK113.out 0
          have hfz47_1 := blk_frozen BK113.out 1
          go_wp2_with (first | ((with_reducible refine gate_callee (f := 57) rfl ?_); refine goesL_ (some 47) rfl rfl Try.func57 kr rfl #[.pointer (some ⟨g, 0, none⟩), .int .i64 (l1_1.length : Int)] rfl lm ?_; (with_reducible refine (spec_l20Rd_pick.calls k2 g s0_0 x1001_2 (l1_1.length : Int) t139 t140 w0 _ ?side1 ?side2 A38.out).mono ?_); (case side1 => repeat (first | (with_reducible first | exact HI0.out | apply IsS95.alloc | apply IsS95.drewN | apply IsS95.drew | apply IsS95.set_1 | refine IsS95.far ?_ NB0_113.out _) | exact HI0.out)); (case side2 => repeat (first | (with_reducible first | exact HB.out | apply below_alloc | apply pw_below_drewN | apply below_drew1 | refine below_set ?_ (IsS95.ge HI0.out) | refine below_set ?_ GE113.out) | exact HB.out)); rintro e w48 ⟨rfl, hi, hb, hk⟩; refine ⟨_, rfl, ?_⟩; have n0_ := Aside0.mk (Kd.N_mono (Kd.N_keep (Kd.N_mono (ok := fun k_ => (((w.heap.size ≤ k_)) ∧ (k_ ≠ gb113 ∧ k_ ≠ g))) (nz HO_7) (fun k_ hk_ => (⟨hk_, hk_.2.2⟩ : _ ∧ k_ ≠ g))) hk (fun _ h => h.2)) (fun _ h => h.1)); have n1_ := Aside0.mk (KeepBut.blk hk (bz BK113) NB113_0.out (by simp)); have n2_ := Aside0.mk (KeepBut.trans (by repeat (first | (with_reducible first | exact HK.out | apply KeepBut.set_ | apply keep_drewN | apply keep_drew | apply keep_alloc | refine keep_far ?_ GW113.out _) | exact HK.out)) hk (.inl rfl)); have n3_ := Aside0.mk (hb); have n4_ := Aside0.mk (hi); clear HO_7 BK113 HK HB HI0; have HO_7 := n0_; have BK113 := n1_; have HK := n2_; have HB := n3_; have HI0 := n4_; clear n0_ n1_ n2_ n3_ n4_; (try clear hb); (try clear hb2); (try clear hk); (try clear hi); have hcz49_0 := cz0 BK113; have hcz49_1 := cz1 BK113; have hfz49_0 := blk_frozen BK113.out 0; have hfz49_1 := blk_frozen BK113.out 1; have p141 : 0 ≤ (t139 : Int) := oda; have q141 : t139 < (l1_1.length : Int) := oda; obtain ⟨ad141, e141, hx141_0⟩ := Kd.at_int HR1_1.out t139 p141 q141; cases e141; replace hx141_0 := keep_cell HK.out hx141_0 (by first | (rw [add_block]; exact hf1_1 _ rfl (by omega)) | exact hf1_1 _ rfl (by omega) | exact hf1_1 ad141 rfl (by omega)); replace p141 := eq_true p141; replace q141 := eq_true q141) | ((with_reducible refine gate_callee (f := 60) rfl ?_); refine goesL_ (some 57) rfl rfl Try.func60 kr rfl #[.int .i64 ji41] rfl (by (try simp only [List.map_toArray, List.map_cons, List.map_nil]); first | done | (simp only [hji41]; rfl) | rfl | (simp only [List.length_drop, List.length_take]; rfl)) ?_; (with_reducible refine (spec_l1Heads.calls k2 ji41 t142 _ A42.out).mono ?_); rintro e w' ⟨rfl, ⟨nd, rfl⟩⟩; refine ⟨_, rfl, ?_⟩) | ((with_reducible refine gate_callee (f := 57) rfl ?_); refine goesL_ (some 59) rfl rfl Try.func57 kr rfl #[.pointer (some ⟨g, 0, none⟩), .int .i64 ji43] rfl (by (try simp only [List.map_toArray, List.map_cons, List.map_nil]); first | done | (simp only [hji43]; rfl) | rfl | (simp only [List.length_drop, List.length_take]; rfl)) ?_; (with_reducible refine (spec_l20Rd_pick.calls k2 g s0_0 t140 ji43 t143 t144 w0 _ ?side1 ?side2 A44.out).mono ?_); (case side1 => repeat (first | (with_reducible first | exact HI0.out | apply IsS95.alloc | apply IsS95.drewN | apply IsS95.drew | apply IsS95.set_1 | refine IsS95.far ?_ NB0_113.out _) | exact HI0.out)); (case side2 => repeat (first | (with_reducible first | exact HB.out | apply below_alloc | apply pw_below_drewN | apply below_drew1 | refine below_set ?_ (IsS95.ge HI0.out) | refine below_set ?_ GE113.out) | exact HB.out)); rintro e w50 ⟨rfl, hi, hb, hk⟩; refine ⟨_, rfl, ?_⟩; have n0_ := Aside0.mk (Kd.N_mono (Kd.N_keep (Kd.N_mono (ok := fun k_ => (((w.heap.size ≤ k_)) ∧ (k_ ≠ gb113 ∧ k_ ≠ g))) (nz HO_7) (fun k_ hk_ => (⟨hk_, hk_.2.2⟩ : _ ∧ k_ ≠ g))) hk (fun _ h => h.2)) (fun _ h => h.1)); have n1_ := Aside0.mk (KeepBut.blk hk (bz BK113) NB113_0.out (by simp)); have n2_ := Aside0.mk (KeepBut.trans (by repeat (first | (with_reducible first | exact HK.out | apply KeepBut.set_ | apply keep_drewN | apply keep_drew | apply keep_alloc | refine keep_far ?_ GW113.out _) | exact HK.out)) hk (.inl rfl)); have n3_ := Aside0.mk (hb); have n4_ := Aside0.mk (hi); clear HO_7 BK113 HK HB HI0; have HO_7 := n0_; have BK113 := n1_; have HK := n2_; have HB := n3_; have HI0 := n4_; clear n0_ n1_ n2_ n3_ n4_; (try clear hb); (try clear hb2); (try clear hk); (try clear hi)) | ((with_reducible refine gate_dst (N := 62) rfl ?_); refine Kd.R_lit k78 _ 78 ?hg (N := 62) ?hd (xs := ([(⟨0, t139, wrap64 (1 + t143)⟩ : S78)] : List (S78))) (inner := [.int .i64 0, .int .i64 t139, .int .i64 (wrap64 (1 + t143))]) (ok := fun _ => True) (okp := fun _ => True) ?hr ?hp (fun _ hk => hk) trivial (Below.refl _ _) (Nat.le_refl _) (by simp) ?_; (case hd => rfl); (case hg => rfl); (case hr => first | (go_simp; done) | (go_simp; rfl)); (case hp => exact (Reps.c3 (show Kd.M k78 _ _ _ (⟨0, t139, wrap64 (1 + t143)⟩ : S78) [.int .i64 0, .int .i64 t139, .int .i64 (wrap64 (1 + t143))] from (k78_mkM _ _ _ (⟨0, t139, wrap64 (1 + t143)⟩ : S78) )) (Reps.none _ _))); intro v146 w51 ho52 hb hg_ hnew_; clear hg_ hnew_; (first | rw [← Ny145.out] at ho52 | (simp only [Int.reduceToNat] at ho52; rw [← Ny145.out] at ho52)); have n0_ := Aside0.mk (Kd.N_elder' (nz HO_7) (Kd.R_base ho52) hb); have n1_ := Aside0.mk (Kd.R_lower (Kd.R_newM (M := fun k_ => (w.heap.size ≤ k_)) ho52 (keep_size (w := w) (g := g) (row := none) (by repeat (first | (with_reducible first | exact HK.out | apply KeepBut.set_ | apply keep_drewN | apply keep_drew | apply keep_alloc | refine keep_far ?_ GW113.out _) | exact HK.out))) (fun k_ h_ => h_)) (keep_size (w := w) (g := g) (row := none) (by repeat (first | (with_reducible first | exact HK.out | apply KeepBut.set_ | apply keep_drewN | apply keep_drew | apply keep_alloc | refine keep_far ?_ GW113.out _) | exact HK.out)))); have n2_ := Aside0.mk (blk_below (bz BK113) hb); have n3_ := Aside0.mk (IsS95.below (by repeat (first | (with_reducible first | exact HI0.out | apply IsS95.alloc | apply IsS95.drewN | apply IsS95.drew | apply IsS95.set_1 | refine IsS95.far ?_ NB0_113.out _) | exact HI0.out)) hb); have n4_ := Aside0.mk (KeepBut.trans (by repeat (first | (with_reducible first | exact HK.out | apply KeepBut.set_ | apply keep_drewN | apply keep_drew | apply keep_alloc | refine keep_far ?_ GW113.out _) | exact HK.out)) (KeepBut.of_below hb g none) (.inl rfl)); have n5_ := Aside0.mk (below_step (by repeat (first | (with_reducible first | exact HB.out | apply below_alloc | apply pw_below_drewN | apply below_drew1 | refine below_set ?_ (IsS95.ge HI0.out) | refine below_set ?_ GE113.out) | exact HB.out)) hb); clear HO_7 BK113 HI0 HK HB; have HO_7 := n0_; have HO147 := n1_; have BK113 := n2_; have HI0 := n3_; have HK := n4_; have HB := n5_; clear n0_ n1_ n2_ n3_ n4_ n5_ hb ho52; obtain ⟨Ao54, co54, eo54⟩ := Kd.R_slice HO147.out; subst eo54) | ((with_reducible refine gate_builtin (b := .append) (xs := #[.tmp 48, .tmp 63]) rfl ?_); at_builtin; refine Kd.N_append (Kd.slice 78 k78) w.heap.size rfl (.tmp 48) (.tmp 63) 96 33 (.slice none 0 0) 24 rfl Try.underlying96 info33 rfl (by decide) (by omega) u7 x7_2 y145 [.slice Ao54 y145.length co54] (fun k_ => (w.heap.size ≤ k_) ∧ k_ ≠ gb113 ∧ k_ ≠ g) (fun k_ => ((fun k_ => (w.heap.size ≤ k_) ∧ k_ ≠ gb113 ∧ k_ ≠ g)) k_ ∧ some k_ ≠ (u7 : Value).ownBlock) rfl rfl ?aP (fun _ hk => hk) ?aF ?aO (Below.refl _ _) ?aS ?aL ?_; (case aP => exact (Kd.FK_slice_mk (Kd.R_reads' (Kd.R_mono (ok' := (fun k_ => ((fun k_ => (w.heap.size ≤ k_) ∧ k_ ≠ gb113 ∧ k_ ≠ g)) k_ ∧ some k_ ≠ (u7 : Value).ownBlock)) (IsS95.apart HI0.out (Kd.R_types (Kd.R_apart' (HO147.out) (Kd.N_typed HO_7.out) (by decide)) BK113.out (by decide)) (by decide)) (fun k_ hk => ⟨⟨hk.1.1.1.1, ⟨hk.1.2, hk.2⟩⟩, hk.1.1.2⟩))).2.1 (Kd.R_F (Kd.R_mono (ok' := (fun k_ => ((fun k_ => (w.heap.size ≤ k_) ∧ k_ ≠ gb113 ∧ k_ ≠ g)) k_ ∧ some k_ ≠ (u7 : Value).ownBlock)) (IsS95.apart HI0.out (Kd.R_types (Kd.R_apart' (HO147.out) (Kd.N_typed HO_7.out) (by decide)) BK113.out (by decide)) (by decide)) (fun k_ hk => ⟨⟨hk.1.1.1.1, ⟨hk.1.2, hk.2⟩⟩, hk.1.1.2⟩))))); (case aF => exact (fun k_ hk => ⟨(Nat.le_trans (keep_size (w := w) (g := g) (row := none) (by repeat (first | (with_reducible first | exact HK.out | apply KeepBut.set_ | apply keep_drewN | apply keep_drew | apply keep_alloc | refine keep_far ?_ GW113.out _) | exact HK.out))) hk), Kd.freshB (bz BK113) k_ hk, IsS95.fresh (by repeat (first | (with_reducible first | exact HI0.out | apply IsS95.alloc | apply IsS95.drewN | apply IsS95.drew | apply IsS95.set_1 | refine IsS95.far ?_ NB0_113.out _) | exact HI0.out)) k_ hk⟩)); (case aO => exact (mN HO_7)); (case aS => exact (keep_size (w := w) (g := g) (row := none) (by repeat (first | (with_reducible first | exact HK.out | apply KeepBut.set_ | apply keep_drewN | apply keep_drew | apply keep_alloc | refine keep_far ?_ GW113.out _) | exact HK.out)))); (case aL => have := LMc45.out; omega); intro v149 w53 ho hb hg hat; rw [← Ny148.out] at ho; have n0_ := Aside0.mk (blk_grown (bz BK113) hg (Kd.N_ne HO_7.out BK113.out (by decide))); have n1_ := Aside0.mk (IsS95.grown ((show IsS95 w0 _ g s0_0 t144 from by repeat (first | (with_reducible first | exact HI0.out | apply IsS95.alloc | apply IsS95.drewN | apply IsS95.drew | apply IsS95.set_1 | refine IsS95.far ?_ NB0_113.out _) | exact HI0.out))) hg (IsS95.own_neN HI0.out HO_7.out (by decide))); have n2_ := Aside0.mk (below_weaken (by repeat (first | (with_reducible first | exact HB.out | apply below_alloc | apply pw_below_drewN | apply below_drew1 | refine below_set ?_ (IsS95.ge HI0.out) | refine below_set ?_ GE113.out) | exact HB.out)) HL.out hb); have n3_ := Aside0.mk (KeepBut.trans (by repeat (first | (with_reducible first | exact HK.out | apply KeepBut.set_ | apply keep_drewN | apply keep_drew | apply keep_alloc | refine keep_far ?_ GW113.out _) | exact HK.out)) (KeepBut.of_grown hg g) (Kd.N_base2 HO_7.out)); have n4_ := Aside0.mk (ho); clear BK113 HI0 HB HK HO_7 HO147; have BK113 := n0_; have HI0 := n1_; have HB := n2_; have HK := n3_; have HO150 := n4_; clear n0_ n1_ n2_ n3_ n4_ ho hb hg hat))
          go_roundg k2
          case measure => have := HJ3.out; have := HK2.out; omega
          case rel => exact ⟨(y148), (wrap64 (x8_2 - 1)), (t144), (by first | rfl | (simp; done) | (simp [*]; done)), H', ⟨by have := HJ3.out; have := HK2.out; omega⟩, ⟨nz HO150⟩, ⟨bz BK113⟩, ⟨by repeat (first | (with_reducible first | exact HI0.out | apply IsS95.alloc | apply IsS95.drewN | apply IsS95.drew | apply IsS95.set_1 | refine IsS95.far ?_ NB0_113.out _) | exact HI0.out)⟩, ⟨by repeat (first | (with_reducible first | exact HK.out | apply KeepBut.set_ | apply keep_drewN | apply keep_drew | apply keep_alloc | refine keep_far ?_ GW113.out _) | exact HK.out)⟩, ⟨by repeat (first | (with_reducible first | exact HB.out | apply below_alloc | apply pw_below_drewN | apply below_drew1 | refine below_set ?_ (IsS95.ge HI0.out) | refine below_set ?_ GE113.out) | exact HB.out)⟩⟩
         ·rw [if_neg c45] at H
          exact absurd H (by simp)
        ·rw [if_neg c40] at H
         exact absurd H (by simp)
       ·rw [if_neg c39] at H
        exact absurd H (by simp)
      ·rw [if_neg c37] at H
       have c37b0 : decide (0 < x8_2) = false := decide_eq_false c37
       clear c37
       have H' := Aside0.mk H
       clear H
       go_wp2
       go_loopg [7] k2 (fun kq v7 w' => ∃ (x7_3 : List (List (S78))) (x1001_3 : Int), Aside0 (spec_l20Term.l1 kq x7_3 s0_0 x1001_3 = some (r1, r2)) ∧ Aside0 (kq ≤ k2) ∧ Aside0 (Kd.N (Kd.slice 78 k78) 33 w' w.heap.size (fun k_ => (w.heap.size ≤ k_) ∧ k_ ≠ gb113 ∧ k_ ≠ g) v7 x7_3) ∧ Aside0 (w'.heap[gb113]? = some (.cells #[.int .i64 a1_0, (.slice A1_1 l1_1.length c1_1)] 25 (0, 0))) ∧ Aside0 (IsS95 w0 w' g s0_0 x1001_3) ∧ Aside0 (KeepBut w w' g none) ∧ Aside0 (Below w0.heap.size w0 w'))
       case atStart => exact ⟨(x7_2), (x1001_2), H', ⟨Nat.le_refl _⟩, ⟨nz HO_7⟩, ⟨bz BK113⟩, ⟨by repeat (first | (with_reducible first | exact HI0.out | apply IsS95.alloc | apply IsS95.drewN | apply IsS95.drew | apply IsS95.set_1 | refine IsS95.far ?_ NB0_113.out _) | exact HI0.out)⟩, ⟨by repeat (first | (with_reducible first | exact HK.out | apply KeepBut.set_ | apply keep_drewN | apply keep_drew | apply keep_alloc | refine keep_far ?_ GW113.out _) | exact HK.out)⟩, ⟨by repeat (first | (with_reducible first | exact HB.out | apply below_alloc | apply pw_below_drewN | apply below_drew1 | refine below_set ?_ (IsS95.ge HI0.out) | refine below_set ?_ GE113.out) | exact HB.out)⟩⟩
       case round =>
        clear H'
        try clear c1
        try clear p1
        try clear q1
        try clear hx1
        try clear p2
        try clear c3
        try clear c4
        try clear c5
        try clear c6
        try clear c6b0
        try clear c6b1
        try clear c6b2
        try clear p6
        try clear c7
        try clear c10
        try clear c13
        try clear p13
        try clear q13
        try clear hx13
        try clear p14
        try clear q14
        try clear hx14
        try clear c15
        try clear c15b0
        try clear c16
        try clear c16b0
        try clear c37
        try clear c37b0
        try clear c39
        try clear c39b0
        try clear c40
        try clear c40b0
        try clear c45
        try clear c46
        try clear hcz11_0
        try clear hcz11_1
        try clear hcz47_0
        try clear hcz47_1
        try clear hcz49_0
        try clear hcz49_1
        try clear hcz8_0
        try clear hcz8_1
        try clear hfz11_0
        try clear hfz11_1
        try clear hfz47_0
        try clear hfz47_1
        try clear hfz49_0
        try clear hfz49_1
        try clear hfz8_0
        try clear hfz8_1
        try clear hx133_0
        try clear hx141_0
        try clear p1
        try clear p13
        try clear p133
        try clear p141
        try clear p2
        try clear p6
        try clear q1
        try clear q13
        try clear q133
        try clear q141
        obtain ⟨x7_3, x1001_3, HA, HK3, HO_7, BK113, HI0, HK, HB⟩ := hrel
        cases gk with
        | zero => exact absurd HA.out (by simp [spec_l20Term.l1])
        | succ k3 =>
         have H := HA.out
         clear HA
         simp only [spec_l20Term.l1] at H
         by_cases c55 : (x7_3.length : Int) > 1
         ·rw [if_pos c55] at H
          have c55b0 : decide (1 < (x7_3.length : Int)) = true := decide_eq_true c55
          have c55b1 : decide (1 < x7_3.length) = true := decide_eq_true (by omega)
          clear c55
          replace H := Option.bind_eq_some_iff.mp H
          obtain ⟨⟨t151, t152⟩, A560, H⟩ := H
          replace H : ((some (([] : List (S78)) : List (S78))).bind fun y153 => (if 0 ≤ t151 then (if t151 < (x7_3.length : Int) then (if y153.length + (rd_L3 x7_3 t151).length < 5864062014805 then ((some (y153 ++ (rd_L3 x7_3 t151) : List (S78))).bind fun y157 => (if 0 ≤ (wrap64 (t151 + 1)) then (if (wrap64 (t151 + 1)) < (x7_3.length : Int) then (if y157.length + (rd_L3 x7_3 (wrap64 (t151 + 1))).length < 5864062014805 then ((some (y157 ++ (rd_L3 x7_3 (wrap64 (t151 + 1))) : List (S78))).bind fun y161 => ((spec_l20Rd_pick.f k3 s0_0 t152 2).bind fun bt164 => (if y161.length < 5864062014805 then ((some (([] : List (List (S78))) : List (List (S78)))).bind fun y169 => (if t151 ≤ (x7_3.length : Int) then ((some (x7_3.take (t151 : Int).toNat : List (List (S78)))).bind fun y172 => (if y169.length + y172.length < 5864062014805 then ((some (y169 ++ y172 : List (List (S78)))).bind fun y177 => (if y177.length < 5864062014805 then ((some (y177 ++ [(y161 ++ [(⟨wrap64 (1 + bt164.1), 0, 0⟩ : S78)])] : List (List (S78)))).bind fun y180 => (if 0 ≤ (wrap64 (t151 + 2)) then (if (wrap64 (t151 + 2)) ≤ (x7_3.length : Int) then ((some (x7_3.drop ((wrap64 (t151 + 2)) : Int).toNat : List (List (S78)))).bind fun y183 => (if y180.length + y183.length < 5864062014805 then (spec_l20Term.l1 k3 (y180 ++ y183) s0_0 bt164.2) else (none))) else (none)) else (none))) else (none))) else (none))) else (none))) else (none)))) else (none)) else (none)) else (none))) else (none)) else (none)) else (none))) = some (r1, r2) := H
          have A56 := Aside0.mk A560
          clear A560
          obtain ⟨y153, hy153⟩ : ∃ y_ : List (S78), y_ = (([] : List (S78))) := ⟨_, rfl⟩
          replace H : (if 0 ≤ t151 then (if t151 < (x7_3.length : Int) then (if y153.length + (rd_L3 x7_3 t151).length < 5864062014805 then ((some (y153 ++ (rd_L3 x7_3 t151) : List (S78))).bind fun y157 => (if 0 ≤ (wrap64 (t151 + 1)) then (if (wrap64 (t151 + 1)) < (x7_3.length : Int) then (if y157.length + (rd_L3 x7_3 (wrap64 (t151 + 1))).length < 5864062014805 then ((some (y157 ++ (rd_L3 x7_3 (wrap64 (t151 + 1))) : List (S78))).bind fun y161 => ((spec_l20Rd_pick.f k3 s0_0 t152 2).bind fun bt164 => (if y161.length < 5864062014805 then ((some (([] : List (List (S78))) : List (List (S78)))).bind fun y169 => (if t151 ≤ (x7_3.length : Int) then ((some (x7_3.take (t151 : Int).toNat : List (List (S78)))).bind fun y172 => (if y169.length + y172.length < 5864062014805 then ((some (y169 ++ y172 : List (List (S78)))).bind fun y177 => (if y177.length < 5864062014805 then ((some (y177 ++ [(y161 ++ [(⟨wrap64 (1 + bt164.1), 0, 0⟩ : S78)])] : List (List (S78)))).bind fun y180 => (if 0 ≤ (wrap64 (t151 + 2)) then (if (wrap64 (t151 + 2)) ≤ (x7_3.length : Int) then ((some (x7_3.drop ((wrap64 (t151 + 2)) : Int).toNat : List (List (S78)))).bind fun y183 => (if y180.length + y183.length < 5864062014805 then (spec_l20Term.l1 k3 (y180 ++ y183) s0_0 bt164.2) else (none))) else (none)) else (none))) else (none))) else (none))) else (none))) else (none)))) else (none)) else (none)) else (none))) else (none)) else (none)) else (none)) = some (r1, r2) := by first | (rw [hy153]; with_reducible exact H) | (have H2_ := (Option.bind_some _ _).symm.trans H; rw [hy153]; with_reducible exact H2_) | (have H2_ := (Option.bind_some _ _).symm.trans H; with_reducible exact H2_) | with_reducible exact H | (rw [hy153]; exact H) | exact H
          have Ny153 := Aside0.mk hy153
          clear hy153
          by_cases c57 : 0 ≤ t151
          ·rw [if_pos c57] at H
           have c57b0 : decide (0 ≤ t151) = true := decide_eq_true c57
           clear c57
           by_cases c58 : t151 < (x7_3.length : Int)
           ·rw [if_pos c58] at H
            have c58b0 : decide (t151 < (x7_3.length : Int)) = true := decide_eq_true c58
            clear c58
            by_cases c59 : y153.length + (rd_L3 x7_3 t151).length < 5864062014805
            ·rw [if_pos c59] at H
             have LMc59 := Aside0.mk c59
             clear c59
             obtain ⟨y157, hy157⟩ : ∃ y_ : List (S78), y_ = (y153 ++ (rd_L3 x7_3 t151)) := ⟨_, rfl⟩
             replace H : (if 0 ≤ (wrap64 (t151 + 1)) then (if (wrap64 (t151 + 1)) < (x7_3.length : Int) then (if y157.length + (rd_L3 x7_3 (wrap64 (t151 + 1))).length < 5864062014805 then ((some (y157 ++ (rd_L3 x7_3 (wrap64 (t151 + 1))) : List (S78))).bind fun y161 => ((spec_l20Rd_pick.f k3 s0_0 t152 2).bind fun bt164 => (if y161.length < 5864062014805 then ((some (([] : List (List (S78))) : List (List (S78)))).bind fun y169 => (if t151 ≤ (x7_3.length : Int) then ((some (x7_3.take (t151 : Int).toNat : List (List (S78)))).bind fun y172 => (if y169.length + y172.length < 5864062014805 then ((some (y169 ++ y172 : List (List (S78)))).bind fun y177 => (if y177.length < 5864062014805 then ((some (y177 ++ [(y161 ++ [(⟨wrap64 (1 + bt164.1), 0, 0⟩ : S78)])] : List (List (S78)))).bind fun y180 => (if 0 ≤ (wrap64 (t151 + 2)) then (if (wrap64 (t151 + 2)) ≤ (x7_3.length : Int) then ((some (x7_3.drop ((wrap64 (t151 + 2)) : Int).toNat : List (List (S78)))).bind fun y183 => (if y180.length + y183.length < 5864062014805 then (spec_l20Term.l1 k3 (y180 ++ y183) s0_0 bt164.2) else (none))) else (none)) else (none))) else (none))) else (none))) else (none))) else (none)))) else (none)) else (none)) else (none)) = some (r1, r2) := by first | (rw [hy157]; with_reducible exact H) | (have H2_ := (Option.bind_some _ _).symm.trans H; rw [hy157]; with_reducible exact H2_) | (have H2_ := (Option.bind_some _ _).symm.trans H; with_reducible exact H2_) | with_reducible exact H | (rw [hy157]; exact H) | exact H
             have Ny157 := Aside0.mk hy157
             clear hy157
             obtain ⟨ji60, hji60⟩ : ∃ j_ : Int, (wrap64 (t151 + 1)) = j_ := ⟨_, rfl⟩
             replace H : (if 0 ≤ (ji60) then (if (ji60) < (x7_3.length : Int) then (if y157.length + (rd_L3 x7_3 (ji60)).length < 5864062014805 then ((some (y157 ++ (rd_L3 x7_3 (ji60)) : List (S78))).bind fun y161 => ((spec_l20Rd_pick.f k3 s0_0 t152 2).bind fun bt164 => (if y161.length < 5864062014805 then ((some (([] : List (List (S78))) : List (List (S78)))).bind fun y169 => (if t151 ≤ (x7_3.length : Int) then ((some (x7_3.take (t151 : Int).toNat : List (List (S78)))).bind fun y172 => (if y169.length + y172.length < 5864062014805 then ((some (y169 ++ y172 : List (List (S78)))).bind fun y177 => (if y177.length < 5864062014805 then ((some (y177 ++ [(y161 ++ [(⟨wrap64 (1 + bt164.1), 0, 0⟩ : S78)])] : List (List (S78)))).bind fun y180 => (if 0 ≤ (wrap64 (t151 + 2)) then (if (wrap64 (t151 + 2)) ≤ (x7_3.length : Int) then ((some (x7_3.drop ((wrap64 (t151 + 2)) : Int).toNat : List (List (S78)))).bind fun y183 => (if y180.length + y183.length < 5864062014805 then (spec_l20Term.l1 k3 (y180 ++ y183) s0_0 bt164.2) else (none))) else (none)) else (none))) else (none))) else (none))) else (none))) else (none)))) else (none)) else (none)) else (none)) = some (r1, r2) := by first | (rw [hji60] at H; exact H) | (simp only [hji60] at H ⊢; exact H)
             (try rw [hji60] at A56)
             have hji60w : (IntKind.i64.wrap (t151 + 1)) = ji60 := (i64_w _).trans hji60
             by_cases c61 : 0 ≤ (ji60)
             ·rw [if_pos c61] at H
              have c61b0 : decide (0 ≤ (ji60)) = true := decide_eq_true c61
              clear c61
              by_cases c62 : (ji60) < (x7_3.length : Int)
              ·rw [if_pos c62] at H
               have c62b0 : decide ((ji60) < (x7_3.length : Int)) = true := decide_eq_true c62
               clear c62
               by_cases c63 : y157.length + (rd_L3 x7_3 (ji60)).length < 5864062014805
               ·rw [if_pos c63] at H
                have LMc63 := Aside0.mk c63
                clear c63
                obtain ⟨y161, hy161⟩ : ∃ y_ : List (S78), y_ = (y157 ++ (rd_L3 x7_3 (ji60))) := ⟨_, rfl⟩
                replace H : ((spec_l20Rd_pick.f k3 s0_0 t152 2).bind fun bt164 => (if y161.length < 5864062014805 then ((some (([] : List (List (S78))) : List (List (S78)))).bind fun y169 => (if t151 ≤ (x7_3.length : Int) then ((some (x7_3.take (t151 : Int).toNat : List (List (S78)))).bind fun y172 => (if y169.length + y172.length < 5864062014805 then ((some (y169 ++ y172 : List (List (S78)))).bind fun y177 => (if y177.length < 5864062014805 then ((some (y177 ++ [(y161 ++ [(⟨wrap64 (1 + bt164.1), 0, 0⟩ : S78)])] : List (List (S78)))).bind fun y180 => (if 0 ≤ (wrap64 (t151 + 2)) then (if (wrap64 (t151 + 2)) ≤ (x7_3.length : Int) then ((some (x7_3.drop ((wrap64 (t151 + 2)) : Int).toNat : List (List (S78)))).bind fun y183 => (if y180.length + y183.length < 5864062014805 then (spec_l20Term.l1 k3 (y180 ++ y183) s0_0 bt164.2) else (none))) else (none)) else (none))) else (none))) else (none))) else (none))) else (none))) = some (r1, r2) := by first | (rw [hy161]; with_reducible exact H) | (have H2_ := (Option.bind_some _ _).symm.trans H; rw [hy161]; with_reducible exact H2_) | (have H2_ := (Option.bind_some _ _).symm.trans H; with_reducible exact H2_) | with_reducible exact H | (rw [hy161]; exact H) | exact H
                have Ny161 := Aside0.mk hy161
                clear hy161
                replace H := Option.bind_eq_some_iff.mp H
                obtain ⟨⟨t164, t165⟩, A640, H⟩ := H
                replace H : (if y161.length < 5864062014805 then ((some (([] : List (List (S78))) : List (List (S78)))).bind fun y169 => (if t151 ≤ (x7_3.length : Int) then ((some (x7_3.take (t151 : Int).toNat : List (List (S78)))).bind fun y172 => (if y169.length + y172.length < 5864062014805 then ((some (y169 ++ y172 : List (List (S78)))).bind fun y177 => (if y177.length < 5864062014805 then ((some (y177 ++ [(y161 ++ [(⟨wrap64 (1 + t164), 0, 0⟩ : S78)])] : List (List (S78)))).bind fun y180 => (if 0 ≤ (wrap64 (t151 + 2)) then (if (wrap64 (t151 + 2)) ≤ (x7_3.length : Int) then ((some (x7_3.drop ((wrap64 (t151 + 2)) : Int).toNat : List (List (S78)))).bind fun y183 => (if y180.length + y183.length < 5864062014805 then (spec_l20Term.l1 k3 (y180 ++ y183) s0_0 t165) else (none))) else (none)) else (none))) else (none))) else (none))) else (none))) else (none)) = some (r1, r2) := H
                have A64 := Aside0.mk A640
                clear A640
                by_cases c65 : y161.length < 5864062014805
                ·rw [if_pos c65] at H
                 have LMc65 := Aside0.mk c65
                 clear c65
                 obtain ⟨y166, hy166⟩ : ∃ y_ : List (S78), y_ = (y161 ++ [(⟨wrap64 (1 + t164), 0, 0⟩ : S78)]) := ⟨_, rfl⟩
                 replace H : ((some (([] : List (List (S78))) : List (List (S78)))).bind fun y169 => (if t151 ≤ (x7_3.length : Int) then ((some (x7_3.take (t151 : Int).toNat : List (List (S78)))).bind fun y172 => (if y169.length + y172.length < 5864062014805 then ((some (y169 ++ y172 : List (List (S78)))).bind fun y177 => (if y177.length < 5864062014805 then ((some (y177 ++ [y166] : List (List (S78)))).bind fun y180 => (if 0 ≤ (wrap64 (t151 + 2)) then (if (wrap64 (t151 + 2)) ≤ (x7_3.length : Int) then ((some (x7_3.drop ((wrap64 (t151 + 2)) : Int).toNat : List (List (S78)))).bind fun y183 => (if y180.length + y183.length < 5864062014805 then (spec_l20Term.l1 k3 (y180 ++ y183) s0_0 t165) else (none))) else (none)) else (none))) else (none))) else (none))) else (none))) = some (r1, r2) := by first | (rw [hy166]; with_reducible exact H) | (have H2_ := (Option.bind_some _ _).symm.trans H; rw [hy166]; with_reducible exact H2_) | (have H2_ := (Option.bind_some _ _).symm.trans H; with_reducible exact H2_) | with_reducible exact H | (rw [hy166]; exact H) | exact H
                 have Ny166 := Aside0.mk hy166
                 clear hy166
                 obtain ⟨y169, hy169⟩ : ∃ y_ : List (List (S78)), y_ = (([] : List (List (S78)))) := ⟨_, rfl⟩
                 replace H : (if t151 ≤ (x7_3.length : Int) then ((some (x7_3.take (t151 : Int).toNat : List (List (S78)))).bind fun y172 => (if y169.length + y172.length < 5864062014805 then ((some (y169 ++ y172 : List (List (S78)))).bind fun y177 => (if y177.length < 5864062014805 then ((some (y177 ++ [y166] : List (List (S78)))).bind fun y180 => (if 0 ≤ (wrap64 (t151 + 2)) then (if (wrap64 (t151 + 2)) ≤ (x7_3.length : Int) then ((some (x7_3.drop ((wrap64 (t151 + 2)) : Int).toNat : List (List (S78)))).bind fun y183 => (if y180.length + y183.length < 5864062014805 then (spec_l20Term.l1 k3 (y180 ++ y183) s0_0 t165) else (none))) else (none)) else (none))) else (none))) else (none))) else (none)) = some (r1, r2) := by first | (rw [hy169]; with_reducible exact H) | (have H2_ := (Option.bind_some _ _).symm.trans H; rw [hy169]; with_reducible exact H2_) | (have H2_ := (Option.bind_some _ _).symm.trans H; with_reducible exact H2_) | with_reducible exact H | (rw [hy169]; exact H) | exact H
                 have Ny169 := Aside0.mk hy169
                 clear hy169
                 have c66b0 := eq_true (oda : 0 ≤ t151)
                 by_cases c67 : t151 ≤ (x7_3.length : Int)
                 ·rw [if_pos c67] at H
                  have c67b0 := eq_true c67
                  have c67b1 : decide (t151 ≤ (x7_3.length : Int)) = true := decide_eq_true c67
                  clear c67
                  obtain ⟨y172, hy172⟩ : ∃ y_ : List (List (S78)), y_ = (x7_3.take (t151 : Int).toNat) := ⟨_, rfl⟩
                  replace H : (if y169.length + y172.length < 5864062014805 then ((some (y169 ++ y172 : List (List (S78)))).bind fun y177 => (if y177.length < 5864062014805 then ((some (y177 ++ [y166] : List (List (S78)))).bind fun y180 => (if 0 ≤ (wrap64 (t151 + 2)) then (if (wrap64 (t151 + 2)) ≤ (x7_3.length : Int) then ((some (x7_3.drop ((wrap64 (t151 + 2)) : Int).toNat : List (List (S78)))).bind fun y183 => (if y180.length + y183.length < 5864062014805 then (spec_l20Term.l1 k3 (y180 ++ y183) s0_0 t165) else (none))) else (none)) else (none))) else (none))) else (none)) = some (r1, r2) := by first | (rw [hy172]; with_reducible exact H) | (have H2_ := (Option.bind_some _ _).symm.trans H; rw [hy172]; with_reducible exact H2_) | (have H2_ := (Option.bind_some _ _).symm.trans H; with_reducible exact H2_) | with_reducible exact H | (rw [hy172]; exact H) | exact H
                  have Ny172 := Aside0.mk hy172
                  clear hy172
                  by_cases c68 : y169.length + y172.length < 5864062014805
                  ·rw [if_pos c68] at H
                   have LMc68 := Aside0.mk c68
                   clear c68
                   obtain ⟨y177, hy177⟩ : ∃ y_ : List (List (S78)), y_ = (y169 ++ y172) := ⟨_, rfl⟩
                   replace H : (if y177.length < 5864062014805 then ((some (y177 ++ [y166] : List (List (S78)))).bind fun y180 => (if 0 ≤ (wrap64 (t151 + 2)) then (if (wrap64 (t151 + 2)) ≤ (x7_3.length : Int) then ((some (x7_3.drop ((wrap64 (t151 + 2)) : Int).toNat : List (List (S78)))).bind fun y183 => (if y180.length + y183.length < 5864062014805 then (spec_l20Term.l1 k3 (y180 ++ y183) s0_0 t165) else (none))) else (none)) else (none))) else (none)) = some (r1, r2) := by first | (rw [hy177]; with_reducible exact H) | (have H2_ := (Option.bind_some _ _).symm.trans H; rw [hy177]; with_reducible exact H2_) | (have H2_ := (Option.bind_some _ _).symm.trans H; with_reducible exact H2_) | with_reducible exact H | (rw [hy177]; exact H) | exact H
                   have Ny177 := Aside0.mk hy177
                   clear hy177
                   by_cases c69 : y177.length < 5864062014805
                   ·rw [if_pos c69] at H
                    have LMc69 := Aside0.mk c69
                    clear c69
                    obtain ⟨y180, hy180⟩ : ∃ y_ : List (List (S78)), y_ = (y177 ++ [y166]) := ⟨_, rfl⟩
                    replace H : (if 0 ≤ (wrap64 (t151 + 2)) then (if (wrap64 (t151 + 2)) ≤ (x7_3.length : Int) then ((some (x7_3.drop ((wrap64 (t151 + 2)) : Int).toNat : List (List (S78)))).bind fun y183 => (if y180.length + y183.length < 5864062014805 then (spec_l20Term.l1 k3 (y180 ++ y183) s0_0 t165) else (none))) else (none)) else (none)) = some (r1, r2) := by first | (rw [hy180]; with_reducible exact H) | (have H2_ := (Option.bind_some _ _).symm.trans H; rw [hy180]; with_reducible exact H2_) | (have H2_ := (Option.bind_some _ _).symm.trans H; with_reducible exact H2_) | with_reducible exact H | (rw [hy180]; exact H) | exact H
                    have Ny180 := Aside0.mk hy180
                    clear hy180
                    obtain ⟨ji70, hji70⟩ : ∃ j_ : Int, (wrap64 (t151 + 2)) = j_ := ⟨_, rfl⟩
                    replace H : (if 0 ≤ (ji70) then (if (ji70) ≤ (x7_3.length : Int) then ((some (x7_3.drop ((ji70) : Int).toNat : List (List (S78)))).bind fun y183 => (if y180.length + y183.length < 5864062014805 then (spec_l20Term.l1 k3 (y180 ++ y183) s0_0 t165) else (none))) else (none)) else (none)) = some (r1, r2) := by first | (rw [hji70] at H; exact H) | (simp only [hji70] at H ⊢; exact H)
                    (try rw [hji70] at A56)
                    (try rw [hji70] at A64)
                    have hji70w : (IntKind.i64.wrap (t151 + 2)) = ji70 := (i64_w _).trans hji70
                    by_cases c71 : 0 ≤ (ji70)
                    ·rw [if_pos c71] at H
                     have c71b0 := eq_true c71
                     have c71b1 : decide (0 ≤ (ji70)) = true := decide_eq_true c71
                     clear c71
                     by_cases c72 : (ji70) ≤ (x7_3.length : Int)
                     ·rw [if_pos c72] at H
                      have c72b0 := eq_true c72
                      have c72b1 : decide ((ji70) ≤ (x7_3.length : Int)) = true := decide_eq_true c72
                      clear c72
                      obtain ⟨y183, hy183⟩ : ∃ y_ : List (List (S78)), y_ = (x7_3.drop ((ji70) : Int).toNat) := ⟨_, rfl⟩
                      replace H : (if y180.length + y183.length < 5864062014805 then (spec_l20Term.l1 k3 (y180 ++ y183) s0_0 t165) else (none)) = some (r1, r2) := by first | (rw [hy183]; with_reducible exact H) | (have H2_ := (Option.bind_some _ _).symm.trans H; rw [hy183]; with_reducible exact H2_) | (have H2_ := (Option.bind_some _ _).symm.trans H; with_reducible exact H2_) | with_reducible exact H | (rw [hy183]; exact H) | exact H
                      have Ny183 := Aside0.mk hy183
                      clear hy183
                      by_cases c73 : y180.length + y183.length < 5864062014805
                      ·rw [if_pos c73] at H
                       have LMc73 := Aside0.mk c73
                       clear c73
                       obtain ⟨y188, hy188⟩ : ∃ y_ : List (List (S78)), y_ = (y180 ++ y183) := ⟨_, rfl⟩
                       replace H : (spec_l20Term.l1 k3 y188 s0_0 t165) = some (r1, r2) := by first | (rw [hy188]; with_reducible exact H) | (have H2_ := (Option.bind_some _ _).symm.trans H; rw [hy188]; with_reducible exact H2_) | (have H2_ := (Option.bind_some _ _).symm.trans H; with_reducible exact H2_) | with_reducible exact H | (rw [hy188]; exact H) | exact H
                       have Ny188 := Aside0.mk hy188
                       clear hy188
                       have H' := Aside0.mk H
                       clear H
                       obtain ⟨Ao74, co74, eo74⟩ := Kd.N_slice HO_7.out
                       subst eo74
                       try go_wp2_with (first | ((with_reducible refine gate_callee (f := 57) rfl ?_); refine goesL_ (some 72) rfl rfl Try.func57 kr rfl #[.pointer (some ⟨g, 0, none⟩), .int .i64 (wrap64 ((x7_3.length : Int) - 1))] rfl lm ?_; (with_reducible refine (spec_l20Rd_pick.calls k3 g s0_0 x1001_3 (wrap64 ((x7_3.length : Int) - 1)) t151 t152 w0 _ ?side1 ?side2 A56.out).mono ?_); (case side1 => repeat (first | (with_reducible first | exact HI0.out | apply IsS95.alloc | apply IsS95.drewN | apply IsS95.drew | apply IsS95.set_1 | refine IsS95.far ?_ NB0_113.out _) | exact HI0.out)); (case side2 => repeat (first | (with_reducible first | exact HB.out | apply below_alloc | apply pw_below_drewN | apply below_drew1 | refine below_set ?_ (IsS95.ge HI0.out) | refine below_set ?_ GE113.out) | exact HB.out)); rintro e w75 ⟨rfl, hi, hb, hk⟩; refine ⟨_, rfl, ?_⟩; have n0_ := Aside0.mk (Kd.N_mono (Kd.N_keep (Kd.N_mono (ok := fun k_ => (((w.heap.size ≤ k_)) ∧ (k_ ≠ gb113 ∧ k_ ≠ g))) (nz HO_7) (fun k_ hk_ => (⟨hk_, hk_.2.2⟩ : _ ∧ k_ ≠ g))) hk (fun _ h => h.2)) (fun _ h => h.1)); have n1_ := Aside0.mk (KeepBut.blk hk (bz BK113) NB113_0.out (by simp)); have n2_ := Aside0.mk (KeepBut.trans (by repeat (first | (with_reducible first | exact HK.out | apply KeepBut.set_ | apply keep_drewN | apply keep_drew | apply keep_alloc | refine keep_far ?_ GW113.out _) | exact HK.out)) hk (.inl rfl)); have n3_ := Aside0.mk (hb); have n4_ := Aside0.mk (hi); clear HO_7 BK113 HK HB HI0; have HO_7 := n0_; have BK113 := n1_; have HK := n2_; have HB := n3_; have HI0 := n4_; clear n0_ n1_ n2_ n3_ n4_; (try clear hb); (try clear hb2); (try clear hk); (try clear hi)))
                       have n0_ := Aside0.mk (Kd.N_drew HO_7.out)
                       have n1_ := Aside0.mk (blk_drew BK113.out)
                       have n2_ := Aside0.mk (IsS95.drew HI0.out)
                       have n3_ := Aside0.mk (keep_drew HK.out)
                       have n4_ := Aside0.mk (below_drew1 HB.out)
                       clear HO_7 BK113 HI0 HK HB
                       have HO_7 := n0_
                       have BK113 := n1_
                       have HI0 := n2_
                       have HK := n3_
                       have HB := n4_
                       clear n0_ n1_ n2_ n3_ n4_
                       have p156 : 0 ≤ (t151 : Int) := oda
                       have q156 : t151 < (x7_3.length : Int) := oda
                       obtain ⟨ad156, A156_0, c156_0, e156, hx156_0, hl156_0, hi156_0⟩ := at_L3 (Kd.N_reads' HO_7.out).2.2 t151 p156 q156
                       cases e156
                       obtain ⟨ce156, hce156, hMe156, hcc156⟩ := Kd.N_get HO_7.out [] t151 p156 (by first | exact q156 | exact oda | (have e_ := (Kd.N_reads' HO_7.out).1; omega))
                       obtain ⟨ua156_0, uc156_0, rfl, ul156_0, ge156_0⟩ := Kd.FK_slice_open hMe156
                       have hv156_0 := hcc156 0 _ rfl
                       rw [Nat.add_zero, show ((Kd.slice 78 k78)).sz = 1 from rfl, Nat.mul_one] at hv156_0
                       replace hv156_0 := Option.some.inj (hv156_0.symm.trans hx156_0)
                       injection hv156_0 with hva_ hvn_ hvc_
                       rw [hva_] at ge156_0
                       rw [hvc_] at ul156_0
                       have HL156_0 := Aside0.mk (show Kd.V k78 78 _ w.heap.size _ _ (rd_L3 x7_3 t151) from Kd.V_mk ul156_0 ge156_0)
                       clear hva_ hvn_ hvc_ ge156_0 ul156_0 hcc156 hce156
                       have HR156_0 := Aside0.mk hi156_0
                       have HC156_0 := Aside0.mk hl156_0
                       clear hi156_0 hl156_0
                       replace p156 := eq_true p156
                       replace q156 := eq_true q156
                       have p160 : 0 ≤ ((ji60) : Int) := oda
                       have q160 : (ji60) < (x7_3.length : Int) := oda
                       obtain ⟨ad160, A160_0, c160_0, e160, hx160_0, hl160_0, hi160_0⟩ := at_L3 (Kd.N_reads' HO_7.out).2.2 (ji60) p160 q160
                       obtain rfl : ad156 = ad160 := (by injection e160)
                       obtain ⟨ce160, hce160, hMe160, hcc160⟩ := Kd.N_get HO_7.out [] (ji60) p160 (by first | exact q160 | exact oda | (have e_ := (Kd.N_reads' HO_7.out).1; omega))
                       obtain ⟨ua160_0, uc160_0, rfl, ul160_0, ge160_0⟩ := Kd.FK_slice_open hMe160
                       have hv160_0 := hcc160 0 _ rfl
                       rw [Nat.add_zero, show ((Kd.slice 78 k78)).sz = 1 from rfl, Nat.mul_one] at hv160_0
                       replace hv160_0 := Option.some.inj (hv160_0.symm.trans hx160_0)
                       injection hv160_0 with hva_ hvn_ hvc_
                       rw [hva_] at ge160_0
                       rw [hvc_] at ul160_0
                       have HL160_0 := Aside0.mk (show Kd.V k78 78 _ w.heap.size _ _ (rd_L3 x7_3 (ji60)) from Kd.V_mk ul160_0 ge160_0)
                       clear hva_ hvn_ hvc_ ge160_0 ul160_0 hcc160 hce160
                       have HR160_0 := Aside0.mk hi160_0
                       have HC160_0 := Aside0.mk hl160_0
                       clear hi160_0 hl160_0
                       replace p160 := eq_true p160
                       replace q160 := eq_true q160
                       refine start_ (n := 19) (S := fun w' => w'.cell? (ad156.add (t151).toNat) = some (.slice A156_0 (rd_L3 x7_3 t151).length c156_0) ∧ w'.cell? (ad156.add ((ji60)).toNat) = some (.slice A160_0 (rd_L3 x7_3 (ji60)).length c160_0)) (ds := [16]) #[F,F,F,F,F,F,F,F,F,F,F,F,F,F,F,F,F,F,F] kr rfl rfl ⟨hx156_0, hx160_0⟩ (fun hHeld => ?_); refine with_tabW spec_l20Term.tab11 spec_l20Term.bits11 (fun HT_ HW_ => ?_)
                       generalize w75.drew = w76 at HO_7 BK113 HI0 HK HB HL156_0 HL160_0 HR156_0 HR160_0 hx156_0 hx160_0 hHeld ⊢
                       refine pu 1 (some 74) #[F,T,F,F,F,F,F,F,F,F,F,F,F,F,F,F,F,F,F] (any_of HT_.out kr) ?_
                       refine pu 2 (some 75) #[F,T,T,F,F,F,F,F,F,F,F,F,F,F,F,F,F,F,F] (any_of HT_.out kr) ?_
                       refine pu 3 (some 76) #[F,T,T,T,F,F,F,F,F,F,F,F,F,F,F,F,F,F,F] (any_of HT_.out kr) ?_
                       refine pu 6 (some 79) #[F,T,T,T,F,F,T,F,F,F,F,F,F,F,F,F,F,F,F] (any_of HT_.out kr) ?_
                       refine pu 7 (some 80) #[F,T,T,T,F,F,T,T,F,F,F,F,F,F,F,F,F,F,F] (any_of HT_.out kr) ?_
                       refine pu 8 (some 81) #[F,T,T,T,F,F,T,T,T,F,F,F,F,F,F,F,F,F,F] (any_of HT_.out kr) ?_
                       refine pu 9 (some 82) #[F,T,T,T,F,F,T,T,T,T,F,F,F,F,F,F,F,F,F] (any_of HT_.out kr) ?_
                       refine pu 12 (some 85) #[F,T,T,T,F,F,T,T,T,T,F,F,T,F,F,F,F,F,F] (any_of HT_.out kr) ?_
                       refine tk2 4 (some 77) #[F,T,T,T,T,F,T,T,T,T,F,F,T,F,F,F,F,F,F] (take_ofW HT_.out HW_.out kr) ?_
                       refine tk2 10 (some 83) #[F,T,T,T,T,F,T,T,T,T,T,F,T,F,F,F,F,F,F] (take_ofW HT_.out HW_.out kr) ?_
                       refine one_ (i := 0) (N := some 73) #[T,T,T,T,T,F,T,T,T,T,T,F,T,F,F,F,F,F,F] rfl rfl (one_of HT_.out kr) (by decide) (fun K hK => ?_)
                       refine Kd.R_lit_step k78 _ 78 ?hg (N := 73) ?hd (xs := ([] : List (S78))) (inner := []) (ok := fun _ => True) (okp := fun _ => True) ?hr ?hp (fun _ hk => hk) trivial (Below.refl _ _) (Nat.le_refl _) (by simp) ?_; (case hd => rfl); (case hg => rfl); (case hr => first | (go_simp; done) | (go_simp; rfl)); (case hp => exact (Reps.none _ _))
                       intro v154 w77 ho78 hb hg_ hnew_
                       have HS0_ := (hb.cell (World.block_lt_of_cell? _ _ (hHeld.1))).trans (hHeld.1)
                       have HS1_ := (hb.cell (World.block_lt_of_cell? _ _ (hHeld.2))).trans (hHeld.2)
                       clear hg_ hnew_
                       (first | rw [← Ny153.out] at ho78 | (simp only [Int.reduceToNat] at ho78; rw [← Ny153.out] at ho78))
                       have n0_ := Aside0.mk (Kd.N_elder' (nz HO_7) (Kd.R_base ho78) hb)
                       have n1_ := Aside0.mk (Kd.V_elder' (vz HL156_0) (Kd.R_base ho78) hb)
                       have n2_ := Aside0.mk (Kd.V_elder' (vz HL160_0) (Kd.R_base ho78) hb)
                       have n3_ := Aside0.mk (Kd.R_lower (Kd.R_newM (M := fun k_ => (w.heap.size ≤ k_)) ho78 (keep_size (w := w) (g := g) (row := none) (by repeat (first | (with_reducible first | exact HK.out | apply KeepBut.set_ | apply keep_drewN | apply keep_drew | apply keep_alloc | refine keep_far ?_ GW113.out _) | exact HK.out))) (fun k_ h_ => h_)) (keep_size (w := w) (g := g) (row := none) (by repeat (first | (with_reducible first | exact HK.out | apply KeepBut.set_ | apply keep_drewN | apply keep_drew | apply keep_alloc | refine keep_far ?_ GW113.out _) | exact HK.out))))
                       have n4_ := Aside0.mk (blk_below (bz BK113) hb)
                       have n5_ := Aside0.mk (IsS95.below (by repeat (first | (with_reducible first | exact HI0.out | apply IsS95.alloc | apply IsS95.drewN | apply IsS95.drew | apply IsS95.set_1 | refine IsS95.far ?_ NB0_113.out _) | exact HI0.out)) hb)
                       have n6_ := Aside0.mk (Kd.C_below (by repeat (first | (with_reducible exact HR156_0.out) | (with_reducible refine Kd.C_alloc ?_ _) | (with_reducible refine Kd.C_drewN ?_ _) | (with_reducible refine Kd.C_drew ?_) | exact HR156_0.out)) hb)
                       have n7_ := Aside0.mk (Kd.C_below (by repeat (first | (with_reducible exact HR160_0.out) | (with_reducible refine Kd.C_alloc ?_ _) | (with_reducible refine Kd.C_drewN ?_ _) | (with_reducible refine Kd.C_drew ?_) | exact HR160_0.out)) hb)
                       have n8_ := Aside0.mk (KeepBut.trans (by repeat (first | (with_reducible first | exact HK.out | apply KeepBut.set_ | apply keep_drewN | apply keep_drew | apply keep_alloc | refine keep_far ?_ GW113.out _) | exact HK.out)) (KeepBut.of_below hb g none) (.inl rfl))
                       have n9_ := Aside0.mk (below_step (by repeat (first | (with_reducible first | exact HB.out | apply below_alloc | apply pw_below_drewN | apply below_drew1 | refine below_set ?_ (IsS95.ge HI0.out) | refine below_set ?_ GE113.out) | exact HB.out)) hb)
                       clear HO_7 HL156_0 HL160_0 BK113 HI0 HR156_0 HR160_0 HK HB
                       have HO_7 := n0_
                       have HL156_0 := n1_
                       have HL160_0 := n2_
                       have HO155 := n3_
                       have BK113 := n4_
                       have HI0 := n5_
                       have HR156_0 := n6_
                       have HR160_0 := n7_
                       have HK := n8_
                       have HB := n9_
                       clear n0_ n1_ n2_ n3_ n4_ n5_ n6_ n7_ n8_ n9_ hb ho78
                       refine hK.out _ _ ⟨HS0_, HS1_⟩ (fun hHeld => ?_)
                       clear hK K
                       refine norm_ (a' := ?_) ?_ ?_
                       rotate_left
                       ·show Act.put _ (some 73) _ = _
                        simp only [Act.put, List.setIfInBounds_toArray, List.set_cons_zero, List.set_cons_succ, i64_w, i32_w]
                        rfl
                       refine one_ (i := 5) (N := some 78) #[T,T,T,T,T,T,T,T,T,T,T,F,T,F,F,F,F,F,F] rfl rfl (one_of HT_.out kr) (by decide) (fun K hK => ?_)
                       refine Kd.R_append_rows_step k78 w.heap.size (by rfl) (.tmp 73) (.tmp 77) 33 78 (.agg #[(.int .i64 0), (.int .i64 0), (.int .i64 0)]) 24 rfl Try.underlying33 info78 rfl (by decide) (by omega) v154 y153 (rd_L3 x7_3 t151) _ _ _ (fun k_ => (w.heap.size ≤ k_)) (fun _ => False) rfl rfl ?aO ?aR (fun _ _ h => h) (fun _ h => h.elim) ?aF (Below.refl _ _) ?aS ?aL ?_
                       (case aR => repeat (first | exact (by repeat (first | (with_reducible exact HR156_0.out) | (with_reducible refine Kd.C_alloc ?_ _) | (with_reducible refine Kd.C_drewN ?_ _) | (with_reducible refine Kd.C_drew ?_) | exact HR156_0.out)) | (with_reducible refine Kd.C_alloc ?_ _) | (with_reducible refine Kd.C_drewN ?_ _) | (with_reducible refine Kd.C_drew ?_)))
                       (case aF => exact (fun k_ hk => (Nat.le_trans (keep_size (w := w) (g := g) (row := none) (by repeat (first | (with_reducible first | exact HK.out | apply KeepBut.set_ | apply keep_drewN | apply keep_drew | apply keep_alloc | refine keep_far ?_ GW113.out _) | exact HK.out))) hk)))
                       (case aO => exact (mR HO155))
                       (case aS => exact (keep_size (w := w) (g := g) (row := none) (by repeat (first | (with_reducible first | exact HK.out | apply KeepBut.set_ | apply keep_drewN | apply keep_drew | apply keep_alloc | refine keep_far ?_ GW113.out _) | exact HK.out))))
                       (case aL => have := LMc59.out; omega)
                       intro v158 w79 ho hb hg hat
                       (first | have HS0_ := cell_grown hg (hHeld.1) (by first | (rw [add_block]; exact (HO_7.out.1 _ rfl).2) | (show some (Addr.add _ _).block ≠ _; rw [add_block]; exact (HO_7.out.1 _ rfl).2) | exact (HO_7.out.1 _ rfl).2) | have HS0_ := cell_grown hg (cell_unalloc (hHeld.1) (by first | (rw [add_block]; exact Kd.N_lt HO_7.out _ rfl) | (show (Addr.add _ _).block < _; rw [add_block]; exact Kd.N_lt HO_7.out _ rfl) | exact Kd.N_lt HO_7.out _ rfl)) (by first | (rw [add_block]; exact (HO_7.out.1 _ rfl).2) | (show some (Addr.add _ _).block ≠ _; rw [add_block]; exact (HO_7.out.1 _ rfl).2) | exact (HO_7.out.1 _ rfl).2))
                       (first | have HS1_ := cell_grown hg (hHeld.2) (by first | (rw [add_block]; exact (HO_7.out.1 _ rfl).2) | (show some (Addr.add _ _).block ≠ _; rw [add_block]; exact (HO_7.out.1 _ rfl).2) | exact (HO_7.out.1 _ rfl).2) | have HS1_ := cell_grown hg (cell_unalloc (hHeld.2) (by first | (rw [add_block]; exact Kd.N_lt HO_7.out _ rfl) | (show (Addr.add _ _).block < _; rw [add_block]; exact Kd.N_lt HO_7.out _ rfl) | exact Kd.N_lt HO_7.out _ rfl)) (by first | (rw [add_block]; exact (HO_7.out.1 _ rfl).2) | (show some (Addr.add _ _).block ≠ _; rw [add_block]; exact (HO_7.out.1 _ rfl).2) | exact (HO_7.out.1 _ rfl).2))
                       rw [← Ny157.out] at ho
                       have n0_ := Aside0.mk (Kd.N_afterv (ok := (fun k_ => (w.heap.size ≤ k_) ∧ k_ ≠ gb113 ∧ k_ ≠ g)) (nz HO_7) hg hat)
                       have n1_ := Aside0.mk (blk_grown (bz BK113) hg (Kd.R_ne HO155.out BK113.out (by decide)))
                       have n2_ := Aside0.mk (IsS95.grown ((show IsS95 w0 _ g s0_0 t152 from by repeat (first | (with_reducible first | exact HI0.out | apply IsS95.alloc | apply IsS95.drewN | apply IsS95.drew | apply IsS95.set_1 | refine IsS95.far ?_ NB0_113.out _) | exact HI0.out))) hg (IsS95.own_ne HI0.out HO155.out (by decide)))
                       have n3_ := Aside0.mk (Kd.V_afterv (ok := (fun k_ => (w.heap.size ≤ k_) ∧ some k_ ≠ (.slice (some ad156) x7_3.length co74 : Value).ownBlock ∧ k_ ≠ gb113 ∧ k_ ≠ g)) (mV HL156_0) hg hat)
                       have n4_ := Aside0.mk (Kd.V_afterv (ok := (fun k_ => (w.heap.size ≤ k_) ∧ some k_ ≠ (.slice (some ad156) x7_3.length co74 : Value).ownBlock ∧ k_ ≠ gb113 ∧ k_ ≠ g)) (mV HL160_0) hg hat)
                       have n5_ := Aside0.mk (below_weaken (by repeat (first | (with_reducible first | exact HB.out | apply below_alloc | apply pw_below_drewN | apply below_drew1 | refine below_set ?_ (IsS95.ge HI0.out) | refine below_set ?_ GE113.out) | exact HB.out)) HL.out hb)
                       have n6_ := Aside0.mk (KeepBut.trans (by repeat (first | (with_reducible first | exact HK.out | apply KeepBut.set_ | apply keep_drewN | apply keep_drew | apply keep_alloc | refine keep_far ?_ GW113.out _) | exact HK.out)) (KeepBut.of_grown hg g) (Kd.R_base2 HO155.out))
                       have n7_ := Aside0.mk (ho)
                       clear HO_7 BK113 HI0 HL156_0 HL160_0 HB HK HO155
                       have HO_7 := n0_
                       have BK113 := n1_
                       have HI0 := n2_
                       have HL156_0 := n3_
                       have HL160_0 := n4_
                       have HB := n5_
                       have HK := n6_
                       have HO159 := n7_
                       clear n0_ n1_ n2_ n3_ n4_ n5_ n6_ n7_ ho hb hg hat
                       refine hK.out _ _ ⟨HS0_, HS1_⟩ (fun hHeld => ?_)
                       clear hK K
                       refine norm_ (a' := ?_) ?_ ?_
                       rotate_left
                       ·show Act.put _ (some 78) _ = _
                        simp only [Act.put, List.setIfInBounds_toArray, List.set_cons_zero, List.set_cons_succ, i64_w, i32_w]
                        rfl
                       refine one_ (i := 11) (N := some 84) #[T,T,T,T,T,T,T,T,T,T,T,T,T,F,F,F,F,F,F] rfl rfl (one_of HT_.out kr) (by decide) (fun K hK => ?_)
                       refine Kd.R_append_rows_step k78 w.heap.size (by rfl) (.tmp 78) (.tmp 83) 33 78 (.agg #[(.int .i64 0), (.int .i64 0), (.int .i64 0)]) 24 rfl Try.underlying33 info78 rfl (by decide) (by omega) v158 y157 (rd_L3 x7_3 (ji60)) _ _ _ (fun k_ => (w.heap.size ≤ k_)) (fun _ => False) rfl rfl ?aO ?aR (fun _ _ h => h) (fun _ h => h.elim) ?aF (Below.refl _ _) ?aS ?aL ?_
                       (case aR => repeat (first | exact ((Kd.V_reads' (vz HL160_0)).2.2) | (with_reducible refine Kd.C_alloc ?_ _) | (with_reducible refine Kd.C_drewN ?_ _) | (with_reducible refine Kd.C_drew ?_)))
                       (case aF => exact (fun k_ hk => (Nat.le_trans (keep_size (w := w) (g := g) (row := none) (by repeat (first | (with_reducible first | exact HK.out | apply KeepBut.set_ | apply keep_drewN | apply keep_drew | apply keep_alloc | refine keep_far ?_ GW113.out _) | exact HK.out))) hk)))
                       (case aO => exact (rz HO159))
                       (case aS => exact (keep_size (w := w) (g := g) (row := none) (by repeat (first | (with_reducible first | exact HK.out | apply KeepBut.set_ | apply keep_drewN | apply keep_drew | apply keep_alloc | refine keep_far ?_ GW113.out _) | exact HK.out))))
                       (case aL => have := LMc63.out; omega)
                       intro v162 w80 ho hb hg hat
                       (first | have HS0_ := cell_grown hg (hHeld.1) (by first | (rw [add_block]; exact (HO_7.out.1 _ rfl).2) | (show some (Addr.add _ _).block ≠ _; rw [add_block]; exact (HO_7.out.1 _ rfl).2) | exact (HO_7.out.1 _ rfl).2) | have HS0_ := cell_grown hg (cell_unalloc (hHeld.1) (by first | (rw [add_block]; exact Kd.N_lt HO_7.out _ rfl) | (show (Addr.add _ _).block < _; rw [add_block]; exact Kd.N_lt HO_7.out _ rfl) | exact Kd.N_lt HO_7.out _ rfl)) (by first | (rw [add_block]; exact (HO_7.out.1 _ rfl).2) | (show some (Addr.add _ _).block ≠ _; rw [add_block]; exact (HO_7.out.1 _ rfl).2) | exact (HO_7.out.1 _ rfl).2))
                       (first | have HS1_ := cell_grown hg (hHeld.2) (by first | (rw [add_block]; exact (HO_7.out.1 _ rfl).2) | (show some (Addr.add _ _).block ≠ _; rw [add_block]; exact (HO_7.out.1 _ rfl).2) | exact (HO_7.out.1 _ rfl).2) | have HS1_ := cell_grown hg (cell_unalloc (hHeld.2) (by first | (rw [add_block]; exact Kd.N_lt HO_7.out _ rfl) | (show (Addr.add _ _).block < _; rw [add_block]; exact Kd.N_lt HO_7.out _ rfl) | exact Kd.N_lt HO_7.out _ rfl)) (by first | (rw [add_block]; exact (HO_7.out.1 _ rfl).2) | (show some (Addr.add _ _).block ≠ _; rw [add_block]; exact (HO_7.out.1 _ rfl).2) | exact (HO_7.out.1 _ rfl).2))
                       rw [← Ny161.out] at ho
                       have n0_ := Aside0.mk (Kd.N_afterv (ok := (fun k_ => (w.heap.size ≤ k_) ∧ k_ ≠ gb113 ∧ k_ ≠ g)) (nz HO_7) hg hat)
                       have n1_ := Aside0.mk (blk_grown (bz BK113) hg (Kd.R_ne HO159.out BK113.out (by decide)))
                       have n2_ := Aside0.mk (IsS95.grown ((show IsS95 w0 _ g s0_0 t152 from by repeat (first | (with_reducible first | exact HI0.out | apply IsS95.alloc | apply IsS95.drewN | apply IsS95.drew | apply IsS95.set_1 | refine IsS95.far ?_ NB0_113.out _) | exact HI0.out))) hg (IsS95.own_ne HI0.out HO159.out (by decide)))
                       have n3_ := Aside0.mk (Kd.V_afterv (ok := (fun k_ => (w.heap.size ≤ k_) ∧ some k_ ≠ (.slice (some ad156) x7_3.length co74 : Value).ownBlock ∧ k_ ≠ gb113 ∧ k_ ≠ g)) (vz HL156_0) hg hat)
                       have n4_ := Aside0.mk (Kd.V_afterv (ok := (fun k_ => (w.heap.size ≤ k_) ∧ some k_ ≠ (.slice (some ad156) x7_3.length co74 : Value).ownBlock ∧ k_ ≠ gb113 ∧ k_ ≠ g)) (vz HL160_0) hg hat)
                       have n5_ := Aside0.mk (below_weaken (by repeat (first | (with_reducible first | exact HB.out | apply below_alloc | apply pw_below_drewN | apply below_drew1 | refine below_set ?_ (IsS95.ge HI0.out) | refine below_set ?_ GE113.out) | exact HB.out)) HL.out hb)
                       have n6_ := Aside0.mk (KeepBut.trans (by repeat (first | (with_reducible first | exact HK.out | apply KeepBut.set_ | apply keep_drewN | apply keep_drew | apply keep_alloc | refine keep_far ?_ GW113.out _) | exact HK.out)) (KeepBut.of_grown hg g) (Kd.R_base2 HO159.out))
                       have n7_ := Aside0.mk (ho)
                       clear HO_7 BK113 HI0 HL156_0 HL160_0 HB HK HO159
                       have HO_7 := n0_
                       have BK113 := n1_
                       have HI0 := n2_
                       have HL156_0 := n3_
                       have HL160_0 := n4_
                       have HB := n5_
                       have HK := n6_
                       have HO163 := n7_
                       clear n0_ n1_ n2_ n3_ n4_ n5_ n6_ n7_ ho hb hg hat
                       refine hK.out _ _ ⟨HS0_, HS1_⟩ (fun hHeld => ?_)
                       clear hK K
                       refine norm_ (a' := ?_) ?_ ?_
                       rotate_left
                       ·show Act.put _ (some 84) _ = _
                        simp only [Act.put, List.setIfInBounds_toArray, List.set_cons_zero, List.set_cons_succ, i64_w, i32_w]
                        rfl
                       refine one_ (i := 13) (N := some 86) #[T,T,T,T,T,T,T,T,T,T,T,T,T,T,F,F,F,F,F] rfl rfl (one_of HT_.out kr) (by decide) (fun K hK => ?_)
                       refine goes_ Try.func57 kr rfl #[.pointer (some ⟨g, 0, none⟩), .int .i64 2] (by rfl) rfl rfl lm ?_
                       with_reducible refine (spec_l20Rd_pick.calls k3 g s0_0 t152 2 t164 t165 w0 _ ?side1 ?side2 A64.out).mono ?_
                       (case side1 => repeat (first | (with_reducible first | exact HI0.out | apply IsS95.alloc | apply IsS95.drewN | apply IsS95.drew | apply IsS95.set_1 | refine IsS95.far ?_ NB0_113.out _) | exact HI0.out))
                       (case side2 => repeat (first | (with_reducible first | exact HB.out | apply below_alloc | apply pw_below_drewN | apply below_drew1 | refine below_set ?_ (IsS95.ge HI0.out) | refine below_set ?_ GE113.out) | exact HB.out))
                       rintro e w81 ⟨rfl, hi, hb, hk⟩
                       have HS0_ := keep_cell hk (hHeld.1) (by first | (rw [add_block]; exact Kd.own_blk (IsS95.own_neN HI0.out HO_7.out (by decide))) | (show (Addr.add _ _).block ≠ _; rw [add_block]; exact Kd.own_blk (IsS95.own_neN HI0.out HO_7.out (by decide))) | exact Kd.own_blk (IsS95.own_neN HI0.out HO_7.out (by decide)))
                       have HS1_ := keep_cell hk (hHeld.2) (by first | (rw [add_block]; exact Kd.own_blk (IsS95.own_neN HI0.out HO_7.out (by decide))) | (show (Addr.add _ _).block ≠ _; rw [add_block]; exact Kd.own_blk (IsS95.own_neN HI0.out HO_7.out (by decide))) | exact Kd.own_blk (IsS95.own_neN HI0.out HO_7.out (by decide)))
                       refine ⟨_, rfl, ?_⟩
                       have n0_ := Aside0.mk (Kd.N_mono (Kd.N_keep (Kd.N_mono (ok := fun k_ => ((((w.heap.size ≤ k_)) ∧ (k_ ≠ gb113 ∧ k_ ≠ g)) ∧ some k_ ≠ (v162 : Value).ownBlock)) (nz HO_7) (fun k_ hk_ => (⟨hk_, hk_.1.2.2⟩ : _ ∧ k_ ≠ g))) hk (fun _ h => h.2)) (fun _ h => h.1))
                       have n1_ := Aside0.mk (KeepBut.blk hk (bz BK113) NB113_0.out (by simp))
                       have n2_ := Aside0.mk (Kd.V_mono (Kd.V_keep (Kd.V_mono (ok := fun k_ => ((((w.heap.size ≤ k_)) ∧ (some k_ ≠ (.slice (some ad156) x7_3.length co74 : Value).ownBlock ∧ (k_ ≠ gb113 ∧ k_ ≠ g))) ∧ some k_ ≠ (v162 : Value).ownBlock)) (vz HL156_0) (fun k_ hk_ => (⟨hk_, hk_.1.2.2.2⟩ : _ ∧ k_ ≠ g))) hk (fun _ h => h.2)) (fun _ h => h.1))
                       have n3_ := Aside0.mk (Kd.V_mono (Kd.V_keep (Kd.V_mono (ok := fun k_ => ((((w.heap.size ≤ k_)) ∧ (some k_ ≠ (.slice (some ad156) x7_3.length co74 : Value).ownBlock ∧ (k_ ≠ gb113 ∧ k_ ≠ g))) ∧ some k_ ≠ (v162 : Value).ownBlock)) (vz HL160_0) (fun k_ hk_ => (⟨hk_, hk_.1.2.2.2⟩ : _ ∧ k_ ≠ g))) hk (fun _ h => h.2)) (fun _ h => h.1))
                       have n4_ := Aside0.mk (Kd.R_mono (Kd.R_keep (IsS95.apart (show IsS95 w0 _ g s0_0 t152 from by repeat (first | (with_reducible first | exact HI0.out | apply IsS95.alloc | apply IsS95.drewN | apply IsS95.drew | apply IsS95.set_1 | refine IsS95.far ?_ NB0_113.out _) | exact HI0.out)) (rz HO163) (by decide)) hk (fun _ h => h.2)) (fun _ h => h.1))
                       have n5_ := Aside0.mk (KeepBut.trans (by repeat (first | (with_reducible first | exact HK.out | apply KeepBut.set_ | apply keep_drewN | apply keep_drew | apply keep_alloc | refine keep_far ?_ GW113.out _) | exact HK.out)) hk (.inl rfl))
                       have n6_ := Aside0.mk (hb)
                       have n7_ := Aside0.mk (hi)
                       clear HO_7 BK113 HL156_0 HL160_0 HO163 HK HB HI0
                       have HO_7 := n0_
                       have BK113 := n1_
                       have HL156_0 := n2_
                       have HL160_0 := n3_
                       have HO163 := n4_
                       have HK := n5_
                       have HB := n6_
                       have HI0 := n7_
                       clear n0_ n1_ n2_ n3_ n4_ n5_ n6_ n7_
                       (try clear hb)
                       (try clear hb2)
                       (try clear hk)
                       (try clear hi)
                       refine hK.out _ _ ⟨HS0_, HS1_⟩ (fun hHeld => ?_)
                       clear hK K
                       refine norm_ (a' := ?_) ?_ ?_
                       rotate_left
                       ·show Act.put _ (some 86) _ = _
                        simp only [Act.put, List.setIfInBounds_toArray, List.set_cons_zero, List.set_cons_succ, i64_w, i32_w]
                        rfl
                       refine pu 14 (some 87) #[T,T,T,T,T,T,T,T,T,T,T,T,T,T,T,F,F,F,F] (any_of HT_.out kr) ?_
                       refine pu 15 (some 88) #[T,T,T,T,T,T,T,T,T,T,T,T,T,T,T,T,F,F,F] (any_of HT_.out kr) ?_
                       refine last_ (i := 16) (N := some 89) #[T,T,T,T,T,T,T,T,T,T,T,T,T,T,T,T,T,F,F] rfl rfl (one_of HT_.out kr) (by decide) (fun K hK => ?_)
                       refine value_ (w1 := ?_) (v := ?_) (by rfl) rfl ?_ ?_
                       rotate_left 2
                       ·go_simp
                        constructor
                        ·rfl
                        ·rfl
                       refine hK.out _ _ ?_
                       clear hK K
                       refine norm_ (a' := ?_) ?_ ?_
                       rotate_left
                       ·show Act.put _ (some 89) _ = _
                        simp only [Act.put, List.setIfInBounds_toArray, List.set_cons_zero, List.set_cons_succ, i64_w, i32_w]
                        rfl
                       refine one_ (i := 17) (N := some 90) #[T,T,T,T,T,T,T,T,T,T,T,T,T,T,T,T,T,T,F] rfl rfl (one_of HT_.out kr) (by decide) (fun K hK => ?_)
                       refine Kd.R_append_step k78 w.heap.size (by rfl) (.tmp 84) (.tmp 89) 33 78 (.agg #[(.int .i64 0), (.int .i64 0), (.int .i64 0)]) 24 rfl Try.underlying33 info78 rfl (by decide) (by omega) v162 y161 (⟨wrap64 (1 + t164), 0, 0⟩ : S78) [.int .i64 (wrap64 (1 + t164)), .int .i64 0, .int .i64 0] (fun k_ => (w.heap.size ≤ k_)) (fun _ => False) rfl rfl ?aP (fun _ hk => hk.elim) ?aF ?aO (Below.refl _ _) ?aS ?aL ?_
                       (case aP => exact k78_mkM _ _ _ (⟨wrap64 (1 + t164), 0, 0⟩ : S78))
                       (case aF => exact (fun k_ hk => (Nat.le_trans (keep_size (w := w) (g := g) (row := none) (by repeat (first | (with_reducible first | exact HK.out | apply KeepBut.set_ | apply keep_drewN | apply keep_drew | apply keep_alloc | refine keep_far ?_ GW113.out _) | exact HK.out))) hk)))
                       (case aO => exact (rz HO163))
                       (case aS => exact (keep_size (w := w) (g := g) (row := none) (by repeat (first | (with_reducible first | exact HK.out | apply KeepBut.set_ | apply keep_drewN | apply keep_drew | apply keep_alloc | refine keep_far ?_ GW113.out _) | exact HK.out))))
                       (case aL => have := LMc65.out; omega)
                       intro v167 w82 ho hb hg hat
                       (first | have HS0_ := cell_grown hg (hHeld.1) (by first | (rw [add_block]; exact (HO_7.out.1 _ rfl).2) | (show some (Addr.add _ _).block ≠ _; rw [add_block]; exact (HO_7.out.1 _ rfl).2) | exact (HO_7.out.1 _ rfl).2) | have HS0_ := cell_grown hg (cell_unalloc (hHeld.1) (by first | (rw [add_block]; exact Kd.N_lt HO_7.out _ rfl) | (show (Addr.add _ _).block < _; rw [add_block]; exact Kd.N_lt HO_7.out _ rfl) | exact Kd.N_lt HO_7.out _ rfl)) (by first | (rw [add_block]; exact (HO_7.out.1 _ rfl).2) | (show some (Addr.add _ _).block ≠ _; rw [add_block]; exact (HO_7.out.1 _ rfl).2) | exact (HO_7.out.1 _ rfl).2))
                       (first | have HS1_ := cell_grown hg (hHeld.2) (by first | (rw [add_block]; exact (HO_7.out.1 _ rfl).2) | (show some (Addr.add _ _).block ≠ _; rw [add_block]; exact (HO_7.out.1 _ rfl).2) | exact (HO_7.out.1 _ rfl).2) | have HS1_ := cell_grown hg (cell_unalloc (hHeld.2) (by first | (rw [add_block]; exact Kd.N_lt HO_7.out _ rfl) | (show (Addr.add _ _).block < _; rw [add_block]; exact Kd.N_lt HO_7.out _ rfl) | exact Kd.N_lt HO_7.out _ rfl)) (by first | (rw [add_block]; exact (HO_7.out.1 _ rfl).2) | (show some (Addr.add _ _).block ≠ _; rw [add_block]; exact (HO_7.out.1 _ rfl).2) | exact (HO_7.out.1 _ rfl).2))
                       rw [← Ny166.out] at ho
                       have n0_ := Aside0.mk (Kd.N_afterv (ok := (fun k_ => (w.heap.size ≤ k_) ∧ k_ ≠ gb113 ∧ k_ ≠ g)) (nz HO_7) hg hat)
                       have n1_ := Aside0.mk (blk_grown (bz BK113) hg (Kd.R_ne HO163.out BK113.out (by decide)))
                       have n2_ := Aside0.mk (IsS95.grown ((show IsS95 w0 _ g s0_0 t165 from by repeat (first | (with_reducible first | exact HI0.out | apply IsS95.alloc | apply IsS95.drewN | apply IsS95.drew | apply IsS95.set_1 | refine IsS95.far ?_ NB0_113.out _) | exact HI0.out))) hg (IsS95.own_ne HI0.out HO163.out (by decide)))
                       have n3_ := Aside0.mk (Kd.V_afterv (ok := (fun k_ => (w.heap.size ≤ k_) ∧ some k_ ≠ (.slice (some ad156) x7_3.length co74 : Value).ownBlock ∧ k_ ≠ gb113 ∧ k_ ≠ g)) (vz HL156_0) hg hat)
                       have n4_ := Aside0.mk (Kd.V_afterv (ok := (fun k_ => (w.heap.size ≤ k_) ∧ some k_ ≠ (.slice (some ad156) x7_3.length co74 : Value).ownBlock ∧ k_ ≠ gb113 ∧ k_ ≠ g)) (vz HL160_0) hg hat)
                       have n5_ := Aside0.mk (below_weaken (by repeat (first | (with_reducible first | exact HB.out | apply below_alloc | apply pw_below_drewN | apply below_drew1 | refine below_set ?_ (IsS95.ge HI0.out) | refine below_set ?_ GE113.out) | exact HB.out)) HL.out hb)
                       have n6_ := Aside0.mk (KeepBut.trans (by repeat (first | (with_reducible first | exact HK.out | apply KeepBut.set_ | apply keep_drewN | apply keep_drew | apply keep_alloc | refine keep_far ?_ GW113.out _) | exact HK.out)) (KeepBut.of_grown hg g) (Kd.R_base2 HO163.out))
                       have n7_ := Aside0.mk (ho)
                       clear HO_7 BK113 HI0 HL156_0 HL160_0 HB HK HO163
                       have HO_7 := n0_
                       have BK113 := n1_
                       have HI0 := n2_
                       have HL156_0 := n3_
                       have HL160_0 := n4_
                       have HB := n5_
                       have HK := n6_
                       have HO168 := n7_
                       clear n0_ n1_ n2_ n3_ n4_ n5_ n6_ n7_ ho hb hg hat
                       refine hK.out _ _ ⟨HS0_, HS1_⟩ (fun hHeld => ?_)
                       clear hK K
                       refine norm_ (a' := ?_) ?_ ?_
                       rotate_left
                       ·show Act.put _ (some 90) _ = _
                        simp only [Act.put, List.setIfInBounds_toArray, List.set_cons_zero, List.set_cons_succ, i64_w, i32_w]
                        rfl
                       refine pu 18 (some 11) #[T,T,T,T,T,T,T,T,T,T,T,T,T,T,T,T,T,T,T] (any_of HT_.out kr) ?_
                       refine done_ (done_of HT_.out kr) ?_
                       try go_wp2_with (first | ((with_reducible refine gate_dst (N := 91) rfl ?_); refine Kd.N_lit (Kd.slice 78 k78) _ 33 ?hg (N' := 91) ?hd (xs := ([] : List (List (S78)))) (inner := []) (ok := (fun k_ => (w.heap.size ≤ k_) ∧ some k_ ≠ (.slice (some ad156) x7_3.length co74 : Value).ownBlock ∧ some k_ ≠ (v167 : Value).ownBlock ∧ k_ ≠ gb113 ∧ k_ ≠ g)) (okp := (fun k_ => (w.heap.size ≤ k_) ∧ some k_ ≠ (.slice (some ad156) x7_3.length co74 : Value).ownBlock ∧ some k_ ≠ (v167 : Value).ownBlock ∧ k_ ≠ gb113 ∧ k_ ≠ g)) ?hr ?hp (fun _ hk => hk) ((show ∀ k_, w82.heap.size ≤ k_ → (fun k_ => (w.heap.size ≤ k_) ∧ some k_ ≠ (.slice (some ad156) x7_3.length co74 : Value).ownBlock ∧ some k_ ≠ (v167 : Value).ownBlock ∧ k_ ≠ gb113 ∧ k_ ≠ g) k_ from fun k_ hk => ⟨(Nat.le_trans (keep_size (w := w) (g := g) (row := none) (by repeat (first | (with_reducible first | exact HK.out | apply KeepBut.set_ | apply keep_drewN | apply keep_drew | apply keep_alloc | refine keep_far ?_ GW113.out _) | exact HK.out))) hk), Kd.fresh' (Kd.N_lt (nz HO_7)) k_ hk, Kd.fresh' (Kd.R_lt (rz HO168)) k_ hk, Kd.freshB (bz BK113) k_ hk, IsS95.fresh (by repeat (first | (with_reducible first | exact HI0.out | apply IsS95.alloc | apply IsS95.drewN | apply IsS95.drew | apply IsS95.set_1 | refine IsS95.far ?_ NB0_113.out _) | exact HI0.out)) k_ hk⟩) _ (Nat.le_refl _)) (Below.refl _ _) (Nat.le_refl _) (by simp) ?_; (case hd => rfl); (case hg => rfl); (case hr => first | (go_simp; done) | (go_simp; rfl)); (case hp => exact (Reps.none _ _)); intro v170 w83 ho84 hb hg_ hnew_; clear hg_ hnew_; (first | rw [← Ny169.out] at ho84 | (simp only [Int.reduceToNat] at ho84; rw [← Ny169.out] at ho84)); have n0_ := Aside0.mk (Kd.N_elder' (nz HO_7) (Kd.N_base ho84) hb); have n1_ := Aside0.mk (Kd.V_elder' (vz HL156_0) (Kd.N_base ho84) hb); have n2_ := Aside0.mk (Kd.V_elder' (vz HL160_0) (Kd.N_base ho84) hb); have n3_ := Aside0.mk (Kd.R_below (rz HO168) hb); have n4_ := Aside0.mk (Kd.N_lower ho84 (keep_size (w := w) (g := g) (row := none) (by repeat (first | (with_reducible first | exact HK.out | apply KeepBut.set_ | apply keep_drewN | apply keep_drew | apply keep_alloc | refine keep_far ?_ GW113.out _) | exact HK.out)))); have n5_ := Aside0.mk (blk_below (bz BK113) hb); have n6_ := Aside0.mk (IsS95.below (by repeat (first | (with_reducible first | exact HI0.out | apply IsS95.alloc | apply IsS95.drewN | apply IsS95.drew | apply IsS95.set_1 | refine IsS95.far ?_ NB0_113.out _) | exact HI0.out)) hb); have n7_ := Aside0.mk (KeepBut.trans (by repeat (first | (with_reducible first | exact HK.out | apply KeepBut.set_ | apply keep_drewN | apply keep_drew | apply keep_alloc | refine keep_far ?_ GW113.out _) | exact HK.out)) (KeepBut.of_below hb g none) (.inl rfl)); have n8_ := Aside0.mk (below_step (by repeat (first | (with_reducible first | exact HB.out | apply below_alloc | apply pw_below_drewN | apply below_drew1 | refine below_set ?_ (IsS95.ge HI0.out) | refine below_set ?_ GE113.out) | exact HB.out)) hb); clear HO_7 HL156_0 HL160_0 HO168 BK113 HI0 HK HB; have HO_7 := n0_; have HL156_0 := n1_; have HL160_0 := n2_; have HO168 := n3_; have HO171 := n4_; have BK113 := n5_; have HI0 := n6_; have HK := n7_; have HB := n8_; clear n0_ n1_ n2_ n3_ n4_ n5_ n6_ n7_ n8_ hb ho84; have q85 : (t151 : Int) ≤ ((x7_3.length : Int) : Int) := oda; obtain ⟨i085, hi085, _, hsz85, _⟩ := info_parts info33; have hroom85 : x7_3.length ≤ co74 := (Kd.N_reads' HO_7.out).2.1; have hC85 : Kd.F (Kd.slice 78 k78) _ _ (some ad156) x7_3.length x7_3 := (Kd.V_at (base := w.heap.size) (Kd.N_V HO_7.out)).2.2; have hcut85 := cut_to (P := Try.prog) 96 33 .i64 Try.underlying96 hi085 (some ad156) x7_3.length co74 t151 oda q85 hroom85; have hr85 := Kd.F_take (m := (t151 : Int).toNat) hC85 (by omega); have hy85 : y172.length = (t151 : Int).toNat := (by rw [Ny172.out, List.length_take]; omega); rw [← Ny172.out] at hr85; rw [← hy85] at hcut85; have HO176 := Aside0.mk (show Kd.V (Kd.slice 78 k78) 33 _ w.heap.size _ (.slice (some ad156) y172.length co74) y172 from Kd.V_mk (by omega) hr85); have HC176 := Aside0.mk (show y172.length ≤ co74 from by omega); clear hr85 hC85 hroom85 hi085 hsz85; have KY85 := Aside0.mk hy85; clear hy85; replace q85 := eq_true q85) | ((with_reducible refine gate_builtin (b := .append) (xs := #[.tmp 91, .tmp 94]) rfl ?_); at_builtin; refine Kd.N_append_rows (Kd.slice 78 k78) w.heap.size rfl (.tmp 91) (.tmp 94) 96 33 (.slice none 0 0) 24 rfl Try.underlying96 info33 rfl (by decide) (by omega) v170 y169 y172 _ _ _ (fun k_ => (w.heap.size ≤ k_) ∧ some k_ ≠ (v167 : Value).ownBlock ∧ k_ ≠ gb113 ∧ k_ ≠ g) (fun k_ => ((fun k_ => (w.heap.size ≤ k_) ∧ some k_ ≠ (v167 : Value).ownBlock ∧ k_ ≠ gb113 ∧ k_ ≠ g)) k_ ∧ some k_ ≠ (v170 : Value).ownBlock) rfl rfl ?aO ?aR (fun _ hk => hk) ?aF (Below.refl _ _) ?aS ?aL ?_; (case aR => exact (by skip; exact Kd.V_F (Kd.V_mono (ok' := (fun k_ => ((fun k_ => (w.heap.size ≤ k_) ∧ some k_ ≠ (v167 : Value).ownBlock ∧ k_ ≠ gb113 ∧ k_ ≠ g)) k_ ∧ some k_ ≠ (v170 : Value).ownBlock)) (HO176.out) (fun k_ hk => ⟨⟨hk.1.1.1, ⟨hk.1.2, ⟨hk.1.1.2.1, hk.1.1.2.2⟩⟩⟩, hk.2⟩)))); (case aF => exact (fun k_ hk => ⟨(Nat.le_trans (keep_size (w := w) (g := g) (row := none) (by repeat (first | (with_reducible first | exact HK.out | apply KeepBut.set_ | apply keep_drewN | apply keep_drew | apply keep_alloc | refine keep_far ?_ GW113.out _) | exact HK.out))) hk), Kd.fresh' (Kd.R_lt (rz HO168)) k_ hk, Kd.freshB (bz BK113) k_ hk, IsS95.fresh (by repeat (first | (with_reducible first | exact HI0.out | apply IsS95.alloc | apply IsS95.drewN | apply IsS95.drew | apply IsS95.set_1 | refine IsS95.far ?_ NB0_113.out _) | exact HI0.out)) k_ hk⟩)); (case aO => exact (mN HO171)); (case aS => exact (keep_size (w := w) (g := g) (row := none) (by repeat (first | (with_reducible first | exact HK.out | apply KeepBut.set_ | apply keep_drewN | apply keep_drew | apply keep_alloc | refine keep_far ?_ GW113.out _) | exact HK.out)))); (case aL => have := LMc68.out; omega); intro v178 w86 ho hb hg hat; rw [← Ny177.out] at ho; have n0_ := Aside0.mk (Kd.N_afterv (ok := (fun k_ => (w.heap.size ≤ k_) ∧ some k_ ≠ (v167 : Value).ownBlock ∧ k_ ≠ gb113 ∧ k_ ≠ g)) (mN HO_7) hg hat); have n1_ := Aside0.mk (blk_grown (bz BK113) hg (Kd.N_ne HO171.out BK113.out (by decide))); have n2_ := Aside0.mk (IsS95.grown ((show IsS95 w0 _ g s0_0 t165 from by repeat (first | (with_reducible first | exact HI0.out | apply IsS95.alloc | apply IsS95.drewN | apply IsS95.drew | apply IsS95.set_1 | refine IsS95.far ?_ NB0_113.out _) | exact HI0.out))) hg (IsS95.own_neN HI0.out HO171.out (by decide))); have n3_ := Aside0.mk (Kd.V_afterv (ok := (fun k_ => (w.heap.size ≤ k_) ∧ some k_ ≠ (.slice (some ad156) x7_3.length co74 : Value).ownBlock ∧ some k_ ≠ (v167 : Value).ownBlock ∧ k_ ≠ gb113 ∧ k_ ≠ g)) (mV HL156_0) hg hat); have n4_ := Aside0.mk (Kd.V_afterv (ok := (fun k_ => (w.heap.size ≤ k_) ∧ some k_ ≠ (.slice (some ad156) x7_3.length co74 : Value).ownBlock ∧ some k_ ≠ (v167 : Value).ownBlock ∧ k_ ≠ gb113 ∧ k_ ≠ g)) (mV HL160_0) hg hat); have n5_ := Aside0.mk (Kd.R_over' (rz HO168) (Kd.N_typed (nz HO171)) (by decide) hg); have n6_ := Aside0.mk (Kd.V_afterv (ok := (fun k_ => (w.heap.size ≤ k_) ∧ some k_ ≠ (v167 : Value).ownBlock ∧ k_ ≠ gb113 ∧ k_ ≠ g)) (mV HO176) hg hat); have n7_ := Aside0.mk (below_weaken (by repeat (first | (with_reducible first | exact HB.out | apply below_alloc | apply pw_below_drewN | apply below_drew1 | refine below_set ?_ (IsS95.ge HI0.out) | refine below_set ?_ GE113.out) | exact HB.out)) HL.out hb); have n8_ := Aside0.mk (KeepBut.trans (by repeat (first | (with_reducible first | exact HK.out | apply KeepBut.set_ | apply keep_drewN | apply keep_drew | apply keep_alloc | refine keep_far ?_ GW113.out _) | exact HK.out)) (KeepBut.of_grown hg g) (Kd.N_base2 HO171.out)); have n9_ := Aside0.mk (ho); clear HO_7 BK113 HI0 HL156_0 HL160_0 HO168 HO176 HB HK HO171; have HO_7 := n0_; have BK113 := n1_; have HI0 := n2_; have HL156_0 := n3_; have HL160_0 := n4_; have HO168 := n5_; have HO176 := n6_; have HB := n7_; have HK := n8_; have HO179 := n9_; clear n0_ n1_ n2_ n3_ n4_ n5_ n6_ n7_ n8_ n9_ ho hb hg hat; obtain ⟨Ao88, co88, eo88⟩ := Kd.R_slice HO168.out; subst eo88) | ((with_reducible refine gate_builtin (b := .append) (xs := #[.tmp 96, .tmp 98]) rfl ?_); at_builtin; refine Kd.N_append (Kd.slice 78 k78) w.heap.size rfl (.tmp 96) (.tmp 98) 96 33 (.slice none 0 0) 24 rfl Try.underlying96 info33 rfl (by decide) (by omega) v178 y177 y166 [.slice Ao88 y166.length co88] (fun k_ => (w.heap.size ≤ k_) ∧ k_ ≠ gb113 ∧ k_ ≠ g) (fun k_ => ((fun k_ => (w.heap.size ≤ k_) ∧ k_ ≠ gb113 ∧ k_ ≠ g)) k_ ∧ some k_ ≠ (v178 : Value).ownBlock) rfl rfl ?aP (fun _ hk => hk) ?aF ?aO (Below.refl _ _) ?aS ?aL ?_; (case aP => exact (Kd.FK_slice_mk (Kd.R_reads' (Kd.R_mono (ok' := (fun k_ => ((fun k_ => (w.heap.size ≤ k_) ∧ k_ ≠ gb113 ∧ k_ ≠ g)) k_ ∧ some k_ ≠ (v178 : Value).ownBlock)) (IsS95.apart HI0.out (Kd.R_types (Kd.R_apart' (HO168.out) (Kd.N_typed HO179.out) (by decide)) BK113.out (by decide)) (by decide)) (fun k_ hk => ⟨⟨hk.1.1.1, ⟨hk.1.2, hk.2⟩⟩, hk.1.1.2⟩))).2.1 (Kd.R_F (Kd.R_mono (ok' := (fun k_ => ((fun k_ => (w.heap.size ≤ k_) ∧ k_ ≠ gb113 ∧ k_ ≠ g)) k_ ∧ some k_ ≠ (v178 : Value).ownBlock)) (IsS95.apart HI0.out (Kd.R_types (Kd.R_apart' (HO168.out) (Kd.N_typed HO179.out) (by decide)) BK113.out (by decide)) (by decide)) (fun k_ hk => ⟨⟨hk.1.1.1, ⟨hk.1.2, hk.2⟩⟩, hk.1.1.2⟩))))); (case aF => exact (fun k_ hk => ⟨(Nat.le_trans (keep_size (w := w) (g := g) (row := none) (by repeat (first | (with_reducible first | exact HK.out | apply KeepBut.set_ | apply keep_drewN | apply keep_drew | apply keep_alloc | refine keep_far ?_ GW113.out _) | exact HK.out))) hk), Kd.freshB (bz BK113) k_ hk, IsS95.fresh (by repeat (first | (with_reducible first | exact HI0.out | apply IsS95.alloc | apply IsS95.drewN | apply IsS95.drew | apply IsS95.set_1 | refine IsS95.far ?_ NB0_113.out _) | exact HI0.out)) k_ hk⟩)); (case aO => exact (mN HO179)); (case aS => exact (keep_size (w := w) (g := g) (row := none) (by repeat (first | (with_reducible first | exact HK.out | apply KeepBut.set_ | apply keep_drewN | apply keep_drew | apply keep_alloc | refine keep_far ?_ GW113.out _) | exact HK.out)))); (case aL => have := LMc69.out; omega); intro v181 w87 ho hb hg hat; rw [← Ny180.out] at ho; have n0_ := Aside0.mk (Kd.N_afterv (ok := (fun k_ => (w.heap.size ≤ k_) ∧ some k_ ≠ (.slice Ao88 y166.length co88 : Value).ownBlock ∧ k_ ≠ gb113 ∧ k_ ≠ g)) (nz HO_7) hg hat); have n1_ := Aside0.mk (blk_grown (bz BK113) hg (Kd.N_ne HO179.out BK113.out (by decide))); have n2_ := Aside0.mk (IsS95.grown ((show IsS95 w0 _ g s0_0 t165 from by repeat (first | (with_reducible first | exact HI0.out | apply IsS95.alloc | apply IsS95.drewN | apply IsS95.drew | apply IsS95.set_1 | refine IsS95.far ?_ NB0_113.out _) | exact HI0.out))) hg (IsS95.own_neN HI0.out HO179.out (by decide))); have n3_ := Aside0.mk (Kd.V_afterv (ok := (fun k_ => (w.heap.size ≤ k_) ∧ some k_ ≠ (.slice (some ad156) x7_3.length co74 : Value).ownBlock ∧ some k_ ≠ (.slice Ao88 y166.length co88 : Value).ownBlock ∧ k_ ≠ gb113 ∧ k_ ≠ g)) (vz HL156_0) hg hat); have n4_ := Aside0.mk (Kd.V_afterv (ok := (fun k_ => (w.heap.size ≤ k_) ∧ some k_ ≠ (.slice (some ad156) x7_3.length co74 : Value).ownBlock ∧ some k_ ≠ (.slice Ao88 y166.length co88 : Value).ownBlock ∧ k_ ≠ gb113 ∧ k_ ≠ g)) (vz HL160_0) hg hat); have n5_ := Aside0.mk (Kd.V_afterv (ok := (fun k_ => (w.heap.size ≤ k_) ∧ some k_ ≠ (.slice Ao88 y166.length co88 : Value).ownBlock ∧ k_ ≠ gb113 ∧ k_ ≠ g)) (vz HO176) hg hat); have n6_ := Aside0.mk (below_weaken (by repeat (first | (with_reducible first | exact HB.out | apply below_alloc | apply pw_below_drewN | apply below_drew1 | refine below_set ?_ (IsS95.ge HI0.out) | refine below_set ?_ GE113.out) | exact HB.out)) HL.out hb); have n7_ := Aside0.mk (KeepBut.trans (by repeat (first | (with_reducible first | exact HK.out | apply KeepBut.set_ | apply keep_drewN | apply keep_drew | apply keep_alloc | refine keep_far ?_ GW113.out _) | exact HK.out)) (KeepBut.of_grown hg g) (Kd.N_base2 HO179.out)); have n8_ := Aside0.mk (ho); clear HO_7 BK113 HI0 HL156_0 HL160_0 HO176 HB HK HO179 HO168; have HO_7 := n0_; have BK113 := n1_; have HI0 := n2_; have HL156_0 := n3_; have HL160_0 := n4_; have HO176 := n5_; have HB := n6_; have HK := n7_; have HO182 := n8_; clear n0_ n1_ n2_ n3_ n4_ n5_ n6_ n7_ n8_ ho hb hg hat; have q89 : ((ji70) : Int) ≤ ((x7_3.length : Int) : Int) := oda; obtain ⟨i089, hi089, _, hsz89, _⟩ := info_parts info33; have hroom89 : x7_3.length ≤ co74 := (Kd.N_reads' HO_7.out).2.1; have hC89 : Kd.F (Kd.slice 78 k78) _ _ (some ad156) x7_3.length x7_3 := (Kd.V_at (base := w.heap.size) (Kd.N_V HO_7.out)).2.2; have q089 : (0 : Int) ≤ ((ji70) : Int) := oda; have hcut89 := cut_from (P := Try.prog) 96 33 .i64 Try.underlying96 hi089 1 hsz89 (some ad156) x7_3.length co74 (ji70) q089 q89; have hr89 := Kd.F_cut (m := ((ji70) : Int).toNat) (c := co74) hC89 (by omega) hroom89; obtain ⟨A89, hA89⟩ : ∃ Az_, Az_ = (if co74 = ((ji70) : Int).toNat then (some ad156) else ((some ad156) : Option Addr).map (·.add (((ji70) : Int).toNat * 1))) := ⟨_, rfl⟩; obtain ⟨c89, hc89⟩ : ∃ cz_, cz_ = co74 - ((ji70) : Int).toNat := ⟨_, rfl⟩; have hy89 : y183.length = x7_3.length - ((ji70) : Int).toNat := (by rw [Ny183.out, List.length_drop] <;> omega); rw [show (x7_3).drop ((ji70) : Int).toNat = y183 from Ny183.out.symm] at hr89; replace hr89 : Kd.F (Kd.slice 78 k78) _ _ A89 y183.length y183 := (by rw [hA89]; exact hr89); rw [← hy89, ← hA89, ← hc89] at hcut89; have HO187 := Aside0.mk (show Kd.V (Kd.slice 78 k78) 33 _ w.heap.size _ (.slice A89 y183.length c89) y183 from Kd.V_mk (by rw [hy89, hc89]; exact Nat.sub_le_sub_right hroom89 _) hr89); have HC187 := Aside0.mk (show y183.length ≤ c89 from by rw [hy89, hc89]; exact Nat.sub_le_sub_right hroom89 _); clear hr89 hC89 hroom89 hi089 hsz89 hc89; have KY89 := Aside0.mk hy89; have KA89 := Aside0.mk hA89; clear hy89 hA89; replace q89 := eq_true q89) | ((with_reducible refine gate_builtin (b := .append) (xs := #[.tmp 100, .tmp 104]) rfl ?_); at_builtin; refine Kd.N_append_rows (Kd.slice 78 k78) w.heap.size rfl (.tmp 100) (.tmp 104) 96 33 (.slice none 0 0) 24 rfl Try.underlying96 info33 rfl (by decide) (by omega) v181 y180 y183 _ _ _ (fun k_ => (w.heap.size ≤ k_) ∧ k_ ≠ gb113 ∧ k_ ≠ g) (fun k_ => ((fun k_ => (w.heap.size ≤ k_) ∧ k_ ≠ gb113 ∧ k_ ≠ g)) k_ ∧ some k_ ≠ (v181 : Value).ownBlock) rfl rfl ?aO ?aR (fun _ hk => hk) ?aF (Below.refl _ _) ?aS ?aL ?_; (case aR => exact (by skip; exact Kd.V_F (Kd.V_mono (ok' := (fun k_ => ((fun k_ => (w.heap.size ≤ k_) ∧ k_ ≠ gb113 ∧ k_ ≠ g)) k_ ∧ some k_ ≠ (v181 : Value).ownBlock)) (HO187.out) (fun k_ hk => ⟨⟨hk.1.1, ⟨hk.1.2.2.1, hk.1.2.2.2⟩⟩, hk.2⟩)))); (case aF => exact (fun k_ hk => ⟨(Nat.le_trans (keep_size (w := w) (g := g) (row := none) (by repeat (first | (with_reducible first | exact HK.out | apply KeepBut.set_ | apply keep_drewN | apply keep_drew | apply keep_alloc | refine keep_far ?_ GW113.out _) | exact HK.out))) hk), Kd.freshB (bz BK113) k_ hk, IsS95.fresh (by repeat (first | (with_reducible first | exact HI0.out | apply IsS95.alloc | apply IsS95.drewN | apply IsS95.drew | apply IsS95.set_1 | refine IsS95.far ?_ NB0_113.out _) | exact HI0.out)) k_ hk⟩)); (case aO => exact (nz HO182)); (case aS => exact (keep_size (w := w) (g := g) (row := none) (by repeat (first | (with_reducible first | exact HK.out | apply KeepBut.set_ | apply keep_drewN | apply keep_drew | apply keep_alloc | refine keep_far ?_ GW113.out _) | exact HK.out)))); (case aL => have := LMc73.out; omega); intro v189 w90 ho hb hg hat; rw [← Ny188.out] at ho; have n0_ := Aside0.mk (Kd.N_afterv (ok := (fun k_ => (w.heap.size ≤ k_) ∧ k_ ≠ gb113 ∧ k_ ≠ g)) (mN HO_7) hg hat); have n1_ := Aside0.mk (blk_grown (bz BK113) hg (Kd.N_ne HO182.out BK113.out (by decide))); have n2_ := Aside0.mk (IsS95.grown ((show IsS95 w0 _ g s0_0 t165 from by repeat (first | (with_reducible first | exact HI0.out | apply IsS95.alloc | apply IsS95.drewN | apply IsS95.drew | apply IsS95.set_1 | refine IsS95.far ?_ NB0_113.out _) | exact HI0.out))) hg (IsS95.own_neN HI0.out HO182.out (by decide))); have n3_ := Aside0.mk (Kd.V_afterv (ok := (fun k_ => (w.heap.size ≤ k_) ∧ some k_ ≠ (.slice (some ad156) x7_3.length co74 : Value).ownBlock ∧ k_ ≠ gb113 ∧ k_ ≠ g)) (mV HL156_0) hg hat); have n4_ := Aside0.mk (Kd.V_afterv (ok := (fun k_ => (w.heap.size ≤ k_) ∧ some k_ ≠ (.slice (some ad156) x7_3.length co74 : Value).ownBlock ∧ k_ ≠ gb113 ∧ k_ ≠ g)) (mV HL160_0) hg hat); have n5_ := Aside0.mk (Kd.V_afterv (ok := (fun k_ => (w.heap.size ≤ k_) ∧ k_ ≠ gb113 ∧ k_ ≠ g)) (mV HO176) hg hat); have n6_ := Aside0.mk (Kd.V_afterv (ok := (fun k_ => (w.heap.size ≤ k_) ∧ k_ ≠ gb113 ∧ k_ ≠ g)) (mV HO187) hg hat); have n7_ := Aside0.mk (below_weaken (by repeat (first | (with_reducible first | exact HB.out | apply below_alloc | apply pw_below_drewN | apply below_drew1 | refine below_set ?_ (IsS95.ge HI0.out) | refine below_set ?_ GE113.out) | exact HB.out)) HL.out hb); have n8_ := Aside0.mk (KeepBut.trans (by repeat (first | (with_reducible first | exact HK.out | apply KeepBut.set_ | apply keep_drewN | apply keep_drew | apply keep_alloc | refine keep_far ?_ GW113.out _) | exact HK.out)) (KeepBut.of_grown hg g) (Kd.N_base2 HO182.out)); have n9_ := Aside0.mk (ho); clear HO_7 BK113 HI0 HL156_0 HL160_0 HO176 HO187 HB HK HO182; have HO_7 := n0_; have BK113 := n1_; have HI0 := n2_; have HL156_0 := n3_; have HL160_0 := n4_; have HO176 := n5_; have HO187 := n6_; have HB := n7_; have HK := n8_; have HO190 := n9_; clear n0_ n1_ n2_ n3_ n4_ n5_ n6_ n7_ n8_ n9_ ho hb hg hat))
                       go_roundg k3
                       case measure => have := HJ3.out; have := HK2.out; have := HK3.out; omega
                       case rel => exact ⟨(y188), (t165), H', ⟨by have := HJ3.out; have := HK2.out; have := HK3.out; omega⟩, ⟨nz HO190⟩, ⟨bz BK113⟩, ⟨by repeat (first | (with_reducible first | exact HI0.out | apply IsS95.alloc | apply IsS95.drewN | apply IsS95.drew | apply IsS95.set_1 | refine IsS95.far ?_ NB0_113.out _) | exact HI0.out)⟩, ⟨by repeat (first | (with_reducible first | exact HK.out | apply KeepBut.set_ | apply keep_drewN | apply keep_drew | apply keep_alloc | refine keep_far ?_ GW113.out _) | exact HK.out)⟩, ⟨by repeat (first | (with_reducible first | exact HB.out | apply below_alloc | apply pw_below_drewN | apply below_drew1 | refine below_set ?_ (IsS95.ge HI0.out) | refine below_set ?_ GE113.out) | exact HB.out)⟩⟩
                      ·rw [if_neg c73] at H
                       exact absurd H (by simp)
                     ·rw [if_neg c72] at H
                      exact absurd H (by simp)
                    ·rw [if_neg c71] at H
                     exact absurd H (by simp)
                   ·rw [if_neg c69] at H
                    exact absurd H (by simp)
                  ·rw [if_neg c68] at H
                   exact absurd H (by simp)
                 ·rw [if_neg c67] at H
                  exact absurd H (by simp)
                ·rw [if_neg c65] at H
                 exact absurd H (by simp)
               ·rw [if_neg c63] at H
                exact absurd H (by simp)
              ·rw [if_neg c62] at H
               exact absurd H (by simp)
             ·rw [if_neg c61] at H
              exact absurd H (by simp)
            ·rw [if_neg c59] at H
             exact absurd H (by simp)
           ·rw [if_neg c58] at H
            exact absurd H (by simp)
          ·rw [if_neg c57] at H
           exact absurd H (by simp)
         ·rw [if_neg c55] at H
          have c55b0 : decide (1 < (x7_3.length : Int)) = false := decide_eq_false c55
          have c55b1 : decide (1 < x7_3.length) = false := decide_eq_false (by omega)
          clear c55
          by_cases c91 : 0 < (x7_3.length : Int)
          ·rw [if_pos c91] at H
           have c91b0 : decide (0 < (x7_3.length : Int)) = true := decide_eq_true c91
           have c91b1 : decide (0 < x7_3.length) = true := decide_eq_true (by omega)
           clear c91
           simp only [Option.some.injEq, Prod.mk.injEq] at H
           obtain ⟨rfl, rfl⟩ := H
           obtain ⟨Ao92, co92, eo92⟩ := Kd.N_slice HO_7.out
           subst eo92
           have p191 : 0 ≤ (0 : Int) := (by omega)
           have q191 : 0 < (x7_3.length : Int) := oda
           obtain ⟨ad191, A191_0, c191_0, e191, hx191_0, hl191_0, hi191_0⟩ := at_L3 (Kd.N_reads' HO_7.out).2.2 0 p191 q191
           cases e191
           obtain ⟨ce191, hce191, hMe191, hcc191⟩ := Kd.N_get HO_7.out [] 0 p191 (by first | exact q191 | exact oda | (have e_ := (Kd.N_reads' HO_7.out).1; omega))
           obtain ⟨ua191_0, uc191_0, rfl, ul191_0, ge191_0⟩ := Kd.FK_slice_open hMe191
           have hv191_0 := hcc191 0 _ rfl
           rw [Nat.add_zero, show ((Kd.slice 78 k78)).sz = 1 from rfl, Nat.mul_one] at hv191_0
           replace hv191_0 := Option.some.inj (hv191_0.symm.trans hx191_0)
           injection hv191_0 with hva_ hvn_ hvc_
           rw [hva_] at ge191_0
           rw [hvc_] at ul191_0
           have HL191_0 := Aside0.mk (show Kd.V k78 78 _ w.heap.size _ _ (rd_L3 x7_3 0) from Kd.V_mk ul191_0 ge191_0)
           clear hva_ hvn_ hvc_ ge191_0 ul191_0 hcc191 hce191
           have qi191 : (0 < x7_3.length) = True := eq_true (by omega)
           (try rw [show ((0 : Int)).toNat = 0 from rfl] at hx191_0)
           (try rw [Addr.add_zero'] at hx191_0)
           have HR191_0 := Aside0.mk hi191_0
           have HC191_0 := Aside0.mk hl191_0
           clear hi191_0 hl191_0
           replace p191 := eq_true p191
           replace q191 := eq_true q191
           go_wp2
           go_ret
           exact ⟨_, by first | rfl | (simp [errW_none, errW_some] <;> rfl) | (simp [*, errW_none, errW_some] <;> rfl), by (with_reducible repeat (first | apply Kd.V_alloc | apply Kd.V_drewN | apply Kd.V_drew)); exact Kd.V_mono HL191_0.out (fun _ hk => hk.1.1), by repeat (first | (with_reducible first | exact HI0.out | apply IsS95.alloc | apply IsS95.drewN | apply IsS95.drew | apply IsS95.set_1 | refine IsS95.far ?_ NB0_113.out _) | exact HI0.out), by repeat (first | (with_reducible first | exact HB.out | apply below_alloc | apply pw_below_drewN | apply below_drew1 | refine below_set ?_ (IsS95.ge HI0.out) | refine below_set ?_ GE113.out) | exact HB.out), by repeat (first | (with_reducible first | exact HK.out | apply KeepBut.set_ | apply keep_drewN | apply keep_drew | apply keep_alloc | refine keep_far ?_ GW113.out _) | exact HK.out)⟩
          ·rw [if_neg c91] at H
           exact absurd H (by simp)

end Go.Proofs.Ytnpjlpkbefdnlaa.QFnTwoHouses
