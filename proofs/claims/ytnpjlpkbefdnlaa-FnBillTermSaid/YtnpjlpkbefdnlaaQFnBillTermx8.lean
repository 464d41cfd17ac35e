-- Printed for this claim by a turned copy of the print (wip/myprint). Lean checks it. Squeezed. Worded. Tightened.
import Derived.Test.YtnpjlpkbefdnlaaQFnBillTermx0
import Derived.Test.YtnpjlpkbefdnlaaQFnBillTermx5
import Derived.Test.YtnpjlpkbefdnlaaQFnBillTermx6
import Derived.Test.YtnpjlpkbefdnlaaQFnBillTermx7
namespace Go.Proofs.Ytnpjlpkbefdnlaa.QFnBillTerm
open Go.RowKit Go.Proofs.YtnpjlpkbefdnlaaW.PrintWords Go.Proofs.YtnpjlpkbefdnlaaW.PrintLast Go.Proofs.YtnpjlpkbefdnlaaW.PrintMore
attribute [local go_sem] max2_int min2_int max_two min_two max_three min_three max_four min_four Opens.cell_twice   -- for this text's walks alone
set_option linter.unusedVariables false
set_option linter.unusedSimpArgs false

/-! ### spec_DrawBillTerm: function 41 -/
def spec_DrawBillTerm.f (k : Nat) (l0 : List Int) : Option (Int × List Int × (List (S41))) := (spec_l20Open.f l0).bind fun bt290 => ((spec_l20Process.f k bt290.1 bt290.2 9).bind fun bt293 => (some (bt293.1, bt293.2.1, bt293.2.2.1)))
theorem spec_DrawBillTerm.mono : ∀ a0 k, LeO (spec_DrawBillTerm.f k a0) (spec_DrawBillTerm.f (k + 1) a0) := by
 intro a0 k
 unfold spec_DrawBillTerm.f
 repeat' first
   | (with_reducible exact spec_l20Process.mono _ _ _ _)
   | (with_reducible exact LeO.refl _)
   | (with_reducible exact LeO.none _)
   | (with_reducible refine LeO.ite ?_ ?_)
   | (with_reducible refine LeO.bind ?_ (fun _ => ?_))
   | exact spec_l20Process.mono _ _ _ _
   | exact LeO.none _
   | refine LeO.ite ?_ ?_
   | refine LeO.bind ?_ (fun _ => ?_)
set_option maxHeartbeats 8000000 in
set_option maxRecDepth 100000 in
theorem spec_DrawBillTerm.calls (k : Nat) (A0 : Option Addr) (c0 : Nat) (l0 : List Int) (r1 : Int) (r2 : List Int) (r3 : List (S41)) (w : World) (hr0 : Kd.C (Kd.int .u8) w A0 l0.length l0) (hc0 : l0.length ≤ c0) (h : spec_DrawBillTerm.f k l0 = some (r1, r2, r3)) :
  Calls Try.prog 41 #[.slice A0 l0.length c0] w fun e w' => ∃ v1_ v2_ : Value, e = .returned (.tuple #[.agg #[.int .i64 r1, v1_], v2_]) ∧ Kd.R (Kd.int .i64) 3 w' w.heap.size (fun _ => True) v1_ r2 ∧ Kd.S k41 41 w' w.heap.size (fun _ => True) v2_ r3 ∧ Below w.heap.size w w' := by
 have hu25 := Try.underlying25
 have HR0 := Aside0.mk hr0
 have HC0 := Aside0.mk hc0
 clear hr0 hc0
 have HB := Aside0.mk (Below.refl w.heap.size w)
 have H : ((spec_l20Open.f l0).bind fun bt290 => ((spec_l20Process.f k bt290.1 bt290.2 9).bind fun bt293 => (some (bt293.1, bt293.2.1, bt293.2.2.1)))) = some (r1, r2, r3) := h
 clear h
 replace H := Option.bind_eq_some_iff.mp H
 obtain ⟨⟨t290, t291⟩, A20, H⟩ := H
 replace H : ((spec_l20Process.f k t290 t291 9).bind fun bt293 => (some (bt293.1, bt293.2.1, bt293.2.2.1))) = some (r1, r2, r3) := H
 have A2 := Aside0.mk A20
 clear A20
 replace H := Option.bind_eq_some_iff.mp H
 obtain ⟨⟨t293, t294, t297, t300⟩, A30, H⟩ := H
 replace H : (some (t293, t294, t297)) = some (r1, r2, r3) := H
 have A3 := Aside0.mk A30
 clear A30
 simp only [Option.some.injEq, Prod.mk.injEq] at H
 obtain ⟨rfl, rfl, rfl⟩ := H
 go_enter Try.func41, Try.ntmps41
 go_wp2_with (first | ((with_reducible refine gate_dst (N := 2) rfl ?_); refine box_event ?hg (N := 2) ?hd (cs := #[.int .i64 0, .slice none 0 0]) (t := 25) ?hr ?_; (case hd => rfl); (case hg => rfl); (case hr => first | (go_simp; done) | (go_simp; rfl)); intro gb289 hg w4 hbox hb; have n0_ := Aside0.mk (below_step bh hb); have n1_ := Aside0.mk (hbox); have n2_ := Aside0.mk ((gs (W0 := w) hg bh)); have n3_ := Aside0.mk ((gs (W0 := w) hg bh)); clear HB; have HB := n0_; have BK289 := n1_; have GW289 := n2_; have GE289 := n3_; clear n0_ n1_ n2_ n3_ hb hbox hg) | ((with_reducible refine gate_callee (f := 52) rfl ?_); refine goesL_ (some 5) rfl rfl Try.func52 kr rfl #[.slice A0 l0.length c0] rfl lm ?_; (with_reducible refine (spec_l20Open.calls _ _ l0 t290 t291 w _ ?side1 ?side2 ?side3 A2.out).mono ?_); (case side1 => repeat (first | (with_reducible first | exact HB.out | apply below_alloc | apply pw_below_drewN | apply below_drew1 | refine below_set ?_ GE289.out) | exact HB.out)); (case side2 => exact HR0.out); (case side3 => exact HC0.out); rintro e w5 ⟨g292, rfl, hi, hb, hb2⟩; refine ⟨_, rfl, ?_⟩; have n0_ := Aside0.mk (blk_below (bz BK289) hb2); have n1_ := Aside0.mk (hb); have n2_ := Aside0.mk (hi); have n3_ := Aside0.mk (IsS95.ne_blk hi (blk_below (bz BK289) hb2) (by decide)); have n4_ := Aside0.mk (Ne.symm (IsS95.ne_blk hi (blk_below (bz BK289) hb2) (by decide))); clear BK289 HB; have BK289 := n0_; have HB := n1_; have HI292 := n2_; have NB292_289 := n3_; have NB289_292 := n4_; clear n0_ n1_ n2_ n3_ n4_; (try clear hb); (try clear hb2); (try clear hk); (try clear hi)) | ((with_reducible refine gate_callee (f := 51) rfl ?_); refine goesL_ (some 6) rfl rfl Try.func51 kr rfl #[.pointer (some ⟨g292, 0, none⟩), .int .i64 9] rfl lm ?_; (with_reducible refine (spec_l20Process.calls k g292 t290 t291 9 t293 t294 t297 t300 w _ ?side1 ?side2 A3.out).mono ?_); (case side1 => repeat (first | (with_reducible first | exact HI292.out | apply IsS95.alloc | apply IsS95.drewN | apply IsS95.drew | apply IsS95.set_1 | refine IsS95.far ?_ NB292_289.out _) | exact HI292.out)); (case side2 => repeat (first | (with_reducible first | exact HB.out | apply below_alloc | apply pw_below_drewN | apply below_drew1 | refine below_set ?_ (IsS95.ge HI292.out) | refine below_set ?_ GE289.out) | exact HB.out)); rintro e w6 ⟨v295, v298, rfl, ho0, ho1, hi, hb, hk⟩; refine ⟨_, rfl, ?_⟩; have n0_ := Aside0.mk (KeepBut.blk hk (bz BK289) NB289_292.out (by simp)); have n1_ := Aside0.mk (Kd.R_lower ho0 (below_size (by repeat (first | (with_reducible first | exact HB.out | apply below_alloc | apply pw_below_drewN | apply below_drew1 | refine below_set ?_ (IsS95.ge HI292.out) | refine below_set ?_ GE289.out) | exact HB.out)))); have n2_ := Aside0.mk (Kd.S_lower ho1 (below_size (by repeat (first | (with_reducible first | exact HB.out | apply below_alloc | apply pw_below_drewN | apply below_drew1 | refine below_set ?_ (IsS95.ge HI292.out) | refine below_set ?_ GE289.out) | exact HB.out)))); have n3_ := Aside0.mk (hb); have n4_ := Aside0.mk (hi); clear BK289 HB HI292; have BK289 := n0_; have HO296 := n1_; have HO299 := n2_; have HB := n3_; have HI292 := n4_; clear n0_ n1_ n2_ n3_ n4_; (try clear hb); (try clear hb2); (try clear hk); (try clear hi); (try clear ho0); (try clear ho1); have hnb7 := NB289_292.out; have hnc7 := NB292_289.out; have hcz8_0 := cz0 BK289; have hcz8_1 := cz1 BK289; have hfz8_0 := blk_frozen BK289.out 0; have hfz8_1 := blk_frozen BK289.out 1; obtain ⟨Ao9, co9, eo9⟩ := Kd.R_slice HO296.out; subst eo9))
 refine bodyPost_ret (results_ct rfl _ _ gb289 25 #[.int .i64 t293, .slice Ao9 t294.length co9] (0, 0) _ rfl (bp BK289) Try.underlying25 rfl kr) rfl ?_
 exact ⟨_, _, by first | rfl | (simp [errW_none, errW_some] <;> rfl) | (simp [*, errW_none, errW_some] <;> rfl), by (with_reducible repeat (first | apply Kd.R_alloc | apply Kd.R_drewN | apply Kd.R_drew)); exact Kd.R_mono (Kd.R_far (p := ⟨gb289, 1, none⟩) (Kd.R_far (p := ⟨gb289, 0, none⟩) (Kd.R_types HO296.out BK289.out (by decide)) (fun _ hk => hk.2) (.int .i64 t293)) (fun _ hk => hk.2) (.slice Ao9 t294.length co9)) (fun _ hk => trivial), by (with_reducible repeat (first | apply Kd.S_alloc | apply Kd.S_drewN | apply Kd.S_drew)); exact Kd.S_mono (Kd.S_far (p := ⟨gb289, 1, none⟩) (Kd.S_far (p := ⟨gb289, 0, none⟩) (Kd.S_types HO299.out BK289.out (by decide)) (fun _ hk => hk.2) (.int .i64 t293)) (fun _ hk => hk.2) (.slice Ao9 t294.length co9)) (fun _ hk => trivial), by repeat (first | (with_reducible first | exact HB.out | apply below_alloc | apply pw_below_drewN | apply below_drew1 | refine below_set ?_ (IsS95.ge HI292.out) | refine below_set ?_ GE289.out) | exact HB.out)⟩

/-! ### impl_isSound: function 66 -/
mutual
def impl_isSound.l0 : Nat → List (S41) → List (S41) → Int → Int → Int → List Int → Option (Bool)
 | 0, _, _, _, _, _, _ => none
 | k + 1, x1, x8, x9, x10, x302000, x302001 => if x10 < x9 then (if 0 ≤ x10 then (if x10 < (x8.length : Int) then (if 0 ≤ x302000 then (impl_isSound.l1 k x1 x8 x9 x10 (shl .i64 1 x302000) 0 x302000 x302001 ((rd_T41 x8 x10).f0) ((rd_T41 x8 x10).f1) ((rd_T41 x8 x10).f2)) else (none)) else (none)) else (none)) else (some true)
def impl_isSound.l1 : Nat → List (S41) → List (S41) → Int → Int → Int → Int → Int → List Int → List (S78) → Int → Int → Option (Bool)
 | 0, _, _, _, _, _, _, _, _, _, _, _ => none
 | k + 1, x1, x8, x9, x10, x16, x17, x302000, x302001, x304000, x304001, x304002 => if x17 < x16 then ((impl_lawFrom.f k x302000 x302001 x1 x304002 x17).bind fun t304 => (if t304 = true then ((impl_lawFrom.f k x302000 x302001 x1 x304001 x17).bind fun t305 => (if t305 = true then (impl_isSound.l1 k x1 x8 x9 x10 x16 (wrap64 (x17 + 1)) x302000 x302001 x304000 x304001 x304002) else (some false))) else (impl_isSound.l1 k x1 x8 x9 x10 x16 (wrap64 (x17 + 1)) x302000 x302001 x304000 x304001 x304002))) else (impl_isSound.l0 k x1 x8 x9 (wrap64 (x10 + 1)) x302000 x302001)
end
def impl_isSound.f (k : Nat) (a0_0 : Int) (l0_1 : List Int) (l1 : List (S41)) : Option (Bool) := impl_isSound.l0 k l1 l1 (l1.length : Int) 0 a0_0 l0_1
theorem impl_isSound.mono_l : ∀ k, (∀ y0 y1 y2 y3 y4 y5, LeO (impl_isSound.l0 k y0 y1 y2 y3 y4 y5) (impl_isSound.l0 (k + 1) y0 y1 y2 y3 y4 y5)) ∧ (∀ y0 y1 y2 y3 y4 y5 y6 y7 y8 y9 y10, LeO (impl_isSound.l1 k y0 y1 y2 y3 y4 y5 y6 y7 y8 y9 y10) (impl_isSound.l1 (k + 1) y0 y1 y2 y3 y4 y5 y6 y7 y8 y9 y10))
 | 0 => ⟨fun _ _ _ _ _ _ r h => by simp [impl_isSound.l0] at h, fun _ _ _ _ _ _ _ _ _ _ _ r h => by simp [impl_isSound.l1] at h⟩
 | k + 1 => by
  obtain ⟨ih0, ih1⟩ := impl_isSound.mono_l k
  refine ⟨?_, ?_⟩
  ·intro y0 y1 y2 y3 y4 y5
   unfold impl_isSound.l0
   repeat' first
   | (with_reducible exact ih0 _ _ _ _ _ _)
   | (with_reducible exact ih1 _ _ _ _ _ _ _ _ _ _ _)
   | (with_reducible exact impl_lawFrom.mono _ _ _ _ _ _)
   | (with_reducible exact LeO.refl _)
   | (with_reducible exact LeO.none _)
   | (with_reducible refine LeO.ite ?_ ?_)
   | (with_reducible refine LeO.bind ?_ (fun _ => ?_))
   | exact ih0 _ _ _ _ _ _
   | exact ih1 _ _ _ _ _ _ _ _ _ _ _
   | exact impl_lawFrom.mono _ _ _ _ _ _
   | exact LeO.none _
   | refine LeO.ite ?_ ?_
   | refine LeO.bind ?_ (fun _ => ?_)
  ·intro y0 y1 y2 y3 y4 y5 y6 y7 y8 y9 y10
   unfold impl_isSound.l1
   repeat' first
   | (with_reducible exact ih0 _ _ _ _ _ _)
   | (with_reducible exact ih1 _ _ _ _ _ _ _ _ _ _ _)
   | (with_reducible exact impl_lawFrom.mono _ _ _ _ _ _)
   | (with_reducible exact LeO.refl _)
   | (with_reducible exact LeO.none _)
   | (with_reducible refine LeO.ite ?_ ?_)
   | (with_reducible refine LeO.bind ?_ (fun _ => ?_))
   | exact ih0 _ _ _ _ _ _
   | exact ih1 _ _ _ _ _ _ _ _ _ _ _
   | exact impl_lawFrom.mono _ _ _ _ _ _
   | exact LeO.none _
   | refine LeO.ite ?_ ?_
   | refine LeO.bind ?_ (fun _ => ?_)
theorem impl_isSound.mono : ∀ a0 a1 a2 k, LeO (impl_isSound.f k a0 a1 a2) (impl_isSound.f (k + 1) a0 a1 a2) := by
 intro a0 a1 a2 k
 obtain ⟨ih0, ih1⟩ := impl_isSound.mono_l k
 unfold impl_isSound.f
 repeat' first
   | (with_reducible exact ih0 _ _ _ _ _ _)
   | (with_reducible exact ih1 _ _ _ _ _ _ _ _ _ _ _)
   | (with_reducible exact impl_lawFrom.mono _ _ _ _ _ _)
   | (with_reducible exact LeO.refl _)
   | (with_reducible exact LeO.none _)
   | (with_reducible refine LeO.ite ?_ ?_)
   | (with_reducible refine LeO.bind ?_ (fun _ => ?_))
   | exact ih0 _ _ _ _ _ _
   | exact ih1 _ _ _ _ _ _ _ _ _ _ _
   | exact impl_lawFrom.mono _ _ _ _ _ _
   | exact LeO.none _
   | refine LeO.ite ?_ ?_
   | refine LeO.bind ?_ (fun _ => ?_)
set_option maxHeartbeats 8000000 in
set_option maxRecDepth 100000 in
theorem impl_isSound.calls (k : Nat) (a0_0 : Int) (A0_1 : Option Addr) (c0_1 : Nat) (l0_1 : List Int) (A1 : Option Addr) (c1 : Nat) (l1 : List (S41)) (r : Bool) (w : World) (hr0_1 : Kd.C (Kd.int .i64) w A0_1 l0_1.length l0_1) (hc0_1 : l0_1.length ≤ c0_1) (hr1 : Kd.C k41 w A1 l1.length l1) (hc1 : l1.length ≤ c1) (h : impl_isSound.f k a0_0 l0_1 l1 = some r) :
  Calls Try.prog 66 #[.agg #[.int .i64 a0_0, .slice A0_1 l0_1.length c0_1], .slice A1 l1.length c1] w fun e w' => e = .returned (.bool r) ∧ Below w.heap.size w w' := by
 have hu25 := Try.underlying25
 have hu41 := Try.underlying41
 have HR0_1 := Aside0.mk hr0_1
 have HC0_1 := Aside0.mk hc0_1
 clear hr0_1 hc0_1
 have HR1 := Aside0.mk hr1
 have HC1 := Aside0.mk hc1
 clear hr1 hc1
 have HB := Aside0.mk (Below.refl w.heap.size w)
 have H : (impl_isSound.l0 k l1 l1 (l1.length : Int) 0 a0_0 l0_1) = some r := h
 clear h
 have H' := Aside0.mk H
 clear H
 go_enter Try.func66, Try.ntmps66
 go_wp2_with (first | ((with_reducible refine gate_dst (N := 2) rfl ?_); refine box_event ?hg (N := 2) ?hd (cs := #[.int .i64 a0_0, .slice A0_1 l0_1.length c0_1]) (t := 25) ?hr ?_; (case hd => rfl); (case hg => rfl); (case hr => first | (go_simp; done) | (go_simp; rfl)); intro gb301 hg w3 hbox hb; have n0_ := Aside0.mk (below_step bh hb); have n1_ := Aside0.mk (hbox); have n2_ := Aside0.mk ((gs (W0 := w) hg bh)); have n3_ := Aside0.mk ((gs (W0 := w) hg bh)); clear HB; have HB := n0_; have BK301 := n1_; have GW301 := n2_; have GE301 := n3_; clear n0_ n1_ n2_ n3_ hb hbox hg))
 go_loopg [10] k (fun kq v10 w' => ∃ (x10_1 : Int), v10 = .int .i64 x10_1 ∧ Aside0 (impl_isSound.l0 kq l1 l1 (l1.length : Int) x10_1 a0_0 l0_1 = some r) ∧ Aside0 (kq ≤ k) ∧ Aside0 (w'.heap[gb301]? = some (.cells #[.int .i64 a0_0, (.slice A0_1 l0_1.length c0_1)] 25 (0, 0))) ∧ Aside0 (Below w.heap.size w w'))
 case atStart => exact ⟨(0), (by first | rfl | (simp; done) | (simp [*]; done)), H', ⟨Nat.le_refl _⟩, ⟨bz BK301⟩, ⟨by exact bh⟩⟩
 case round =>
  clear H'
  try clear c1
  try clear p2
  obtain ⟨x10_1, rfl, HA, HK1, BK301, HB⟩ := hrel
  cases gk with
  | zero => exact absurd HA.out (by simp [impl_isSound.l0])
  | succ k1 =>
   have H := HA.out
   clear HA
   simp only [impl_isSound.l0] at H
   by_cases c4 : x10_1 < (l1.length : Int)
   ·rw [if_pos c4] at H
    have c4b0 : decide (x10_1 < (l1.length : Int)) = true := decide_eq_true c4
    clear c4
    by_cases c5 : 0 ≤ x10_1
    ·rw [if_pos c5] at H
     have c5b0 : decide (0 ≤ x10_1) = true := decide_eq_true c5
     clear c5
     by_cases c6 : x10_1 < (l1.length : Int)
     ·rw [if_pos c6] at H
      have c6b0 : decide (x10_1 < (l1.length : Int)) = true := decide_eq_true c6
      clear c6
      by_cases c7 : 0 ≤ a0_0
      ·rw [if_pos c7] at H
       have c7b0 := eq_true c7
       have c7b1 : decide (0 ≤ a0_0) = true := decide_eq_true c7
       clear c7
       obtain ⟨ji8, hji8⟩ : ∃ j_ : Int, (shl .i64 1 a0_0) = j_ := ⟨_, rfl⟩
       replace H : (impl_isSound.l1 k1 l1 l1 (l1.length : Int) x10_1 ji8 0 a0_0 l0_1 ((rd_T41 l1 x10_1).f0) ((rd_T41 l1 x10_1).f1) ((rd_T41 l1 x10_1).f2)) = some r := by first | (rw [hji8] at H; exact H) | (simp only [hji8] at H ⊢; exact H)
       have hji8_ : (IntKind.i64.wrap (1 * 2 ^ min a0_0.toNat 64)) = ji8 := hji8
       have hji8z : a0_0 ≤ 64 → (IntKind.i64.wrap (1 * 2 ^ a0_0.toNat)) = ji8 := shl_small hji8
       have hji8u : (IntKind.i64.wrap (2 ^ min a0_0.toNat 64)) = ji8 := by have h_ := hji8_; rw [Int.one_mul] at h_; exact h_
       have hji8v : a0_0 ≤ 64 → (IntKind.i64.wrap (2 ^ a0_0.toNat)) = ji8 := fun hle_ => by have h_ := hji8z hle_; rw [Int.one_mul] at h_; exact h_
       have hji8y : (wrap64 (1 * 2 ^ min a0_0.toNat 64)) = ji8 := (i64_w _).symm.trans hji8_
       have hji8x : a0_0 ≤ 64 → (wrap64 (1 * 2 ^ a0_0.toNat)) = ji8 := fun h_ => (i64_w _).symm.trans (hji8z h_)
       have H' := Aside0.mk H
       clear H
       have p302 : 0 ≤ (x10_1 : Int) := oda
       have q302 : x10_1 < (l1.length : Int) := oda
       obtain ⟨ad302, A302_0, c302_0, e302, hx302_0, hx302_1, hx302_2, hl302_0, hi302_0⟩ := at_T41 HR1.out x10_1 p302 q302
       cases e302
       replace hx302_0 := (HB.out.cell (World.block_lt_of_cell? w _ hx302_0)).trans hx302_0
       replace hx302_1 := (HB.out.cell (World.block_lt_of_cell? w _ hx302_1)).trans hx302_1
       replace hx302_2 := (HB.out.cell (World.block_lt_of_cell? w _ hx302_2)).trans hx302_2
       have HR302_0 := Aside0.mk hi302_0
       have HC302_0 := Aside0.mk hl302_0
       clear hi302_0 hl302_0
       replace p302 := eq_true p302
       replace q302 := eq_true q302
       go_wp2_with (first | ((with_reducible refine gate_dst (N := 6) rfl ?_); refine box_event ?hg (N := 6) ?hd (cs := #[.slice none 0 0, .int .i64 0, .int .i64 0]) (t := 41) ?hr ?_; (case hd => rfl); (case hg => rfl); (case hr => first | (go_simp; done) | (go_simp; rfl)); intro gb303 hg w9 hbox hb; have n0_ := Aside0.mk (blk_below (bz BK301) hb); have n1_ := Aside0.mk (below_step bh hb); have n2_ := Aside0.mk (hbox); have n3_ := Aside0.mk ((gs (W0 := w) hg bh)); have n4_ := Aside0.mk ((gs (W0 := w) hg bh)); have n5_ := Aside0.mk ((gn hg (bz BK301))); have n6_ := Aside0.mk ((gm hg (bz BK301))); clear BK301 HB; have BK301 := n0_; have HB := n1_; have BK303 := n2_; have GW303 := n3_; have GE303 := n4_; have NB301_303 := n5_; have NB303_301 := n6_; clear n0_ n1_ n2_ n3_ n4_ n5_ n6_ hb hbox hg; have hnb10 := NB303_301.out; have hnc10 := NB301_303.out; have hcz11_0 := cz0 BK303; have hcz11_1 := cz1 BK303; have hcz11_2 := cz2 BK303; have hfz11_0 := blk_frozen BK303.out 0; have hfz11_1 := blk_frozen BK303.out 1; have hfz11_2 := blk_frozen BK303.out 2; have hcz12_0 := cz0 BK301; have hcz12_1 := cz1 BK301; have hfz12_0 := blk_frozen BK301.out 0; have hfz12_1 := blk_frozen BK301.out 1))
       go_loopg [17] k1 (fun kq v17 w' => ∃ (x17_2 : Int), v17 = .int .i64 x17_2 ∧ Aside0 (impl_isSound.l1 kq l1 l1 (l1.length : Int) x10_1 ji8 x17_2 a0_0 l0_1 ((rd_T41 l1 x10_1).f0) ((rd_T41 l1 x10_1).f1) ((rd_T41 l1 x10_1).f2) = some r) ∧ Aside0 (kq ≤ k1) ∧ Aside0 (w'.heap[gb301]? = some (.cells #[.int .i64 a0_0, (.slice A0_1 l0_1.length c0_1)] 25 (0, 0))) ∧ Aside0 (w'.heap[gb303]? = some (.cells #[(.slice A302_0 ((rd_T41 l1 x10_1).f0).length c302_0), .int .i64 ((rd_T41 l1 x10_1).f1), .int .i64 ((rd_T41 l1 x10_1).f2)] 41 (0, 0))) ∧ Aside0 (Below w.heap.size w w'))
       case atStart => exact ⟨(0), (by first | rfl | (simp; done) | (simp [*]; done)), H', ⟨Nat.le_refl _⟩, ⟨bf NB301_303 BK301⟩, ⟨bp BK303⟩, ⟨by exact bh⟩⟩
       case round =>
        clear H'
        try clear c1
        try clear p2
        try clear c3
        try clear p3
        try clear q3
        try clear hx3
        try clear c4
        try clear c4b0
        try clear c5
        try clear c5b0
        try clear c6
        try clear c6b0
        try clear p6
        try clear c7
        try clear c7b0
        try clear c7b1
        try clear c10
        try clear hcz11_0
        try clear hcz11_1
        try clear hcz11_2
        try clear hcz12_0
        try clear hcz12_1
        try clear hfz11_0
        try clear hfz11_1
        try clear hfz11_2
        try clear hfz12_0
        try clear hfz12_1
        try clear hx302_0
        try clear hx302_1
        try clear hx302_2
        try clear p2
        try clear p302
        try clear q302
        obtain ⟨x17_2, rfl, HA, HK2, BK301, BK303, HB⟩ := hrel
        cases gk with
        | zero => exact absurd HA.out (by simp [impl_isSound.l1])
        | succ k2 =>
         have H := HA.out
         clear HA
         simp only [impl_isSound.l1] at H
         by_cases c13 : x17_2 < ji8
         ·rw [if_pos c13] at H
          have c13b0 : decide (x17_2 < ji8) = true := decide_eq_true c13
          clear c13
          replace H := Option.bind_eq_some_iff.mp H
          obtain ⟨t304, A140, H⟩ := H
          replace H : (if t304 = true then ((impl_lawFrom.f k2 a0_0 l0_1 l1 ((rd_T41 l1 x10_1).f1) x17_2).bind fun t305 => (if t305 = true then (impl_isSound.l1 k2 l1 l1 (l1.length : Int) x10_1 ji8 (wrap64 (x17_2 + 1)) a0_0 l0_1 ((rd_T41 l1 x10_1).f0) ((rd_T41 l1 x10_1).f1) ((rd_T41 l1 x10_1).f2)) else (some false))) else (impl_isSound.l1 k2 l1 l1 (l1.length : Int) x10_1 ji8 (wrap64 (x17_2 + 1)) a0_0 l0_1 ((rd_T41 l1 x10_1).f0) ((rd_T41 l1 x10_1).f1) ((rd_T41 l1 x10_1).f2))) = some r := H
          have A14 := Aside0.mk A140
          clear A140
          by_cases c15 : t304 = true
          ·subst c15
           have H1 : ((impl_lawFrom.f k2 a0_0 l0_1 l1 ((rd_T41 l1 x10_1).f1) x17_2).bind fun t305 => (if t305 = true then (impl_isSound.l1 k2 l1 l1 (l1.length : Int) x10_1 ji8 (wrap64 (x17_2 + 1)) a0_0 l0_1 ((rd_T41 l1 x10_1).f0) ((rd_T41 l1 x10_1).f1) ((rd_T41 l1 x10_1).f2)) else (some false))) = some r := by rw [if_pos rfl] at H; exact H
           clear H
           have H := H1
           clear H1
           replace H := Option.bind_eq_some_iff.mp H
           obtain ⟨t305, A160, H⟩ := H
           replace H : (if t305 = true then (impl_isSound.l1 k2 l1 l1 (l1.length : Int) x10_1 ji8 (wrap64 (x17_2 + 1)) a0_0 l0_1 ((rd_T41 l1 x10_1).f0) ((rd_T41 l1 x10_1).f1) ((rd_T41 l1 x10_1).f2)) else (some false)) = some r := H
           have A16 := Aside0.mk A160
           clear A160
           by_cases c17 : t305 = true
           ·subst c17
            have H1 : (impl_isSound.l1 k2 l1 l1 (l1.length : Int) x10_1 ji8 (wrap64 (x17_2 + 1)) a0_0 l0_1 ((rd_T41 l1 x10_1).f0) ((rd_T41 l1 x10_1).f1) ((rd_T41 l1 x10_1).f2)) = some r := by rw [if_pos rfl] at H; exact H
            clear H
            have H := H1
            clear H1
            have H' := Aside0.mk H
            clear H
            have hnb18 := NB301_303.out
            have hnc18 := NB303_301.out
            have hcz19_0 := cz0 BK301
            have hcz19_1 := cz1 BK301
            have hfz19_0 := blk_frozen BK301.out 0
            have hfz19_1 := blk_frozen BK301.out 1
            have hcz20_0 : wr.cell? ⟨gb303, 0, none⟩ = some (.slice A302_0 ((rd_T41 l1 x10_1).f0).length c302_0) := (blk_cell BK303.out 0).trans rfl
            have hcz20_1 : wr.cell? ⟨gb303, 1, none⟩ = some (.int .i64 ((rd_T41 l1 x10_1).f1)) := (blk_cell BK303.out 1).trans rfl
            have hcz20_2 : wr.cell? ⟨gb303, 2, none⟩ = some (.int .i64 ((rd_T41 l1 x10_1).f2)) := (blk_cell BK303.out 2).trans rfl
            have hfz20_0 := blk_frozen BK303.out 0
            have hfz20_1 := blk_frozen BK303.out 1
            have hfz20_2 := blk_frozen BK303.out 2
            go_wp2_with (first | ((with_reducible refine gate_callee (f := 65) rfl ?_); refine goesL_ (some 25) rfl rfl Try.func65 kr rfl #[.agg #[.int .i64 a0_0, .slice A0_1 l0_1.length c0_1], .slice (some ad302) l1.length c1, .int .i64 ((rd_T41 l1 x10_1).f2), .int .i64 x17_2] rfl lm ?_; (with_reducible refine (impl_lawFrom.calls k2 a0_0 _ _ l0_1 _ _ l1 ((rd_T41 l1 x10_1).f2) x17_2 true _ ?side1 ?side2 ?side3 ?side4 A14.out).mono ?_); (case side1 => repeat (first | exact (Kd.C_below HR0_1.out HB.out) | (with_reducible refine Kd.C_alloc ?_ _) | (with_reducible refine Kd.C_drewN ?_ _) | (with_reducible refine Kd.C_drew ?_))); (case side2 => exact HC0_1.out); (case side3 => repeat (first | exact (Kd.C_below HR1.out HB.out) | (with_reducible refine Kd.C_alloc ?_ _) | (with_reducible refine Kd.C_drewN ?_ _) | (with_reducible refine Kd.C_drew ?_))); (case side4 => exact HC1.out); rintro e w21 ⟨rfl, hb⟩; refine ⟨_, rfl, ?_⟩; have n0_ := Aside0.mk (blk_below (bz BK301) hb); have n1_ := Aside0.mk (blk_below (bz BK303) hb); have n2_ := Aside0.mk (below_step bh hb); clear BK301 BK303 HB; have BK301 := n0_; have BK303 := n1_; have HB := n2_; clear n0_ n1_ n2_; (try clear hb); (try clear hb2); (try clear hk); (try clear hi); have hcz22_0 := cz0 BK301; have hcz22_1 := cz1 BK301; have hfz22_0 := blk_frozen BK301.out 0; have hfz22_1 := blk_frozen BK301.out 1; have hcz23_0 : w21.cell? ⟨gb303, 0, none⟩ = some (.slice A302_0 ((rd_T41 l1 x10_1).f0).length c302_0) := (blk_cell BK303.out 0).trans rfl; have hcz23_1 : w21.cell? ⟨gb303, 1, none⟩ = some (.int .i64 ((rd_T41 l1 x10_1).f1)) := (blk_cell BK303.out 1).trans rfl; have hcz23_2 : w21.cell? ⟨gb303, 2, none⟩ = some (.int .i64 ((rd_T41 l1 x10_1).f2)) := (blk_cell BK303.out 2).trans rfl; have hfz23_0 := blk_frozen BK303.out 0; have hfz23_1 := blk_frozen BK303.out 1; have hfz23_2 := blk_frozen BK303.out 2) | (go_at_call 65; (with_reducible refine (impl_lawFrom.calls k2 a0_0 _ _ l0_1 _ _ l1 ((rd_T41 l1 x10_1).f1) x17_2 true _ ?side1 ?side2 ?side3 ?side4 A16.out).mono ?_); (case side1 => repeat (first | exact (Kd.C_below HR0_1.out HB.out) | (with_reducible refine Kd.C_alloc ?_ _) | (with_reducible refine Kd.C_drewN ?_ _) | (with_reducible refine Kd.C_drew ?_))); (case side2 => exact HC0_1.out); (case side3 => repeat (first | exact (Kd.C_below HR1.out HB.out) | (with_reducible refine Kd.C_alloc ?_ _) | (with_reducible refine Kd.C_drewN ?_ _) | (with_reducible refine Kd.C_drew ?_))); (case side4 => exact HC1.out); rintro e w24 ⟨rfl, hb⟩; have n0_ := Aside0.mk (blk_below (bz BK301) hb); have n1_ := Aside0.mk (blk_below (bz BK303) hb); have n2_ := Aside0.mk (below_step bh hb); clear BK301 BK303 HB; have BK301 := n0_; have BK303 := n1_; have HB := n2_; clear n0_ n1_ n2_; (try clear hb); (try clear hb2); (try clear hk); (try clear hi)))
            go_roundg k2
            case measure => have := HK1.out; have := HK2.out; omega
            case rel => exact ⟨(wrap64 (x17_2 + 1)), (by first | rfl | (simp; done) | (simp [*]; done)), H', ⟨by have := HK1.out; have := HK2.out; omega⟩, ⟨bz BK301⟩, ⟨bz BK303⟩, ⟨by exact bh⟩⟩
           ·replace c17 := Bool.eq_false_iff.mpr c17
            subst c17
            have H1 : (some false) = some r := by rw [if_neg (show ¬ (false = true) by decide)] at H; exact H
            clear H
            have H := H1
            clear H1
            obtain rfl := Option.some.inj H
            have hnb25 := NB301_303.out
            have hnc25 := NB303_301.out
            have hcz26_0 := cz0 BK301
            have hcz26_1 := cz1 BK301
            have hfz26_0 := blk_frozen BK301.out 0
            have hfz26_1 := blk_frozen BK301.out 1
            have hcz27_0 : wr.cell? ⟨gb303, 0, none⟩ = some (.slice A302_0 ((rd_T41 l1 x10_1).f0).length c302_0) := (blk_cell BK303.out 0).trans rfl
            have hcz27_1 : wr.cell? ⟨gb303, 1, none⟩ = some (.int .i64 ((rd_T41 l1 x10_1).f1)) := (blk_cell BK303.out 1).trans rfl
            have hcz27_2 : wr.cell? ⟨gb303, 2, none⟩ = some (.int .i64 ((rd_T41 l1 x10_1).f2)) := (blk_cell BK303.out 2).trans rfl
            have hfz27_0 := blk_frozen BK303.out 0
            have hfz27_1 := blk_frozen BK303.out 1
            have hfz27_2 := blk_frozen BK303.out 2
            go_wp2_with (first | ((with_reducible refine gate_callee (f := 65) rfl ?_); refine goesL_ (some 25) rfl rfl Try.func65 kr rfl #[.agg #[.int .i64 a0_0, .slice A0_1 l0_1.length c0_1], .slice (some ad302) l1.length c1, .int .i64 ((rd_T41 l1 x10_1).f2), .int .i64 x17_2] rfl lm ?_; (with_reducible refine (impl_lawFrom.calls k2 a0_0 _ _ l0_1 _ _ l1 ((rd_T41 l1 x10_1).f2) x17_2 true _ ?side1 ?side2 ?side3 ?side4 A14.out).mono ?_); (case side1 => repeat (first | exact (Kd.C_below HR0_1.out HB.out) | (with_reducible refine Kd.C_alloc ?_ _) | (with_reducible refine Kd.C_drewN ?_ _) | (with_reducible refine Kd.C_drew ?_))); (case side2 => exact HC0_1.out); (case side3 => repeat (first | exact (Kd.C_below HR1.out HB.out) | (with_reducible refine Kd.C_alloc ?_ _) | (with_reducible refine Kd.C_drewN ?_ _) | (with_reducible refine Kd.C_drew ?_))); (case side4 => exact HC1.out); rintro e w28 ⟨rfl, hb⟩; refine ⟨_, rfl, ?_⟩; have n0_ := Aside0.mk (blk_below (bz BK301) hb); have n1_ := Aside0.mk (blk_below (bz BK303) hb); have n2_ := Aside0.mk (below_step bh hb); clear BK301 BK303 HB; have BK301 := n0_; have BK303 := n1_; have HB := n2_; clear n0_ n1_ n2_; (try clear hb); (try clear hb2); (try clear hk); (try clear hi); have hcz29_0 := cz0 BK301; have hcz29_1 := cz1 BK301; have hfz29_0 := blk_frozen BK301.out 0; have hfz29_1 := blk_frozen BK301.out 1; have hcz30_0 : w28.cell? ⟨gb303, 0, none⟩ = some (.slice A302_0 ((rd_T41 l1 x10_1).f0).length c302_0) := (blk_cell BK303.out 0).trans rfl; have hcz30_1 : w28.cell? ⟨gb303, 1, none⟩ = some (.int .i64 ((rd_T41 l1 x10_1).f1)) := (blk_cell BK303.out 1).trans rfl; have hcz30_2 : w28.cell? ⟨gb303, 2, none⟩ = some (.int .i64 ((rd_T41 l1 x10_1).f2)) := (blk_cell BK303.out 2).trans rfl; have hfz30_0 := blk_frozen BK303.out 0; have hfz30_1 := blk_frozen BK303.out 1; have hfz30_2 := blk_frozen BK303.out 2) | (go_at_call 65; (with_reducible refine (impl_lawFrom.calls k2 a0_0 _ _ l0_1 _ _ l1 ((rd_T41 l1 x10_1).f1) x17_2 false _ ?side1 ?side2 ?side3 ?side4 A16.out).mono ?_); (case side1 => repeat (first | exact (Kd.C_below HR0_1.out HB.out) | (with_reducible refine Kd.C_alloc ?_ _) | (with_reducible refine Kd.C_drewN ?_ _) | (with_reducible refine Kd.C_drew ?_))); (case side2 => exact HC0_1.out); (case side3 => repeat (first | exact (Kd.C_below HR1.out HB.out) | (with_reducible refine Kd.C_alloc ?_ _) | (with_reducible refine Kd.C_drewN ?_ _) | (with_reducible refine Kd.C_drew ?_))); (case side4 => exact HC1.out); rintro e w31 ⟨rfl, hb⟩; have n0_ := Aside0.mk (blk_below (bz BK301) hb); have n1_ := Aside0.mk (blk_below (bz BK303) hb); have n2_ := Aside0.mk (below_step bh hb); clear BK301 BK303 HB; have BK301 := n0_; have BK303 := n1_; have HB := n2_; clear n0_ n1_ n2_; (try clear hb); (try clear hb2); (try clear hk); (try clear hi)))
            go_ret
            exact ⟨by first | rfl | (simp [errW_none, errW_some] <;> rfl) | (simp only [← hji8]; first | rfl | (simp [errW_none, errW_some] <;> rfl)) | (simp [*, errW_none, errW_some] <;> rfl), by exact bh⟩
          ·replace c15 := Bool.eq_false_iff.mpr c15
           subst c15
           have H1 : (impl_isSound.l1 k2 l1 l1 (l1.length : Int) x10_1 ji8 (wrap64 (x17_2 + 1)) a0_0 l0_1 ((rd_T41 l1 x10_1).f0) ((rd_T41 l1 x10_1).f1) ((rd_T41 l1 x10_1).f2)) = some r := by rw [if_neg (show ¬ (false = true) by decide)] at H; exact H
           clear H
           have H := H1
           clear H1
           have H' := Aside0.mk H
           clear H
           have hnb32 := NB301_303.out
           have hnc32 := NB303_301.out
           have hcz33_0 := cz0 BK301
           have hcz33_1 := cz1 BK301
           have hfz33_0 := blk_frozen BK301.out 0
           have hfz33_1 := blk_frozen BK301.out 1
           have hcz34_0 : wr.cell? ⟨gb303, 0, none⟩ = some (.slice A302_0 ((rd_T41 l1 x10_1).f0).length c302_0) := (blk_cell BK303.out 0).trans rfl
           have hcz34_1 : wr.cell? ⟨gb303, 1, none⟩ = some (.int .i64 ((rd_T41 l1 x10_1).f1)) := (blk_cell BK303.out 1).trans rfl
           have hcz34_2 : wr.cell? ⟨gb303, 2, none⟩ = some (.int .i64 ((rd_T41 l1 x10_1).f2)) := (blk_cell BK303.out 2).trans rfl
           have hfz34_0 := blk_frozen BK303.out 0
           have hfz34_1 := blk_frozen BK303.out 1
           have hfz34_2 := blk_frozen BK303.out 2
           go_wp2_with (first | ((with_reducible refine gate_callee (f := 65) rfl ?_); refine goesL_ (some 25) rfl rfl Try.func65 kr rfl #[.agg #[.int .i64 a0_0, .slice A0_1 l0_1.length c0_1], .slice (some ad302) l1.length c1, .int .i64 ((rd_T41 l1 x10_1).f2), .int .i64 x17_2] rfl lm ?_; (with_reducible refine (impl_lawFrom.calls k2 a0_0 _ _ l0_1 _ _ l1 ((rd_T41 l1 x10_1).f2) x17_2 false _ ?side1 ?side2 ?side3 ?side4 A14.out).mono ?_); (case side1 => repeat (first | exact (Kd.C_below HR0_1.out HB.out) | (with_reducible refine Kd.C_alloc ?_ _) | (with_reducible refine Kd.C_drewN ?_ _) | (with_reducible refine Kd.C_drew ?_))); (case side2 => exact HC0_1.out); (case side3 => repeat (first | exact (Kd.C_below HR1.out HB.out) | (with_reducible refine Kd.C_alloc ?_ _) | (with_reducible refine Kd.C_drewN ?_ _) | (with_reducible refine Kd.C_drew ?_))); (case side4 => exact HC1.out); rintro e w35 ⟨rfl, hb⟩; refine ⟨_, rfl, ?_⟩; have n0_ := Aside0.mk (blk_below (bz BK301) hb); have n1_ := Aside0.mk (blk_below (bz BK303) hb); have n2_ := Aside0.mk (below_step bh hb); clear BK301 BK303 HB; have BK301 := n0_; have BK303 := n1_; have HB := n2_; clear n0_ n1_ n2_; (try clear hb); (try clear hb2); (try clear hk); (try clear hi)))
           go_roundg k2
           case measure => have := HK1.out; have := HK2.out; omega
           case rel => exact ⟨(wrap64 (x17_2 + 1)), (by first | rfl | (simp; done) | (simp [*]; done)), H', ⟨by have := HK1.out; have := HK2.out; omega⟩, ⟨bz BK301⟩, ⟨bz BK303⟩, ⟨by exact bh⟩⟩
         ·rw [if_neg c13] at H
          have c13b0 : decide (x17_2 < ji8) = false := decide_eq_false c13
          clear c13
          have H' := Aside0.mk H
          clear H
          go_wp2
          go_roundg k2
          case measure => have := HK1.out; have := HK2.out; omega
          case rel => exact ⟨(wrap64 (x10_1 + 1)), (by first | rfl | (simp; done) | (simp [*]; done)), H', ⟨by have := HK1.out; have := HK2.out; omega⟩, ⟨bz BK301⟩, ⟨by exact bh⟩⟩
      ·rw [if_neg c7] at H
       exact absurd H (by simp)
     ·rw [if_neg c6] at H
      exact absurd H (by simp)
    ·rw [if_neg c5] at H
     exact absurd H (by simp)
   ·rw [if_neg c4] at H
    have c4b0 : decide (x10_1 < (l1.length : Int)) = false := decide_eq_false c4
    clear c4
    obtain rfl := Option.some.inj H
    go_wp2
    go_ret
    exact ⟨by first | rfl | (simp [errW_none, errW_some] <;> rfl) | (simp [*, errW_none, errW_some] <;> rfl), by exact bh⟩

/-! ### impl_billTerm: function 76 -/
mutual
def impl_billTerm.j0 : Nat → List (S41) → Int → List (S78) → Int → Option ((List (S78)) × Int)
 | 0, _, _, _, _ => none
 | k + 1, x0, x1, x6, x7 => if 0 ≤ x1 then (if x1 < (x0.length : Int) then ((impl_billTerm.f k x0 ((rd_T41 x0 x1).f2)).bind fun bt325 => (if bt325.2 = 1 then (some (([] : List (S78)), 1)) else (if x7 = 2 then (some (bt325.1, bt325.2)) else (if bt325.2 = 0 then (if x6.length + bt325.1.length < 5864062014805 then ((some (x6 ++ bt325.1 : List (S78))).bind fun y329 => (if y329.length < 5864062014805 then (some ((y329 ++ [(⟨2, 0, 0⟩ : S78)]), 0)) else (none))) else (none)) else (some (x6, 0)))))) else (none)) else (none)
def impl_billTerm.f : Nat → List (S41) → Int → Option ((List (S78)) × Int)
 | 0, _, _ => none
 | k + 1, l0, a1 => if a1 = 10 then (some (([] : List (S78)), 1)) else (if a1 = 11 then (some (([] : List (S78)), 2)) else ((some (([] : List (S78)) : List (S78))).bind fun y306 => (if 0 ≤ a1 then (if a1 < (l0.length : Int) then (if y306.length + ((rd_T41 l0 a1).f0).length < 5864062014805 then ((some (y306 ++ ((rd_T41 l0 a1).f0) : List (S78))).bind fun y310 => ((impl_billTerm.f k l0 ((rd_T41 l0 a1).f1)).bind fun bt314 => (if bt314.2 = 0 then (if y310.length + bt314.1.length < 5864062014805 then ((some (y310 ++ bt314.1 : List (S78))).bind fun y318 => (if y318.length < 5864062014805 then (impl_billTerm.j0 k l0 a1 (y318 ++ [(⟨1, 0, 0⟩ : S78)]) 0) else (none))) else (none)) else (if bt314.2 = 2 then (impl_billTerm.j0 k l0 a1 ([] : List (S78)) 2) else (impl_billTerm.j0 k l0 a1 y310 0))))) else (none)) else (none)) else (none))))
end
theorem impl_billTerm.mono_l : ∀ k, (∀ y0 y1, LeO (impl_billTerm.f k y0 y1) (impl_billTerm.f (k + 1) y0 y1)) ∧ (∀ y0 y1 y2 y3, LeO (impl_billTerm.j0 k y0 y1 y2 y3) (impl_billTerm.j0 (k + 1) y0 y1 y2 y3))
 | 0 => ⟨fun _ _ r h => by simp [impl_billTerm.f] at h, fun _ _ _ _ r h => by simp [impl_billTerm.j0] at h⟩
 | k + 1 => by
  obtain ⟨ih0, ih1⟩ := impl_billTerm.mono_l k
  refine ⟨?_, ?_⟩
  ·intro y0 y1
   unfold impl_billTerm.f
   repeat' first
   | (with_reducible exact ih0 _ _)
   | (with_reducible exact ih1 _ _ _ _)
   | (with_reducible exact LeO.refl _)
   | (with_reducible exact LeO.none _)
   | (with_reducible refine LeO.ite ?_ ?_)
   | (with_reducible refine LeO.bind ?_ (fun _ => ?_))
   | exact ih0 _ _
   | exact ih1 _ _ _ _
   | exact LeO.none _
   | refine LeO.ite ?_ ?_
   | refine LeO.bind ?_ (fun _ => ?_)
  ·intro y0 y1 y2 y3
   unfold impl_billTerm.j0
   repeat' first
   | (with_reducible exact ih0 _ _)
   | (with_reducible exact ih1 _ _ _ _)
   | (with_reducible exact LeO.refl _)
   | (with_reducible exact LeO.none _)
   | (with_reducible refine LeO.ite ?_ ?_)
   | (with_reducible refine LeO.bind ?_ (fun _ => ?_))
   | exact ih0 _ _
   | exact ih1 _ _ _ _
   | exact LeO.none _
   | refine LeO.ite ?_ ?_
   | refine LeO.bind ?_ (fun _ => ?_)
theorem impl_billTerm.mono : ∀ a0 a1 k, LeO (impl_billTerm.f k a0 a1) (impl_billTerm.f (k + 1) a0 a1) := by
 intro a0 a1 k
 obtain ⟨ih0, ih1⟩ := impl_billTerm.mono_l k
 exact ih0 a0 a1
set_option maxHeartbeats 8000000 in
set_option maxRecDepth 100000 in
theorem impl_billTerm.calls (k : Nat) : ∀ (A0 : Option Addr) (c0 : Nat) (l0 : List (S41)) (a1 : Int) (r1 : List (S78)) (r2 : Int) (w : World) (hr0 : Kd.C k41 w A0 l0.length l0) (hc0 : l0.length ≤ c0) (h : impl_billTerm.f k l0 a1 = some (r1, r2)),
  Calls Try.prog 76 #[.slice A0 l0.length c0, .int .i64 a1] w fun e w' => ∃ v0_ : Value, e = .returned (.tuple #[v0_, .int .i64 r2]) ∧ Kd.R k78 78 w' w.heap.size (fun _ => True) v0_ r1 ∧ Below w.heap.size w w' := by
 induction k using Nat.strongRecOn with
 | _ k ih =>
 intro A0 c0 l0 a1 r1 r2 w hr0 hc0 h
 cases k with
 | zero => exact absurd h (by simp [impl_billTerm.f])
 | succ k =>
 simp only [impl_billTerm.f] at h
 have hu78 := Try.underlying78
 have HR0 := Aside0.mk hr0
 have HC0 := Aside0.mk hc0
 clear hr0 hc0
 have HB := Aside0.mk (Below.refl w.heap.size w)
 have H : (if a1 = 10 then (some (([] : List (S78)), 1)) else (if a1 = 11 then (some (([] : List (S78)), 2)) else ((some (([] : List (S78)) : List (S78))).bind fun y306 => (if 0 ≤ a1 then (if a1 < (l0.length : Int) then (if y306.length + ((rd_T41 l0 a1).f0).length < 5864062014805 then ((some (y306 ++ ((rd_T41 l0 a1).f0) : List (S78))).bind fun y310 => ((impl_billTerm.f k l0 ((rd_T41 l0 a1).f1)).bind fun bt314 => (if bt314.2 = 0 then (if y310.length + bt314.1.length < 5864062014805 then ((some (y310 ++ bt314.1 : List (S78))).bind fun y318 => (if y318.length < 5864062014805 then (impl_billTerm.j0 k l0 a1 (y318 ++ [(⟨1, 0, 0⟩ : S78)]) 0) else (none))) else (none)) else (if bt314.2 = 2 then (impl_billTerm.j0 k l0 a1 ([] : List (S78)) 2) else (impl_billTerm.j0 k l0 a1 y310 0))))) else (none)) else (none)) else (none))))) = some (r1, r2) := h
 clear h
 by_cases c3 : a1 = 10
 ·rw [if_pos c3] at H
  have c3b0 : (a1 == 10) = true := beq_iff_eq.mpr c3
  have c3b1 : (a1 != 10) = false := bne_eq_false_iff_eq.mpr c3
  clear c3
  simp only [Option.some.injEq, Prod.mk.injEq] at H
  obtain ⟨rfl, rfl⟩ := H
  go_enter Try.func76, Try.ntmps76
  go_wp2
  go_ret2
  exact ⟨_, by first | rfl | (simp [errW_none, errW_some] <;> rfl) | (simp [*, errW_none, errW_some] <;> rfl), by first | exact Kd.R_nil _ _ _ _ _ | exact Kd.N_nil _ _ _ _ _ | exact Kd.V_nil _ _ _ _ _ | exact Kd.Q_nil _ _ _ _ _ | exact Kd.S_nil _ _ _ _ _, by exact bh⟩
 ·rw [if_neg c3] at H
  have c3b0 : (a1 == 10) = false := beq_eq_false_iff_ne.mpr c3
  have c3b1 : (a1 != 10) = true := bne_iff_ne.mpr c3
  by_cases c4 : a1 = 11
  ·rw [if_pos c4] at H
   have c4b0 : (a1 == 11) = true := beq_iff_eq.mpr c4
   have c4b1 : (a1 != 11) = false := bne_eq_false_iff_eq.mpr c4
   clear c4
   simp only [Option.some.injEq, Prod.mk.injEq] at H
   obtain ⟨rfl, rfl⟩ := H
   go_enter Try.func76, Try.ntmps76
   go_wp2
   go_ret2
   exact ⟨_, by first | rfl | (simp [errW_none, errW_some] <;> rfl) | (simp [*, errW_none, errW_some] <;> rfl), by first | exact Kd.R_nil _ _ _ _ _ | exact Kd.N_nil _ _ _ _ _ | exact Kd.V_nil _ _ _ _ _ | exact Kd.Q_nil _ _ _ _ _ | exact Kd.S_nil _ _ _ _ _, by exact bh⟩
  ·rw [if_neg c4] at H
   have c4b0 : (a1 == 11) = false := beq_eq_false_iff_ne.mpr c4
   have c4b1 : (a1 != 11) = true := bne_iff_ne.mpr c4
   obtain ⟨y306, hy306⟩ : ∃ y_ : List (S78), y_ = (([] : List (S78))) := ⟨_, rfl⟩
   replace H : (if 0 ≤ a1 then (if a1 < (l0.length : Int) then (if y306.length + ((rd_T41 l0 a1).f0).length < 5864062014805 then ((some (y306 ++ ((rd_T41 l0 a1).f0) : List (S78))).bind fun y310 => ((impl_billTerm.f k l0 ((rd_T41 l0 a1).f1)).bind fun bt314 => (if bt314.2 = 0 then (if y310.length + bt314.1.length < 5864062014805 then ((some (y310 ++ bt314.1 : List (S78))).bind fun y318 => (if y318.length < 5864062014805 then (impl_billTerm.j0 k l0 a1 (y318 ++ [(⟨1, 0, 0⟩ : S78)]) 0) else (none))) else (none)) else (if bt314.2 = 2 then (impl_billTerm.j0 k l0 a1 ([] : List (S78)) 2) else (impl_billTerm.j0 k l0 a1 y310 0))))) else (none)) else (none)) else (none)) = some (r1, r2) := by first | (rw [hy306]; with_reducible exact H) | (have H2_ := (Option.bind_some _ _).symm.trans H; rw [hy306]; with_reducible exact H2_) | (have H2_ := (Option.bind_some _ _).symm.trans H; with_reducible exact H2_) | with_reducible exact H | (rw [hy306]; exact H) | exact H
   have Ny306 := Aside0.mk hy306
   clear hy306
   by_cases c5 : 0 ≤ a1
   ·rw [if_pos c5] at H
    have c5b0 : decide (0 ≤ a1) = true := decide_eq_true c5
    clear c5
    by_cases c6 : a1 < (l0.length : Int)
    ·rw [if_pos c6] at H
     have c6b0 : decide (a1 < (l0.length : Int)) = true := decide_eq_true c6
     clear c6
     by_cases c7 : y306.length + ((rd_T41 l0 a1).f0).length < 5864062014805
     ·rw [if_pos c7] at H
      have LMc7 := Aside0.mk c7
      clear c7
      obtain ⟨y310, hy310⟩ : ∃ y_ : List (S78), y_ = (y306 ++ ((rd_T41 l0 a1).f0)) := ⟨_, rfl⟩
      replace H : ((impl_billTerm.f k l0 ((rd_T41 l0 a1).f1)).bind fun bt314 => (if bt314.2 = 0 then (if y310.length + bt314.1.length < 5864062014805 then ((some (y310 ++ bt314.1 : List (S78))).bind fun y318 => (if y318.length < 5864062014805 then (impl_billTerm.j0 k l0 a1 (y318 ++ [(⟨1, 0, 0⟩ : S78)]) 0) else (none))) else (none)) else (if bt314.2 = 2 then (impl_billTerm.j0 k l0 a1 ([] : List (S78)) 2) else (impl_billTerm.j0 k l0 a1 y310 0)))) = some (r1, r2) := by first | (rw [hy310]; with_reducible exact H) | (have H2_ := (Option.bind_some _ _).symm.trans H; rw [hy310]; with_reducible exact H2_) | (have H2_ := (Option.bind_some _ _).symm.trans H; with_reducible exact H2_) | with_reducible exact H | (rw [hy310]; exact H) | exact H
      have Ny310 := Aside0.mk hy310
      clear hy310
      replace H := Option.bind_eq_some_iff.mp H
      obtain ⟨⟨t314, t315⟩, A80, H⟩ := H
      replace H : (if t315 = 0 then (if y310.length + t314.length < 5864062014805 then ((some (y310 ++ t314 : List (S78))).bind fun y318 => (if y318.length < 5864062014805 then (impl_billTerm.j0 k l0 a1 (y318 ++ [(⟨1, 0, 0⟩ : S78)]) 0) else (none))) else (none)) else (if t315 = 2 then (impl_billTerm.j0 k l0 a1 ([] : List (S78)) 2) else (impl_billTerm.j0 k l0 a1 y310 0))) = some (r1, r2) := H
      have A8 := Aside0.mk A80
      clear A80
      have HC9 := Aside0.mk H
      clear H
      go_enter Try.func76, Try.ntmps76
      go_upto_block 1 with (first | ((with_reducible refine gate_dst (N := 16) rfl ?_); refine Kd.R_lit k78 _ 78 ?hg (N := 16) ?hd (xs := ([] : List (S78))) (inner := []) (ok := fun _ => True) (okp := fun _ => True) ?hr ?hp (fun _ hk => hk) trivial (Below.refl _ _) (Nat.le_refl _) (by simp) ?_; (case hd => rfl); (case hg => rfl); (case hr => first | (go_simp; done) | (go_simp; rfl)); (case hp => exact (Reps.none _ _)); intro v307 w10 ho11 hb hg_ hnew_; clear hg_ hnew_; (first | rw [← Ny306.out] at ho11 | (simp only [Int.reduceToNat] at ho11; rw [← Ny306.out] at ho11)); have n0_ := Aside0.mk (Kd.R_lower ho11 (below_size bh)); have n1_ := Aside0.mk (below_step bh hb); clear HB; have HO308 := n0_; have HB := n1_; clear n0_ n1_ hb ho11; have p309 : 0 ≤ (a1 : Int) := oda; have q309 : a1 < (l0.length : Int) := oda; obtain ⟨ad309, A309_0, c309_0, e309, hx309_0, hx309_1, hx309_2, hl309_0, hi309_0⟩ := at_T41 HR0.out a1 p309 q309; cases e309; replace hx309_0 := (HB.out.cell (World.block_lt_of_cell? w _ hx309_0)).trans hx309_0; replace hx309_1 := (HB.out.cell (World.block_lt_of_cell? w _ hx309_1)).trans hx309_1; replace hx309_2 := (HB.out.cell (World.block_lt_of_cell? w _ hx309_2)).trans hx309_2; have HR309_0 := Aside0.mk hi309_0; have HC309_0 := Aside0.mk hl309_0; clear hi309_0 hl309_0; replace p309 := eq_true p309; replace q309 := eq_true q309) | ((with_reducible refine gate_builtin (b := .append) (xs := #[.tmp 16, .tmp 21]) rfl ?_); at_builtin; refine Kd.R_append_rows k78 (w0 := w) w.heap.size rfl (.tmp 16) (.tmp 21) 33 78 (.agg #[(.int .i64 0), (.int .i64 0), (.int .i64 0)]) 24 rfl Try.underlying33 info78 rfl (by decide) (by omega) v307 y306 ((rd_T41 l0 a1).f0) _ _ _ (fun _ => True) (fun _ => False) rfl rfl ?aO ?aR (fun _ _ h => h) (fun _ h => h.elim) ?aF ?aB ?aS ?aL ?_; (case aR => repeat (first | exact (Kd.C_below HR309_0.out HB.out) | (with_reducible refine Kd.C_alloc ?_ _) | (with_reducible refine Kd.C_drewN ?_ _) | (with_reducible refine Kd.C_drew ?_))); (case aB => exact bh); (case aF => exact (fun _ _ => trivial)); (case aO => exact (rz HO308)); (case aS => exact (below_size bh)); (case aL => have := LMc7.out; omega); intro v311 w12 ho hb hg hat; rw [← Ny310.out] at ho; have n0_ := Aside0.mk (hb); have n1_ := Aside0.mk (ho); clear HB HO308; have HB := n0_; have HO312 := n1_; clear n0_ n1_ ho hb hg hat; have p313 : 0 ≤ (a1 : Int) := oda; have q313 : a1 < (l0.length : Int) := oda; obtain ⟨ad313, A313_0, c313_0, e313, hx313_0, hx313_1, hx313_2, hl313_0, hi313_0⟩ := at_T41 HR0.out a1 p313 q313; obtain rfl : ad309 = ad313 := (by injection e313); replace hx313_0 := (HB.out.cell (World.block_lt_of_cell? w _ hx313_0)).trans hx313_0; replace hx313_1 := (HB.out.cell (World.block_lt_of_cell? w _ hx313_1)).trans hx313_1; replace hx313_2 := (HB.out.cell (World.block_lt_of_cell? w _ hx313_2)).trans hx313_2; have HR313_0 := Aside0.mk hi313_0; have HC313_0 := Aside0.mk hl313_0; clear hi313_0 hl313_0; replace p313 := eq_true p313; replace q313 := eq_true q313) | ((with_reducible refine gate_callee (f := 76) rfl ?_); refine goesL_ (some 30) rfl rfl Try.func76 kr rfl #[.slice (some ad309) l0.length c0, .int .i64 ((rd_T41 l0 a1).f1)] rfl lm ?_; (with_reducible refine (ih k (by omega) _ _ l0 ((rd_T41 l0 a1).f1) t314 t315 _ ?side1 ?side2 A8.out).mono ?_); (case side1 => repeat (first | exact (Kd.C_below HR0.out HB.out) | (with_reducible refine Kd.C_alloc ?_ _) | (with_reducible refine Kd.C_drewN ?_ _) | (with_reducible refine Kd.C_drew ?_))); (case side2 => exact HC0.out); rintro e w13 ⟨v316, rfl, ho0, hb⟩; refine ⟨_, rfl, ?_⟩; have n0_ := Aside0.mk (Kd.R_elder' (rz HO312) (Kd.R_base ho0) hb); have n1_ := Aside0.mk (Kd.R_lower (Kd.R_new' ho0 (Kd.R_lt (rz HO312))) (below_size bh)); have n2_ := Aside0.mk (below_step bh hb); clear HO312 HB; have HO312 := n0_; have HO317 := n1_; have HB := n2_; clear n0_ n1_ n2_; (try clear hb); (try clear hb2); (try clear hk); (try clear hi); (try clear ho0)))
      (try simp only [Act.put, List.setIfInBounds_toArray, List.set_cons_zero, List.set_cons_succ])
      go_cut [6, 7] (fun v6 v7 wc => ∃ (kq : Nat) (x6_8 : List (S78)) (x7_8 : Int), v7 = .int .i64 x7_8 ∧ Aside0 (impl_billTerm.j0 kq l0 a1 x6_8 x7_8 = some (r1, r2)) ∧ Aside0 (kq ≤ k) ∧ Aside0 (Kd.R k78 78 wc w.heap.size (fun _ => True) v6 x6_8) ∧ Aside0 (Below w.heap.size w wc))
      case first =>
       have H := HC9.out
       clear HC9
       by_cases c14 : t315 = 0
       ·rw [if_pos c14] at H
        have c14b0 : (t315 == 0) = true := beq_iff_eq.mpr c14
        have c14b1 : (t315 != 0) = false := bne_eq_false_iff_eq.mpr c14
        clear c14
        (first | rw [c14b0] | (simp only [i64_w, i32_w]; rw [c14b0]) | skip)
        by_cases c15 : y310.length + t314.length < 5864062014805
        ·rw [if_pos c15] at H
         have LMc15 := Aside0.mk c15
         clear c15
         obtain ⟨y318, hy318⟩ : ∃ y_ : List (S78), y_ = (y310 ++ t314) := ⟨_, rfl⟩
         replace H : (if y318.length < 5864062014805 then (impl_billTerm.j0 k l0 a1 (y318 ++ [(⟨1, 0, 0⟩ : S78)]) 0) else (none)) = some (r1, r2) := by first | (rw [hy318]; with_reducible exact H) | (have H2_ := (Option.bind_some _ _).symm.trans H; rw [hy318]; with_reducible exact H2_) | (have H2_ := (Option.bind_some _ _).symm.trans H; with_reducible exact H2_) | with_reducible exact H | (rw [hy318]; exact H) | exact H
         have Ny318 := Aside0.mk hy318
         clear hy318
         by_cases c16 : y318.length < 5864062014805
         ·rw [if_pos c16] at H
          have LMc16 := Aside0.mk c16
          clear c16
          obtain ⟨y321, hy321⟩ : ∃ y_ : List (S78), y_ = (y318 ++ [(⟨1, 0, 0⟩ : S78)]) := ⟨_, rfl⟩
          replace H : (impl_billTerm.j0 k l0 a1 y321 0) = some (r1, r2) := by first | (rw [hy321]; with_reducible exact H) | (have H2_ := (Option.bind_some _ _).symm.trans H; rw [hy321]; with_reducible exact H2_) | (have H2_ := (Option.bind_some _ _).symm.trans H; with_reducible exact H2_) | with_reducible exact H | (rw [hy321]; exact H) | exact H
          have Ny321 := Aside0.mk hy321
          clear hy321
          have H' := Aside0.mk H
          clear H
          obtain ⟨Ao18, co18, eo18⟩ := Kd.R_slice HO317.out
          subst eo18
          go_wp2_with (first | ((with_reducible refine gate_builtin (b := .append) (xs := #[.tmp 36, .tmp 37]) rfl ?_); at_builtin; refine Kd.R_append_rows k78 (w0 := w) w.heap.size rfl (.tmp 36) (.tmp 37) 33 78 (.agg #[(.int .i64 0), (.int .i64 0), (.int .i64 0)]) 24 rfl Try.underlying33 info78 rfl (by decide) (by omega) v311 y310 t314 _ _ _ (fun k_ => some k_ ≠ (.slice Ao18 t314.length co18 : Value).ownBlock) (fun _ => False) rfl rfl ?aO ?aR (fun _ _ h => h) (fun _ h => h.elim) ?aF ?aB ?aS ?aL ?_; (case aR => repeat (first | exact (Kd.R_reads' HO317.out).2.2 | (with_reducible refine Kd.C_alloc ?_ _) | (with_reducible refine Kd.C_drewN ?_ _) | (with_reducible refine Kd.C_drew ?_))); (case aB => exact bh); (case aF => exact (fun k_ hk => Kd.fresh' (Kd.R_lt (rz HO317)) k_ hk)); (case aO => exact (mR HO312)); (case aS => exact (below_size bh)); (case aL => have := LMc15.out; omega); intro v319 w17 ho hb hg hat; rw [← Ny318.out] at ho; have n0_ := Aside0.mk (Kd.R_after (ok := (fun _ => True)) (rz HO317) hg hat); have n1_ := Aside0.mk (hb); have n2_ := Aside0.mk (ho); clear HO317 HB HO312; have HO317 := n0_; have HB := n1_; have HO320 := n2_; clear n0_ n1_ n2_ ho hb hg hat) | ((with_reducible refine gate_builtin (b := .append) (xs := #[.tmp 38, .tmp 40]) rfl ?_); at_builtin; refine Kd.R_append k78 (w0 := w) w.heap.size rfl (.tmp 38) (.tmp 40) 33 78 (.agg #[(.int .i64 0), (.int .i64 0), (.int .i64 0)]) 24 rfl Try.underlying33 info78 rfl (by decide) (by omega) v319 y318 (⟨1, 0, 0⟩ : S78) [.int .i64 1, .int .i64 0, .int .i64 0] (fun k_ => some k_ ≠ (.slice Ao18 t314.length co18 : Value).ownBlock) (fun _ => False) rfl rfl ?aP (fun _ hk => hk.elim) ?aF ?aO ?aB ?aS ?aL ?_; (case aP => exact k78_mkM _ _ _ (⟨1, 0, 0⟩ : S78)); (case aB => exact bh); (case aF => exact (fun k_ hk => Kd.fresh' (Kd.R_lt (rz HO317)) k_ hk)); (case aO => exact (rz HO320)); (case aS => exact (below_size bh)); (case aL => have := LMc16.out; omega); intro v322 w19 ho hb hg hat; rw [← Ny321.out] at ho; have n0_ := Aside0.mk (Kd.R_after (ok := (fun _ => True)) (rz HO317) hg hat); have n1_ := Aside0.mk (hb); have n2_ := Aside0.mk (ho); clear HO317 HB HO320; have HO317 := n0_; have HB := n1_; have HO323 := n2_; clear n0_ n1_ n2_ ho hb hg hat))
          go_meet
          case rel => exact ⟨_, (y321), (0), (by first | rfl | (simp; done) | (simp [*]; done)), H', ⟨by first | omega | exact Nat.le_refl _⟩, ⟨mR HO323⟩, ⟨by exact bh⟩⟩
         ·rw [if_neg c16] at H
          exact absurd H (by simp)
        ·rw [if_neg c15] at H
         exact absurd H (by simp)
       ·rw [if_neg c14] at H
        have c14b0 : (t315 == 0) = false := beq_eq_false_iff_ne.mpr c14
        have c14b1 : (t315 != 0) = true := bne_iff_ne.mpr c14
        (first | rw [c14b0] | (simp only [i64_w, i32_w]; rw [c14b0]) | skip)
        by_cases c20 : t315 = 2
        ·rw [if_pos c20] at H
         have c20b0 : (t315 == 2) = true := beq_iff_eq.mpr c20
         have c20b1 : (t315 != 2) = false := bne_eq_false_iff_eq.mpr c20
         clear c20
         have H' := Aside0.mk H
         clear H
         go_wp2
         go_meet
         case rel => exact ⟨_, (([] : List (S78))), (2), (by first | rfl | (simp; done) | (simp [*]; done)), H', ⟨by first | omega | exact Nat.le_refl _⟩, ⟨by first | exact Kd.R_nil _ _ _ _ _ | exact Kd.N_nil _ _ _ _ _ | exact Kd.V_nil _ _ _ _ _ | exact Kd.Q_nil _ _ _ _ _ | exact Kd.S_nil _ _ _ _ _⟩, ⟨by exact bh⟩⟩
        ·rw [if_neg c20] at H
         have c20b0 : (t315 == 2) = false := beq_eq_false_iff_ne.mpr c20
         have c20b1 : (t315 != 2) = true := bne_iff_ne.mpr c20
         have H' := Aside0.mk H
         clear H
         go_wp2
         go_meet
         case rel => exact ⟨_, (y310), (0), (by first | rfl | (simp; done) | (simp [*]; done)), H', ⟨by first | omega | exact Nat.le_refl _⟩, ⟨mR HO312⟩, ⟨by exact bh⟩⟩
      case rest =>
       clear HC9
       try clear c1
       try clear c2
       try clear p2
       try clear c3
       try clear c3b0
       try clear c3b1
       try clear p3
       try clear q3
       try clear hx3
       try clear c4
       try clear c4b0
       try clear c4b1
       try clear c5
       try clear c5b0
       try clear c6
       try clear c6b0
       try clear c7
       try clear c14
       try clear c14b0
       try clear c14b1
       try clear c15
       try clear c16
       try clear c20
       try clear c20b0
       try clear c20b1
       try clear hx309_0
       try clear hx309_1
       try clear hx309_2
       try clear hx313_0
       try clear hx313_1
       try clear hx313_2
       try clear p309
       try clear p313
       try clear q309
       try clear q313
       obtain ⟨kq, x6_8, x7_8, rfl, HA, HJ8, HO_6, HB⟩ := hcut
       cases kq with
       | zero => exact absurd HA.out (by simp [impl_billTerm.j0])
       | succ kj8 =>
        have H := HA.out
        clear HA
        simp only [impl_billTerm.j0] at H
        by_cases c21 : 0 ≤ a1
        ·rw [if_pos c21] at H
         have c21b0 : decide (0 ≤ a1) = true := decide_eq_true c21
         clear c21
         by_cases c22 : a1 < (l0.length : Int)
         ·rw [if_pos c22] at H
          have c22b0 : decide (a1 < (l0.length : Int)) = true := decide_eq_true c22
          clear c22
          replace H := Option.bind_eq_some_iff.mp H
          obtain ⟨⟨t325, t326⟩, A230, H⟩ := H
          replace H : (if t326 = 1 then (some (([] : List (S78)), 1)) else (if x7_8 = 2 then (some (t325, t326)) else (if t326 = 0 then (if x6_8.length + t325.length < 5864062014805 then ((some (x6_8 ++ t325 : List (S78))).bind fun y329 => (if y329.length < 5864062014805 then (some ((y329 ++ [(⟨2, 0, 0⟩ : S78)]), 0)) else (none))) else (none)) else (some (x6_8, 0))))) = some (r1, r2) := H
          have A23 := Aside0.mk A230
          clear A230
          by_cases c24 : t326 = 1
          ·rw [if_pos c24] at H
           have c24b0 : (t326 == 1) = true := beq_iff_eq.mpr c24
           have c24b1 : (t326 != 1) = false := bne_eq_false_iff_eq.mpr c24
           clear c24
           simp only [Option.some.injEq, Prod.mk.injEq] at H
           obtain ⟨rfl, rfl⟩ := H
           have p324 : 0 ≤ (a1 : Int) := oda
           have q324 : a1 < (l0.length : Int) := oda
           obtain ⟨ad324, A324_0, c324_0, e324, hx324_0, hx324_1, hx324_2, hl324_0, hi324_0⟩ := at_T41 HR0.out a1 p324 q324
           obtain rfl : ad309 = ad324 := (by injection e324)
           replace hx324_0 := (HB.out.cell (World.block_lt_of_cell? w _ hx324_0)).trans hx324_0
           replace hx324_1 := (HB.out.cell (World.block_lt_of_cell? w _ hx324_1)).trans hx324_1
           replace hx324_2 := (HB.out.cell (World.block_lt_of_cell? w _ hx324_2)).trans hx324_2
           have HR324_0 := Aside0.mk hi324_0
           have HC324_0 := Aside0.mk hl324_0
           clear hi324_0 hl324_0
           replace p324 := eq_true p324
           replace q324 := eq_true q324
           go_wp2_with (first | ((with_reducible refine gate_callee (f := 76) rfl ?_); refine goesL_ (some 51) rfl rfl Try.func76 kr rfl #[.slice (some ad309) l0.length c0, .int .i64 ((rd_T41 l0 a1).f2)] rfl lm ?_; (with_reducible refine (ih kj8 (by have := HJ8.out; omega) _ _ l0 ((rd_T41 l0 a1).f2) t325 t326 _ ?side1 ?side2 A23.out).mono ?_); (case side1 => repeat (first | exact (Kd.C_below HR0.out HB.out) | (with_reducible refine Kd.C_alloc ?_ _) | (with_reducible refine Kd.C_drewN ?_ _) | (with_reducible refine Kd.C_drew ?_))); (case side2 => exact HC0.out); rintro e w25 ⟨v327, rfl, ho0, hb⟩; refine ⟨_, rfl, ?_⟩; have n0_ := Aside0.mk (Kd.R_elder' (rz HO_6) (Kd.R_base ho0) hb); have n1_ := Aside0.mk (Kd.R_lower (Kd.R_new' ho0 (Kd.R_lt (rz HO_6))) (below_size bh)); have n2_ := Aside0.mk (below_step bh hb); clear HO_6 HB; have HO_6 := n0_; have HO328 := n1_; have HB := n2_; clear n0_ n1_ n2_; (try clear hb); (try clear hb2); (try clear hk); (try clear hi); (try clear ho0)))
           go_ret2
           exact ⟨_, by first | rfl | (simp [errW_none, errW_some] <;> rfl) | (simp [*, errW_none, errW_some] <;> rfl), by first | exact Kd.R_nil _ _ _ _ _ | exact Kd.N_nil _ _ _ _ _ | exact Kd.V_nil _ _ _ _ _ | exact Kd.Q_nil _ _ _ _ _ | exact Kd.S_nil _ _ _ _ _, by exact bh⟩
          ·rw [if_neg c24] at H
           have c24b0 : (t326 == 1) = false := beq_eq_false_iff_ne.mpr c24
           have c24b1 : (t326 != 1) = true := bne_iff_ne.mpr c24
           by_cases c26 : x7_8 = 2
           ·rw [if_pos c26] at H
            have c26b0 : (x7_8 == 2) = true := beq_iff_eq.mpr c26
            have c26b1 : (x7_8 != 2) = false := bne_eq_false_iff_eq.mpr c26
            clear c26
            simp only [Option.some.injEq, Prod.mk.injEq] at H
            obtain ⟨rfl, rfl⟩ := H
            have p324 : 0 ≤ (a1 : Int) := oda
            have q324 : a1 < (l0.length : Int) := oda
            obtain ⟨ad324, A324_0, c324_0, e324, hx324_0, hx324_1, hx324_2, hl324_0, hi324_0⟩ := at_T41 HR0.out a1 p324 q324
            obtain rfl : ad309 = ad324 := (by injection e324)
            replace hx324_0 := (HB.out.cell (World.block_lt_of_cell? w _ hx324_0)).trans hx324_0
            replace hx324_1 := (HB.out.cell (World.block_lt_of_cell? w _ hx324_1)).trans hx324_1
            replace hx324_2 := (HB.out.cell (World.block_lt_of_cell? w _ hx324_2)).trans hx324_2
            have HR324_0 := Aside0.mk hi324_0
            have HC324_0 := Aside0.mk hl324_0
            clear hi324_0 hl324_0
            replace p324 := eq_true p324
            replace q324 := eq_true q324
            go_wp2_with (first | ((with_reducible refine gate_callee (f := 76) rfl ?_); refine goesL_ (some 51) rfl rfl Try.func76 kr rfl #[.slice (some ad309) l0.length c0, .int .i64 ((rd_T41 l0 a1).f2)] rfl lm ?_; (with_reducible refine (ih kj8 (by have := HJ8.out; omega) _ _ l0 ((rd_T41 l0 a1).f2) t325 t326 _ ?side1 ?side2 A23.out).mono ?_); (case side1 => repeat (first | exact (Kd.C_below HR0.out HB.out) | (with_reducible refine Kd.C_alloc ?_ _) | (with_reducible refine Kd.C_drewN ?_ _) | (with_reducible refine Kd.C_drew ?_))); (case side2 => exact HC0.out); rintro e w27 ⟨v327, rfl, ho0, hb⟩; refine ⟨_, rfl, ?_⟩; have n0_ := Aside0.mk (Kd.R_elder' (rz HO_6) (Kd.R_base ho0) hb); have n1_ := Aside0.mk (Kd.R_lower (Kd.R_new' ho0 (Kd.R_lt (rz HO_6))) (below_size bh)); have n2_ := Aside0.mk (below_step bh hb); clear HO_6 HB; have HO_6 := n0_; have HO328 := n1_; have HB := n2_; clear n0_ n1_ n2_; (try clear hb); (try clear hb2); (try clear hk); (try clear hi); (try clear ho0)))
            go_ret2
            exact ⟨_, by first | rfl | (simp [errW_none, errW_some] <;> rfl) | (simp [*, errW_none, errW_some] <;> rfl), by (with_reducible repeat (first | apply Kd.R_alloc | apply Kd.R_drewN | apply Kd.R_drew)); exact Kd.R_mono HO328.out (fun _ hk => trivial), by exact bh⟩
           ·rw [if_neg c26] at H
            have c26b0 : (x7_8 == 2) = false := beq_eq_false_iff_ne.mpr c26
            have c26b1 : (x7_8 != 2) = true := bne_iff_ne.mpr c26
            by_cases c28 : t326 = 0
            ·rw [if_pos c28] at H
             have c28b0 : (t326 == 0) = true := beq_iff_eq.mpr c28
             have c28b1 : (t326 != 0) = false := bne_eq_false_iff_eq.mpr c28
             clear c28
             by_cases c29 : x6_8.length + t325.length < 5864062014805
             ·rw [if_pos c29] at H
              have LMc29 := Aside0.mk c29
              clear c29
              obtain ⟨y329, hy329⟩ : ∃ y_ : List (S78), y_ = (x6_8 ++ t325) := ⟨_, rfl⟩
              replace H : (if y329.length < 5864062014805 then (some ((y329 ++ [(⟨2, 0, 0⟩ : S78)]), 0)) else (none)) = some (r1, r2) := by first | (rw [hy329]; with_reducible exact H) | (have H2_ := (Option.bind_some _ _).symm.trans H; rw [hy329]; with_reducible exact H2_) | (have H2_ := (Option.bind_some _ _).symm.trans H; with_reducible exact H2_) | with_reducible exact H | (rw [hy329]; exact H) | exact H
              have Ny329 := Aside0.mk hy329
              clear hy329
              by_cases c30 : y329.length < 5864062014805
              ·rw [if_pos c30] at H
               have LMc30 := Aside0.mk c30
               clear c30
               obtain ⟨y332, hy332⟩ : ∃ y_ : List (S78), y_ = (y329 ++ [(⟨2, 0, 0⟩ : S78)]) := ⟨_, rfl⟩
               replace H : (some (y332, 0)) = some (r1, r2) := by first | (rw [hy332]; with_reducible exact H) | (have H2_ := (Option.bind_some _ _).symm.trans H; rw [hy332]; with_reducible exact H2_) | (have H2_ := (Option.bind_some _ _).symm.trans H; with_reducible exact H2_) | with_reducible exact H | (rw [hy332]; exact H) | exact H
               have Ny332 := Aside0.mk hy332
               clear hy332
               simp only [Option.some.injEq, Prod.mk.injEq] at H
               obtain ⟨rfl, rfl⟩ := H
               have p324 : 0 ≤ (a1 : Int) := oda
               have q324 : a1 < (l0.length : Int) := oda
               obtain ⟨ad324, A324_0, c324_0, e324, hx324_0, hx324_1, hx324_2, hl324_0, hi324_0⟩ := at_T41 HR0.out a1 p324 q324
               obtain rfl : ad309 = ad324 := (by injection e324)
               replace hx324_0 := (HB.out.cell (World.block_lt_of_cell? w _ hx324_0)).trans hx324_0
               replace hx324_1 := (HB.out.cell (World.block_lt_of_cell? w _ hx324_1)).trans hx324_1
               replace hx324_2 := (HB.out.cell (World.block_lt_of_cell? w _ hx324_2)).trans hx324_2
               have HR324_0 := Aside0.mk hi324_0
               have HC324_0 := Aside0.mk hl324_0
               clear hi324_0 hl324_0
               replace p324 := eq_true p324
               replace q324 := eq_true q324
               go_wp2_with (first | ((with_reducible refine gate_callee (f := 76) rfl ?_); refine goesL_ (some 51) rfl rfl Try.func76 kr rfl #[.slice (some ad309) l0.length c0, .int .i64 ((rd_T41 l0 a1).f2)] rfl lm ?_; (with_reducible refine (ih kj8 (by have := HJ8.out; omega) _ _ l0 ((rd_T41 l0 a1).f2) t325 t326 _ ?side1 ?side2 A23.out).mono ?_); (case side1 => repeat (first | exact (Kd.C_below HR0.out HB.out) | (with_reducible refine Kd.C_alloc ?_ _) | (with_reducible refine Kd.C_drewN ?_ _) | (with_reducible refine Kd.C_drew ?_))); (case side2 => exact HC0.out); rintro e w31 ⟨v327, rfl, ho0, hb⟩; refine ⟨_, rfl, ?_⟩; have n0_ := Aside0.mk (Kd.R_elder' (rz HO_6) (Kd.R_base ho0) hb); have n1_ := Aside0.mk (Kd.R_lower (Kd.R_new' ho0 (Kd.R_lt (rz HO_6))) (below_size bh)); have n2_ := Aside0.mk (below_step bh hb); clear HO_6 HB; have HO_6 := n0_; have HO328 := n1_; have HB := n2_; clear n0_ n1_ n2_; (try clear hb); (try clear hb2); (try clear hk); (try clear hi); (try clear ho0); obtain ⟨Ao33, co33, eo33⟩ := Kd.R_slice HO328.out; subst eo33) | ((with_reducible refine gate_builtin (b := .append) (xs := #[.tmp 65, .tmp 66]) rfl ?_); at_builtin; refine Kd.R_append_rows k78 (w0 := w) w.heap.size rfl (.tmp 65) (.tmp 66) 33 78 (.agg #[(.int .i64 0), (.int .i64 0), (.int .i64 0)]) 24 rfl Try.underlying33 info78 rfl (by decide) (by omega) u6 x6_8 t325 _ _ _ (fun k_ => some k_ ≠ (.slice Ao33 t325.length co33 : Value).ownBlock) (fun _ => False) rfl rfl ?aO ?aR (fun _ _ h => h) (fun _ h => h.elim) ?aF ?aB ?aS ?aL ?_; (case aR => repeat (first | exact (Kd.R_reads' HO328.out).2.2 | (with_reducible refine Kd.C_alloc ?_ _) | (with_reducible refine Kd.C_drewN ?_ _) | (with_reducible refine Kd.C_drew ?_))); (case aB => exact bh); (case aF => exact (fun k_ hk => Kd.fresh' (Kd.R_lt (rz HO328)) k_ hk)); (case aO => exact (mR HO_6)); (case aS => exact (below_size bh)); (case aL => have := LMc29.out; omega); intro v330 w32 ho hb hg hat; rw [← Ny329.out] at ho; have n0_ := Aside0.mk (Kd.R_after (ok := (fun _ => True)) (rz HO328) hg hat); have n1_ := Aside0.mk (hb); have n2_ := Aside0.mk (ho); clear HO328 HB HO_6; have HO328 := n0_; have HB := n1_; have HO331 := n2_; clear n0_ n1_ n2_ ho hb hg hat) | ((with_reducible refine gate_builtin (b := .append) (xs := #[.tmp 67, .tmp 69]) rfl ?_); at_builtin; refine Kd.R_append k78 (w0 := w) w.heap.size rfl (.tmp 67) (.tmp 69) 33 78 (.agg #[(.int .i64 0), (.int .i64 0), (.int .i64 0)]) 24 rfl Try.underlying33 info78 rfl (by decide) (by omega) v330 y329 (⟨2, 0, 0⟩ : S78) [.int .i64 2, .int .i64 0, .int .i64 0] (fun k_ => some k_ ≠ (.slice Ao33 t325.length co33 : Value).ownBlock) (fun _ => False) rfl rfl ?aP (fun _ hk => hk.elim) ?aF ?aO ?aB ?aS ?aL ?_; (case aP => exact k78_mkM _ _ _ (⟨2, 0, 0⟩ : S78)); (case aB => exact bh); (case aF => exact (fun k_ hk => Kd.fresh' (Kd.R_lt (rz HO328)) k_ hk)); (case aO => exact (rz HO331)); (case aS => exact (below_size bh)); (case aL => have := LMc30.out; omega); intro v333 w34 ho hb hg hat; rw [← Ny332.out] at ho; have n0_ := Aside0.mk (Kd.R_after (ok := (fun _ => True)) (rz HO328) hg hat); have n1_ := Aside0.mk (hb); have n2_ := Aside0.mk (ho); clear HO328 HB HO331; have HO328 := n0_; have HB := n1_; have HO334 := n2_; clear n0_ n1_ n2_ ho hb hg hat))
               go_ret2
               exact ⟨_, by first | rfl | (simp [errW_none, errW_some] <;> rfl) | (simp [*, errW_none, errW_some] <;> rfl), by (with_reducible repeat (first | apply Kd.R_alloc | apply Kd.R_drewN | apply Kd.R_drew)); exact Kd.R_mono HO334.out (fun _ hk => trivial), by exact bh⟩
              ·rw [if_neg c30] at H
               exact absurd H (by simp)
             ·rw [if_neg c29] at H
              exact absurd H (by simp)
            ·rw [if_neg c28] at H
             have c28b0 : (t326 == 0) = false := beq_eq_false_iff_ne.mpr c28
             have c28b1 : (t326 != 0) = true := bne_iff_ne.mpr c28
             simp only [Option.some.injEq, Prod.mk.injEq] at H
             obtain ⟨rfl, rfl⟩ := H
             have p324 : 0 ≤ (a1 : Int) := oda
             have q324 : a1 < (l0.length : Int) := oda
             obtain ⟨ad324, A324_0, c324_0, e324, hx324_0, hx324_1, hx324_2, hl324_0, hi324_0⟩ := at_T41 HR0.out a1 p324 q324
             obtain rfl : ad309 = ad324 := (by injection e324)
             replace hx324_0 := (HB.out.cell (World.block_lt_of_cell? w _ hx324_0)).trans hx324_0
             replace hx324_1 := (HB.out.cell (World.block_lt_of_cell? w _ hx324_1)).trans hx324_1
             replace hx324_2 := (HB.out.cell (World.block_lt_of_cell? w _ hx324_2)).trans hx324_2
             have HR324_0 := Aside0.mk hi324_0
             have HC324_0 := Aside0.mk hl324_0
             clear hi324_0 hl324_0
             replace p324 := eq_true p324
             replace q324 := eq_true q324
             go_wp2_with (first | ((with_reducible refine gate_callee (f := 76) rfl ?_); refine goesL_ (some 51) rfl rfl Try.func76 kr rfl #[.slice (some ad309) l0.length c0, .int .i64 ((rd_T41 l0 a1).f2)] rfl lm ?_; (with_reducible refine (ih kj8 (by have := HJ8.out; omega) _ _ l0 ((rd_T41 l0 a1).f2) t325 t326 _ ?side1 ?side2 A23.out).mono ?_); (case side1 => repeat (first | exact (Kd.C_below HR0.out HB.out) | (with_reducible refine Kd.C_alloc ?_ _) | (with_reducible refine Kd.C_drewN ?_ _) | (with_reducible refine Kd.C_drew ?_))); (case side2 => exact HC0.out); rintro e w35 ⟨v327, rfl, ho0, hb⟩; refine ⟨_, rfl, ?_⟩; have n0_ := Aside0.mk (Kd.R_elder' (rz HO_6) (Kd.R_base ho0) hb); have n1_ := Aside0.mk (Kd.R_lower (Kd.R_new' ho0 (Kd.R_lt (rz HO_6))) (below_size bh)); have n2_ := Aside0.mk (below_step bh hb); clear HO_6 HB; have HO_6 := n0_; have HO328 := n1_; have HB := n2_; clear n0_ n1_ n2_; (try clear hb); (try clear hb2); (try clear hk); (try clear hi); (try clear ho0)))
             go_ret2
             exact ⟨_, by first | rfl | (simp [errW_none, errW_some] <;> rfl) | (simp [*, errW_none, errW_some] <;> rfl), by (with_reducible repeat (first | apply Kd.R_alloc | apply Kd.R_drewN | apply Kd.R_drew)); exact Kd.R_mono HO_6.out (fun _ hk => trivial), by exact bh⟩
         ·rw [if_neg c22] at H
          exact absurd H (by simp)
        ·rw [if_neg c21] at H
         exact absurd H (by simp)
     ·rw [if_neg c7] at H
      exact absurd H (by simp)
    ·rw [if_neg c6] at H
     exact absurd H (by simp)
   ·rw [if_neg c5] at H
    exact absurd H (by simp)

/-! ### impl_BillTerm: function 42 -/
def impl_BillTerm.j0 : Nat → List (S41) → Bool → Option ((List (S78)) × Int)
 | 0, _, _ => none
 | k + 1, x1, x17 => if x17 = true then (some (([] : List (S78)), (-1))) else ((impl_billTerm.f k x1 0).bind fun bt338 => (if (bt338.1.length : Int) > 9 then (some (([] : List (S78)), (-1))) else (some (bt338.1, bt338.2))))
def impl_BillTerm.f (k : Nat) (a0_0 : Int) (l0_1 : List Int) (l1 : List (S41)) : Option ((List (S78)) × Int) := (impl_isProcess.f k a0_0 l0_1 l1).bind fun t336 => (if t336 = true then ((impl_isSound.f k a0_0 l0_1 l1).bind fun t337 => (impl_BillTerm.j0 k l1 (!t337))) else (impl_BillTerm.j0 k l1 true))
theorem impl_BillTerm.mono_l : ∀ k, (∀ y0 y1, LeO (impl_BillTerm.j0 k y0 y1) (impl_BillTerm.j0 (k + 1) y0 y1))
 | 0 => fun _ _ r h => by simp [impl_BillTerm.j0] at h
 | k + 1 => by
  have ih0 := impl_BillTerm.mono_l k
  ·intro y0 y1
   unfold impl_BillTerm.j0
   repeat' first
   | (with_reducible exact ih0 _ _)
   | (with_reducible exact impl_billTerm.mono _ _ _)
   | (with_reducible exact impl_isProcess.mono _ _ _ _)
   | (with_reducible exact impl_isSound.mono _ _ _ _)
   | (with_reducible exact LeO.refl _)
   | (with_reducible exact LeO.none _)
   | (with_reducible refine LeO.ite ?_ ?_)
   | (with_reducible refine LeO.bind ?_ (fun _ => ?_))
   | exact ih0 _ _
   | exact impl_billTerm.mono _ _ _
   | exact impl_isProcess.mono _ _ _ _
   | exact impl_isSound.mono _ _ _ _
   | exact LeO.none _
   | refine LeO.ite ?_ ?_
   | refine LeO.bind ?_ (fun _ => ?_)
theorem impl_BillTerm.mono : ∀ a0 a1 a2 k, LeO (impl_BillTerm.f k a0 a1 a2) (impl_BillTerm.f (k + 1) a0 a1 a2) := by
 intro a0 a1 a2 k
 have ih0 := impl_BillTerm.mono_l k
 unfold impl_BillTerm.f
 repeat' first
   | (with_reducible exact ih0 _ _)
   | (with_reducible exact impl_billTerm.mono _ _ _)
   | (with_reducible exact impl_isProcess.mono _ _ _ _)
   | (with_reducible exact impl_isSound.mono _ _ _ _)
   | (with_reducible exact LeO.refl _)
   | (with_reducible exact LeO.none _)
   | (with_reducible refine LeO.ite ?_ ?_)
   | (with_reducible refine LeO.bind ?_ (fun _ => ?_))
   | exact ih0 _ _
   | exact impl_billTerm.mono _ _ _
   | exact impl_isProcess.mono _ _ _ _
   | exact impl_isSound.mono _ _ _ _
   | exact LeO.none _
   | refine LeO.ite ?_ ?_
   | refine LeO.bind ?_ (fun _ => ?_)
set_option maxHeartbeats 8000000 in
set_option maxRecDepth 100000 in
theorem impl_BillTerm.calls (k : Nat) (a0_0 : Int) (A0_1 : Option Addr) (c0_1 : Nat) (l0_1 : List Int) (A1 : Option Addr) (c1 : Nat) (l1 : List (S41)) (r1 : List (S78)) (r2 : Int) (w : World) (hr0_1 : Kd.C (Kd.int .i64) w A0_1 l0_1.length l0_1) (hc0_1 : l0_1.length ≤ c0_1) (hr1 : Kd.C k41 w A1 l1.length l1) (hc1 : l1.length ≤ c1) (h : impl_BillTerm.f k a0_0 l0_1 l1 = some (r1, r2)) :
  Calls Try.prog 42 #[.agg #[.int .i64 a0_0, .slice A0_1 l0_1.length c0_1], .slice A1 l1.length c1] w fun e w' => ∃ v0_ : Value, e = .returned (.tuple #[v0_, .int .i64 r2]) ∧ Kd.R k78 78 w' w.heap.size (fun _ => True) v0_ r1 ∧ Below w.heap.size w w' := by
 have hu25 := Try.underlying25
 have HR0_1 := Aside0.mk hr0_1
 have HC0_1 := Aside0.mk hc0_1
 clear hr0_1 hc0_1
 have HR1 := Aside0.mk hr1
 have HC1 := Aside0.mk hc1
 clear hr1 hc1
 have HB := Aside0.mk (Below.refl w.heap.size w)
 have H : ((impl_isProcess.f k a0_0 l0_1 l1).bind fun t336 => (if t336 = true then ((impl_isSound.f k a0_0 l0_1 l1).bind fun t337 => (impl_BillTerm.j0 k l1 (!t337))) else (impl_BillTerm.j0 k l1 true))) = some (r1, r2) := h
 clear h
 have HC3 := Aside0.mk H
 clear H
 go_enter Try.func42, Try.ntmps42
 go_upto_region 1 with (first | ((with_reducible refine gate_dst (N := 2) rfl ?_); refine box_event ?hg (N := 2) ?hd (cs := #[.int .i64 a0_0, .slice A0_1 l0_1.length c0_1]) (t := 25) ?hr ?_; (case hd => rfl); (case hg => rfl); (case hr => first | (go_simp; done) | (go_simp; rfl)); intro gb335 hg w4 hbox hb; have n0_ := Aside0.mk (below_step bh hb); have n1_ := Aside0.mk (hbox); have n2_ := Aside0.mk ((gs (W0 := w) hg bh)); have n3_ := Aside0.mk ((gs (W0 := w) hg bh)); clear HB; have HB := n0_; have BK335 := n1_; have GW335 := n2_; have GE335 := n3_; clear n0_ n1_ n2_ n3_ hb hbox hg))
 (try simp only [Act.put, List.setIfInBounds_toArray, List.set_cons_zero, List.set_cons_succ])
 go_cut [17] (fun v17 wc => ∃ (kq : Nat) (x17_2 : Bool), v17 = .bool x17_2 ∧ Aside0 (impl_BillTerm.j0 kq l1 x17_2 = some (r1, r2)) ∧ Aside0 (kq ≤ k) ∧ Aside0 (wc.heap[gb335]? = some (.cells #[.int .i64 a0_0, (.slice A0_1 l0_1.length c0_1)] 25 (0, 0))) ∧ Aside0 (Below w.heap.size w wc))
 case first =>
  have H := HC3.out
  clear HC3
  replace H := Option.bind_eq_some_iff.mp H
  obtain ⟨t336, A50, H⟩ := H
  replace H : (if t336 = true then ((impl_isSound.f k a0_0 l0_1 l1).bind fun t337 => (impl_BillTerm.j0 k l1 (!t337))) else (impl_BillTerm.j0 k l1 true)) = some (r1, r2) := H
  have A5 := Aside0.mk A50
  clear A50
  by_cases c6 : t336 = true
  ·subst c6
   have H1 : ((impl_isSound.f k a0_0 l0_1 l1).bind fun t337 => (impl_BillTerm.j0 k l1 (!t337))) = some (r1, r2) := by rw [if_pos rfl] at H; exact H
   clear H
   have H := H1
   clear H1
   replace H := Option.bind_eq_some_iff.mp H
   obtain ⟨t337, A70, H⟩ := H
   replace H : (impl_BillTerm.j0 k l1 (!t337)) = some (r1, r2) := H
   have A7 := Aside0.mk A70
   clear A70
   have H' := Aside0.mk H
   clear H
   have hcz8_0 := cz0 BK335
   have hcz8_1 := cz1 BK335
   have hfz8_0 := blk_frozen BK335.out 0
   have hfz8_1 := blk_frozen BK335.out 1
   go_wp2_with (first | ((with_reducible refine gate_callee (f := 53) rfl ?_); refine goesL_ (some 10) rfl rfl Try.func53 kr rfl #[.agg #[.int .i64 a0_0, .slice A0_1 l0_1.length c0_1], .slice A1 l1.length c1] rfl lm ?_; (with_reducible refine (impl_isProcess.calls k a0_0 _ _ l0_1 _ _ l1 true _ ?side1 ?side2 ?side3 ?side4 A5.out).mono ?_); (case side1 => repeat (first | exact (Kd.C_below HR0_1.out HB.out) | (with_reducible refine Kd.C_alloc ?_ _) | (with_reducible refine Kd.C_drewN ?_ _) | (with_reducible refine Kd.C_drew ?_))); (case side2 => exact HC0_1.out); (case side3 => repeat (first | exact (Kd.C_below HR1.out HB.out) | (with_reducible refine Kd.C_alloc ?_ _) | (with_reducible refine Kd.C_drewN ?_ _) | (with_reducible refine Kd.C_drew ?_))); (case side4 => exact HC1.out); rintro e w9 ⟨rfl, hb⟩; refine ⟨_, rfl, ?_⟩; have n0_ := Aside0.mk (blk_below (bz BK335) hb); have n1_ := Aside0.mk (below_step bh hb); clear BK335 HB; have BK335 := n0_; have HB := n1_; clear n0_ n1_; (try clear hb); (try clear hb2); (try clear hk); (try clear hi); have hcz10_0 := cz0 BK335; have hcz10_1 := cz1 BK335; have hfz10_0 := blk_frozen BK335.out 0; have hfz10_1 := blk_frozen BK335.out 1) | (go_at_call 66; (with_reducible refine (impl_isSound.calls k a0_0 _ _ l0_1 _ _ l1 t337 _ ?side1 ?side2 ?side3 ?side4 A7.out).mono ?_); (case side1 => repeat (first | exact (Kd.C_below HR0_1.out HB.out) | (with_reducible refine Kd.C_alloc ?_ _) | (with_reducible refine Kd.C_drewN ?_ _) | (with_reducible refine Kd.C_drew ?_))); (case side2 => exact HC0_1.out); (case side3 => repeat (first | exact (Kd.C_below HR1.out HB.out) | (with_reducible refine Kd.C_alloc ?_ _) | (with_reducible refine Kd.C_drewN ?_ _) | (with_reducible refine Kd.C_drew ?_))); (case side4 => exact HC1.out); rintro e w11 ⟨rfl, hb⟩; have n0_ := Aside0.mk (blk_below (bz BK335) hb); have n1_ := Aside0.mk (below_step bh hb); clear BK335 HB; have BK335 := n0_; have HB := n1_; clear n0_ n1_; (try clear hb); (try clear hb2); (try clear hk); (try clear hi)))
   go_meet
   case rel => exact ⟨_, (!t337), (by first | rfl | (simp; done) | (simp [*]; done)), H', ⟨by first | omega | exact Nat.le_refl _⟩, ⟨bz BK335⟩, ⟨by exact bh⟩⟩
  ·replace c6 := Bool.eq_false_iff.mpr c6
   subst c6
   have H1 : (impl_BillTerm.j0 k l1 true) = some (r1, r2) := by rw [if_neg (show ¬ (false = true) by decide)] at H; exact H
   clear H
   have H := H1
   clear H1
   have H' := Aside0.mk H
   clear H
   have hcz12_0 := cz0 BK335
   have hcz12_1 := cz1 BK335
   have hfz12_0 := blk_frozen BK335.out 0
   have hfz12_1 := blk_frozen BK335.out 1
   go_wp2_with (first | ((with_reducible refine gate_callee (f := 53) rfl ?_); refine goesL_ (some 10) rfl rfl Try.func53 kr rfl #[.agg #[.int .i64 a0_0, .slice A0_1 l0_1.length c0_1], .slice A1 l1.length c1] rfl lm ?_; (with_reducible refine (impl_isProcess.calls k a0_0 _ _ l0_1 _ _ l1 false _ ?side1 ?side2 ?side3 ?side4 A5.out).mono ?_); (case side1 => repeat (first | exact (Kd.C_below HR0_1.out HB.out) | (with_reducible refine Kd.C_alloc ?_ _) | (with_reducible refine Kd.C_drewN ?_ _) | (with_reducible refine Kd.C_drew ?_))); (case side2 => exact HC0_1.out); (case side3 => repeat (first | exact (Kd.C_below HR1.out HB.out) | (with_reducible refine Kd.C_alloc ?_ _) | (with_reducible refine Kd.C_drewN ?_ _) | (with_reducible refine Kd.C_drew ?_))); (case side4 => exact HC1.out); rintro e w13 ⟨rfl, hb⟩; refine ⟨_, rfl, ?_⟩; have n0_ := Aside0.mk (blk_below (bz BK335) hb); have n1_ := Aside0.mk (below_step bh hb); clear BK335 HB; have BK335 := n0_; have HB := n1_; clear n0_ n1_; (try clear hb); (try clear hb2); (try clear hk); (try clear hi)))
   go_meet
   case rel => exact ⟨_, (true), (by first | rfl | (simp; done) | (simp [*]; done)), H', ⟨by first | omega | exact Nat.le_refl _⟩, ⟨bz BK335⟩, ⟨by exact bh⟩⟩
 case rest =>
  clear HC3
  try clear c1
  try clear p2
  try clear c4
  try clear c5
  try clear c6
  try clear hcz10_0
  try clear hcz10_1
  try clear hcz12_0
  try clear hcz12_1
  try clear hcz8_0
  try clear hcz8_1
  try clear hfz10_0
  try clear hfz10_1
  try clear hfz12_0
  try clear hfz12_1
  try clear hfz8_0
  try clear hfz8_1
  obtain ⟨kq, x17_2, rfl, HA, HJ2, BK335, HB⟩ := hcut
  cases kq with
  | zero => exact absurd HA.out (by simp [impl_BillTerm.j0])
  | succ kj2 =>
   have H := HA.out
   clear HA
   simp only [impl_BillTerm.j0] at H
   by_cases c14 : x17_2 = true
   ·subst c14
    have H1 : (some (([] : List (S78)), (-1))) = some (r1, r2) := by rw [if_pos rfl] at H; exact H
    clear H
    have H := H1
    clear H1
    simp only [Option.some.injEq, Prod.mk.injEq] at H
    obtain ⟨rfl, rfl⟩ := H
    go_wp2
    go_ret2
    exact ⟨_, by first | rfl | (simp [errW_none, errW_some] <;> rfl) | (simp [*, errW_none, errW_some] <;> rfl), by first | exact Kd.R_nil _ _ _ _ _ | exact Kd.N_nil _ _ _ _ _ | exact Kd.V_nil _ _ _ _ _ | exact Kd.Q_nil _ _ _ _ _ | exact Kd.S_nil _ _ _ _ _, by exact bh⟩
   ·replace c14 := Bool.eq_false_iff.mpr c14
    subst c14
    have H1 : ((impl_billTerm.f kj2 l1 0).bind fun bt338 => (if (bt338.1.length : Int) > 9 then (some (([] : List (S78)), (-1))) else (some (bt338.1, bt338.2)))) = some (r1, r2) := by rw [if_neg (show ¬ (false = true) by decide)] at H; exact H
    clear H
    have H := H1
    clear H1
    replace H := Option.bind_eq_some_iff.mp H
    obtain ⟨⟨t338, t339⟩, A150, H⟩ := H
    replace H : (if (t338.length : Int) > 9 then (some (([] : List (S78)), (-1))) else (some (t338, t339))) = some (r1, r2) := H
    have A15 := Aside0.mk A150
    clear A150
    by_cases c16 : (t338.length : Int) > 9
    ·rw [if_pos c16] at H
     have c16b0 : decide (9 < (t338.length : Int)) = true := decide_eq_true c16
     have c16b1 : decide (9 < t338.length) = true := decide_eq_true (by omega)
     clear c16
     simp only [Option.some.injEq, Prod.mk.injEq] at H
     obtain ⟨rfl, rfl⟩ := H
     go_wp2_with (first | ((with_reducible refine gate_callee (f := 76) rfl ?_); refine goesL_ (some 20) rfl rfl Try.func76 kr rfl #[.slice A1 l1.length c1, .int .i64 0] rfl lm ?_; (with_reducible refine (impl_billTerm.calls kj2 _ _ l1 0 t338 t339 _ ?side1 ?side2 A15.out).mono ?_); (case side1 => repeat (first | exact (Kd.C_below HR1.out HB.out) | (with_reducible refine Kd.C_alloc ?_ _) | (with_reducible refine Kd.C_drewN ?_ _) | (with_reducible refine Kd.C_drew ?_))); (case side2 => exact HC1.out); rintro e w17 ⟨v340, rfl, ho0, hb⟩; refine ⟨_, rfl, ?_⟩; have n0_ := Aside0.mk (Kd.R_lower ho0 (below_size bh)); have n1_ := Aside0.mk (blk_below (bz BK335) hb); have n2_ := Aside0.mk (below_step bh hb); clear BK335 HB; have HO341 := n0_; have BK335 := n1_; have HB := n2_; clear n0_ n1_ n2_; (try clear hb); (try clear hb2); (try clear hk); (try clear hi); (try clear ho0); obtain ⟨Ao18, co18, eo18⟩ := Kd.R_slice HO341.out; subst eo18))
     go_ret2
     exact ⟨_, by first | rfl | (simp [errW_none, errW_some] <;> rfl) | (simp [*, errW_none, errW_some] <;> rfl), by first | exact Kd.R_nil _ _ _ _ _ | exact Kd.N_nil _ _ _ _ _ | exact Kd.V_nil _ _ _ _ _ | exact Kd.Q_nil _ _ _ _ _ | exact Kd.S_nil _ _ _ _ _, by exact bh⟩
    ·rw [if_neg c16] at H
     have c16b0 : decide (9 < (t338.length : Int)) = false := decide_eq_false c16
     have c16b1 : decide (9 < t338.length) = false := decide_eq_false (by omega)
     clear c16
     simp only [Option.some.injEq, Prod.mk.injEq] at H
     obtain ⟨rfl, rfl⟩ := H
     go_wp2_with (first | ((with_reducible refine gate_callee (f := 76) rfl ?_); refine goesL_ (some 20) rfl rfl Try.func76 kr rfl #[.slice A1 l1.length c1, .int .i64 0] rfl lm ?_; (with_reducible refine (impl_billTerm.calls kj2 _ _ l1 0 t338 t339 _ ?side1 ?side2 A15.out).mono ?_); (case side1 => repeat (first | exact (Kd.C_below HR1.out HB.out) | (with_reducible refine Kd.C_alloc ?_ _) | (with_reducible refine Kd.C_drewN ?_ _) | (with_reducible refine Kd.C_drew ?_))); (case side2 => exact HC1.out); rintro e w19 ⟨v340, rfl, ho0, hb⟩; refine ⟨_, rfl, ?_⟩; have n0_ := Aside0.mk (Kd.R_lower ho0 (below_size bh)); have n1_ := Aside0.mk (blk_below (bz BK335) hb); have n2_ := Aside0.mk (below_step bh hb); clear BK335 HB; have HO341 := n0_; have BK335 := n1_; have HB := n2_; clear n0_ n1_ n2_; (try clear hb); (try clear hb2); (try clear hk); (try clear hi); (try clear ho0); obtain ⟨Ao20, co20, eo20⟩ := Kd.R_slice HO341.out; subst eo20))
     go_ret2
     exact ⟨_, by first | rfl | (simp [errW_none, errW_some] <;> rfl) | (simp [*, errW_none, errW_some] <;> rfl), by (with_reducible repeat (first | apply Kd.R_alloc | apply Kd.R_drewN | apply Kd.R_drew)); exact HO341.out, by exact bh⟩

/-! ### spec_l1In: function 54 -/
def spec_l1In.f (a0 : Int) (a1 : Int) (a2 : Int) : Option (Bool) := if a0 ≥ a1 then (some (decide (a0 ≤ a2))) else (some false)
set_option maxHeartbeats 8000000 in
set_option maxRecDepth 100000 in
theorem spec_l1In.calls (a0 : Int) (a1 : Int) (a2 : Int) (r : Bool) (w : World) (h : spec_l1In.f a0 a1 a2 = some r) :
  Calls Try.prog 54 #[.int .i64 a0, .int .i64 a1, .int .i64 a2] w fun e w' => e = .returned (.bool r) ∧ Drawn0 w w' := by
 have H : (if a0 ≥ a1 then (some (decide (a0 ≤ a2))) else (some false)) = some r := h
 clear h
 by_cases c4 : a0 ≥ a1
 ·rw [if_pos c4] at H
  have c4b0 : decide (a1 ≤ a0) = true := decide_eq_true c4
  clear c4
  obtain rfl := Option.some.inj H
  go_enter Try.func54, Try.ntmps54
  go_wp2
  go_ret
  exact ⟨by first | rfl | (simp; done) | (simp [*]; done), by repeat (first | exact Drawn0.refl _ | apply Drawn0.step)⟩
 ·rw [if_neg c4] at H
  have c4b0 : decide (a1 ≤ a0) = false := decide_eq_false c4
  clear c4
  obtain rfl := Option.some.inj H
  go_enter Try.func54, Try.ntmps54
  go_wp2
  go_ret
  exact ⟨by first | rfl | (simp; done) | (simp [*]; done), by repeat (first | exact Drawn0.refl _ | apply Drawn0.step)⟩

end Go.Proofs.Ytnpjlpkbefdnlaa.QFnBillTerm
