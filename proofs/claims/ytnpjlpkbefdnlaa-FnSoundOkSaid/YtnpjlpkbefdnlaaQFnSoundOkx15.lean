-- Printed for this claim by a turned copy of the print (wip/myprint). Lean checks it. Squeezed. Worded. Tightened.
import Derived.Test.YtnpjlpkbefdnlaaQFnSoundOkx0
import Derived.Test.YtnpjlpkbefdnlaaQFnSoundOkx4
import Derived.Test.YtnpjlpkbefdnlaaQFnSoundOkx6
import Derived.Test.YtnpjlpkbefdnlaaQFnSoundOkx9
import Derived.Test.YtnpjlpkbefdnlaaQFnSoundOkx14
namespace Go.Proofs.Ytnpjlpkbefdnlaa.QFnSoundOk
open Go.RowKit Go.Proofs.YtnpjlpkbefdnlaaW.PrintWords Go.Proofs.YtnpjlpkbefdnlaaW.PrintLast Go.Proofs.YtnpjlpkbefdnlaaW.PrintMore
attribute [local go_sem] max2_int min2_int max_two min_two max_three min_three max_four min_four Opens.cell_twice   -- for this text's walks alone
set_option linter.unusedVariables false
set_option linter.unusedSimpArgs false

/-! ### laws_FnSoundOk: function 6 -/
mutual
def laws_FnSoundOk.l0 : Nat → List (S41) → Int → Int → List Int → Option (Bool)
 | 0, _, _, _, _ => none
 | k + 1, x4, x6, x383000, x383001 => if 0 ≤ x383000 then (if x6 < (shl .i64 1 x383000) then (laws_FnSoundOk.l1 k x4 x6 0 x383000 x383001) else (if 0 ≤ (wrap64 ((x4.length : Int) - 1)) then (if (wrap64 ((x4.length : Int) - 1)) < (x4.length : Int) then ((some (([(⟨(rd_T41 x4 (wrap64 ((x4.length : Int) - 1))).f0, (rd_T41 x4 (wrap64 ((x4.length : Int) - 1))).f1, (rd_T41 x4 (wrap64 ((x4.length : Int) - 1))).f2⟩ : S41)] : List (S41)) : List (S41))).bind fun y387 => ((impl_ProcessOk.f k x383000 x383001 y387).bind fun t390 => (if t390 = true then ((impl_SoundOk.f k x383000 x383001 y387).bind fun t391 => (if t391 = true then (some true) else (some (((rd_T41 x4 (wrap64 ((x4.length : Int) - 1))).f1) == 11)))) else (none)))) else (none)) else (none))) else (none)
def laws_FnSoundOk.l1 : Nat → List (S41) → Int → Int → Int → List Int → Option (Bool)
 | 0, _, _, _, _, _ => none
 | k + 1, x4, x6, x7, x383000, x383001 => if x7 < x383000 then ((impl_LawBy.f k x383000 x383001 x4 x6).bind fun t393 => (if t393 = true then (if 0 ≤ x7 then ((impl_LawBy.f k x383000 x383001 x4 (Go.bits .or .i64 x6 (shl .i64 1 x7))).bind fun t394 => (if t394 = true then (laws_FnSoundOk.l1 k x4 x6 (wrap64 (x7 + 1)) x383000 x383001) else (none))) else (none)) else (laws_FnSoundOk.l1 k x4 x6 (wrap64 (x7 + 1)) x383000 x383001))) else (laws_FnSoundOk.l0 k x4 (wrap64 (x6 + 1)) x383000 x383001)
end
def laws_FnSoundOk.f (k : Nat) (l0 : List Int) : Option (Bool) := if (l0.length : Int) > 1048576 then (some true) else ((spec_DrawSoundOk.f k l0).bind fun bt375 => ((impl_SoundOk.f k bt375.1 bt375.2.1 bt375.2.2).bind fun t383 => ((spec_SoundOk.f k bt375.1 bt375.2.1 bt375.2.2).bind fun t384 => (if (t383 != t384) = true then (none) else (if t383 = true then (laws_FnSoundOk.l0 k bt375.2.2 0 bt375.1 bt375.2.1) else ((laws_alive.f).bind fun t385 => (some t385)))))))
theorem laws_FnSoundOk.mono_l : ∀ k, (∀ y0 y1 y2 y3, LeO (laws_FnSoundOk.l0 k y0 y1 y2 y3) (laws_FnSoundOk.l0 (k + 1) y0 y1 y2 y3)) ∧ (∀ y0 y1 y2 y3 y4, LeO (laws_FnSoundOk.l1 k y0 y1 y2 y3 y4) (laws_FnSoundOk.l1 (k + 1) y0 y1 y2 y3 y4))
 | 0 => ⟨fun _ _ _ _ r h => by simp [laws_FnSoundOk.l0] at h, fun _ _ _ _ _ r h => by simp [laws_FnSoundOk.l1] at h⟩
 | k + 1 => by
  obtain ⟨ih0, ih1⟩ := laws_FnSoundOk.mono_l k
  refine ⟨?_, ?_⟩
  ·intro y0 y1 y2 y3
   unfold laws_FnSoundOk.l0
   repeat' first
   | (with_reducible exact ih0 _ _ _ _)
   | (with_reducible exact ih1 _ _ _ _ _)
   | (with_reducible exact impl_LawBy.mono _ _ _ _ _)
   | (with_reducible exact impl_ProcessOk.mono _ _ _ _)
   | (with_reducible exact impl_SoundOk.mono _ _ _ _)
   | (with_reducible exact spec_DrawSoundOk.mono _ _)
   | (with_reducible exact spec_SoundOk.mono _ _ _ _)
   | (with_reducible exact LeO.refl _)
   | (with_reducible exact LeO.none _)
   | (with_reducible refine LeO.ite ?_ ?_)
   | (with_reducible refine LeO.bind ?_ (fun _ => ?_))
   | exact ih0 _ _ _ _
   | exact ih1 _ _ _ _ _
   | exact impl_LawBy.mono _ _ _ _ _
   | exact impl_ProcessOk.mono _ _ _ _
   | exact impl_SoundOk.mono _ _ _ _
   | exact spec_DrawSoundOk.mono _ _
   | exact spec_SoundOk.mono _ _ _ _
   | exact LeO.none _
   | refine LeO.ite ?_ ?_
   | refine LeO.bind ?_ (fun _ => ?_)
  ·intro y0 y1 y2 y3 y4
   unfold laws_FnSoundOk.l1
   repeat' first
   | (with_reducible exact ih0 _ _ _ _)
   | (with_reducible exact ih1 _ _ _ _ _)
   | (with_reducible exact impl_LawBy.mono _ _ _ _ _)
   | (with_reducible exact impl_ProcessOk.mono _ _ _ _)
   | (with_reducible exact impl_SoundOk.mono _ _ _ _)
   | (with_reducible exact spec_DrawSoundOk.mono _ _)
   | (with_reducible exact spec_SoundOk.mono _ _ _ _)
   | (with_reducible exact LeO.refl _)
   | (with_reducible exact LeO.none _)
   | (with_reducible refine LeO.ite ?_ ?_)
   | (with_reducible refine LeO.bind ?_ (fun _ => ?_))
   | exact ih0 _ _ _ _
   | exact ih1 _ _ _ _ _
   | exact impl_LawBy.mono _ _ _ _ _
   | exact impl_ProcessOk.mono _ _ _ _
   | exact impl_SoundOk.mono _ _ _ _
   | exact spec_DrawSoundOk.mono _ _
   | exact spec_SoundOk.mono _ _ _ _
   | exact LeO.none _
   | refine LeO.ite ?_ ?_
   | refine LeO.bind ?_ (fun _ => ?_)
theorem laws_FnSoundOk.mono : ∀ a0 k, LeO (laws_FnSoundOk.f k a0) (laws_FnSoundOk.f (k + 1) a0) := by
 intro a0 k
 obtain ⟨ih0, ih1⟩ := laws_FnSoundOk.mono_l k
 unfold laws_FnSoundOk.f
 repeat' first
   | (with_reducible exact ih0 _ _ _ _)
   | (with_reducible exact ih1 _ _ _ _ _)
   | (with_reducible exact impl_LawBy.mono _ _ _ _ _)
   | (with_reducible exact impl_ProcessOk.mono _ _ _ _)
   | (with_reducible exact impl_SoundOk.mono _ _ _ _)
   | (with_reducible exact spec_DrawSoundOk.mono _ _)
   | (with_reducible exact spec_SoundOk.mono _ _ _ _)
   | (with_reducible exact LeO.refl _)
   | (with_reducible exact LeO.none _)
   | (with_reducible refine LeO.ite ?_ ?_)
   | (with_reducible refine LeO.bind ?_ (fun _ => ?_))
   | exact ih0 _ _ _ _
   | exact ih1 _ _ _ _ _
   | exact impl_LawBy.mono _ _ _ _ _
   | exact impl_ProcessOk.mono _ _ _ _
   | exact impl_SoundOk.mono _ _ _ _
   | exact spec_DrawSoundOk.mono _ _
   | exact spec_SoundOk.mono _ _ _ _
   | exact LeO.none _
   | refine LeO.ite ?_ ?_
   | refine LeO.bind ?_ (fun _ => ?_)
def laws_FnSoundOk.T15 : Bool × List (List Nat × List Nat) := (true, [([], []), ([], []), ([], []), ([0, 1, 2], [0, 1, 2]), ([3, 3], [3]), ([4], [4]), ([4], [4]), ([4], [4]), ([4], [4]), ([8, 4], [4, 8]), ([7, 9, 4], [4, 7, 9]), ([5, 6, 10, 4, 4], [4, 5, 6, 10]), ([11, 4], [4, 11]), ([4, 12], [4, 12])])
def laws_FnSoundOk.B15 : List Nat := [0, 0, 0, 7, 15, 31, 31, 31, 31, 287, 927, 2047, 4095, 8191]
theorem laws_FnSoundOk.tab15 : rtab .any (opsOf Try.f6 15) = laws_FnSoundOk.T15 := by kernel_rfl
theorem laws_FnSoundOk.bits15 : waitsOk laws_FnSoundOk.T15.2 laws_FnSoundOk.B15 = true := by kernel_rfl
set_option maxHeartbeats 8000000 in
set_option maxRecDepth 100000 in
theorem laws_FnSoundOk.calls (k : Nat) (A0 : Option Addr) (c0 : Nat) (l0 : List Int) (r : Bool) (w : World) (hr0 : Kd.C (Kd.int .u8) w A0 l0.length l0) (hc0 : l0.length ≤ c0) (h : laws_FnSoundOk.f k l0 = some r) :
  Calls Try.prog 6 #[.slice A0 l0.length c0] w fun e w' => e = .returned (.bool r) ∧ Below w.heap.size w w' := by
 have hu25 := Try.underlying25
 have hu41 := Try.underlying41
 have HR0 := Aside0.mk hr0
 have HC0 := Aside0.mk hc0
 clear hr0 hc0
 have HB := Aside0.mk (Below.refl w.heap.size w)
 have H : (if (l0.length : Int) > 1048576 then (some true) else ((spec_DrawSoundOk.f k l0).bind fun bt375 => ((impl_SoundOk.f k bt375.1 bt375.2.1 bt375.2.2).bind fun t383 => ((spec_SoundOk.f k bt375.1 bt375.2.1 bt375.2.2).bind fun t384 => (if (t383 != t384) = true then (none) else (if t383 = true then (laws_FnSoundOk.l0 k bt375.2.2 0 bt375.1 bt375.2.1) else ((laws_alive.f).bind fun t385 => (some t385)))))))) = some r := h
 clear h
 by_cases c2 : (l0.length : Int) > 1048576
 ·rw [if_pos c2] at H
  have c2b0 : decide (1048576 < (l0.length : Int)) = true := decide_eq_true c2
  have c2b1 : decide (1048576 < l0.length) = true := decide_eq_true (by omega)
  clear c2
  obtain rfl := Option.some.inj H
  go_enter Try.func6, Try.ntmps6
  go_wp2
  go_ret
  exact ⟨by first | rfl | (simp [errW_none, errW_some] <;> rfl) | (simp [*, errW_none, errW_some] <;> rfl), by exact bh⟩
 ·rw [if_neg c2] at H
  have c2b0 : decide (1048576 < (l0.length : Int)) = false := decide_eq_false c2
  have c2b1 : decide (1048576 < l0.length) = false := decide_eq_false (by omega)
  clear c2
  replace H := Option.bind_eq_some_iff.mp H
  obtain ⟨⟨t375, t376, t379⟩, A30, H⟩ := H
  replace H : ((impl_SoundOk.f k t375 t376 t379).bind fun t383 => ((spec_SoundOk.f k t375 t376 t379).bind fun t384 => (if (t383 != t384) = true then (none) else (if t383 = true then (laws_FnSoundOk.l0 k t379 0 t375 t376) else ((laws_alive.f).bind fun t385 => (some t385)))))) = some r := H
  have A3 := Aside0.mk A30
  clear A30
  replace H := Option.bind_eq_some_iff.mp H
  obtain ⟨t383, A40, H⟩ := H
  replace H : ((spec_SoundOk.f k t375 t376 t379).bind fun t384 => (if (t383 != t384) = true then (none) else (if t383 = true then (laws_FnSoundOk.l0 k t379 0 t375 t376) else ((laws_alive.f).bind fun t385 => (some t385))))) = some r := H
  have A4 := Aside0.mk A40
  clear A40
  replace H := Option.bind_eq_some_iff.mp H
  obtain ⟨t384, A50, H⟩ := H
  replace H : (if (t383 != t384) = true then (none) else (if t383 = true then (laws_FnSoundOk.l0 k t379 0 t375 t376) else ((laws_alive.f).bind fun t385 => (some t385)))) = some r := H
  have A5 := Aside0.mk A50
  clear A50
  by_cases c6 : (t383 != t384) = true
  ·rw [if_pos c6] at H
   exact absurd H (by simp)
  ·rw [if_neg c6] at H
   have c6b0 : (t383 != t384) = false := by simpa using c6
   (try (have c6b1 : decide (t383 = t384) = true := by simpa using c6))
   (try (have c6b2 : (t383 == t384) = true := by simpa using c6))
   clear c6
   by_cases c7 : t383 = true
   ·subst c7
    have H1 : (laws_FnSoundOk.l0 k t379 0 t375 t376) = some r := by rw [if_pos rfl] at H; exact H
    clear H
    have H := H1
    clear H1
    have H' := Aside0.mk H
    clear H
    go_enter Try.func6, Try.ntmps6
    go_wp2_with (first | ((with_reducible refine gate_callee (f := 32) rfl ?_); refine goesL_ (some 14) rfl rfl Try.func32 kr rfl #[.slice A0 l0.length c0] rfl lm ?_; (with_reducible refine (spec_DrawSoundOk.calls k _ _ l0 t375 t376 t379 _ ?side1 ?side2 A3.out).mono ?_); (case side1 => repeat (first | exact HR0.out | (with_reducible refine Kd.C_alloc ?_ _) | (with_reducible refine Kd.C_drewN ?_ _) | (with_reducible refine Kd.C_drew ?_))); (case side2 => exact HC0.out); rintro e w8 ⟨v377, v380, rfl, ho0, ho1, hb⟩; refine ⟨_, rfl, ?_⟩; have n0_ := Aside0.mk (Kd.R_lower ho0 (below_size bh)); have n1_ := Aside0.mk (Kd.N_lower (Kd.N_mono (ok' := fun k_ => some k_ ≠ (v377 : Value).ownBlock) (Kd.S_N (Kd.S_bound (Kd.S_apart' ho1 (Kd.R_typed ho0) (by decide)))) (fun k_ hk_ => hk_.1.2)) (below_size bh)); have n2_ := Aside0.mk (below_step bh hb); clear HB; have HO378 := n0_; have HO381 := n1_; have HB := n2_; clear n0_ n1_ n2_; (try clear hb); (try clear hb2); (try clear hk); (try clear hi); (try clear ho0); (try clear ho1)) | ((with_reducible refine gate_dst (N := 3) rfl ?_); (try (refine gate_guard (by rfl) ?_; dsimp only)); refine box_event ?hg (N := 3) ?hd (cs := #[.int .i64 0, .slice none 0 0]) (t := 25) ?hr ?_; (case hd => rfl); (case hg => rfl); (case hr => first | (go_simp; done) | (go_simp; rfl)); intro gb382 hg w9 hbox hb; have n0_ := Aside0.mk (Kd.R_below (rz HO378) hb); have n1_ := Aside0.mk (Kd.N_below (Kd.N_elderB (nz HO381) gb382 (Nat.le_of_eq hg.symm)) hb); have n2_ := Aside0.mk (below_step bh hb); have n3_ := Aside0.mk (hbox); have n4_ := Aside0.mk ((gs (W0 := w) hg bh)); have n5_ := Aside0.mk ((gs (W0 := w) hg bh)); clear HO378 HO381 HB; have HO378 := n0_; have HO381 := n1_; have HB := n2_; have BK382 := n3_; have GW382 := n4_; have GE382 := n5_; clear n0_ n1_ n2_ n3_ n4_ n5_ hb hbox hg; have hcz10_0 := cz0 BK382; have hcz10_1 := cz1 BK382; have hfz10_0 := blk_frozen BK382.out 0; have hfz10_1 := blk_frozen BK382.out 1; obtain ⟨Ao11, co11, eo11⟩ := Kd.R_slice HO378.out; subst eo11; obtain ⟨Ao12, co12, eo12⟩ := Kd.N_slice HO381.out; subst eo12) | ((with_reducible refine gate_callee (f := 25) rfl ?_); refine goesL_ (some 19) rfl rfl Try.func25 kr rfl #[.agg #[.int .i64 t375, .slice Ao11 t376.length co11], .slice Ao12 t379.length co12] rfl lm ?_; (with_reducible refine (impl_SoundOk.calls k t375 _ _ t376 _ _ t379 true _ ?side1 ?side2 ?side3 ?side4 A4.out).mono ?_); (case side1 => refine (Kd.R_reads' (e := 3) (base := w.heap.size) (ok := fun k_ => True) (n := t376.length) (c := co11) ?_).2.2; exact (fR HO378 BK382)); (case side2 => exact (Kd.R_reads' HO378.out).2.1); (case side3 => refine (Kd.N_reads' (e := 41) (base := w.heap.size) (ok := fun k_ => (some k_ ≠ (.slice Ao11 t376.length co11 : Value).ownBlock ∧ k_ ≠ gb382)) (n := t379.length) (c := co12) ?_).2.2; exact (uN HO381 (fun _ hk => hk.2))); (case side4 => exact (Kd.N_reads' HO381.out).2.1); rintro e w13 ⟨rfl, hb⟩; refine ⟨_, rfl, ?_⟩; have n0_ := Aside0.mk (Kd.R_below (fR HO378 BK382) hb); have n1_ := Aside0.mk (Kd.N_below (uN HO381 (fun _ hk => hk.2)) hb); have n2_ := Aside0.mk (blk_below (g := gb382) (o := .cells #[.int .i64 t375, .slice Ao11 t376.length co11] 25 (0, 0)) (bp BK382) hb); have n3_ := Aside0.mk (below_step bh hb); clear HO378 HO381 BK382 HB; have HO378 := n0_; have HO381 := n1_; have BK382 := n2_; have HB := n3_; clear n0_ n1_ n2_ n3_; (try clear hb); (try clear hb2); (try clear hk); (try clear hi); have hcz14_0 := cz0 BK382; have hcz14_1 := cz1 BK382; have hfz14_0 := blk_frozen BK382.out 0; have hfz14_1 := blk_frozen BK382.out 1) | ((with_reducible refine gate_callee (f := 33) rfl ?_); refine goesL_ (some 23) rfl rfl Try.func33 kr rfl #[.agg #[.int .i64 t375, .slice Ao11 t376.length co11], .slice Ao12 t379.length co12] rfl lm ?_; (with_reducible refine (spec_SoundOk.calls k t375 _ _ t376 _ _ t379 t384 _ ?side1 ?side2 ?side3 ?side4 A5.out).mono ?_); (case side1 => repeat (first | exact (Kd.R_reads' HO378.out).2.2 | (with_reducible refine Kd.C_alloc ?_ _) | (with_reducible refine Kd.C_drewN ?_ _) | (with_reducible refine Kd.C_drew ?_))); (case side2 => exact (Kd.R_reads' HO378.out).2.1); (case side3 => repeat (first | exact (Kd.N_reads' HO381.out).2.2 | (with_reducible refine Kd.C_alloc ?_ _) | (with_reducible refine Kd.C_drewN ?_ _) | (with_reducible refine Kd.C_drew ?_))); (case side4 => exact (Kd.N_reads' HO381.out).2.1); rintro e w15 ⟨rfl, hb⟩; refine ⟨_, rfl, ?_⟩; have n0_ := Aside0.mk (Kd.R_below (rz HO378) hb); have n1_ := Aside0.mk (Kd.N_below (nz HO381) hb); have n2_ := Aside0.mk (blk_below (bz BK382) hb); have n3_ := Aside0.mk (below_step bh hb); clear HO378 HO381 BK382 HB; have HO378 := n0_; have HO381 := n1_; have BK382 := n2_; have HB := n3_; clear n0_ n1_ n2_ n3_; (try clear hb); (try clear hb2); (try clear hk); (try clear hi)))
    go_loopg [6] k (fun kq v6 w' => ∃ (x6_1 : Int), v6 = .int .i64 x6_1 ∧ Aside0 (laws_FnSoundOk.l0 kq t379 x6_1 t375 t376 = some r) ∧ Aside0 (kq ≤ k) ∧ Aside0 (Kd.N k41 41 w' w.heap.size (fun k_ => some k_ ≠ ((.slice Ao11 t376.length co11) : Value).ownBlock ∧ k_ ≠ gb382) (.slice Ao12 t379.length co12) t379) ∧ Aside0 (Kd.R (Kd.int .i64) 3 w' w.heap.size (fun _ => True) (.slice Ao11 t376.length co11) t376) ∧ Aside0 (w'.heap[gb382]? = some (.cells #[.int .i64 t375, (.slice Ao11 t376.length co11)] 25 (0, 0))) ∧ Aside0 (Below w.heap.size w w'))
    case atStart => exact ⟨(0), (by first | rfl | (simp; done) | (simp [*]; done)), H', ⟨Nat.le_refl _⟩, ⟨nz HO381⟩, ⟨rz HO378⟩, ⟨bz BK382⟩, ⟨by exact bh⟩⟩
    case round =>
     clear H'
     try clear c2
     try clear c2b0
     try clear c2b1
     try clear p2
     try clear c3
     try clear c6
     try clear c6b0
     try clear c6b1
     try clear c6b2
     try clear c7
     try clear hcz10_0
     try clear hcz10_1
     try clear hcz14_0
     try clear hcz14_1
     try clear hfz10_0
     try clear hfz10_1
     try clear hfz14_0
     try clear hfz14_1
     obtain ⟨x6_1, rfl, HA, HK1, HO_4, HO_383001, BK382, HB⟩ := hrel
     cases gk with
     | zero => exact absurd HA.out (by simp [laws_FnSoundOk.l0])
     | succ k1 =>
      have H := HA.out
      clear HA
      simp only [laws_FnSoundOk.l0] at H
      by_cases c16 : 0 ≤ t375
      ·rw [if_pos c16] at H
       have c16b0 := eq_true c16
       have c16b1 : decide (0 ≤ t375) = true := decide_eq_true c16
       clear c16
       obtain ⟨ji17, hji17⟩ : ∃ j_ : Int, (shl .i64 1 t375) = j_ := ⟨_, rfl⟩
       replace H : (if x6_1 < (ji17) then (laws_FnSoundOk.l1 k1 t379 x6_1 0 t375 t376) else (if 0 ≤ (wrap64 ((t379.length : Int) - 1)) then (if (wrap64 ((t379.length : Int) - 1)) < (t379.length : Int) then ((some (([(⟨(rd_T41 t379 (wrap64 ((t379.length : Int) - 1))).f0, (rd_T41 t379 (wrap64 ((t379.length : Int) - 1))).f1, (rd_T41 t379 (wrap64 ((t379.length : Int) - 1))).f2⟩ : S41)] : List (S41)) : List (S41))).bind fun y387 => ((impl_ProcessOk.f k1 t375 t376 y387).bind fun t390 => (if t390 = true then ((impl_SoundOk.f k1 t375 t376 y387).bind fun t391 => (if t391 = true then (some true) else (some (((rd_T41 t379 (wrap64 ((t379.length : Int) - 1))).f1) == 11)))) else (none)))) else (none)) else (none))) = some r := by first | (rw [hji17] at H; exact H) | (simp only [hji17] at H ⊢; exact H)
       have hji17_ : (IntKind.i64.wrap (1 * 2 ^ min t375.toNat 64)) = ji17 := hji17
       have hji17z : t375 ≤ 64 → (IntKind.i64.wrap (1 * 2 ^ t375.toNat)) = ji17 := shl_small hji17
       have hji17u : (IntKind.i64.wrap (2 ^ min t375.toNat 64)) = ji17 := by have h_ := hji17_; rw [Int.one_mul] at h_; exact h_
       have hji17v : t375 ≤ 64 → (IntKind.i64.wrap (2 ^ t375.toNat)) = ji17 := fun hle_ => by have h_ := hji17z hle_; rw [Int.one_mul] at h_; exact h_
       have hji17y : (wrap64 (1 * 2 ^ min t375.toNat 64)) = ji17 := (i64_w _).symm.trans hji17_
       have hji17x : t375 ≤ 64 → (wrap64 (1 * 2 ^ t375.toNat)) = ji17 := fun h_ => (i64_w _).symm.trans (hji17z h_)
       by_cases c18 : x6_1 < (ji17)
       ·rw [if_pos c18] at H
        have c18b0 : decide (x6_1 < (ji17)) = true := decide_eq_true c18
        clear c18
        have H' := Aside0.mk H
        clear H
        have hcz19_0 := cz0 BK382
        have hcz19_1 := cz1 BK382
        have hfz19_0 := blk_frozen BK382.out 0
        have hfz19_1 := blk_frozen BK382.out 1
        go_wp2
        go_loopg [7] k1 (fun kq v7 w' => ∃ (x7_2 : Int), v7 = .int .i64 x7_2 ∧ Aside0 (laws_FnSoundOk.l1 kq t379 x6_1 x7_2 t375 t376 = some r) ∧ Aside0 (kq ≤ k1) ∧ Aside0 (Kd.N k41 41 w' w.heap.size (fun k_ => some k_ ≠ ((.slice Ao11 t376.length co11) : Value).ownBlock ∧ k_ ≠ gb382) (.slice Ao12 t379.length co12) t379) ∧ Aside0 (Kd.R (Kd.int .i64) 3 w' w.heap.size (fun _ => True) (.slice Ao11 t376.length co11) t376) ∧ Aside0 (w'.heap[gb382]? = some (.cells #[.int .i64 t375, (.slice Ao11 t376.length co11)] 25 (0, 0))) ∧ Aside0 (Below w.heap.size w w'))
        case atStart => exact ⟨(0), (by first | rfl | (simp; done) | (simp [*]; done)), H', ⟨Nat.le_refl _⟩, ⟨nz HO_4⟩, ⟨rz HO_383001⟩, ⟨bz BK382⟩, ⟨by exact bh⟩⟩
        case round =>
         clear H'
         try clear c1
         try clear c2
         try clear c2b0
         try clear c2b1
         try clear p2
         try clear c3
         try clear c6
         try clear c6b0
         try clear c6b1
         try clear c6b2
         try clear p6
         try clear c7
         try clear c16
         try clear c16b0
         try clear c16b1
         try clear c18
         try clear c18b0
         try clear hcz10_0
         try clear hcz10_1
         try clear hcz14_0
         try clear hcz14_1
         try clear hcz19_0
         try clear hcz19_1
         try clear hfz10_0
         try clear hfz10_1
         try clear hfz14_0
         try clear hfz14_1
         try clear hfz19_0
         try clear hfz19_1
         try clear p2
         obtain ⟨x7_2, rfl, HA, HK2, HO_4, HO_383001, BK382, HB⟩ := hrel
         cases gk with
         | zero => exact absurd HA.out (by simp [laws_FnSoundOk.l1])
         | succ k2 =>
          have H := HA.out
          clear HA
          simp only [laws_FnSoundOk.l1] at H
          by_cases c20 : x7_2 < t375
          ·rw [if_pos c20] at H
           have c20b0 : decide (x7_2 < t375) = true := decide_eq_true c20
           clear c20
           replace H := Option.bind_eq_some_iff.mp H
           obtain ⟨t393, A210, H⟩ := H
           replace H : (if t393 = true then (if 0 ≤ x7_2 then ((impl_LawBy.f k2 t375 t376 t379 (Go.bits .or .i64 x6_1 (shl .i64 1 x7_2))).bind fun t394 => (if t394 = true then (laws_FnSoundOk.l1 k2 t379 x6_1 (wrap64 (x7_2 + 1)) t375 t376) else (none))) else (none)) else (laws_FnSoundOk.l1 k2 t379 x6_1 (wrap64 (x7_2 + 1)) t375 t376)) = some r := H
           have A21 := Aside0.mk A210
           clear A210
           by_cases c22 : t393 = true
           ·subst c22
            have H1 : (if 0 ≤ x7_2 then ((impl_LawBy.f k2 t375 t376 t379 (Go.bits .or .i64 x6_1 (shl .i64 1 x7_2))).bind fun t394 => (if t394 = true then (laws_FnSoundOk.l1 k2 t379 x6_1 (wrap64 (x7_2 + 1)) t375 t376) else (none))) else (none)) = some r := by rw [if_pos rfl] at H; exact H
            clear H
            have H := H1
            clear H1
            by_cases c23 : 0 ≤ x7_2
            ·rw [if_pos c23] at H
             have c23b0 := eq_true c23
             have c23b1 : decide (0 ≤ x7_2) = true := decide_eq_true c23
             clear c23
             obtain ⟨ji24, hji24⟩ : ∃ j_ : Int, (shl .i64 1 x7_2) = j_ := ⟨_, rfl⟩
             replace H : ((impl_LawBy.f k2 t375 t376 t379 (Go.bits .or .i64 x6_1 (ji24))).bind fun t394 => (if t394 = true then (laws_FnSoundOk.l1 k2 t379 x6_1 (wrap64 (x7_2 + 1)) t375 t376) else (none))) = some r := by first | (rw [hji24] at H; exact H) | (simp only [hji24] at H ⊢; exact H)
             (try rw [hji24] at A21)
             have hji24_ : (IntKind.i64.wrap (1 * 2 ^ min x7_2.toNat 64)) = ji24 := hji24
             have hji24z : x7_2 ≤ 64 → (IntKind.i64.wrap (1 * 2 ^ x7_2.toNat)) = ji24 := shl_small hji24
             have hji24u : (IntKind.i64.wrap (2 ^ min x7_2.toNat 64)) = ji24 := by have h_ := hji24_; rw [Int.one_mul] at h_; exact h_
             have hji24v : x7_2 ≤ 64 → (IntKind.i64.wrap (2 ^ x7_2.toNat)) = ji24 := fun hle_ => by have h_ := hji24z hle_; rw [Int.one_mul] at h_; exact h_
             have hji24y : (wrap64 (1 * 2 ^ min x7_2.toNat 64)) = ji24 := (i64_w _).symm.trans hji24_
             have hji24x : x7_2 ≤ 64 → (wrap64 (1 * 2 ^ x7_2.toNat)) = ji24 := fun h_ => (i64_w _).symm.trans (hji24z h_)
             replace H := Option.bind_eq_some_iff.mp H
             obtain ⟨t394, A250, H⟩ := H
             replace H : (if t394 = true then (laws_FnSoundOk.l1 k2 t379 x6_1 (wrap64 (x7_2 + 1)) t375 t376) else (none)) = some r := H
             have A25 := Aside0.mk A250
             clear A250
             by_cases c26 : t394 = true
             ·subst c26
              have H1 : (laws_FnSoundOk.l1 k2 t379 x6_1 (wrap64 (x7_2 + 1)) t375 t376) = some r := by rw [if_pos rfl] at H; exact H
              clear H
              have H := H1
              clear H1
              have H' := Aside0.mk H
              clear H
              have hcz27_0 := cz0 BK382
              have hcz27_1 := cz1 BK382
              have hfz27_0 := blk_frozen BK382.out 0
              have hfz27_1 := blk_frozen BK382.out 1
              try go_wp2
              have n0_ := Aside0.mk (Kd.N_drew HO_4.out)
              have n1_ := Aside0.mk (Kd.R_drew HO_383001.out)
              have n2_ := Aside0.mk (blk_drew BK382.out)
              have n3_ := Aside0.mk (below_drew1 HB.out)
              clear HO_4 HO_383001 BK382 HB
              have HO_4 := n0_
              have HO_383001 := n1_
              have BK382 := n2_
              have HB := n3_
              clear n0_ n1_ n2_ n3_
              refine start_ (n := 14) (S := fun w' => w'.cell? ⟨gb382, 0, none⟩ = some (.int .i64 t375) ∧ w'.cell? ⟨gb382, 1, none⟩ = some (.slice Ao11 t376.length co11)) (ds := []) #[F,F,F,F,F,F,F,F,F,F,F,F,F,F] kr rfl rfl ⟨cz0 BK382, cz1 BK382⟩ (fun hHeld => ?_); refine with_tabW laws_FnSoundOk.tab15 laws_FnSoundOk.bits15 (fun HT_ HW_ => ?_)
              generalize wr.drew = w28 at HO_4 HO_383001 BK382 HB hHeld ⊢
              refine pu 1 (some 42) #[F,T,F,F,F,F,F,F,F,F,F,F,F,F] (any_of HT_.out kr) ?_
              refine pu 2 (some 43) #[F,T,T,F,F,F,F,F,F,F,F,F,F,F] (any_of HT_.out kr) ?_
              refine tk2 0 (some 41) #[T,T,T,F,F,F,F,F,F,F,F,F,F,F] (take_ofW HT_.out HW_.out kr) ?_
              refine one_ (i := 3) (N := some 44) #[T,T,T,T,F,F,F,F,F,F,F,F,F,F] rfl rfl (one_of HT_.out kr) (by decide) (fun K hK => ?_)
              refine goes_ Try.func24 kr rfl #[.agg #[.int .i64 t375, .slice Ao11 t376.length co11], .slice Ao12 t379.length co12, .int .i64 x6_1] (by rfl) rfl rfl lm ?_
              with_reducible refine (impl_LawBy.calls k2 t375 _ _ t376 _ _ t379 x6_1 true _ ?side1 ?side2 ?side3 ?side4 A21.out).mono ?_
              (case side1 => repeat (first | exact (Kd.R_reads' HO_383001.out).2.2 | (with_reducible refine Kd.C_alloc ?_ _) | (with_reducible refine Kd.C_drewN ?_ _) | (with_reducible refine Kd.C_drew ?_)))
              (case side2 => exact (Kd.R_reads' HO_383001.out).2.1)
              (case side3 => repeat (first | exact (Kd.N_reads' HO_4.out).2.2 | (with_reducible refine Kd.C_alloc ?_ _) | (with_reducible refine Kd.C_drewN ?_ _) | (with_reducible refine Kd.C_drew ?_)))
              (case side4 => exact (Kd.N_reads' HO_4.out).2.1)
              rintro e w29 ⟨rfl, hb⟩
              refine ⟨_, rfl, ?_⟩
              have n0_ := Aside0.mk (Kd.N_below (nz HO_4) hb)
              have n1_ := Aside0.mk (Kd.R_below (rz HO_383001) hb)
              have n2_ := Aside0.mk (blk_below (bz BK382) hb)
              have n3_ := Aside0.mk (below_step bh hb)
              clear HO_4 HO_383001 BK382 HB
              have HO_4 := n0_
              have HO_383001 := n1_
              have BK382 := n2_
              have HB := n3_
              clear n0_ n1_ n2_ n3_
              (try clear hb)
              (try clear hb2)
              (try clear hk)
              (try clear hi)
              refine hK.out _ _ ⟨cz0 BK382, cz1 BK382⟩ (fun hHeld => ?_)
              clear hK K
              refine norm_ (a' := ?_) ?_ ?_
              rotate_left
              ·show Act.put _ (some 44) _ = _
               simp only [Act.put, List.setIfInBounds_toArray, List.set_cons_zero, List.set_cons_succ, i64_w, i32_w]
               rfl
              refine pu 4 (some 45) #[T,T,T,T,T,F,F,F,F,F,F,F,F,F] (any_of HT_.out kr) ?_
              refine pu 6 (some 47) #[T,T,T,T,T,F,T,F,F,F,F,F,F,F] (any_of HT_.out kr) ?_
              refine pu 7 (some 48) #[T,T,T,T,T,F,T,T,F,F,F,F,F,F] (any_of HT_.out kr) ?_
              refine pu 8 (some 49) #[T,T,T,T,T,F,T,T,T,F,F,F,F,F] (any_of HT_.out kr) ?_
              refine pu 9 (some 50) #[T,T,T,T,T,F,T,T,T,T,F,F,F,F] (any_of HT_.out kr) ?_
              refine pu 10 (some 51) #[T,T,T,T,T,F,T,T,T,T,T,F,F,F] (any_of HT_.out kr) ?_
              refine tk2 5 (some 46) #[T,T,T,T,T,T,T,T,T,T,T,F,F,F] (take_ofW HT_.out HW_.out kr) ?_
              refine one_ (i := 11) (N := some 52) #[T,T,T,T,T,T,T,T,T,T,T,T,F,F] rfl rfl (one_of HT_.out kr) (by decide) (fun K hK => ?_)
              refine goes_ Try.func24 kr rfl #[.agg #[.int .i64 t375, .slice Ao11 t376.length co11], .slice Ao12 t379.length co12, .int .i64 (Go.bits .or .i64 x6_1 (ji24))] (by rfl) rfl rfl (by (try simp only [List.map_toArray, List.map_cons, List.map_nil]); first | done | (simp only [hji24]; rfl) | rfl | (simp only [List.length_drop, List.length_take]; rfl)) ?_
              with_reducible refine (impl_LawBy.calls k2 t375 _ _ t376 _ _ t379 (Go.bits .or .i64 x6_1 (ji24)) true _ ?side1 ?side2 ?side3 ?side4 A25.out).mono ?_
              (case side1 => repeat (first | exact (Kd.R_reads' HO_383001.out).2.2 | (with_reducible refine Kd.C_alloc ?_ _) | (with_reducible refine Kd.C_drewN ?_ _) | (with_reducible refine Kd.C_drew ?_)))
              (case side2 => exact (Kd.R_reads' HO_383001.out).2.1)
              (case side3 => repeat (first | exact (Kd.N_reads' HO_4.out).2.2 | (with_reducible refine Kd.C_alloc ?_ _) | (with_reducible refine Kd.C_drewN ?_ _) | (with_reducible refine Kd.C_drew ?_)))
              (case side4 => exact (Kd.N_reads' HO_4.out).2.1)
              rintro e w30 ⟨rfl, hb⟩
              refine ⟨_, rfl, ?_⟩
              have n0_ := Aside0.mk (Kd.N_below (nz HO_4) hb)
              have n1_ := Aside0.mk (Kd.R_below (rz HO_383001) hb)
              have n2_ := Aside0.mk (blk_below (bz BK382) hb)
              have n3_ := Aside0.mk (below_step bh hb)
              clear HO_4 HO_383001 BK382 HB
              have HO_4 := n0_
              have HO_383001 := n1_
              have BK382 := n2_
              have HB := n3_
              clear n0_ n1_ n2_ n3_
              (try clear hb)
              (try clear hb2)
              (try clear hk)
              (try clear hi)
              refine hK.out _ _ ⟨cz0 BK382, cz1 BK382⟩ (fun hHeld => ?_)
              clear hK K
              refine norm_ (a' := ?_) ?_ ?_
              rotate_left
              ·show Act.put _ (some 52) _ = _
               simp only [Act.put, List.setIfInBounds_toArray, List.set_cons_zero, List.set_cons_succ, i64_w, i32_w]
               rfl
              refine pu 12 (some 53) #[T,T,T,T,T,T,T,T,T,T,T,T,T,F] (any_of HT_.out kr) ?_
              refine pu 13 (some 54) #[T,T,T,T,T,T,T,T,T,T,T,T,T,T] (any_of HT_.out kr) ?_
              refine done_ (done_of HT_.out kr) ?_
              try go_wp2
              go_roundg k2
              case measure => have := HK1.out; have := HK2.out; omega
              case rel => exact ⟨(wrap64 (x7_2 + 1)), (by first | rfl | (simp; done) | (simp [*]; done)), H', ⟨by have := HK1.out; have := HK2.out; omega⟩, ⟨nz HO_4⟩, ⟨rz HO_383001⟩, ⟨bz BK382⟩, ⟨by exact bh⟩⟩
             ·replace c26 := Bool.eq_false_iff.mpr c26
              subst c26
              have H1 : (none) = some r := by rw [if_neg (show ¬ (false = true) by decide)] at H; exact H
              clear H
              have H := H1
              clear H1
              exact absurd H (by simp)
            ·rw [if_neg c23] at H
             exact absurd H (by simp)
           ·replace c22 := Bool.eq_false_iff.mpr c22
            subst c22
            have H1 : (laws_FnSoundOk.l1 k2 t379 x6_1 (wrap64 (x7_2 + 1)) t375 t376) = some r := by rw [if_neg (show ¬ (false = true) by decide)] at H; exact H
            clear H
            have H := H1
            clear H1
            have H' := Aside0.mk H
            clear H
            have hcz31_0 := cz0 BK382
            have hcz31_1 := cz1 BK382
            have hfz31_0 := blk_frozen BK382.out 0
            have hfz31_1 := blk_frozen BK382.out 1
            try go_wp2
            have n0_ := Aside0.mk (Kd.N_drew HO_4.out)
            have n1_ := Aside0.mk (Kd.R_drew HO_383001.out)
            have n2_ := Aside0.mk (blk_drew BK382.out)
            have n3_ := Aside0.mk (below_drew1 HB.out)
            clear HO_4 HO_383001 BK382 HB
            have HO_4 := n0_
            have HO_383001 := n1_
            have BK382 := n2_
            have HB := n3_
            clear n0_ n1_ n2_ n3_
            refine start_ (n := 14) (S := fun w' => w'.cell? ⟨gb382, 0, none⟩ = some (.int .i64 t375) ∧ w'.cell? ⟨gb382, 1, none⟩ = some (.slice Ao11 t376.length co11)) (ds := []) #[F,F,F,F,F,F,F,F,F,F,F,F,F,F] kr rfl rfl ⟨cz0 BK382, cz1 BK382⟩ (fun hHeld => ?_); refine with_tabW laws_FnSoundOk.tab15 laws_FnSoundOk.bits15 (fun HT_ HW_ => ?_)
            generalize wr.drew = w32 at HO_4 HO_383001 BK382 HB hHeld ⊢
            refine pu 1 (some 42) #[F,T,F,F,F,F,F,F,F,F,F,F,F,F] (any_of HT_.out kr) ?_
            refine pu 2 (some 43) #[F,T,T,F,F,F,F,F,F,F,F,F,F,F] (any_of HT_.out kr) ?_
            refine tk2 0 (some 41) #[T,T,T,F,F,F,F,F,F,F,F,F,F,F] (take_ofW HT_.out HW_.out kr) ?_
            refine one_ (i := 3) (N := some 44) #[T,T,T,T,F,F,F,F,F,F,F,F,F,F] rfl rfl (one_of HT_.out kr) (by decide) (fun K hK => ?_)
            refine goes_ Try.func24 kr rfl #[.agg #[.int .i64 t375, .slice Ao11 t376.length co11], .slice Ao12 t379.length co12, .int .i64 x6_1] (by rfl) rfl rfl lm ?_
            with_reducible refine (impl_LawBy.calls k2 t375 _ _ t376 _ _ t379 x6_1 false _ ?side1 ?side2 ?side3 ?side4 A21.out).mono ?_
            (case side1 => repeat (first | exact (Kd.R_reads' HO_383001.out).2.2 | (with_reducible refine Kd.C_alloc ?_ _) | (with_reducible refine Kd.C_drewN ?_ _) | (with_reducible refine Kd.C_drew ?_)))
            (case side2 => exact (Kd.R_reads' HO_383001.out).2.1)
            (case side3 => repeat (first | exact (Kd.N_reads' HO_4.out).2.2 | (with_reducible refine Kd.C_alloc ?_ _) | (with_reducible refine Kd.C_drewN ?_ _) | (with_reducible refine Kd.C_drew ?_)))
            (case side4 => exact (Kd.N_reads' HO_4.out).2.1)
            rintro e w33 ⟨rfl, hb⟩
            refine ⟨_, rfl, ?_⟩
            have n0_ := Aside0.mk (Kd.N_below (nz HO_4) hb)
            have n1_ := Aside0.mk (Kd.R_below (rz HO_383001) hb)
            have n2_ := Aside0.mk (blk_below (bz BK382) hb)
            have n3_ := Aside0.mk (below_step bh hb)
            clear HO_4 HO_383001 BK382 HB
            have HO_4 := n0_
            have HO_383001 := n1_
            have BK382 := n2_
            have HB := n3_
            clear n0_ n1_ n2_ n3_
            (try clear hb)
            (try clear hb2)
            (try clear hk)
            (try clear hi)
            refine hK.out _ _ ⟨cz0 BK382, cz1 BK382⟩ (fun hHeld => ?_)
            clear hK K
            refine norm_ (a' := ?_) ?_ ?_
            rotate_left
            ·show Act.put _ (some 44) _ = _
             simp only [Act.put, List.setIfInBounds_toArray, List.set_cons_zero, List.set_cons_succ, i64_w, i32_w]
             rfl
            refine pu 4 (some 45) #[T,T,T,T,T,F,F,F,F,F,F,F,F,F] (any_of HT_.out kr) ?_
            refine pure_ (i := 5) (N := some 46) (v := undef) (a' := ?_) #[T,T,T,T,T,T,F,F,F,F,F,F,F,F] rfl rfl (any_of HT_.out kr) (fun _ _ _ h => h) (Or.inr ⟨by rfl, rfl⟩) ?_ ?_
            rotate_left
            ·simp only [Act.put, List.setIfInBounds_toArray, List.set_cons_zero, List.set_cons_succ, i64_w, i32_w]
             rfl
            refine pure_ (i := 6) (N := some 47) (v := undef) (a' := ?_) #[T,T,T,T,T,T,T,F,F,F,F,F,F,F] rfl rfl (any_of HT_.out kr) (fun _ _ _ h => h) (Or.inr ⟨by rfl, rfl⟩) ?_ ?_
            rotate_left
            ·simp only [Act.put, List.setIfInBounds_toArray, List.set_cons_zero, List.set_cons_succ, i64_w, i32_w]
             rfl
            refine pure_ (i := 7) (N := some 48) (v := undef) (a' := ?_) #[T,T,T,T,T,T,T,T,F,F,F,F,F,F] rfl rfl (any_of HT_.out kr) (fun _ _ _ h => h) (Or.inr ⟨by rfl, rfl⟩) ?_ ?_
            rotate_left
            ·simp only [Act.put, List.setIfInBounds_toArray, List.set_cons_zero, List.set_cons_succ, i64_w, i32_w]
             rfl
            refine pure_ (i := 8) (N := some 49) (v := undef) (a' := ?_) #[T,T,T,T,T,T,T,T,T,F,F,F,F,F] rfl rfl (any_of HT_.out kr) (fun _ _ _ h => h) (Or.inr ⟨by rfl, rfl⟩) ?_ ?_
            rotate_left
            ·simp only [Act.put, List.setIfInBounds_toArray, List.set_cons_zero, List.set_cons_succ, i64_w, i32_w]
             rfl
            refine pure_ (i := 9) (N := some 50) (v := undef) (a' := ?_) #[T,T,T,T,T,T,T,T,T,T,F,F,F,F] rfl rfl (any_of HT_.out kr) (fun _ _ _ h => h) (Or.inr ⟨by rfl, rfl⟩) ?_ ?_
            rotate_left
            ·simp only [Act.put, List.setIfInBounds_toArray, List.set_cons_zero, List.set_cons_succ, i64_w, i32_w]
             rfl
            refine pure_ (i := 10) (N := some 51) (v := undef) (a' := ?_) #[T,T,T,T,T,T,T,T,T,T,T,F,F,F] rfl rfl (any_of HT_.out kr) (fun _ _ _ h => h) (Or.inr ⟨by rfl, rfl⟩) ?_ ?_
            rotate_left
            ·simp only [Act.put, List.setIfInBounds_toArray, List.set_cons_zero, List.set_cons_succ, i64_w, i32_w]
             rfl
            refine pure_ (i := 11) (N := some 52) (v := undef) (a' := ?_) #[T,T,T,T,T,T,T,T,T,T,T,T,F,F] rfl rfl (any_of HT_.out kr) (fun _ _ _ h => h) (Or.inr ⟨by rfl, rfl⟩) ?_ ?_
            rotate_left
            ·simp only [Act.put, List.setIfInBounds_toArray, List.set_cons_zero, List.set_cons_succ, i64_w, i32_w]
             rfl
            refine pure_ (i := 12) (N := some 53) (v := undef) (a' := ?_) #[T,T,T,T,T,T,T,T,T,T,T,T,T,F] rfl rfl (any_of HT_.out kr) (fun _ _ _ h => h) (Or.inr ⟨by rfl, rfl⟩) ?_ ?_
            rotate_left
            ·simp only [Act.put, List.setIfInBounds_toArray, List.set_cons_zero, List.set_cons_succ, i64_w, i32_w]
             rfl
            refine pu 13 (some 54) #[T,T,T,T,T,T,T,T,T,T,T,T,T,T] (any_of HT_.out kr) ?_
            refine done_ (done_of HT_.out kr) ?_
            try go_wp2
            go_roundg k2
            case measure => have := HK1.out; have := HK2.out; omega
            case rel => exact ⟨(wrap64 (x7_2 + 1)), (by first | rfl | (simp; done) | (simp [*]; done)), H', ⟨by have := HK1.out; have := HK2.out; omega⟩, ⟨nz HO_4⟩, ⟨rz HO_383001⟩, ⟨bz BK382⟩, ⟨by exact bh⟩⟩
          ·rw [if_neg c20] at H
           have c20b0 : decide (x7_2 < t375) = false := decide_eq_false c20
           clear c20
           have H' := Aside0.mk H
           clear H
           have hcz34_0 := cz0 BK382
           have hcz34_1 := cz1 BK382
           have hfz34_0 := blk_frozen BK382.out 0
           have hfz34_1 := blk_frozen BK382.out 1
           go_wp2
           go_roundg k2
           case measure => have := HK1.out; have := HK2.out; omega
           case rel => exact ⟨(wrap64 (x6_1 + 1)), (by first | rfl | (simp; done) | (simp [*]; done)), H', ⟨by have := HK1.out; have := HK2.out; omega⟩, ⟨nz HO_4⟩, ⟨rz HO_383001⟩, ⟨bz BK382⟩, ⟨by exact bh⟩⟩
       ·rw [if_neg c18] at H
        have c18b0 : decide (x6_1 < (ji17)) = false := decide_eq_false c18
        clear c18
        obtain ⟨ji35, hji35⟩ : ∃ j_ : Int, (wrap64 ((t379.length : Int) - 1)) = j_ := ⟨_, rfl⟩
        replace H : (if 0 ≤ (ji35) then (if (ji35) < (t379.length : Int) then ((some (([(⟨(rd_T41 t379 (ji35)).f0, (rd_T41 t379 (ji35)).f1, (rd_T41 t379 (ji35)).f2⟩ : S41)] : List (S41)) : List (S41))).bind fun y387 => ((impl_ProcessOk.f k1 t375 t376 y387).bind fun t390 => (if t390 = true then ((impl_SoundOk.f k1 t375 t376 y387).bind fun t391 => (if t391 = true then (some true) else (some (((rd_T41 t379 (ji35)).f1) == 11)))) else (none)))) else (none)) else (none)) = some r := by first | (rw [hji35] at H; exact H) | (simp only [hji35] at H ⊢; exact H)
        have hji35w : (IntKind.i64.wrap ((t379.length : Int) - 1)) = ji35 := (i64_w _).trans hji35
        by_cases c36 : 0 ≤ (ji35)
        ·rw [if_pos c36] at H
         have c36b0 : decide (0 ≤ (ji35)) = true := decide_eq_true c36
         clear c36
         by_cases c37 : (ji35) < (t379.length : Int)
         ·rw [if_pos c37] at H
          have c37b0 : decide ((ji35) < (t379.length : Int)) = true := decide_eq_true c37
          clear c37
          obtain ⟨y387, hy387⟩ : ∃ y_ : List (S41), y_ = (([(⟨(rd_T41 t379 (ji35)).f0, (rd_T41 t379 (ji35)).f1, (rd_T41 t379 (ji35)).f2⟩ : S41)] : List (S41))) := ⟨_, rfl⟩
          replace H : ((impl_ProcessOk.f k1 t375 t376 y387).bind fun t390 => (if t390 = true then ((impl_SoundOk.f k1 t375 t376 y387).bind fun t391 => (if t391 = true then (some true) else (some (((rd_T41 t379 (ji35)).f1) == 11)))) else (none))) = some r := by first | (rw [hy387]; with_reducible exact H) | (have H2_ := (Option.bind_some _ _).symm.trans H; rw [hy387]; with_reducible exact H2_) | (have H2_ := (Option.bind_some _ _).symm.trans H; with_reducible exact H2_) | with_reducible exact H | (rw [hy387]; exact H) | exact H
          have Ny387 := Aside0.mk hy387
          clear hy387
          replace H := Option.bind_eq_some_iff.mp H
          obtain ⟨t390, A380, H⟩ := H
          replace H : (if t390 = true then ((impl_SoundOk.f k1 t375 t376 y387).bind fun t391 => (if t391 = true then (some true) else (some (((rd_T41 t379 (ji35)).f1) == 11)))) else (none)) = some r := H
          have A38 := Aside0.mk A380
          clear A380
          by_cases c39 : t390 = true
          ·subst c39
           have H1 : ((impl_SoundOk.f k1 t375 t376 y387).bind fun t391 => (if t391 = true then (some true) else (some (((rd_T41 t379 (ji35)).f1) == 11)))) = some r := by rw [if_pos rfl] at H; exact H
           clear H
           have H := H1
           clear H1
           replace H := Option.bind_eq_some_iff.mp H
           obtain ⟨t391, A400, H⟩ := H
           replace H : (if t391 = true then (some true) else (some (((rd_T41 t379 (ji35)).f1) == 11))) = some r := H
           have A40 := Aside0.mk A400
           clear A400
           by_cases c41 : t391 = true
           ·subst c41
            have H1 : (some true) = some r := by rw [if_pos rfl] at H; exact H
            clear H
            have H := H1
            clear H1
            obtain rfl := Option.some.inj H
            have hcz42_0 := cz0 BK382
            have hcz42_1 := cz1 BK382
            have hfz42_0 := blk_frozen BK382.out 0
            have hfz42_1 := blk_frozen BK382.out 1
            have p386 : 0 ≤ ((ji35) : Int) := oda
            have q386 : (ji35) < (t379.length : Int) := oda
            obtain ⟨ad386, A386_0, c386_0, e386, hx386_0, hx386_1, hx386_2, hl386_0, hi386_0⟩ := at_T41 (Kd.N_reads' HO_4.out).2.2 (ji35) p386 q386
            cases e386
            obtain ⟨ce386, hce386, hMe386, hcc386⟩ := Kd.N_get HO_4.out z41 (ji35) p386 (by first | exact q386 | exact oda | (have e_ := (Kd.N_reads' HO_4.out).1; omega))
            obtain ⟨ua386_0, uc386_0, rfl, ul386_0, ge386_0⟩ := k41_openF hMe386
            have hv386_0 := hcc386 0 _ rfl
            rw [Nat.add_zero] at hv386_0
            replace hv386_0 := Option.some.inj (hv386_0.symm.trans hx386_0)
            injection hv386_0 with hva_ hvn_ hvc_
            rw [hva_] at ge386_0
            rw [hvc_] at ul386_0
            have HL386_0 := Aside0.mk (show Kd.V k78 78 _ w.heap.size _ _ ((rd_T41 t379 (ji35)).f0) from Kd.V_mk ul386_0 ge386_0)
            clear hva_ hvn_ hvc_ ge386_0 ul386_0 hcc386 hce386
            have HR386_0 := Aside0.mk hi386_0
            have HC386_0 := Aside0.mk hl386_0
            clear hi386_0 hl386_0
            replace p386 := eq_true p386
            replace q386 := eq_true q386
            go_wp2_with (first | ((with_reducible refine gate_dst (N := 61) rfl ?_); (try (refine gate_guard (by rfl) ?_; dsimp only)); refine Kd.N_lit k41 _ 41 ?hg (N' := 61) ?hd (xs := ([(⟨(rd_T41 t379 (ji35)).f0, (rd_T41 t379 (ji35)).f1, (rd_T41 t379 (ji35)).f2⟩ : S41)] : List (S41))) (inner := [.slice A386_0 ((rd_T41 t379 (ji35)).f0).length c386_0, .int .i64 ((rd_T41 t379 (ji35)).f1), .int .i64 ((rd_T41 t379 (ji35)).f2)]) (ok := (fun k_ => some k_ ≠ (.slice (some ad386) t379.length co12 : Value).ownBlock ∧ some k_ ≠ (.slice Ao11 t376.length co11 : Value).ownBlock ∧ k_ ≠ gb382)) (okp := (fun k_ => some k_ ≠ (.slice (some ad386) t379.length co12 : Value).ownBlock ∧ some k_ ≠ (.slice Ao11 t376.length co11 : Value).ownBlock ∧ k_ ≠ gb382)) ?hr ?hp (fun _ hk => hk) ((show ∀ k_, wr.heap.size ≤ k_ → (fun k_ => some k_ ≠ (.slice (some ad386) t379.length co12 : Value).ownBlock ∧ some k_ ≠ (.slice Ao11 t376.length co11 : Value).ownBlock ∧ k_ ≠ gb382) k_ from fun k_ hk => ⟨Kd.fresh' (Kd.N_lt (nz HO_4)) k_ hk, Kd.fresh' (Kd.R_lt (rz HO_383001)) k_ hk, Kd.freshB (bz BK382) k_ hk⟩) _ (Nat.le_refl _)) (Below.refl _ _) (Nat.le_refl _) (by simp) ?_; (case hd => rfl); (case hg => rfl); (case hr => first | (go_simp; done) | (go_simp; rfl)); (case hp => exact (Reps.c3 (show Kd.FK k41 _ _ (⟨(rd_T41 t379 (ji35)).f0, (rd_T41 t379 (ji35)).f1, (rd_T41 t379 (ji35)).f2⟩ : S41) [.slice A386_0 ((rd_T41 t379 (ji35)).f0).length c386_0, .int .i64 ((rd_T41 t379 (ji35)).f1), .int .i64 ((rd_T41 t379 (ji35)).f2)] from (k41_mkF _ _ (⟨(rd_T41 t379 (ji35)).f0, (rd_T41 t379 (ji35)).f1, (rd_T41 t379 (ji35)).f2⟩ : S41) (Kd.V_reads' (Kd.V_mono (ok' := (fun k_ => some k_ ≠ (.slice (some ad386) t379.length co12 : Value).ownBlock ∧ some k_ ≠ (.slice Ao11 t376.length co11 : Value).ownBlock ∧ k_ ≠ gb382)) (HL386_0.out) (fun k_ hk => ⟨hk.2, ⟨hk.1.1, hk.1.2⟩⟩))).2.1 (Kd.V_F (Kd.V_mono (ok' := (fun k_ => some k_ ≠ (.slice (some ad386) t379.length co12 : Value).ownBlock ∧ some k_ ≠ (.slice Ao11 t376.length co11 : Value).ownBlock ∧ k_ ≠ gb382)) (HL386_0.out) (fun k_ hk => ⟨hk.2, ⟨hk.1.1, hk.1.2⟩⟩))))) (Reps.none _ _))); intro v388 w43 ho44 hb hg_ hnew_; clear hg_ hnew_; (first | rw [← Ny387.out] at ho44 | (simp only [Int.reduceToNat] at ho44; rw [← Ny387.out] at ho44)); have n0_ := Aside0.mk (Kd.N_elder' (nz HO_4) (Kd.N_base ho44) hb); have n1_ := Aside0.mk (Kd.R_below (rz HO_383001) hb); have n2_ := Aside0.mk (Kd.V_elder' (vz HL386_0) (Kd.N_base ho44) hb); have n3_ := Aside0.mk (Kd.N_lower ho44 (below_size bh)); have n4_ := Aside0.mk (blk_below (bz BK382) hb); have n5_ := Aside0.mk (Kd.C_below (by repeat (first | (with_reducible exact HR386_0.out) | (with_reducible refine Kd.C_alloc ?_ _) | (with_reducible refine Kd.C_drewN ?_ _) | (with_reducible refine Kd.C_drew ?_) | exact HR386_0.out)) hb); have n6_ := Aside0.mk (below_step bh hb); clear HO_4 HO_383001 HL386_0 BK382 HR386_0 HB; have HO_4 := n0_; have HO_383001 := n1_; have HL386_0 := n2_; have HO389 := n3_; have BK382 := n4_; have HR386_0 := n5_; have HB := n6_; clear n0_ n1_ n2_ n3_ n4_ n5_ n6_ hb ho44; have hcz45_0 := cz0 BK382; have hcz45_1 := cz1 BK382; have hfz45_0 := blk_frozen BK382.out 0; have hfz45_1 := blk_frozen BK382.out 1; obtain ⟨Ao46, co46, eo46⟩ := Kd.N_slice HO389.out; subst eo46) | ((with_reducible refine gate_callee (f := 15) rfl ?_); refine goesL_ (some 64) rfl rfl Try.func15 kr rfl #[.agg #[.int .i64 t375, .slice Ao11 t376.length co11], .slice Ao46 y387.length co46] rfl lm ?_; (with_reducible refine (impl_ProcessOk.calls k1 t375 _ _ t376 _ _ y387 true _ ?side1 ?side2 ?side3 ?side4 A38.out).mono ?_); (case side1 => repeat (first | exact (Kd.R_reads' HO_383001.out).2.2 | (with_reducible refine Kd.C_alloc ?_ _) | (with_reducible refine Kd.C_drewN ?_ _) | (with_reducible refine Kd.C_drew ?_))); (case side2 => exact (Kd.R_reads' HO_383001.out).2.1); (case side3 => repeat (first | exact (Kd.N_reads' HO389.out).2.2 | (with_reducible refine Kd.C_alloc ?_ _) | (with_reducible refine Kd.C_drewN ?_ _) | (with_reducible refine Kd.C_drew ?_))); (case side4 => exact (Kd.N_reads' HO389.out).2.1); rintro e w47 ⟨rfl, hb⟩; refine ⟨_, rfl, ?_⟩; have n0_ := Aside0.mk (Kd.N_below (nz HO_4) hb); have n1_ := Aside0.mk (Kd.R_below (rz HO_383001) hb); have n2_ := Aside0.mk (Kd.V_below (vz HL386_0) hb); have n3_ := Aside0.mk (Kd.N_below (nz HO389) hb); have n4_ := Aside0.mk (blk_below (bz BK382) hb); have n5_ := Aside0.mk (Kd.C_below (by repeat (first | (with_reducible exact HR386_0.out) | (with_reducible refine Kd.C_alloc ?_ _) | (with_reducible refine Kd.C_drewN ?_ _) | (with_reducible refine Kd.C_drew ?_) | exact HR386_0.out)) hb); have n6_ := Aside0.mk (below_step bh hb); clear HO_4 HO_383001 HL386_0 HO389 BK382 HR386_0 HB; have HO_4 := n0_; have HO_383001 := n1_; have HL386_0 := n2_; have HO389 := n3_; have BK382 := n4_; have HR386_0 := n5_; have HB := n6_; clear n0_ n1_ n2_ n3_ n4_ n5_ n6_; (try clear hb); (try clear hb2); (try clear hk); (try clear hi); have hcz48_0 := cz0 BK382; have hcz48_1 := cz1 BK382; have hfz48_0 := blk_frozen BK382.out 0; have hfz48_1 := blk_frozen BK382.out 1) | (go_at_call 25; (with_reducible refine (impl_SoundOk.calls k1 t375 _ _ t376 _ _ y387 true _ ?side1 ?side2 ?side3 ?side4 A40.out).mono ?_); (case side1 => repeat (first | exact (Kd.R_reads' HO_383001.out).2.2 | (with_reducible refine Kd.C_alloc ?_ _) | (with_reducible refine Kd.C_drewN ?_ _) | (with_reducible refine Kd.C_drew ?_))); (case side2 => exact (Kd.R_reads' HO_383001.out).2.1); (case side3 => repeat (first | exact (Kd.N_reads' HO389.out).2.2 | (with_reducible refine Kd.C_alloc ?_ _) | (with_reducible refine Kd.C_drewN ?_ _) | (with_reducible refine Kd.C_drew ?_))); (case side4 => exact (Kd.N_reads' HO389.out).2.1); rintro e w49 ⟨rfl, hb⟩; have n0_ := Aside0.mk (Kd.N_below (nz HO_4) hb); have n1_ := Aside0.mk (Kd.R_below (rz HO_383001) hb); have n2_ := Aside0.mk (Kd.V_below (vz HL386_0) hb); have n3_ := Aside0.mk (Kd.N_below (nz HO389) hb); have n4_ := Aside0.mk (blk_below (bz BK382) hb); have n5_ := Aside0.mk (Kd.C_below (by repeat (first | (with_reducible exact HR386_0.out) | (with_reducible refine Kd.C_alloc ?_ _) | (with_reducible refine Kd.C_drewN ?_ _) | (with_reducible refine Kd.C_drew ?_) | exact HR386_0.out)) hb); have n6_ := Aside0.mk (below_step bh hb); clear HO_4 HO_383001 HL386_0 HO389 BK382 HR386_0 HB; have HO_4 := n0_; have HO_383001 := n1_; have HL386_0 := n2_; have HO389 := n3_; have BK382 := n4_; have HR386_0 := n5_; have HB := n6_; clear n0_ n1_ n2_ n3_ n4_ n5_ n6_; (try clear hb); (try clear hb2); (try clear hk); (try clear hi)))
            go_ret
            exact ⟨by first | rfl | (simp [errW_none, errW_some] <;> rfl) | (simp only [← hji17, ← hji35]; first | rfl | (simp [errW_none, errW_some] <;> rfl)) | (simp [*, errW_none, errW_some] <;> rfl), by exact bh⟩
           ·replace c41 := Bool.eq_false_iff.mpr c41
            subst c41
            have H1 : (some (((rd_T41 t379 (ji35)).f1) == 11)) = some r := by rw [if_neg (show ¬ (false = true) by decide)] at H; exact H
            clear H
            have H := H1
            clear H1
            obtain rfl := Option.some.inj H
            have hcz50_0 := cz0 BK382
            have hcz50_1 := cz1 BK382
            have hfz50_0 := blk_frozen BK382.out 0
            have hfz50_1 := blk_frozen BK382.out 1
            have p386 : 0 ≤ ((ji35) : Int) := oda
            have q386 : (ji35) < (t379.length : Int) := oda
            obtain ⟨ad386, A386_0, c386_0, e386, hx386_0, hx386_1, hx386_2, hl386_0, hi386_0⟩ := at_T41 (Kd.N_reads' HO_4.out).2.2 (ji35) p386 q386
            cases e386
            obtain ⟨ce386, hce386, hMe386, hcc386⟩ := Kd.N_get HO_4.out z41 (ji35) p386 (by first | exact q386 | exact oda | (have e_ := (Kd.N_reads' HO_4.out).1; omega))
            obtain ⟨ua386_0, uc386_0, rfl, ul386_0, ge386_0⟩ := k41_openF hMe386
            have hv386_0 := hcc386 0 _ rfl
            rw [Nat.add_zero] at hv386_0
            replace hv386_0 := Option.some.inj (hv386_0.symm.trans hx386_0)
            injection hv386_0 with hva_ hvn_ hvc_
            rw [hva_] at ge386_0
            rw [hvc_] at ul386_0
            have HL386_0 := Aside0.mk (show Kd.V k78 78 _ w.heap.size _ _ ((rd_T41 t379 (ji35)).f0) from Kd.V_mk ul386_0 ge386_0)
            clear hva_ hvn_ hvc_ ge386_0 ul386_0 hcc386 hce386
            have HR386_0 := Aside0.mk hi386_0
            have HC386_0 := Aside0.mk hl386_0
            clear hi386_0 hl386_0
            replace p386 := eq_true p386
            replace q386 := eq_true q386
            go_wp2_with (first | ((with_reducible refine gate_dst (N := 61) rfl ?_); (try (refine gate_guard (by rfl) ?_; dsimp only)); refine Kd.N_lit k41 _ 41 ?hg (N' := 61) ?hd (xs := ([(⟨(rd_T41 t379 (ji35)).f0, (rd_T41 t379 (ji35)).f1, (rd_T41 t379 (ji35)).f2⟩ : S41)] : List (S41))) (inner := [.slice A386_0 ((rd_T41 t379 (ji35)).f0).length c386_0, .int .i64 ((rd_T41 t379 (ji35)).f1), .int .i64 ((rd_T41 t379 (ji35)).f2)]) (ok := (fun k_ => some k_ ≠ (.slice (some ad386) t379.length co12 : Value).ownBlock ∧ some k_ ≠ (.slice Ao11 t376.length co11 : Value).ownBlock ∧ k_ ≠ gb382)) (okp := (fun k_ => some k_ ≠ (.slice (some ad386) t379.length co12 : Value).ownBlock ∧ some k_ ≠ (.slice Ao11 t376.length co11 : Value).ownBlock ∧ k_ ≠ gb382)) ?hr ?hp (fun _ hk => hk) ((show ∀ k_, wr.heap.size ≤ k_ → (fun k_ => some k_ ≠ (.slice (some ad386) t379.length co12 : Value).ownBlock ∧ some k_ ≠ (.slice Ao11 t376.length co11 : Value).ownBlock ∧ k_ ≠ gb382) k_ from fun k_ hk => ⟨Kd.fresh' (Kd.N_lt (nz HO_4)) k_ hk, Kd.fresh' (Kd.R_lt (rz HO_383001)) k_ hk, Kd.freshB (bz BK382) k_ hk⟩) _ (Nat.le_refl _)) (Below.refl _ _) (Nat.le_refl _) (by simp) ?_; (case hd => rfl); (case hg => rfl); (case hr => first | (go_simp; done) | (go_simp; rfl)); (case hp => exact (Reps.c3 (show Kd.FK k41 _ _ (⟨(rd_T41 t379 (ji35)).f0, (rd_T41 t379 (ji35)).f1, (rd_T41 t379 (ji35)).f2⟩ : S41) [.slice A386_0 ((rd_T41 t379 (ji35)).f0).length c386_0, .int .i64 ((rd_T41 t379 (ji35)).f1), .int .i64 ((rd_T41 t379 (ji35)).f2)] from (k41_mkF _ _ (⟨(rd_T41 t379 (ji35)).f0, (rd_T41 t379 (ji35)).f1, (rd_T41 t379 (ji35)).f2⟩ : S41) (Kd.V_reads' (Kd.V_mono (ok' := (fun k_ => some k_ ≠ (.slice (some ad386) t379.length co12 : Value).ownBlock ∧ some k_ ≠ (.slice Ao11 t376.length co11 : Value).ownBlock ∧ k_ ≠ gb382)) (HL386_0.out) (fun k_ hk => ⟨hk.2, ⟨hk.1.1, hk.1.2⟩⟩))).2.1 (Kd.V_F (Kd.V_mono (ok' := (fun k_ => some k_ ≠ (.slice (some ad386) t379.length co12 : Value).ownBlock ∧ some k_ ≠ (.slice Ao11 t376.length co11 : Value).ownBlock ∧ k_ ≠ gb382)) (HL386_0.out) (fun k_ hk => ⟨hk.2, ⟨hk.1.1, hk.1.2⟩⟩))))) (Reps.none _ _))); intro v388 w51 ho52 hb hg_ hnew_; clear hg_ hnew_; (first | rw [← Ny387.out] at ho52 | (simp only [Int.reduceToNat] at ho52; rw [← Ny387.out] at ho52)); have n0_ := Aside0.mk (Kd.N_elder' (nz HO_4) (Kd.N_base ho52) hb); have n1_ := Aside0.mk (Kd.R_below (rz HO_383001) hb); have n2_ := Aside0.mk (Kd.V_elder' (vz HL386_0) (Kd.N_base ho52) hb); have n3_ := Aside0.mk (Kd.N_lower ho52 (below_size bh)); have n4_ := Aside0.mk (blk_below (bz BK382) hb); have n5_ := Aside0.mk (Kd.C_below (by repeat (first | (with_reducible exact HR386_0.out) | (with_reducible refine Kd.C_alloc ?_ _) | (with_reducible refine Kd.C_drewN ?_ _) | (with_reducible refine Kd.C_drew ?_) | exact HR386_0.out)) hb); have n6_ := Aside0.mk (below_step bh hb); clear HO_4 HO_383001 HL386_0 BK382 HR386_0 HB; have HO_4 := n0_; have HO_383001 := n1_; have HL386_0 := n2_; have HO389 := n3_; have BK382 := n4_; have HR386_0 := n5_; have HB := n6_; clear n0_ n1_ n2_ n3_ n4_ n5_ n6_ hb ho52; have hcz53_0 := cz0 BK382; have hcz53_1 := cz1 BK382; have hfz53_0 := blk_frozen BK382.out 0; have hfz53_1 := blk_frozen BK382.out 1; obtain ⟨Ao54, co54, eo54⟩ := Kd.N_slice HO389.out; subst eo54) | ((with_reducible refine gate_callee (f := 15) rfl ?_); refine goesL_ (some 64) rfl rfl Try.func15 kr rfl #[.agg #[.int .i64 t375, .slice Ao11 t376.length co11], .slice Ao54 y387.length co54] rfl lm ?_; (with_reducible refine (impl_ProcessOk.calls k1 t375 _ _ t376 _ _ y387 true _ ?side1 ?side2 ?side3 ?side4 A38.out).mono ?_); (case side1 => repeat (first | exact (Kd.R_reads' HO_383001.out).2.2 | (with_reducible refine Kd.C_alloc ?_ _) | (with_reducible refine Kd.C_drewN ?_ _) | (with_reducible refine Kd.C_drew ?_))); (case side2 => exact (Kd.R_reads' HO_383001.out).2.1); (case side3 => repeat (first | exact (Kd.N_reads' HO389.out).2.2 | (with_reducible refine Kd.C_alloc ?_ _) | (with_reducible refine Kd.C_drewN ?_ _) | (with_reducible refine Kd.C_drew ?_))); (case side4 => exact (Kd.N_reads' HO389.out).2.1); rintro e w55 ⟨rfl, hb⟩; refine ⟨_, rfl, ?_⟩; have n0_ := Aside0.mk (Kd.N_below (nz HO_4) hb); have n1_ := Aside0.mk (Kd.R_below (rz HO_383001) hb); have n2_ := Aside0.mk (Kd.V_below (vz HL386_0) hb); have n3_ := Aside0.mk (Kd.N_below (nz HO389) hb); have n4_ := Aside0.mk (blk_below (bz BK382) hb); have n5_ := Aside0.mk (Kd.C_below (by repeat (first | (with_reducible exact HR386_0.out) | (with_reducible refine Kd.C_alloc ?_ _) | (with_reducible refine Kd.C_drewN ?_ _) | (with_reducible refine Kd.C_drew ?_) | exact HR386_0.out)) hb); have n6_ := Aside0.mk (below_step bh hb); clear HO_4 HO_383001 HL386_0 HO389 BK382 HR386_0 HB; have HO_4 := n0_; have HO_383001 := n1_; have HL386_0 := n2_; have HO389 := n3_; have BK382 := n4_; have HR386_0 := n5_; have HB := n6_; clear n0_ n1_ n2_ n3_ n4_ n5_ n6_; (try clear hb); (try clear hb2); (try clear hk); (try clear hi); have hcz56_0 := cz0 BK382; have hcz56_1 := cz1 BK382; have hfz56_0 := blk_frozen BK382.out 0; have hfz56_1 := blk_frozen BK382.out 1) | (go_at_call 25; (with_reducible refine (impl_SoundOk.calls k1 t375 _ _ t376 _ _ y387 false _ ?side1 ?side2 ?side3 ?side4 A40.out).mono ?_); (case side1 => repeat (first | exact (Kd.R_reads' HO_383001.out).2.2 | (with_reducible refine Kd.C_alloc ?_ _) | (with_reducible refine Kd.C_drewN ?_ _) | (with_reducible refine Kd.C_drew ?_))); (case side2 => exact (Kd.R_reads' HO_383001.out).2.1); (case side3 => repeat (first | exact (Kd.N_reads' HO389.out).2.2 | (with_reducible refine Kd.C_alloc ?_ _) | (with_reducible refine Kd.C_drewN ?_ _) | (with_reducible refine Kd.C_drew ?_))); (case side4 => exact (Kd.N_reads' HO389.out).2.1); rintro e w57 ⟨rfl, hb⟩; have n0_ := Aside0.mk (Kd.N_below (nz HO_4) hb); have n1_ := Aside0.mk (Kd.R_below (rz HO_383001) hb); have n2_ := Aside0.mk (Kd.V_below (vz HL386_0) hb); have n3_ := Aside0.mk (Kd.N_below (nz HO389) hb); have n4_ := Aside0.mk (blk_below (bz BK382) hb); have n5_ := Aside0.mk (Kd.C_below (by repeat (first | (with_reducible exact HR386_0.out) | (with_reducible refine Kd.C_alloc ?_ _) | (with_reducible refine Kd.C_drewN ?_ _) | (with_reducible refine Kd.C_drew ?_) | exact HR386_0.out)) hb); have n6_ := Aside0.mk (below_step bh hb); clear HO_4 HO_383001 HL386_0 HO389 BK382 HR386_0 HB; have HO_4 := n0_; have HO_383001 := n1_; have HL386_0 := n2_; have HO389 := n3_; have BK382 := n4_; have HR386_0 := n5_; have HB := n6_; clear n0_ n1_ n2_ n3_ n4_ n5_ n6_; (try clear hb); (try clear hb2); (try clear hk); (try clear hi); have p392 : 0 ≤ ((ji35) : Int) := oda; have q392 : (ji35) < (t379.length : Int) := oda; obtain ⟨ad392, A392_0, c392_0, e392, hx392_0, hx392_1, hx392_2, hl392_0, hi392_0⟩ := at_T41 (Kd.N_reads' HO_4.out).2.2 (ji35) p392 q392; obtain rfl : ad386 = ad392 := (by injection e392); obtain ⟨ce392, hce392, hMe392, hcc392⟩ := Kd.N_get HO_4.out z41 (ji35) p392 (by first | exact q392 | exact oda | (have e_ := (Kd.N_reads' HO_4.out).1; omega)); obtain ⟨ua392_0, uc392_0, rfl, ul392_0, ge392_0⟩ := k41_openF hMe392; have hv392_0 := hcc392 0 _ rfl; rw [Nat.add_zero] at hv392_0; replace hv392_0 := Option.some.inj (hv392_0.symm.trans hx392_0); injection hv392_0 with hva_ hvn_ hvc_; rw [hva_] at ge392_0; rw [hvc_] at ul392_0; have HL392_0 := Aside0.mk (show Kd.V k78 78 _ w.heap.size _ _ ((rd_T41 t379 (ji35)).f0) from Kd.V_mk ul392_0 ge392_0); clear hva_ hvn_ hvc_ ge392_0 ul392_0 hcc392 hce392; have HR392_0 := Aside0.mk hi392_0; have HC392_0 := Aside0.mk hl392_0; clear hi392_0 hl392_0; replace p392 := eq_true p392; replace q392 := eq_true q392))
            go_ret
            exact ⟨by first | rfl | (simp [errW_none, errW_some] <;> rfl) | (simp only [← hji17, ← hji35]; first | rfl | (simp [errW_none, errW_some] <;> rfl)) | (simp [*, errW_none, errW_some] <;> rfl), by exact bh⟩
          ·replace c39 := Bool.eq_false_iff.mpr c39
           subst c39
           have H1 : (none) = some r := by rw [if_neg (show ¬ (false = true) by decide)] at H; exact H
           clear H
           have H := H1
           clear H1
           exact absurd H (by simp)
         ·rw [if_neg c37] at H
          exact absurd H (by simp)
        ·rw [if_neg c36] at H
         exact absurd H (by simp)
      ·rw [if_neg c16] at H
       exact absurd H (by simp)
   ·replace c7 := Bool.eq_false_iff.mpr c7
    subst c7
    have H1 : ((laws_alive.f).bind fun t385 => (some t385)) = some r := by rw [if_neg (show ¬ (false = true) by decide)] at H; exact H
    clear H
    have H := H1
    clear H1
    replace H := Option.bind_eq_some_iff.mp H
    obtain ⟨t385, A580, H⟩ := H
    replace H : (some t385) = some r := H
    have A58 := Aside0.mk A580
    clear A580
    obtain rfl := Option.some.inj H
    go_enter Try.func6, Try.ntmps6
    go_wp2_with (first | ((with_reducible refine gate_callee (f := 32) rfl ?_); refine goesL_ (some 14) rfl rfl Try.func32 kr rfl #[.slice A0 l0.length c0] rfl lm ?_; (with_reducible refine (spec_DrawSoundOk.calls k _ _ l0 t375 t376 t379 _ ?side1 ?side2 A3.out).mono ?_); (case side1 => repeat (first | exact HR0.out | (with_reducible refine Kd.C_alloc ?_ _) | (with_reducible refine Kd.C_drewN ?_ _) | (with_reducible refine Kd.C_drew ?_))); (case side2 => exact HC0.out); rintro e w59 ⟨v377, v380, rfl, ho0, ho1, hb⟩; refine ⟨_, rfl, ?_⟩; have n0_ := Aside0.mk (Kd.R_lower ho0 (below_size bh)); have n1_ := Aside0.mk (Kd.N_lower (Kd.N_mono (ok' := fun k_ => some k_ ≠ (v377 : Value).ownBlock) (Kd.S_N (Kd.S_bound (Kd.S_apart' ho1 (Kd.R_typed ho0) (by decide)))) (fun k_ hk_ => hk_.1.2)) (below_size bh)); have n2_ := Aside0.mk (below_step bh hb); clear HB; have HO378 := n0_; have HO381 := n1_; have HB := n2_; clear n0_ n1_ n2_; (try clear hb); (try clear hb2); (try clear hk); (try clear hi); (try clear ho0); (try clear ho1)) | ((with_reducible refine gate_dst (N := 3) rfl ?_); (try (refine gate_guard (by rfl) ?_; dsimp only)); refine box_event ?hg (N := 3) ?hd (cs := #[.int .i64 0, .slice none 0 0]) (t := 25) ?hr ?_; (case hd => rfl); (case hg => rfl); (case hr => first | (go_simp; done) | (go_simp; rfl)); intro gb382 hg w60 hbox hb; have n0_ := Aside0.mk (Kd.R_below (rz HO378) hb); have n1_ := Aside0.mk (Kd.N_below (Kd.N_elderB (nz HO381) gb382 (Nat.le_of_eq hg.symm)) hb); have n2_ := Aside0.mk (below_step bh hb); have n3_ := Aside0.mk (hbox); have n4_ := Aside0.mk ((gs (W0 := w) hg bh)); have n5_ := Aside0.mk ((gs (W0 := w) hg bh)); clear HO378 HO381 HB; have HO378 := n0_; have HO381 := n1_; have HB := n2_; have BK382 := n3_; have GW382 := n4_; have GE382 := n5_; clear n0_ n1_ n2_ n3_ n4_ n5_ hb hbox hg; have hcz61_0 := cz0 BK382; have hcz61_1 := cz1 BK382; have hfz61_0 := blk_frozen BK382.out 0; have hfz61_1 := blk_frozen BK382.out 1; obtain ⟨Ao62, co62, eo62⟩ := Kd.R_slice HO378.out; subst eo62; obtain ⟨Ao63, co63, eo63⟩ := Kd.N_slice HO381.out; subst eo63) | ((with_reducible refine gate_callee (f := 25) rfl ?_); refine goesL_ (some 19) rfl rfl Try.func25 kr rfl #[.agg #[.int .i64 t375, .slice Ao62 t376.length co62], .slice Ao63 t379.length co63] rfl lm ?_; (with_reducible refine (impl_SoundOk.calls k t375 _ _ t376 _ _ t379 false _ ?side1 ?side2 ?side3 ?side4 A4.out).mono ?_); (case side1 => refine (Kd.R_reads' (e := 3) (base := w.heap.size) (ok := fun k_ => True) (n := t376.length) (c := co62) ?_).2.2; exact (fR HO378 BK382)); (case side2 => exact (Kd.R_reads' HO378.out).2.1); (case side3 => refine (Kd.N_reads' (e := 41) (base := w.heap.size) (ok := fun k_ => (some k_ ≠ (.slice Ao62 t376.length co62 : Value).ownBlock ∧ k_ ≠ gb382)) (n := t379.length) (c := co63) ?_).2.2; exact (uN HO381 (fun _ hk => hk.2))); (case side4 => exact (Kd.N_reads' HO381.out).2.1); rintro e w64 ⟨rfl, hb⟩; refine ⟨_, rfl, ?_⟩; have n0_ := Aside0.mk (Kd.R_below (fR HO378 BK382) hb); have n1_ := Aside0.mk (Kd.N_below (uN HO381 (fun _ hk => hk.2)) hb); have n2_ := Aside0.mk (blk_below (g := gb382) (o := .cells #[.int .i64 t375, .slice Ao62 t376.length co62] 25 (0, 0)) (bp BK382) hb); have n3_ := Aside0.mk (below_step bh hb); clear HO378 HO381 BK382 HB; have HO378 := n0_; have HO381 := n1_; have BK382 := n2_; have HB := n3_; clear n0_ n1_ n2_ n3_; (try clear hb); (try clear hb2); (try clear hk); (try clear hi); have hcz65_0 := cz0 BK382; have hcz65_1 := cz1 BK382; have hfz65_0 := blk_frozen BK382.out 0; have hfz65_1 := blk_frozen BK382.out 1) | ((with_reducible refine gate_callee (f := 33) rfl ?_); refine goesL_ (some 23) rfl rfl Try.func33 kr rfl #[.agg #[.int .i64 t375, .slice Ao62 t376.length co62], .slice Ao63 t379.length co63] rfl lm ?_; (with_reducible refine (spec_SoundOk.calls k t375 _ _ t376 _ _ t379 t384 _ ?side1 ?side2 ?side3 ?side4 A5.out).mono ?_); (case side1 => repeat (first | exact (Kd.R_reads' HO378.out).2.2 | (with_reducible refine Kd.C_alloc ?_ _) | (with_reducible refine Kd.C_drewN ?_ _) | (with_reducible refine Kd.C_drew ?_))); (case side2 => exact (Kd.R_reads' HO378.out).2.1); (case side3 => repeat (first | exact (Kd.N_reads' HO381.out).2.2 | (with_reducible refine Kd.C_alloc ?_ _) | (with_reducible refine Kd.C_drewN ?_ _) | (with_reducible refine Kd.C_drew ?_))); (case side4 => exact (Kd.N_reads' HO381.out).2.1); rintro e w66 ⟨rfl, hb⟩; refine ⟨_, rfl, ?_⟩; have n0_ := Aside0.mk (Kd.R_below (rz HO378) hb); have n1_ := Aside0.mk (Kd.N_below (nz HO381) hb); have n2_ := Aside0.mk (blk_below (bz BK382) hb); have n3_ := Aside0.mk (below_step bh hb); clear HO378 HO381 BK382 HB; have HO378 := n0_; have HO381 := n1_; have BK382 := n2_; have HB := n3_; clear n0_ n1_ n2_ n3_; (try clear hb); (try clear hb2); (try clear hk); (try clear hi)) | ((with_reducible refine gate_callee (f := 18) rfl ?_); refine goesL_ (some 27) rfl rfl Try.func18 kr rfl #[] rfl lm ?_; (with_reducible refine (laws_alive.calls  t385 _ A58.out).mono ?_); rintro e w' ⟨rfl, ⟨nd, rfl⟩⟩; refine ⟨_, rfl, ?_⟩))
    go_ret
    exact ⟨by first | rfl | (simp [errW_none, errW_some] <;> rfl) | (simp [*, errW_none, errW_some] <;> rfl), by exact bh⟩

/-- THE ONE PURE STATEMENT of laws_FnSoundOk: yours. -/
def laws_FnSoundOk.Pure : Prop := ∀ (l0 : List Int), l0.length ≤ maxLen → l0.length * 1 ≤ 140737488351232 → (∀ x ∈ l0, (Lit.int .u8 x).wf = true) → ∃ k, laws_FnSoundOk.f k l0 = some true
theorem laws_FnSoundOk.walk (P : laws_FnSoundOk.Pure) (a0 : Option Addr) (len0 cap0 : Nat) (z0 : List Int) (w : World) (w0 : (a0 = none ∧ len0 = 0 ∧ cap0 = 0 ∧ z0 = []) ∨ ∃ x, a0 = some x ∧ len0 ≤ cap0 ∧ cap0 ≤ maxLen ∧ z0.length = cap0 ∧ (∀ i, i < z0.length → w.cell? (x.add i) = some (.int .u8 (z0.getD i 0))) ∧ ∀ n ∈ z0, (Lit.int .u8 n).wf = true) (y0 : len0 * 1 ≤ 140737488351232) :
  Calls Try.prog 6 #[.slice a0 len0 cap0] w fun e w' => e = .returned (.bool true) ∧ Below w.heap.size w w' := by
 obtain ⟨l0, rfl, hr0, hm0, hw0, hc0⟩ := ReadsInt.ofRowC w0
 obtain ⟨k, h⟩ := P l0 hm0 y0 hw0
 refine (laws_FnSoundOk.calls k _ _ l0 true w (Kd.C_of_reads (d := (0 : Int)) (h1 := fun _ => rfl) hr0) hc0 h).mono ?_
 rintro e w' ⟨rfl, hd⟩
 exact ⟨rfl, hd⟩

end Go.Proofs.Ytnpjlpkbefdnlaa.QFnSoundOk
