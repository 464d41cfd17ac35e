-- Printed for this claim by a turned copy of the print (wip/myprint). Lean checks it. Squeezed. Worded. Tightened.
import Derived.Test.YtnpjlpkbefdnlaaQFnLawByEachx0
import Derived.Test.YtnpjlpkbefdnlaaQFnLawByEachx2
import Derived.Test.YtnpjlpkbefdnlaaQFnLawByEachx5
import Derived.Test.YtnpjlpkbefdnlaaQFnLawByEachx9
import Derived.Test.YtnpjlpkbefdnlaaQFnLawByEachx14
namespace Go.Proofs.Ytnpjlpkbefdnlaa.QFnLawByEach
open Go.RowKit Go.Proofs.YtnpjlpkbefdnlaaW.PrintWords Go.Proofs.YtnpjlpkbefdnlaaW.PrintLast Go.Proofs.YtnpjlpkbefdnlaaW.PrintMore
attribute [local go_sem] max2_int min2_int max_two min_two max_three min_three max_four min_four Opens.cell_twice   -- for this text's walks alone
set_option linter.unusedVariables false
set_option linter.unusedSimpArgs false

/-! ### laws_FnLawByEach: function 7 -/
def laws_FnLawByEach.j0 : Nat → List (S41) → Bool → Int → Bool → Option (Bool)
 | 0, _, _, _, _ => none
 | k + 1, x4, x6, x7, x40 => if x40 = true then (none) else (if x7 < 0 then (if x7 = (-1) then (if x6 = true then (none) else ((laws_alive.f).bind fun t403 => (some t403))) else (none)) else (if x7 ≥ 1 then (some (decide (x7 ≤ (x4.length : Int)))) else (none)))
def laws_FnLawByEach.f (k : Nat) (l0 : List Int) : Option (Bool) := if (l0.length : Int) > 1048576 then (some true) else ((spec_DrawLawByEach.f k l0).bind fun bt388 => ((impl_LawByEach.f k bt388.1 bt388.2.1 bt388.2.2.1 bt388.2.2.2).bind fun bt399 => ((spec_LawByEach.f k bt388.1 bt388.2.1 bt388.2.2.1 bt388.2.2.2).bind fun bt401 => (if (bt399.1 != bt401.1) = true then (laws_FnLawByEach.j0 k bt388.2.2.1 bt399.1 bt399.2 true) else (laws_FnLawByEach.j0 k bt388.2.2.1 bt399.1 bt399.2 (bt399.2 != bt401.2))))))
theorem laws_FnLawByEach.mono_l : ∀ k, (∀ y0 y1 y2 y3, LeO (laws_FnLawByEach.j0 k y0 y1 y2 y3) (laws_FnLawByEach.j0 (k + 1) y0 y1 y2 y3))
 | 0 => fun _ _ _ _ r h => by simp [laws_FnLawByEach.j0] at h
 | k + 1 => by
  have ih0 := laws_FnLawByEach.mono_l k
  ·intro y0 y1 y2 y3
   unfold laws_FnLawByEach.j0
   repeat' first
   | (with_reducible exact ih0 _ _ _ _)
   | (with_reducible exact impl_LawByEach.mono _ _ _ _ _)
   | (with_reducible exact spec_DrawLawByEach.mono _ _)
   | (with_reducible exact spec_LawByEach.mono _ _ _ _ _)
   | (with_reducible exact LeO.refl _)
   | (with_reducible exact LeO.none _)
   | (with_reducible refine LeO.ite ?_ ?_)
   | (with_reducible refine LeO.bind ?_ (fun _ => ?_))
   | exact ih0 _ _ _ _
   | exact impl_LawByEach.mono _ _ _ _ _
   | exact spec_DrawLawByEach.mono _ _
   | exact spec_LawByEach.mono _ _ _ _ _
   | exact LeO.none _
   | refine LeO.ite ?_ ?_
   | refine LeO.bind ?_ (fun _ => ?_)
theorem laws_FnLawByEach.mono : ∀ a0 k, LeO (laws_FnLawByEach.f k a0) (laws_FnLawByEach.f (k + 1) a0) := by
 intro a0 k
 have ih0 := laws_FnLawByEach.mono_l k
 unfold laws_FnLawByEach.f
 repeat' first
   | (with_reducible exact ih0 _ _ _ _)
   | (with_reducible exact impl_LawByEach.mono _ _ _ _ _)
   | (with_reducible exact spec_DrawLawByEach.mono _ _)
   | (with_reducible exact spec_LawByEach.mono _ _ _ _ _)
   | (with_reducible exact LeO.refl _)
   | (with_reducible exact LeO.none _)
   | (with_reducible refine LeO.ite ?_ ?_)
   | (with_reducible refine LeO.bind ?_ (fun _ => ?_))
   | exact ih0 _ _ _ _
   | exact impl_LawByEach.mono _ _ _ _ _
   | exact spec_DrawLawByEach.mono _ _
   | exact spec_LawByEach.mono _ _ _ _ _
   | exact LeO.none _
   | refine LeO.ite ?_ ?_
   | refine LeO.bind ?_ (fun _ => ?_)
set_option maxHeartbeats 8000000 in
set_option maxRecDepth 100000 in
theorem laws_FnLawByEach.calls (k : Nat) (A0 : Option Addr) (c0 : Nat) (l0 : List Int) (r : Bool) (w : World) (hr0 : Kd.C (Kd.int .u8) w A0 l0.length l0) (hc0 : l0.length ≤ c0) (h : laws_FnLawByEach.f k l0 = some r) :
  Calls Try.prog 7 #[.slice A0 l0.length c0] w fun e w' => e = .returned (.bool r) ∧ Below w.heap.size w w' := by
 have hu25 := Try.underlying25
 have HR0 := Aside0.mk hr0
 have HC0 := Aside0.mk hc0
 clear hr0 hc0
 have HB := Aside0.mk (Below.refl w.heap.size w)
 have H : (if (l0.length : Int) > 1048576 then (some true) else ((spec_DrawLawByEach.f k l0).bind fun bt388 => ((impl_LawByEach.f k bt388.1 bt388.2.1 bt388.2.2.1 bt388.2.2.2).bind fun bt399 => ((spec_LawByEach.f k bt388.1 bt388.2.1 bt388.2.2.1 bt388.2.2.2).bind fun bt401 => (if (bt399.1 != bt401.1) = true then (laws_FnLawByEach.j0 k bt388.2.2.1 bt399.1 bt399.2 true) else (laws_FnLawByEach.j0 k bt388.2.2.1 bt399.1 bt399.2 (bt399.2 != bt401.2))))))) = some r := h
 clear h
 by_cases c2 : (l0.length : Int) > 1048576
 ·rw [if_pos c2] at H
  have c2b0 : decide (1048576 < (l0.length : Int)) = true := decide_eq_true c2
  have c2b1 : decide (1048576 < l0.length) = true := decide_eq_true (by omega)
  clear c2
  obtain rfl := Option.some.inj H
  go_enter Try.func7, Try.ntmps7
  go_wp2
  go_ret
  exact ⟨by first | rfl | (simp [errW_none, errW_some] <;> rfl) | (simp [*, errW_none, errW_some] <;> rfl), by exact bh⟩
 ·rw [if_neg c2] at H
  have c2b0 : decide (1048576 < (l0.length : Int)) = false := decide_eq_false c2
  have c2b1 : decide (1048576 < l0.length) = false := decide_eq_false (by omega)
  clear c2
  replace H := Option.bind_eq_some_iff.mp H
  obtain ⟨⟨t388, t389, t392, t395⟩, A30, H⟩ := H
  replace H : ((impl_LawByEach.f k t388 t389 t392 t395).bind fun bt399 => ((spec_LawByEach.f k t388 t389 t392 t395).bind fun bt401 => (if (bt399.1 != bt401.1) = true then (laws_FnLawByEach.j0 k t392 bt399.1 bt399.2 true) else (laws_FnLawByEach.j0 k t392 bt399.1 bt399.2 (bt399.2 != bt401.2))))) = some r := H
  have A3 := Aside0.mk A30
  clear A30
  replace H := Option.bind_eq_some_iff.mp H
  obtain ⟨⟨t399, t400⟩, A40, H⟩ := H
  replace H : ((spec_LawByEach.f k t388 t389 t392 t395).bind fun bt401 => (if (t399 != bt401.1) = true then (laws_FnLawByEach.j0 k t392 t399 t400 true) else (laws_FnLawByEach.j0 k t392 t399 t400 (t400 != bt401.2)))) = some r := H
  have A4 := Aside0.mk A40
  clear A40
  replace H := Option.bind_eq_some_iff.mp H
  obtain ⟨⟨t401, t402⟩, A50, H⟩ := H
  replace H : (if (t399 != t401) = true then (laws_FnLawByEach.j0 k t392 t399 t400 true) else (laws_FnLawByEach.j0 k t392 t399 t400 (t400 != t402))) = some r := H
  have A5 := Aside0.mk A50
  clear A50
  have HC6 := Aside0.mk H
  clear H
  go_enter Try.func7, Try.ntmps7
  go_upto_region 6 with (first | ((with_reducible refine gate_callee (f := 34) rfl ?_); refine goesL_ (some 15) rfl rfl Try.func34 kr rfl #[.slice A0 l0.length c0] rfl lm ?_; (with_reducible refine (spec_DrawLawByEach.calls k _ _ l0 t388 t389 t392 t395 _ ?side1 ?side2 A3.out).mono ?_); (case side1 => repeat (first | exact HR0.out | (with_reducible refine Kd.C_alloc ?_ _) | (with_reducible refine Kd.C_drewN ?_ _) | (with_reducible refine Kd.C_drew ?_))); (case side2 => exact HC0.out); rintro e w7 ⟨v390, v393, v396, rfl, ho0, ho1, ho2, hb⟩; refine ⟨_, rfl, ?_⟩; have n0_ := Aside0.mk (Kd.R_lower ho0 (below_size bh)); have n1_ := Aside0.mk (Kd.S_lower ho1 (below_size bh)); have n2_ := Aside0.mk (Kd.R_lower ho2 (below_size bh)); have n3_ := Aside0.mk (below_step bh hb); clear HB; have HO391 := n0_; have HO394 := n1_; have HO397 := n2_; have HB := n3_; clear n0_ n1_ n2_ n3_; (try clear hb); (try clear hb2); (try clear hk); (try clear hi); (try clear ho0); (try clear ho1); (try clear ho2)) | ((with_reducible refine gate_dst (N := 3) rfl ?_); (try (refine gate_guard (by rfl) ?_; dsimp only)); refine box_event ?hg (N := 3) ?hd (cs := #[.int .i64 0, .slice none 0 0]) (t := 25) ?hr ?_; (case hd => rfl); (case hg => rfl); (case hr => first | (go_simp; done) | (go_simp; rfl)); intro gb398 hg w8 hbox hb; have n0_ := Aside0.mk (Kd.R_below (rz HO391) hb); have n1_ := Aside0.mk (Kd.S_below (sz HO394) hb); have n2_ := Aside0.mk (Kd.R_below (rz HO397) hb); have n3_ := Aside0.mk (below_step bh hb); have n4_ := Aside0.mk (hbox); have n5_ := Aside0.mk ((gs (W0 := w) hg bh)); have n6_ := Aside0.mk ((gs (W0 := w) hg bh)); clear HO391 HO394 HO397 HB; have HO391 := n0_; have HO394 := n1_; have HO397 := n2_; have HB := n3_; have BK398 := n4_; have GW398 := n5_; have GE398 := n6_; clear n0_ n1_ n2_ n3_ n4_ n5_ n6_ hb hbox hg; have hcz9_0 := cz0 BK398; have hcz9_1 := cz1 BK398; have hfz9_0 := blk_frozen BK398.out 0; have hfz9_1 := blk_frozen BK398.out 1; obtain ⟨Ao10, co10, eo10⟩ := Kd.R_slice HO391.out; subst eo10; obtain ⟨Ao11, co11, eo11⟩ := Kd.S_slice HO394.out; subst eo11; obtain ⟨Ao12, co12, eo12⟩ := Kd.R_slice HO397.out; subst eo12) | ((with_reducible refine gate_callee (f := 35) rfl ?_); refine goesL_ (some 23) rfl rfl Try.func35 kr rfl #[.agg #[.int .i64 t388, .slice Ao10 t389.length co10], .slice Ao11 t392.length co11, .slice Ao12 t395.length co12] rfl lm ?_; (with_reducible refine (impl_LawByEach.calls k t388 _ _ t389 _ _ t392 _ _ t395 t399 t400 _ ?side1 ?side2 ?side3 ?side4 ?side5 ?side6 A4.out).mono ?_); (case side1 => refine (Kd.R_reads' (e := 3) (base := w.heap.size) (ok := fun k_ => some k_ ≠ (.slice Ao12 t395.length co12 : Value).ownBlock) (n := t389.length) (c := co10) ?_).2.2; exact (fR HO391 BK398)); (case side2 => exact (Kd.R_reads' HO391.out).2.1); (case side3 => refine (Kd.S_reads' (e := 41) (base := w.heap.size) (ok := fun k_ => True) (n := t392.length) (c := co11) ?_).2.2; exact (fS HO394 BK398)); (case side4 => exact (Kd.S_reads' HO394.out).2.1); (case side5 => refine (Kd.R_reads' (e := 3) (base := w.heap.size) (ok := fun k_ => some k_ ≠ (.slice Ao10 t389.length co10 : Value).ownBlock) (n := t395.length) (c := co12) ?_).2.2; exact (fR HO397 BK398)); (case side6 => exact (Kd.R_reads' HO397.out).2.1); rintro e w13 ⟨rfl, hb⟩; refine ⟨_, rfl, ?_⟩; have n0_ := Aside0.mk (Kd.R_below (fR HO391 BK398) hb); have n1_ := Aside0.mk (Kd.S_below (fS HO394 BK398) hb); have n2_ := Aside0.mk (Kd.R_below (fR HO397 BK398) hb); have n3_ := Aside0.mk (blk_below (g := gb398) (o := .cells #[.int .i64 t388, .slice Ao10 t389.length co10] 25 (0, 0)) (bp BK398) hb); have n4_ := Aside0.mk (below_step bh hb); clear HO391 HO394 HO397 BK398 HB; have HO391 := n0_; have HO394 := n1_; have HO397 := n2_; have BK398 := n3_; have HB := n4_; clear n0_ n1_ n2_ n3_ n4_; (try clear hb); (try clear hb2); (try clear hk); (try clear hi); have hcz14_0 := cz0 BK398; have hcz14_1 := cz1 BK398; have hfz14_0 := blk_frozen BK398.out 0; have hfz14_1 := blk_frozen BK398.out 1) | ((with_reducible refine gate_callee (f := 36) rfl ?_); refine goesL_ (some 30) rfl rfl Try.func36 kr rfl #[.agg #[.int .i64 t388, .slice Ao10 t389.length co10], .slice Ao11 t392.length co11, .slice Ao12 t395.length co12] rfl lm ?_; (with_reducible refine (spec_LawByEach.calls k t388 _ _ t389 _ _ t392 _ _ t395 t401 t402 _ ?side1 ?side2 ?side3 ?side4 ?side5 ?side6 A5.out).mono ?_); (case side1 => repeat (first | exact (Kd.R_reads' HO391.out).2.2 | (with_reducible refine Kd.C_alloc ?_ _) | (with_reducible refine Kd.C_drewN ?_ _) | (with_reducible refine Kd.C_drew ?_))); (case side2 => exact (Kd.R_reads' HO391.out).2.1); (case side3 => repeat (first | exact (Kd.S_reads' HO394.out).2.2 | (with_reducible refine Kd.C_alloc ?_ _) | (with_reducible refine Kd.C_drewN ?_ _) | (with_reducible refine Kd.C_drew ?_))); (case side4 => exact (Kd.S_reads' HO394.out).2.1); (case side5 => repeat (first | exact (Kd.R_reads' HO397.out).2.2 | (with_reducible refine Kd.C_alloc ?_ _) | (with_reducible refine Kd.C_drewN ?_ _) | (with_reducible refine Kd.C_drew ?_))); (case side6 => exact (Kd.R_reads' HO397.out).2.1); rintro e w15 ⟨rfl, hb⟩; refine ⟨_, rfl, ?_⟩; have n0_ := Aside0.mk (Kd.R_below (rz HO391) hb); have n1_ := Aside0.mk (Kd.S_below (sz HO394) hb); have n2_ := Aside0.mk (Kd.R_below (rz HO397) hb); have n3_ := Aside0.mk (blk_below (bz BK398) hb); have n4_ := Aside0.mk (below_step bh hb); clear HO391 HO394 HO397 BK398 HB; have HO391 := n0_; have HO394 := n1_; have HO397 := n2_; have BK398 := n3_; have HB := n4_; clear n0_ n1_ n2_ n3_ n4_; (try clear hb); (try clear hb2); (try clear hk); (try clear hi)))
  (try simp only [Act.put, List.setIfInBounds_toArray, List.set_cons_zero, List.set_cons_succ])
  go_cut [40] (fun v40 wc => ∃ (kq : Nat) (x40_5 : Bool), v40 = .bool x40_5 ∧ Aside0 (laws_FnLawByEach.j0 kq t392 t399 t400 x40_5 = some r) ∧ Aside0 (kq ≤ k) ∧ Aside0 (Kd.S k41 41 wc w.heap.size (fun _ => True) (.slice Ao11 t392.length co11) t392) ∧ Aside0 (Kd.R (Kd.int .i64) 3 wc w.heap.size (fun _ => True) (.slice Ao10 t389.length co10) t389) ∧ Aside0 (wc.heap[gb398]? = some (.cells #[.int .i64 t388, (.slice Ao10 t389.length co10)] 25 (0, 0))) ∧ Aside0 (Below w.heap.size w wc))
  case first =>
   have H := HC6.out
   clear HC6
   by_cases c16 : (t399 != t401) = true
   ·rw [if_pos c16] at H
    have c16b0 : (t399 != t401) = true := c16
    (try (have c16b1 : decide (t399 = t401) = false := by simpa using c16))
    (try (have c16b2 : (t399 == t401) = false := by simpa using c16))
    (try (have c16b3 : ¬ (t399 = t401) := by simpa using c16))
    clear c16
    (first | rw [c16b0] | (simp only [i64_w, i32_w]; rw [c16b0]) | skip)
    have H' := Aside0.mk H
    clear H
    go_wp2
    go_meet
    case rel => exact ⟨_, (true), (by first | rfl | (simp; done) | (simp [*]; done)), H', ⟨by first | omega | exact Nat.le_refl _⟩, ⟨sz HO394⟩, ⟨mR HO391⟩, ⟨bz BK398⟩, ⟨by exact bh⟩⟩
   ·rw [if_neg c16] at H
    have c16b0 : (t399 != t401) = false := by simpa using c16
    (try (have c16b1 : decide (t399 = t401) = true := by simpa using c16))
    (try (have c16b2 : (t399 == t401) = true := by simpa using c16))
    clear c16
    (first | rw [c16b0] | (simp only [i64_w, i32_w]; rw [c16b0]) | skip)
    have H' := Aside0.mk H
    clear H
    go_wp2
    go_meet
    case rel => exact ⟨_, ((t400 != t402)), (by first | rfl | (simp; done) | (simp [*]; done)), H', ⟨by first | omega | exact Nat.le_refl _⟩, ⟨sz HO394⟩, ⟨mR HO391⟩, ⟨bz BK398⟩, ⟨by exact bh⟩⟩
  case rest =>
   clear HC6
   try clear c1
   try clear c2
   try clear c2b0
   try clear c2b1
   try clear p2
   try clear c3
   try clear c7
   try clear c16
   try clear c16b0
   try clear c16b1
   try clear c16b2
   try clear hcz14_0
   try clear hcz14_1
   try clear hcz9_0
   try clear hcz9_1
   try clear hfz14_0
   try clear hfz14_1
   try clear hfz9_0
   try clear hfz9_1
   obtain ⟨kq, x40_5, rfl, HA, HJ5, HO_4, HO_399001, BK398, HB⟩ := hcut
   cases kq with
   | zero => exact absurd HA.out (by simp [laws_FnLawByEach.j0])
   | succ kj5 =>
    have H := HA.out
    clear HA
    simp only [laws_FnLawByEach.j0] at H
    by_cases c17 : x40_5 = true
    ·subst c17
     have H1 : (none) = some r := by rw [if_pos rfl] at H; exact H
     clear H
     have H := H1
     clear H1
     exact absurd H (by simp)
    ·replace c17 := Bool.eq_false_iff.mpr c17
     subst c17
     have H1 : (if t400 < 0 then (if t400 = (-1) then (if t399 = true then (none) else ((laws_alive.f).bind fun t403 => (some t403))) else (none)) else (if t400 ≥ 1 then (some (decide (t400 ≤ (t392.length : Int)))) else (none))) = some r := by rw [if_neg (show ¬ (false = true) by decide)] at H; exact H
     clear H
     have H := H1
     clear H1
     by_cases c18 : t400 < 0
     ·rw [if_pos c18] at H
      have c18b0 : decide (t400 < 0) = true := decide_eq_true c18
      clear c18
      by_cases c19 : t400 = (-1)
      ·rw [if_pos c19] at H
       have c19b0 : (t400 == (-1)) = true := beq_iff_eq.mpr c19
       have c19b1 : (t400 != (-1)) = false := bne_eq_false_iff_eq.mpr c19
       clear c19
       by_cases c20 : t399 = true
       ·subst c20
        have H1 : (none) = some r := by rw [if_pos rfl] at H; exact H
        clear H
        have H := H1
        clear H1
        exact absurd H (by simp)
       ·replace c20 := Bool.eq_false_iff.mpr c20
        subst c20
        have H1 : ((laws_alive.f).bind fun t403 => (some t403)) = some r := by rw [if_neg (show ¬ (false = true) by decide)] at H; exact H
        clear H
        have H := H1
        clear H1
        replace H := Option.bind_eq_some_iff.mp H
        obtain ⟨t403, A210, H⟩ := H
        replace H : (some t403) = some r := H
        have A21 := Aside0.mk A210
        clear A210
        obtain rfl := Option.some.inj H
        go_wp2_with (first | (go_at_call 18; (with_reducible refine (laws_alive.calls  t403 _ A21.out).mono ?_); rintro e w' ⟨rfl, ⟨nd, rfl⟩⟩))
        go_ret
        exact ⟨by first | rfl | (simp [errW_none, errW_some] <;> rfl) | (simp [*, errW_none, errW_some] <;> rfl), by exact bh⟩
      ·rw [if_neg c19] at H
       exact absurd H (by simp)
     ·rw [if_neg c18] at H
      have c18b0 : decide (t400 < 0) = false := decide_eq_false c18
      clear c18
      by_cases c22 : t400 ≥ 1
      ·rw [if_pos c22] at H
       have c22b0 : decide (1 ≤ t400) = true := decide_eq_true c22
       clear c22
       obtain rfl := Option.some.inj H
       go_wp2
       go_ret
       exact ⟨by first | rfl | (simp [errW_none, errW_some] <;> rfl) | (simp [*, errW_none, errW_some] <;> rfl), by exact bh⟩
      ·rw [if_neg c22] at H
       exact absurd H (by simp)

/-- THE ONE PURE STATEMENT of laws_FnLawByEach: yours. -/
def laws_FnLawByEach.Pure : Prop := ∀ (l0 : List Int), l0.length ≤ maxLen → l0.length * 1 ≤ 140737488351232 → (∀ x ∈ l0, (Lit.int .u8 x).wf = true) → ∃ k, laws_FnLawByEach.f k l0 = some true
theorem laws_FnLawByEach.walk (P : laws_FnLawByEach.Pure) (a0 : Option Addr) (len0 cap0 : Nat) (z0 : List Int) (w : World) (w0 : (a0 = none ∧ len0 = 0 ∧ cap0 = 0 ∧ z0 = []) ∨ ∃ x, a0 = some x ∧ len0 ≤ cap0 ∧ cap0 ≤ maxLen ∧ z0.length = cap0 ∧ (∀ i, i < z0.length → w.cell? (x.add i) = some (.int .u8 (z0.getD i 0))) ∧ ∀ n ∈ z0, (Lit.int .u8 n).wf = true) (y0 : len0 * 1 ≤ 140737488351232) :
  Calls Try.prog 7 #[.slice a0 len0 cap0] w fun e w' => e = .returned (.bool true) ∧ Below w.heap.size w w' := by
 obtain ⟨l0, rfl, hr0, hm0, hw0, hc0⟩ := ReadsInt.ofRowC w0
 obtain ⟨k, h⟩ := P l0 hm0 y0 hw0
 refine (laws_FnLawByEach.calls k _ _ l0 true w (Kd.C_of_reads (d := (0 : Int)) (h1 := fun _ => rfl) hr0) hc0 h).mono ?_
 rintro e w' ⟨rfl, hd⟩
 exact ⟨rfl, hd⟩

end Go.Proofs.Ytnpjlpkbefdnlaa.QFnLawByEach
