-- Printed for this claim by a turned copy of the print (wip/myprint). Lean checks it. Squeezed. Worded. Tightened.
import Derived.Test.YtnpjlpkbefdnlaaQFnLawByx0
import Derived.Test.YtnpjlpkbefdnlaaQFnLawByx2
import Derived.Test.YtnpjlpkbefdnlaaQFnLawByx4
import Derived.Test.YtnpjlpkbefdnlaaQFnLawByx9
import Derived.Test.YtnpjlpkbefdnlaaQFnLawByx10
import Derived.Test.YtnpjlpkbefdnlaaQFnLawByx13
import Derived.Test.YtnpjlpkbefdnlaaQFnLawByx15
namespace Go.Proofs.Ytnpjlpkbefdnlaa.QFnLawBy
open Go.RowKit Go.Proofs.YtnpjlpkbefdnlaaW.PrintWords Go.Proofs.YtnpjlpkbefdnlaaW.PrintLast Go.Proofs.YtnpjlpkbefdnlaaW.PrintMore
attribute [local go_sem] max2_int min2_int max_two min_two max_three min_three max_four min_four Opens.cell_twice   -- for this text's walks alone
set_option linter.unusedVariables false
set_option linter.unusedSimpArgs false

/-! ### laws_FnLawBy: function 8 -/
mutual
def laws_FnLawBy.j0 : Nat → List (S41) → Int → Bool → Bool → Int → List Int → Option (Bool)
 | 0, _, _, _, _, _, _ => none
 | k + 1, x4, x5, x6, x42, x395000, x395001 => if x42 = true then (if x6 = true then (none) else ((laws_alive.f).bind fun t399 => (some t399))) else ((impl_SoundOk.f k x395000 x395001 x4).bind fun t400 => (laws_FnLawBy.l0 k x4 x5 x6 t400 0 x395000 x395001))
def laws_FnLawBy.l0 : Nat → List (S41) → Int → Bool → Bool → Int → Int → List Int → Option (Bool)
 | 0, _, _, _, _, _, _, _ => none
 | k + 1, x4, x5, x6, x7, x8, x395000, x395001 => if x8 < x395000 then (if x6 = true then (laws_FnLawBy.j2 k x4 x5 x6 x7 x8 x7 x395000 x395001) else (laws_FnLawBy.j2 k x4 x5 x6 x7 x8 false x395000 x395001)) else (laws_FnLawBy.j2 k x4 x5 x6 x7 x8 false x395000 x395001)
def laws_FnLawBy.j2 : Nat → List (S41) → Int → Bool → Bool → Int → Bool → Int → List Int → Option (Bool)
 | 0, _, _, _, _, _, _, _, _ => none
 | k + 1, x4, x5, x6, x7, x8, x60, x395000, x395001 => if x60 = true then (if 0 ≤ x8 then ((impl_LawBy.f k x395000 x395001 x4 (Go.bits .or .i64 x5 (shl .i64 1 x8))).bind fun t401 => (if t401 = true then (laws_FnLawBy.l0 k x4 x5 x6 x7 (wrap64 (x8 + 1)) x395000 x395001) else (none))) else (none)) else (laws_FnLawBy.l1 k x4 x5 x6 (([] : List Int)) 0 x395000 x395001)
def laws_FnLawBy.l1 : Nat → List (S41) → Int → Bool → List Int → Int → Int → List Int → Option (Bool)
 | 0, _, _, _, _, _, _, _ => none
 | k + 1, x4, x5, x6, x9, x10, x395000, x395001 => if x10 < (x4.length : Int) then (if x9.length < 17592186044416 then (laws_FnLawBy.l1 k x4 x5 x6 (x9 ++ [x5]) (wrap64 (x10 + 1)) x395000 x395001) else (none)) else ((impl_LawByEach.f k x395000 x395001 x4 x9).bind fun bt408 => (if (bt408.1 == x6) = true then (if bt408.2 ≥ 1 then (some (decide (bt408.2 ≤ (x4.length : Int)))) else (none)) else (none)))
end
def laws_FnLawBy.f (k : Nat) (l0 : List Int) : Option (Bool) := if (l0.length : Int) > 1048576 then (some true) else ((spec_DrawLawBy.f k l0).bind fun bt386 => ((impl_LawBy.f k bt386.1 bt386.2.1 bt386.2.2.1 bt386.2.2.2).bind fun t395 => ((spec_LawBy.f k bt386.1 bt386.2.1 bt386.2.2.1 bt386.2.2.2).bind fun t396 => (if (t395 != t396) = true then (none) else ((spec_ProcessOk.f k bt386.1 bt386.2.1 bt386.2.2.1).bind fun t397 => (if t397 = true then ((spec_CrowdOk.f bt386.1 bt386.2.2.2).bind fun t398 => (laws_FnLawBy.j0 k bt386.2.2.1 bt386.2.2.2 t395 (!t398) bt386.1 bt386.2.1)) else (laws_FnLawBy.j0 k bt386.2.2.1 bt386.2.2.2 t395 true bt386.1 bt386.2.1)))))))
theorem laws_FnLawBy.mono_l : ∀ k, (∀ y0 y1 y2 y3 y4 y5, LeO (laws_FnLawBy.j0 k y0 y1 y2 y3 y4 y5) (laws_FnLawBy.j0 (k + 1) y0 y1 y2 y3 y4 y5)) ∧ (∀ y0 y1 y2 y3 y4 y5 y6, LeO (laws_FnLawBy.l0 k y0 y1 y2 y3 y4 y5 y6) (laws_FnLawBy.l0 (k + 1) y0 y1 y2 y3 y4 y5 y6)) ∧ (∀ y0 y1 y2 y3 y4 y5 y6 y7, LeO (laws_FnLawBy.j2 k y0 y1 y2 y3 y4 y5 y6 y7) (laws_FnLawBy.j2 (k + 1) y0 y1 y2 y3 y4 y5 y6 y7)) ∧ (∀ y0 y1 y2 y3 y4 y5 y6, LeO (laws_FnLawBy.l1 k y0 y1 y2 y3 y4 y5 y6) (laws_FnLawBy.l1 (k + 1) y0 y1 y2 y3 y4 y5 y6))
 | 0 => ⟨fun _ _ _ _ _ _ r h => by simp [laws_FnLawBy.j0] at h, fun _ _ _ _ _ _ _ r h => by simp [laws_FnLawBy.l0] at h, fun _ _ _ _ _ _ _ _ r h => by simp [laws_FnLawBy.j2] at h, fun _ _ _ _ _ _ _ r h => by simp [laws_FnLawBy.l1] at h⟩
 | k + 1 => by
  obtain ⟨ih0, ih1, ih2, ih3⟩ := laws_FnLawBy.mono_l k
  refine ⟨?_, ?_, ?_, ?_⟩
  ·intro y0 y1 y2 y3 y4 y5
   unfold laws_FnLawBy.j0
   repeat' first
   | (with_reducible exact ih0 _ _ _ _ _ _)
   | (with_reducible exact ih1 _ _ _ _ _ _ _)
   | (with_reducible exact ih2 _ _ _ _ _ _ _ _)
   | (with_reducible exact ih3 _ _ _ _ _ _ _)
   | (with_reducible exact impl_LawBy.mono _ _ _ _ _)
   | (with_reducible exact impl_LawByEach.mono _ _ _ _ _)
   | (with_reducible exact impl_SoundOk.mono _ _ _ _)
   | (with_reducible exact spec_DrawLawBy.mono _ _)
   | (with_reducible exact spec_LawBy.mono _ _ _ _ _)
   | (with_reducible exact spec_ProcessOk.mono _ _ _ _)
   | (with_reducible exact LeO.refl _)
   | (with_reducible exact LeO.none _)
   | (with_reducible refine LeO.ite ?_ ?_)
   | (with_reducible refine LeO.bind ?_ (fun _ => ?_))
   | exact ih0 _ _ _ _ _ _
   | exact ih1 _ _ _ _ _ _ _
   | exact ih2 _ _ _ _ _ _ _ _
   | exact ih3 _ _ _ _ _ _ _
   | exact impl_LawBy.mono _ _ _ _ _
   | exact impl_LawByEach.mono _ _ _ _ _
   | exact impl_SoundOk.mono _ _ _ _
   | exact spec_DrawLawBy.mono _ _
   | exact spec_LawBy.mono _ _ _ _ _
   | exact spec_ProcessOk.mono _ _ _ _
   | exact LeO.none _
   | refine LeO.ite ?_ ?_
   | refine LeO.bind ?_ (fun _ => ?_)
  ·intro y0 y1 y2 y3 y4 y5 y6
   unfold laws_FnLawBy.l0
   repeat' first
   | (with_reducible exact ih0 _ _ _ _ _ _)
   | (with_reducible exact ih1 _ _ _ _ _ _ _)
   | (with_reducible exact ih2 _ _ _ _ _ _ _ _)
   | (with_reducible exact ih3 _ _ _ _ _ _ _)
   | (with_reducible exact impl_LawBy.mono _ _ _ _ _)
   | (with_reducible exact impl_LawByEach.mono _ _ _ _ _)
   | (with_reducible exact impl_SoundOk.mono _ _ _ _)
   | (with_reducible exact spec_DrawLawBy.mono _ _)
   | (with_reducible exact spec_LawBy.mono _ _ _ _ _)
   | (with_reducible exact spec_ProcessOk.mono _ _ _ _)
   | (with_reducible exact LeO.refl _)
   | (with_reducible exact LeO.none _)
   | (with_reducible refine LeO.ite ?_ ?_)
   | (with_reducible refine LeO.bind ?_ (fun _ => ?_))
   | exact ih0 _ _ _ _ _ _
   | exact ih1 _ _ _ _ _ _ _
   | exact ih2 _ _ _ _ _ _ _ _
   | exact ih3 _ _ _ _ _ _ _
   | exact impl_LawBy.mono _ _ _ _ _
   | exact impl_LawByEach.mono _ _ _ _ _
   | exact impl_SoundOk.mono _ _ _ _
   | exact spec_DrawLawBy.mono _ _
   | exact spec_LawBy.mono _ _ _ _ _
   | exact spec_ProcessOk.mono _ _ _ _
   | exact LeO.none _
   | refine LeO.ite ?_ ?_
   | refine LeO.bind ?_ (fun _ => ?_)
  ·intro y0 y1 y2 y3 y4 y5 y6 y7
   unfold laws_FnLawBy.j2
   repeat' first
   | (with_reducible exact ih0 _ _ _ _ _ _)
   | (with_reducible exact ih1 _ _ _ _ _ _ _)
   | (with_reducible exact ih2 _ _ _ _ _ _ _ _)
   | (with_reducible exact ih3 _ _ _ _ _ _ _)
   | (with_reducible exact impl_LawBy.mono _ _ _ _ _)
   | (with_reducible exact impl_LawByEach.mono _ _ _ _ _)
   | (with_reducible exact impl_SoundOk.mono _ _ _ _)
   | (with_reducible exact spec_DrawLawBy.mono _ _)
   | (with_reducible exact spec_LawBy.mono _ _ _ _ _)
   | (with_reducible exact spec_ProcessOk.mono _ _ _ _)
   | (with_reducible exact LeO.refl _)
   | (with_reducible exact LeO.none _)
   | (with_reducible refine LeO.ite ?_ ?_)
   | (with_reducible refine LeO.bind ?_ (fun _ => ?_))
   | exact ih0 _ _ _ _ _ _
   | exact ih1 _ _ _ _ _ _ _
   | exact ih2 _ _ _ _ _ _ _ _
   | exact ih3 _ _ _ _ _ _ _
   | exact impl_LawBy.mono _ _ _ _ _
   | exact impl_LawByEach.mono _ _ _ _ _
   | exact impl_SoundOk.mono _ _ _ _
   | exact spec_DrawLawBy.mono _ _
   | exact spec_LawBy.mono _ _ _ _ _
   | exact spec_ProcessOk.mono _ _ _ _
   | exact LeO.none _
   | refine LeO.ite ?_ ?_
   | refine LeO.bind ?_ (fun _ => ?_)
  ·intro y0 y1 y2 y3 y4 y5 y6
   unfold laws_FnLawBy.l1
   repeat' first
   | (with_reducible exact ih0 _ _ _ _ _ _)
   | (with_reducible exact ih1 _ _ _ _ _ _ _)
   | (with_reducible exact ih2 _ _ _ _ _ _ _ _)
   | (with_reducible exact ih3 _ _ _ _ _ _ _)
   | (with_reducible exact impl_LawBy.mono _ _ _ _ _)
   | (with_reducible exact impl_LawByEach.mono _ _ _ _ _)
   | (with_reducible exact impl_SoundOk.mono _ _ _ _)
   | (with_reducible exact spec_DrawLawBy.mono _ _)
   | (with_reducible exact spec_LawBy.mono _ _ _ _ _)
   | (with_reducible exact spec_ProcessOk.mono _ _ _ _)
   | (with_reducible exact LeO.refl _)
   | (with_reducible exact LeO.none _)
   | (with_reducible refine LeO.ite ?_ ?_)
   | (with_reducible refine LeO.bind ?_ (fun _ => ?_))
   | exact ih0 _ _ _ _ _ _
   | exact ih1 _ _ _ _ _ _ _
   | exact ih2 _ _ _ _ _ _ _ _
   | exact ih3 _ _ _ _ _ _ _
   | exact impl_LawBy.mono _ _ _ _ _
   | exact impl_LawByEach.mono _ _ _ _ _
   | exact impl_SoundOk.mono _ _ _ _
   | exact spec_DrawLawBy.mono _ _
   | exact spec_LawBy.mono _ _ _ _ _
   | exact spec_ProcessOk.mono _ _ _ _
   | exact LeO.none _
   | refine LeO.ite ?_ ?_
   | refine LeO.bind ?_ (fun _ => ?_)
theorem laws_FnLawBy.mono : ∀ a0 k, LeO (laws_FnLawBy.f k a0) (laws_FnLawBy.f (k + 1) a0) := by
 intro a0 k
 obtain ⟨ih0, ih1, ih2, ih3⟩ := laws_FnLawBy.mono_l k
 unfold laws_FnLawBy.f
 repeat' first
   | (with_reducible exact ih0 _ _ _ _ _ _)
   | (with_reducible exact ih1 _ _ _ _ _ _ _)
   | (with_reducible exact ih2 _ _ _ _ _ _ _ _)
   | (with_reducible exact ih3 _ _ _ _ _ _ _)
   | (with_reducible exact impl_LawBy.mono _ _ _ _ _)
   | (with_reducible exact impl_LawByEach.mono _ _ _ _ _)
   | (with_reducible exact impl_SoundOk.mono _ _ _ _)
   | (with_reducible exact spec_DrawLawBy.mono _ _)
   | (with_reducible exact spec_LawBy.mono _ _ _ _ _)
   | (with_reducible exact spec_ProcessOk.mono _ _ _ _)
   | (with_reducible exact LeO.refl _)
   | (with_reducible exact LeO.none _)
   | (with_reducible refine LeO.ite ?_ ?_)
   | (with_reducible refine LeO.bind ?_ (fun _ => ?_))
   | exact ih0 _ _ _ _ _ _
   | exact ih1 _ _ _ _ _ _ _
   | exact ih2 _ _ _ _ _ _ _ _
   | exact ih3 _ _ _ _ _ _ _
   | exact impl_LawBy.mono _ _ _ _ _
   | exact impl_LawByEach.mono _ _ _ _ _
   | exact impl_SoundOk.mono _ _ _ _
   | exact spec_DrawLawBy.mono _ _
   | exact spec_LawBy.mono _ _ _ _ _
   | exact spec_ProcessOk.mono _ _ _ _
   | exact LeO.none _
   | refine LeO.ite ?_ ?_
   | refine LeO.bind ?_ (fun _ => ?_)
def laws_FnLawBy.T13 : Bool × List (List Nat × List Nat) := (true, [([], []), ([], []), ([], []), ([], []), ([3], [3]), ([2, 4], [2, 4]), ([0, 1, 5], [0, 1, 5]), ([6], [6])])
def laws_FnLawBy.B13 : List Nat := [0, 0, 0, 0, 8, 28, 63, 127]
theorem laws_FnLawBy.tab13 : rtab .any (opsOf Try.f8 13) = laws_FnLawBy.T13 := by kernel_rfl
theorem laws_FnLawBy.bits13 : waitsOk laws_FnLawBy.T13.2 laws_FnLawBy.B13 = true := by kernel_rfl
set_option maxHeartbeats 8000000 in
set_option maxRecDepth 100000 in
theorem laws_FnLawBy.calls (k : Nat) (A0 : Option Addr) (c0 : Nat) (l0 : List Int) (r : Bool) (w : World) (hr0 : Kd.C (Kd.int .u8) w A0 l0.length l0) (hc0 : l0.length ≤ c0) (h : laws_FnLawBy.f k l0 = some r) :
  Calls Try.prog 8 #[.slice A0 l0.length c0] w fun e w' => e = .returned (.bool r) ∧ Below w.heap.size w w' := by
 have hu25 := Try.underlying25
 have HR0 := Aside0.mk hr0
 have HC0 := Aside0.mk hc0
 clear hr0 hc0
 have HB := Aside0.mk (Below.refl w.heap.size w)
 have H : (if (l0.length : Int) > 1048576 then (some true) else ((spec_DrawLawBy.f k l0).bind fun bt386 => ((impl_LawBy.f k bt386.1 bt386.2.1 bt386.2.2.1 bt386.2.2.2).bind fun t395 => ((spec_LawBy.f k bt386.1 bt386.2.1 bt386.2.2.1 bt386.2.2.2).bind fun t396 => (if (t395 != t396) = true then (none) else ((spec_ProcessOk.f k bt386.1 bt386.2.1 bt386.2.2.1).bind fun t397 => (if t397 = true then ((spec_CrowdOk.f bt386.1 bt386.2.2.2).bind fun t398 => (laws_FnLawBy.j0 k bt386.2.2.1 bt386.2.2.2 t395 (!t398) bt386.1 bt386.2.1)) else (laws_FnLawBy.j0 k bt386.2.2.1 bt386.2.2.2 t395 true bt386.1 bt386.2.1)))))))) = some r := h
 clear h
 by_cases c2 : (l0.length : Int) > 1048576
 ·rw [if_pos c2] at H
  have c2b0 : decide (1048576 < (l0.length : Int)) = true := decide_eq_true c2
  have c2b1 : decide (1048576 < l0.length) = true := decide_eq_true (by omega)
  clear c2
  obtain rfl := Option.some.inj H
  go_enter Try.func8, Try.ntmps8
  go_wp2
  go_ret
  exact ⟨by first | rfl | (simp [errW_none, errW_some] <;> rfl) | (simp [*, errW_none, errW_some] <;> rfl), by exact bh⟩
 ·rw [if_neg c2] at H
  have c2b0 : decide (1048576 < (l0.length : Int)) = false := decide_eq_false c2
  have c2b1 : decide (1048576 < l0.length) = false := decide_eq_false (by omega)
  clear c2
  replace H := Option.bind_eq_some_iff.mp H
  obtain ⟨⟨t386, t387, t390, t393⟩, A30, H⟩ := H
  replace H : ((impl_LawBy.f k t386 t387 t390 t393).bind fun t395 => ((spec_LawBy.f k t386 t387 t390 t393).bind fun t396 => (if (t395 != t396) = true then (none) else ((spec_ProcessOk.f k t386 t387 t390).bind fun t397 => (if t397 = true then ((spec_CrowdOk.f t386 t393).bind fun t398 => (laws_FnLawBy.j0 k t390 t393 t395 (!t398) t386 t387)) else (laws_FnLawBy.j0 k t390 t393 t395 true t386 t387)))))) = some r := H
  have A3 := Aside0.mk A30
  clear A30
  replace H := Option.bind_eq_some_iff.mp H
  obtain ⟨t395, A40, H⟩ := H
  replace H : ((spec_LawBy.f k t386 t387 t390 t393).bind fun t396 => (if (t395 != t396) = true then (none) else ((spec_ProcessOk.f k t386 t387 t390).bind fun t397 => (if t397 = true then ((spec_CrowdOk.f t386 t393).bind fun t398 => (laws_FnLawBy.j0 k t390 t393 t395 (!t398) t386 t387)) else (laws_FnLawBy.j0 k t390 t393 t395 true t386 t387))))) = some r := H
  have A4 := Aside0.mk A40
  clear A40
  replace H := Option.bind_eq_some_iff.mp H
  obtain ⟨t396, A50, H⟩ := H
  replace H : (if (t395 != t396) = true then (none) else ((spec_ProcessOk.f k t386 t387 t390).bind fun t397 => (if t397 = true then ((spec_CrowdOk.f t386 t393).bind fun t398 => (laws_FnLawBy.j0 k t390 t393 t395 (!t398) t386 t387)) else (laws_FnLawBy.j0 k t390 t393 t395 true t386 t387)))) = some r := H
  have A5 := Aside0.mk A50
  clear A50
  by_cases c6 : (t395 != t396) = true
  ·rw [if_pos c6] at H
   exact absurd H (by simp)
  ·rw [if_neg c6] at H
   have c6b0 : (t395 != t396) = false := by simpa using c6
   (try (have c6b1 : decide (t395 = t396) = true := by simpa using c6))
   (try (have c6b2 : (t395 == t396) = true := by simpa using c6))
   clear c6
   have HC7 := Aside0.mk H
   clear H
   go_enter Try.func8, Try.ntmps8
   go_upto_region 7 with (first | ((with_reducible refine gate_callee (f := 37) rfl ?_); refine goesL_ (some 18) rfl rfl Try.func37 kr rfl #[.slice A0 l0.length c0] rfl lm ?_; (with_reducible refine (spec_DrawLawBy.calls k _ _ l0 t386 t387 t390 t393 _ ?side1 ?side2 A3.out).mono ?_); (case side1 => repeat (first | exact HR0.out | (with_reducible refine Kd.C_alloc ?_ _) | (with_reducible refine Kd.C_drewN ?_ _) | (with_reducible refine Kd.C_drew ?_))); (case side2 => exact HC0.out); rintro e w8 ⟨v388, v391, rfl, ho0, ho1, hb⟩; refine ⟨_, rfl, ?_⟩; have n0_ := Aside0.mk (Kd.R_lower ho0 (below_size bh)); have n1_ := Aside0.mk (Kd.S_lower ho1 (below_size bh)); have n2_ := Aside0.mk (below_step bh hb); clear HB; have HO389 := n0_; have HO392 := n1_; have HB := n2_; clear n0_ n1_ n2_; (try clear hb); (try clear hb2); (try clear hk); (try clear hi); (try clear ho0); (try clear ho1)) | ((with_reducible refine gate_dst (N := 3) rfl ?_); (try (refine gate_guard (by rfl) ?_; dsimp only)); refine box_event ?hg (N := 3) ?hd (cs := #[.int .i64 0, .slice none 0 0]) (t := 25) ?hr ?_; (case hd => rfl); (case hg => rfl); (case hr => first | (go_simp; done) | (go_simp; rfl)); intro gb394 hg w9 hbox hb; have n0_ := Aside0.mk (Kd.R_below (rz HO389) hb); have n1_ := Aside0.mk (Kd.S_below (sz HO392) hb); have n2_ := Aside0.mk (below_step bh hb); have n3_ := Aside0.mk (hbox); have n4_ := Aside0.mk ((gs (W0 := w) hg bh)); have n5_ := Aside0.mk ((gs (W0 := w) hg bh)); clear HO389 HO392 HB; have HO389 := n0_; have HO392 := n1_; have HB := n2_; have BK394 := n3_; have GW394 := n4_; have GE394 := n5_; clear n0_ n1_ n2_ n3_ n4_ n5_ hb hbox hg; have hcz10_0 := cz0 BK394; have hcz10_1 := cz1 BK394; have hfz10_0 := blk_frozen BK394.out 0; have hfz10_1 := blk_frozen BK394.out 1; obtain ⟨Ao11, co11, eo11⟩ := Kd.R_slice HO389.out; subst eo11; obtain ⟨Ao12, co12, eo12⟩ := Kd.S_slice HO392.out; subst eo12) | ((with_reducible refine gate_callee (f := 24) rfl ?_); refine goesL_ (some 25) rfl rfl Try.func24 kr rfl #[.agg #[.int .i64 t386, .slice Ao11 t387.length co11], .slice Ao12 t390.length co12, .int .i64 t393] rfl lm ?_; (with_reducible refine (impl_LawBy.calls k t386 _ _ t387 _ _ t390 t393 t395 _ ?side1 ?side2 ?side3 ?side4 A4.out).mono ?_); (case side1 => refine (Kd.R_reads' (e := 3) (base := w.heap.size) (ok := fun k_ => True) (n := t387.length) (c := co11) ?_).2.2; exact (fR HO389 BK394)); (case side2 => exact (Kd.R_reads' HO389.out).2.1); (case side3 => refine (Kd.S_reads' (e := 41) (base := w.heap.size) (ok := fun k_ => True) (n := t390.length) (c := co12) ?_).2.2; exact (fS HO392 BK394)); (case side4 => exact (Kd.S_reads' HO392.out).2.1); rintro e w13 ⟨rfl, hb⟩; refine ⟨_, rfl, ?_⟩; have n0_ := Aside0.mk (Kd.R_below (fR HO389 BK394) hb); have n1_ := Aside0.mk (Kd.S_below (fS HO392 BK394) hb); have n2_ := Aside0.mk (blk_below (g := gb394) (o := .cells #[.int .i64 t386, .slice Ao11 t387.length co11] 25 (0, 0)) (bp BK394) hb); have n3_ := Aside0.mk (below_step bh hb); clear HO389 HO392 BK394 HB; have HO389 := n0_; have HO392 := n1_; have BK394 := n2_; have HB := n3_; clear n0_ n1_ n2_ n3_; (try clear hb); (try clear hb2); (try clear hk); (try clear hi); have hcz14_0 := cz0 BK394; have hcz14_1 := cz1 BK394; have hfz14_0 := blk_frozen BK394.out 0; have hfz14_1 := blk_frozen BK394.out 1) | ((with_reducible refine gate_callee (f := 38) rfl ?_); refine goesL_ (some 30) rfl rfl Try.func38 kr rfl #[.agg #[.int .i64 t386, .slice Ao11 t387.length co11], .slice Ao12 t390.length co12, .int .i64 t393] rfl lm ?_; (with_reducible refine (spec_LawBy.calls k t386 _ _ t387 _ _ t390 t393 t396 _ ?side1 ?side2 ?side3 ?side4 A5.out).mono ?_); (case side1 => repeat (first | exact (Kd.R_reads' HO389.out).2.2 | (with_reducible refine Kd.C_alloc ?_ _) | (with_reducible refine Kd.C_drewN ?_ _) | (with_reducible refine Kd.C_drew ?_))); (case side2 => exact (Kd.R_reads' HO389.out).2.1); (case side3 => repeat (first | exact (Kd.S_reads' HO392.out).2.2 | (with_reducible refine Kd.C_alloc ?_ _) | (with_reducible refine Kd.C_drewN ?_ _) | (with_reducible refine Kd.C_drew ?_))); (case side4 => exact (Kd.S_reads' HO392.out).2.1); rintro e w15 ⟨rfl, hb⟩; refine ⟨_, rfl, ?_⟩; have n0_ := Aside0.mk (Kd.R_below (rz HO389) hb); have n1_ := Aside0.mk (Kd.S_below (sz HO392) hb); have n2_ := Aside0.mk (blk_below (bz BK394) hb); have n3_ := Aside0.mk (below_step bh hb); clear HO389 HO392 BK394 HB; have HO389 := n0_; have HO392 := n1_; have BK394 := n2_; have HB := n3_; clear n0_ n1_ n2_ n3_; (try clear hb); (try clear hb2); (try clear hk); (try clear hi)))
   (try simp only [Act.put, List.setIfInBounds_toArray, List.set_cons_zero, List.set_cons_succ])
   go_cut [42] (fun v42 wc => ∃ (kq : Nat) (x42_6 : Bool), v42 = .bool x42_6 ∧ Aside0 (laws_FnLawBy.j0 kq t390 t393 t395 x42_6 t386 t387 = some r) ∧ Aside0 (kq ≤ k) ∧ Aside0 (Kd.S k41 41 wc w.heap.size (fun _ => True) (.slice Ao12 t390.length co12) t390) ∧ Aside0 (Kd.R (Kd.int .i64) 3 wc w.heap.size (fun _ => True) (.slice Ao11 t387.length co11) t387) ∧ Aside0 (wc.heap[gb394]? = some (.cells #[.int .i64 t386, (.slice Ao11 t387.length co11)] 25 (0, 0))) ∧ Aside0 (Below w.heap.size w wc))
   case first =>
    have H := HC7.out
    clear HC7
    replace H := Option.bind_eq_some_iff.mp H
    obtain ⟨t397, A160, H⟩ := H
    replace H : (if t397 = true then ((spec_CrowdOk.f t386 t393).bind fun t398 => (laws_FnLawBy.j0 k t390 t393 t395 (!t398) t386 t387)) else (laws_FnLawBy.j0 k t390 t393 t395 true t386 t387)) = some r := H
    have A16 := Aside0.mk A160
    clear A160
    by_cases c17 : t397 = true
    ·subst c17
     have H1 : ((spec_CrowdOk.f t386 t393).bind fun t398 => (laws_FnLawBy.j0 k t390 t393 t395 (!t398) t386 t387)) = some r := by rw [if_pos rfl] at H; exact H
     clear H
     have H := H1
     clear H1
     replace H := Option.bind_eq_some_iff.mp H
     obtain ⟨t398, A180, H⟩ := H
     replace H : (laws_FnLawBy.j0 k t390 t393 t395 (!t398) t386 t387) = some r := H
     have A18 := Aside0.mk A180
     clear A180
     have H' := Aside0.mk H
     clear H
     have hcz19_0 := cz0 BK394
     have hcz19_1 := cz1 BK394
     have hfz19_0 := blk_frozen BK394.out 0
     have hfz19_1 := blk_frozen BK394.out 1
     go_wp2_with (first | ((with_reducible refine gate_callee (f := 16) rfl ?_); refine goesL_ (some 34) rfl rfl Try.func16 kr rfl #[.agg #[.int .i64 t386, .slice Ao11 t387.length co11], .slice Ao12 t390.length co12] rfl lm ?_; (with_reducible refine (spec_ProcessOk.calls k t386 _ _ t387 _ _ t390 true _ ?side1 ?side2 ?side3 ?side4 A16.out).mono ?_); (case side1 => repeat (first | exact (Kd.R_reads' HO389.out).2.2 | (with_reducible refine Kd.C_alloc ?_ _) | (with_reducible refine Kd.C_drewN ?_ _) | (with_reducible refine Kd.C_drew ?_))); (case side2 => exact (Kd.R_reads' HO389.out).2.1); (case side3 => repeat (first | exact (Kd.S_reads' HO392.out).2.2 | (with_reducible refine Kd.C_alloc ?_ _) | (with_reducible refine Kd.C_drewN ?_ _) | (with_reducible refine Kd.C_drew ?_))); (case side4 => exact (Kd.S_reads' HO392.out).2.1); rintro e w20 ⟨rfl, hb⟩; refine ⟨_, rfl, ?_⟩; have n0_ := Aside0.mk (Kd.R_below (rz HO389) hb); have n1_ := Aside0.mk (Kd.S_below (sz HO392) hb); have n2_ := Aside0.mk (blk_below (bz BK394) hb); have n3_ := Aside0.mk (below_step bh hb); clear HO389 HO392 BK394 HB; have HO389 := n0_; have HO392 := n1_; have BK394 := n2_; have HB := n3_; clear n0_ n1_ n2_ n3_; (try clear hb); (try clear hb2); (try clear hk); (try clear hi); have hcz21_0 := cz0 BK394; have hcz21_1 := cz1 BK394; have hfz21_0 := blk_frozen BK394.out 0; have hfz21_1 := blk_frozen BK394.out 1) | (go_at_call 22; (with_reducible refine (spec_CrowdOk.calls t386 t393 t398 _ A18.out).mono ?_); rintro e w' ⟨rfl, ⟨nd, rfl⟩⟩))
     go_meet
     case rel => exact ⟨_, (!t398), (by first | rfl | (simp; done) | (simp [*]; done)), H', ⟨by first | omega | exact Nat.le_refl _⟩, ⟨sz HO392⟩, ⟨rz HO389⟩, ⟨bz BK394⟩, ⟨by exact bh⟩⟩
    ·replace c17 := Bool.eq_false_iff.mpr c17
     subst c17
     have H1 : (laws_FnLawBy.j0 k t390 t393 t395 true t386 t387) = some r := by rw [if_neg (show ¬ (false = true) by decide)] at H; exact H
     clear H
     have H := H1
     clear H1
     have H' := Aside0.mk H
     clear H
     have hcz22_0 := cz0 BK394
     have hcz22_1 := cz1 BK394
     have hfz22_0 := blk_frozen BK394.out 0
     have hfz22_1 := blk_frozen BK394.out 1
     go_wp2_with (first | ((with_reducible refine gate_callee (f := 16) rfl ?_); refine goesL_ (some 34) rfl rfl Try.func16 kr rfl #[.agg #[.int .i64 t386, .slice Ao11 t387.length co11], .slice Ao12 t390.length co12] rfl lm ?_; (with_reducible refine (spec_ProcessOk.calls k t386 _ _ t387 _ _ t390 false _ ?side1 ?side2 ?side3 ?side4 A16.out).mono ?_); (case side1 => repeat (first | exact (Kd.R_reads' HO389.out).2.2 | (with_reducible refine Kd.C_alloc ?_ _) | (with_reducible refine Kd.C_drewN ?_ _) | (with_reducible refine Kd.C_drew ?_))); (case side2 => exact (Kd.R_reads' HO389.out).2.1); (case side3 => repeat (first | exact (Kd.S_reads' HO392.out).2.2 | (with_reducible refine Kd.C_alloc ?_ _) | (with_reducible refine Kd.C_drewN ?_ _) | (with_reducible refine Kd.C_drew ?_))); (case side4 => exact (Kd.S_reads' HO392.out).2.1); rintro e w23 ⟨rfl, hb⟩; refine ⟨_, rfl, ?_⟩; have n0_ := Aside0.mk (Kd.R_below (rz HO389) hb); have n1_ := Aside0.mk (Kd.S_below (sz HO392) hb); have n2_ := Aside0.mk (blk_below (bz BK394) hb); have n3_ := Aside0.mk (below_step bh hb); clear HO389 HO392 BK394 HB; have HO389 := n0_; have HO392 := n1_; have BK394 := n2_; have HB := n3_; clear n0_ n1_ n2_ n3_; (try clear hb); (try clear hb2); (try clear hk); (try clear hi)))
     go_meet
     case rel => exact ⟨_, (true), (by first | rfl | (simp; done) | (simp [*]; done)), H', ⟨by first | omega | exact Nat.le_refl _⟩, ⟨sz HO392⟩, ⟨rz HO389⟩, ⟨bz BK394⟩, ⟨by exact bh⟩⟩
   case rest =>
    clear HC7
    try clear c1
    try clear c2
    try clear c2b0
    try clear c2b1
    try clear p2
    try clear c3
    try clear c6
    try clear c6b0
    try clear c6b1
    try clear c6b2
    try clear c8
    try clear c16
    try clear c17
    try clear hcz10_0
    try clear hcz10_1
    try clear hcz14_0
    try clear hcz14_1
    try clear hcz19_0
    try clear hcz19_1
    try clear hcz21_0
    try clear hcz21_1
    try clear hcz22_0
    try clear hcz22_1
    try clear hfz10_0
    try clear hfz10_1
    try clear hfz14_0
    try clear hfz14_1
    try clear hfz19_0
    try clear hfz19_1
    try clear hfz21_0
    try clear hfz21_1
    try clear hfz22_0
    try clear hfz22_1
    obtain ⟨kq, x42_6, rfl, HA, HJ6, HO_4, HO_395001, BK394, HB⟩ := hcut
    cases kq with
    | zero => exact absurd HA.out (by simp [laws_FnLawBy.j0])
    | succ kj6 =>
     have H := HA.out
     clear HA
     simp only [laws_FnLawBy.j0] at H
     by_cases c24 : x42_6 = true
     ·subst c24
      have H1 : (if t395 = true then (none) else ((laws_alive.f).bind fun t399 => (some t399))) = some r := by rw [if_pos rfl] at H; exact H
      clear H
      have H := H1
      clear H1
      by_cases c25 : t395 = true
      ·subst c25
       have H1 : (none) = some r := by rw [if_pos rfl] at H; exact H
       clear H
       have H := H1
       clear H1
       exact absurd H (by simp)
      ·replace c25 := Bool.eq_false_iff.mpr c25
       subst c25
       have H1 : ((laws_alive.f).bind fun t399 => (some t399)) = some r := by rw [if_neg (show ¬ (false = true) by decide)] at H; exact H
       clear H
       have H := H1
       clear H1
       replace H := Option.bind_eq_some_iff.mp H
       obtain ⟨t399, A260, H⟩ := H
       replace H : (some t399) = some r := H
       have A26 := Aside0.mk A260
       clear A260
       obtain rfl := Option.some.inj H
       go_wp2_with (first | (go_at_call 18; (with_reducible refine (laws_alive.calls  t399 _ A26.out).mono ?_); rintro e w' ⟨rfl, ⟨nd, rfl⟩⟩))
       go_ret
       exact ⟨by first | rfl | (simp [errW_none, errW_some] <;> rfl) | (simp [*, errW_none, errW_some] <;> rfl), by exact bh⟩
     ·replace c24 := Bool.eq_false_iff.mpr c24
      subst c24
      have H1 : ((impl_SoundOk.f kj6 t386 t387 t390).bind fun t400 => (laws_FnLawBy.l0 kj6 t390 t393 t395 t400 0 t386 t387)) = some r := by rw [if_neg (show ¬ (false = true) by decide)] at H; exact H
      clear H
      have H := H1
      clear H1
      replace H := Option.bind_eq_some_iff.mp H
      obtain ⟨t400, A270, H⟩ := H
      replace H : (laws_FnLawBy.l0 kj6 t390 t393 t395 t400 0 t386 t387) = some r := H
      have A27 := Aside0.mk A270
      clear A270
      have H' := Aside0.mk H
      clear H
      have hcz28_0 := cz0 BK394
      have hcz28_1 := cz1 BK394
      have hfz28_0 := blk_frozen BK394.out 0
      have hfz28_1 := blk_frozen BK394.out 1
      go_wp2_with (first | ((with_reducible refine gate_callee (f := 25) rfl ?_); refine goesL_ (some 50) rfl rfl Try.func25 kr rfl #[.agg #[.int .i64 t386, .slice Ao11 t387.length co11], .slice Ao12 t390.length co12] rfl lm ?_; (with_reducible refine (impl_SoundOk.calls kj6 t386 _ _ t387 _ _ t390 t400 _ ?side1 ?side2 ?side3 ?side4 A27.out).mono ?_); (case side1 => repeat (first | exact (Kd.R_reads' HO_395001.out).2.2 | (with_reducible refine Kd.C_alloc ?_ _) | (with_reducible refine Kd.C_drewN ?_ _) | (with_reducible refine Kd.C_drew ?_))); (case side2 => exact (Kd.R_reads' HO_395001.out).2.1); (case side3 => repeat (first | exact (Kd.S_reads' HO_4.out).2.2 | (with_reducible refine Kd.C_alloc ?_ _) | (with_reducible refine Kd.C_drewN ?_ _) | (with_reducible refine Kd.C_drew ?_))); (case side4 => exact (Kd.S_reads' HO_4.out).2.1); rintro e w29 ⟨rfl, hb⟩; refine ⟨_, rfl, ?_⟩; have n0_ := Aside0.mk (Kd.S_below (sz HO_4) hb); have n1_ := Aside0.mk (Kd.R_below (rz HO_395001) hb); have n2_ := Aside0.mk (blk_below (bz BK394) hb); have n3_ := Aside0.mk (below_step bh hb); clear HO_4 HO_395001 BK394 HB; have HO_4 := n0_; have HO_395001 := n1_; have BK394 := n2_; have HB := n3_; clear n0_ n1_ n2_ n3_; (try clear hb); (try clear hb2); (try clear hk); (try clear hi)))
      go_loopg [8] kj6 (fun kq v8 w' => ∃ (x8_2 : Int), v8 = .int .i64 x8_2 ∧ Aside0 (laws_FnLawBy.l0 kq t390 t393 t395 t400 x8_2 t386 t387 = some r) ∧ Aside0 (kq ≤ kj6) ∧ Aside0 (Kd.S k41 41 w' w.heap.size (fun _ => True) (.slice Ao12 t390.length co12) t390) ∧ Aside0 (Kd.R (Kd.int .i64) 3 w' w.heap.size (fun _ => True) (.slice Ao11 t387.length co11) t387) ∧ Aside0 (w'.heap[gb394]? = some (.cells #[.int .i64 t386, (.slice Ao11 t387.length co11)] 25 (0, 0))) ∧ Aside0 (Below w.heap.size w w'))
      case atStart => exact ⟨(0), (by first | rfl | (simp; done) | (simp [*]; done)), H', ⟨Nat.le_refl _⟩, ⟨sz HO_4⟩, ⟨rz HO_395001⟩, ⟨bz BK394⟩, ⟨by exact bh⟩⟩
      case round =>
       clear H'
       try clear c1
       try clear c2
       try clear c2b0
       try clear c2b1
       try clear p2
       try clear c3
       try clear c6
       try clear c6b0
       try clear c6b1
       try clear c6b2
       try clear c8
       try clear c16
       try clear c17
       try clear c24
       try clear c25
       try clear hcz10_0
       try clear hcz10_1
       try clear hcz14_0
       try clear hcz14_1
       try clear hcz19_0
       try clear hcz19_1
       try clear hcz21_0
       try clear hcz21_1
       try clear hcz22_0
       try clear hcz22_1
       try clear hcz28_0
       try clear hcz28_1
       try clear hfz10_0
       try clear hfz10_1
       try clear hfz14_0
       try clear hfz14_1
       try clear hfz19_0
       try clear hfz19_1
       try clear hfz21_0
       try clear hfz21_1
       try clear hfz22_0
       try clear hfz22_1
       try clear hfz28_0
       try clear hfz28_1
       try clear p2
       obtain ⟨x8_2, rfl, HA, HK2, HO_4, HO_395001, BK394, HB⟩ := hrel
       cases gk with
       | zero => exact absurd HA.out (by simp [laws_FnLawBy.l0])
       | succ k2 =>
        have H := HA.out
        clear HA
        simp only [laws_FnLawBy.l0] at H
        have HC30 := Aside0.mk H
        clear H
        go_upto_region 11 with (fail)
        go_cut [60] (fun v60 wc => ∃ (kq : Nat) (x60_29 : Bool), v60 = .bool x60_29 ∧ Aside0 (laws_FnLawBy.j2 kq t390 t393 t395 t400 x8_2 x60_29 t386 t387 = some r) ∧ Aside0 (kq ≤ k2) ∧ Aside0 (Kd.S k41 41 wc w.heap.size (fun _ => True) (.slice Ao12 t390.length co12) t390) ∧ Aside0 (Kd.R (Kd.int .i64) 3 wc w.heap.size (fun _ => True) (.slice Ao11 t387.length co11) t387) ∧ Aside0 (wc.heap[gb394]? = some (.cells #[.int .i64 t386, (.slice Ao11 t387.length co11)] 25 (0, 0))) ∧ Aside0 (Below w.heap.size w wc))
        case first =>
         have H := HC30.out
         clear HC30
         by_cases c31 : x8_2 < t386
         ·rw [if_pos c31] at H
          have c31b0 : decide (x8_2 < t386) = true := decide_eq_true c31
          clear c31
          (first | rw [c31b0] | (simp only [i64_w, i32_w]; rw [c31b0]) | skip)
          by_cases c32 : t395 = true
          ·subst c32
           have H1 : (laws_FnLawBy.j2 k2 t390 t393 true t400 x8_2 t400 t386 t387) = some r := by rw [if_pos rfl] at H; exact H
           clear H
           have H := H1
           clear H1
           have H' := Aside0.mk H
           clear H
           have hcz33_0 := cz0 BK394
           have hcz33_1 := cz1 BK394
           have hfz33_0 := blk_frozen BK394.out 0
           have hfz33_1 := blk_frozen BK394.out 1
           go_wp2
           go_meet
           case rel => exact ⟨_, (t400), (by first | rfl | (simp; done) | (simp [*]; done)), H', ⟨by have := HJ6.out; have := HK2.out; first | omega | exact Nat.le_refl _⟩, ⟨sz HO_4⟩, ⟨rz HO_395001⟩, ⟨bz BK394⟩, ⟨by exact bh⟩⟩
          ·replace c32 := Bool.eq_false_iff.mpr c32
           subst c32
           have H1 : (laws_FnLawBy.j2 k2 t390 t393 false t400 x8_2 false t386 t387) = some r := by rw [if_neg (show ¬ (false = true) by decide)] at H; exact H
           clear H
           have H := H1
           clear H1
           have H' := Aside0.mk H
           clear H
           have hcz34_0 := cz0 BK394
           have hcz34_1 := cz1 BK394
           have hfz34_0 := blk_frozen BK394.out 0
           have hfz34_1 := blk_frozen BK394.out 1
           go_wp2
           go_meet
           case rel => exact ⟨_, (false), (by first | rfl | (simp; done) | (simp [*]; done)), H', ⟨by have := HJ6.out; have := HK2.out; first | omega | exact Nat.le_refl _⟩, ⟨sz HO_4⟩, ⟨rz HO_395001⟩, ⟨bz BK394⟩, ⟨by exact bh⟩⟩
         ·rw [if_neg c31] at H
          have c31b0 : decide (x8_2 < t386) = false := decide_eq_false c31
          clear c31
          (first | rw [c31b0] | (simp only [i64_w, i32_w]; rw [c31b0]) | skip)
          have H' := Aside0.mk H
          clear H
          have hcz35_0 := cz0 BK394
          have hcz35_1 := cz1 BK394
          have hfz35_0 := blk_frozen BK394.out 0
          have hfz35_1 := blk_frozen BK394.out 1
          go_wp2
          go_meet
          case rel => exact ⟨_, (false), (by first | rfl | (simp; done) | (simp [*]; done)), H', ⟨by have := HJ6.out; have := HK2.out; first | omega | exact Nat.le_refl _⟩, ⟨sz HO_4⟩, ⟨rz HO_395001⟩, ⟨bz BK394⟩, ⟨by exact bh⟩⟩
        case rest =>
         clear HC30
         try clear c1
         try clear c2
         try clear c2b0
         try clear c2b1
         try clear p2
         try clear c3
         try clear c6
         try clear c6b0
         try clear c6b1
         try clear c6b2
         try clear c8
         try clear c16
         try clear c17
         try clear c24
         try clear c25
         try clear c31
         try clear c31b0
         try clear c32
         try clear hcz10_0
         try clear hcz10_1
         try clear hcz14_0
         try clear hcz14_1
         try clear hcz19_0
         try clear hcz19_1
         try clear hcz21_0
         try clear hcz21_1
         try clear hcz22_0
         try clear hcz22_1
         try clear hcz28_0
         try clear hcz28_1
         try clear hcz33_0
         try clear hcz33_1
         try clear hcz34_0
         try clear hcz34_1
         try clear hcz35_0
         try clear hcz35_1
         try clear hfz10_0
         try clear hfz10_1
         try clear hfz14_0
         try clear hfz14_1
         try clear hfz19_0
         try clear hfz19_1
         try clear hfz21_0
         try clear hfz21_1
         try clear hfz22_0
         try clear hfz22_1
         try clear hfz28_0
         try clear hfz28_1
         try clear hfz33_0
         try clear hfz33_1
         try clear hfz34_0
         try clear hfz34_1
         try clear hfz35_0
         try clear hfz35_1
         try clear p2
         obtain ⟨kq, x60_29, rfl, HA, HJ29, HO_4, HO_395001, BK394, HB⟩ := hcut
         cases kq with
         | zero => exact absurd HA.out (by simp [laws_FnLawBy.j2])
         | succ kj29 =>
          have H := HA.out
          clear HA
          simp only [laws_FnLawBy.j2] at H
          by_cases c36 : x60_29 = true
          ·subst c36
           have H1 : (if 0 ≤ x8_2 then ((impl_LawBy.f kj29 t386 t387 t390 (Go.bits .or .i64 t393 (shl .i64 1 x8_2))).bind fun t401 => (if t401 = true then (laws_FnLawBy.l0 kj29 t390 t393 t395 t400 (wrap64 (x8_2 + 1)) t386 t387) else (none))) else (none)) = some r := by rw [if_pos rfl] at H; exact H
           clear H
           have H := H1
           clear H1
           by_cases c37 : 0 ≤ x8_2
           ·rw [if_pos c37] at H
            have c37b0 := eq_true c37
            have c37b1 : decide (0 ≤ x8_2) = true := decide_eq_true c37
            clear c37
            obtain ⟨ji38, hji38⟩ : ∃ j_ : Int, (shl .i64 1 x8_2) = j_ := ⟨_, rfl⟩
            replace H : ((impl_LawBy.f kj29 t386 t387 t390 (Go.bits .or .i64 t393 (ji38))).bind fun t401 => (if t401 = true then (laws_FnLawBy.l0 kj29 t390 t393 t395 t400 (wrap64 (x8_2 + 1)) t386 t387) else (none))) = some r := by first | (rw [hji38] at H; exact H) | (simp only [hji38] at H ⊢; exact H)
            have hji38_ : (IntKind.i64.wrap (1 * 2 ^ min x8_2.toNat 64)) = ji38 := hji38
            have hji38z : x8_2 ≤ 64 → (IntKind.i64.wrap (1 * 2 ^ x8_2.toNat)) = ji38 := shl_small hji38
            have hji38u : (IntKind.i64.wrap (2 ^ min x8_2.toNat 64)) = ji38 := by have h_ := hji38_; rw [Int.one_mul] at h_; exact h_
            have hji38v : x8_2 ≤ 64 → (IntKind.i64.wrap (2 ^ x8_2.toNat)) = ji38 := fun hle_ => by have h_ := hji38z hle_; rw [Int.one_mul] at h_; exact h_
            have hji38y : (wrap64 (1 * 2 ^ min x8_2.toNat 64)) = ji38 := (i64_w _).symm.trans hji38_
            have hji38x : x8_2 ≤ 64 → (wrap64 (1 * 2 ^ x8_2.toNat)) = ji38 := fun h_ => (i64_w _).symm.trans (hji38z h_)
            replace H := Option.bind_eq_some_iff.mp H
            obtain ⟨t401, A390, H⟩ := H
            replace H : (if t401 = true then (laws_FnLawBy.l0 kj29 t390 t393 t395 t400 (wrap64 (x8_2 + 1)) t386 t387) else (none)) = some r := H
            have A39 := Aside0.mk A390
            clear A390
            by_cases c40 : t401 = true
            ·subst c40
             have H1 : (laws_FnLawBy.l0 kj29 t390 t393 t395 t400 (wrap64 (x8_2 + 1)) t386 t387) = some r := by rw [if_pos rfl] at H; exact H
             clear H
             have H := H1
             clear H1
             have H' := Aside0.mk H
             clear H
             try go_wp2
             have n0_ := Aside0.mk (Kd.S_drew HO_4.out)
             have n1_ := Aside0.mk (Kd.R_drew HO_395001.out)
             have n2_ := Aside0.mk (blk_drew BK394.out)
             have n3_ := Aside0.mk (below_drew1 HB.out)
             clear HO_4 HO_395001 BK394 HB
             have HO_4 := n0_
             have HO_395001 := n1_
             have BK394 := n2_
             have HB := n3_
             clear n0_ n1_ n2_ n3_
             refine start_ (n := 8) (S := fun w' => w'.cell? ⟨gb394, 0, none⟩ = some (.int .i64 t386) ∧ w'.cell? ⟨gb394, 1, none⟩ = some (.slice Ao11 t387.length co11)) (ds := []) #[F,F,F,F,F,F,F,F] kr rfl rfl ⟨cz0 BK394, cz1 BK394⟩ (fun hHeld => ?_); refine with_tabW laws_FnLawBy.tab13 laws_FnLawBy.bits13 (fun HT_ HW_ => ?_)
             generalize wc.drew = w41 at HO_4 HO_395001 BK394 HB hHeld ⊢
             refine pu 1 (some 64) #[F,T,F,F,F,F,F,F] (any_of HT_.out kr) ?_
             refine pu 2 (some 65) #[F,T,T,F,F,F,F,F] (any_of HT_.out kr) ?_
             refine pu 3 (some 66) #[F,T,T,T,F,F,F,F] (any_of HT_.out kr) ?_
             refine pu 4 (some 67) #[F,T,T,T,T,F,F,F] (any_of HT_.out kr) ?_
             refine pu 5 (some 68) #[F,T,T,T,T,T,F,F] (any_of HT_.out kr) ?_
             refine tk2 0 (some 63) #[T,T,T,T,T,T,F,F] (take_ofW HT_.out HW_.out kr) ?_
             refine one_ (i := 6) (N := some 69) #[T,T,T,T,T,T,T,F] rfl rfl (one_of HT_.out kr) (by decide) (fun K hK => ?_)
             refine goes_ Try.func24 kr rfl #[.agg #[.int .i64 t386, .slice Ao11 t387.length co11], .slice Ao12 t390.length co12, .int .i64 (Go.bits .or .i64 t393 (ji38))] (by rfl) rfl rfl (by (try simp only [List.map_toArray, List.map_cons, List.map_nil]); first | done | (simp only [hji38]; rfl) | rfl | (simp only [List.length_drop, List.length_take]; rfl)) ?_
             with_reducible refine (impl_LawBy.calls kj29 t386 _ _ t387 _ _ t390 (Go.bits .or .i64 t393 (ji38)) true _ ?side1 ?side2 ?side3 ?side4 A39.out).mono ?_
             (case side1 => repeat (first | exact (Kd.R_reads' HO_395001.out).2.2 | (with_reducible refine Kd.C_alloc ?_ _) | (with_reducible refine Kd.C_drewN ?_ _) | (with_reducible refine Kd.C_drew ?_)))
             (case side2 => exact (Kd.R_reads' HO_395001.out).2.1)
             (case side3 => repeat (first | exact (Kd.S_reads' HO_4.out).2.2 | (with_reducible refine Kd.C_alloc ?_ _) | (with_reducible refine Kd.C_drewN ?_ _) | (with_reducible refine Kd.C_drew ?_)))
             (case side4 => exact (Kd.S_reads' HO_4.out).2.1)
             rintro e w42 ⟨rfl, hb⟩
             refine ⟨_, rfl, ?_⟩
             have n0_ := Aside0.mk (Kd.S_below (sz HO_4) hb)
             have n1_ := Aside0.mk (Kd.R_below (rz HO_395001) hb)
             have n2_ := Aside0.mk (blk_below (bz BK394) hb)
             have n3_ := Aside0.mk (below_step bh hb)
             clear HO_4 HO_395001 BK394 HB
             have HO_4 := n0_
             have HO_395001 := n1_
             have BK394 := n2_
             have HB := n3_
             clear n0_ n1_ n2_ n3_
             (try clear hb)
             (try clear hb2)
             (try clear hk)
             (try clear hi)
             refine hK.out _ _ ⟨cz0 BK394, cz1 BK394⟩ (fun hHeld => ?_)
             clear hK K
             refine norm_ (a' := ?_) ?_ ?_
             rotate_left
             ·show Act.put _ (some 69) _ = _
              simp only [Act.put, List.setIfInBounds_toArray, List.set_cons_zero, List.set_cons_succ, i64_w, i32_w]
              rfl
             refine pu 7 (some 70) #[T,T,T,T,T,T,T,T] (any_of HT_.out kr) ?_
             refine done_ (done_of HT_.out kr) ?_
             try go_wp2
             go_roundg kj29
             case measure => have := HJ6.out; have := HK2.out; have := HJ29.out; omega
             case rel => exact ⟨(wrap64 (x8_2 + 1)), (by first | rfl | (simp; done) | (simp [*]; done)), H', ⟨by have := HJ6.out; have := HK2.out; have := HJ29.out; omega⟩, ⟨sz HO_4⟩, ⟨rz HO_395001⟩, ⟨bz BK394⟩, ⟨by exact bh⟩⟩
            ·replace c40 := Bool.eq_false_iff.mpr c40
             subst c40
             have H1 : (none) = some r := by rw [if_neg (show ¬ (false = true) by decide)] at H; exact H
             clear H
             have H := H1
             clear H1
             exact absurd H (by simp)
           ·rw [if_neg c37] at H
            exact absurd H (by simp)
          ·replace c36 := Bool.eq_false_iff.mpr c36
           subst c36
           have H1 : (laws_FnLawBy.l1 kj29 t390 t393 t395 (([] : List Int)) 0 t386 t387) = some r := by rw [if_neg (show ¬ (false = true) by decide)] at H; exact H
           clear H
           have H := H1
           clear H1
           obtain ⟨y402, hy402⟩ : ∃ y_ : List Int, y_ = (([] : List Int)) := ⟨_, rfl⟩
           replace H : (laws_FnLawBy.l1 kj29 t390 t393 t395 y402 0 t386 t387) = some r := by first | (rw [hy402]; with_reducible exact H) | (have H2_ := (Option.bind_some _ _).symm.trans H; rw [hy402]; with_reducible exact H2_) | (have H2_ := (Option.bind_some _ _).symm.trans H; with_reducible exact H2_) | with_reducible exact H | (rw [hy402]; exact H) | exact H
           have Ny402 := Aside0.mk hy402
           clear hy402
           have H' := Aside0.mk H
           clear H
           go_wp2_with (first | ((with_reducible refine gate_dst (N := 71) rfl ?_); (try (refine gate_guard (by rfl) ?_; dsimp only)); refine Kd.R_lit (Kd.int .i64) _ 3 ?hg (N := 71) ?hd (xs := ([] : List Int)) (inner := []) (ok := fun _ => True) (okp := fun _ => True) ?hr ?hp (fun _ hk => hk) trivial (Below.refl _ _) (Nat.le_refl _) (by simp) ?_; (case hd => rfl); (case hg => rfl); (case hr => first | (go_simp; done) | (go_simp; rfl)); (case hp => exact (Reps.none _ _)); intro v403 w43 ho44 hb hg_ hnew_; clear hg_ hnew_; (first | rw [← Ny402.out] at ho44 | (simp only [Int.reduceToNat] at ho44; rw [← Ny402.out] at ho44)); have n0_ := Aside0.mk (Kd.S_below (sz HO_4) hb); have n1_ := Aside0.mk (Kd.R_elder' (rz HO_395001) (Kd.R_base ho44) hb); have n2_ := Aside0.mk (Kd.R_lower (Kd.R_new' ho44 (Kd.R_lt (rz HO_395001))) (below_size bh)); have n3_ := Aside0.mk (blk_below (bz BK394) hb); have n4_ := Aside0.mk (below_step bh hb); clear HO_4 HO_395001 BK394 HB; have HO_4 := n0_; have HO_395001 := n1_; have HO404 := n2_; have BK394 := n3_; have HB := n4_; clear n0_ n1_ n2_ n3_ n4_ hb ho44))
           go_loopg [9, 10] kj29 (fun kq v9 v10 w' => ∃ (x9_4 : List Int) (x10_4 : Int), v10 = .int .i64 x10_4 ∧ Aside0 (laws_FnLawBy.l1 kq t390 t393 t395 x9_4 x10_4 t386 t387 = some r) ∧ Aside0 (kq ≤ kj29) ∧ Aside0 (Kd.S k41 41 w' w.heap.size (fun _ => True) (.slice Ao12 t390.length co12) t390) ∧ Aside0 (Kd.R (Kd.int .i64) 3 w' w.heap.size (fun k_ => some k_ ≠ ((.slice Ao11 t387.length co11) : Value).ownBlock) v9 x9_4) ∧ Aside0 (Kd.R (Kd.int .i64) 3 w' w.heap.size (fun k_ => some k_ ≠ (v9 : Value).ownBlock) (.slice Ao11 t387.length co11) t387) ∧ Aside0 (w'.heap[gb394]? = some (.cells #[.int .i64 t386, (.slice Ao11 t387.length co11)] 25 (0, 0))) ∧ Aside0 (Below w.heap.size w w'))
           case atStart => exact ⟨(y402), (0), (by first | rfl | (simp; done) | (simp [*]; done)), H', ⟨Nat.le_refl _⟩, ⟨sz HO_4⟩, ⟨mR HO404⟩, ⟨mR HO_395001⟩, ⟨bz BK394⟩, ⟨by exact bh⟩⟩
           case round =>
            clear H'
            try clear c1
            try clear c2
            try clear c2b0
            try clear c2b1
            try clear p2
            try clear c3
            try clear c4
            try clear c6
            try clear c6b0
            try clear c6b1
            try clear c6b2
            try clear p6
            try clear c8
            try clear c16
            try clear c17
            try clear c24
            try clear c25
            try clear c31
            try clear c31b0
            try clear c32
            try clear c36
            try clear c37
            try clear c37b0
            try clear c37b1
            try clear c38
            try clear c40
            try clear hcz10_0
            try clear hcz10_1
            try clear hcz14_0
            try clear hcz14_1
            try clear hcz19_0
            try clear hcz19_1
            try clear hcz21_0
            try clear hcz21_1
            try clear hcz22_0
            try clear hcz22_1
            try clear hcz28_0
            try clear hcz28_1
            try clear hcz33_0
            try clear hcz33_1
            try clear hcz34_0
            try clear hcz34_1
            try clear hcz35_0
            try clear hcz35_1
            try clear hfz10_0
            try clear hfz10_1
            try clear hfz14_0
            try clear hfz14_1
            try clear hfz19_0
            try clear hfz19_1
            try clear hfz21_0
            try clear hfz21_1
            try clear hfz22_0
            try clear hfz22_1
            try clear hfz28_0
            try clear hfz28_1
            try clear hfz33_0
            try clear hfz33_1
            try clear hfz34_0
            try clear hfz34_1
            try clear hfz35_0
            try clear hfz35_1
            try clear p2
            obtain ⟨x9_4, x10_4, rfl, HA, HK4, HO_4, HO_9, HO_395001, BK394, HB⟩ := hrel
            cases gk with
            | zero => exact absurd HA.out (by simp [laws_FnLawBy.l1])
            | succ k4 =>
             have H := HA.out
             clear HA
             simp only [laws_FnLawBy.l1] at H
             by_cases c45 : x10_4 < (t390.length : Int)
             ·rw [if_pos c45] at H
              have c45b0 : decide (x10_4 < (t390.length : Int)) = true := decide_eq_true c45
              clear c45
              by_cases c46 : x9_4.length < 17592186044416
              ·rw [if_pos c46] at H
               have LMc46 := Aside0.mk c46
               clear c46
               obtain ⟨y405, hy405⟩ : ∃ y_ : List Int, y_ = (x9_4 ++ [t393]) := ⟨_, rfl⟩
               replace H : (laws_FnLawBy.l1 k4 t390 t393 t395 y405 (wrap64 (x10_4 + 1)) t386 t387) = some r := by first | (rw [hy405]; with_reducible exact H) | (have H2_ := (Option.bind_some _ _).symm.trans H; rw [hy405]; with_reducible exact H2_) | (have H2_ := (Option.bind_some _ _).symm.trans H; with_reducible exact H2_) | with_reducible exact H | (rw [hy405]; exact H) | exact H
               have Ny405 := Aside0.mk hy405
               clear hy405
               have H' := Aside0.mk H
               clear H
               go_wp2_with (first | ((with_reducible refine gate_builtin (b := .append) (xs := #[.tmp 78, .tmp 80]) rfl ?_); (try (refine gate_guard (by rfl) ?_; dsimp only)); at_builtin; refine Kd.R_append (Kd.int .i64) (w0 := w) w.heap.size rfl (.tmp 78) (.tmp 80) 23 3 (.int .i64 0) 8 rfl Try.underlying23 info3 rfl (by decide) (by omega) u9 x9_4 t393 [.int .i64 t393] (fun k_ => some k_ ≠ (.slice Ao11 t387.length co11 : Value).ownBlock) (fun _ => False) rfl rfl ?aP (fun _ hk => hk.elim) ?aF ?aO ?aB ?aS ?aL ?_; (case aP => exact rfl); (case aB => exact bh); (case aF => exact (fun k_ hk => Kd.fresh' (Kd.R_lt (rz HO_395001)) k_ hk)); (case aO => exact (rz HO_9)); (case aS => exact (below_size bh)); (case aL => have := LMc46.out; omega); intro v406 w47 ho hb hg hat; rw [← Ny405.out] at ho; have n0_ := Aside0.mk (Kd.S_over' (sz HO_4) (Kd.R_typed (rz HO_9)) (by decide) hg); have n1_ := Aside0.mk (Kd.R_after (ok := (fun _ => True)) (mR HO_395001) hg hat); have n2_ := Aside0.mk (blk_grown (bz BK394) hg (Kd.R_ne HO_9.out BK394.out (by decide))); have n3_ := Aside0.mk (hb); have n4_ := Aside0.mk (ho); clear HO_4 HO_395001 BK394 HB HO_9; have HO_4 := n0_; have HO_395001 := n1_; have BK394 := n2_; have HB := n3_; have HO407 := n4_; clear n0_ n1_ n2_ n3_ n4_ ho hb hg hat))
               go_roundg k4
               case measure => have := HJ6.out; have := HK2.out; have := HJ29.out; have := HK4.out; omega
               case rel => exact ⟨(y405), (wrap64 (x10_4 + 1)), (by first | rfl | (simp; done) | (simp [*]; done)), H', ⟨by have := HJ6.out; have := HK2.out; have := HJ29.out; have := HK4.out; omega⟩, ⟨sz HO_4⟩, ⟨rz HO407⟩, ⟨mR HO_395001⟩, ⟨bz BK394⟩, ⟨by exact bh⟩⟩
              ·rw [if_neg c46] at H
               exact absurd H (by simp)
             ·rw [if_neg c45] at H
              have c45b0 : decide (x10_4 < (t390.length : Int)) = false := decide_eq_false c45
              clear c45
              replace H := Option.bind_eq_some_iff.mp H
              obtain ⟨⟨t408, t409⟩, A480, H⟩ := H
              replace H : (if (t408 == t395) = true then (if t409 ≥ 1 then (some (decide (t409 ≤ (t390.length : Int)))) else (none)) else (none)) = some r := H
              have A48 := Aside0.mk A480
              clear A480
              by_cases c49 : (t408 == t395) = true
              ·rw [if_pos c49] at H
               have c49b0 : (t408 == t395) = true := c49
               (try (have c49b1 : decide (t408 = t395) = true := by simpa using c49))
               (try (have c49b2 : (t408 == t395) = true := by simpa using c49))
               clear c49
               by_cases c50 : t409 ≥ 1
               ·rw [if_pos c50] at H
                have c50b0 : decide (1 ≤ t409) = true := decide_eq_true c50
                clear c50
                obtain rfl := Option.some.inj H
                have hcz51_0 := cz0 BK394
                have hcz51_1 := cz1 BK394
                have hfz51_0 := blk_frozen BK394.out 0
                have hfz51_1 := blk_frozen BK394.out 1
                obtain ⟨Ao52, co52, eo52⟩ := Kd.R_slice HO_9.out
                subst eo52
                go_wp2_with (first | ((with_reducible refine gate_callee (f := 35) rfl ?_); refine goesL_ (some 86) rfl rfl Try.func35 kr rfl #[.agg #[.int .i64 t386, .slice Ao11 t387.length co11], .slice Ao12 t390.length co12, .slice Ao52 x9_4.length co52] rfl lm ?_; (with_reducible refine (impl_LawByEach.calls k4 t386 _ _ t387 _ _ t390 _ _ x9_4 t408 t409 _ ?side1 ?side2 ?side3 ?side4 ?side5 ?side6 A48.out).mono ?_); (case side1 => repeat (first | exact (Kd.R_reads' HO_395001.out).2.2 | (with_reducible refine Kd.C_alloc ?_ _) | (with_reducible refine Kd.C_drewN ?_ _) | (with_reducible refine Kd.C_drew ?_))); (case side2 => exact (Kd.R_reads' HO_395001.out).2.1); (case side3 => repeat (first | exact (Kd.S_reads' HO_4.out).2.2 | (with_reducible refine Kd.C_alloc ?_ _) | (with_reducible refine Kd.C_drewN ?_ _) | (with_reducible refine Kd.C_drew ?_))); (case side4 => exact (Kd.S_reads' HO_4.out).2.1); (case side5 => repeat (first | exact (Kd.R_reads' HO_9.out).2.2 | (with_reducible refine Kd.C_alloc ?_ _) | (with_reducible refine Kd.C_drewN ?_ _) | (with_reducible refine Kd.C_drew ?_))); (case side6 => exact (Kd.R_reads' HO_9.out).2.1); rintro e w53 ⟨rfl, hb⟩; refine ⟨_, rfl, ?_⟩; have n0_ := Aside0.mk (Kd.S_below (sz HO_4) hb); have n1_ := Aside0.mk (Kd.R_below (rz HO_9) hb); have n2_ := Aside0.mk (Kd.R_below (rz HO_395001) hb); have n3_ := Aside0.mk (blk_below (bz BK394) hb); have n4_ := Aside0.mk (below_step bh hb); clear HO_4 HO_9 HO_395001 BK394 HB; have HO_4 := n0_; have HO_9 := n1_; have HO_395001 := n2_; have BK394 := n3_; have HB := n4_; clear n0_ n1_ n2_ n3_ n4_; (try clear hb); (try clear hb2); (try clear hk); (try clear hi)))
                go_ret
                exact ⟨by first | rfl | (simp [errW_none, errW_some] <;> rfl) | (simp [*, errW_none, errW_some] <;> rfl), by exact bh⟩
               ·rw [if_neg c50] at H
                exact absurd H (by simp)
              ·rw [if_neg c49] at H
               exact absurd H (by simp)

/-- THE ONE PURE STATEMENT of laws_FnLawBy: yours. -/
def laws_FnLawBy.Pure : Prop := ∀ (l0 : List Int), l0.length ≤ maxLen → l0.length * 1 ≤ 140737488351232 → (∀ x ∈ l0, (Lit.int .u8 x).wf = true) → ∃ k, laws_FnLawBy.f k l0 = some true
theorem laws_FnLawBy.walk (P : laws_FnLawBy.Pure) (a0 : Option Addr) (len0 cap0 : Nat) (z0 : List Int) (w : World) (w0 : (a0 = none ∧ len0 = 0 ∧ cap0 = 0 ∧ z0 = []) ∨ ∃ x, a0 = some x ∧ len0 ≤ cap0 ∧ cap0 ≤ maxLen ∧ z0.length = cap0 ∧ (∀ i, i < z0.length → w.cell? (x.add i) = some (.int .u8 (z0.getD i 0))) ∧ ∀ n ∈ z0, (Lit.int .u8 n).wf = true) (y0 : len0 * 1 ≤ 140737488351232) :
  Calls Try.prog 8 #[.slice a0 len0 cap0] w fun e w' => e = .returned (.bool true) ∧ Below w.heap.size w w' := by
 obtain ⟨l0, rfl, hr0, hm0, hw0, hc0⟩ := ReadsInt.ofRowC w0
 obtain ⟨k, h⟩ := P l0 hm0 y0 hw0
 refine (laws_FnLawBy.calls k _ _ l0 true w (Kd.C_of_reads (d := (0 : Int)) (h1 := fun _ => rfl) hr0) hc0 h).mono ?_
 rintro e w' ⟨rfl, hd⟩
 exact ⟨rfl, hd⟩

end Go.Proofs.Ytnpjlpkbefdnlaa.QFnLawBy
