-- Printed for this claim by a turned copy of the print (wip/myprint). Lean checks it. Squeezed. Worded.
import Derived.Test.YtlpjkeejflogjaaQFnAfterDeathx0
import Derived.Test.YtlpjkeejflogjaaQFnAfterDeathx2
import Derived.Test.YtlpjkeejflogjaaQFnAfterDeathx3
import Derived.Test.YtlpjkeejflogjaaQFnAfterDeathx4
import Derived.Test.YtlpjkeejflogjaaQFnAfterDeathx10
import Derived.Test.YtlpjkeejflogjaaQFnAfterDeathx12
import Derived.Test.YtlpjkeejflogjaaQFnAfterDeathx13
namespace Go.Proofs.Ytlpjkeejflogjaa.QFnAfterDeath
open Go.RowKit Go.Proofs.YtlpjkeejflogjaaW.PrintWords Go.Proofs.YtlpjkeejflogjaaW.PrintLast Go.Proofs.YtlpjkeejflogjaaW.PrintMore
attribute [local go_sem] max2_int min2_int max_two min_two max_three min_three max_four min_four   -- for this text's walks alone
set_option linter.unusedVariables false
set_option linter.unusedSimpArgs false

/-! ### laws_FnAfterDeath: function 12 -/
mutual
def laws_FnAfterDeath.j0 : Nat → Int → Bool → Bool → Int → List (List Int) → List Int → Int → Int → List (List Int) → List Int → Int → Option (Bool)
 | 0, _, _, _, _, _, _, _, _, _, _, _ => none
 | k + 1, x4, x6, x38, x394000, x394001, x394002, x394003, x404000, x404001, x404002, x404003 => if x38 = true then (none) else (if x6 = true then (laws_FnAfterDeath.l0 k x4 0 x394000 x394001 x394002 x394003 x404000 x404001 x404002 x404003) else ((laws_sameCourt.f k x404000 x404001 x404002 x404003 0 ([] : List (List Int)) ([] : List Int) 0).bind fun t415 => (if t415 = true then ((laws_alive.f).bind fun t416 => (some t416)) else (none))))
def laws_FnAfterDeath.l0 : Nat → Int → Int → Int → List (List Int) → List Int → Int → Int → List (List Int) → List Int → Int → Option (Bool)
 | 0, _, _, _, _, _, _, _, _, _, _ => none
 | k + 1, x4, x9, x394000, x394001, x394002, x394003, x404000, x404001, x404002, x404003 => if x9 < (x394002.length : Int) then (if 0 ≤ x9 then (if (rd x394002 x9) = (-1) then (laws_FnAfterDeath.l0 k x4 (wrap64 (x9 + 1)) x394000 x394001 x394002 x394003 x404000 x404001 x404002 x404003) else (if (rd x394002 x9) = x4 then (laws_FnAfterDeath.l0 k x4 (wrap64 (x9 + 1)) x394000 x394001 x394002 x394003 x404000 x404001 x404002 x404003) else (if x9 < (x404002.length : Int) then (if (rd x404002 x9) = (rd x394002 x9) then (laws_FnAfterDeath.l0 k x4 (wrap64 (x9 + 1)) x394000 x394001 x394002 x394003 x404000 x404001 x404002 x404003) else (none)) else (none)))) else (none)) else ((impl_CourtOk.f k x404000 x404001 x404002 x404003).bind fun t421 => (if t421 = true then ((impl_RestOk.f k x404000 x404001 x404002 x404003).bind fun t422 => (if t422 = true then (if 0 ≤ x4 then (if (Int.tmod (shr .i64 x404003 x4) 2) = 0 then ((laws_hasInt.f k x404002 x4).bind fun t423 => (if t423 = true then (none) else ((impl_VacantOf.f k x404000 x404001 x404002 x404003).bind fun t424 => ((impl_VacantOf.f k x394000 x394001 x394002 x394003).bind fun t427 => (some (decide ((t424.length : Int) ≤ (wrap64 ((t427.length : Int) + 1))))))))) else (none)) else (none)) else (none))) else (none)))
end
def laws_FnAfterDeath.f (k : Nat) (l0 : List Int) : Option (Bool) := if (l0.length : Int) > 1048576 then (some true) else ((spec_DrawAfterDeath.f k l0).bind fun bt384 => ((impl_AfterDeath.f k bt384.1 bt384.2.1 bt384.2.2.1 bt384.2.2.2.1 bt384.2.2.2.2).bind fun bt394 => ((spec_AfterDeath.f k bt384.1 bt384.2.1 bt384.2.2.1 bt384.2.2.2.1 bt384.2.2.2.2).bind fun bt404 => ((laws_sameCourt.f k bt394.1 bt394.2.1 bt394.2.2.1 bt394.2.2.2.1 bt404.1 bt404.2.1 bt404.2.2.1 bt404.2.2.2.1).bind fun t414 => (if t414 = true then (laws_FnAfterDeath.j0 k bt384.2.2.2.2 bt394.2.2.2.2 (bt394.2.2.2.2 != bt404.2.2.2.2) bt384.1 bt384.2.1 bt384.2.2.1 bt384.2.2.2.1 bt394.1 bt394.2.1 bt394.2.2.1 bt394.2.2.2.1) else (laws_FnAfterDeath.j0 k bt384.2.2.2.2 bt394.2.2.2.2 true bt384.1 bt384.2.1 bt384.2.2.1 bt384.2.2.2.1 bt394.1 bt394.2.1 bt394.2.2.1 bt394.2.2.2.1))))))
theorem laws_FnAfterDeath.mono_l : ∀ k, (∀ y0 y1 y2 y3 y4 y5 y6 y7 y8 y9 y10, LeO (laws_FnAfterDeath.j0 k y0 y1 y2 y3 y4 y5 y6 y7 y8 y9 y10) (laws_FnAfterDeath.j0 (k + 1) y0 y1 y2 y3 y4 y5 y6 y7 y8 y9 y10)) ∧ (∀ y0 y1 y2 y3 y4 y5 y6 y7 y8 y9, LeO (laws_FnAfterDeath.l0 k y0 y1 y2 y3 y4 y5 y6 y7 y8 y9) (laws_FnAfterDeath.l0 (k + 1) y0 y1 y2 y3 y4 y5 y6 y7 y8 y9))
 | 0 => ⟨fun _ _ _ _ _ _ _ _ _ _ _ r h => by simp [laws_FnAfterDeath.j0] at h, fun _ _ _ _ _ _ _ _ _ _ r h => by simp [laws_FnAfterDeath.l0] at h⟩
 | k + 1 => by
  obtain ⟨ih0, ih1⟩ := laws_FnAfterDeath.mono_l k
  refine ⟨?_, ?_⟩
  ·intro y0 y1 y2 y3 y4 y5 y6 y7 y8 y9 y10
   unfold laws_FnAfterDeath.j0
   repeat' first
   | (with_reducible exact ih0 _ _ _ _ _ _ _ _ _ _ _)
   | (with_reducible exact ih1 _ _ _ _ _ _ _ _ _ _)
   | (with_reducible exact impl_AfterDeath.mono _ _ _ _ _ _)
   | (with_reducible exact impl_CourtOk.mono _ _ _ _ _)
   | (with_reducible exact impl_RestOk.mono _ _ _ _ _)
   | (with_reducible exact impl_VacantOf.mono _ _ _ _ _)
   | (with_reducible exact laws_hasInt.mono _ _ _)
   | (with_reducible exact laws_sameCourt.mono _ _ _ _ _ _ _ _ _)
   | (with_reducible exact spec_AfterDeath.mono _ _ _ _ _ _)
   | (with_reducible exact spec_DrawAfterDeath.mono _ _)
   | (with_reducible exact LeO.refl _)
   | (with_reducible exact LeO.none _)
   | (with_reducible refine LeO.ite ?_ ?_)
   | (with_reducible refine LeO.bind ?_ (fun _ => ?_))
   | exact ih0 _ _ _ _ _ _ _ _ _ _ _
   | exact ih1 _ _ _ _ _ _ _ _ _ _
   | exact impl_AfterDeath.mono _ _ _ _ _ _
   | exact impl_CourtOk.mono _ _ _ _ _
   | exact impl_RestOk.mono _ _ _ _ _
   | exact impl_VacantOf.mono _ _ _ _ _
   | exact laws_hasInt.mono _ _ _
   | exact laws_sameCourt.mono _ _ _ _ _ _ _ _ _
   | exact spec_AfterDeath.mono _ _ _ _ _ _
   | exact spec_DrawAfterDeath.mono _ _
   | exact LeO.none _
   | refine LeO.ite ?_ ?_
   | refine LeO.bind ?_ (fun _ => ?_)
  ·intro y0 y1 y2 y3 y4 y5 y6 y7 y8 y9
   unfold laws_FnAfterDeath.l0
   repeat' first
   | (with_reducible exact ih0 _ _ _ _ _ _ _ _ _ _ _)
   | (with_reducible exact ih1 _ _ _ _ _ _ _ _ _ _)
   | (with_reducible exact impl_AfterDeath.mono _ _ _ _ _ _)
   | (with_reducible exact impl_CourtOk.mono _ _ _ _ _)
   | (with_reducible exact impl_RestOk.mono _ _ _ _ _)
   | (with_reducible exact impl_VacantOf.mono _ _ _ _ _)
   | (with_reducible exact laws_hasInt.mono _ _ _)
   | (with_reducible exact laws_sameCourt.mono _ _ _ _ _ _ _ _ _)
   | (with_reducible exact spec_AfterDeath.mono _ _ _ _ _ _)
   | (with_reducible exact spec_DrawAfterDeath.mono _ _)
   | (with_reducible exact LeO.refl _)
   | (with_reducible exact LeO.none _)
   | (with_reducible refine LeO.ite ?_ ?_)
   | (with_reducible refine LeO.bind ?_ (fun _ => ?_))
   | exact ih0 _ _ _ _ _ _ _ _ _ _ _
   | exact ih1 _ _ _ _ _ _ _ _ _ _
   | exact impl_AfterDeath.mono _ _ _ _ _ _
   | exact impl_CourtOk.mono _ _ _ _ _
   | exact impl_RestOk.mono _ _ _ _ _
   | exact impl_VacantOf.mono _ _ _ _ _
   | exact laws_hasInt.mono _ _ _
   | exact laws_sameCourt.mono _ _ _ _ _ _ _ _ _
   | exact spec_AfterDeath.mono _ _ _ _ _ _
   | exact spec_DrawAfterDeath.mono _ _
   | exact LeO.none _
   | refine LeO.ite ?_ ?_
   | refine LeO.bind ?_ (fun _ => ?_)
theorem laws_FnAfterDeath.mono : ∀ a0 k, LeO (laws_FnAfterDeath.f k a0) (laws_FnAfterDeath.f (k + 1) a0) := by
 intro a0 k
 obtain ⟨ih0, ih1⟩ := laws_FnAfterDeath.mono_l k
 unfold laws_FnAfterDeath.f
 repeat' first
   | (with_reducible exact ih0 _ _ _ _ _ _ _ _ _ _ _)
   | (with_reducible exact ih1 _ _ _ _ _ _ _ _ _ _)
   | (with_reducible exact impl_AfterDeath.mono _ _ _ _ _ _)
   | (with_reducible exact impl_CourtOk.mono _ _ _ _ _)
   | (with_reducible exact impl_RestOk.mono _ _ _ _ _)
   | (with_reducible exact impl_VacantOf.mono _ _ _ _ _)
   | (with_reducible exact laws_hasInt.mono _ _ _)
   | (with_reducible exact laws_sameCourt.mono _ _ _ _ _ _ _ _ _)
   | (with_reducible exact spec_AfterDeath.mono _ _ _ _ _ _)
   | (with_reducible exact spec_DrawAfterDeath.mono _ _)
   | (with_reducible exact LeO.refl _)
   | (with_reducible exact LeO.none _)
   | (with_reducible refine LeO.ite ?_ ?_)
   | (with_reducible refine LeO.bind ?_ (fun _ => ?_))
   | exact ih0 _ _ _ _ _ _ _ _ _ _ _
   | exact ih1 _ _ _ _ _ _ _ _ _ _
   | exact impl_AfterDeath.mono _ _ _ _ _ _
   | exact impl_CourtOk.mono _ _ _ _ _
   | exact impl_RestOk.mono _ _ _ _ _
   | exact impl_VacantOf.mono _ _ _ _ _
   | exact laws_hasInt.mono _ _ _
   | exact laws_sameCourt.mono _ _ _ _ _ _ _ _ _
   | exact spec_AfterDeath.mono _ _ _ _ _ _
   | exact spec_DrawAfterDeath.mono _ _
   | exact LeO.none _
   | refine LeO.ite ?_ ?_
   | refine LeO.bind ?_ (fun _ => ?_)
def laws_FnAfterDeath.T13 : Bool × List (List Nat × List Nat) := (true, [([], []), ([0], [0]), ([], []), ([1, 2], [1, 2]), ([3], [3]), ([4], [4]), ([5], [5]), ([6], [6]), ([7, 6], [6, 7]), ([6], [6]), ([8, 9, 6], [6, 8, 9]), ([10, 6], [6, 10]), ([6], [6]), ([11, 12, 6], [6, 11, 12]), ([6, 13], [6, 13]), ([14, 6], [14]), ([15], [15]), ([16, 15], [15, 16]), ([15], [15]), ([17, 18, 15], [15, 17, 18]), ([19, 15], [15, 19]), ([15], [15]), ([21, 15], [15, 21]), ([15], [15]), ([22, 23, 15], [15, 22, 23]), ([24, 15], [15, 24]), ([20, 25, 15], [15, 20, 25]), ([15, 26], [15, 26])])
def laws_FnAfterDeath.B13 : List Nat := [0, 1, 0, 7, 15, 31, 63, 127, 255, 127, 1023, 2047, 127, 8191, 16383, 32767, 65535, 131071, 65535, 524287, 1048575, 65535, 2162687, 65535, 14745599, 31522815, 67108863, 134217727]
theorem laws_FnAfterDeath.tab13 : rtab .any (opsOf Try.f12 13) = laws_FnAfterDeath.T13 := by kernel_rfl
theorem laws_FnAfterDeath.bits13 : waitsOk laws_FnAfterDeath.T13.2 laws_FnAfterDeath.B13 = true := by kernel_rfl
def laws_FnAfterDeath.T15 : Bool × List (List Nat × List Nat) := (true, [([], []), ([0], [0]), ([1, 1], [1]), ([2], [2]), ([3, 2, 2], [2, 3]), ([2, 4], [2, 4]), ([5, 4], [5]), ([6], [6]), ([7, 6], [6, 7]), ([6], [6]), ([8, 9, 6], [6, 8, 9]), ([10, 6], [6, 10]), ([11, 6], [6, 11]), ([6, 12], [6, 12]), ([13, 6], [13]), ([14], [14]), ([15, 14], [14, 15]), ([14], [14]), ([16, 17, 14, 14], [14, 16, 17]), ([18, 14], [14, 18]), ([14, 19], [14, 19]), ([20, 18], [20]), ([21], [21]), ([22, 21, 21], [21, 22]), ([23, 21], [21, 23]), ([21], [21]), ([25, 23, 21], [21, 25]), ([26, 21], [21, 26]), ([27, 21], [21, 27]), ([24, 28, 21], [21, 24, 28]), ([21, 29], [21, 29]), ([30, 26, 0, 1, 2, 3, 4, 5, 6, 7, 8, 9, 10, 11, 12, 13, 14, 15, 16, 17, 18, 19, 20, 21, 22, 23, 24, 25, 26, 27, 28, 29, 30], [30])])
def laws_FnAfterDeath.B15 : List Nat := [0, 1, 3, 7, 15, 31, 63, 127, 255, 127, 1023, 2047, 4095, 8191, 16383, 32767, 65535, 32767, 262143, 524287, 1048575, 2097151, 4194303, 8388607, 16777215, 4194303, 50331647, 117440511, 251658239, 536870911, 1073741823, 2147483647]
theorem laws_FnAfterDeath.tab15 : rtab .any (opsOf Try.f12 15) = laws_FnAfterDeath.T15 := by kernel_rfl
theorem laws_FnAfterDeath.bits15 : waitsOk laws_FnAfterDeath.T15.2 laws_FnAfterDeath.B15 = true := by kernel_rfl
set_option maxHeartbeats 8000000 in
set_option maxRecDepth 100000 in
theorem laws_FnAfterDeath.calls (k : Nat) (A0 : Option Addr) (c0 : Nat) (l0 : List Int) (r : Bool) (w : World) (hr0 : Kd.C (Kd.int .u8) w A0 l0.length l0) (hc0 : l0.length ≤ c0) (h : laws_FnAfterDeath.f k l0 = some r) :
  Calls Try.prog 12 #[.slice A0 l0.length c0] w fun e w' => e = .returned (.bool r) ∧ Below w.heap.size w w' := by
 have hu28 := Try.underlying28
 have HR0 := Aside0.mk hr0
 have HC0 := Aside0.mk hc0
 clear hr0 hc0
 have HB := Aside0.mk (Below.refl w.heap.size w)
 have H : (if (l0.length : Int) > 1048576 then (some true) else ((spec_DrawAfterDeath.f k l0).bind fun bt384 => ((impl_AfterDeath.f k bt384.1 bt384.2.1 bt384.2.2.1 bt384.2.2.2.1 bt384.2.2.2.2).bind fun bt394 => ((spec_AfterDeath.f k bt384.1 bt384.2.1 bt384.2.2.1 bt384.2.2.2.1 bt384.2.2.2.2).bind fun bt404 => ((laws_sameCourt.f k bt394.1 bt394.2.1 bt394.2.2.1 bt394.2.2.2.1 bt404.1 bt404.2.1 bt404.2.2.1 bt404.2.2.2.1).bind fun t414 => (if t414 = true then (laws_FnAfterDeath.j0 k bt384.2.2.2.2 bt394.2.2.2.2 (bt394.2.2.2.2 != bt404.2.2.2.2) bt384.1 bt384.2.1 bt384.2.2.1 bt384.2.2.2.1 bt394.1 bt394.2.1 bt394.2.2.1 bt394.2.2.2.1) else (laws_FnAfterDeath.j0 k bt384.2.2.2.2 bt394.2.2.2.2 true bt384.1 bt384.2.1 bt384.2.2.1 bt384.2.2.2.1 bt394.1 bt394.2.1 bt394.2.2.1 bt394.2.2.2.1))))))) = some r := h
 clear h
 by_cases c2 : (l0.length : Int) > 1048576
 ·rw [if_pos c2] at H
  have c2b0 : decide (1048576 < (l0.length : Int)) = true := decide_eq_true c2
  have c2b1 : decide (1048576 < l0.length) = true := decide_eq_true (by omega)
  clear c2
  obtain rfl := Option.some.inj H
  go_enter Try.func12, Try.ntmps12
  go_wp2
  go_ret
  exact ⟨by first | rfl | (simp [errW_none, errW_some] <;> rfl) | (simp [*, errW_none, errW_some] <;> rfl), by repeat (first | (with_reducible first | exact HB.out | apply below_alloc | apply pw_below_drewN | apply below_drew1) | exact HB.out)⟩
 ·rw [if_neg c2] at H
  have c2b0 : decide (1048576 < (l0.length : Int)) = false := decide_eq_false c2
  have c2b1 : decide (1048576 < l0.length) = false := decide_eq_false (by omega)
  clear c2
  replace H := Option.bind_eq_some_iff.mp H
  obtain ⟨⟨t384, t385, t388, t391, t392⟩, A30, H⟩ := H
  replace H : ((impl_AfterDeath.f k t384 t385 t388 t391 t392).bind fun bt394 => ((spec_AfterDeath.f k t384 t385 t388 t391 t392).bind fun bt404 => ((laws_sameCourt.f k bt394.1 bt394.2.1 bt394.2.2.1 bt394.2.2.2.1 bt404.1 bt404.2.1 bt404.2.2.1 bt404.2.2.2.1).bind fun t414 => (if t414 = true then (laws_FnAfterDeath.j0 k t392 bt394.2.2.2.2 (bt394.2.2.2.2 != bt404.2.2.2.2) t384 t385 t388 t391 bt394.1 bt394.2.1 bt394.2.2.1 bt394.2.2.2.1) else (laws_FnAfterDeath.j0 k t392 bt394.2.2.2.2 true t384 t385 t388 t391 bt394.1 bt394.2.1 bt394.2.2.1 bt394.2.2.2.1))))) = some r := H
  have A3 := Aside0.mk A30
  clear A30
  replace H := Option.bind_eq_some_iff.mp H
  obtain ⟨⟨t394, t395, t398, t401, t402⟩, A40, H⟩ := H
  replace H : ((spec_AfterDeath.f k t384 t385 t388 t391 t392).bind fun bt404 => ((laws_sameCourt.f k t394 t395 t398 t401 bt404.1 bt404.2.1 bt404.2.2.1 bt404.2.2.2.1).bind fun t414 => (if t414 = true then (laws_FnAfterDeath.j0 k t392 t402 (t402 != bt404.2.2.2.2) t384 t385 t388 t391 t394 t395 t398 t401) else (laws_FnAfterDeath.j0 k t392 t402 true t384 t385 t388 t391 t394 t395 t398 t401)))) = some r := H
  have A4 := Aside0.mk A40
  clear A40
  replace H := Option.bind_eq_some_iff.mp H
  obtain ⟨⟨t404, t405, t408, t411, t412⟩, A50, H⟩ := H
  replace H : ((laws_sameCourt.f k t394 t395 t398 t401 t404 t405 t408 t411).bind fun t414 => (if t414 = true then (laws_FnAfterDeath.j0 k t392 t402 (t402 != t412) t384 t385 t388 t391 t394 t395 t398 t401) else (laws_FnAfterDeath.j0 k t392 t402 true t384 t385 t388 t391 t394 t395 t398 t401))) = some r := H
  have A5 := Aside0.mk A50
  clear A50
  have HC6 := Aside0.mk H
  clear H
  go_enter Try.func12, Try.ntmps12
  go_upto_region 6 with (first | ((with_reducible refine gate_callee (f := 44) rfl ?_); refine goesL_ (some 15) rfl rfl Try.func44 kr rfl #[.slice A0 l0.length c0] rfl lm ?_; (with_reducible refine (spec_DrawAfterDeath.calls k _ _ l0 t384 t385 t388 t391 t392 _ ?side1 ?side2 A3.out).mono ?_); (case side1 => repeat (first | exact HR0.out | (with_reducible refine Kd.C_alloc ?_ _) | (with_reducible refine Kd.C_drewN ?_ _) | (with_reducible refine Kd.C_drew ?_))); (case side2 => exact HC0.out); rintro e w7 ⟨v386, v389, rfl, ho0, ho1, hb⟩; refine ⟨_, rfl, ?_⟩; have n0_ := Aside0.mk (Kd.S_lower ho0 (below_size bh)); have n1_ := Aside0.mk (Kd.R_lower ho1 (below_size bh)); have n2_ := Aside0.mk (below_step bh hb); clear HB; have HO387 := n0_; have HO390 := n1_; have HB := n2_; clear n0_ n1_ n2_; (try clear hb); (try clear hb2); (try clear hk); (try clear hi); (try clear ho0); (try clear ho1)) | ((with_reducible refine gate_dst (N := 3) rfl ?_); (try (refine gate_guard (by rfl) ?_; dsimp only)); refine box_event ?hg (N := 3) ?hd (cs := #[.int .i64 0, .slice none 0 0, .slice none 0 0, .int .i64 0]) (t := 28) ?hr ?_; (case hd => rfl); (case hg => rfl); (case hr => first | (go_simp; done) | (go_simp; rfl)); intro gb393 hg w8 hbox hb; have n0_ := Aside0.mk (Kd.S_below (sz HO387) hb); have n1_ := Aside0.mk (Kd.R_below (rz HO390) hb); have n2_ := Aside0.mk (below_step bh hb); have n3_ := Aside0.mk (hbox); have n4_ := Aside0.mk ((gs (W0 := w) hg bh)); have n5_ := Aside0.mk ((gs (W0 := w) hg bh)); clear HO387; clear HO390; clear HB; have HO387 := n0_; have HO390 := n1_; have HB := n2_; have BK393 := n3_; have GW393 := n4_; have GE393 := n5_; clear n0_ n1_ n2_ n3_ n4_ n5_; clear hb hbox hg; have hcz9_0 : w8.cell? ⟨gb393, 0, none⟩ = some (.int .i64 0) := (blk_cell BK393.out 0).trans rfl; have hcz9_1 : w8.cell? ⟨gb393, 1, none⟩ = some (.slice none 0 0) := (blk_cell BK393.out 1).trans rfl; have hcz9_2 : w8.cell? ⟨gb393, 2, none⟩ = some (.slice none 0 0) := (blk_cell BK393.out 2).trans rfl; have hcz9_3 : w8.cell? ⟨gb393, 3, none⟩ = some (.int .i64 0) := (blk_cell BK393.out 3).trans rfl; have hfz9_0 := blk_frozen BK393.out 0; have hfz9_1 := blk_frozen BK393.out 1; have hfz9_2 := blk_frozen BK393.out 2; have hfz9_3 := blk_frozen BK393.out 3; obtain ⟨Ao10, co10, eo10⟩ := Kd.S_slice HO387.out; subst eo10; obtain ⟨Ao11, co11, eo11⟩ := Kd.R_slice HO390.out; subst eo11) | ((with_reducible refine gate_callee (f := 45) rfl ?_); refine goesL_ (some 21) rfl rfl Try.func45 kr rfl #[.agg #[.int .i64 t384, .slice Ao10 t385.length co10, .slice Ao11 t388.length co11, .int .i64 t391], .int .i64 t392] rfl lm ?_; (with_reducible refine (impl_AfterDeath.calls k t384 _ _ t385 _ _ t388 t391 t392 t394 t395 t398 t401 t402 _ ?side1 ?side2 ?side3 ?side4 A4.out).mono ?_); (case side1 => refine (Kd.S_reads' (e := 23) (base := w.heap.size) (ok := fun k_ => some k_ ≠ (.slice Ao11 t388.length co11 : Value).ownBlock) (n := t385.length) (c := co10) ?_).2.2; exact (by (with_reducible repeat (first | apply Kd.S_alloc | apply Kd.S_drewN | apply Kd.S_drew)); exact (Kd.S_mono (Kd.S_far (p := ⟨gb393, 3, none⟩) (Kd.S_far (p := ⟨gb393, 2, none⟩) (Kd.S_far (p := ⟨gb393, 1, none⟩) (Kd.S_far (p := ⟨gb393, 0, none⟩) (Kd.S_types HO387.out BK393.out (by decide)) (fun _ hk => hk.2) (.int .i64 t384)) (fun _ hk => hk.2) (.slice Ao10 t385.length co10)) (fun _ hk => hk.2) (.slice Ao11 t388.length co11)) (fun _ hk => hk.2) (.int .i64 t391)) (fun _ h_ => h_.1)))); (case side2 => exact (Kd.S_reads' HO387.out).2.1); (case side3 => refine (Kd.R_reads' (e := 3) (base := w.heap.size) (ok := fun k_ => True) (n := t388.length) (c := co11) ?_).2.2; exact (by (with_reducible repeat (first | apply Kd.R_alloc | apply Kd.R_drewN | apply Kd.R_drew)); exact (Kd.R_mono (Kd.R_far (p := ⟨gb393, 3, none⟩) (Kd.R_far (p := ⟨gb393, 2, none⟩) (Kd.R_far (p := ⟨gb393, 1, none⟩) (Kd.R_far (p := ⟨gb393, 0, none⟩) (Kd.R_types HO390.out BK393.out (by decide)) (fun _ hk => hk.2) (.int .i64 t384)) (fun _ hk => hk.2) (.slice Ao10 t385.length co10)) (fun _ hk => hk.2) (.slice Ao11 t388.length co11)) (fun _ hk => hk.2) (.int .i64 t391)) (fun _ h_ => h_.1)))); (case side4 => exact (Kd.R_reads' HO390.out).2.1); rintro e w12 ⟨v396, v399, rfl, ho0, ho1, hb⟩; refine ⟨_, rfl, ?_⟩; have n0_ := Aside0.mk (Kd.S_elder' (by (with_reducible repeat (first | apply Kd.S_alloc | apply Kd.S_drewN | apply Kd.S_drew)); exact (Kd.S_mono (Kd.S_far (p := ⟨gb393, 3, none⟩) (Kd.S_far (p := ⟨gb393, 2, none⟩) (Kd.S_far (p := ⟨gb393, 1, none⟩) (Kd.S_far (p := ⟨gb393, 0, none⟩) (Kd.S_types HO387.out BK393.out (by decide)) (fun _ hk => hk.2) (.int .i64 t384)) (fun _ hk => hk.2) (.slice Ao10 t385.length co10)) (fun _ hk => hk.2) (.slice Ao11 t388.length co11)) (fun _ hk => hk.2) (.int .i64 t391)) (fun _ h_ => h_.1))) (Kd.R_base ho1) hb); have n1_ := Aside0.mk (Kd.R_elder' (by (with_reducible repeat (first | apply Kd.R_alloc | apply Kd.R_drewN | apply Kd.R_drew)); exact (Kd.R_mono (Kd.R_far (p := ⟨gb393, 3, none⟩) (Kd.R_far (p := ⟨gb393, 2, none⟩) (Kd.R_far (p := ⟨gb393, 1, none⟩) (Kd.R_far (p := ⟨gb393, 0, none⟩) (Kd.R_types HO390.out BK393.out (by decide)) (fun _ hk => hk.2) (.int .i64 t384)) (fun _ hk => hk.2) (.slice Ao10 t385.length co10)) (fun _ hk => hk.2) (.slice Ao11 t388.length co11)) (fun _ hk => hk.2) (.int .i64 t391)) (fun _ h_ => h_.1))) (Kd.R_base ho1) hb); have n2_ := Aside0.mk (Kd.V_lower (Kd.V_mono (ok' := fun k_ => some k_ ≠ (v399 : Value).ownBlock ∧ some k_ ≠ (.slice Ao10 t385.length co10 : Value).ownBlock ∧ some k_ ≠ (.slice Ao11 t388.length co11 : Value).ownBlock ∧ k_ ≠ gb393) ho0 (fun k_ hk_ => ⟨hk_.2, (Kd.fresh' (Kd.S_lt (by (with_reducible repeat (first | apply Kd.S_alloc | apply Kd.S_drewN | apply Kd.S_drew)); exact (Kd.S_mono (Kd.S_far (p := ⟨gb393, 3, none⟩) (Kd.S_far (p := ⟨gb393, 2, none⟩) (Kd.S_far (p := ⟨gb393, 1, none⟩) (Kd.S_far (p := ⟨gb393, 0, none⟩) (Kd.S_types HO387.out BK393.out (by decide)) (fun _ hk => hk.2) (.int .i64 t384)) (fun _ hk => hk.2) (.slice Ao10 t385.length co10)) (fun _ hk => hk.2) (.slice Ao11 t388.length co11)) (fun _ hk => hk.2) (.int .i64 t391)) (fun _ h_ => h_.1)))) k_ hk_.1), (Kd.fresh' (Kd.R_lt (by (with_reducible repeat (first | apply Kd.R_alloc | apply Kd.R_drewN | apply Kd.R_drew)); exact (Kd.R_mono (Kd.R_far (p := ⟨gb393, 3, none⟩) (Kd.R_far (p := ⟨gb393, 2, none⟩) (Kd.R_far (p := ⟨gb393, 1, none⟩) (Kd.R_far (p := ⟨gb393, 0, none⟩) (Kd.R_types HO390.out BK393.out (by decide)) (fun _ hk => hk.2) (.int .i64 t384)) (fun _ hk => hk.2) (.slice Ao10 t385.length co10)) (fun _ hk => hk.2) (.slice Ao11 t388.length co11)) (fun _ hk => hk.2) (.int .i64 t391)) (fun _ h_ => h_.1)))) k_ hk_.1), (Kd.freshB (g := gb393) (o := .cells #[.int .i64 t384, .slice Ao10 t385.length co10, .slice Ao11 t388.length co11, .int .i64 t391] 28 (0, 0)) (by (with_reducible repeat (first | refine blk_drewN ?_ _ | refine blk_drew ?_ | refine blk_alloc ?_ _)); refine blk_put (cs := #[.int .i64 t384, .slice Ao10 t385.length co10, .slice Ao11 t388.length co11, .int .i64 0]) ?_ 3 _ rfl; (with_reducible repeat (first | refine blk_drewN ?_ _ | refine blk_drew ?_ | refine blk_alloc ?_ _)); refine blk_put (cs := #[.int .i64 t384, .slice Ao10 t385.length co10, .slice none 0 0, .int .i64 0]) ?_ 2 _ rfl; (with_reducible repeat (first | refine blk_drewN ?_ _ | refine blk_drew ?_ | refine blk_alloc ?_ _)); refine blk_put (cs := #[.int .i64 t384, .slice none 0 0, .slice none 0 0, .int .i64 0]) ?_ 1 _ rfl; (with_reducible repeat (first | refine blk_drewN ?_ _ | refine blk_drew ?_ | refine blk_alloc ?_ _)); refine blk_put (cs := #[.int .i64 0, .slice none 0 0, .slice none 0 0, .int .i64 0]) ?_ 0 _ rfl; (with_reducible repeat (first | refine blk_drewN ?_ _ | refine blk_drew ?_ | refine blk_alloc ?_ _)); exact BK393.out) k_ hk_.1)⟩)) (below_size bh)); have n3_ := Aside0.mk (Kd.R_lower (Kd.R_new' (Kd.R_mono (ok' := fun k_ => True) ho1 (fun _ hk_ => trivial)) (Kd.R_lt (by (with_reducible repeat (first | apply Kd.R_alloc | apply Kd.R_drewN | apply Kd.R_drew)); exact (Kd.R_mono (Kd.R_far (p := ⟨gb393, 3, none⟩) (Kd.R_far (p := ⟨gb393, 2, none⟩) (Kd.R_far (p := ⟨gb393, 1, none⟩) (Kd.R_far (p := ⟨gb393, 0, none⟩) (Kd.R_types HO390.out BK393.out (by decide)) (fun _ hk => hk.2) (.int .i64 t384)) (fun _ hk => hk.2) (.slice Ao10 t385.length co10)) (fun _ hk => hk.2) (.slice Ao11 t388.length co11)) (fun _ hk => hk.2) (.int .i64 t391)) (fun _ h_ => h_.1))))) (below_size bh)); have n4_ := Aside0.mk (blk_below (g := gb393) (o := .cells #[.int .i64 t384, .slice Ao10 t385.length co10, .slice Ao11 t388.length co11, .int .i64 t391] 28 (0, 0)) (by (with_reducible repeat (first | refine blk_drewN ?_ _ | refine blk_drew ?_ | refine blk_alloc ?_ _)); refine blk_put (cs := #[.int .i64 t384, .slice Ao10 t385.length co10, .slice Ao11 t388.length co11, .int .i64 0]) ?_ 3 _ rfl; (with_reducible repeat (first | refine blk_drewN ?_ _ | refine blk_drew ?_ | refine blk_alloc ?_ _)); refine blk_put (cs := #[.int .i64 t384, .slice Ao10 t385.length co10, .slice none 0 0, .int .i64 0]) ?_ 2 _ rfl; (with_reducible repeat (first | refine blk_drewN ?_ _ | refine blk_drew ?_ | refine blk_alloc ?_ _)); refine blk_put (cs := #[.int .i64 t384, .slice none 0 0, .slice none 0 0, .int .i64 0]) ?_ 1 _ rfl; (with_reducible repeat (first | refine blk_drewN ?_ _ | refine blk_drew ?_ | refine blk_alloc ?_ _)); refine blk_put (cs := #[.int .i64 0, .slice none 0 0, .slice none 0 0, .int .i64 0]) ?_ 0 _ rfl; (with_reducible repeat (first | refine blk_drewN ?_ _ | refine blk_drew ?_ | refine blk_alloc ?_ _)); exact BK393.out) hb); have n5_ := Aside0.mk (below_step bh hb); clear HO387; clear HO390; clear BK393; clear HB; have HO387 := n0_; have HO390 := n1_; have HO397 := n2_; have HO400 := n3_; have BK393 := n4_; have HB := n5_; clear n0_ n1_ n2_ n3_ n4_ n5_; (try clear hb); (try clear hb2); (try clear hk); (try clear hi); (try clear ho0); (try clear ho1)) | ((with_reducible refine gate_dst (N := 5) rfl ?_); (try (refine gate_guard (by rfl) ?_; dsimp only)); refine box_event ?hg (N := 5) ?hd (cs := #[.int .i64 0, .slice none 0 0, .slice none 0 0, .int .i64 0]) (t := 28) ?hr ?_; (case hd => rfl); (case hg => rfl); (case hr => first | (go_simp; done) | (go_simp; rfl)); intro gb403 hg w13 hbox hb; have n0_ := Aside0.mk (Kd.S_below (sz HO387) hb); have n1_ := Aside0.mk (Kd.R_below (rz HO390) hb); have n2_ := Aside0.mk (Kd.V_below (Kd.V_elderB (vz HO397) gb403 (Nat.le_of_eq hg.symm)) hb); have n3_ := Aside0.mk (Kd.R_below (rz HO400) hb); have n4_ := Aside0.mk (blk_below (bz BK393) hb); have n5_ := Aside0.mk (below_step bh hb); have n6_ := Aside0.mk (hbox); have n7_ := Aside0.mk ((gs (W0 := w) hg bh)); have n8_ := Aside0.mk ((gs (W0 := w) hg bh)); have n9_ := Aside0.mk ((gn hg (bz BK393))); have n10_ := Aside0.mk ((gm hg (bz BK393))); clear HO387; clear HO390; clear HO397; clear HO400; clear BK393; clear HB; have HO387 := n0_; have HO390 := n1_; have HO397 := n2_; have HO400 := n3_; have BK393 := n4_; have HB := n5_; have BK403 := n6_; have GW403 := n7_; have GE403 := n8_; have NB393_403 := n9_; have NB403_393 := n10_; clear n0_ n1_ n2_ n3_ n4_ n5_ n6_ n7_ n8_ n9_ n10_; clear hb hbox hg; have hnb14 := NB403_393.out; have hnc14 := NB393_403.out; have hcz15_0 : w13.cell? ⟨gb403, 0, none⟩ = some (.int .i64 0) := (blk_cell BK403.out 0).trans rfl; have hcz15_1 : w13.cell? ⟨gb403, 1, none⟩ = some (.slice none 0 0) := (blk_cell BK403.out 1).trans rfl; have hcz15_2 : w13.cell? ⟨gb403, 2, none⟩ = some (.slice none 0 0) := (blk_cell BK403.out 2).trans rfl; have hcz15_3 : w13.cell? ⟨gb403, 3, none⟩ = some (.int .i64 0) := (blk_cell BK403.out 3).trans rfl; have hfz15_0 := blk_frozen BK403.out 0; have hfz15_1 := blk_frozen BK403.out 1; have hfz15_2 := blk_frozen BK403.out 2; have hfz15_3 := blk_frozen BK403.out 3; obtain ⟨Ao16, co16, eo16⟩ := Kd.V_slice HO397.out; subst eo16; obtain ⟨Ao17, co17, eo17⟩ := Kd.R_slice HO400.out; subst eo17; have hcz18_0 : w13.cell? ⟨gb393, 0, none⟩ = some (.int .i64 t384) := (blk_cell BK393.out 0).trans rfl; have hcz18_1 : w13.cell? ⟨gb393, 1, none⟩ = some (.slice Ao10 t385.length co10) := (blk_cell BK393.out 1).trans rfl; have hcz18_2 : w13.cell? ⟨gb393, 2, none⟩ = some (.slice Ao11 t388.length co11) := (blk_cell BK393.out 2).trans rfl; have hcz18_3 : w13.cell? ⟨gb393, 3, none⟩ = some (.int .i64 t391) := (blk_cell BK393.out 3).trans rfl; have hfz18_0 := blk_frozen BK393.out 0; have hfz18_1 := blk_frozen BK393.out 1; have hfz18_2 := blk_frozen BK393.out 2; have hfz18_3 := blk_frozen BK393.out 3) | ((with_reducible refine gate_callee (f := 46) rfl ?_); refine goesL_ (some 27) rfl rfl Try.func46 kr rfl #[.agg #[.int .i64 t384, .slice Ao10 t385.length co10, .slice Ao11 t388.length co11, .int .i64 t391], .int .i64 t392] rfl lm ?_; (with_reducible refine (spec_AfterDeath.calls k t384 _ _ t385 _ _ t388 t391 t392 t404 t405 t408 t411 t412 _ ?side1 ?side2 ?side3 ?side4 A5.out).mono ?_); (case side1 => refine (Kd.S_reads' (e := 23) (base := w.heap.size) (ok := fun k_ => (some k_ ≠ (.slice Ao11 t388.length co11 : Value).ownBlock ∧ some k_ ≠ (.slice Ao17 t398.length co17 : Value).ownBlock)) (n := t385.length) (c := co10) ?_).2.2; exact (by (with_reducible repeat (first | apply Kd.S_alloc | apply Kd.S_drewN | apply Kd.S_drew)); exact (Kd.S_mono (Kd.S_far (p := ⟨gb403, 3, none⟩) (Kd.S_far (p := ⟨gb403, 2, none⟩) (Kd.S_far (p := ⟨gb403, 1, none⟩) (Kd.S_far (p := ⟨gb403, 0, none⟩) (Kd.S_types HO387.out BK403.out (by decide)) (fun _ hk => hk.2) (.int .i64 t394)) (fun _ hk => hk.2) (.slice Ao16 t395.length co16)) (fun _ hk => hk.2) (.slice Ao17 t398.length co17)) (fun _ hk => hk.2) (.int .i64 t401)) (fun _ h_ => h_.1)))); (case side2 => exact (Kd.S_reads' HO387.out).2.1); (case side3 => refine (Kd.R_reads' (e := 3) (base := w.heap.size) (ok := fun k_ => (True ∧ some k_ ≠ (.slice Ao17 t398.length co17 : Value).ownBlock)) (n := t388.length) (c := co11) ?_).2.2; exact (by (with_reducible repeat (first | apply Kd.R_alloc | apply Kd.R_drewN | apply Kd.R_drew)); exact (Kd.R_mono (Kd.R_far (p := ⟨gb403, 3, none⟩) (Kd.R_far (p := ⟨gb403, 2, none⟩) (Kd.R_far (p := ⟨gb403, 1, none⟩) (Kd.R_far (p := ⟨gb403, 0, none⟩) (Kd.R_types HO390.out BK403.out (by decide)) (fun _ hk => hk.2) (.int .i64 t394)) (fun _ hk => hk.2) (.slice Ao16 t395.length co16)) (fun _ hk => hk.2) (.slice Ao17 t398.length co17)) (fun _ hk => hk.2) (.int .i64 t401)) (fun _ h_ => h_.1)))); (case side4 => exact (Kd.R_reads' HO390.out).2.1); rintro e w19 ⟨v406, v409, rfl, ho0, ho1, hb⟩; refine ⟨_, rfl, ?_⟩; have n0_ := Aside0.mk (Kd.S_mono (Kd.S_told (Kd.S_told (Kd.S_old (by (with_reducible repeat (first | apply Kd.S_alloc | apply Kd.S_drewN | apply Kd.S_drew)); exact (Kd.S_mono (Kd.S_far (p := ⟨gb403, 3, none⟩) (Kd.S_far (p := ⟨gb403, 2, none⟩) (Kd.S_far (p := ⟨gb403, 1, none⟩) (Kd.S_far (p := ⟨gb403, 0, none⟩) (Kd.S_types HO387.out BK403.out (by decide)) (fun _ hk => hk.2) (.int .i64 t394)) (fun _ hk => hk.2) (.slice Ao16 t395.length co16)) (fun _ hk => hk.2) (.slice Ao17 t398.length co17)) (fun _ hk => hk.2) (.int .i64 t401)) (fun _ h_ => h_.1))) hb) (Kd.S_base ho0)) (Kd.R_base ho1)) (fun _ h_ => h_.1)); have n1_ := Aside0.mk (Kd.R_elder' (by (with_reducible repeat (first | apply Kd.R_alloc | apply Kd.R_drewN | apply Kd.R_drew)); exact (Kd.R_mono (Kd.R_far (p := ⟨gb403, 3, none⟩) (Kd.R_far (p := ⟨gb403, 2, none⟩) (Kd.R_far (p := ⟨gb403, 1, none⟩) (Kd.R_far (p := ⟨gb403, 0, none⟩) (Kd.R_types HO390.out BK403.out (by decide)) (fun _ hk => hk.2) (.int .i64 t394)) (fun _ hk => hk.2) (.slice Ao16 t395.length co16)) (fun _ hk => hk.2) (.slice Ao17 t398.length co17)) (fun _ hk => hk.2) (.int .i64 t401)) (fun _ h_ => h_.1))) (Kd.R_base ho1) hb); have n2_ := Aside0.mk (Kd.V_mono (Kd.V_told (Kd.V_told (Kd.V_old (by (with_reducible repeat (first | apply Kd.V_alloc | apply Kd.V_drewN | apply Kd.V_drew)); exact (Kd.V_mono (Kd.V_far (p := ⟨gb403, 3, none⟩) (Kd.V_far (p := ⟨gb403, 2, none⟩) (Kd.V_far (p := ⟨gb403, 1, none⟩) (Kd.V_far (p := ⟨gb403, 0, none⟩) (Kd.V_mono HO397.out (fun k_ hk => (⟨hk, hk.2⟩ : _ ∧ k_ ≠ gb403))) (fun _ hk => hk.2) (.int .i64 t394)) (fun _ hk => hk.2) (.slice Ao16 t395.length co16)) (fun _ hk => hk.2) (.slice Ao17 t398.length co17)) (fun _ hk => hk.2) (.int .i64 t401)) (fun _ h_ => h_.1))) hb) (Kd.S_base ho0)) (Kd.R_base ho1)) (fun _ h_ => h_.1)); have n3_ := Aside0.mk (Kd.R_elder' (by (with_reducible repeat (first | apply Kd.R_alloc | apply Kd.R_drewN | apply Kd.R_drew)); exact (Kd.R_mono (Kd.R_far (p := ⟨gb403, 3, none⟩) (Kd.R_far (p := ⟨gb403, 2, none⟩) (Kd.R_far (p := ⟨gb403, 1, none⟩) (Kd.R_far (p := ⟨gb403, 0, none⟩) (Kd.R_types HO400.out BK403.out (by decide)) (fun _ hk => hk.2) (.int .i64 t394)) (fun _ hk => hk.2) (.slice Ao16 t395.length co16)) (fun _ hk => hk.2) (.slice Ao17 t398.length co17)) (fun _ hk => hk.2) (.int .i64 t401)) (fun _ h_ => h_.1))) (Kd.R_base ho1) hb); have n4_ := Aside0.mk (Kd.S_lower (Kd.S_new' (Kd.S_new' (Kd.S_new' ho0 (Kd.S_lt (by (with_reducible repeat (first | apply Kd.S_alloc | apply Kd.S_drewN | apply Kd.S_drew)); exact (Kd.S_mono (Kd.S_far (p := ⟨gb403, 3, none⟩) (Kd.S_far (p := ⟨gb403, 2, none⟩) (Kd.S_far (p := ⟨gb403, 1, none⟩) (Kd.S_far (p := ⟨gb403, 0, none⟩) (Kd.S_types HO387.out BK403.out (by decide)) (fun _ hk => hk.2) (.int .i64 t394)) (fun _ hk => hk.2) (.slice Ao16 t395.length co16)) (fun _ hk => hk.2) (.slice Ao17 t398.length co17)) (fun _ hk => hk.2) (.int .i64 t401)) (fun _ h_ => h_.1))))) (Kd.R_lt (by (with_reducible repeat (first | apply Kd.R_alloc | apply Kd.R_drewN | apply Kd.R_drew)); exact (Kd.R_mono (Kd.R_far (p := ⟨gb403, 3, none⟩) (Kd.R_far (p := ⟨gb403, 2, none⟩) (Kd.R_far (p := ⟨gb403, 1, none⟩) (Kd.R_far (p := ⟨gb403, 0, none⟩) (Kd.R_types HO390.out BK403.out (by decide)) (fun _ hk => hk.2) (.int .i64 t394)) (fun _ hk => hk.2) (.slice Ao16 t395.length co16)) (fun _ hk => hk.2) (.slice Ao17 t398.length co17)) (fun _ hk => hk.2) (.int .i64 t401)) (fun _ h_ => h_.1))))) (Kd.R_lt (by (with_reducible repeat (first | apply Kd.R_alloc | apply Kd.R_drewN | apply Kd.R_drew)); exact (Kd.R_mono (Kd.R_far (p := ⟨gb403, 3, none⟩) (Kd.R_far (p := ⟨gb403, 2, none⟩) (Kd.R_far (p := ⟨gb403, 1, none⟩) (Kd.R_far (p := ⟨gb403, 0, none⟩) (Kd.R_types HO400.out BK403.out (by decide)) (fun _ hk => hk.2) (.int .i64 t394)) (fun _ hk => hk.2) (.slice Ao16 t395.length co16)) (fun _ hk => hk.2) (.slice Ao17 t398.length co17)) (fun _ hk => hk.2) (.int .i64 t401)) (fun _ h_ => h_.1))))) (below_size bh)); have n5_ := Aside0.mk (Kd.R_lower (Kd.R_new' (Kd.R_new' ho1 (Kd.R_lt (by (with_reducible repeat (first | apply Kd.R_alloc | apply Kd.R_drewN | apply Kd.R_drew)); exact (Kd.R_mono (Kd.R_far (p := ⟨gb403, 3, none⟩) (Kd.R_far (p := ⟨gb403, 2, none⟩) (Kd.R_far (p := ⟨gb403, 1, none⟩) (Kd.R_far (p := ⟨gb403, 0, none⟩) (Kd.R_types HO390.out BK403.out (by decide)) (fun _ hk => hk.2) (.int .i64 t394)) (fun _ hk => hk.2) (.slice Ao16 t395.length co16)) (fun _ hk => hk.2) (.slice Ao17 t398.length co17)) (fun _ hk => hk.2) (.int .i64 t401)) (fun _ h_ => h_.1))))) (Kd.R_lt (by (with_reducible repeat (first | apply Kd.R_alloc | apply Kd.R_drewN | apply Kd.R_drew)); exact (Kd.R_mono (Kd.R_far (p := ⟨gb403, 3, none⟩) (Kd.R_far (p := ⟨gb403, 2, none⟩) (Kd.R_far (p := ⟨gb403, 1, none⟩) (Kd.R_far (p := ⟨gb403, 0, none⟩) (Kd.R_types HO400.out BK403.out (by decide)) (fun _ hk => hk.2) (.int .i64 t394)) (fun _ hk => hk.2) (.slice Ao16 t395.length co16)) (fun _ hk => hk.2) (.slice Ao17 t398.length co17)) (fun _ hk => hk.2) (.int .i64 t401)) (fun _ h_ => h_.1))))) (below_size bh)); have n6_ := Aside0.mk (blk_below (g := gb393) (o := .cells #[.int .i64 t384, .slice Ao10 t385.length co10, .slice Ao11 t388.length co11, .int .i64 t391] 28 (0, 0)) (by (with_reducible repeat (first | refine blk_drewN ?_ _ | refine blk_drew ?_ | refine blk_alloc ?_ _)); refine blk_far ?_ NB393_403.out _; (with_reducible repeat (first | refine blk_drewN ?_ _ | refine blk_drew ?_ | refine blk_alloc ?_ _)); refine blk_far ?_ NB393_403.out _; (with_reducible repeat (first | refine blk_drewN ?_ _ | refine blk_drew ?_ | refine blk_alloc ?_ _)); refine blk_far ?_ NB393_403.out _; (with_reducible repeat (first | refine blk_drewN ?_ _ | refine blk_drew ?_ | refine blk_alloc ?_ _)); refine blk_far ?_ NB393_403.out _; (with_reducible repeat (first | refine blk_drewN ?_ _ | refine blk_drew ?_ | refine blk_alloc ?_ _)); exact BK393.out) hb); have n7_ := Aside0.mk (blk_below (g := gb403) (o := .cells #[.int .i64 t394, .slice Ao16 t395.length co16, .slice Ao17 t398.length co17, .int .i64 t401] 28 (0, 0)) (by (with_reducible repeat (first | refine blk_drewN ?_ _ | refine blk_drew ?_ | refine blk_alloc ?_ _)); refine blk_put (cs := #[.int .i64 t394, .slice Ao16 t395.length co16, .slice Ao17 t398.length co17, .int .i64 0]) ?_ 3 _ rfl; (with_reducible repeat (first | refine blk_drewN ?_ _ | refine blk_drew ?_ | refine blk_alloc ?_ _)); refine blk_put (cs := #[.int .i64 t394, .slice Ao16 t395.length co16, .slice none 0 0, .int .i64 0]) ?_ 2 _ rfl; (with_reducible repeat (first | refine blk_drewN ?_ _ | refine blk_drew ?_ | refine blk_alloc ?_ _)); refine blk_put (cs := #[.int .i64 t394, .slice none 0 0, .slice none 0 0, .int .i64 0]) ?_ 1 _ rfl; (with_reducible repeat (first | refine blk_drewN ?_ _ | refine blk_drew ?_ | refine blk_alloc ?_ _)); refine blk_put (cs := #[.int .i64 0, .slice none 0 0, .slice none 0 0, .int .i64 0]) ?_ 0 _ rfl; (with_reducible repeat (first | refine blk_drewN ?_ _ | refine blk_drew ?_ | refine blk_alloc ?_ _)); exact BK403.out) hb); have n8_ := Aside0.mk (below_step bh hb); clear HO387; clear HO390; clear HO397; clear HO400; clear BK393; clear BK403; clear HB; have HO387 := n0_; have HO390 := n1_; have HO397 := n2_; have HO400 := n3_; have HO407 := n4_; have HO410 := n5_; have BK393 := n6_; have BK403 := n7_; have HB := n8_; clear n0_ n1_ n2_ n3_ n4_ n5_ n6_ n7_ n8_; (try clear hb); (try clear hb2); (try clear hk); (try clear hi); (try clear ho0); (try clear ho1)) | ((with_reducible refine gate_dst (N := 7) rfl ?_); (try (refine gate_guard (by rfl) ?_; dsimp only)); refine box_event ?hg (N := 7) ?hd (cs := #[.int .i64 0, .slice none 0 0, .slice none 0 0, .int .i64 0]) (t := 28) ?hr ?_; (case hd => rfl); (case hg => rfl); (case hr => first | (go_simp; done) | (go_simp; rfl)); intro gb413 hg w20 hbox hb; have n0_ := Aside0.mk (Kd.S_below (sz HO387) hb); have n1_ := Aside0.mk (Kd.R_below (rz HO390) hb); have n2_ := Aside0.mk (Kd.V_below (Kd.V_elderB (vz HO397) gb413 (Nat.le_of_eq hg.symm)) hb); have n3_ := Aside0.mk (Kd.R_below (rz HO400) hb); have n4_ := Aside0.mk (Kd.S_below (sz HO407) hb); have n5_ := Aside0.mk (Kd.R_below (rz HO410) hb); have n6_ := Aside0.mk (blk_below (bz BK393) hb); have n7_ := Aside0.mk (blk_below (bz BK403) hb); have n8_ := Aside0.mk (below_step bh hb); have n9_ := Aside0.mk (hbox); have n10_ := Aside0.mk ((gs (W0 := w) hg bh)); have n11_ := Aside0.mk ((gs (W0 := w) hg bh)); have n12_ := Aside0.mk ((gn hg (bz BK393))); have n13_ := Aside0.mk ((gm hg (bz BK393))); have n14_ := Aside0.mk ((gn hg (bz BK403))); have n15_ := Aside0.mk ((gm hg (bz BK403))); clear HO387; clear HO390; clear HO397; clear HO400; clear HO407; clear HO410; clear BK393; clear BK403; clear HB; have HO387 := n0_; have HO390 := n1_; have HO397 := n2_; have HO400 := n3_; have HO407 := n4_; have HO410 := n5_; have BK393 := n6_; have BK403 := n7_; have HB := n8_; have BK413 := n9_; have GW413 := n10_; have GE413 := n11_; have NB393_413 := n12_; have NB413_393 := n13_; have NB403_413 := n14_; have NB413_403 := n15_; clear n0_ n1_ n2_ n3_ n4_ n5_ n6_ n7_ n8_ n9_ n10_ n11_ n12_ n13_ n14_ n15_; clear hb hbox hg; have hnb21 := NB413_393.out; have hnc21 := NB393_413.out; have hnb22 := NB413_403.out; have hnc22 := NB403_413.out; have hcz23_0 : w20.cell? ⟨gb413, 0, none⟩ = some (.int .i64 0) := (blk_cell BK413.out 0).trans rfl; have hcz23_1 : w20.cell? ⟨gb413, 1, none⟩ = some (.slice none 0 0) := (blk_cell BK413.out 1).trans rfl; have hcz23_2 : w20.cell? ⟨gb413, 2, none⟩ = some (.slice none 0 0) := (blk_cell BK413.out 2).trans rfl; have hcz23_3 : w20.cell? ⟨gb413, 3, none⟩ = some (.int .i64 0) := (blk_cell BK413.out 3).trans rfl; have hfz23_0 := blk_frozen BK413.out 0; have hfz23_1 := blk_frozen BK413.out 1; have hfz23_2 := blk_frozen BK413.out 2; have hfz23_3 := blk_frozen BK413.out 3; obtain ⟨Ao24, co24, eo24⟩ := Kd.S_slice HO407.out; subst eo24; obtain ⟨Ao25, co25, eo25⟩ := Kd.R_slice HO410.out; subst eo25))
  (try simp only [Act.put, List.setIfInBounds_toArray, List.set_cons_zero, List.set_cons_succ])
  go_cut [38] (fun v38 wc => ∃ (kq : Nat) (x38_5 : Bool), v38 = .bool x38_5 ∧ Aside0 (laws_FnAfterDeath.j0 kq t392 t402 x38_5 t384 t385 t388 t391 t394 t395 t398 t401 = some r) ∧ Aside0 (kq ≤ k) ∧ Aside0 (Kd.S (Kd.slice 3 (Kd.int .i64)) 23 wc w.heap.size (fun k_ => some k_ ≠ ((.slice Ao11 t388.length co11) : Value).ownBlock ∧ some k_ ≠ ((.slice Ao17 t398.length co17) : Value).ownBlock ∧ some k_ ≠ ((.slice Ao24 t405.length co24) : Value).ownBlock ∧ some k_ ≠ ((.slice Ao25 t408.length co25) : Value).ownBlock) (.slice Ao10 t385.length co10) t385) ∧ Aside0 (Kd.R (Kd.int .i64) 3 wc w.heap.size (fun k_ => some k_ ≠ ((.slice Ao17 t398.length co17) : Value).ownBlock ∧ some k_ ≠ ((.slice Ao25 t408.length co25) : Value).ownBlock) (.slice Ao11 t388.length co11) t388) ∧ Aside0 (Kd.V (Kd.slice 3 (Kd.int .i64)) 23 wc w.heap.size (fun k_ => some k_ ≠ ((.slice Ao10 t385.length co10) : Value).ownBlock ∧ some k_ ≠ ((.slice Ao11 t388.length co11) : Value).ownBlock ∧ some k_ ≠ ((.slice Ao17 t398.length co17) : Value).ownBlock ∧ some k_ ≠ ((.slice Ao24 t405.length co24) : Value).ownBlock ∧ some k_ ≠ ((.slice Ao25 t408.length co25) : Value).ownBlock ∧ k_ ≠ gb393 ∧ k_ ≠ gb403 ∧ k_ ≠ gb413) (.slice Ao16 t395.length co16) t395) ∧ Aside0 (Kd.R (Kd.int .i64) 3 wc w.heap.size (fun k_ => some k_ ≠ ((.slice Ao11 t388.length co11) : Value).ownBlock ∧ some k_ ≠ ((.slice Ao25 t408.length co25) : Value).ownBlock) (.slice Ao17 t398.length co17) t398) ∧ Aside0 (Kd.S (Kd.slice 3 (Kd.int .i64)) 23 wc w.heap.size (fun k_ => some k_ ≠ ((.slice Ao10 t385.length co10) : Value).ownBlock ∧ some k_ ≠ ((.slice Ao11 t388.length co11) : Value).ownBlock ∧ some k_ ≠ ((.slice Ao17 t398.length co17) : Value).ownBlock ∧ some k_ ≠ ((.slice Ao25 t408.length co25) : Value).ownBlock) (.slice Ao24 t405.length co24) t405) ∧ Aside0 (Kd.R (Kd.int .i64) 3 wc w.heap.size (fun k_ => some k_ ≠ ((.slice Ao11 t388.length co11) : Value).ownBlock ∧ some k_ ≠ ((.slice Ao17 t398.length co17) : Value).ownBlock) (.slice Ao25 t408.length co25) t408) ∧ Aside0 (wc.heap[gb393]? = some (.cells #[.int .i64 t384, (.slice Ao10 t385.length co10), (.slice Ao11 t388.length co11), .int .i64 t391] 28 (0, 0))) ∧ Aside0 (wc.heap[gb403]? = some (.cells #[.int .i64 t394, (.slice Ao16 t395.length co16), (.slice Ao17 t398.length co17), .int .i64 t401] 28 (0, 0))) ∧ Aside0 (wc.heap[gb413]? = some (.cells #[.int .i64 t404, (.slice Ao24 t405.length co24), (.slice Ao25 t408.length co25), .int .i64 t411] 28 (0, 0))) ∧ Aside0 (Below w.heap.size w wc))
  case first =>
   have H := HC6.out
   clear HC6
   replace H := Option.bind_eq_some_iff.mp H
   obtain ⟨t414, A260, H⟩ := H
   replace H : (if t414 = true then (laws_FnAfterDeath.j0 k t392 t402 (t402 != t412) t384 t385 t388 t391 t394 t395 t398 t401) else (laws_FnAfterDeath.j0 k t392 t402 true t384 t385 t388 t391 t394 t395 t398 t401)) = some r := H
   have A26 := Aside0.mk A260
   clear A260
   by_cases c27 : t414 = true
   ·subst c27
    have H1 : (laws_FnAfterDeath.j0 k t392 t402 (t402 != t412) t384 t385 t388 t391 t394 t395 t398 t401) = some r := by rw [if_pos rfl] at H; exact H
    clear H
    have H := H1
    clear H1
    have H' := Aside0.mk H
    clear H
    have hnb28 := NB403_393.out
    have hnc28 := NB393_403.out
    have hnb29 := NB403_413.out
    have hnc29 := NB413_403.out
    have hcz30_0 : w20.cell? ⟨gb403, 0, none⟩ = some (.int .i64 t394) := (blk_cell BK403.out 0).trans rfl
    have hcz30_1 : w20.cell? ⟨gb403, 1, none⟩ = some (.slice Ao16 t395.length co16) := (blk_cell BK403.out 1).trans rfl
    have hcz30_2 : w20.cell? ⟨gb403, 2, none⟩ = some (.slice Ao17 t398.length co17) := (blk_cell BK403.out 2).trans rfl
    have hcz30_3 : w20.cell? ⟨gb403, 3, none⟩ = some (.int .i64 t401) := (blk_cell BK403.out 3).trans rfl
    have hfz30_0 := blk_frozen BK403.out 0
    have hfz30_1 := blk_frozen BK403.out 1
    have hfz30_2 := blk_frozen BK403.out 2
    have hfz30_3 := blk_frozen BK403.out 3
    have hnb31 := NB413_393.out
    have hnc31 := NB393_413.out
    have hcz32_0 : w20.cell? ⟨gb413, 0, none⟩ = some (.int .i64 0) := (blk_cell BK413.out 0).trans rfl
    have hcz32_1 : w20.cell? ⟨gb413, 1, none⟩ = some (.slice none 0 0) := (blk_cell BK413.out 1).trans rfl
    have hcz32_2 : w20.cell? ⟨gb413, 2, none⟩ = some (.slice none 0 0) := (blk_cell BK413.out 2).trans rfl
    have hcz32_3 : w20.cell? ⟨gb413, 3, none⟩ = some (.int .i64 0) := (blk_cell BK413.out 3).trans rfl
    have hfz32_0 := blk_frozen BK413.out 0
    have hfz32_1 := blk_frozen BK413.out 1
    have hfz32_2 := blk_frozen BK413.out 2
    have hfz32_3 := blk_frozen BK413.out 3
    go_wp2_with (first | ((with_reducible refine gate_callee (f := 35) rfl ?_); refine goesL_ (some 32) rfl rfl Try.func35 kr rfl #[.agg #[.int .i64 t394, .slice Ao16 t395.length co16, .slice Ao17 t398.length co17, .int .i64 t401], .agg #[.int .i64 t404, .slice Ao24 t405.length co24, .slice Ao25 t408.length co25, .int .i64 t411]] rfl lm ?_; (with_reducible refine (laws_sameCourt.calls k t394 _ _ t395 _ _ t398 t401 t404 _ _ t405 _ _ t408 t411 true _ ?side1 ?side2 ?side3 ?side4 ?side5 ?side6 ?side7 ?side8 A26.out).mono ?_); (case side1 => refine (Kd.V_reads' (e := 23) (base := w.heap.size) (ok := fun k_ => (((((some k_ ≠ (.slice Ao17 t398.length co17 : Value).ownBlock ∧ (some k_ ≠ (.slice Ao10 t385.length co10 : Value).ownBlock ∧ (some k_ ≠ (.slice Ao11 t388.length co11 : Value).ownBlock ∧ k_ ≠ gb393))) ∧ k_ ≠ gb403) ∧ some k_ ≠ (.slice Ao24 t405.length co24 : Value).ownBlock) ∧ some k_ ≠ (.slice Ao25 t408.length co25 : Value).ownBlock) ∧ k_ ≠ gb413)) (n := t395.length) (c := co16) ?_).2.2; exact (by (with_reducible repeat (first | apply Kd.V_alloc | apply Kd.V_drewN | apply Kd.V_drew)); exact (Kd.V_mono (Kd.V_far (p := ⟨gb413, 3, none⟩) (Kd.V_far (p := ⟨gb413, 2, none⟩) (Kd.V_far (p := ⟨gb413, 1, none⟩) (Kd.V_far (p := ⟨gb413, 0, none⟩) (Kd.V_mono HO397.out (fun k_ hk => (⟨hk, hk.2⟩ : _ ∧ k_ ≠ gb413))) (fun _ hk => hk.2) (.int .i64 t404)) (fun _ hk => hk.2) (.slice Ao24 t405.length co24)) (fun _ hk => hk.2) (.slice Ao25 t408.length co25)) (fun _ hk => hk.2) (.int .i64 t411)) (fun _ h_ => h_.1)))); (case side2 => exact (Kd.V_reads' HO397.out).2.1); (case side3 => refine (Kd.R_reads' (e := 3) (base := w.heap.size) (ok := fun k_ => ((True ∧ some k_ ≠ (.slice Ao11 t388.length co11 : Value).ownBlock) ∧ some k_ ≠ (.slice Ao25 t408.length co25 : Value).ownBlock)) (n := t398.length) (c := co17) ?_).2.2; exact (by (with_reducible repeat (first | apply Kd.R_alloc | apply Kd.R_drewN | apply Kd.R_drew)); exact (Kd.R_mono (Kd.R_far (p := ⟨gb413, 3, none⟩) (Kd.R_far (p := ⟨gb413, 2, none⟩) (Kd.R_far (p := ⟨gb413, 1, none⟩) (Kd.R_far (p := ⟨gb413, 0, none⟩) (Kd.R_types HO400.out BK413.out (by decide)) (fun _ hk => hk.2) (.int .i64 t404)) (fun _ hk => hk.2) (.slice Ao24 t405.length co24)) (fun _ hk => hk.2) (.slice Ao25 t408.length co25)) (fun _ hk => hk.2) (.int .i64 t411)) (fun _ h_ => h_.1)))); (case side4 => exact (Kd.R_reads' HO400.out).2.1); (case side5 => refine (Kd.S_reads' (e := 23) (base := w.heap.size) (ok := fun k_ => (((some k_ ≠ (.slice Ao25 t408.length co25 : Value).ownBlock ∧ some k_ ≠ (.slice Ao10 t385.length co10 : Value).ownBlock) ∧ some k_ ≠ (.slice Ao11 t388.length co11 : Value).ownBlock) ∧ some k_ ≠ (.slice Ao17 t398.length co17 : Value).ownBlock)) (n := t405.length) (c := co24) ?_).2.2; exact (by (with_reducible repeat (first | apply Kd.S_alloc | apply Kd.S_drewN | apply Kd.S_drew)); exact (Kd.S_mono (Kd.S_far (p := ⟨gb413, 3, none⟩) (Kd.S_far (p := ⟨gb413, 2, none⟩) (Kd.S_far (p := ⟨gb413, 1, none⟩) (Kd.S_far (p := ⟨gb413, 0, none⟩) (Kd.S_types HO407.out BK413.out (by decide)) (fun _ hk => hk.2) (.int .i64 t404)) (fun _ hk => hk.2) (.slice Ao24 t405.length co24)) (fun _ hk => hk.2) (.slice Ao25 t408.length co25)) (fun _ hk => hk.2) (.int .i64 t411)) (fun _ h_ => h_.1)))); (case side6 => exact (Kd.S_reads' HO407.out).2.1); (case side7 => refine (Kd.R_reads' (e := 3) (base := w.heap.size) (ok := fun k_ => ((True ∧ some k_ ≠ (.slice Ao11 t388.length co11 : Value).ownBlock) ∧ some k_ ≠ (.slice Ao17 t398.length co17 : Value).ownBlock)) (n := t408.length) (c := co25) ?_).2.2; exact (by (with_reducible repeat (first | apply Kd.R_alloc | apply Kd.R_drewN | apply Kd.R_drew)); exact (Kd.R_mono (Kd.R_far (p := ⟨gb413, 3, none⟩) (Kd.R_far (p := ⟨gb413, 2, none⟩) (Kd.R_far (p := ⟨gb413, 1, none⟩) (Kd.R_far (p := ⟨gb413, 0, none⟩) (Kd.R_types HO410.out BK413.out (by decide)) (fun _ hk => hk.2) (.int .i64 t404)) (fun _ hk => hk.2) (.slice Ao24 t405.length co24)) (fun _ hk => hk.2) (.slice Ao25 t408.length co25)) (fun _ hk => hk.2) (.int .i64 t411)) (fun _ h_ => h_.1)))); (case side8 => exact (Kd.R_reads' HO410.out).2.1); rintro e w33 ⟨rfl, hb⟩; refine ⟨_, rfl, ?_⟩; have n0_ := Aside0.mk (Kd.S_below (by (with_reducible repeat (first | apply Kd.S_alloc | apply Kd.S_drewN | apply Kd.S_drew)); exact (Kd.S_mono (Kd.S_far (p := ⟨gb413, 3, none⟩) (Kd.S_far (p := ⟨gb413, 2, none⟩) (Kd.S_far (p := ⟨gb413, 1, none⟩) (Kd.S_far (p := ⟨gb413, 0, none⟩) (Kd.S_types HO387.out BK413.out (by decide)) (fun _ hk => hk.2) (.int .i64 t404)) (fun _ hk => hk.2) (.slice Ao24 t405.length co24)) (fun _ hk => hk.2) (.slice Ao25 t408.length co25)) (fun _ hk => hk.2) (.int .i64 t411)) (fun _ h_ => h_.1))) hb); have n1_ := Aside0.mk (Kd.R_below (by (with_reducible repeat (first | apply Kd.R_alloc | apply Kd.R_drewN | apply Kd.R_drew)); exact (Kd.R_mono (Kd.R_far (p := ⟨gb413, 3, none⟩) (Kd.R_far (p := ⟨gb413, 2, none⟩) (Kd.R_far (p := ⟨gb413, 1, none⟩) (Kd.R_far (p := ⟨gb413, 0, none⟩) (Kd.R_types HO390.out BK413.out (by decide)) (fun _ hk => hk.2) (.int .i64 t404)) (fun _ hk => hk.2) (.slice Ao24 t405.length co24)) (fun _ hk => hk.2) (.slice Ao25 t408.length co25)) (fun _ hk => hk.2) (.int .i64 t411)) (fun _ h_ => h_.1))) hb); have n2_ := Aside0.mk (Kd.V_below (by (with_reducible repeat (first | apply Kd.V_alloc | apply Kd.V_drewN | apply Kd.V_drew)); exact (Kd.V_mono (Kd.V_far (p := ⟨gb413, 3, none⟩) (Kd.V_far (p := ⟨gb413, 2, none⟩) (Kd.V_far (p := ⟨gb413, 1, none⟩) (Kd.V_far (p := ⟨gb413, 0, none⟩) (Kd.V_mono HO397.out (fun k_ hk => (⟨hk, hk.2⟩ : _ ∧ k_ ≠ gb413))) (fun _ hk => hk.2) (.int .i64 t404)) (fun _ hk => hk.2) (.slice Ao24 t405.length co24)) (fun _ hk => hk.2) (.slice Ao25 t408.length co25)) (fun _ hk => hk.2) (.int .i64 t411)) (fun _ h_ => h_.1))) hb); have n3_ := Aside0.mk (Kd.R_below (by (with_reducible repeat (first | apply Kd.R_alloc | apply Kd.R_drewN | apply Kd.R_drew)); exact (Kd.R_mono (Kd.R_far (p := ⟨gb413, 3, none⟩) (Kd.R_far (p := ⟨gb413, 2, none⟩) (Kd.R_far (p := ⟨gb413, 1, none⟩) (Kd.R_far (p := ⟨gb413, 0, none⟩) (Kd.R_types HO400.out BK413.out (by decide)) (fun _ hk => hk.2) (.int .i64 t404)) (fun _ hk => hk.2) (.slice Ao24 t405.length co24)) (fun _ hk => hk.2) (.slice Ao25 t408.length co25)) (fun _ hk => hk.2) (.int .i64 t411)) (fun _ h_ => h_.1))) hb); have n4_ := Aside0.mk (Kd.S_below (by (with_reducible repeat (first | apply Kd.S_alloc | apply Kd.S_drewN | apply Kd.S_drew)); exact (Kd.S_mono (Kd.S_far (p := ⟨gb413, 3, none⟩) (Kd.S_far (p := ⟨gb413, 2, none⟩) (Kd.S_far (p := ⟨gb413, 1, none⟩) (Kd.S_far (p := ⟨gb413, 0, none⟩) (Kd.S_types HO407.out BK413.out (by decide)) (fun _ hk => hk.2) (.int .i64 t404)) (fun _ hk => hk.2) (.slice Ao24 t405.length co24)) (fun _ hk => hk.2) (.slice Ao25 t408.length co25)) (fun _ hk => hk.2) (.int .i64 t411)) (fun _ h_ => h_.1))) hb); have n5_ := Aside0.mk (Kd.R_below (by (with_reducible repeat (first | apply Kd.R_alloc | apply Kd.R_drewN | apply Kd.R_drew)); exact (Kd.R_mono (Kd.R_far (p := ⟨gb413, 3, none⟩) (Kd.R_far (p := ⟨gb413, 2, none⟩) (Kd.R_far (p := ⟨gb413, 1, none⟩) (Kd.R_far (p := ⟨gb413, 0, none⟩) (Kd.R_types HO410.out BK413.out (by decide)) (fun _ hk => hk.2) (.int .i64 t404)) (fun _ hk => hk.2) (.slice Ao24 t405.length co24)) (fun _ hk => hk.2) (.slice Ao25 t408.length co25)) (fun _ hk => hk.2) (.int .i64 t411)) (fun _ h_ => h_.1))) hb); have n6_ := Aside0.mk (blk_below (g := gb393) (o := .cells #[.int .i64 t384, .slice Ao10 t385.length co10, .slice Ao11 t388.length co11, .int .i64 t391] 28 (0, 0)) (by (with_reducible repeat (first | refine blk_drewN ?_ _ | refine blk_drew ?_ | refine blk_alloc ?_ _)); refine blk_far ?_ NB393_413.out _; (with_reducible repeat (first | refine blk_drewN ?_ _ | refine blk_drew ?_ | refine blk_alloc ?_ _)); refine blk_far ?_ NB393_413.out _; (with_reducible repeat (first | refine blk_drewN ?_ _ | refine blk_drew ?_ | refine blk_alloc ?_ _)); refine blk_far ?_ NB393_413.out _; (with_reducible repeat (first | refine blk_drewN ?_ _ | refine blk_drew ?_ | refine blk_alloc ?_ _)); refine blk_far ?_ NB393_413.out _; (with_reducible repeat (first | refine blk_drewN ?_ _ | refine blk_drew ?_ | refine blk_alloc ?_ _)); exact BK393.out) hb); have n7_ := Aside0.mk (blk_below (g := gb403) (o := .cells #[.int .i64 t394, .slice Ao16 t395.length co16, .slice Ao17 t398.length co17, .int .i64 t401] 28 (0, 0)) (by (with_reducible repeat (first | refine blk_drewN ?_ _ | refine blk_drew ?_ | refine blk_alloc ?_ _)); refine blk_far ?_ NB403_413.out _; (with_reducible repeat (first | refine blk_drewN ?_ _ | refine blk_drew ?_ | refine blk_alloc ?_ _)); refine blk_far ?_ NB403_413.out _; (with_reducible repeat (first | refine blk_drewN ?_ _ | refine blk_drew ?_ | refine blk_alloc ?_ _)); refine blk_far ?_ NB403_413.out _; (with_reducible repeat (first | refine blk_drewN ?_ _ | refine blk_drew ?_ | refine blk_alloc ?_ _)); refine blk_far ?_ NB403_413.out _; (with_reducible repeat (first | refine blk_drewN ?_ _ | refine blk_drew ?_ | refine blk_alloc ?_ _)); exact BK403.out) hb); have n8_ := Aside0.mk (blk_below (g := gb413) (o := .cells #[.int .i64 t404, .slice Ao24 t405.length co24, .slice Ao25 t408.length co25, .int .i64 t411] 28 (0, 0)) (by (with_reducible repeat (first | refine blk_drewN ?_ _ | refine blk_drew ?_ | refine blk_alloc ?_ _)); refine blk_put (cs := #[.int .i64 t404, .slice Ao24 t405.length co24, .slice Ao25 t408.length co25, .int .i64 0]) ?_ 3 _ rfl; (with_reducible repeat (first | refine blk_drewN ?_ _ | refine blk_drew ?_ | refine blk_alloc ?_ _)); refine blk_put (cs := #[.int .i64 t404, .slice Ao24 t405.length co24, .slice none 0 0, .int .i64 0]) ?_ 2 _ rfl; (with_reducible repeat (first | refine blk_drewN ?_ _ | refine blk_drew ?_ | refine blk_alloc ?_ _)); refine blk_put (cs := #[.int .i64 t404, .slice none 0 0, .slice none 0 0, .int .i64 0]) ?_ 1 _ rfl; (with_reducible repeat (first | refine blk_drewN ?_ _ | refine blk_drew ?_ | refine blk_alloc ?_ _)); refine blk_put (cs := #[.int .i64 0, .slice none 0 0, .slice none 0 0, .int .i64 0]) ?_ 0 _ rfl; (with_reducible repeat (first | refine blk_drewN ?_ _ | refine blk_drew ?_ | refine blk_alloc ?_ _)); exact BK413.out) hb); have n9_ := Aside0.mk (below_step bh hb); clear HO387; clear HO390; clear HO397; clear HO400; clear HO407; clear HO410; clear BK393; clear BK403; clear BK413; clear HB; have HO387 := n0_; have HO390 := n1_; have HO397 := n2_; have HO400 := n3_; have HO407 := n4_; have HO410 := n5_; have BK393 := n6_; have BK403 := n7_; have BK413 := n8_; have HB := n9_; clear n0_ n1_ n2_ n3_ n4_ n5_ n6_ n7_ n8_ n9_; (try clear hb); (try clear hb2); (try clear hk); (try clear hi)))
    go_meet
    case rel => exact ⟨_, ((t402 != t412)), (by first | rfl | (simp; done) | (simp [*]; done)), H', ⟨by first | omega | exact Nat.le_refl _⟩, ⟨by (with_reducible repeat (first | apply Kd.S_alloc | apply Kd.S_drewN | apply Kd.S_drew)); exact Kd.S_mono HO387.out (fun _ hk => ⟨hk.1.1.1, ⟨hk.1.1.2, ⟨hk.1.2, hk.2⟩⟩⟩)⟩, ⟨by (with_reducible repeat (first | apply Kd.R_alloc | apply Kd.R_drewN | apply Kd.R_drew)); exact Kd.R_mono HO390.out (fun _ hk => ⟨hk.1.2, hk.2⟩)⟩, ⟨by (with_reducible repeat (first | apply Kd.V_alloc | apply Kd.V_drewN | apply Kd.V_drew)); exact Kd.V_mono HO397.out (fun _ hk => ⟨hk.1.1.1.1.2.1, ⟨hk.1.1.1.1.2.2.1, ⟨hk.1.1.1.1.1, ⟨hk.1.1.2, ⟨hk.1.2, ⟨hk.1.1.1.1.2.2.2, ⟨hk.1.1.1.2, hk.2⟩⟩⟩⟩⟩⟩⟩)⟩, ⟨by (with_reducible repeat (first | apply Kd.R_alloc | apply Kd.R_drewN | apply Kd.R_drew)); exact Kd.R_mono HO400.out (fun _ hk => ⟨hk.1.2, hk.2⟩)⟩, ⟨by (with_reducible repeat (first | apply Kd.S_alloc | apply Kd.S_drewN | apply Kd.S_drew)); exact Kd.S_mono HO407.out (fun _ hk => ⟨hk.1.1.2, ⟨hk.1.2, ⟨hk.2, hk.1.1.1⟩⟩⟩)⟩, ⟨by (with_reducible repeat (first | apply Kd.R_alloc | apply Kd.R_drewN | apply Kd.R_drew)); exact Kd.R_mono HO410.out (fun _ hk => ⟨hk.1.2, hk.2⟩)⟩, ⟨by (with_reducible repeat (first | refine blk_drewN ?_ _ | refine blk_drew ?_ | refine blk_alloc ?_ _)); exact BK393.out⟩, ⟨by (with_reducible repeat (first | refine blk_drewN ?_ _ | refine blk_drew ?_ | refine blk_alloc ?_ _)); exact BK403.out⟩, ⟨by (with_reducible repeat (first | refine blk_drewN ?_ _ | refine blk_drew ?_ | refine blk_alloc ?_ _)); exact BK413.out⟩, ⟨by repeat (first | (with_reducible first | exact HB.out | apply below_alloc | apply pw_below_drewN | apply below_drew1 | refine below_set ?_ GE393.out | refine below_set ?_ GE403.out | refine below_set ?_ GE413.out) | exact HB.out)⟩⟩
   ·replace c27 := Bool.eq_false_iff.mpr c27
    subst c27
    have H1 : (laws_FnAfterDeath.j0 k t392 t402 true t384 t385 t388 t391 t394 t395 t398 t401) = some r := by rw [if_neg (show ¬ (false = true) by decide)] at H; exact H
    clear H
    have H := H1
    clear H1
    have H' := Aside0.mk H
    clear H
    have hnb34 := NB403_393.out
    have hnc34 := NB393_403.out
    have hnb35 := NB403_413.out
    have hnc35 := NB413_403.out
    have hcz36_0 : w20.cell? ⟨gb403, 0, none⟩ = some (.int .i64 t394) := (blk_cell BK403.out 0).trans rfl
    have hcz36_1 : w20.cell? ⟨gb403, 1, none⟩ = some (.slice Ao16 t395.length co16) := (blk_cell BK403.out 1).trans rfl
    have hcz36_2 : w20.cell? ⟨gb403, 2, none⟩ = some (.slice Ao17 t398.length co17) := (blk_cell BK403.out 2).trans rfl
    have hcz36_3 : w20.cell? ⟨gb403, 3, none⟩ = some (.int .i64 t401) := (blk_cell BK403.out 3).trans rfl
    have hfz36_0 := blk_frozen BK403.out 0
    have hfz36_1 := blk_frozen BK403.out 1
    have hfz36_2 := blk_frozen BK403.out 2
    have hfz36_3 := blk_frozen BK403.out 3
    have hnb37 := NB413_393.out
    have hnc37 := NB393_413.out
    have hcz38_0 : w20.cell? ⟨gb413, 0, none⟩ = some (.int .i64 0) := (blk_cell BK413.out 0).trans rfl
    have hcz38_1 : w20.cell? ⟨gb413, 1, none⟩ = some (.slice none 0 0) := (blk_cell BK413.out 1).trans rfl
    have hcz38_2 : w20.cell? ⟨gb413, 2, none⟩ = some (.slice none 0 0) := (blk_cell BK413.out 2).trans rfl
    have hcz38_3 : w20.cell? ⟨gb413, 3, none⟩ = some (.int .i64 0) := (blk_cell BK413.out 3).trans rfl
    have hfz38_0 := blk_frozen BK413.out 0
    have hfz38_1 := blk_frozen BK413.out 1
    have hfz38_2 := blk_frozen BK413.out 2
    have hfz38_3 := blk_frozen BK413.out 3
    go_wp2_with (first | ((with_reducible refine gate_callee (f := 35) rfl ?_); refine goesL_ (some 32) rfl rfl Try.func35 kr rfl #[.agg #[.int .i64 t394, .slice Ao16 t395.length co16, .slice Ao17 t398.length co17, .int .i64 t401], .agg #[.int .i64 t404, .slice Ao24 t405.length co24, .slice Ao25 t408.length co25, .int .i64 t411]] rfl lm ?_; (with_reducible refine (laws_sameCourt.calls k t394 _ _ t395 _ _ t398 t401 t404 _ _ t405 _ _ t408 t411 false _ ?side1 ?side2 ?side3 ?side4 ?side5 ?side6 ?side7 ?side8 A26.out).mono ?_); (case side1 => refine (Kd.V_reads' (e := 23) (base := w.heap.size) (ok := fun k_ => (((((some k_ ≠ (.slice Ao17 t398.length co17 : Value).ownBlock ∧ (some k_ ≠ (.slice Ao10 t385.length co10 : Value).ownBlock ∧ (some k_ ≠ (.slice Ao11 t388.length co11 : Value).ownBlock ∧ k_ ≠ gb393))) ∧ k_ ≠ gb403) ∧ some k_ ≠ (.slice Ao24 t405.length co24 : Value).ownBlock) ∧ some k_ ≠ (.slice Ao25 t408.length co25 : Value).ownBlock) ∧ k_ ≠ gb413)) (n := t395.length) (c := co16) ?_).2.2; exact (by (with_reducible repeat (first | apply Kd.V_alloc | apply Kd.V_drewN | apply Kd.V_drew)); exact (Kd.V_mono (Kd.V_far (p := ⟨gb413, 3, none⟩) (Kd.V_far (p := ⟨gb413, 2, none⟩) (Kd.V_far (p := ⟨gb413, 1, none⟩) (Kd.V_far (p := ⟨gb413, 0, none⟩) (Kd.V_mono HO397.out (fun k_ hk => (⟨hk, hk.2⟩ : _ ∧ k_ ≠ gb413))) (fun _ hk => hk.2) (.int .i64 t404)) (fun _ hk => hk.2) (.slice Ao24 t405.length co24)) (fun _ hk => hk.2) (.slice Ao25 t408.length co25)) (fun _ hk => hk.2) (.int .i64 t411)) (fun _ h_ => h_.1)))); (case side2 => exact (Kd.V_reads' HO397.out).2.1); (case side3 => refine (Kd.R_reads' (e := 3) (base := w.heap.size) (ok := fun k_ => ((True ∧ some k_ ≠ (.slice Ao11 t388.length co11 : Value).ownBlock) ∧ some k_ ≠ (.slice Ao25 t408.length co25 : Value).ownBlock)) (n := t398.length) (c := co17) ?_).2.2; exact (by (with_reducible repeat (first | apply Kd.R_alloc | apply Kd.R_drewN | apply Kd.R_drew)); exact (Kd.R_mono (Kd.R_far (p := ⟨gb413, 3, none⟩) (Kd.R_far (p := ⟨gb413, 2, none⟩) (Kd.R_far (p := ⟨gb413, 1, none⟩) (Kd.R_far (p := ⟨gb413, 0, none⟩) (Kd.R_types HO400.out BK413.out (by decide)) (fun _ hk => hk.2) (.int .i64 t404)) (fun _ hk => hk.2) (.slice Ao24 t405.length co24)) (fun _ hk => hk.2) (.slice Ao25 t408.length co25)) (fun _ hk => hk.2) (.int .i64 t411)) (fun _ h_ => h_.1)))); (case side4 => exact (Kd.R_reads' HO400.out).2.1); (case side5 => refine (Kd.S_reads' (e := 23) (base := w.heap.size) (ok := fun k_ => (((some k_ ≠ (.slice Ao25 t408.length co25 : Value).ownBlock ∧ some k_ ≠ (.slice Ao10 t385.length co10 : Value).ownBlock) ∧ some k_ ≠ (.slice Ao11 t388.length co11 : Value).ownBlock) ∧ some k_ ≠ (.slice Ao17 t398.length co17 : Value).ownBlock)) (n := t405.length) (c := co24) ?_).2.2; exact (by (with_reducible repeat (first | apply Kd.S_alloc | apply Kd.S_drewN | apply Kd.S_drew)); exact (Kd.S_mono (Kd.S_far (p := ⟨gb413, 3, none⟩) (Kd.S_far (p := ⟨gb413, 2, none⟩) (Kd.S_far (p := ⟨gb413, 1, none⟩) (Kd.S_far (p := ⟨gb413, 0, none⟩) (Kd.S_types HO407.out BK413.out (by decide)) (fun _ hk => hk.2) (.int .i64 t404)) (fun _ hk => hk.2) (.slice Ao24 t405.length co24)) (fun _ hk => hk.2) (.slice Ao25 t408.length co25)) (fun _ hk => hk.2) (.int .i64 t411)) (fun _ h_ => h_.1)))); (case side6 => exact (Kd.S_reads' HO407.out).2.1); (case side7 => refine (Kd.R_reads' (e := 3) (base := w.heap.size) (ok := fun k_ => ((True ∧ some k_ ≠ (.slice Ao11 t388.length co11 : Value).ownBlock) ∧ some k_ ≠ (.slice Ao17 t398.length co17 : Value).ownBlock)) (n := t408.length) (c := co25) ?_).2.2; exact (by (with_reducible repeat (first | apply Kd.R_alloc | apply Kd.R_drewN | apply Kd.R_drew)); exact (Kd.R_mono (Kd.R_far (p := ⟨gb413, 3, none⟩) (Kd.R_far (p := ⟨gb413, 2, none⟩) (Kd.R_far (p := ⟨gb413, 1, none⟩) (Kd.R_far (p := ⟨gb413, 0, none⟩) (Kd.R_types HO410.out BK413.out (by decide)) (fun _ hk => hk.2) (.int .i64 t404)) (fun _ hk => hk.2) (.slice Ao24 t405.length co24)) (fun _ hk => hk.2) (.slice Ao25 t408.length co25)) (fun _ hk => hk.2) (.int .i64 t411)) (fun _ h_ => h_.1)))); (case side8 => exact (Kd.R_reads' HO410.out).2.1); rintro e w39 ⟨rfl, hb⟩; refine ⟨_, rfl, ?_⟩; have n0_ := Aside0.mk (Kd.S_below (by (with_reducible repeat (first | apply Kd.S_alloc | apply Kd.S_drewN | apply Kd.S_drew)); exact (Kd.S_mono (Kd.S_far (p := ⟨gb413, 3, none⟩) (Kd.S_far (p := ⟨gb413, 2, none⟩) (Kd.S_far (p := ⟨gb413, 1, none⟩) (Kd.S_far (p := ⟨gb413, 0, none⟩) (Kd.S_types HO387.out BK413.out (by decide)) (fun _ hk => hk.2) (.int .i64 t404)) (fun _ hk => hk.2) (.slice Ao24 t405.length co24)) (fun _ hk => hk.2) (.slice Ao25 t408.length co25)) (fun _ hk => hk.2) (.int .i64 t411)) (fun _ h_ => h_.1))) hb); have n1_ := Aside0.mk (Kd.R_below (by (with_reducible repeat (first | apply Kd.R_alloc | apply Kd.R_drewN | apply Kd.R_drew)); exact (Kd.R_mono (Kd.R_far (p := ⟨gb413, 3, none⟩) (Kd.R_far (p := ⟨gb413, 2, none⟩) (Kd.R_far (p := ⟨gb413, 1, none⟩) (Kd.R_far (p := ⟨gb413, 0, none⟩) (Kd.R_types HO390.out BK413.out (by decide)) (fun _ hk => hk.2) (.int .i64 t404)) (fun _ hk => hk.2) (.slice Ao24 t405.length co24)) (fun _ hk => hk.2) (.slice Ao25 t408.length co25)) (fun _ hk => hk.2) (.int .i64 t411)) (fun _ h_ => h_.1))) hb); have n2_ := Aside0.mk (Kd.V_below (by (with_reducible repeat (first | apply Kd.V_alloc | apply Kd.V_drewN | apply Kd.V_drew)); exact (Kd.V_mono (Kd.V_far (p := ⟨gb413, 3, none⟩) (Kd.V_far (p := ⟨gb413, 2, none⟩) (Kd.V_far (p := ⟨gb413, 1, none⟩) (Kd.V_far (p := ⟨gb413, 0, none⟩) (Kd.V_mono HO397.out (fun k_ hk => (⟨hk, hk.2⟩ : _ ∧ k_ ≠ gb413))) (fun _ hk => hk.2) (.int .i64 t404)) (fun _ hk => hk.2) (.slice Ao24 t405.length co24)) (fun _ hk => hk.2) (.slice Ao25 t408.length co25)) (fun _ hk => hk.2) (.int .i64 t411)) (fun _ h_ => h_.1))) hb); have n3_ := Aside0.mk (Kd.R_below (by (with_reducible repeat (first | apply Kd.R_alloc | apply Kd.R_drewN | apply Kd.R_drew)); exact (Kd.R_mono (Kd.R_far (p := ⟨gb413, 3, none⟩) (Kd.R_far (p := ⟨gb413, 2, none⟩) (Kd.R_far (p := ⟨gb413, 1, none⟩) (Kd.R_far (p := ⟨gb413, 0, none⟩) (Kd.R_types HO400.out BK413.out (by decide)) (fun _ hk => hk.2) (.int .i64 t404)) (fun _ hk => hk.2) (.slice Ao24 t405.length co24)) (fun _ hk => hk.2) (.slice Ao25 t408.length co25)) (fun _ hk => hk.2) (.int .i64 t411)) (fun _ h_ => h_.1))) hb); have n4_ := Aside0.mk (Kd.S_below (by (with_reducible repeat (first | apply Kd.S_alloc | apply Kd.S_drewN | apply Kd.S_drew)); exact (Kd.S_mono (Kd.S_far (p := ⟨gb413, 3, none⟩) (Kd.S_far (p := ⟨gb413, 2, none⟩) (Kd.S_far (p := ⟨gb413, 1, none⟩) (Kd.S_far (p := ⟨gb413, 0, none⟩) (Kd.S_types HO407.out BK413.out (by decide)) (fun _ hk => hk.2) (.int .i64 t404)) (fun _ hk => hk.2) (.slice Ao24 t405.length co24)) (fun _ hk => hk.2) (.slice Ao25 t408.length co25)) (fun _ hk => hk.2) (.int .i64 t411)) (fun _ h_ => h_.1))) hb); have n5_ := Aside0.mk (Kd.R_below (by (with_reducible repeat (first | apply Kd.R_alloc | apply Kd.R_drewN | apply Kd.R_drew)); exact (Kd.R_mono (Kd.R_far (p := ⟨gb413, 3, none⟩) (Kd.R_far (p := ⟨gb413, 2, none⟩) (Kd.R_far (p := ⟨gb413, 1, none⟩) (Kd.R_far (p := ⟨gb413, 0, none⟩) (Kd.R_types HO410.out BK413.out (by decide)) (fun _ hk => hk.2) (.int .i64 t404)) (fun _ hk => hk.2) (.slice Ao24 t405.length co24)) (fun _ hk => hk.2) (.slice Ao25 t408.length co25)) (fun _ hk => hk.2) (.int .i64 t411)) (fun _ h_ => h_.1))) hb); have n6_ := Aside0.mk (blk_below (g := gb393) (o := .cells #[.int .i64 t384, .slice Ao10 t385.length co10, .slice Ao11 t388.length co11, .int .i64 t391] 28 (0, 0)) (by (with_reducible repeat (first | refine blk_drewN ?_ _ | refine blk_drew ?_ | refine blk_alloc ?_ _)); refine blk_far ?_ NB393_413.out _; (with_reducible repeat (first | refine blk_drewN ?_ _ | refine blk_drew ?_ | refine blk_alloc ?_ _)); refine blk_far ?_ NB393_413.out _; (with_reducible repeat (first | refine blk_drewN ?_ _ | refine blk_drew ?_ | refine blk_alloc ?_ _)); refine blk_far ?_ NB393_413.out _; (with_reducible repeat (first | refine blk_drewN ?_ _ | refine blk_drew ?_ | refine blk_alloc ?_ _)); refine blk_far ?_ NB393_413.out _; (with_reducible repeat (first | refine blk_drewN ?_ _ | refine blk_drew ?_ | refine blk_alloc ?_ _)); exact BK393.out) hb); have n7_ := Aside0.mk (blk_below (g := gb403) (o := .cells #[.int .i64 t394, .slice Ao16 t395.length co16, .slice Ao17 t398.length co17, .int .i64 t401] 28 (0, 0)) (by (with_reducible repeat (first | refine blk_drewN ?_ _ | refine blk_drew ?_ | refine blk_alloc ?_ _)); refine blk_far ?_ NB403_413.out _; (with_reducible repeat (first | refine blk_drewN ?_ _ | refine blk_drew ?_ | refine blk_alloc ?_ _)); refine blk_far ?_ NB403_413.out _; (with_reducible repeat (first | refine blk_drewN ?_ _ | refine blk_drew ?_ | refine blk_alloc ?_ _)); refine blk_far ?_ NB403_413.out _; (with_reducible repeat (first | refine blk_drewN ?_ _ | refine blk_drew ?_ | refine blk_alloc ?_ _)); refine blk_far ?_ NB403_413.out _; (with_reducible repeat (first | refine blk_drewN ?_ _ | refine blk_drew ?_ | refine blk_alloc ?_ _)); exact BK403.out) hb); have n8_ := Aside0.mk (blk_below (g := gb413) (o := .cells #[.int .i64 t404, .slice Ao24 t405.length co24, .slice Ao25 t408.length co25, .int .i64 t411] 28 (0, 0)) (by (with_reducible repeat (first | refine blk_drewN ?_ _ | refine blk_drew ?_ | refine blk_alloc ?_ _)); refine blk_put (cs := #[.int .i64 t404, .slice Ao24 t405.length co24, .slice Ao25 t408.length co25, .int .i64 0]) ?_ 3 _ rfl; (with_reducible repeat (first | refine blk_drewN ?_ _ | refine blk_drew ?_ | refine blk_alloc ?_ _)); refine blk_put (cs := #[.int .i64 t404, .slice Ao24 t405.length co24, .slice none 0 0, .int .i64 0]) ?_ 2 _ rfl; (with_reducible repeat (first | refine blk_drewN ?_ _ | refine blk_drew ?_ | refine blk_alloc ?_ _)); refine blk_put (cs := #[.int .i64 t404, .slice none 0 0, .slice none 0 0, .int .i64 0]) ?_ 1 _ rfl; (with_reducible repeat (first | refine blk_drewN ?_ _ | refine blk_drew ?_ | refine blk_alloc ?_ _)); refine blk_put (cs := #[.int .i64 0, .slice none 0 0, .slice none 0 0, .int .i64 0]) ?_ 0 _ rfl; (with_reducible repeat (first | refine blk_drewN ?_ _ | refine blk_drew ?_ | refine blk_alloc ?_ _)); exact BK413.out) hb); have n9_ := Aside0.mk (below_step bh hb); clear HO387; clear HO390; clear HO397; clear HO400; clear HO407; clear HO410; clear BK393; clear BK403; clear BK413; clear HB; have HO387 := n0_; have HO390 := n1_; have HO397 := n2_; have HO400 := n3_; have HO407 := n4_; have HO410 := n5_; have BK393 := n6_; have BK403 := n7_; have BK413 := n8_; have HB := n9_; clear n0_ n1_ n2_ n3_ n4_ n5_ n6_ n7_ n8_ n9_; (try clear hb); (try clear hb2); (try clear hk); (try clear hi)))
    go_meet
    case rel => exact ⟨_, (true), (by first | rfl | (simp; done) | (simp [*]; done)), H', ⟨by first | omega | exact Nat.le_refl _⟩, ⟨by (with_reducible repeat (first | apply Kd.S_alloc | apply Kd.S_drewN | apply Kd.S_drew)); exact Kd.S_mono HO387.out (fun _ hk => ⟨hk.1.1.1, ⟨hk.1.1.2, ⟨hk.1.2, hk.2⟩⟩⟩)⟩, ⟨by (with_reducible repeat (first | apply Kd.R_alloc | apply Kd.R_drewN | apply Kd.R_drew)); exact Kd.R_mono HO390.out (fun _ hk => ⟨hk.1.2, hk.2⟩)⟩, ⟨by (with_reducible repeat (first | apply Kd.V_alloc | apply Kd.V_drewN | apply Kd.V_drew)); exact Kd.V_mono HO397.out (fun _ hk => ⟨hk.1.1.1.1.2.1, ⟨hk.1.1.1.1.2.2.1, ⟨hk.1.1.1.1.1, ⟨hk.1.1.2, ⟨hk.1.2, ⟨hk.1.1.1.1.2.2.2, ⟨hk.1.1.1.2, hk.2⟩⟩⟩⟩⟩⟩⟩)⟩, ⟨by (with_reducible repeat (first | apply Kd.R_alloc | apply Kd.R_drewN | apply Kd.R_drew)); exact Kd.R_mono HO400.out (fun _ hk => ⟨hk.1.2, hk.2⟩)⟩, ⟨by (with_reducible repeat (first | apply Kd.S_alloc | apply Kd.S_drewN | apply Kd.S_drew)); exact Kd.S_mono HO407.out (fun _ hk => ⟨hk.1.1.2, ⟨hk.1.2, ⟨hk.2, hk.1.1.1⟩⟩⟩)⟩, ⟨by (with_reducible repeat (first | apply Kd.R_alloc | apply Kd.R_drewN | apply Kd.R_drew)); exact Kd.R_mono HO410.out (fun _ hk => ⟨hk.1.2, hk.2⟩)⟩, ⟨by (with_reducible repeat (first | refine blk_drewN ?_ _ | refine blk_drew ?_ | refine blk_alloc ?_ _)); exact BK393.out⟩, ⟨by (with_reducible repeat (first | refine blk_drewN ?_ _ | refine blk_drew ?_ | refine blk_alloc ?_ _)); exact BK403.out⟩, ⟨by (with_reducible repeat (first | refine blk_drewN ?_ _ | refine blk_drew ?_ | refine blk_alloc ?_ _)); exact BK413.out⟩, ⟨by repeat (first | (with_reducible first | exact HB.out | apply below_alloc | apply pw_below_drewN | apply below_drew1 | refine below_set ?_ GE393.out | refine below_set ?_ GE403.out | refine below_set ?_ GE413.out) | exact HB.out)⟩⟩
  case rest =>
   clear HC6
   try clear c1
   try clear c2
   try clear c2b0
   try clear c2b1
   try clear p2
   try clear c3
   try clear c4
   try clear c12
   try clear c14
   try clear c21
   try clear c22
   try clear c27
   try clear c28
   try clear c29
   try clear c31
   try clear c34
   try clear c35
   try clear c37
   try clear hcz15_0
   try clear hcz15_1
   try clear hcz15_2
   try clear hcz15_3
   try clear hcz18_0
   try clear hcz18_1
   try clear hcz18_2
   try clear hcz18_3
   try clear hcz23_0
   try clear hcz23_1
   try clear hcz23_2
   try clear hcz23_3
   try clear hcz30_0
   try clear hcz30_1
   try clear hcz30_2
   try clear hcz30_3
   try clear hcz32_0
   try clear hcz32_1
   try clear hcz32_2
   try clear hcz32_3
   try clear hcz36_0
   try clear hcz36_1
   try clear hcz36_2
   try clear hcz36_3
   try clear hcz38_0
   try clear hcz38_1
   try clear hcz38_2
   try clear hcz38_3
   try clear hcz9_0
   try clear hcz9_1
   try clear hcz9_2
   try clear hcz9_3
   try clear hfz15_0
   try clear hfz15_1
   try clear hfz15_2
   try clear hfz15_3
   try clear hfz18_0
   try clear hfz18_1
   try clear hfz18_2
   try clear hfz18_3
   try clear hfz23_0
   try clear hfz23_1
   try clear hfz23_2
   try clear hfz23_3
   try clear hfz30_0
   try clear hfz30_1
   try clear hfz30_2
   try clear hfz30_3
   try clear hfz32_0
   try clear hfz32_1
   try clear hfz32_2
   try clear hfz32_3
   try clear hfz36_0
   try clear hfz36_1
   try clear hfz36_2
   try clear hfz36_3
   try clear hfz38_0
   try clear hfz38_1
   try clear hfz38_2
   try clear hfz38_3
   try clear hfz9_0
   try clear hfz9_1
   try clear hfz9_2
   try clear hfz9_3
   obtain ⟨kq, x38_5, rfl, HA, HJ5, HO_394001, HO_394002, HO_404001, HO_404002, HO_414001, HO_414002, BK393, BK403, BK413, HB⟩ := hcut
   cases kq with
   | zero => exact absurd HA.out (by simp [laws_FnAfterDeath.j0])
   | succ kj5 =>
    have H := HA.out
    clear HA
    simp only [laws_FnAfterDeath.j0] at H
    by_cases c40 : x38_5 = true
    ·subst c40
     have H1 : (none) = some r := by rw [if_pos rfl] at H; exact H
     clear H
     have H := H1
     clear H1
     exact absurd H (by simp)
    ·replace c40 := Bool.eq_false_iff.mpr c40
     subst c40
     have H1 : (if t402 = true then (laws_FnAfterDeath.l0 kj5 t392 0 t384 t385 t388 t391 t394 t395 t398 t401) else ((laws_sameCourt.f kj5 t394 t395 t398 t401 0 ([] : List (List Int)) ([] : List Int) 0).bind fun t415 => (if t415 = true then ((laws_alive.f).bind fun t416 => (some t416)) else (none)))) = some r := by rw [if_neg (show ¬ (false = true) by decide)] at H; exact H
     clear H
     have H := H1
     clear H1
     by_cases c41 : t402 = true
     ·subst c41
      have H1 : (laws_FnAfterDeath.l0 kj5 t392 0 t384 t385 t388 t391 t394 t395 t398 t401) = some r := by rw [if_pos rfl] at H; exact H
      clear H
      have H := H1
      clear H1
      have H' := Aside0.mk H
      clear H
      go_wp2
      go_loopg [9] kj5 (fun kq v9 w' => ∃ (x9_2 : Int), v9 = .int .i64 x9_2 ∧ Aside0 (laws_FnAfterDeath.l0 kq t392 x9_2 t384 t385 t388 t391 t394 t395 t398 t401 = some r) ∧ Aside0 (kq ≤ kj5) ∧ Aside0 (Kd.S (Kd.slice 3 (Kd.int .i64)) 23 w' w.heap.size (fun k_ => some k_ ≠ ((.slice Ao11 t388.length co11) : Value).ownBlock ∧ some k_ ≠ ((.slice Ao17 t398.length co17) : Value).ownBlock ∧ some k_ ≠ ((.slice Ao24 t405.length co24) : Value).ownBlock ∧ some k_ ≠ ((.slice Ao25 t408.length co25) : Value).ownBlock) (.slice Ao10 t385.length co10) t385) ∧ Aside0 (Kd.R (Kd.int .i64) 3 w' w.heap.size (fun k_ => some k_ ≠ ((.slice Ao17 t398.length co17) : Value).ownBlock ∧ some k_ ≠ ((.slice Ao25 t408.length co25) : Value).ownBlock) (.slice Ao11 t388.length co11) t388) ∧ Aside0 (Kd.V (Kd.slice 3 (Kd.int .i64)) 23 w' w.heap.size (fun k_ => some k_ ≠ ((.slice Ao10 t385.length co10) : Value).ownBlock ∧ some k_ ≠ ((.slice Ao11 t388.length co11) : Value).ownBlock ∧ some k_ ≠ ((.slice Ao17 t398.length co17) : Value).ownBlock ∧ some k_ ≠ ((.slice Ao24 t405.length co24) : Value).ownBlock ∧ some k_ ≠ ((.slice Ao25 t408.length co25) : Value).ownBlock ∧ k_ ≠ gb393 ∧ k_ ≠ gb403 ∧ k_ ≠ gb413) (.slice Ao16 t395.length co16) t395) ∧ Aside0 (Kd.R (Kd.int .i64) 3 w' w.heap.size (fun k_ => some k_ ≠ ((.slice Ao11 t388.length co11) : Value).ownBlock ∧ some k_ ≠ ((.slice Ao25 t408.length co25) : Value).ownBlock) (.slice Ao17 t398.length co17) t398) ∧ Aside0 (Kd.S (Kd.slice 3 (Kd.int .i64)) 23 w' w.heap.size (fun k_ => some k_ ≠ ((.slice Ao10 t385.length co10) : Value).ownBlock ∧ some k_ ≠ ((.slice Ao11 t388.length co11) : Value).ownBlock ∧ some k_ ≠ ((.slice Ao17 t398.length co17) : Value).ownBlock ∧ some k_ ≠ ((.slice Ao25 t408.length co25) : Value).ownBlock) (.slice Ao24 t405.length co24) t405) ∧ Aside0 (Kd.R (Kd.int .i64) 3 w' w.heap.size (fun k_ => some k_ ≠ ((.slice Ao11 t388.length co11) : Value).ownBlock ∧ some k_ ≠ ((.slice Ao17 t398.length co17) : Value).ownBlock) (.slice Ao25 t408.length co25) t408) ∧ Aside0 (w'.heap[gb393]? = some (.cells #[.int .i64 t384, (.slice Ao10 t385.length co10), (.slice Ao11 t388.length co11), .int .i64 t391] 28 (0, 0))) ∧ Aside0 (w'.heap[gb403]? = some (.cells #[.int .i64 t394, (.slice Ao16 t395.length co16), (.slice Ao17 t398.length co17), .int .i64 t401] 28 (0, 0))) ∧ Aside0 (w'.heap[gb413]? = some (.cells #[.int .i64 t404, (.slice Ao24 t405.length co24), (.slice Ao25 t408.length co25), .int .i64 t411] 28 (0, 0))) ∧ Aside0 (Below w.heap.size w w'))
      case atStart => exact ⟨(0), (by first | rfl | (simp; done) | (simp [*]; done)), H', ⟨Nat.le_refl _⟩, ⟨by (with_reducible repeat (first | apply Kd.S_alloc | apply Kd.S_drewN | apply Kd.S_drew)); exact HO_394001.out⟩, ⟨by (with_reducible repeat (first | apply Kd.R_alloc | apply Kd.R_drewN | apply Kd.R_drew)); exact HO_394002.out⟩, ⟨by (with_reducible repeat (first | apply Kd.V_alloc | apply Kd.V_drewN | apply Kd.V_drew)); exact HO_404001.out⟩, ⟨by (with_reducible repeat (first | apply Kd.R_alloc | apply Kd.R_drewN | apply Kd.R_drew)); exact HO_404002.out⟩, ⟨by (with_reducible repeat (first | apply Kd.S_alloc | apply Kd.S_drewN | apply Kd.S_drew)); exact HO_414001.out⟩, ⟨by (with_reducible repeat (first | apply Kd.R_alloc | apply Kd.R_drewN | apply Kd.R_drew)); exact HO_414002.out⟩, ⟨by (with_reducible repeat (first | refine blk_drewN ?_ _ | refine blk_drew ?_ | refine blk_alloc ?_ _)); exact BK393.out⟩, ⟨by (with_reducible repeat (first | refine blk_drewN ?_ _ | refine blk_drew ?_ | refine blk_alloc ?_ _)); exact BK403.out⟩, ⟨by (with_reducible repeat (first | refine blk_drewN ?_ _ | refine blk_drew ?_ | refine blk_alloc ?_ _)); exact BK413.out⟩, ⟨by repeat (first | (with_reducible first | exact HB.out | apply below_alloc | apply pw_below_drewN | apply below_drew1 | refine below_set ?_ GE393.out | refine below_set ?_ GE403.out | refine below_set ?_ GE413.out) | exact HB.out)⟩⟩
      case round =>
       clear H'
       try clear c1
       try clear c2
       try clear c2b0
       try clear c2b1
       try clear p2
       try clear c3
       try clear c4
       try clear c12
       try clear c14
       try clear c21
       try clear c22
       try clear c27
       try clear c28
       try clear c29
       try clear c31
       try clear c34
       try clear c35
       try clear c37
       try clear c40
       try clear c41
       try clear hcz15_0
       try clear hcz15_1
       try clear hcz15_2
       try clear hcz15_3
       try clear hcz18_0
       try clear hcz18_1
       try clear hcz18_2
       try clear hcz18_3
       try clear hcz23_0
       try clear hcz23_1
       try clear hcz23_2
       try clear hcz23_3
       try clear hcz30_0
       try clear hcz30_1
       try clear hcz30_2
       try clear hcz30_3
       try clear hcz32_0
       try clear hcz32_1
       try clear hcz32_2
       try clear hcz32_3
       try clear hcz36_0
       try clear hcz36_1
       try clear hcz36_2
       try clear hcz36_3
       try clear hcz38_0
       try clear hcz38_1
       try clear hcz38_2
       try clear hcz38_3
       try clear hcz9_0
       try clear hcz9_1
       try clear hcz9_2
       try clear hcz9_3
       try clear hfz15_0
       try clear hfz15_1
       try clear hfz15_2
       try clear hfz15_3
       try clear hfz18_0
       try clear hfz18_1
       try clear hfz18_2
       try clear hfz18_3
       try clear hfz23_0
       try clear hfz23_1
       try clear hfz23_2
       try clear hfz23_3
       try clear hfz30_0
       try clear hfz30_1
       try clear hfz30_2
       try clear hfz30_3
       try clear hfz32_0
       try clear hfz32_1
       try clear hfz32_2
       try clear hfz32_3
       try clear hfz36_0
       try clear hfz36_1
       try clear hfz36_2
       try clear hfz36_3
       try clear hfz38_0
       try clear hfz38_1
       try clear hfz38_2
       try clear hfz38_3
       try clear hfz9_0
       try clear hfz9_1
       try clear hfz9_2
       try clear hfz9_3
       try clear p2
       obtain ⟨x9_2, rfl, HA, HK2, HO_394001, HO_394002, HO_404001, HO_404002, HO_414001, HO_414002, BK393, BK403, BK413, HB⟩ := hrel
       cases gk with
       | zero => exact absurd HA.out (by simp [laws_FnAfterDeath.l0])
       | succ k2 =>
        have H := HA.out
        clear HA
        simp only [laws_FnAfterDeath.l0] at H
        by_cases c42 : x9_2 < (t388.length : Int)
        ·rw [if_pos c42] at H
         have c42b0 : decide (x9_2 < (t388.length : Int)) = true := decide_eq_true c42
         clear c42
         by_cases c43 : 0 ≤ x9_2
         ·rw [if_pos c43] at H
          have c43b0 : decide (0 ≤ x9_2) = true := decide_eq_true c43
          clear c43
          by_cases c44 : (rd t388 x9_2) = (-1)
          ·rw [if_pos c44] at H
           have c44b0 : ((rd t388 x9_2) == (-1)) = true := beq_iff_eq.mpr c44
           have c44b1 : ((rd t388 x9_2) != (-1)) = false := bne_eq_false_iff_eq.mpr c44
           clear c44
           have H' := Aside0.mk H
           clear H
           have hnb45 := NB393_403.out
           have hnc45 := NB403_393.out
           have hnb46 := NB393_413.out
           have hnc46 := NB413_393.out
           have hcz47_0 : wr.cell? ⟨gb393, 0, none⟩ = some (.int .i64 t384) := (blk_cell BK393.out 0).trans rfl
           have hcz47_1 : wr.cell? ⟨gb393, 1, none⟩ = some (.slice Ao10 t385.length co10) := (blk_cell BK393.out 1).trans rfl
           have hcz47_2 : wr.cell? ⟨gb393, 2, none⟩ = some (.slice Ao11 t388.length co11) := (blk_cell BK393.out 2).trans rfl
           have hcz47_3 : wr.cell? ⟨gb393, 3, none⟩ = some (.int .i64 t391) := (blk_cell BK393.out 3).trans rfl
           have hfz47_0 := blk_frozen BK393.out 0
           have hfz47_1 := blk_frozen BK393.out 1
           have hfz47_2 := blk_frozen BK393.out 2
           have hfz47_3 := blk_frozen BK393.out 3
           try go_wp2
           have n0_ := Aside0.mk (Kd.S_drew HO_394001.out)
           have n1_ := Aside0.mk (Kd.R_drew HO_394002.out)
           have n2_ := Aside0.mk (Kd.V_drew HO_404001.out)
           have n3_ := Aside0.mk (Kd.R_drew HO_404002.out)
           have n4_ := Aside0.mk (Kd.S_drew HO_414001.out)
           have n5_ := Aside0.mk (Kd.R_drew HO_414002.out)
           have n6_ := Aside0.mk (blk_drew BK393.out)
           have n7_ := Aside0.mk (blk_drew BK403.out)
           have n8_ := Aside0.mk (blk_drew BK413.out)
           have n9_ := Aside0.mk (below_drew1 HB.out)
           clear HO_394001
           clear HO_394002
           clear HO_404001
           clear HO_404002
           clear HO_414001
           clear HO_414002
           clear BK393
           clear BK403
           clear BK413
           clear HB
           have HO_394001 := n0_
           have HO_394002 := n1_
           have HO_404001 := n2_
           have HO_404002 := n3_
           have HO_414001 := n4_
           have HO_414002 := n5_
           have BK393 := n6_
           have BK403 := n7_
           have BK413 := n8_
           have HB := n9_
           clear n0_ n1_ n2_ n3_ n4_ n5_ n6_ n7_ n8_ n9_
           have p417 : 0 ≤ (x9_2 : Int) := oda
           have q417 : x9_2 < (t388.length : Int) := oda
           obtain ⟨ad417, e417, hx417_0⟩ := Kd.at_int (Kd.R_reads' HO_394002.out).2.2 x9_2 p417 q417
           cases e417
           replace p417 := eq_true p417
           replace q417 := eq_true q417
           refine start_ (n := 28) (S := fun w' => w'.cell? ⟨gb393, 0, none⟩ = some (.int .i64 t384) ∧ w'.cell? ⟨gb393, 1, none⟩ = some (.slice Ao10 t385.length co10) ∧ w'.cell? ⟨gb393, 2, none⟩ = some (.slice (some ad417) t388.length co11) ∧ w'.cell? ⟨gb393, 3, none⟩ = some (.int .i64 t391) ∧ w'.cell? (ad417.add (x9_2).toNat) = some (.int .i64 (rd t388 x9_2))) (ds := []) #[F,F,F,F,F,F,F,F,F,F,F,F,F,F,F,F,F,F,F,F,F,F,F,F,F,F,F,F] kr rfl rfl ⟨(blk_cell BK393.out 0).trans rfl, (blk_cell BK393.out 1).trans rfl, (blk_cell BK393.out 2).trans rfl, (blk_cell BK393.out 3).trans rfl, hx417_0⟩ (fun hHeld => ?_); refine with_tabW laws_FnAfterDeath.tab13 laws_FnAfterDeath.bits13 (fun HT_ HW_ => ?_)
           generalize wr.drew = w48 at HO_394001 HO_394002 HO_404001 HO_404002 HO_414001 HO_414002 BK393 BK403 BK413 HB hx417_0 hHeld ⊢
           refine pure_ (i := 0) (N := some 54) (v := ?_) (a' := ?_) #[T,F,F,F,F,F,F,F,F,F,F,F,F,F,F,F,F,F,F,F,F,F,F,F,F,F,F,F] rfl rfl (any_of HT_.out kr) (fun _ _ _ h => h) (Or.inl ⟨by rfl, ?_⟩) ?_ ?_
           rotate_left
           ·intro w'
            go_simp
            with_reducible rfl
           rotate_left
           ·simp only [Act.put, List.setIfInBounds_toArray, List.set_cons_zero, List.set_cons_succ, i64_w, i32_w]
            rfl
           refine pure_ (i := 2) (N := some 56) (v := ?_) (a' := ?_) #[T,F,T,F,F,F,F,F,F,F,F,F,F,F,F,F,F,F,F,F,F,F,F,F,F,F,F,F] rfl rfl (any_of HT_.out kr) (fun _ _ _ h => h) (Or.inl ⟨by rfl, ?_⟩) ?_ ?_
           rotate_left
           ·intro w'
            go_simp
            with_reducible rfl
           rotate_left
           ·simp only [Act.put, List.setIfInBounds_toArray, List.set_cons_zero, List.set_cons_succ, i64_w, i32_w]
            rfl
           refine take_ (i := 1) (N := some 55) (v := ?_) (a' := ?_) #[T,T,T,F,F,F,F,F,F,F,F,F,F,F,F,F,F,F,F,F,F,F,F,F,F,F,F,F] rfl rfl (take_ofW HT_.out HW_.out kr) (fun _ _ _ h => h) (Or.inl ⟨by rfl, ?_⟩) hHeld ?_ ?_
           rotate_left
           ·rintro w' ⟨s0, s1, s2, s3, s4⟩
            go_simp
            with_reducible rfl
           rotate_left
           ·simp only [Act.put, List.setIfInBounds_toArray, List.set_cons_zero, List.set_cons_succ, i64_w, i32_w]
            rfl
           refine pure_ (i := 3) (N := some 57) (v := ?_) (a' := ?_) #[T,T,T,T,F,F,F,F,F,F,F,F,F,F,F,F,F,F,F,F,F,F,F,F,F,F,F,F] rfl rfl (any_of HT_.out kr) (fun _ _ _ h => h) (Or.inl ⟨by rfl, ?_⟩) ?_ ?_
           rotate_left
           ·intro w'
            go_simp
            with_reducible rfl
           rotate_left
           ·simp only [Act.put, List.setIfInBounds_toArray, List.set_cons_zero, List.set_cons_succ, i64_w, i32_w]
            rfl
           refine take_ (i := 4) (N := some 58) (v := ?_) (a' := ?_) #[T,T,T,T,T,F,F,F,F,F,F,F,F,F,F,F,F,F,F,F,F,F,F,F,F,F,F,F] rfl rfl (take_ofW HT_.out HW_.out kr) (fun _ _ _ h => h) (Or.inl ⟨by rfl, ?_⟩) hHeld ?_ ?_
           rotate_left
           ·rintro w' ⟨s0, s1, s2, s3, s4⟩
            go_simp
            with_reducible rfl
           rotate_left
           ·simp only [Act.put, List.setIfInBounds_toArray, List.set_cons_zero, List.set_cons_succ, i64_w, i32_w]
            rfl
           refine pure_ (i := 5) (N := some 59) (v := ?_) (a' := ?_) #[T,T,T,T,T,T,F,F,F,F,F,F,F,F,F,F,F,F,F,F,F,F,F,F,F,F,F,F] rfl rfl (any_of HT_.out kr) (fun _ _ _ h => h) (Or.inl ⟨by rfl, ?_⟩) ?_ ?_
           rotate_left
           ·intro w'
            go_simp
            with_reducible rfl
           rotate_left
           ·simp only [Act.put, List.setIfInBounds_toArray, List.set_cons_zero, List.set_cons_succ, i64_w, i32_w]
            rfl
           refine pure_ (i := 6) (N := some 60) (v := ?_) (a' := ?_) #[T,T,T,T,T,T,T,F,F,F,F,F,F,F,F,F,F,F,F,F,F,F,F,F,F,F,F,F] rfl rfl (any_of HT_.out kr) (fun _ _ _ h => h) (Or.inl ⟨by rfl, ?_⟩) ?_ ?_
           rotate_left
           ·intro w'
            go_simp
            with_reducible rfl
           rotate_left
           ·simp only [Act.put, List.setIfInBounds_toArray, List.set_cons_zero, List.set_cons_succ, i64_w, i32_w]
            rfl
           refine pure_ (i := 7) (N := some 61) (v := undef) (a' := ?_) #[T,T,T,T,T,T,T,T,F,F,F,F,F,F,F,F,F,F,F,F,F,F,F,F,F,F,F,F] rfl rfl (any_of HT_.out kr) (fun _ _ _ h => h) (Or.inr ⟨by rfl, rfl⟩) ?_ ?_
           rotate_left
           ·simp only [Act.put, List.setIfInBounds_toArray, List.set_cons_zero, List.set_cons_succ, i64_w, i32_w]
            rfl
           refine pure_ (i := 8) (N := some 62) (v := undef) (a' := ?_) #[T,T,T,T,T,T,T,T,T,F,F,F,F,F,F,F,F,F,F,F,F,F,F,F,F,F,F,F] rfl rfl (any_of HT_.out kr) (fun _ _ _ h => h) (Or.inr ⟨by rfl, rfl⟩) ?_ ?_
           rotate_left
           ·simp only [Act.put, List.setIfInBounds_toArray, List.set_cons_zero, List.set_cons_succ, i64_w, i32_w]
            rfl
           refine pure_ (i := 9) (N := some 63) (v := undef) (a' := ?_) #[T,T,T,T,T,T,T,T,T,T,F,F,F,F,F,F,F,F,F,F,F,F,F,F,F,F,F,F] rfl rfl (any_of HT_.out kr) (fun _ _ _ h => h) (Or.inr ⟨by rfl, rfl⟩) ?_ ?_
           rotate_left
           ·simp only [Act.put, List.setIfInBounds_toArray, List.set_cons_zero, List.set_cons_succ, i64_w, i32_w]
            rfl
           refine pure_ (i := 10) (N := some 64) (v := undef) (a' := ?_) #[T,T,T,T,T,T,T,T,T,T,T,F,F,F,F,F,F,F,F,F,F,F,F,F,F,F,F,F] rfl rfl (any_of HT_.out kr) (fun _ _ _ h => h) (Or.inr ⟨by rfl, rfl⟩) ?_ ?_
           rotate_left
           ·simp only [Act.put, List.setIfInBounds_toArray, List.set_cons_zero, List.set_cons_succ, i64_w, i32_w]
            rfl
           refine pure_ (i := 11) (N := some 65) (v := undef) (a' := ?_) #[T,T,T,T,T,T,T,T,T,T,T,T,F,F,F,F,F,F,F,F,F,F,F,F,F,F,F,F] rfl rfl (any_of HT_.out kr) (fun _ _ _ h => h) (Or.inr ⟨by rfl, rfl⟩) ?_ ?_
           rotate_left
           ·simp only [Act.put, List.setIfInBounds_toArray, List.set_cons_zero, List.set_cons_succ, i64_w, i32_w]
            rfl
           refine pure_ (i := 12) (N := some 66) (v := undef) (a' := ?_) #[T,T,T,T,T,T,T,T,T,T,T,T,T,F,F,F,F,F,F,F,F,F,F,F,F,F,F,F] rfl rfl (any_of HT_.out kr) (fun _ _ _ h => h) (Or.inr ⟨by rfl, rfl⟩) ?_ ?_
           rotate_left
           ·simp only [Act.put, List.setIfInBounds_toArray, List.set_cons_zero, List.set_cons_succ, i64_w, i32_w]
            rfl
           refine pure_ (i := 13) (N := some 67) (v := undef) (a' := ?_) #[T,T,T,T,T,T,T,T,T,T,T,T,T,T,F,F,F,F,F,F,F,F,F,F,F,F,F,F] rfl rfl (any_of HT_.out kr) (fun _ _ _ h => h) (Or.inr ⟨by rfl, rfl⟩) ?_ ?_
           rotate_left
           ·simp only [Act.put, List.setIfInBounds_toArray, List.set_cons_zero, List.set_cons_succ, i64_w, i32_w]
            rfl
           refine pure_ (i := 14) (N := some 68) (v := ?_) (a' := ?_) #[T,T,T,T,T,T,T,T,T,T,T,T,T,T,T,F,F,F,F,F,F,F,F,F,F,F,F,F] rfl rfl (any_of HT_.out kr) (fun _ _ _ h => h) (Or.inl ⟨by rfl, ?_⟩) ?_ ?_
           rotate_left
           ·intro w'
            go_simp
            with_reducible rfl
           rotate_left
           ·simp only [Act.put, List.setIfInBounds_toArray, List.set_cons_zero, List.set_cons_succ, i64_w, i32_w]
            rfl
           refine pure_ (i := 15) (N := some 69) (v := ?_) (a' := ?_) #[T,T,T,T,T,T,T,T,T,T,T,T,T,T,T,T,F,F,F,F,F,F,F,F,F,F,F,F] rfl rfl (any_of HT_.out kr) (fun _ _ _ h => h) (Or.inl ⟨by rfl, ?_⟩) ?_ ?_
           rotate_left
           ·intro w'
            go_simp
            with_reducible rfl
           rotate_left
           ·simp only [Act.put, List.setIfInBounds_toArray, List.set_cons_zero, List.set_cons_succ, i64_w, i32_w]
            rfl
           refine pure_ (i := 16) (N := some 70) (v := undef) (a' := ?_) #[T,T,T,T,T,T,T,T,T,T,T,T,T,T,T,T,T,F,F,F,F,F,F,F,F,F,F,F] rfl rfl (any_of HT_.out kr) (fun _ _ _ h => h) (Or.inr ⟨by rfl, rfl⟩) ?_ ?_
           rotate_left
           ·simp only [Act.put, List.setIfInBounds_toArray, List.set_cons_zero, List.set_cons_succ, i64_w, i32_w]
            rfl
           refine pure_ (i := 17) (N := some 71) (v := undef) (a' := ?_) #[T,T,T,T,T,T,T,T,T,T,T,T,T,T,T,T,T,T,F,F,F,F,F,F,F,F,F,F] rfl rfl (any_of HT_.out kr) (fun _ _ _ h => h) (Or.inr ⟨by rfl, rfl⟩) ?_ ?_
           rotate_left
           ·simp only [Act.put, List.setIfInBounds_toArray, List.set_cons_zero, List.set_cons_succ, i64_w, i32_w]
            rfl
           refine pure_ (i := 18) (N := some 72) (v := undef) (a' := ?_) #[T,T,T,T,T,T,T,T,T,T,T,T,T,T,T,T,T,T,T,F,F,F,F,F,F,F,F,F] rfl rfl (any_of HT_.out kr) (fun _ _ _ h => h) (Or.inr ⟨by rfl, rfl⟩) ?_ ?_
           rotate_left
           ·simp only [Act.put, List.setIfInBounds_toArray, List.set_cons_zero, List.set_cons_succ, i64_w, i32_w]
            rfl
           refine pure_ (i := 19) (N := some 73) (v := undef) (a' := ?_) #[T,T,T,T,T,T,T,T,T,T,T,T,T,T,T,T,T,T,T,T,F,F,F,F,F,F,F,F] rfl rfl (any_of HT_.out kr) (fun _ _ _ h => h) (Or.inr ⟨by rfl, rfl⟩) ?_ ?_
           rotate_left
           ·simp only [Act.put, List.setIfInBounds_toArray, List.set_cons_zero, List.set_cons_succ, i64_w, i32_w]
            rfl
           refine pure_ (i := 20) (N := some 74) (v := undef) (a' := ?_) #[T,T,T,T,T,T,T,T,T,T,T,T,T,T,T,T,T,T,T,T,T,F,F,F,F,F,F,F] rfl rfl (any_of HT_.out kr) (fun _ _ _ h => h) (Or.inr ⟨by rfl, rfl⟩) ?_ ?_
           rotate_left
           ·simp only [Act.put, List.setIfInBounds_toArray, List.set_cons_zero, List.set_cons_succ, i64_w, i32_w]
            rfl
           refine pure_ (i := 21) (N := some 75) (v := undef) (a' := ?_) #[T,T,T,T,T,T,T,T,T,T,T,T,T,T,T,T,T,T,T,T,T,T,F,F,F,F,F,F] rfl rfl (any_of HT_.out kr) (fun _ _ _ h => h) (Or.inr ⟨by rfl, rfl⟩) ?_ ?_
           rotate_left
           ·simp only [Act.put, List.setIfInBounds_toArray, List.set_cons_zero, List.set_cons_succ, i64_w, i32_w]
            rfl
           refine pure_ (i := 22) (N := some 76) (v := undef) (a' := ?_) #[T,T,T,T,T,T,T,T,T,T,T,T,T,T,T,T,T,T,T,T,T,T,T,F,F,F,F,F] rfl rfl (any_of HT_.out kr) (fun _ _ _ h => h) (Or.inr ⟨by rfl, rfl⟩) ?_ ?_
           rotate_left
           ·simp only [Act.put, List.setIfInBounds_toArray, List.set_cons_zero, List.set_cons_succ, i64_w, i32_w]
            rfl
           refine pure_ (i := 23) (N := some 77) (v := undef) (a' := ?_) #[T,T,T,T,T,T,T,T,T,T,T,T,T,T,T,T,T,T,T,T,T,T,T,T,F,F,F,F] rfl rfl (any_of HT_.out kr) (fun _ _ _ h => h) (Or.inr ⟨by rfl, rfl⟩) ?_ ?_
           rotate_left
           ·simp only [Act.put, List.setIfInBounds_toArray, List.set_cons_zero, List.set_cons_succ, i64_w, i32_w]
            rfl
           refine pure_ (i := 24) (N := some 78) (v := undef) (a' := ?_) #[T,T,T,T,T,T,T,T,T,T,T,T,T,T,T,T,T,T,T,T,T,T,T,T,T,F,F,F] rfl rfl (any_of HT_.out kr) (fun _ _ _ h => h) (Or.inr ⟨by rfl, rfl⟩) ?_ ?_
           rotate_left
           ·simp only [Act.put, List.setIfInBounds_toArray, List.set_cons_zero, List.set_cons_succ, i64_w, i32_w]
            rfl
           refine pure_ (i := 25) (N := some 79) (v := undef) (a' := ?_) #[T,T,T,T,T,T,T,T,T,T,T,T,T,T,T,T,T,T,T,T,T,T,T,T,T,T,F,F] rfl rfl (any_of HT_.out kr) (fun _ _ _ h => h) (Or.inr ⟨by rfl, rfl⟩) ?_ ?_
           rotate_left
           ·simp only [Act.put, List.setIfInBounds_toArray, List.set_cons_zero, List.set_cons_succ, i64_w, i32_w]
            rfl
           refine pure_ (i := 26) (N := some 80) (v := undef) (a' := ?_) #[T,T,T,T,T,T,T,T,T,T,T,T,T,T,T,T,T,T,T,T,T,T,T,T,T,T,T,F] rfl rfl (any_of HT_.out kr) (fun _ _ _ h => h) (Or.inr ⟨by rfl, rfl⟩) ?_ ?_
           rotate_left
           ·simp only [Act.put, List.setIfInBounds_toArray, List.set_cons_zero, List.set_cons_succ, i64_w, i32_w]
            rfl
           refine pure_ (i := 27) (N := some 81) (v := ?_) (a' := ?_) #[T,T,T,T,T,T,T,T,T,T,T,T,T,T,T,T,T,T,T,T,T,T,T,T,T,T,T,T] rfl rfl (any_of HT_.out kr) (fun _ _ _ h => h) (Or.inl ⟨by rfl, ?_⟩) ?_ ?_
           rotate_left
           ·intro w'
            go_simp
            with_reducible rfl
           rotate_left
           ·simp only [Act.put, List.setIfInBounds_toArray, List.set_cons_zero, List.set_cons_succ, i64_w, i32_w]
            rfl
           refine done_ (done_of HT_.out kr) ?_
           try go_wp2
           go_roundg k2
           case measure => have := HJ5.out; have := HK2.out; omega
           case rel => exact ⟨(wrap64 (x9_2 + 1)), (by first | rfl | (simp; done) | (simp [*]; done)), H', ⟨by have := HJ5.out; have := HK2.out; omega⟩, ⟨by (with_reducible repeat (first | apply Kd.S_alloc | apply Kd.S_drewN | apply Kd.S_drew)); exact HO_394001.out⟩, ⟨by (with_reducible repeat (first | apply Kd.R_alloc | apply Kd.R_drewN | apply Kd.R_drew)); exact HO_394002.out⟩, ⟨by (with_reducible repeat (first | apply Kd.V_alloc | apply Kd.V_drewN | apply Kd.V_drew)); exact HO_404001.out⟩, ⟨by (with_reducible repeat (first | apply Kd.R_alloc | apply Kd.R_drewN | apply Kd.R_drew)); exact HO_404002.out⟩, ⟨by (with_reducible repeat (first | apply Kd.S_alloc | apply Kd.S_drewN | apply Kd.S_drew)); exact HO_414001.out⟩, ⟨by (with_reducible repeat (first | apply Kd.R_alloc | apply Kd.R_drewN | apply Kd.R_drew)); exact HO_414002.out⟩, ⟨by (with_reducible repeat (first | refine blk_drewN ?_ _ | refine blk_drew ?_ | refine blk_alloc ?_ _)); exact BK393.out⟩, ⟨by (with_reducible repeat (first | refine blk_drewN ?_ _ | refine blk_drew ?_ | refine blk_alloc ?_ _)); exact BK403.out⟩, ⟨by (with_reducible repeat (first | refine blk_drewN ?_ _ | refine blk_drew ?_ | refine blk_alloc ?_ _)); exact BK413.out⟩, ⟨by repeat (first | (with_reducible first | exact HB.out | apply below_alloc | apply pw_below_drewN | apply below_drew1 | refine below_set ?_ GE393.out | refine below_set ?_ GE403.out | refine below_set ?_ GE413.out) | exact HB.out)⟩⟩
          ·rw [if_neg c44] at H
           have c44b0 : ((rd t388 x9_2) == (-1)) = false := beq_eq_false_iff_ne.mpr c44
           have c44b1 : ((rd t388 x9_2) != (-1)) = true := bne_iff_ne.mpr c44
           by_cases c49 : (rd t388 x9_2) = t392
           ·rw [if_pos c49] at H
            have c49b0 : ((rd t388 x9_2) == t392) = true := beq_iff_eq.mpr c49
            have c49b1 : ((rd t388 x9_2) != t392) = false := bne_eq_false_iff_eq.mpr c49
            clear c49
            have H' := Aside0.mk H
            clear H
            have hnb50 := NB393_403.out
            have hnc50 := NB403_393.out
            have hnb51 := NB393_413.out
            have hnc51 := NB413_393.out
            have hcz52_0 : wr.cell? ⟨gb393, 0, none⟩ = some (.int .i64 t384) := (blk_cell BK393.out 0).trans rfl
            have hcz52_1 : wr.cell? ⟨gb393, 1, none⟩ = some (.slice Ao10 t385.length co10) := (blk_cell BK393.out 1).trans rfl
            have hcz52_2 : wr.cell? ⟨gb393, 2, none⟩ = some (.slice Ao11 t388.length co11) := (blk_cell BK393.out 2).trans rfl
            have hcz52_3 : wr.cell? ⟨gb393, 3, none⟩ = some (.int .i64 t391) := (blk_cell BK393.out 3).trans rfl
            have hfz52_0 := blk_frozen BK393.out 0
            have hfz52_1 := blk_frozen BK393.out 1
            have hfz52_2 := blk_frozen BK393.out 2
            have hfz52_3 := blk_frozen BK393.out 3
            try go_wp2
            have n0_ := Aside0.mk (Kd.S_drew HO_394001.out)
            have n1_ := Aside0.mk (Kd.R_drew HO_394002.out)
            have n2_ := Aside0.mk (Kd.V_drew HO_404001.out)
            have n3_ := Aside0.mk (Kd.R_drew HO_404002.out)
            have n4_ := Aside0.mk (Kd.S_drew HO_414001.out)
            have n5_ := Aside0.mk (Kd.R_drew HO_414002.out)
            have n6_ := Aside0.mk (blk_drew BK393.out)
            have n7_ := Aside0.mk (blk_drew BK403.out)
            have n8_ := Aside0.mk (blk_drew BK413.out)
            have n9_ := Aside0.mk (below_drew1 HB.out)
            clear HO_394001
            clear HO_394002
            clear HO_404001
            clear HO_404002
            clear HO_414001
            clear HO_414002
            clear BK393
            clear BK403
            clear BK413
            clear HB
            have HO_394001 := n0_
            have HO_394002 := n1_
            have HO_404001 := n2_
            have HO_404002 := n3_
            have HO_414001 := n4_
            have HO_414002 := n5_
            have BK393 := n6_
            have BK403 := n7_
            have BK413 := n8_
            have HB := n9_
            clear n0_ n1_ n2_ n3_ n4_ n5_ n6_ n7_ n8_ n9_
            have p417 : 0 ≤ (x9_2 : Int) := oda
            have q417 : x9_2 < (t388.length : Int) := oda
            obtain ⟨ad417, e417, hx417_0⟩ := Kd.at_int (Kd.R_reads' HO_394002.out).2.2 x9_2 p417 q417
            cases e417
            replace p417 := eq_true p417
            replace q417 := eq_true q417
            have p418 : 0 ≤ (x9_2 : Int) := oda
            have q418 : x9_2 < (t388.length : Int) := oda
            obtain ⟨ad418, e418, hx418_0⟩ := Kd.at_int (Kd.R_reads' HO_394002.out).2.2 x9_2 p418 q418
            obtain rfl : ad417 = ad418 := (by injection e418)
            replace p418 := eq_true p418
            replace q418 := eq_true q418
            refine start_ (n := 28) (S := fun w' => w'.cell? ⟨gb393, 0, none⟩ = some (.int .i64 t384) ∧ w'.cell? ⟨gb393, 1, none⟩ = some (.slice Ao10 t385.length co10) ∧ w'.cell? ⟨gb393, 2, none⟩ = some (.slice (some ad417) t388.length co11) ∧ w'.cell? ⟨gb393, 3, none⟩ = some (.int .i64 t391) ∧ w'.cell? (ad417.add (x9_2).toNat) = some (.int .i64 (rd t388 x9_2)) ∧ w'.cell? (ad417.add (x9_2).toNat) = some (.int .i64 (rd t388 x9_2))) (ds := []) #[F,F,F,F,F,F,F,F,F,F,F,F,F,F,F,F,F,F,F,F,F,F,F,F,F,F,F,F] kr rfl rfl ⟨(blk_cell BK393.out 0).trans rfl, (blk_cell BK393.out 1).trans rfl, (blk_cell BK393.out 2).trans rfl, (blk_cell BK393.out 3).trans rfl, hx417_0, hx418_0⟩ (fun hHeld => ?_); refine with_tabW laws_FnAfterDeath.tab13 laws_FnAfterDeath.bits13 (fun HT_ HW_ => ?_)
            generalize wr.drew = w53 at HO_394001 HO_394002 HO_404001 HO_404002 HO_414001 HO_414002 BK393 BK403 BK413 HB hx417_0 hx418_0 hHeld ⊢
            refine pure_ (i := 0) (N := some 54) (v := ?_) (a' := ?_) #[T,F,F,F,F,F,F,F,F,F,F,F,F,F,F,F,F,F,F,F,F,F,F,F,F,F,F,F] rfl rfl (any_of HT_.out kr) (fun _ _ _ h => h) (Or.inl ⟨by rfl, ?_⟩) ?_ ?_
            rotate_left
            ·intro w'
             go_simp
             with_reducible rfl
            rotate_left
            ·simp only [Act.put, List.setIfInBounds_toArray, List.set_cons_zero, List.set_cons_succ, i64_w, i32_w]
             rfl
            refine pure_ (i := 2) (N := some 56) (v := ?_) (a' := ?_) #[T,F,T,F,F,F,F,F,F,F,F,F,F,F,F,F,F,F,F,F,F,F,F,F,F,F,F,F] rfl rfl (any_of HT_.out kr) (fun _ _ _ h => h) (Or.inl ⟨by rfl, ?_⟩) ?_ ?_
            rotate_left
            ·intro w'
             go_simp
             with_reducible rfl
            rotate_left
            ·simp only [Act.put, List.setIfInBounds_toArray, List.set_cons_zero, List.set_cons_succ, i64_w, i32_w]
             rfl
            refine take_ (i := 1) (N := some 55) (v := ?_) (a' := ?_) #[T,T,T,F,F,F,F,F,F,F,F,F,F,F,F,F,F,F,F,F,F,F,F,F,F,F,F,F] rfl rfl (take_ofW HT_.out HW_.out kr) (fun _ _ _ h => h) (Or.inl ⟨by rfl, ?_⟩) hHeld ?_ ?_
            rotate_left
            ·rintro w' ⟨s0, s1, s2, s3, s4, s5⟩
             go_simp
             with_reducible rfl
            rotate_left
            ·simp only [Act.put, List.setIfInBounds_toArray, List.set_cons_zero, List.set_cons_succ, i64_w, i32_w]
             rfl
            refine pure_ (i := 3) (N := some 57) (v := ?_) (a' := ?_) #[T,T,T,T,F,F,F,F,F,F,F,F,F,F,F,F,F,F,F,F,F,F,F,F,F,F,F,F] rfl rfl (any_of HT_.out kr) (fun _ _ _ h => h) (Or.inl ⟨by rfl, ?_⟩) ?_ ?_
            rotate_left
            ·intro w'
             go_simp
             with_reducible rfl
            rotate_left
            ·simp only [Act.put, List.setIfInBounds_toArray, List.set_cons_zero, List.set_cons_succ, i64_w, i32_w]
             rfl
            refine take_ (i := 4) (N := some 58) (v := ?_) (a' := ?_) #[T,T,T,T,T,F,F,F,F,F,F,F,F,F,F,F,F,F,F,F,F,F,F,F,F,F,F,F] rfl rfl (take_ofW HT_.out HW_.out kr) (fun _ _ _ h => h) (Or.inl ⟨by rfl, ?_⟩) hHeld ?_ ?_
            rotate_left
            ·rintro w' ⟨s0, s1, s2, s3, s4, s5⟩
             go_simp
             with_reducible rfl
            rotate_left
            ·simp only [Act.put, List.setIfInBounds_toArray, List.set_cons_zero, List.set_cons_succ, i64_w, i32_w]
             rfl
            refine pure_ (i := 5) (N := some 59) (v := ?_) (a' := ?_) #[T,T,T,T,T,T,F,F,F,F,F,F,F,F,F,F,F,F,F,F,F,F,F,F,F,F,F,F] rfl rfl (any_of HT_.out kr) (fun _ _ _ h => h) (Or.inl ⟨by rfl, ?_⟩) ?_ ?_
            rotate_left
            ·intro w'
             go_simp
             with_reducible rfl
            rotate_left
            ·simp only [Act.put, List.setIfInBounds_toArray, List.set_cons_zero, List.set_cons_succ, i64_w, i32_w]
             rfl
            refine pure_ (i := 6) (N := some 60) (v := ?_) (a' := ?_) #[T,T,T,T,T,T,T,F,F,F,F,F,F,F,F,F,F,F,F,F,F,F,F,F,F,F,F,F] rfl rfl (any_of HT_.out kr) (fun _ _ _ h => h) (Or.inl ⟨by rfl, ?_⟩) ?_ ?_
            rotate_left
            ·intro w'
             go_simp
             with_reducible rfl
            rotate_left
            ·simp only [Act.put, List.setIfInBounds_toArray, List.set_cons_zero, List.set_cons_succ, i64_w, i32_w]
             rfl
            refine pure_ (i := 7) (N := some 61) (v := ?_) (a' := ?_) #[T,T,T,T,T,T,T,T,F,F,F,F,F,F,F,F,F,F,F,F,F,F,F,F,F,F,F,F] rfl rfl (any_of HT_.out kr) (fun _ _ _ h => h) (Or.inl ⟨by rfl, ?_⟩) ?_ ?_
            rotate_left
            ·intro w'
             go_simp
             with_reducible rfl
            rotate_left
            ·simp only [Act.put, List.setIfInBounds_toArray, List.set_cons_zero, List.set_cons_succ, i64_w, i32_w]
             rfl
            refine pure_ (i := 9) (N := some 63) (v := ?_) (a' := ?_) #[T,T,T,T,T,T,T,T,F,T,F,F,F,F,F,F,F,F,F,F,F,F,F,F,F,F,F,F] rfl rfl (any_of HT_.out kr) (fun _ _ _ h => h) (Or.inl ⟨by rfl, ?_⟩) ?_ ?_
            rotate_left
            ·intro w'
             go_simp
             with_reducible rfl
            rotate_left
            ·simp only [Act.put, List.setIfInBounds_toArray, List.set_cons_zero, List.set_cons_succ, i64_w, i32_w]
             rfl
            refine pure_ (i := 12) (N := some 66) (v := ?_) (a' := ?_) #[T,T,T,T,T,T,T,T,F,T,F,F,T,F,F,F,F,F,F,F,F,F,F,F,F,F,F,F] rfl rfl (any_of HT_.out kr) (fun _ _ _ h => h) (Or.inl ⟨by rfl, ?_⟩) ?_ ?_
            rotate_left
            ·intro w'
             go_simp
             with_reducible rfl
            rotate_left
            ·simp only [Act.put, List.setIfInBounds_toArray, List.set_cons_zero, List.set_cons_succ, i64_w, i32_w]
             rfl
            refine take_ (i := 8) (N := some 62) (v := ?_) (a' := ?_) #[T,T,T,T,T,T,T,T,T,T,F,F,T,F,F,F,F,F,F,F,F,F,F,F,F,F,F,F] rfl rfl (take_ofW HT_.out HW_.out kr) (fun _ _ _ h => h) (Or.inl ⟨by rfl, ?_⟩) hHeld ?_ ?_
            rotate_left
            ·rintro w' ⟨s0, s1, s2, s3, s4, s5⟩
             go_simp
             with_reducible rfl
            rotate_left
            ·simp only [Act.put, List.setIfInBounds_toArray, List.set_cons_zero, List.set_cons_succ, i64_w, i32_w]
             rfl
            refine pure_ (i := 10) (N := some 64) (v := ?_) (a' := ?_) #[T,T,T,T,T,T,T,T,T,T,T,F,T,F,F,F,F,F,F,F,F,F,F,F,F,F,F,F] rfl rfl (any_of HT_.out kr) (fun _ _ _ h => h) (Or.inl ⟨by rfl, ?_⟩) ?_ ?_
            rotate_left
            ·intro w'
             go_simp
             with_reducible rfl
            rotate_left
            ·simp only [Act.put, List.setIfInBounds_toArray, List.set_cons_zero, List.set_cons_succ, i64_w, i32_w]
             rfl
            refine take_ (i := 11) (N := some 65) (v := ?_) (a' := ?_) #[T,T,T,T,T,T,T,T,T,T,T,T,T,F,F,F,F,F,F,F,F,F,F,F,F,F,F,F] rfl rfl (take_ofW HT_.out HW_.out kr) (fun _ _ _ h => h) (Or.inl ⟨by rfl, ?_⟩) hHeld ?_ ?_
            rotate_left
            ·rintro w' ⟨s0, s1, s2, s3, s4, s5⟩
             go_simp
             with_reducible rfl
            rotate_left
            ·simp only [Act.put, List.setIfInBounds_toArray, List.set_cons_zero, List.set_cons_succ, i64_w, i32_w]
             rfl
            refine pure_ (i := 13) (N := some 67) (v := ?_) (a' := ?_) #[T,T,T,T,T,T,T,T,T,T,T,T,T,T,F,F,F,F,F,F,F,F,F,F,F,F,F,F] rfl rfl (any_of HT_.out kr) (fun _ _ _ h => h) (Or.inl ⟨by rfl, ?_⟩) ?_ ?_
            rotate_left
            ·intro w'
             go_simp
             with_reducible rfl
            rotate_left
            ·simp only [Act.put, List.setIfInBounds_toArray, List.set_cons_zero, List.set_cons_succ, i64_w, i32_w]
             rfl
            refine pure_ (i := 14) (N := some 68) (v := ?_) (a' := ?_) #[T,T,T,T,T,T,T,T,T,T,T,T,T,T,T,F,F,F,F,F,F,F,F,F,F,F,F,F] rfl rfl (any_of HT_.out kr) (fun _ _ _ h => h) (Or.inl ⟨by rfl, ?_⟩) ?_ ?_
            rotate_left
            ·intro w'
             go_simp
             with_reducible rfl
            rotate_left
            ·simp only [Act.put, List.setIfInBounds_toArray, List.set_cons_zero, List.set_cons_succ, i64_w, i32_w]
             rfl
            refine pure_ (i := 15) (N := some 69) (v := ?_) (a' := ?_) #[T,T,T,T,T,T,T,T,T,T,T,T,T,T,T,T,F,F,F,F,F,F,F,F,F,F,F,F] rfl rfl (any_of HT_.out kr) (fun _ _ _ h => h) (Or.inl ⟨by rfl, ?_⟩) ?_ ?_
            rotate_left
            ·intro w'
             go_simp
             with_reducible rfl
            rotate_left
            ·simp only [Act.put, List.setIfInBounds_toArray, List.set_cons_zero, List.set_cons_succ, i64_w, i32_w]
             rfl
            refine pure_ (i := 16) (N := some 70) (v := undef) (a' := ?_) #[T,T,T,T,T,T,T,T,T,T,T,T,T,T,T,T,T,F,F,F,F,F,F,F,F,F,F,F] rfl rfl (any_of HT_.out kr) (fun _ _ _ h => h) (Or.inr ⟨by rfl, rfl⟩) ?_ ?_
            rotate_left
            ·simp only [Act.put, List.setIfInBounds_toArray, List.set_cons_zero, List.set_cons_succ, i64_w, i32_w]
             rfl
            refine pure_ (i := 17) (N := some 71) (v := undef) (a' := ?_) #[T,T,T,T,T,T,T,T,T,T,T,T,T,T,T,T,T,T,F,F,F,F,F,F,F,F,F,F] rfl rfl (any_of HT_.out kr) (fun _ _ _ h => h) (Or.inr ⟨by rfl, rfl⟩) ?_ ?_
            rotate_left
            ·simp only [Act.put, List.setIfInBounds_toArray, List.set_cons_zero, List.set_cons_succ, i64_w, i32_w]
             rfl
            refine pure_ (i := 18) (N := some 72) (v := undef) (a' := ?_) #[T,T,T,T,T,T,T,T,T,T,T,T,T,T,T,T,T,T,T,F,F,F,F,F,F,F,F,F] rfl rfl (any_of HT_.out kr) (fun _ _ _ h => h) (Or.inr ⟨by rfl, rfl⟩) ?_ ?_
            rotate_left
            ·simp only [Act.put, List.setIfInBounds_toArray, List.set_cons_zero, List.set_cons_succ, i64_w, i32_w]
             rfl
            refine pure_ (i := 19) (N := some 73) (v := undef) (a' := ?_) #[T,T,T,T,T,T,T,T,T,T,T,T,T,T,T,T,T,T,T,T,F,F,F,F,F,F,F,F] rfl rfl (any_of HT_.out kr) (fun _ _ _ h => h) (Or.inr ⟨by rfl, rfl⟩) ?_ ?_
            rotate_left
            ·simp only [Act.put, List.setIfInBounds_toArray, List.set_cons_zero, List.set_cons_succ, i64_w, i32_w]
             rfl
            refine pure_ (i := 20) (N := some 74) (v := undef) (a' := ?_) #[T,T,T,T,T,T,T,T,T,T,T,T,T,T,T,T,T,T,T,T,T,F,F,F,F,F,F,F] rfl rfl (any_of HT_.out kr) (fun _ _ _ h => h) (Or.inr ⟨by rfl, rfl⟩) ?_ ?_
            rotate_left
            ·simp only [Act.put, List.setIfInBounds_toArray, List.set_cons_zero, List.set_cons_succ, i64_w, i32_w]
             rfl
            refine pure_ (i := 21) (N := some 75) (v := undef) (a' := ?_) #[T,T,T,T,T,T,T,T,T,T,T,T,T,T,T,T,T,T,T,T,T,T,F,F,F,F,F,F] rfl rfl (any_of HT_.out kr) (fun _ _ _ h => h) (Or.inr ⟨by rfl, rfl⟩) ?_ ?_
            rotate_left
            ·simp only [Act.put, List.setIfInBounds_toArray, List.set_cons_zero, List.set_cons_succ, i64_w, i32_w]
             rfl
            refine pure_ (i := 22) (N := some 76) (v := undef) (a' := ?_) #[T,T,T,T,T,T,T,T,T,T,T,T,T,T,T,T,T,T,T,T,T,T,T,F,F,F,F,F] rfl rfl (any_of HT_.out kr) (fun _ _ _ h => h) (Or.inr ⟨by rfl, rfl⟩) ?_ ?_
            rotate_left
            ·simp only [Act.put, List.setIfInBounds_toArray, List.set_cons_zero, List.set_cons_succ, i64_w, i32_w]
             rfl
            refine pure_ (i := 23) (N := some 77) (v := undef) (a' := ?_) #[T,T,T,T,T,T,T,T,T,T,T,T,T,T,T,T,T,T,T,T,T,T,T,T,F,F,F,F] rfl rfl (any_of HT_.out kr) (fun _ _ _ h => h) (Or.inr ⟨by rfl, rfl⟩) ?_ ?_
            rotate_left
            ·simp only [Act.put, List.setIfInBounds_toArray, List.set_cons_zero, List.set_cons_succ, i64_w, i32_w]
             rfl
            refine pure_ (i := 24) (N := some 78) (v := undef) (a' := ?_) #[T,T,T,T,T,T,T,T,T,T,T,T,T,T,T,T,T,T,T,T,T,T,T,T,T,F,F,F] rfl rfl (any_of HT_.out kr) (fun _ _ _ h => h) (Or.inr ⟨by rfl, rfl⟩) ?_ ?_
            rotate_left
            ·simp only [Act.put, List.setIfInBounds_toArray, List.set_cons_zero, List.set_cons_succ, i64_w, i32_w]
             rfl
            refine pure_ (i := 25) (N := some 79) (v := undef) (a' := ?_) #[T,T,T,T,T,T,T,T,T,T,T,T,T,T,T,T,T,T,T,T,T,T,T,T,T,T,F,F] rfl rfl (any_of HT_.out kr) (fun _ _ _ h => h) (Or.inr ⟨by rfl, rfl⟩) ?_ ?_
            rotate_left
            ·simp only [Act.put, List.setIfInBounds_toArray, List.set_cons_zero, List.set_cons_succ, i64_w, i32_w]
             rfl
            refine pure_ (i := 26) (N := some 80) (v := undef) (a' := ?_) #[T,T,T,T,T,T,T,T,T,T,T,T,T,T,T,T,T,T,T,T,T,T,T,T,T,T,T,F] rfl rfl (any_of HT_.out kr) (fun _ _ _ h => h) (Or.inr ⟨by rfl, rfl⟩) ?_ ?_
            rotate_left
            ·simp only [Act.put, List.setIfInBounds_toArray, List.set_cons_zero, List.set_cons_succ, i64_w, i32_w]
             rfl
            refine pure_ (i := 27) (N := some 81) (v := ?_) (a' := ?_) #[T,T,T,T,T,T,T,T,T,T,T,T,T,T,T,T,T,T,T,T,T,T,T,T,T,T,T,T] rfl rfl (any_of HT_.out kr) (fun _ _ _ h => h) (Or.inl ⟨by rfl, ?_⟩) ?_ ?_
            rotate_left
            ·intro w'
             go_simp
             with_reducible rfl
            rotate_left
            ·simp only [Act.put, List.setIfInBounds_toArray, List.set_cons_zero, List.set_cons_succ, i64_w, i32_w]
             rfl
            refine done_ (done_of HT_.out kr) ?_
            try go_wp2
            go_roundg k2
            case measure => have := HJ5.out; have := HK2.out; omega
            case rel => exact ⟨(wrap64 (x9_2 + 1)), (by first | rfl | (simp; done) | (simp [*]; done)), H', ⟨by have := HJ5.out; have := HK2.out; omega⟩, ⟨by (with_reducible repeat (first | apply Kd.S_alloc | apply Kd.S_drewN | apply Kd.S_drew)); exact HO_394001.out⟩, ⟨by (with_reducible repeat (first | apply Kd.R_alloc | apply Kd.R_drewN | apply Kd.R_drew)); exact HO_394002.out⟩, ⟨by (with_reducible repeat (first | apply Kd.V_alloc | apply Kd.V_drewN | apply Kd.V_drew)); exact HO_404001.out⟩, ⟨by (with_reducible repeat (first | apply Kd.R_alloc | apply Kd.R_drewN | apply Kd.R_drew)); exact HO_404002.out⟩, ⟨by (with_reducible repeat (first | apply Kd.S_alloc | apply Kd.S_drewN | apply Kd.S_drew)); exact HO_414001.out⟩, ⟨by (with_reducible repeat (first | apply Kd.R_alloc | apply Kd.R_drewN | apply Kd.R_drew)); exact HO_414002.out⟩, ⟨by (with_reducible repeat (first | refine blk_drewN ?_ _ | refine blk_drew ?_ | refine blk_alloc ?_ _)); exact BK393.out⟩, ⟨by (with_reducible repeat (first | refine blk_drewN ?_ _ | refine blk_drew ?_ | refine blk_alloc ?_ _)); exact BK403.out⟩, ⟨by (with_reducible repeat (first | refine blk_drewN ?_ _ | refine blk_drew ?_ | refine blk_alloc ?_ _)); exact BK413.out⟩, ⟨by repeat (first | (with_reducible first | exact HB.out | apply below_alloc | apply pw_below_drewN | apply below_drew1 | refine below_set ?_ GE393.out | refine below_set ?_ GE403.out | refine below_set ?_ GE413.out) | exact HB.out)⟩⟩
           ·rw [if_neg c49] at H
            have c49b0 : ((rd t388 x9_2) == t392) = false := beq_eq_false_iff_ne.mpr c49
            have c49b1 : ((rd t388 x9_2) != t392) = true := bne_iff_ne.mpr c49
            by_cases c54 : x9_2 < (t398.length : Int)
            ·rw [if_pos c54] at H
             have c54b0 : decide (x9_2 < (t398.length : Int)) = true := decide_eq_true c54
             clear c54
             by_cases c55 : (rd t398 x9_2) = (rd t388 x9_2)
             ·rw [if_pos c55] at H
              have c55b0 : ((rd t398 x9_2) == (rd t388 x9_2)) = true := beq_iff_eq.mpr c55
              have c55b1 : ((rd t398 x9_2) != (rd t388 x9_2)) = false := bne_eq_false_iff_eq.mpr c55
              clear c55
              have H' := Aside0.mk H
              clear H
              have hnb56 := NB393_403.out
              have hnc56 := NB403_393.out
              have hnb57 := NB393_413.out
              have hnc57 := NB413_393.out
              have hcz58_0 : wr.cell? ⟨gb393, 0, none⟩ = some (.int .i64 t384) := (blk_cell BK393.out 0).trans rfl
              have hcz58_1 : wr.cell? ⟨gb393, 1, none⟩ = some (.slice Ao10 t385.length co10) := (blk_cell BK393.out 1).trans rfl
              have hcz58_2 : wr.cell? ⟨gb393, 2, none⟩ = some (.slice Ao11 t388.length co11) := (blk_cell BK393.out 2).trans rfl
              have hcz58_3 : wr.cell? ⟨gb393, 3, none⟩ = some (.int .i64 t391) := (blk_cell BK393.out 3).trans rfl
              have hfz58_0 := blk_frozen BK393.out 0
              have hfz58_1 := blk_frozen BK393.out 1
              have hfz58_2 := blk_frozen BK393.out 2
              have hfz58_3 := blk_frozen BK393.out 3
              try go_wp2
              have n0_ := Aside0.mk (Kd.S_drew HO_394001.out)
              have n1_ := Aside0.mk (Kd.R_drew HO_394002.out)
              have n2_ := Aside0.mk (Kd.V_drew HO_404001.out)
              have n3_ := Aside0.mk (Kd.R_drew HO_404002.out)
              have n4_ := Aside0.mk (Kd.S_drew HO_414001.out)
              have n5_ := Aside0.mk (Kd.R_drew HO_414002.out)
              have n6_ := Aside0.mk (blk_drew BK393.out)
              have n7_ := Aside0.mk (blk_drew BK403.out)
              have n8_ := Aside0.mk (blk_drew BK413.out)
              have n9_ := Aside0.mk (below_drew1 HB.out)
              clear HO_394001
              clear HO_394002
              clear HO_404001
              clear HO_404002
              clear HO_414001
              clear HO_414002
              clear BK393
              clear BK403
              clear BK413
              clear HB
              have HO_394001 := n0_
              have HO_394002 := n1_
              have HO_404001 := n2_
              have HO_404002 := n3_
              have HO_414001 := n4_
              have HO_414002 := n5_
              have BK393 := n6_
              have BK403 := n7_
              have BK413 := n8_
              have HB := n9_
              clear n0_ n1_ n2_ n3_ n4_ n5_ n6_ n7_ n8_ n9_
              have p417 : 0 ≤ (x9_2 : Int) := oda
              have q417 : x9_2 < (t388.length : Int) := oda
              obtain ⟨ad417, e417, hx417_0⟩ := Kd.at_int (Kd.R_reads' HO_394002.out).2.2 x9_2 p417 q417
              cases e417
              replace p417 := eq_true p417
              replace q417 := eq_true q417
              have p418 : 0 ≤ (x9_2 : Int) := oda
              have q418 : x9_2 < (t388.length : Int) := oda
              obtain ⟨ad418, e418, hx418_0⟩ := Kd.at_int (Kd.R_reads' HO_394002.out).2.2 x9_2 p418 q418
              obtain rfl : ad417 = ad418 := (by injection e418)
              replace p418 := eq_true p418
              replace q418 := eq_true q418
              have p419 : 0 ≤ (x9_2 : Int) := oda
              have q419 : x9_2 < (t398.length : Int) := oda
              obtain ⟨ad419, e419, hx419_0⟩ := Kd.at_int (Kd.R_reads' HO_404002.out).2.2 x9_2 p419 q419
              cases e419
              replace p419 := eq_true p419
              replace q419 := eq_true q419
              have p420 : 0 ≤ (x9_2 : Int) := oda
              have q420 : x9_2 < (t388.length : Int) := oda
              obtain ⟨ad420, e420, hx420_0⟩ := Kd.at_int (Kd.R_reads' HO_394002.out).2.2 x9_2 p420 q420
              obtain rfl : ad417 = ad420 := (by injection e420)
              replace p420 := eq_true p420
              replace q420 := eq_true q420
              refine start_ (n := 28) (S := fun w' => w'.cell? ⟨gb393, 0, none⟩ = some (.int .i64 t384) ∧ w'.cell? ⟨gb393, 1, none⟩ = some (.slice Ao10 t385.length co10) ∧ w'.cell? ⟨gb393, 2, none⟩ = some (.slice (some ad417) t388.length co11) ∧ w'.cell? ⟨gb393, 3, none⟩ = some (.int .i64 t391) ∧ w'.cell? ⟨gb403, 0, none⟩ = some (.int .i64 t394) ∧ w'.cell? ⟨gb403, 1, none⟩ = some (.slice Ao16 t395.length co16) ∧ w'.cell? ⟨gb403, 2, none⟩ = some (.slice (some ad419) t398.length co17) ∧ w'.cell? ⟨gb403, 3, none⟩ = some (.int .i64 t401) ∧ w'.cell? (ad417.add (x9_2).toNat) = some (.int .i64 (rd t388 x9_2)) ∧ w'.cell? (ad417.add (x9_2).toNat) = some (.int .i64 (rd t388 x9_2)) ∧ w'.cell? (ad419.add (x9_2).toNat) = some (.int .i64 (rd t398 x9_2)) ∧ w'.cell? (ad417.add (x9_2).toNat) = some (.int .i64 (rd t388 x9_2))) (ds := []) #[F,F,F,F,F,F,F,F,F,F,F,F,F,F,F,F,F,F,F,F,F,F,F,F,F,F,F,F] kr rfl rfl ⟨(blk_cell BK393.out 0).trans rfl, (blk_cell BK393.out 1).trans rfl, (blk_cell BK393.out 2).trans rfl, (blk_cell BK393.out 3).trans rfl, (blk_cell BK403.out 0).trans rfl, (blk_cell BK403.out 1).trans rfl, (blk_cell BK403.out 2).trans rfl, (blk_cell BK403.out 3).trans rfl, hx417_0, hx418_0, hx419_0, hx420_0⟩ (fun hHeld => ?_); refine with_tabW laws_FnAfterDeath.tab13 laws_FnAfterDeath.bits13 (fun HT_ HW_ => ?_)
              generalize wr.drew = w59 at HO_394001 HO_394002 HO_404001 HO_404002 HO_414001 HO_414002 BK393 BK403 BK413 HB hx417_0 hx418_0 hx419_0 hx420_0 hHeld ⊢
              refine pure_ (i := 0) (N := some 54) (v := ?_) (a' := ?_) #[T,F,F,F,F,F,F,F,F,F,F,F,F,F,F,F,F,F,F,F,F,F,F,F,F,F,F,F] rfl rfl (any_of HT_.out kr) (fun _ _ _ h => h) (Or.inl ⟨by rfl, ?_⟩) ?_ ?_
              rotate_left
              ·intro w'
               go_simp
               with_reducible rfl
              rotate_left
              ·simp only [Act.put, List.setIfInBounds_toArray, List.set_cons_zero, List.set_cons_succ, i64_w, i32_w]
               rfl
              refine pure_ (i := 2) (N := some 56) (v := ?_) (a' := ?_) #[T,F,T,F,F,F,F,F,F,F,F,F,F,F,F,F,F,F,F,F,F,F,F,F,F,F,F,F] rfl rfl (any_of HT_.out kr) (fun _ _ _ h => h) (Or.inl ⟨by rfl, ?_⟩) ?_ ?_
              rotate_left
              ·intro w'
               go_simp
               with_reducible rfl
              rotate_left
              ·simp only [Act.put, List.setIfInBounds_toArray, List.set_cons_zero, List.set_cons_succ, i64_w, i32_w]
               rfl
              refine take_ (i := 1) (N := some 55) (v := ?_) (a' := ?_) #[T,T,T,F,F,F,F,F,F,F,F,F,F,F,F,F,F,F,F,F,F,F,F,F,F,F,F,F] rfl rfl (take_ofW HT_.out HW_.out kr) (fun _ _ _ h => h) (Or.inl ⟨by rfl, ?_⟩) hHeld ?_ ?_
              rotate_left
              ·rintro w' ⟨s0, s1, s2, s3, s4, s5, s6, s7, s8, s9, s10, s11⟩
               go_simp
               with_reducible rfl
              rotate_left
              ·simp only [Act.put, List.setIfInBounds_toArray, List.set_cons_zero, List.set_cons_succ, i64_w, i32_w]
               rfl
              refine pure_ (i := 3) (N := some 57) (v := ?_) (a' := ?_) #[T,T,T,T,F,F,F,F,F,F,F,F,F,F,F,F,F,F,F,F,F,F,F,F,F,F,F,F] rfl rfl (any_of HT_.out kr) (fun _ _ _ h => h) (Or.inl ⟨by rfl, ?_⟩) ?_ ?_
              rotate_left
              ·intro w'
               go_simp
               with_reducible rfl
              rotate_left
              ·simp only [Act.put, List.setIfInBounds_toArray, List.set_cons_zero, List.set_cons_succ, i64_w, i32_w]
               rfl
              refine take_ (i := 4) (N := some 58) (v := ?_) (a' := ?_) #[T,T,T,T,T,F,F,F,F,F,F,F,F,F,F,F,F,F,F,F,F,F,F,F,F,F,F,F] rfl rfl (take_ofW HT_.out HW_.out kr) (fun _ _ _ h => h) (Or.inl ⟨by rfl, ?_⟩) hHeld ?_ ?_
              rotate_left
              ·rintro w' ⟨s0, s1, s2, s3, s4, s5, s6, s7, s8, s9, s10, s11⟩
               go_simp
               with_reducible rfl
              rotate_left
              ·simp only [Act.put, List.setIfInBounds_toArray, List.set_cons_zero, List.set_cons_succ, i64_w, i32_w]
               rfl
              refine pure_ (i := 5) (N := some 59) (v := ?_) (a' := ?_) #[T,T,T,T,T,T,F,F,F,F,F,F,F,F,F,F,F,F,F,F,F,F,F,F,F,F,F,F] rfl rfl (any_of HT_.out kr) (fun _ _ _ h => h) (Or.inl ⟨by rfl, ?_⟩) ?_ ?_
              rotate_left
              ·intro w'
               go_simp
               with_reducible rfl
              rotate_left
              ·simp only [Act.put, List.setIfInBounds_toArray, List.set_cons_zero, List.set_cons_succ, i64_w, i32_w]
               rfl
              refine pure_ (i := 6) (N := some 60) (v := ?_) (a' := ?_) #[T,T,T,T,T,T,T,F,F,F,F,F,F,F,F,F,F,F,F,F,F,F,F,F,F,F,F,F] rfl rfl (any_of HT_.out kr) (fun _ _ _ h => h) (Or.inl ⟨by rfl, ?_⟩) ?_ ?_
              rotate_left
              ·intro w'
               go_simp
               with_reducible rfl
              rotate_left
              ·simp only [Act.put, List.setIfInBounds_toArray, List.set_cons_zero, List.set_cons_succ, i64_w, i32_w]
               rfl
              refine pure_ (i := 7) (N := some 61) (v := ?_) (a' := ?_) #[T,T,T,T,T,T,T,T,F,F,F,F,F,F,F,F,F,F,F,F,F,F,F,F,F,F,F,F] rfl rfl (any_of HT_.out kr) (fun _ _ _ h => h) (Or.inl ⟨by rfl, ?_⟩) ?_ ?_
              rotate_left
              ·intro w'
               go_simp
               with_reducible rfl
              rotate_left
              ·simp only [Act.put, List.setIfInBounds_toArray, List.set_cons_zero, List.set_cons_succ, i64_w, i32_w]
               rfl
              refine pure_ (i := 9) (N := some 63) (v := ?_) (a' := ?_) #[T,T,T,T,T,T,T,T,F,T,F,F,F,F,F,F,F,F,F,F,F,F,F,F,F,F,F,F] rfl rfl (any_of HT_.out kr) (fun _ _ _ h => h) (Or.inl ⟨by rfl, ?_⟩) ?_ ?_
              rotate_left
              ·intro w'
               go_simp
               with_reducible rfl
              rotate_left
              ·simp only [Act.put, List.setIfInBounds_toArray, List.set_cons_zero, List.set_cons_succ, i64_w, i32_w]
               rfl
              refine pure_ (i := 12) (N := some 66) (v := ?_) (a' := ?_) #[T,T,T,T,T,T,T,T,F,T,F,F,T,F,F,F,F,F,F,F,F,F,F,F,F,F,F,F] rfl rfl (any_of HT_.out kr) (fun _ _ _ h => h) (Or.inl ⟨by rfl, ?_⟩) ?_ ?_
              rotate_left
              ·intro w'
               go_simp
               with_reducible rfl
              rotate_left
              ·simp only [Act.put, List.setIfInBounds_toArray, List.set_cons_zero, List.set_cons_succ, i64_w, i32_w]
               rfl
              refine take_ (i := 8) (N := some 62) (v := ?_) (a' := ?_) #[T,T,T,T,T,T,T,T,T,T,F,F,T,F,F,F,F,F,F,F,F,F,F,F,F,F,F,F] rfl rfl (take_ofW HT_.out HW_.out kr) (fun _ _ _ h => h) (Or.inl ⟨by rfl, ?_⟩) hHeld ?_ ?_
              rotate_left
              ·rintro w' ⟨s0, s1, s2, s3, s4, s5, s6, s7, s8, s9, s10, s11⟩
               go_simp
               with_reducible rfl
              rotate_left
              ·simp only [Act.put, List.setIfInBounds_toArray, List.set_cons_zero, List.set_cons_succ, i64_w, i32_w]
               rfl
              refine pure_ (i := 10) (N := some 64) (v := ?_) (a' := ?_) #[T,T,T,T,T,T,T,T,T,T,T,F,T,F,F,F,F,F,F,F,F,F,F,F,F,F,F,F] rfl rfl (any_of HT_.out kr) (fun _ _ _ h => h) (Or.inl ⟨by rfl, ?_⟩) ?_ ?_
              rotate_left
              ·intro w'
               go_simp
               with_reducible rfl
              rotate_left
              ·simp only [Act.put, List.setIfInBounds_toArray, List.set_cons_zero, List.set_cons_succ, i64_w, i32_w]
               rfl
              refine take_ (i := 11) (N := some 65) (v := ?_) (a' := ?_) #[T,T,T,T,T,T,T,T,T,T,T,T,T,F,F,F,F,F,F,F,F,F,F,F,F,F,F,F] rfl rfl (take_ofW HT_.out HW_.out kr) (fun _ _ _ h => h) (Or.inl ⟨by rfl, ?_⟩) hHeld ?_ ?_
              rotate_left
              ·rintro w' ⟨s0, s1, s2, s3, s4, s5, s6, s7, s8, s9, s10, s11⟩
               go_simp
               with_reducible rfl
              rotate_left
              ·simp only [Act.put, List.setIfInBounds_toArray, List.set_cons_zero, List.set_cons_succ, i64_w, i32_w]
               rfl
              refine pure_ (i := 13) (N := some 67) (v := ?_) (a' := ?_) #[T,T,T,T,T,T,T,T,T,T,T,T,T,T,F,F,F,F,F,F,F,F,F,F,F,F,F,F] rfl rfl (any_of HT_.out kr) (fun _ _ _ h => h) (Or.inl ⟨by rfl, ?_⟩) ?_ ?_
              rotate_left
              ·intro w'
               go_simp
               with_reducible rfl
              rotate_left
              ·simp only [Act.put, List.setIfInBounds_toArray, List.set_cons_zero, List.set_cons_succ, i64_w, i32_w]
               rfl
              refine pure_ (i := 14) (N := some 68) (v := ?_) (a' := ?_) #[T,T,T,T,T,T,T,T,T,T,T,T,T,T,T,F,F,F,F,F,F,F,F,F,F,F,F,F] rfl rfl (any_of HT_.out kr) (fun _ _ _ h => h) (Or.inl ⟨by rfl, ?_⟩) ?_ ?_
              rotate_left
              ·intro w'
               go_simp
               with_reducible rfl
              rotate_left
              ·simp only [Act.put, List.setIfInBounds_toArray, List.set_cons_zero, List.set_cons_succ, i64_w, i32_w]
               rfl
              refine pure_ (i := 15) (N := some 69) (v := ?_) (a' := ?_) #[T,T,T,T,T,T,T,T,T,T,T,T,T,T,T,T,F,F,F,F,F,F,F,F,F,F,F,F] rfl rfl (any_of HT_.out kr) (fun _ _ _ h => h) (Or.inl ⟨by rfl, ?_⟩) ?_ ?_
              rotate_left
              ·intro w'
               go_simp
               with_reducible rfl
              rotate_left
              ·simp only [Act.put, List.setIfInBounds_toArray, List.set_cons_zero, List.set_cons_succ, i64_w, i32_w]
               rfl
              refine pure_ (i := 16) (N := some 70) (v := ?_) (a' := ?_) #[T,T,T,T,T,T,T,T,T,T,T,T,T,T,T,T,T,F,F,F,F,F,F,F,F,F,F,F] rfl rfl (any_of HT_.out kr) (fun _ _ _ h => h) (Or.inl ⟨by rfl, ?_⟩) ?_ ?_
              rotate_left
              ·intro w'
               go_simp
               with_reducible rfl
              rotate_left
              ·simp only [Act.put, List.setIfInBounds_toArray, List.set_cons_zero, List.set_cons_succ, i64_w, i32_w]
               rfl
              refine pure_ (i := 18) (N := some 72) (v := ?_) (a' := ?_) #[T,T,T,T,T,T,T,T,T,T,T,T,T,T,T,T,T,F,T,F,F,F,F,F,F,F,F,F] rfl rfl (any_of HT_.out kr) (fun _ _ _ h => h) (Or.inl ⟨by rfl, ?_⟩) ?_ ?_
              rotate_left
              ·intro w'
               go_simp
               with_reducible rfl
              rotate_left
              ·simp only [Act.put, List.setIfInBounds_toArray, List.set_cons_zero, List.set_cons_succ, i64_w, i32_w]
               rfl
              refine pure_ (i := 21) (N := some 75) (v := ?_) (a' := ?_) #[T,T,T,T,T,T,T,T,T,T,T,T,T,T,T,T,T,F,T,F,F,T,F,F,F,F,F,F] rfl rfl (any_of HT_.out kr) (fun _ _ _ h => h) (Or.inl ⟨by rfl, ?_⟩) ?_ ?_
              rotate_left
              ·intro w'
               go_simp
               with_reducible rfl
              rotate_left
              ·simp only [Act.put, List.setIfInBounds_toArray, List.set_cons_zero, List.set_cons_succ, i64_w, i32_w]
               rfl
              refine pure_ (i := 23) (N := some 77) (v := ?_) (a' := ?_) #[T,T,T,T,T,T,T,T,T,T,T,T,T,T,T,T,T,F,T,F,F,T,F,T,F,F,F,F] rfl rfl (any_of HT_.out kr) (fun _ _ _ h => h) (Or.inl ⟨by rfl, ?_⟩) ?_ ?_
              rotate_left
              ·intro w'
               go_simp
               with_reducible rfl
              rotate_left
              ·simp only [Act.put, List.setIfInBounds_toArray, List.set_cons_zero, List.set_cons_succ, i64_w, i32_w]
               rfl
              refine take_ (i := 17) (N := some 71) (v := ?_) (a' := ?_) #[T,T,T,T,T,T,T,T,T,T,T,T,T,T,T,T,T,T,T,F,F,T,F,T,F,F,F,F] rfl rfl (take_ofW HT_.out HW_.out kr) (fun _ _ _ h => h) (Or.inl ⟨by rfl, ?_⟩) hHeld ?_ ?_
              rotate_left
              ·rintro w' ⟨s0, s1, s2, s3, s4, s5, s6, s7, s8, s9, s10, s11⟩
               go_simp
               with_reducible rfl
              rotate_left
              ·simp only [Act.put, List.setIfInBounds_toArray, List.set_cons_zero, List.set_cons_succ, i64_w, i32_w]
               rfl
              refine pure_ (i := 19) (N := some 73) (v := ?_) (a' := ?_) #[T,T,T,T,T,T,T,T,T,T,T,T,T,T,T,T,T,T,T,T,F,T,F,T,F,F,F,F] rfl rfl (any_of HT_.out kr) (fun _ _ _ h => h) (Or.inl ⟨by rfl, ?_⟩) ?_ ?_
              rotate_left
              ·intro w'
               go_simp
               with_reducible rfl
              rotate_left
              ·simp only [Act.put, List.setIfInBounds_toArray, List.set_cons_zero, List.set_cons_succ, i64_w, i32_w]
               rfl
              refine take_ (i := 20) (N := some 74) (v := ?_) (a' := ?_) #[T,T,T,T,T,T,T,T,T,T,T,T,T,T,T,T,T,T,T,T,T,T,F,T,F,F,F,F] rfl rfl (take_ofW HT_.out HW_.out kr) (fun _ _ _ h => h) (Or.inl ⟨by rfl, ?_⟩) hHeld ?_ ?_
              rotate_left
              ·rintro w' ⟨s0, s1, s2, s3, s4, s5, s6, s7, s8, s9, s10, s11⟩
               go_simp
               with_reducible rfl
              rotate_left
              ·simp only [Act.put, List.setIfInBounds_toArray, List.set_cons_zero, List.set_cons_succ, i64_w, i32_w]
               rfl
              refine take_ (i := 22) (N := some 76) (v := ?_) (a' := ?_) #[T,T,T,T,T,T,T,T,T,T,T,T,T,T,T,T,T,T,T,T,T,T,T,T,F,F,F,F] rfl rfl (take_ofW HT_.out HW_.out kr) (fun _ _ _ h => h) (Or.inl ⟨by rfl, ?_⟩) hHeld ?_ ?_
              rotate_left
              ·rintro w' ⟨s0, s1, s2, s3, s4, s5, s6, s7, s8, s9, s10, s11⟩
               go_simp
               with_reducible rfl
              rotate_left
              ·simp only [Act.put, List.setIfInBounds_toArray, List.set_cons_zero, List.set_cons_succ, i64_w, i32_w]
               rfl
              refine pure_ (i := 24) (N := some 78) (v := ?_) (a' := ?_) #[T,T,T,T,T,T,T,T,T,T,T,T,T,T,T,T,T,T,T,T,T,T,T,T,T,F,F,F] rfl rfl (any_of HT_.out kr) (fun _ _ _ h => h) (Or.inl ⟨by rfl, ?_⟩) ?_ ?_
              rotate_left
              ·intro w'
               go_simp
               with_reducible rfl
              rotate_left
              ·simp only [Act.put, List.setIfInBounds_toArray, List.set_cons_zero, List.set_cons_succ, i64_w, i32_w]
               rfl
              refine take_ (i := 25) (N := some 79) (v := ?_) (a' := ?_) #[T,T,T,T,T,T,T,T,T,T,T,T,T,T,T,T,T,T,T,T,T,T,T,T,T,T,F,F] rfl rfl (take_ofW HT_.out HW_.out kr) (fun _ _ _ h => h) (Or.inl ⟨by rfl, ?_⟩) hHeld ?_ ?_
              rotate_left
              ·rintro w' ⟨s0, s1, s2, s3, s4, s5, s6, s7, s8, s9, s10, s11⟩
               go_simp
               with_reducible rfl
              rotate_left
              ·simp only [Act.put, List.setIfInBounds_toArray, List.set_cons_zero, List.set_cons_succ, i64_w, i32_w]
               rfl
              refine pure_ (i := 26) (N := some 80) (v := ?_) (a' := ?_) #[T,T,T,T,T,T,T,T,T,T,T,T,T,T,T,T,T,T,T,T,T,T,T,T,T,T,T,F] rfl rfl (any_of HT_.out kr) (fun _ _ _ h => h) (Or.inl ⟨by rfl, ?_⟩) ?_ ?_
              rotate_left
              ·intro w'
               go_simp
               with_reducible rfl
              rotate_left
              ·simp only [Act.put, List.setIfInBounds_toArray, List.set_cons_zero, List.set_cons_succ, i64_w, i32_w]
               rfl
              refine pure_ (i := 27) (N := some 81) (v := ?_) (a' := ?_) #[T,T,T,T,T,T,T,T,T,T,T,T,T,T,T,T,T,T,T,T,T,T,T,T,T,T,T,T] rfl rfl (any_of HT_.out kr) (fun _ _ _ h => h) (Or.inl ⟨by rfl, ?_⟩) ?_ ?_
              rotate_left
              ·intro w'
               go_simp
               with_reducible rfl
              rotate_left
              ·simp only [Act.put, List.setIfInBounds_toArray, List.set_cons_zero, List.set_cons_succ, i64_w, i32_w]
               rfl
              refine done_ (done_of HT_.out kr) ?_
              try go_wp2
              go_roundg k2
              case measure => have := HJ5.out; have := HK2.out; omega
              case rel => exact ⟨(wrap64 (x9_2 + 1)), (by first | rfl | (simp; done) | (simp [*]; done)), H', ⟨by have := HJ5.out; have := HK2.out; omega⟩, ⟨by (with_reducible repeat (first | apply Kd.S_alloc | apply Kd.S_drewN | apply Kd.S_drew)); exact HO_394001.out⟩, ⟨by (with_reducible repeat (first | apply Kd.R_alloc | apply Kd.R_drewN | apply Kd.R_drew)); exact HO_394002.out⟩, ⟨by (with_reducible repeat (first | apply Kd.V_alloc | apply Kd.V_drewN | apply Kd.V_drew)); exact HO_404001.out⟩, ⟨by (with_reducible repeat (first | apply Kd.R_alloc | apply Kd.R_drewN | apply Kd.R_drew)); exact HO_404002.out⟩, ⟨by (with_reducible repeat (first | apply Kd.S_alloc | apply Kd.S_drewN | apply Kd.S_drew)); exact HO_414001.out⟩, ⟨by (with_reducible repeat (first | apply Kd.R_alloc | apply Kd.R_drewN | apply Kd.R_drew)); exact HO_414002.out⟩, ⟨by (with_reducible repeat (first | refine blk_drewN ?_ _ | refine blk_drew ?_ | refine blk_alloc ?_ _)); exact BK393.out⟩, ⟨by (with_reducible repeat (first | refine blk_drewN ?_ _ | refine blk_drew ?_ | refine blk_alloc ?_ _)); exact BK403.out⟩, ⟨by (with_reducible repeat (first | refine blk_drewN ?_ _ | refine blk_drew ?_ | refine blk_alloc ?_ _)); exact BK413.out⟩, ⟨by repeat (first | (with_reducible first | exact HB.out | apply below_alloc | apply pw_below_drewN | apply below_drew1 | refine below_set ?_ GE393.out | refine below_set ?_ GE403.out | refine below_set ?_ GE413.out) | exact HB.out)⟩⟩
             ·rw [if_neg c55] at H
              exact absurd H (by simp)
            ·rw [if_neg c54] at H
             exact absurd H (by simp)
         ·rw [if_neg c43] at H
          exact absurd H (by simp)
        ·rw [if_neg c42] at H
         have c42b0 : decide (x9_2 < (t388.length : Int)) = false := decide_eq_false c42
         clear c42
         replace H := Option.bind_eq_some_iff.mp H
         obtain ⟨t421, A600, H⟩ := H
         replace H : (if t421 = true then ((impl_RestOk.f k2 t394 t395 t398 t401).bind fun t422 => (if t422 = true then (if 0 ≤ t392 then (if (Int.tmod (shr .i64 t401 t392) 2) = 0 then ((laws_hasInt.f k2 t398 t392).bind fun t423 => (if t423 = true then (none) else ((impl_VacantOf.f k2 t394 t395 t398 t401).bind fun t424 => ((impl_VacantOf.f k2 t384 t385 t388 t391).bind fun t427 => (some (decide ((t424.length : Int) ≤ (wrap64 ((t427.length : Int) + 1))))))))) else (none)) else (none)) else (none))) else (none)) = some r := H
         have A60 := Aside0.mk A600
         clear A600
         by_cases c61 : t421 = true
         ·subst c61
          have H1 : ((impl_RestOk.f k2 t394 t395 t398 t401).bind fun t422 => (if t422 = true then (if 0 ≤ t392 then (if (Int.tmod (shr .i64 t401 t392) 2) = 0 then ((laws_hasInt.f k2 t398 t392).bind fun t423 => (if t423 = true then (none) else ((impl_VacantOf.f k2 t394 t395 t398 t401).bind fun t424 => ((impl_VacantOf.f k2 t384 t385 t388 t391).bind fun t427 => (some (decide ((t424.length : Int) ≤ (wrap64 ((t427.length : Int) + 1))))))))) else (none)) else (none)) else (none))) = some r := by rw [if_pos rfl] at H; exact H
          clear H
          have H := H1
          clear H1
          replace H := Option.bind_eq_some_iff.mp H
          obtain ⟨t422, A620, H⟩ := H
          replace H : (if t422 = true then (if 0 ≤ t392 then (if (Int.tmod (shr .i64 t401 t392) 2) = 0 then ((laws_hasInt.f k2 t398 t392).bind fun t423 => (if t423 = true then (none) else ((impl_VacantOf.f k2 t394 t395 t398 t401).bind fun t424 => ((impl_VacantOf.f k2 t384 t385 t388 t391).bind fun t427 => (some (decide ((t424.length : Int) ≤ (wrap64 ((t427.length : Int) + 1))))))))) else (none)) else (none)) else (none)) = some r := H
          have A62 := Aside0.mk A620
          clear A620
          by_cases c63 : t422 = true
          ·subst c63
           have H1 : (if 0 ≤ t392 then (if (Int.tmod (shr .i64 t401 t392) 2) = 0 then ((laws_hasInt.f k2 t398 t392).bind fun t423 => (if t423 = true then (none) else ((impl_VacantOf.f k2 t394 t395 t398 t401).bind fun t424 => ((impl_VacantOf.f k2 t384 t385 t388 t391).bind fun t427 => (some (decide ((t424.length : Int) ≤ (wrap64 ((t427.length : Int) + 1))))))))) else (none)) else (none)) = some r := by rw [if_pos rfl] at H; exact H
           clear H
           have H := H1
           clear H1
           by_cases c64 : 0 ≤ t392
           ·rw [if_pos c64] at H
            have c64b0 := eq_true c64
            have c64b1 : decide (0 ≤ t392) = true := decide_eq_true c64
            clear c64
            obtain ⟨ji65, hji65⟩ : ∃ j_ : Int, (shr .i64 t401 t392) = j_ := ⟨_, rfl⟩
            replace H : (if (Int.tmod (ji65) 2) = 0 then ((laws_hasInt.f k2 t398 t392).bind fun t423 => (if t423 = true then (none) else ((impl_VacantOf.f k2 t394 t395 t398 t401).bind fun t424 => ((impl_VacantOf.f k2 t384 t385 t388 t391).bind fun t427 => (some (decide ((t424.length : Int) ≤ (wrap64 ((t427.length : Int) + 1))))))))) else (none)) = some r := by first | (rw [hji65] at H; exact H) | (simp only [hji65] at H ⊢; exact H)
            (try rw [hji65] at A60)
            (try rw [hji65] at A62)
            have hji65_ : (t401 / 2 ^ min t392.toNat 64) = ji65 := hji65
            have hji65z : t392 ≤ 64 → (t401 / 2 ^ t392.toNat) = ji65 := shr_small hji65
            by_cases c66 : (Int.tmod (ji65) 2) = 0
            ·rw [if_pos c66] at H
             have c66b0 : ((Int.tmod (ji65) 2) == 0) = true := beq_iff_eq.mpr c66
             have c66b1 : ((Int.tmod (ji65) 2) != 0) = false := bne_eq_false_iff_eq.mpr c66
             clear c66
             replace H := Option.bind_eq_some_iff.mp H
             obtain ⟨t423, A670, H⟩ := H
             replace H : (if t423 = true then (none) else ((impl_VacantOf.f k2 t394 t395 t398 t401).bind fun t424 => ((impl_VacantOf.f k2 t384 t385 t388 t391).bind fun t427 => (some (decide ((t424.length : Int) ≤ (wrap64 ((t427.length : Int) + 1)))))))) = some r := H
             have A67 := Aside0.mk A670
             clear A670
             by_cases c68 : t423 = true
             ·subst c68
              have H1 : (none) = some r := by rw [if_pos rfl] at H; exact H
              clear H
              have H := H1
              clear H1
              exact absurd H (by simp)
             ·replace c68 := Bool.eq_false_iff.mpr c68
              subst c68
              have H1 : ((impl_VacantOf.f k2 t394 t395 t398 t401).bind fun t424 => ((impl_VacantOf.f k2 t384 t385 t388 t391).bind fun t427 => (some (decide ((t424.length : Int) ≤ (wrap64 ((t427.length : Int) + 1))))))) = some r := by rw [if_neg (show ¬ (false = true) by decide)] at H; exact H
              clear H
              have H := H1
              clear H1
              replace H := Option.bind_eq_some_iff.mp H
              obtain ⟨t424, A690, H⟩ := H
              replace H : ((impl_VacantOf.f k2 t384 t385 t388 t391).bind fun t427 => (some (decide ((t424.length : Int) ≤ (wrap64 ((t427.length : Int) + 1)))))) = some r := H
              have A69 := Aside0.mk A690
              clear A690
              replace H := Option.bind_eq_some_iff.mp H
              obtain ⟨t427, A700, H⟩ := H
              replace H : (some (decide ((t424.length : Int) ≤ (wrap64 ((t427.length : Int) + 1))))) = some r := H
              have A70 := Aside0.mk A700
              clear A700
              obtain rfl := Option.some.inj H
              have hnb71 := NB393_403.out
              have hnc71 := NB403_393.out
              have hnb72 := NB393_413.out
              have hnc72 := NB413_393.out
              have hcz73_0 : wr.cell? ⟨gb393, 0, none⟩ = some (.int .i64 t384) := (blk_cell BK393.out 0).trans rfl
              have hcz73_1 : wr.cell? ⟨gb393, 1, none⟩ = some (.slice Ao10 t385.length co10) := (blk_cell BK393.out 1).trans rfl
              have hcz73_2 : wr.cell? ⟨gb393, 2, none⟩ = some (.slice Ao11 t388.length co11) := (blk_cell BK393.out 2).trans rfl
              have hcz73_3 : wr.cell? ⟨gb393, 3, none⟩ = some (.int .i64 t391) := (blk_cell BK393.out 3).trans rfl
              have hfz73_0 := blk_frozen BK393.out 0
              have hfz73_1 := blk_frozen BK393.out 1
              have hfz73_2 := blk_frozen BK393.out 2
              have hfz73_3 := blk_frozen BK393.out 3
              try go_wp2
              have n0_ := Aside0.mk (Kd.S_drew HO_394001.out)
              have n1_ := Aside0.mk (Kd.R_drew HO_394002.out)
              have n2_ := Aside0.mk (Kd.V_drew HO_404001.out)
              have n3_ := Aside0.mk (Kd.R_drew HO_404002.out)
              have n4_ := Aside0.mk (Kd.S_drew HO_414001.out)
              have n5_ := Aside0.mk (Kd.R_drew HO_414002.out)
              have n6_ := Aside0.mk (blk_drew BK393.out)
              have n7_ := Aside0.mk (blk_drew BK403.out)
              have n8_ := Aside0.mk (blk_drew BK413.out)
              have n9_ := Aside0.mk (below_drew1 HB.out)
              clear HO_394001
              clear HO_394002
              clear HO_404001
              clear HO_404002
              clear HO_414001
              clear HO_414002
              clear BK393
              clear BK403
              clear BK413
              clear HB
              have HO_394001 := n0_
              have HO_394002 := n1_
              have HO_404001 := n2_
              have HO_404002 := n3_
              have HO_414001 := n4_
              have HO_414002 := n5_
              have BK393 := n6_
              have BK403 := n7_
              have BK413 := n8_
              have HB := n9_
              clear n0_ n1_ n2_ n3_ n4_ n5_ n6_ n7_ n8_ n9_
              refine start_ (n := 32) (S := fun w' => w'.cell? ⟨gb403, 0, none⟩ = some (.int .i64 t394) ∧ w'.cell? ⟨gb403, 1, none⟩ = some (.slice Ao16 t395.length co16) ∧ w'.cell? ⟨gb403, 2, none⟩ = some (.slice Ao17 t398.length co17) ∧ w'.cell? ⟨gb403, 3, none⟩ = some (.int .i64 t401) ∧ w'.cell? ⟨gb393, 0, none⟩ = some (.int .i64 t384) ∧ w'.cell? ⟨gb393, 1, none⟩ = some (.slice Ao10 t385.length co10) ∧ w'.cell? ⟨gb393, 2, none⟩ = some (.slice Ao11 t388.length co11) ∧ w'.cell? ⟨gb393, 3, none⟩ = some (.int .i64 t391)) (ds := []) #[F,F,F,F,F,F,F,F,F,F,F,F,F,F,F,F,F,F,F,F,F,F,F,F,F,F,F,F,F,F,F,F] kr rfl rfl ⟨(blk_cell BK403.out 0).trans rfl, (blk_cell BK403.out 1).trans rfl, (blk_cell BK403.out 2).trans rfl, (blk_cell BK403.out 3).trans rfl, (blk_cell BK393.out 0).trans rfl, (blk_cell BK393.out 1).trans rfl, (blk_cell BK393.out 2).trans rfl, (blk_cell BK393.out 3).trans rfl⟩ (fun hHeld => ?_); refine with_tabW laws_FnAfterDeath.tab15 laws_FnAfterDeath.bits15 (fun HT_ HW_ => ?_)
              generalize wr.drew = w74 at HO_394001 HO_394002 HO_404001 HO_404002 HO_414001 HO_414002 BK393 BK403 BK413 HB hHeld ⊢
              refine take_ (i := 0) (N := some 82) (v := ?_) (a' := ?_) #[T,F,F,F,F,F,F,F,F,F,F,F,F,F,F,F,F,F,F,F,F,F,F,F,F,F,F,F,F,F,F,F] rfl rfl (take_ofW HT_.out HW_.out kr) (fun _ _ _ h => h) (Or.inl ⟨by rfl, ?_⟩) hHeld ?_ ?_
              rotate_left
              ·rintro w' ⟨s0, s1, s2, s3, s4, s5, s6, s7⟩
               go_simp
               with_reducible rfl
              rotate_left
              ·simp only [Act.put, List.setIfInBounds_toArray, List.set_cons_zero, List.set_cons_succ, i64_w, i32_w]
               rfl
              refine one_ (i := 1) (N := some 83) #[T,T,F,F,F,F,F,F,F,F,F,F,F,F,F,F,F,F,F,F,F,F,F,F,F,F,F,F,F,F,F,F] rfl rfl (one_of HT_.out kr) (by decide) (fun K hK => ?_)
              refine goes_ Try.func19 kr rfl #[.agg #[.int .i64 t394, .slice Ao16 t395.length co16, .slice Ao17 t398.length co17, .int .i64 t401]] (by rfl) rfl rfl lm ?_
              with_reducible refine (impl_CourtOk.calls k2 t394 _ _ t395 _ _ t398 t401 true _ ?side1 ?side2 ?side3 ?side4 A60.out).mono ?_
              (case side1 => repeat (first | exact (Kd.V_reads' HO_404001.out).2.2 | (with_reducible refine Kd.C_alloc ?_ _) | (with_reducible refine Kd.C_drewN ?_ _) | (with_reducible refine Kd.C_drew ?_)))
              (case side2 => exact (Kd.V_reads' HO_404001.out).2.1)
              (case side3 => repeat (first | exact (Kd.R_reads' HO_404002.out).2.2 | (with_reducible refine Kd.C_alloc ?_ _) | (with_reducible refine Kd.C_drewN ?_ _) | (with_reducible refine Kd.C_drew ?_)))
              (case side4 => exact (Kd.R_reads' HO_404002.out).2.1)
              rintro e w75 ⟨rfl, hb⟩
              refine ⟨_, rfl, ?_⟩
              have n0_ := Aside0.mk (Kd.S_below (sz HO_394001) hb)
              have n1_ := Aside0.mk (Kd.R_below (rz HO_394002) hb)
              have n2_ := Aside0.mk (Kd.V_below (vz HO_404001) hb)
              have n3_ := Aside0.mk (Kd.R_below (rz HO_404002) hb)
              have n4_ := Aside0.mk (Kd.S_below (sz HO_414001) hb)
              have n5_ := Aside0.mk (Kd.R_below (rz HO_414002) hb)
              have n6_ := Aside0.mk (blk_below (bz BK393) hb)
              have n7_ := Aside0.mk (blk_below (bz BK403) hb)
              have n8_ := Aside0.mk (blk_below (bz BK413) hb)
              have n9_ := Aside0.mk (below_step bh hb)
              clear HO_394001
              clear HO_394002
              clear HO_404001
              clear HO_404002
              clear HO_414001
              clear HO_414002
              clear BK393
              clear BK403
              clear BK413
              clear HB
              have HO_394001 := n0_
              have HO_394002 := n1_
              have HO_404001 := n2_
              have HO_404002 := n3_
              have HO_414001 := n4_
              have HO_414002 := n5_
              have BK393 := n6_
              have BK403 := n7_
              have BK413 := n8_
              have HB := n9_
              clear n0_ n1_ n2_ n3_ n4_ n5_ n6_ n7_ n8_ n9_
              (try clear hb)
              (try clear hb2)
              (try clear hk)
              (try clear hi)
              refine hK.out _ _ ⟨(blk_cell BK403.out 0).trans rfl, (blk_cell BK403.out 1).trans rfl, (blk_cell BK403.out 2).trans rfl, (blk_cell BK403.out 3).trans rfl, (blk_cell BK393.out 0).trans rfl, (blk_cell BK393.out 1).trans rfl, (blk_cell BK393.out 2).trans rfl, (blk_cell BK393.out 3).trans rfl⟩ (fun hHeld => ?_)
              clear hK K
              refine norm_ (a' := ?_) ?_ ?_
              rotate_left
              ·show Act.put _ (some 83) _ = _
               simp only [Act.put, List.setIfInBounds_toArray, List.set_cons_zero, List.set_cons_succ, i64_w, i32_w]
               rfl
              refine pure_ (i := 2) (N := some 84) (v := ?_) (a' := ?_) #[T,T,T,F,F,F,F,F,F,F,F,F,F,F,F,F,F,F,F,F,F,F,F,F,F,F,F,F,F,F,F,F] rfl rfl (any_of HT_.out kr) (fun _ _ _ h => h) (Or.inl ⟨by rfl, ?_⟩) ?_ ?_
              rotate_left
              ·intro w'
               go_simp
               with_reducible rfl
              rotate_left
              ·simp only [Act.put, List.setIfInBounds_toArray, List.set_cons_zero, List.set_cons_succ, i64_w, i32_w]
               rfl
              refine take_ (i := 3) (N := some 85) (v := ?_) (a' := ?_) #[T,T,T,T,F,F,F,F,F,F,F,F,F,F,F,F,F,F,F,F,F,F,F,F,F,F,F,F,F,F,F,F] rfl rfl (take_ofW HT_.out HW_.out kr) (fun _ _ _ h => h) (Or.inl ⟨by rfl, ?_⟩) hHeld ?_ ?_
              rotate_left
              ·rintro w' ⟨s0, s1, s2, s3, s4, s5, s6, s7⟩
               go_simp
               with_reducible rfl
              rotate_left
              ·simp only [Act.put, List.setIfInBounds_toArray, List.set_cons_zero, List.set_cons_succ, i64_w, i32_w]
               rfl
              refine one_ (i := 4) (N := some 86) #[T,T,T,T,T,F,F,F,F,F,F,F,F,F,F,F,F,F,F,F,F,F,F,F,F,F,F,F,F,F,F,F] rfl rfl (one_of HT_.out kr) (by decide) (fun K hK => ?_)
              refine goes_ Try.func24 kr rfl #[.agg #[.int .i64 t394, .slice Ao16 t395.length co16, .slice Ao17 t398.length co17, .int .i64 t401]] (by rfl) rfl rfl lm ?_
              with_reducible refine (impl_RestOk.calls k2 t394 _ _ t395 _ _ t398 t401 true _ ?side1 ?side2 ?side3 ?side4 A62.out).mono ?_
              (case side1 => repeat (first | exact (Kd.V_reads' HO_404001.out).2.2 | (with_reducible refine Kd.C_alloc ?_ _) | (with_reducible refine Kd.C_drewN ?_ _) | (with_reducible refine Kd.C_drew ?_)))
              (case side2 => exact (Kd.V_reads' HO_404001.out).2.1)
              (case side3 => repeat (first | exact (Kd.R_reads' HO_404002.out).2.2 | (with_reducible refine Kd.C_alloc ?_ _) | (with_reducible refine Kd.C_drewN ?_ _) | (with_reducible refine Kd.C_drew ?_)))
              (case side4 => exact (Kd.R_reads' HO_404002.out).2.1)
              rintro e w76 ⟨rfl, hb⟩
              refine ⟨_, rfl, ?_⟩
              have n0_ := Aside0.mk (Kd.S_below (sz HO_394001) hb)
              have n1_ := Aside0.mk (Kd.R_below (rz HO_394002) hb)
              have n2_ := Aside0.mk (Kd.V_below (vz HO_404001) hb)
              have n3_ := Aside0.mk (Kd.R_below (rz HO_404002) hb)
              have n4_ := Aside0.mk (Kd.S_below (sz HO_414001) hb)
              have n5_ := Aside0.mk (Kd.R_below (rz HO_414002) hb)
              have n6_ := Aside0.mk (blk_below (bz BK393) hb)
              have n7_ := Aside0.mk (blk_below (bz BK403) hb)
              have n8_ := Aside0.mk (blk_below (bz BK413) hb)
              have n9_ := Aside0.mk (below_step bh hb)
              clear HO_394001
              clear HO_394002
              clear HO_404001
              clear HO_404002
              clear HO_414001
              clear HO_414002
              clear BK393
              clear BK403
              clear BK413
              clear HB
              have HO_394001 := n0_
              have HO_394002 := n1_
              have HO_404001 := n2_
              have HO_404002 := n3_
              have HO_414001 := n4_
              have HO_414002 := n5_
              have BK393 := n6_
              have BK403 := n7_
              have BK413 := n8_
              have HB := n9_
              clear n0_ n1_ n2_ n3_ n4_ n5_ n6_ n7_ n8_ n9_
              (try clear hb)
              (try clear hb2)
              (try clear hk)
              (try clear hi)
              refine hK.out _ _ ⟨(blk_cell BK403.out 0).trans rfl, (blk_cell BK403.out 1).trans rfl, (blk_cell BK403.out 2).trans rfl, (blk_cell BK403.out 3).trans rfl, (blk_cell BK393.out 0).trans rfl, (blk_cell BK393.out 1).trans rfl, (blk_cell BK393.out 2).trans rfl, (blk_cell BK393.out 3).trans rfl⟩ (fun hHeld => ?_)
              clear hK K
              refine norm_ (a' := ?_) ?_ ?_
              rotate_left
              ·show Act.put _ (some 86) _ = _
               simp only [Act.put, List.setIfInBounds_toArray, List.set_cons_zero, List.set_cons_succ, i64_w, i32_w]
               rfl
              refine pure_ (i := 5) (N := some 87) (v := ?_) (a' := ?_) #[T,T,T,T,T,T,F,F,F,F,F,F,F,F,F,F,F,F,F,F,F,F,F,F,F,F,F,F,F,F,F,F] rfl rfl (any_of HT_.out kr) (fun _ _ _ h => h) (Or.inl ⟨by rfl, ?_⟩) ?_ ?_
              rotate_left
              ·intro w'
               go_simp
               with_reducible rfl
              rotate_left
              ·simp only [Act.put, List.setIfInBounds_toArray, List.set_cons_zero, List.set_cons_succ, i64_w, i32_w]
               rfl
              refine pure_ (i := 6) (N := some 88) (v := ?_) (a' := ?_) #[T,T,T,T,T,T,T,F,F,F,F,F,F,F,F,F,F,F,F,F,F,F,F,F,F,F,F,F,F,F,F,F] rfl rfl (any_of HT_.out kr) (fun _ _ _ h => h) (Or.inl ⟨by rfl, ?_⟩) ?_ ?_
              rotate_left
              ·intro w'
               go_simp
               with_reducible rfl
              rotate_left
              ·simp only [Act.put, List.setIfInBounds_toArray, List.set_cons_zero, List.set_cons_succ, i64_w, i32_w]
               rfl
              refine pure_ (i := 7) (N := some 89) (v := ?_) (a' := ?_) #[T,T,T,T,T,T,T,T,F,F,F,F,F,F,F,F,F,F,F,F,F,F,F,F,F,F,F,F,F,F,F,F] rfl rfl (any_of HT_.out kr) (fun _ _ _ h => h) (Or.inl ⟨by rfl, ?_⟩) ?_ ?_
              rotate_left
              ·intro w'
               go_simp
               with_reducible rfl
              rotate_left
              ·simp only [Act.put, List.setIfInBounds_toArray, List.set_cons_zero, List.set_cons_succ, i64_w, i32_w]
               rfl
              refine pure_ (i := 9) (N := some 91) (v := ?_) (a' := ?_) #[T,T,T,T,T,T,T,T,F,T,F,F,F,F,F,F,F,F,F,F,F,F,F,F,F,F,F,F,F,F,F,F] rfl rfl (any_of HT_.out kr) (fun _ _ _ h => h) (Or.inl ⟨by rfl, ?_⟩) ?_ ?_
              rotate_left
              ·intro w'
               go_simp
               with_reducible rfl
              rotate_left
              ·simp only [Act.put, List.setIfInBounds_toArray, List.set_cons_zero, List.set_cons_succ, i64_w, i32_w]
               rfl
              refine take_ (i := 8) (N := some 90) (v := ?_) (a' := ?_) #[T,T,T,T,T,T,T,T,T,T,F,F,F,F,F,F,F,F,F,F,F,F,F,F,F,F,F,F,F,F,F,F] rfl rfl (take_ofW HT_.out HW_.out kr) (fun _ _ _ h => h) (Or.inl ⟨by rfl, ?_⟩) hHeld ?_ ?_
              rotate_left
              ·rintro w' ⟨s0, s1, s2, s3, s4, s5, s6, s7⟩
               go_simp
               with_reducible rfl
              rotate_left
              ·simp only [Act.put, List.setIfInBounds_toArray, List.set_cons_zero, List.set_cons_succ, i64_w, i32_w]
               rfl
              refine pure_ (i := 10) (N := some 92) (v := ?_) (a' := ?_) #[T,T,T,T,T,T,T,T,T,T,T,F,F,F,F,F,F,F,F,F,F,F,F,F,F,F,F,F,F,F,F,F] rfl rfl (any_of HT_.out kr) (fun _ _ _ h => h) (Or.inl ⟨by rfl, ?_⟩) ?_ ?_
              rotate_left
              ·intro w'
               go_simp
               with_reducible rfl
              rotate_left
              ·simp only [Act.put, List.setIfInBounds_toArray, List.set_cons_zero, List.set_cons_succ, i64_w, i32_w]
               rfl
              refine pure_ (i := 11) (N := some 93) (v := ?_) (a' := ?_) #[T,T,T,T,T,T,T,T,T,T,T,T,F,F,F,F,F,F,F,F,F,F,F,F,F,F,F,F,F,F,F,F] rfl rfl (any_of HT_.out kr) (fun _ _ _ h => h) (Or.inl ⟨by rfl, ?_⟩) ?_ ?_
              rotate_left
              ·intro w'
               go_simp
               with_reducible rfl
              rotate_left
              ·simp only [Act.put, List.setIfInBounds_toArray, List.set_cons_zero, List.set_cons_succ, i64_w, i32_w]
               rfl
              refine pure_ (i := 12) (N := some 94) (v := ?_) (a' := ?_) #[T,T,T,T,T,T,T,T,T,T,T,T,T,F,F,F,F,F,F,F,F,F,F,F,F,F,F,F,F,F,F,F] rfl rfl (any_of HT_.out kr) (fun _ _ _ h => h) (Or.inl ⟨by rfl, ?_⟩) ?_ ?_
              rotate_left
              ·intro w'
               go_simp
               with_reducible rfl
              rotate_left
              ·simp only [Act.put, List.setIfInBounds_toArray, List.set_cons_zero, List.set_cons_succ, i64_w, i32_w]
               rfl
              refine pure_ (i := 13) (N := some 95) (v := ?_) (a' := ?_) #[T,T,T,T,T,T,T,T,T,T,T,T,T,T,F,F,F,F,F,F,F,F,F,F,F,F,F,F,F,F,F,F] rfl rfl (any_of HT_.out kr) (fun _ _ _ h => h) (Or.inl ⟨by rfl, ?_⟩) ?_ ?_
              rotate_left
              ·intro w'
               go_simp
               with_reducible rfl
              rotate_left
              ·simp only [Act.put, List.setIfInBounds_toArray, List.set_cons_zero, List.set_cons_succ, i64_w, i32_w]
               rfl
              refine pure_ (i := 14) (N := some 96) (v := ?_) (a' := ?_) #[T,T,T,T,T,T,T,T,T,T,T,T,T,T,T,F,F,F,F,F,F,F,F,F,F,F,F,F,F,F,F,F] rfl rfl (any_of HT_.out kr) (fun _ _ _ h => h) (Or.inl ⟨by rfl, ?_⟩) ?_ ?_
              rotate_left
              ·intro w'
               go_simp
               with_reducible rfl
              rotate_left
              ·simp only [Act.put, List.setIfInBounds_toArray, List.set_cons_zero, List.set_cons_succ, i64_w, i32_w]
               rfl
              refine pure_ (i := 15) (N := some 97) (v := ?_) (a' := ?_) #[T,T,T,T,T,T,T,T,T,T,T,T,T,T,T,T,F,F,F,F,F,F,F,F,F,F,F,F,F,F,F,F] rfl rfl (any_of HT_.out kr) (fun _ _ _ h => h) (Or.inl ⟨by rfl, ?_⟩) ?_ ?_
              rotate_left
              ·intro w'
               go_simp
               with_reducible rfl
              rotate_left
              ·simp only [Act.put, List.setIfInBounds_toArray, List.set_cons_zero, List.set_cons_succ, i64_w, i32_w]
               rfl
              refine pure_ (i := 17) (N := some 99) (v := ?_) (a' := ?_) #[T,T,T,T,T,T,T,T,T,T,T,T,T,T,T,T,F,T,F,F,F,F,F,F,F,F,F,F,F,F,F,F] rfl rfl (any_of HT_.out kr) (fun _ _ _ h => h) (Or.inl ⟨by rfl, ?_⟩) ?_ ?_
              rotate_left
              ·intro w'
               go_simp
               with_reducible rfl
              rotate_left
              ·simp only [Act.put, List.setIfInBounds_toArray, List.set_cons_zero, List.set_cons_succ, i64_w, i32_w]
               rfl
              refine take_ (i := 16) (N := some 98) (v := ?_) (a' := ?_) #[T,T,T,T,T,T,T,T,T,T,T,T,T,T,T,T,T,T,F,F,F,F,F,F,F,F,F,F,F,F,F,F] rfl rfl (take_ofW HT_.out HW_.out kr) (fun _ _ _ h => h) (Or.inl ⟨by rfl, ?_⟩) hHeld ?_ ?_
              rotate_left
              ·rintro w' ⟨s0, s1, s2, s3, s4, s5, s6, s7⟩
               go_simp
               with_reducible rfl
              rotate_left
              ·simp only [Act.put, List.setIfInBounds_toArray, List.set_cons_zero, List.set_cons_succ, i64_w, i32_w]
               rfl
              refine one_ (i := 18) (N := some 100) #[T,T,T,T,T,T,T,T,T,T,T,T,T,T,T,T,T,T,T,F,F,F,F,F,F,F,F,F,F,F,F,F] rfl rfl (one_of HT_.out kr) (by decide) (fun K hK => ?_)
              refine goes_ Try.func42 kr rfl #[.slice Ao17 t398.length co17, .int .i64 t392] (by rfl) rfl rfl lm ?_
              with_reducible refine (laws_hasInt.calls k2 _ _ t398 t392 false _ ?side1 ?side2 A67.out).mono ?_
              (case side1 => repeat (first | exact (Kd.R_reads' HO_404002.out).2.2 | (with_reducible refine Kd.C_alloc ?_ _) | (with_reducible refine Kd.C_drewN ?_ _) | (with_reducible refine Kd.C_drew ?_)))
              (case side2 => exact (Kd.R_reads' HO_404002.out).2.1)
              rintro e w' ⟨rfl, ⟨nd, rfl⟩⟩
              refine ⟨_, rfl, ?_⟩
              refine hK.out _ _ ⟨(blk_cell BK403.out 0).trans rfl, (blk_cell BK403.out 1).trans rfl, (blk_cell BK403.out 2).trans rfl, (blk_cell BK403.out 3).trans rfl, (blk_cell BK393.out 0).trans rfl, (blk_cell BK393.out 1).trans rfl, (blk_cell BK393.out 2).trans rfl, (blk_cell BK393.out 3).trans rfl⟩ (fun hHeld => ?_)
              clear hK K
              refine norm_ (a' := ?_) ?_ ?_
              rotate_left
              ·show Act.put _ (some 100) _ = _
               simp only [Act.put, List.setIfInBounds_toArray, List.set_cons_zero, List.set_cons_succ, i64_w, i32_w]
               rfl
              refine pure_ (i := 19) (N := some 101) (v := ?_) (a' := ?_) #[T,T,T,T,T,T,T,T,T,T,T,T,T,T,T,T,T,T,T,T,F,F,F,F,F,F,F,F,F,F,F,F] rfl rfl (any_of HT_.out kr) (fun _ _ _ h => h) (Or.inl ⟨by rfl, ?_⟩) ?_ ?_
              rotate_left
              ·intro w'
               go_simp
               with_reducible rfl
              rotate_left
              ·simp only [Act.put, List.setIfInBounds_toArray, List.set_cons_zero, List.set_cons_succ, i64_w, i32_w]
               rfl
              refine pure_ (i := 20) (N := some 102) (v := ?_) (a' := ?_) #[T,T,T,T,T,T,T,T,T,T,T,T,T,T,T,T,T,T,T,T,T,F,F,F,F,F,F,F,F,F,F,F] rfl rfl (any_of HT_.out kr) (fun _ _ _ h => h) (Or.inl ⟨by rfl, ?_⟩) ?_ ?_
              rotate_left
              ·intro w'
               go_simp
               with_reducible rfl
              rotate_left
              ·simp only [Act.put, List.setIfInBounds_toArray, List.set_cons_zero, List.set_cons_succ, i64_w, i32_w]
               rfl
              refine pure_ (i := 21) (N := some 103) (v := ?_) (a' := ?_) #[T,T,T,T,T,T,T,T,T,T,T,T,T,T,T,T,T,T,T,T,T,T,F,F,F,F,F,F,F,F,F,F] rfl rfl (any_of HT_.out kr) (fun _ _ _ h => h) (Or.inl ⟨by rfl, ?_⟩) ?_ ?_
              rotate_left
              ·intro w'
               go_simp
               with_reducible rfl
              rotate_left
              ·simp only [Act.put, List.setIfInBounds_toArray, List.set_cons_zero, List.set_cons_succ, i64_w, i32_w]
               rfl
              refine take_ (i := 22) (N := some 104) (v := ?_) (a' := ?_) #[T,T,T,T,T,T,T,T,T,T,T,T,T,T,T,T,T,T,T,T,T,T,T,F,F,F,F,F,F,F,F,F] rfl rfl (take_ofW HT_.out HW_.out kr) (fun _ _ _ h => h) (Or.inl ⟨by rfl, ?_⟩) hHeld ?_ ?_
              rotate_left
              ·rintro w' ⟨s0, s1, s2, s3, s4, s5, s6, s7⟩
               go_simp
               with_reducible rfl
              rotate_left
              ·simp only [Act.put, List.setIfInBounds_toArray, List.set_cons_zero, List.set_cons_succ, i64_w, i32_w]
               rfl
              refine take_ (i := 25) (N := some 107) (v := ?_) (a' := ?_) #[T,T,T,T,T,T,T,T,T,T,T,T,T,T,T,T,T,T,T,T,T,T,T,F,F,T,F,F,F,F,F,F] rfl rfl (take_ofW HT_.out HW_.out kr) (fun _ _ _ h => h) (Or.inl ⟨by rfl, ?_⟩) hHeld ?_ ?_
              rotate_left
              ·rintro w' ⟨s0, s1, s2, s3, s4, s5, s6, s7⟩
               go_simp
               with_reducible rfl
              rotate_left
              ·simp only [Act.put, List.setIfInBounds_toArray, List.set_cons_zero, List.set_cons_succ, i64_w, i32_w]
               rfl
              refine one_ (i := 23) (N := some 105) #[T,T,T,T,T,T,T,T,T,T,T,T,T,T,T,T,T,T,T,T,T,T,T,T,F,T,F,F,F,F,F,F] rfl rfl (one_of HT_.out kr) (by decide) (fun K hK => ?_)
              refine goes_ Try.func26 kr rfl #[.agg #[.int .i64 t394, .slice Ao16 t395.length co16, .slice Ao17 t398.length co17, .int .i64 t401]] (by rfl) rfl rfl lm ?_
              with_reducible refine (impl_VacantOf.calls k2 t394 _ _ t395 _ _ t398 t401 t424 _ ?side1 ?side2 ?side3 ?side4 A69.out).mono ?_
              (case side1 => repeat (first | exact (Kd.V_reads' HO_404001.out).2.2 | (with_reducible refine Kd.C_alloc ?_ _) | (with_reducible refine Kd.C_drewN ?_ _) | (with_reducible refine Kd.C_drew ?_)))
              (case side2 => exact (Kd.V_reads' HO_404001.out).2.1)
              (case side3 => repeat (first | exact (Kd.R_reads' HO_404002.out).2.2 | (with_reducible refine Kd.C_alloc ?_ _) | (with_reducible refine Kd.C_drewN ?_ _) | (with_reducible refine Kd.C_drew ?_)))
              (case side4 => exact (Kd.R_reads' HO_404002.out).2.1)
              rintro e w77 ⟨v425, rfl, ho0, hb⟩
              refine ⟨_, rfl, ?_⟩
              have n0_ := Aside0.mk (Kd.S_elder' (sz HO_394001) (Kd.R_base ho0) hb)
              have n1_ := Aside0.mk (Kd.R_elder' (rz HO_394002) (Kd.R_base ho0) hb)
              have n2_ := Aside0.mk (Kd.V_elder' (vz HO_404001) (Kd.R_base ho0) hb)
              have n3_ := Aside0.mk (Kd.R_elder' (rz HO_404002) (Kd.R_base ho0) hb)
              have n4_ := Aside0.mk (Kd.S_elder' (sz HO_414001) (Kd.R_base ho0) hb)
              have n5_ := Aside0.mk (Kd.R_elder' (rz HO_414002) (Kd.R_base ho0) hb)
              have n6_ := Aside0.mk (Kd.R_lower (Kd.R_new' (Kd.R_new' (Kd.R_new' ho0 (Kd.R_lt (rz HO_394002))) (Kd.R_lt (rz HO_404002))) (Kd.R_lt (rz HO_414002))) (below_size bh))
              have n7_ := Aside0.mk (blk_below (bz BK393) hb)
              have n8_ := Aside0.mk (blk_below (bz BK403) hb)
              have n9_ := Aside0.mk (blk_below (bz BK413) hb)
              have n10_ := Aside0.mk (below_step bh hb)
              clear HO_394001
              clear HO_394002
              clear HO_404001
              clear HO_404002
              clear HO_414001
              clear HO_414002
              clear BK393
              clear BK403
              clear BK413
              clear HB
              have HO_394001 := n0_
              have HO_394002 := n1_
              have HO_404001 := n2_
              have HO_404002 := n3_
              have HO_414001 := n4_
              have HO_414002 := n5_
              have HO426 := n6_
              have BK393 := n7_
              have BK403 := n8_
              have BK413 := n9_
              have HB := n10_
              clear n0_ n1_ n2_ n3_ n4_ n5_ n6_ n7_ n8_ n9_ n10_
              (try clear hb)
              (try clear hb2)
              (try clear hk)
              (try clear hi)
              (try clear ho0)
              obtain ⟨Ao78, co78, eo78⟩ := Kd.R_slice HO426.out
              (first | subst eo78 | (injection eo78 with f1_ f2_ f3_; have f4_ := f1_.symm; have f5_ := f3_.symm; clear f1_ f2_ f3_; subst f4_; subst f5_))
              refine hK.out _ _ ⟨(blk_cell BK403.out 0).trans rfl, (blk_cell BK403.out 1).trans rfl, (blk_cell BK403.out 2).trans rfl, (blk_cell BK403.out 3).trans rfl, (blk_cell BK393.out 0).trans rfl, (blk_cell BK393.out 1).trans rfl, (blk_cell BK393.out 2).trans rfl, (blk_cell BK393.out 3).trans rfl⟩ (fun hHeld => ?_)
              clear hK K
              refine norm_ (a' := ?_) ?_ ?_
              rotate_left
              ·show Act.put _ (some 105) _ = _
               simp only [Act.put, List.setIfInBounds_toArray, List.set_cons_zero, List.set_cons_succ, i64_w, i32_w]
               rfl
              refine pure_ (i := 24) (N := some 106) (v := ?_) (a' := ?_) #[T,T,T,T,T,T,T,T,T,T,T,T,T,T,T,T,T,T,T,T,T,T,T,T,T,T,F,F,F,F,F,F] rfl rfl (any_of HT_.out kr) (fun _ _ _ h => h) (Or.inl ⟨by rfl, ?_⟩) ?_ ?_
              rotate_left
              ·intro w'
               go_simp
               with_reducible rfl
              rotate_left
              ·simp only [Act.put, List.setIfInBounds_toArray, List.set_cons_zero, List.set_cons_succ, i64_w, i32_w]
               rfl
              refine one_ (i := 26) (N := some 108) #[T,T,T,T,T,T,T,T,T,T,T,T,T,T,T,T,T,T,T,T,T,T,T,T,T,T,T,F,F,F,F,F] rfl rfl (one_of HT_.out kr) (by decide) (fun K hK => ?_)
              refine goes_ Try.func26 kr rfl #[.agg #[.int .i64 t384, .slice Ao10 t385.length co10, .slice Ao11 t388.length co11, .int .i64 t391]] (by rfl) rfl rfl lm ?_
              with_reducible refine (impl_VacantOf.calls k2 t384 _ _ t385 _ _ t388 t391 t427 _ ?side1 ?side2 ?side3 ?side4 A70.out).mono ?_
              (case side1 => repeat (first | exact (Kd.S_reads' HO_394001.out).2.2 | (with_reducible refine Kd.C_alloc ?_ _) | (with_reducible refine Kd.C_drewN ?_ _) | (with_reducible refine Kd.C_drew ?_)))
              (case side2 => exact (Kd.S_reads' HO_394001.out).2.1)
              (case side3 => repeat (first | exact (Kd.R_reads' HO_394002.out).2.2 | (with_reducible refine Kd.C_alloc ?_ _) | (with_reducible refine Kd.C_drewN ?_ _) | (with_reducible refine Kd.C_drew ?_)))
              (case side4 => exact (Kd.R_reads' HO_394002.out).2.1)
              rintro e w79 ⟨v428, rfl, ho0, hb⟩
              refine ⟨_, rfl, ?_⟩
              have n0_ := Aside0.mk (Kd.S_elder' (sz HO_394001) (Kd.R_base ho0) hb)
              have n1_ := Aside0.mk (Kd.R_elder' (rz HO_394002) (Kd.R_base ho0) hb)
              have n2_ := Aside0.mk (Kd.V_elder' (vz HO_404001) (Kd.R_base ho0) hb)
              have n3_ := Aside0.mk (Kd.R_elder' (rz HO_404002) (Kd.R_base ho0) hb)
              have n4_ := Aside0.mk (Kd.S_elder' (sz HO_414001) (Kd.R_base ho0) hb)
              have n5_ := Aside0.mk (Kd.R_elder' (rz HO_414002) (Kd.R_base ho0) hb)
              have n6_ := Aside0.mk (Kd.R_elder' (rz HO426) (Kd.R_base ho0) hb)
              have n7_ := Aside0.mk (Kd.R_lower (Kd.R_new' (Kd.R_new' (Kd.R_new' (Kd.R_new' ho0 (Kd.R_lt (rz HO_394002))) (Kd.R_lt (rz HO_404002))) (Kd.R_lt (rz HO_414002))) (Kd.R_lt (rz HO426))) (below_size bh))
              have n8_ := Aside0.mk (blk_below (bz BK393) hb)
              have n9_ := Aside0.mk (blk_below (bz BK403) hb)
              have n10_ := Aside0.mk (blk_below (bz BK413) hb)
              have n11_ := Aside0.mk (below_step bh hb)
              clear HO_394001
              clear HO_394002
              clear HO_404001
              clear HO_404002
              clear HO_414001
              clear HO_414002
              clear HO426
              clear BK393
              clear BK403
              clear BK413
              clear HB
              have HO_394001 := n0_
              have HO_394002 := n1_
              have HO_404001 := n2_
              have HO_404002 := n3_
              have HO_414001 := n4_
              have HO_414002 := n5_
              have HO426 := n6_
              have HO429 := n7_
              have BK393 := n8_
              have BK403 := n9_
              have BK413 := n10_
              have HB := n11_
              clear n0_ n1_ n2_ n3_ n4_ n5_ n6_ n7_ n8_ n9_ n10_ n11_
              (try clear hb)
              (try clear hb2)
              (try clear hk)
              (try clear hi)
              (try clear ho0)
              obtain ⟨Ao80, co80, eo80⟩ := Kd.R_slice HO429.out
              (first | subst eo80 | (injection eo80 with f1_ f2_ f3_; have f4_ := f1_.symm; have f5_ := f3_.symm; clear f1_ f2_ f3_; subst f4_; subst f5_))
              refine hK.out _ _ ⟨(blk_cell BK403.out 0).trans rfl, (blk_cell BK403.out 1).trans rfl, (blk_cell BK403.out 2).trans rfl, (blk_cell BK403.out 3).trans rfl, (blk_cell BK393.out 0).trans rfl, (blk_cell BK393.out 1).trans rfl, (blk_cell BK393.out 2).trans rfl, (blk_cell BK393.out 3).trans rfl⟩ (fun hHeld => ?_)
              clear hK K
              refine norm_ (a' := ?_) ?_ ?_
              rotate_left
              ·show Act.put _ (some 108) _ = _
               simp only [Act.put, List.setIfInBounds_toArray, List.set_cons_zero, List.set_cons_succ, i64_w, i32_w]
               rfl
              refine pure_ (i := 27) (N := some 109) (v := ?_) (a' := ?_) #[T,T,T,T,T,T,T,T,T,T,T,T,T,T,T,T,T,T,T,T,T,T,T,T,T,T,T,T,F,F,F,F] rfl rfl (any_of HT_.out kr) (fun _ _ _ h => h) (Or.inl ⟨by rfl, ?_⟩) ?_ ?_
              rotate_left
              ·intro w'
               go_simp
               with_reducible rfl
              rotate_left
              ·simp only [Act.put, List.setIfInBounds_toArray, List.set_cons_zero, List.set_cons_succ, i64_w, i32_w]
               rfl
              refine pure_ (i := 28) (N := some 110) (v := ?_) (a' := ?_) #[T,T,T,T,T,T,T,T,T,T,T,T,T,T,T,T,T,T,T,T,T,T,T,T,T,T,T,T,T,F,F,F] rfl rfl (any_of HT_.out kr) (fun _ _ _ h => h) (Or.inl ⟨by rfl, ?_⟩) ?_ ?_
              rotate_left
              ·intro w'
               go_simp
               with_reducible rfl
              rotate_left
              ·simp only [Act.put, List.setIfInBounds_toArray, List.set_cons_zero, List.set_cons_succ, i64_w, i32_w]
               rfl
              refine pure_ (i := 29) (N := some 111) (v := ?_) (a' := ?_) #[T,T,T,T,T,T,T,T,T,T,T,T,T,T,T,T,T,T,T,T,T,T,T,T,T,T,T,T,T,T,F,F] rfl rfl (any_of HT_.out kr) (fun _ _ _ h => h) (Or.inl ⟨by rfl, ?_⟩) ?_ ?_
              rotate_left
              ·intro w'
               go_simp
               with_reducible rfl
              rotate_left
              ·simp only [Act.put, List.setIfInBounds_toArray, List.set_cons_zero, List.set_cons_succ, i64_w, i32_w]
               rfl
              refine pure_ (i := 30) (N := some 112) (v := ?_) (a' := ?_) #[T,T,T,T,T,T,T,T,T,T,T,T,T,T,T,T,T,T,T,T,T,T,T,T,T,T,T,T,T,T,T,F] rfl rfl (any_of HT_.out kr) (fun _ _ _ h => h) (Or.inl ⟨by rfl, ?_⟩) ?_ ?_
              rotate_left
              ·intro w'
               go_simp
               with_reducible rfl
              rotate_left
              ·simp only [Act.put, List.setIfInBounds_toArray, List.set_cons_zero, List.set_cons_succ, i64_w, i32_w]
               rfl
              refine pure_ (i := 31) (N := some 2) (v := ?_) (a' := ?_) #[T,T,T,T,T,T,T,T,T,T,T,T,T,T,T,T,T,T,T,T,T,T,T,T,T,T,T,T,T,T,T,T] rfl rfl (any_of HT_.out kr) (fun _ _ _ h => h) (Or.inl ⟨by rfl, ?_⟩) ?_ ?_
              rotate_left
              ·intro w'
               go_simp
               with_reducible rfl
              rotate_left
              ·simp only [Act.put, List.setIfInBounds_toArray, List.set_cons_zero, List.set_cons_succ, i64_w, i32_w]
               rfl
              refine done_ (done_of HT_.out kr) ?_
              try go_wp2
              go_ret
              exact ⟨by first | rfl | (simp [errW_none, errW_some] <;> rfl) | (simp only [← hji65]; first | rfl | (simp [errW_none, errW_some] <;> rfl)) | (simp [*, errW_none, errW_some] <;> rfl), by repeat (first | (with_reducible first | exact HB.out | apply below_alloc | apply pw_below_drewN | apply below_drew1 | refine below_set ?_ GE393.out | refine below_set ?_ GE403.out | refine below_set ?_ GE413.out) | exact HB.out)⟩
            ·rw [if_neg c66] at H
             exact absurd H (by simp)
           ·rw [if_neg c64] at H
            exact absurd H (by simp)
          ·replace c63 := Bool.eq_false_iff.mpr c63
           subst c63
           have H1 : (none) = some r := by rw [if_neg (show ¬ (false = true) by decide)] at H; exact H
           clear H
           have H := H1
           clear H1
           exact absurd H (by simp)
         ·replace c61 := Bool.eq_false_iff.mpr c61
          subst c61
          have H1 : (none) = some r := by rw [if_neg (show ¬ (false = true) by decide)] at H; exact H
          clear H
          have H := H1
          clear H1
          exact absurd H (by simp)
     ·replace c41 := Bool.eq_false_iff.mpr c41
      subst c41
      have H1 : ((laws_sameCourt.f kj5 t394 t395 t398 t401 0 ([] : List (List Int)) ([] : List Int) 0).bind fun t415 => (if t415 = true then ((laws_alive.f).bind fun t416 => (some t416)) else (none))) = some r := by rw [if_neg (show ¬ (false = true) by decide)] at H; exact H
      clear H
      have H := H1
      clear H1
      replace H := Option.bind_eq_some_iff.mp H
      obtain ⟨t415, A810, H⟩ := H
      replace H : (if t415 = true then ((laws_alive.f).bind fun t416 => (some t416)) else (none)) = some r := H
      have A81 := Aside0.mk A810
      clear A810
      by_cases c82 : t415 = true
      ·subst c82
       have H1 : ((laws_alive.f).bind fun t416 => (some t416)) = some r := by rw [if_pos rfl] at H; exact H
       clear H
       have H := H1
       clear H1
       replace H := Option.bind_eq_some_iff.mp H
       obtain ⟨t416, A830, H⟩ := H
       replace H : (some t416) = some r := H
       have A83 := Aside0.mk A830
       clear A830
       obtain rfl := Option.some.inj H
       have hnb84 := NB403_393.out
       have hnc84 := NB393_403.out
       have hnb85 := NB403_413.out
       have hnc85 := NB413_403.out
       have hcz86_0 : wc.cell? ⟨gb403, 0, none⟩ = some (.int .i64 t394) := (blk_cell BK403.out 0).trans rfl
       have hcz86_1 : wc.cell? ⟨gb403, 1, none⟩ = some (.slice Ao16 t395.length co16) := (blk_cell BK403.out 1).trans rfl
       have hcz86_2 : wc.cell? ⟨gb403, 2, none⟩ = some (.slice Ao17 t398.length co17) := (blk_cell BK403.out 2).trans rfl
       have hcz86_3 : wc.cell? ⟨gb403, 3, none⟩ = some (.int .i64 t401) := (blk_cell BK403.out 3).trans rfl
       have hfz86_0 := blk_frozen BK403.out 0
       have hfz86_1 := blk_frozen BK403.out 1
       have hfz86_2 := blk_frozen BK403.out 2
       have hfz86_3 := blk_frozen BK403.out 3
       go_wp2_with (first | ((with_reducible refine gate_callee (f := 35) rfl ?_); refine goesL_ (some 43) rfl rfl Try.func35 kr rfl #[.agg #[.int .i64 t394, .slice Ao16 t395.length co16, .slice Ao17 t398.length co17, .int .i64 t401], .agg #[.int .i64 0, .slice none 0 0, .slice none 0 0, .int .i64 0]] rfl lm ?_; (refine (laws_sameCourt.calls kj5 t394 _ _ t395 _ _ t398 t401 0 _ _ ([] : List (List Int)) _ _ ([] : List Int) 0 true _ ?side1 ?side2 ?side3 ?side4 ?side5 ?side6 ?side7 ?side8 A81.out).mono ?_); (case side1 => repeat (first | exact (Kd.V_reads' HO_404001.out).2.2 | (with_reducible refine Kd.C_alloc ?_ _) | (with_reducible refine Kd.C_drewN ?_ _) | (with_reducible refine Kd.C_drew ?_))); (case side2 => exact (Kd.V_reads' HO_404001.out).2.1); (case side3 => repeat (first | exact (Kd.R_reads' HO_404002.out).2.2 | (with_reducible refine Kd.C_alloc ?_ _) | (with_reducible refine Kd.C_drewN ?_ _) | (with_reducible refine Kd.C_drew ?_))); (case side4 => exact (Kd.R_reads' HO_404002.out).2.1); (case side5 => exact Kd.C_nil _ _); (case side6 => exact Nat.le_refl _); (case side7 => exact Kd.C_nil _ _); (case side8 => exact Nat.le_refl _); rintro e w87 ⟨rfl, hb⟩; refine ⟨_, rfl, ?_⟩; have n0_ := Aside0.mk (Kd.S_below (sz HO_394001) hb); have n1_ := Aside0.mk (Kd.R_below (rz HO_394002) hb); have n2_ := Aside0.mk (Kd.V_below (vz HO_404001) hb); have n3_ := Aside0.mk (Kd.R_below (rz HO_404002) hb); have n4_ := Aside0.mk (Kd.S_below (sz HO_414001) hb); have n5_ := Aside0.mk (Kd.R_below (rz HO_414002) hb); have n6_ := Aside0.mk (blk_below (bz BK393) hb); have n7_ := Aside0.mk (blk_below (bz BK403) hb); have n8_ := Aside0.mk (blk_below (bz BK413) hb); have n9_ := Aside0.mk (below_step bh hb); clear HO_394001; clear HO_394002; clear HO_404001; clear HO_404002; clear HO_414001; clear HO_414002; clear BK393; clear BK403; clear BK413; clear HB; have HO_394001 := n0_; have HO_394002 := n1_; have HO_404001 := n2_; have HO_404002 := n3_; have HO_414001 := n4_; have HO_414002 := n5_; have BK393 := n6_; have BK403 := n7_; have BK413 := n8_; have HB := n9_; clear n0_ n1_ n2_ n3_ n4_ n5_ n6_ n7_ n8_ n9_; (try clear hb); (try clear hb2); (try clear hk); (try clear hi)) | (go_at_call 22; (with_reducible refine (laws_alive.calls  t416 _ A83.out).mono ?_); rintro e w' ⟨rfl, ⟨nd, rfl⟩⟩))
       go_ret
       exact ⟨by first | rfl | (simp [errW_none, errW_some] <;> rfl) | (simp [*, errW_none, errW_some] <;> rfl), by repeat (first | (with_reducible first | exact HB.out | apply below_alloc | apply pw_below_drewN | apply below_drew1 | refine below_set ?_ GE393.out | refine below_set ?_ GE403.out | refine below_set ?_ GE413.out) | exact HB.out)⟩
      ·replace c82 := Bool.eq_false_iff.mpr c82
       subst c82
       have H1 : (none) = some r := by rw [if_neg (show ¬ (false = true) by decide)] at H; exact H
       clear H
       have H := H1
       clear H1
       exact absurd H (by simp)

/-- THE ONE PURE STATEMENT of laws_FnAfterDeath: yours. -/
def laws_FnAfterDeath.Pure : Prop := ∀ (l0 : List Int), l0.length ≤ maxLen → l0.length * 1 ≤ 140737488351232 → (∀ x ∈ l0, (Lit.int .u8 x).wf = true) → ∃ k, laws_FnAfterDeath.f k l0 = some true
theorem laws_FnAfterDeath.walk (P : laws_FnAfterDeath.Pure) (a0 : Option Addr) (len0 cap0 : Nat) (z0 : List Int) (w : World) (w0 : (a0 = none ∧ len0 = 0 ∧ cap0 = 0 ∧ z0 = []) ∨ ∃ x, a0 = some x ∧ len0 ≤ cap0 ∧ cap0 ≤ maxLen ∧ z0.length = cap0 ∧ (∀ i, i < z0.length → w.cell? (x.add i) = some (.int .u8 (z0.getD i 0))) ∧ ∀ n ∈ z0, (Lit.int .u8 n).wf = true) (y0 : len0 * 1 ≤ 140737488351232) :
  Calls Try.prog 12 #[.slice a0 len0 cap0] w fun e w' => e = .returned (.bool true) ∧ Below w.heap.size w w' := by
 obtain ⟨l0, rfl, hr0, hm0, hw0, hc0⟩ := ReadsInt.ofRowC w0
 obtain ⟨k, h⟩ := P l0 hm0 y0 hw0
 refine (laws_FnAfterDeath.calls k _ _ l0 true w (Kd.C_of_reads (d := (0 : Int)) (h1 := fun _ => rfl) hr0) hc0 h).mono ?_
 rintro e w' ⟨rfl, hd⟩
 exact ⟨rfl, hd⟩

end Go.Proofs.Ytlpjkeejflogjaa.QFnAfterDeath
