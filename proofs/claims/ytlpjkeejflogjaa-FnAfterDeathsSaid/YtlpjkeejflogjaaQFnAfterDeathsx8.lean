-- Printed for this claim by a turned copy of the print (wip/myprint). Lean checks it. Squeezed. Worded. Tightened.
import Derived.Test.YtlpjkeejflogjaaQFnAfterDeathsx0
import Derived.Test.YtlpjkeejflogjaaQFnAfterDeathsx7
namespace Go.Proofs.Ytlpjkeejflogjaa.QFnAfterDeaths
open Go.RowKit Go.Proofs.YtlpjkeejflogjaaW.PrintWords Go.Proofs.YtlpjkeejflogjaaW.PrintLast Go.Proofs.YtlpjkeejflogjaaW.PrintMore
attribute [local go_sem] max2_int min2_int max_two min_two max_three min_three max_four min_four Opens.cell_twice   -- for this text's walks alone
set_option linter.unusedVariables false
set_option linter.unusedSimpArgs false

/-! ### spec_l20Court: function 56 -/
mutual
def spec_l20Court.j0 : Nat → Int → List Int → Int → Int → Int → Option (Int × (List (List Int)) × List Int × Int × Int)
 | 0, _, _, _, _, _ => none
 | k + 1, x1, x1000, x1001, x197000, x197003 => (spec_l20Rd_pick.f k x1000 x1001 4).bind fun bt201 => (spec_l20Court.l0 k x1 bt201.1 x1000 bt201.2 x197000 ([] : List (List Int)) ([] : List Int) x197003)
def spec_l20Court.l0 : Nat → Int → Int → List Int → Int → Int → List (List Int) → List Int → Int → Option (Int × (List (List Int)) × List Int × Int × Int)
 | 0, _, _, _, _, _, _, _, _ => none
 | k + 1, x1, x6, x1000, x1001, x197000, x197001, x197002, x197003 => if x6 > 0 then (spec_l20Court.l1 k x1 x6 (([] : List Int)) 0 x1000 x1001 x197000 x197001 x197002 x197003) else ((spec_l20Rd_pick.f k x1000 x1001 2).bind fun bt236 => (if bt236.1 = 0 then ((spec_FilledCourt.f k x197000 x197001 x197002 x197003).bind fun bt238 => (spec_l20Court.j3 k x1 x1000 bt236.2 bt238.1 bt238.2.1 bt238.2.2.1 bt238.2.2.2)) else (spec_l20Court.j3 k x1 x1000 bt236.2 x197000 x197001 x197002 x197003)))
def spec_l20Court.l1 : Nat → Int → Int → List Int → Int → List Int → Int → Int → List (List Int) → List Int → Int → Option (Int × (List (List Int)) × List Int × Int × Int)
 | 0, _, _, _, _, _, _, _, _, _, _ => none
 | k + 1, x1, x6, x7, x8, x1000, x1001, x197000, x197001, x197002, x197003 => if x8 < x197000 then ((spec_l20Rd_pick.f k x1000 x1001 2).bind fun bt212 => (if bt212.1 = 0 then ((spec_l20Rd_pick.f k x1000 bt212.2 (wrap64 ((x7.length : Int) + 1))).bind fun bt214 => ((some (([] : List Int) : List Int)).bind fun y216 => (if 0 ≤ bt214.1 then (if bt214.1 ≤ (x7.length : Int) then ((some (x7.take (bt214.1 : Int).toNat : List Int)).bind fun y219 => (if y216.length + y219.length < 17592186044416 then ((some (y216 ++ y219 : List Int)).bind fun y223 => (if y223.length < 17592186044416 then ((some (y223 ++ [x8] : List Int)).bind fun y226 => ((some (x7.drop (bt214.1 : Int).toNat : List Int)).bind fun y229 => (if y226.length + y229.length < 17592186044416 then (spec_l20Court.l1 k x1 x6 (y226 ++ y229) (wrap64 (x8 + 1)) x1000 bt214.2 x197000 x197001 x197002 x197003) else (none)))) else (none))) else (none))) else (none)) else (none)))) else (spec_l20Court.l1 k x1 x6 x7 (wrap64 (x8 + 1)) x1000 bt212.2 x197000 x197001 x197002 x197003))) else (if x197001.length < 5864062014805 then (if x197002.length < 17592186044416 then (spec_l20Court.l0 k x1 (wrap64 (x6 - 1)) x1000 x1001 x197000 (x197001 ++ [x7]) (x197002 ++ [(-1)]) x197003) else (none)) else (none))
def spec_l20Court.j3 : Nat → Int → List Int → Int → Int → List (List Int) → List Int → Int → Option (Int × (List (List Int)) × List Int × Int × Int)
 | 0, _, _, _, _, _, _, _ => none
 | k + 1, x1, x1000, x1001, x197000, x197001, x197002, x197003 => (spec_l20Rd_odd.f k x1000 x1001 x1).bind fun bt246 => (if bt246.1 = true then ((spec_l20Rd_pick.f k x1000 bt246.2 3).bind fun bt248 => (if bt248.1 = 0 then (some (0, x197001, x197002, x197003, bt248.2)) else (if bt248.1 = 1 then (if x197002.length < 17592186044416 then (some (x197000, x197001, (x197002 ++ [0]), x197003, bt248.2)) else (none)) else (if (x197002.length : Int) > 0 then ((spec_l20Rd_pick.f k x1000 bt248.2 (x197002.length : Int)).bind fun bt253 => ((spec_l20Rd_pick.f k x1000 bt253.2 7).bind fun bt255 => (if 0 ≤ bt253.1 then (if bt253.1 < (x197002.length : Int) then (some (x197000, x197001, (x197002.set (bt253.1 : Int).toNat bt255.1), x197003, bt255.2)) else (none)) else (none)))) else (some (x197000, x197001, x197002, x197003, bt248.2)))))) else (some (x197000, x197001, x197002, x197003, bt246.2)))
end
def spec_l20Court.f (k : Nat) (s0_0 : List Int) (s0_1 : Int) (a1 : Int) : Option (Int × (List (List Int)) × List Int × Int × Int) := (spec_l20Rd_pick.f k s0_0 s0_1 6).bind fun bt194 => (if 0 ≤ (wrap64 (1 + bt194.1)) then ((spec_l20Rd_pick.f k s0_0 bt194.2 3).bind fun bt197 => (if bt197.1 = 0 then ((spec_l20Rd_pick.f k s0_0 bt197.2 (shl .i64 1 (wrap64 (1 + bt194.1)))).bind fun bt199 => (spec_l20Court.j0 k a1 s0_0 bt199.2 (wrap64 (1 + bt194.1)) bt199.1)) else (spec_l20Court.j0 k a1 s0_0 bt197.2 (wrap64 (1 + bt194.1)) (wrap64 ((shl .i64 1 (wrap64 (1 + bt194.1))) - 1))))) else (none))
theorem spec_l20Court.mono_l : ∀ k, (∀ y0 y1 y2 y3 y4, LeO (spec_l20Court.j0 k y0 y1 y2 y3 y4) (spec_l20Court.j0 (k + 1) y0 y1 y2 y3 y4)) ∧ (∀ y0 y1 y2 y3 y4 y5 y6 y7, LeO (spec_l20Court.l0 k y0 y1 y2 y3 y4 y5 y6 y7) (spec_l20Court.l0 (k + 1) y0 y1 y2 y3 y4 y5 y6 y7)) ∧ (∀ y0 y1 y2 y3 y4 y5 y6 y7 y8 y9, LeO (spec_l20Court.l1 k y0 y1 y2 y3 y4 y5 y6 y7 y8 y9) (spec_l20Court.l1 (k + 1) y0 y1 y2 y3 y4 y5 y6 y7 y8 y9)) ∧ (∀ y0 y1 y2 y3 y4 y5 y6, LeO (spec_l20Court.j3 k y0 y1 y2 y3 y4 y5 y6) (spec_l20Court.j3 (k + 1) y0 y1 y2 y3 y4 y5 y6))
 | 0 => ⟨fun _ _ _ _ _ r h => by simp [spec_l20Court.j0] at h, fun _ _ _ _ _ _ _ _ r h => by simp [spec_l20Court.l0] at h, fun _ _ _ _ _ _ _ _ _ _ r h => by simp [spec_l20Court.l1] at h, fun _ _ _ _ _ _ _ r h => by simp [spec_l20Court.j3] at h⟩
 | k + 1 => by
  obtain ⟨ih0, ih1, ih2, ih3⟩ := spec_l20Court.mono_l k
  refine ⟨?_, ?_, ?_, ?_⟩
  ·intro y0 y1 y2 y3 y4
   unfold spec_l20Court.j0
   repeat' first
   | (with_reducible exact ih0 _ _ _ _ _)
   | (with_reducible exact ih1 _ _ _ _ _ _ _ _)
   | (with_reducible exact ih2 _ _ _ _ _ _ _ _ _ _)
   | (with_reducible exact ih3 _ _ _ _ _ _ _)
   | (with_reducible exact spec_FilledCourt.mono _ _ _ _ _)
   | (with_reducible exact spec_l20Rd_odd.mono _ _ _ _)
   | (with_reducible exact spec_l20Rd_pick.mono _ _ _ _)
   | (with_reducible exact LeO.refl _)
   | (with_reducible exact LeO.none _)
   | (with_reducible refine LeO.ite ?_ ?_)
   | (with_reducible refine LeO.bind ?_ (fun _ => ?_))
   | exact ih0 _ _ _ _ _
   | exact ih1 _ _ _ _ _ _ _ _
   | exact ih2 _ _ _ _ _ _ _ _ _ _
   | exact ih3 _ _ _ _ _ _ _
   | exact spec_FilledCourt.mono _ _ _ _ _
   | exact spec_l20Rd_odd.mono _ _ _ _
   | exact spec_l20Rd_pick.mono _ _ _ _
   | exact LeO.none _
   | refine LeO.ite ?_ ?_
   | refine LeO.bind ?_ (fun _ => ?_)
  ·intro y0 y1 y2 y3 y4 y5 y6 y7
   unfold spec_l20Court.l0
   repeat' first
   | (with_reducible exact ih0 _ _ _ _ _)
   | (with_reducible exact ih1 _ _ _ _ _ _ _ _)
   | (with_reducible exact ih2 _ _ _ _ _ _ _ _ _ _)
   | (with_reducible exact ih3 _ _ _ _ _ _ _)
   | (with_reducible exact spec_FilledCourt.mono _ _ _ _ _)
   | (with_reducible exact spec_l20Rd_odd.mono _ _ _ _)
   | (with_reducible exact spec_l20Rd_pick.mono _ _ _ _)
   | (with_reducible exact LeO.refl _)
   | (with_reducible exact LeO.none _)
   | (with_reducible refine LeO.ite ?_ ?_)
   | (with_reducible refine LeO.bind ?_ (fun _ => ?_))
   | exact ih0 _ _ _ _ _
   | exact ih1 _ _ _ _ _ _ _ _
   | exact ih2 _ _ _ _ _ _ _ _ _ _
   | exact ih3 _ _ _ _ _ _ _
   | exact spec_FilledCourt.mono _ _ _ _ _
   | exact spec_l20Rd_odd.mono _ _ _ _
   | exact spec_l20Rd_pick.mono _ _ _ _
   | exact LeO.none _
   | refine LeO.ite ?_ ?_
   | refine LeO.bind ?_ (fun _ => ?_)
  ·intro y0 y1 y2 y3 y4 y5 y6 y7 y8 y9
   unfold spec_l20Court.l1
   repeat' first
   | (with_reducible exact ih0 _ _ _ _ _)
   | (with_reducible exact ih1 _ _ _ _ _ _ _ _)
   | (with_reducible exact ih2 _ _ _ _ _ _ _ _ _ _)
   | (with_reducible exact ih3 _ _ _ _ _ _ _)
   | (with_reducible exact spec_FilledCourt.mono _ _ _ _ _)
   | (with_reducible exact spec_l20Rd_odd.mono _ _ _ _)
   | (with_reducible exact spec_l20Rd_pick.mono _ _ _ _)
   | (with_reducible exact LeO.refl _)
   | (with_reducible exact LeO.none _)
   | (with_reducible refine LeO.ite ?_ ?_)
   | (with_reducible refine LeO.bind ?_ (fun _ => ?_))
   | exact ih0 _ _ _ _ _
   | exact ih1 _ _ _ _ _ _ _ _
   | exact ih2 _ _ _ _ _ _ _ _ _ _
   | exact ih3 _ _ _ _ _ _ _
   | exact spec_FilledCourt.mono _ _ _ _ _
   | exact spec_l20Rd_odd.mono _ _ _ _
   | exact spec_l20Rd_pick.mono _ _ _ _
   | exact LeO.none _
   | refine LeO.ite ?_ ?_
   | refine LeO.bind ?_ (fun _ => ?_)
  ·intro y0 y1 y2 y3 y4 y5 y6
   unfold spec_l20Court.j3
   repeat' first
   | (with_reducible exact ih0 _ _ _ _ _)
   | (with_reducible exact ih1 _ _ _ _ _ _ _ _)
   | (with_reducible exact ih2 _ _ _ _ _ _ _ _ _ _)
   | (with_reducible exact ih3 _ _ _ _ _ _ _)
   | (with_reducible exact spec_FilledCourt.mono _ _ _ _ _)
   | (with_reducible exact spec_l20Rd_odd.mono _ _ _ _)
   | (with_reducible exact spec_l20Rd_pick.mono _ _ _ _)
   | (with_reducible exact LeO.refl _)
   | (with_reducible exact LeO.none _)
   | (with_reducible refine LeO.ite ?_ ?_)
   | (with_reducible refine LeO.bind ?_ (fun _ => ?_))
   | exact ih0 _ _ _ _ _
   | exact ih1 _ _ _ _ _ _ _ _
   | exact ih2 _ _ _ _ _ _ _ _ _ _
   | exact ih3 _ _ _ _ _ _ _
   | exact spec_FilledCourt.mono _ _ _ _ _
   | exact spec_l20Rd_odd.mono _ _ _ _
   | exact spec_l20Rd_pick.mono _ _ _ _
   | exact LeO.none _
   | refine LeO.ite ?_ ?_
   | refine LeO.bind ?_ (fun _ => ?_)
theorem spec_l20Court.mono : ∀ a0 a1 a2 k, LeO (spec_l20Court.f k a0 a1 a2) (spec_l20Court.f (k + 1) a0 a1 a2) := by
 intro a0 a1 a2 k
 obtain ⟨ih0, ih1, ih2, ih3⟩ := spec_l20Court.mono_l k
 unfold spec_l20Court.f
 repeat' first
   | (with_reducible exact ih0 _ _ _ _ _)
   | (with_reducible exact ih1 _ _ _ _ _ _ _ _)
   | (with_reducible exact ih2 _ _ _ _ _ _ _ _ _ _)
   | (with_reducible exact ih3 _ _ _ _ _ _ _)
   | (with_reducible exact spec_FilledCourt.mono _ _ _ _ _)
   | (with_reducible exact spec_l20Rd_odd.mono _ _ _ _)
   | (with_reducible exact spec_l20Rd_pick.mono _ _ _ _)
   | (with_reducible exact LeO.refl _)
   | (with_reducible exact LeO.none _)
   | (with_reducible refine LeO.ite ?_ ?_)
   | (with_reducible refine LeO.bind ?_ (fun _ => ?_))
   | exact ih0 _ _ _ _ _
   | exact ih1 _ _ _ _ _ _ _ _
   | exact ih2 _ _ _ _ _ _ _ _ _ _
   | exact ih3 _ _ _ _ _ _ _
   | exact spec_FilledCourt.mono _ _ _ _ _
   | exact spec_l20Rd_odd.mono _ _ _ _
   | exact spec_l20Rd_pick.mono _ _ _ _
   | exact LeO.none _
   | refine LeO.ite ?_ ?_
   | refine LeO.bind ?_ (fun _ => ?_)
def spec_l20Court.T24 : Bool × List (List Nat × List Nat) := (true, [([], []), ([0], [0]), ([], []), ([], []), ([3], [3]), ([4], [4]), ([2, 5], [2, 5]), ([], []), ([7, 6], [7]), ([1, 6, 0, 1, 2, 3, 4, 5, 6, 7, 8], [1, 6]), ([9, 8, 8, 0, 1, 2, 3, 4, 5, 6, 7, 8], [8, 9])])
def spec_l20Court.B24 : List Nat := [0, 1, 0, 0, 8, 24, 60, 0, 252, 511, 1023]
theorem spec_l20Court.tab24 : rtab .any (opsOf Try.f56 24) = spec_l20Court.T24 := by kernel_rfl
theorem spec_l20Court.bits24 : waitsOk spec_l20Court.T24.2 spec_l20Court.B24 = true := by kernel_rfl
set_option maxHeartbeats 8000000 in
set_option maxRecDepth 100000 in
theorem spec_l20Court.calls (k : Nat) (g : Nat) (s0_0 : List Int) (s0_1 : Int) (a1 : Int) (r1 : Int) (r2 : List (List Int)) (r3 : List Int) (r4 : Int) (r5 : Int) (w0 w : World) (hI : IsS67 w0 w g s0_0 s0_1) (hB : Below w0.heap.size w0 w) (h : spec_l20Court.f k s0_0 s0_1 a1 = some (r1, r2, r3, r4, r5)) :
  Calls Try.prog 56 #[.pointer (some ⟨g, 0, none⟩), .int .i64 a1] w fun e w' => ∃ v1_ v2_ : Value, e = .returned (.agg #[.int .i64 r1, v1_, v2_, .int .i64 r4]) ∧ Kd.S (Kd.slice 3 (Kd.int .i64)) 23 w' w.heap.size (fun k_ => some k_ ≠ (v2_ : Value).ownBlock) v1_ r2 ∧ Kd.R (Kd.int .i64) 3 w' w.heap.size (fun _ => True) v2_ r3 ∧ IsS67 w0 w' g s0_0 r5 ∧ Below w0.heap.size w0 w' ∧ KeepBut w w' g none := by
 have hu28 := Try.underlying28
 have HI0 := Aside0.mk hI
 have HK := Aside0.mk (KeepBut.refl w g none)
 have HL := Aside0.mk hB.size
 clear hI
 have HW0 := Aside0.mk hB.size
 have HB := Aside0.mk hB
 clear hB
 have H : ((spec_l20Rd_pick.f k s0_0 s0_1 6).bind fun bt194 => (if 0 ≤ (wrap64 (1 + bt194.1)) then ((spec_l20Rd_pick.f k s0_0 bt194.2 3).bind fun bt197 => (if bt197.1 = 0 then ((spec_l20Rd_pick.f k s0_0 bt197.2 (shl .i64 1 (wrap64 (1 + bt194.1)))).bind fun bt199 => (spec_l20Court.j0 k a1 s0_0 bt199.2 (wrap64 (1 + bt194.1)) bt199.1)) else (spec_l20Court.j0 k a1 s0_0 bt197.2 (wrap64 (1 + bt194.1)) (wrap64 ((shl .i64 1 (wrap64 (1 + bt194.1))) - 1))))) else (none))) = some (r1, r2, r3, r4, r5) := h
 clear h
 replace H := Option.bind_eq_some_iff.mp H
 obtain ⟨⟨t194, t195⟩, A30, H⟩ := H
 replace H : (if 0 ≤ (wrap64 (1 + t194)) then ((spec_l20Rd_pick.f k s0_0 t195 3).bind fun bt197 => (if bt197.1 = 0 then ((spec_l20Rd_pick.f k s0_0 bt197.2 (shl .i64 1 (wrap64 (1 + t194)))).bind fun bt199 => (spec_l20Court.j0 k a1 s0_0 bt199.2 (wrap64 (1 + t194)) bt199.1)) else (spec_l20Court.j0 k a1 s0_0 bt197.2 (wrap64 (1 + t194)) (wrap64 ((shl .i64 1 (wrap64 (1 + t194))) - 1))))) else (none)) = some (r1, r2, r3, r4, r5) := H
 have A3 := Aside0.mk A30
 clear A30
 obtain ⟨ji4, hji4⟩ : ∃ j_ : Int, (wrap64 (1 + t194)) = j_ := ⟨_, rfl⟩
 replace H : (if 0 ≤ (ji4) then ((spec_l20Rd_pick.f k s0_0 t195 3).bind fun bt197 => (if bt197.1 = 0 then ((spec_l20Rd_pick.f k s0_0 bt197.2 (shl .i64 1 (ji4))).bind fun bt199 => (spec_l20Court.j0 k a1 s0_0 bt199.2 ji4 bt199.1)) else (spec_l20Court.j0 k a1 s0_0 bt197.2 ji4 (wrap64 ((shl .i64 1 (ji4)) - 1))))) else (none)) = some (r1, r2, r3, r4, r5) := by first | (rw [hji4] at H; exact H) | (simp only [hji4] at H ⊢; exact H)
 (try rw [hji4] at A3)
 have hji4w : (IntKind.i64.wrap (1 + t194)) = ji4 := (i64_w _).trans hji4
 by_cases c5 : 0 ≤ (ji4)
 ·rw [if_pos c5] at H
  have c5b0 := eq_true c5
  have c5b1 : decide (0 ≤ (ji4)) = true := decide_eq_true c5
  clear c5
  obtain ⟨ji6, hji6⟩ : ∃ j_ : Int, (shl .i64 1 (ji4)) = j_ := ⟨_, rfl⟩
  replace H : ((spec_l20Rd_pick.f k s0_0 t195 3).bind fun bt197 => (if bt197.1 = 0 then ((spec_l20Rd_pick.f k s0_0 bt197.2 (ji6)).bind fun bt199 => (spec_l20Court.j0 k a1 s0_0 bt199.2 ji4 bt199.1)) else (spec_l20Court.j0 k a1 s0_0 bt197.2 ji4 (wrap64 ((ji6) - 1))))) = some (r1, r2, r3, r4, r5) := by first | (rw [hji6] at H; exact H) | (simp only [hji6] at H ⊢; exact H)
  (try rw [hji6] at A3)
  have hji6_ : (IntKind.i64.wrap (1 * 2 ^ min (ji4).toNat 64)) = ji6 := hji6
  have hji6z : (ji4) ≤ 64 → (IntKind.i64.wrap (1 * 2 ^ (ji4).toNat)) = ji6 := shl_small hji6
  have hji6u : (IntKind.i64.wrap (2 ^ min (ji4).toNat 64)) = ji6 := by have h_ := hji6_; rw [Int.one_mul] at h_; exact h_
  have hji6v : (ji4) ≤ 64 → (IntKind.i64.wrap (2 ^ (ji4).toNat)) = ji6 := fun hle_ => by have h_ := hji6z hle_; rw [Int.one_mul] at h_; exact h_
  have hji6y : (wrap64 (1 * 2 ^ min (ji4).toNat 64)) = ji6 := (i64_w _).symm.trans hji6_
  have hji6x : (ji4) ≤ 64 → (wrap64 (1 * 2 ^ (ji4).toNat)) = ji6 := fun h_ => (i64_w _).symm.trans (hji6z h_)
  replace H := Option.bind_eq_some_iff.mp H
  obtain ⟨⟨t197, t198⟩, A70, H⟩ := H
  replace H : (if t197 = 0 then ((spec_l20Rd_pick.f k s0_0 t198 (ji6)).bind fun bt199 => (spec_l20Court.j0 k a1 s0_0 bt199.2 ji4 bt199.1)) else (spec_l20Court.j0 k a1 s0_0 t198 ji4 (wrap64 ((ji6) - 1)))) = some (r1, r2, r3, r4, r5) := H
  have A7 := Aside0.mk A70
  clear A70
  have HC8 := Aside0.mk H
  clear H
  go_enter Try.func56, Try.ntmps56
  go_upto_if 22 with (first | ((with_reducible refine gate_dst (N := 4) rfl ?_); refine box_event ?hg (N := 4) ?hd (cs := #[.int .i64 0, .slice none 0 0, .slice none 0 0, .int .i64 0]) (t := 28) ?hr ?_; (case hd => rfl); (case hg => rfl); (case hr => first | (go_simp; done) | (go_simp; rfl)); intro gb193 hg w9 hbox hb; have n0_ := Aside0.mk (IsS67.below (by repeat (first | (with_reducible first | exact HI0.out | apply IsS67.alloc | apply IsS67.drewN | apply IsS67.drew | apply IsS67.set_1) | exact HI0.out)) hb); have n1_ := Aside0.mk (KeepBut.trans (by repeat (first | (with_reducible first | exact HK.out | apply KeepBut.set_ | apply keep_drewN | apply keep_drew | apply keep_alloc) | exact HK.out)) (KeepBut.of_below hb g none) (.inl rfl)); have n2_ := Aside0.mk (below_step (by repeat (first | (with_reducible first | exact HB.out | apply below_alloc | apply pw_below_drewN | apply below_drew1 | refine below_set ?_ (IsS67.ge HI0.out)) | exact HB.out)) hb); have n3_ := Aside0.mk (hbox); have n4_ := Aside0.mk ((by rw [hg]; exact (keep_size (w := w) (g := g) (row := none) (by repeat (first | (with_reducible first | exact HK.out | apply KeepBut.set_ | apply keep_drewN | apply keep_drew | apply keep_alloc) | exact HK.out))) : w.heap.size ≤ gb193)); have n5_ := Aside0.mk ((Nat.le_trans HW0.out (by rw [hg]; exact (keep_size (w := w) (g := g) (row := none) (by repeat (first | (with_reducible first | exact HK.out | apply KeepBut.set_ | apply keep_drewN | apply keep_drew | apply keep_alloc) | exact HK.out))) : w.heap.size ≤ gb193) : w0.heap.size ≤ gb193)); have n6_ := Aside0.mk ((by rw [hg]; exact Nat.ne_of_lt (IsS67.lt (show IsS67 w0 _ g s0_0 s0_1 from by repeat (first | (with_reducible first | exact HI0.out | apply IsS67.alloc | apply IsS67.drewN | apply IsS67.drew | apply IsS67.set_1) | exact HI0.out))) : g ≠ gb193)); have n7_ := Aside0.mk ((by rw [hg]; exact Nat.ne_of_gt (IsS67.lt (show IsS67 w0 _ g s0_0 s0_1 from by repeat (first | (with_reducible first | exact HI0.out | apply IsS67.alloc | apply IsS67.drewN | apply IsS67.drew | apply IsS67.set_1) | exact HI0.out))) : gb193 ≠ g)); clear HI0 HK HB; have HI0 := n0_; have HK := n1_; have HB := n2_; have BK193 := n3_; have GW193 := n4_; have GE193 := n5_; have NB0_193 := n6_; have NB193_0 := n7_; clear n0_ n1_ n2_ n3_ n4_ n5_ n6_ n7_ hb hbox hg) | ((with_reducible refine gate_callee (f := 62) rfl ?_); refine goesL_ (some 12) rfl rfl Try.func62 kr rfl #[.pointer (some ⟨g, 0, none⟩), .int .i64 6] rfl lm ?_; (with_reducible refine (spec_l20Rd_pick.calls k g s0_0 s0_1 6 t194 t195 w0 _ ?side1 ?side2 A3.out).mono ?_); (case side1 => repeat (first | (with_reducible first | exact HI0.out | apply IsS67.alloc | apply IsS67.drewN | apply IsS67.drew | apply IsS67.set_1 | refine IsS67.far ?_ NB0_193.out _) | exact HI0.out)); (case side2 => repeat (first | (with_reducible first | exact HB.out | apply below_alloc | apply pw_below_drewN | apply below_drew1 | refine below_set ?_ (IsS67.ge HI0.out) | refine below_set ?_ GE193.out) | exact HB.out)); rintro e w10 ⟨rfl, hi, hb, hk⟩; refine ⟨_, rfl, ?_⟩; have n0_ := Aside0.mk (KeepBut.blk hk (bz BK193) NB193_0.out (by simp)); have n1_ := Aside0.mk (KeepBut.trans (by repeat (first | (with_reducible first | exact HK.out | apply KeepBut.set_ | apply keep_drewN | apply keep_drew | apply keep_alloc | refine keep_far ?_ GW193.out _) | exact HK.out)) hk (.inl rfl)); have n2_ := Aside0.mk (hb); have n3_ := Aside0.mk (hi); clear BK193 HK HB HI0; have BK193 := n0_; have HK := n1_; have HB := n2_; have HI0 := n3_; clear n0_ n1_ n2_ n3_; (try clear hb); (try clear hb2); (try clear hk); (try clear hi)) | ((with_reducible refine gate_dst (N := 5) rfl ?_); refine box_event ?hg (N := 5) ?hd (cs := #[.int .i64 0, .slice none 0 0, .slice none 0 0, .int .i64 0]) (t := 28) ?hr ?_; (case hd => rfl); (case hg => rfl); (case hr => first | (go_simp; done) | (go_simp; rfl)); intro gb196 hg w11 hbox hb; have n0_ := Aside0.mk (IsS67.below (by repeat (first | (with_reducible first | exact HI0.out | apply IsS67.alloc | apply IsS67.drewN | apply IsS67.drew | apply IsS67.set_1 | refine IsS67.far ?_ NB0_193.out _) | exact HI0.out)) hb); have n1_ := Aside0.mk (blk_below (bz BK193) hb); have n2_ := Aside0.mk (KeepBut.trans (by repeat (first | (with_reducible first | exact HK.out | apply KeepBut.set_ | apply keep_drewN | apply keep_drew | apply keep_alloc | refine keep_far ?_ GW193.out _) | exact HK.out)) (KeepBut.of_below hb g none) (.inl rfl)); have n3_ := Aside0.mk (below_step (by repeat (first | (with_reducible first | exact HB.out | apply below_alloc | apply pw_below_drewN | apply below_drew1 | refine below_set ?_ (IsS67.ge HI0.out) | refine below_set ?_ GE193.out) | exact HB.out)) hb); have n4_ := Aside0.mk (hbox); have n5_ := Aside0.mk ((by rw [hg]; exact (keep_size (w := w) (g := g) (row := none) (by repeat (first | (with_reducible first | exact HK.out | apply KeepBut.set_ | apply keep_drewN | apply keep_drew | apply keep_alloc | refine keep_far ?_ GW193.out _) | exact HK.out))) : w.heap.size ≤ gb196)); have n6_ := Aside0.mk ((Nat.le_trans HW0.out (by rw [hg]; exact (keep_size (w := w) (g := g) (row := none) (by repeat (first | (with_reducible first | exact HK.out | apply KeepBut.set_ | apply keep_drewN | apply keep_drew | apply keep_alloc | refine keep_far ?_ GW193.out _) | exact HK.out))) : w.heap.size ≤ gb196) : w0.heap.size ≤ gb196)); have n7_ := Aside0.mk ((gn hg (bz BK193))); have n8_ := Aside0.mk ((gm hg (bz BK193))); have n9_ := Aside0.mk ((by rw [hg]; exact Nat.ne_of_lt (IsS67.lt (show IsS67 w0 _ g s0_0 t195 from by repeat (first | (with_reducible first | exact HI0.out | apply IsS67.alloc | apply IsS67.drewN | apply IsS67.drew | apply IsS67.set_1 | refine IsS67.far ?_ NB0_193.out _) | exact HI0.out))) : g ≠ gb196)); have n10_ := Aside0.mk ((by rw [hg]; exact Nat.ne_of_gt (IsS67.lt (show IsS67 w0 _ g s0_0 t195 from by repeat (first | (with_reducible first | exact HI0.out | apply IsS67.alloc | apply IsS67.drewN | apply IsS67.drew | apply IsS67.set_1 | refine IsS67.far ?_ NB0_193.out _) | exact HI0.out))) : gb196 ≠ g)); clear HI0 BK193 HK HB; have HI0 := n0_; have BK193 := n1_; have HK := n2_; have HB := n3_; have BK196 := n4_; have GW196 := n5_; have GE196 := n6_; have NB193_196 := n7_; have NB196_193 := n8_; have NB0_196 := n9_; have NB196_0 := n10_; clear n0_ n1_ n2_ n3_ n4_ n5_ n6_ n7_ n8_ n9_ n10_ hb hbox hg; have hnb12 := NB196_193.out; have hnc12 := NB193_196.out; have hnb13 := NB196_0.out; have hnc13 := NB0_196.out; have hcz14_0 := cz0 BK196; have hcz14_1 := cz1 BK196; have hcz14_2 := cz2 BK196; have hcz14_3 := cz3 BK196; have hfz14_0 := blk_frozen BK196.out 0; have hfz14_1 := blk_frozen BK196.out 1; have hfz14_2 := blk_frozen BK196.out 2; have hfz14_3 := blk_frozen BK196.out 3) | ((with_reducible refine gate_callee (f := 62) rfl ?_); refine goesL_ (some 21) rfl rfl Try.func62 kr rfl #[.pointer (some ⟨g, 0, none⟩), .int .i64 3] rfl lm ?_; (with_reducible refine (spec_l20Rd_pick.calls k g s0_0 t195 3 t197 t198 w0 _ ?side1 ?side2 A7.out).mono ?_); (case side1 => repeat (first | (with_reducible first | exact HI0.out | apply IsS67.alloc | apply IsS67.drewN | apply IsS67.drew | apply IsS67.set_1 | refine IsS67.far ?_ NB0_193.out _ | refine IsS67.far ?_ NB0_196.out _) | exact HI0.out)); (case side2 => repeat (first | (with_reducible first | exact HB.out | apply below_alloc | apply pw_below_drewN | apply below_drew1 | refine below_set ?_ (IsS67.ge HI0.out) | refine below_set ?_ GE193.out | refine below_set ?_ GE196.out) | exact HB.out)); rintro e w15 ⟨rfl, hi, hb, hk⟩; refine ⟨_, rfl, ?_⟩; have n0_ := Aside0.mk (KeepBut.blk hk (g' := gb193) (o := .cells #[.int .i64 0, .slice none 0 0, .slice none 0 0, .int .i64 0] 28 (0, 0)) (bf NB193_196 BK193) NB193_0.out (by simp)); have n1_ := Aside0.mk (KeepBut.blk hk (g' := gb196) (o := .cells #[.int .i64 ji4, .slice none 0 0, .slice none 0 0, .int .i64 (wrap64 ((ji6) - 1))] 28 (0, 0)) (bp BK196) NB196_0.out (by simp)); have n2_ := Aside0.mk (KeepBut.trans (by repeat (first | (with_reducible first | exact HK.out | apply KeepBut.set_ | apply keep_drewN | apply keep_drew | apply keep_alloc | refine keep_far ?_ GW193.out _ | refine keep_far ?_ GW196.out _) | exact HK.out)) hk (.inl rfl)); have n3_ := Aside0.mk (hb); have n4_ := Aside0.mk (hi); clear BK193 BK196 HK HB HI0; have BK193 := n0_; have BK196 := n1_; have HK := n2_; have HB := n3_; have HI0 := n4_; clear n0_ n1_ n2_ n3_ n4_; (try clear hb); (try clear hb2); (try clear hk); (try clear hi)))
  (try simp only [Act.put, List.setIfInBounds_toArray, List.set_cons_zero, List.set_cons_succ])
  go_cut [] (fun wc => ∃ (kq : Nat) (x1001_7 : Int) (x197003_7 : Int), Aside0 (spec_l20Court.j0 kq a1 s0_0 x1001_7 ji4 x197003_7 = some (r1, r2, r3, r4, r5)) ∧ Aside0 (kq ≤ k) ∧ Aside0 (wc.heap[gb193]? = some (.cells #[.int .i64 0, (.slice none 0 0), (.slice none 0 0), .int .i64 0] 28 (0, 0))) ∧ Aside0 (wc.heap[gb196]? = some (.cells #[.int .i64 ji4, (.slice none 0 0), (.slice none 0 0), .int .i64 x197003_7] 28 (0, 0))) ∧ Aside0 (IsS67 w0 wc g s0_0 x1001_7) ∧ Aside0 (KeepBut w wc g none) ∧ Aside0 (Below w0.heap.size w0 wc))
  case first =>
   have H := HC8.out
   clear HC8
   by_cases c16 : t197 = 0
   ·rw [if_pos c16] at H
    have c16b0 : (t197 == 0) = true := beq_iff_eq.mpr c16
    have c16b1 : (t197 != 0) = false := bne_eq_false_iff_eq.mpr c16
    clear c16
    (first | rw [c16b0] | (simp only [i64_w, i32_w]; rw [c16b0]) | skip)
    have c17b0 := eq_true (oda : 0 ≤ (ji4))
    replace H := Option.bind_eq_some_iff.mp H
    obtain ⟨⟨t199, t200⟩, A180, H⟩ := H
    replace H : (spec_l20Court.j0 k a1 s0_0 t200 ji4 t199) = some (r1, r2, r3, r4, r5) := H
    have A18 := Aside0.mk A180
    clear A180
    have H' := Aside0.mk H
    clear H
    have hnb19 := NB196_193.out
    have hnc19 := NB193_196.out
    have hnb20 := NB196_0.out
    have hnc20 := NB0_196.out
    have hcz21_0 := cz0 BK196
    have hcz21_1 := cz1 BK196
    have hcz21_2 := cz2 BK196
    have hcz21_3 : w15.cell? ⟨gb196, 3, none⟩ = some (.int .i64 (wrap64 ((ji6) - 1))) := (blk_cell BK196.out 3).trans rfl
    have hfz21_0 := blk_frozen BK196.out 0
    have hfz21_1 := blk_frozen BK196.out 1
    have hfz21_2 := blk_frozen BK196.out 2
    have hfz21_3 := blk_frozen BK196.out 3
    go_wp2_with (first | ((with_reducible refine gate_callee (f := 62) rfl ?_); refine goesL_ (some 27) rfl rfl Try.func62 kr rfl #[.pointer (some ⟨g, 0, none⟩), .int .i64 ji6] rfl (by (try simp only [List.map_toArray, List.map_cons, List.map_nil]); first | done | (simp only [hji6]; rfl) | rfl | (simp only [List.length_drop, List.length_take]; rfl)) ?_; (with_reducible refine (spec_l20Rd_pick.calls k g s0_0 t198 ji6 t199 t200 w0 _ ?side1 ?side2 A18.out).mono ?_); (case side1 => repeat (first | (with_reducible first | exact HI0.out | apply IsS67.alloc | apply IsS67.drewN | apply IsS67.drew | apply IsS67.set_1 | refine IsS67.far ?_ NB0_193.out _ | refine IsS67.far ?_ NB0_196.out _) | exact HI0.out)); (case side2 => repeat (first | (with_reducible first | exact HB.out | apply below_alloc | apply pw_below_drewN | apply below_drew1 | refine below_set ?_ (IsS67.ge HI0.out) | refine below_set ?_ GE193.out | refine below_set ?_ GE196.out) | exact HB.out)); rintro e w22 ⟨rfl, hi, hb, hk⟩; refine ⟨_, rfl, ?_⟩; have n0_ := Aside0.mk (KeepBut.blk hk (bz BK193) NB193_0.out (by simp)); have n1_ := Aside0.mk (KeepBut.blk hk (bz BK196) NB196_0.out (by simp)); have n2_ := Aside0.mk (KeepBut.trans (by repeat (first | (with_reducible first | exact HK.out | apply KeepBut.set_ | apply keep_drewN | apply keep_drew | apply keep_alloc | refine keep_far ?_ GW193.out _ | refine keep_far ?_ GW196.out _) | exact HK.out)) hk (.inl rfl)); have n3_ := Aside0.mk (hb); have n4_ := Aside0.mk (hi); clear BK193 BK196 HK HB HI0; have BK193 := n0_; have BK196 := n1_; have HK := n2_; have HB := n3_; have HI0 := n4_; clear n0_ n1_ n2_ n3_ n4_; (try clear hb); (try clear hb2); (try clear hk); (try clear hi); have hcz23_0 := cz0 BK196; have hcz23_1 := cz1 BK196; have hcz23_2 := cz2 BK196; have hcz23_3 : w22.cell? ⟨gb196, 3, none⟩ = some (.int .i64 (wrap64 ((ji6) - 1))) := (blk_cell BK196.out 3).trans rfl; have hfz23_0 := blk_frozen BK196.out 0; have hfz23_1 := blk_frozen BK196.out 1; have hfz23_2 := blk_frozen BK196.out 2; have hfz23_3 := blk_frozen BK196.out 3))
    go_meet
    case rel => exact ⟨_, (t200), (t199), H', ⟨by first | omega | exact Nat.le_refl _⟩, ⟨bf NB193_196 BK193⟩, ⟨bp BK196⟩, ⟨by repeat (first | (with_reducible first | exact HI0.out | apply IsS67.alloc | apply IsS67.drewN | apply IsS67.drew | apply IsS67.set_1 | refine IsS67.far ?_ NB0_193.out _ | refine IsS67.far ?_ NB0_196.out _) | exact HI0.out)⟩, ⟨by repeat (first | (with_reducible first | exact HK.out | apply KeepBut.set_ | apply keep_drewN | apply keep_drew | apply keep_alloc | refine keep_far ?_ GW193.out _ | refine keep_far ?_ GW196.out _) | exact HK.out)⟩, ⟨by repeat (first | (with_reducible first | exact HB.out | apply below_alloc | apply pw_below_drewN | apply below_drew1 | refine below_set ?_ (IsS67.ge HI0.out) | refine below_set ?_ GE193.out | refine below_set ?_ GE196.out) | exact HB.out)⟩⟩
   ·rw [if_neg c16] at H
    have c16b0 : (t197 == 0) = false := beq_eq_false_iff_ne.mpr c16
    have c16b1 : (t197 != 0) = true := bne_iff_ne.mpr c16
    (first | rw [c16b0] | (simp only [i64_w, i32_w]; rw [c16b0]) | skip)
    have H' := Aside0.mk H
    clear H
    go_wp2
    go_meet
    case rel => exact ⟨_, (t198), (wrap64 ((ji6) - 1)), H', ⟨by first | omega | exact Nat.le_refl _⟩, ⟨bz BK193⟩, ⟨bz BK196⟩, ⟨by repeat (first | (with_reducible first | exact HI0.out | apply IsS67.alloc | apply IsS67.drewN | apply IsS67.drew | apply IsS67.set_1 | refine IsS67.far ?_ NB0_193.out _ | refine IsS67.far ?_ NB0_196.out _) | exact HI0.out)⟩, ⟨by repeat (first | (with_reducible first | exact HK.out | apply KeepBut.set_ | apply keep_drewN | apply keep_drew | apply keep_alloc | refine keep_far ?_ GW193.out _ | refine keep_far ?_ GW196.out _) | exact HK.out)⟩, ⟨by repeat (first | (with_reducible first | exact HB.out | apply below_alloc | apply pw_below_drewN | apply below_drew1 | refine below_set ?_ (IsS67.ge HI0.out) | refine below_set ?_ GE193.out | refine below_set ?_ GE196.out) | exact HB.out)⟩⟩
  case rest =>
   clear HC8
   try clear c1
   try clear c2
   try clear p2
   try clear c5
   try clear c5b0
   try clear c5b1
   try clear c6
   try clear p6
   try clear c12
   try clear c13
   try clear c16
   try clear c16b0
   try clear c16b1
   try clear c17
   try clear c17b0
   try clear c19
   try clear c20
   try clear hcz14_0
   try clear hcz14_1
   try clear hcz14_2
   try clear hcz14_3
   try clear hcz21_0
   try clear hcz21_1
   try clear hcz21_2
   try clear hcz21_3
   try clear hcz23_0
   try clear hcz23_1
   try clear hcz23_2
   try clear hcz23_3
   try clear hfz14_0
   try clear hfz14_1
   try clear hfz14_2
   try clear hfz14_3
   try clear hfz21_0
   try clear hfz21_1
   try clear hfz21_2
   try clear hfz21_3
   try clear hfz23_0
   try clear hfz23_1
   try clear hfz23_2
   try clear hfz23_3
   obtain ⟨kq, x1001_7, x197003_7, HA, HJ7, BK193, BK196, HI0, HK, HB⟩ := hcut
   cases kq with
   | zero => exact absurd HA.out (by simp [spec_l20Court.j0])
   | succ kj7 =>
    have H := HA.out
    clear HA
    simp only [spec_l20Court.j0] at H
    replace H := Option.bind_eq_some_iff.mp H
    obtain ⟨⟨t201, t202⟩, A240, H⟩ := H
    replace H : (spec_l20Court.l0 kj7 a1 t201 s0_0 t202 ji4 ([] : List (List Int)) ([] : List Int) x197003_7) = some (r1, r2, r3, r4, r5) := H
    have A24 := Aside0.mk A240
    clear A240
    have H' := Aside0.mk H
    clear H
    go_wp2_with (first | ((with_reducible refine gate_callee (f := 62) rfl ?_); refine goesL_ (some 30) rfl rfl Try.func62 kr rfl #[.pointer (some ⟨g, 0, none⟩), .int .i64 4] rfl lm ?_; (with_reducible refine (spec_l20Rd_pick.calls kj7 g s0_0 x1001_7 4 t201 t202 w0 _ ?side1 ?side2 A24.out).mono ?_); (case side1 => repeat (first | (with_reducible first | exact HI0.out | apply IsS67.alloc | apply IsS67.drewN | apply IsS67.drew | apply IsS67.set_1 | refine IsS67.far ?_ NB0_193.out _ | refine IsS67.far ?_ NB0_196.out _) | exact HI0.out)); (case side2 => repeat (first | (with_reducible first | exact HB.out | apply below_alloc | apply pw_below_drewN | apply below_drew1 | refine below_set ?_ (IsS67.ge HI0.out) | refine below_set ?_ GE193.out | refine below_set ?_ GE196.out) | exact HB.out)); rintro e w25 ⟨rfl, hi, hb, hk⟩; refine ⟨_, rfl, ?_⟩; have n0_ := Aside0.mk (KeepBut.blk hk (bz BK193) NB193_0.out (by simp)); have n1_ := Aside0.mk (KeepBut.blk hk (bz BK196) NB196_0.out (by simp)); have n2_ := Aside0.mk (KeepBut.trans (by repeat (first | (with_reducible first | exact HK.out | apply KeepBut.set_ | apply keep_drewN | apply keep_drew | apply keep_alloc | refine keep_far ?_ GW193.out _ | refine keep_far ?_ GW196.out _) | exact HK.out)) hk (.inl rfl)); have n3_ := Aside0.mk (hb); have n4_ := Aside0.mk (hi); clear BK193 BK196 HK HB HI0; have BK193 := n0_; have BK196 := n1_; have HK := n2_; have HB := n3_; have HI0 := n4_; clear n0_ n1_ n2_ n3_ n4_; (try clear hb); (try clear hb2); (try clear hk); (try clear hi)))
    go_loopg [6] kj7 (fun kq v6 w' => ∃ (x6_2 : Int) (x1001_2 : Int) (x197001_2 : List (List Int)) (x197002_2 : List Int) (u197001 : Value) (u197002 : Value), v6 = .int .i64 x6_2 ∧ Aside0 (spec_l20Court.l0 kq a1 x6_2 s0_0 x1001_2 ji4 x197001_2 x197002_2 x197003_7 = some (r1, r2, r3, r4, r5)) ∧ Aside0 (kq ≤ kj7) ∧ Aside0 (Kd.S (Kd.slice 3 (Kd.int .i64)) 23 w' w.heap.size (fun k_ => some k_ ≠ (u197002 : Value).ownBlock) u197001 x197001_2) ∧ Aside0 (Kd.R (Kd.int .i64) 3 w' w.heap.size (fun _ => True) u197002 x197002_2) ∧ Aside0 (w'.heap[gb193]? = some (.cells #[.int .i64 0, (.slice none 0 0), (.slice none 0 0), .int .i64 0] 28 (0, 0))) ∧ Aside0 (w'.heap[gb196]? = some (.cells #[.int .i64 ji4, u197001, u197002, .int .i64 x197003_7] 28 (0, 0))) ∧ Aside0 (IsS67 w0 w' g s0_0 x1001_2) ∧ Aside0 (KeepBut w w' g none) ∧ Aside0 (Below w0.heap.size w0 w'))
    case atStart => exact ⟨(t201), (t202), (([] : List (List Int))), (([] : List Int)), (.slice none 0 0), (.slice none 0 0), (by first | rfl | (simp; done) | (simp [*]; done)), H', ⟨Nat.le_refl _⟩, ⟨by first | exact Kd.S_nil _ _ _ _ _ | exact Kd.N_nil _ _ _ _ _ | exact Kd.V_nil _ _ _ _ _ | exact Kd.Q_nil _ _ _ _ _ | exact Kd.R_nil _ _ _ _ _⟩, ⟨by first | exact Kd.R_nil _ _ _ _ _ | exact Kd.N_nil _ _ _ _ _ | exact Kd.V_nil _ _ _ _ _ | exact Kd.Q_nil _ _ _ _ _ | exact Kd.S_nil _ _ _ _ _⟩, ⟨bz BK193⟩, ⟨bz BK196⟩, ⟨by repeat (first | (with_reducible first | exact HI0.out | apply IsS67.alloc | apply IsS67.drewN | apply IsS67.drew | apply IsS67.set_1 | refine IsS67.far ?_ NB0_193.out _ | refine IsS67.far ?_ NB0_196.out _) | exact HI0.out)⟩, ⟨by repeat (first | (with_reducible first | exact HK.out | apply KeepBut.set_ | apply keep_drewN | apply keep_drew | apply keep_alloc | refine keep_far ?_ GW193.out _ | refine keep_far ?_ GW196.out _) | exact HK.out)⟩, ⟨by repeat (first | (with_reducible first | exact HB.out | apply below_alloc | apply pw_below_drewN | apply below_drew1 | refine below_set ?_ (IsS67.ge HI0.out) | refine below_set ?_ GE193.out | refine below_set ?_ GE196.out) | exact HB.out)⟩⟩
    case round =>
     clear H'
     try clear c1
     try clear c2
     try clear p2
     try clear c5
     try clear c5b0
     try clear c5b1
     try clear c6
     try clear p6
     try clear c12
     try clear c13
     try clear c16
     try clear c16b0
     try clear c16b1
     try clear c17
     try clear c17b0
     try clear c19
     try clear c20
     try clear hcz14_0
     try clear hcz14_1
     try clear hcz14_2
     try clear hcz14_3
     try clear hcz21_0
     try clear hcz21_1
     try clear hcz21_2
     try clear hcz21_3
     try clear hcz23_0
     try clear hcz23_1
     try clear hcz23_2
     try clear hcz23_3
     try clear hfz14_0
     try clear hfz14_1
     try clear hfz14_2
     try clear hfz14_3
     try clear hfz21_0
     try clear hfz21_1
     try clear hfz21_2
     try clear hfz21_3
     try clear hfz23_0
     try clear hfz23_1
     try clear hfz23_2
     try clear hfz23_3
     try clear p2
     try clear p6
     obtain ⟨x6_2, x1001_2, x197001_2, x197002_2, u197001, u197002, rfl, HA, HK2, HO_197001, HO_197002, BK193, BK196, HI0, HK, HB⟩ := hrel
     cases gk with
     | zero => exact absurd HA.out (by simp [spec_l20Court.l0])
     | succ k2 =>
      have H := HA.out
      clear HA
      simp only [spec_l20Court.l0] at H
      by_cases c26 : x6_2 > 0
      ·rw [if_pos c26] at H
       have c26b0 : decide (0 < x6_2) = true := decide_eq_true c26
       clear c26
       obtain ⟨y203, hy203⟩ : ∃ y_ : List Int, y_ = (([] : List Int)) := ⟨_, rfl⟩
       replace H : (spec_l20Court.l1 k2 a1 x6_2 y203 0 s0_0 x1001_2 ji4 x197001_2 x197002_2 x197003_7) = some (r1, r2, r3, r4, r5) := by first | (rw [hy203]; with_reducible exact H) | (have H2_ := (Option.bind_some _ _).symm.trans H; rw [hy203]; with_reducible exact H2_) | (have H2_ := (Option.bind_some _ _).symm.trans H; with_reducible exact H2_) | with_reducible exact H | (rw [hy203]; exact H) | exact H
       have Ny203 := Aside0.mk hy203
       clear hy203
       have H' := Aside0.mk H
       clear H
       go_wp2_with (first | ((with_reducible refine gate_dst (N := 35) rfl ?_); refine Kd.R_lit (Kd.int .i64) _ 3 ?hg (N := 35) ?hd (xs := ([] : List Int)) (inner := []) (ok := fun _ => True) (okp := fun _ => True) ?hr ?hp (fun _ hk => hk) trivial (Below.refl _ _) (Nat.le_refl _) (by simp) ?_; (case hd => rfl); (case hg => rfl); (case hr => first | (go_simp; done) | (go_simp; rfl)); (case hp => exact (Reps.none _ _)); intro v204 w27 ho28 hb hg_ hnew_; clear hg_ hnew_; (first | rw [← Ny203.out] at ho28 | (simp only [Int.reduceToNat] at ho28; rw [← Ny203.out] at ho28)); have n0_ := Aside0.mk (Kd.S_elder' (sz HO_197001) (Kd.R_base ho28) hb); have n1_ := Aside0.mk (Kd.R_elder' (rz HO_197002) (Kd.R_base ho28) hb); have n2_ := Aside0.mk (Kd.R_lower (Kd.R_new' ho28 (Kd.R_lt (rz HO_197002))) (keep_size (w := w) (g := g) (row := none) (by repeat (first | (with_reducible first | exact HK.out | apply KeepBut.set_ | apply keep_drewN | apply keep_drew | apply keep_alloc | refine keep_far ?_ GW193.out _ | refine keep_far ?_ GW196.out _) | exact HK.out)))); have n3_ := Aside0.mk (blk_below (bz BK193) hb); have n4_ := Aside0.mk (blk_below (bz BK196) hb); have n5_ := Aside0.mk (IsS67.below (by repeat (first | (with_reducible first | exact HI0.out | apply IsS67.alloc | apply IsS67.drewN | apply IsS67.drew | apply IsS67.set_1 | refine IsS67.far ?_ NB0_193.out _ | refine IsS67.far ?_ NB0_196.out _) | exact HI0.out)) hb); have n6_ := Aside0.mk (KeepBut.trans (by repeat (first | (with_reducible first | exact HK.out | apply KeepBut.set_ | apply keep_drewN | apply keep_drew | apply keep_alloc | refine keep_far ?_ GW193.out _ | refine keep_far ?_ GW196.out _) | exact HK.out)) (KeepBut.of_below hb g none) (.inl rfl)); have n7_ := Aside0.mk (below_step (by repeat (first | (with_reducible first | exact HB.out | apply below_alloc | apply pw_below_drewN | apply below_drew1 | refine below_set ?_ (IsS67.ge HI0.out) | refine below_set ?_ GE193.out | refine below_set ?_ GE196.out) | exact HB.out)) hb); clear HO_197001 HO_197002 BK193 BK196 HI0 HK HB; have HO_197001 := n0_; have HO_197002 := n1_; have HO205 := n2_; have BK193 := n3_; have BK196 := n4_; have HI0 := n5_; have HK := n6_; have HB := n7_; clear n0_ n1_ n2_ n3_ n4_ n5_ n6_ n7_ hb ho28))
       go_loopg [7, 8] k2 (fun kq v7 v8 w' => ∃ (x7_3 : List Int) (x8_3 : Int) (x1001_3 : Int), v8 = .int .i64 x8_3 ∧ Aside0 (spec_l20Court.l1 kq a1 x6_2 x7_3 x8_3 s0_0 x1001_3 ji4 x197001_2 x197002_2 x197003_7 = some (r1, r2, r3, r4, r5)) ∧ Aside0 (kq ≤ k2) ∧ Aside0 (Kd.R (Kd.int .i64) 3 w' w.heap.size (fun k_ => some k_ ≠ (u197002 : Value).ownBlock) v7 x7_3) ∧ Aside0 (Kd.S (Kd.slice 3 (Kd.int .i64)) 23 w' w.heap.size (fun k_ => some k_ ≠ (v7 : Value).ownBlock ∧ some k_ ≠ (u197002 : Value).ownBlock) u197001 x197001_2) ∧ Aside0 (Kd.R (Kd.int .i64) 3 w' w.heap.size (fun k_ => some k_ ≠ (v7 : Value).ownBlock) u197002 x197002_2) ∧ Aside0 (w'.heap[gb193]? = some (.cells #[.int .i64 0, (.slice none 0 0), (.slice none 0 0), .int .i64 0] 28 (0, 0))) ∧ Aside0 (w'.heap[gb196]? = some (.cells #[.int .i64 ji4, u197001, u197002, .int .i64 x197003_7] 28 (0, 0))) ∧ Aside0 (IsS67 w0 w' g s0_0 x1001_3) ∧ Aside0 (KeepBut w w' g none) ∧ Aside0 (Below w0.heap.size w0 w'))
       case atStart => exact ⟨(y203), (0), (x1001_2), (by first | rfl | (simp; done) | (simp [*]; done)), H', ⟨Nat.le_refl _⟩, ⟨mR HO205⟩, ⟨mS HO_197001⟩, ⟨mR HO_197002⟩, ⟨bz BK193⟩, ⟨bz BK196⟩, ⟨by repeat (first | (with_reducible first | exact HI0.out | apply IsS67.alloc | apply IsS67.drewN | apply IsS67.drew | apply IsS67.set_1 | refine IsS67.far ?_ NB0_193.out _ | refine IsS67.far ?_ NB0_196.out _) | exact HI0.out)⟩, ⟨by repeat (first | (with_reducible first | exact HK.out | apply KeepBut.set_ | apply keep_drewN | apply keep_drew | apply keep_alloc | refine keep_far ?_ GW193.out _ | refine keep_far ?_ GW196.out _) | exact HK.out)⟩, ⟨by repeat (first | (with_reducible first | exact HB.out | apply below_alloc | apply pw_below_drewN | apply below_drew1 | refine below_set ?_ (IsS67.ge HI0.out) | refine below_set ?_ GE193.out | refine below_set ?_ GE196.out) | exact HB.out)⟩⟩
       case round =>
        clear H'
        try clear c1
        try clear c2
        try clear p2
        try clear c5
        try clear c5b0
        try clear c5b1
        try clear c6
        try clear p6
        try clear c12
        try clear c13
        try clear c16
        try clear c16b0
        try clear c16b1
        try clear c17
        try clear c17b0
        try clear c19
        try clear c20
        try clear c26
        try clear c26b0
        try clear hcz14_0
        try clear hcz14_1
        try clear hcz14_2
        try clear hcz14_3
        try clear hcz21_0
        try clear hcz21_1
        try clear hcz21_2
        try clear hcz21_3
        try clear hcz23_0
        try clear hcz23_1
        try clear hcz23_2
        try clear hcz23_3
        try clear hfz14_0
        try clear hfz14_1
        try clear hfz14_2
        try clear hfz14_3
        try clear hfz21_0
        try clear hfz21_1
        try clear hfz21_2
        try clear hfz21_3
        try clear hfz23_0
        try clear hfz23_1
        try clear hfz23_2
        try clear hfz23_3
        try clear p2
        try clear p6
        obtain ⟨x7_3, x8_3, x1001_3, rfl, HA, HK3, HO_7, HO_197001, HO_197002, BK193, BK196, HI0, HK, HB⟩ := hrel
        cases gk with
        | zero => exact absurd HA.out (by simp [spec_l20Court.l1])
        | succ k3 =>
         have H := HA.out
         clear HA
         simp only [spec_l20Court.l1] at H
         by_cases c29 : x8_3 < ji4
         ·rw [if_pos c29] at H
          have c29b0 : decide (x8_3 < ji4) = true := decide_eq_true c29
          clear c29
          replace H := Option.bind_eq_some_iff.mp H
          obtain ⟨⟨t212, t213⟩, A300, H⟩ := H
          replace H : (if t212 = 0 then ((spec_l20Rd_pick.f k3 s0_0 t213 (wrap64 ((x7_3.length : Int) + 1))).bind fun bt214 => ((some (([] : List Int) : List Int)).bind fun y216 => (if 0 ≤ bt214.1 then (if bt214.1 ≤ (x7_3.length : Int) then ((some (x7_3.take (bt214.1 : Int).toNat : List Int)).bind fun y219 => (if y216.length + y219.length < 17592186044416 then ((some (y216 ++ y219 : List Int)).bind fun y223 => (if y223.length < 17592186044416 then ((some (y223 ++ [x8_3] : List Int)).bind fun y226 => ((some (x7_3.drop (bt214.1 : Int).toNat : List Int)).bind fun y229 => (if y226.length + y229.length < 17592186044416 then (spec_l20Court.l1 k3 a1 x6_2 (y226 ++ y229) (wrap64 (x8_3 + 1)) s0_0 bt214.2 ji4 x197001_2 x197002_2 x197003_7) else (none)))) else (none))) else (none))) else (none)) else (none)))) else (spec_l20Court.l1 k3 a1 x6_2 x7_3 (wrap64 (x8_3 + 1)) s0_0 t213 ji4 x197001_2 x197002_2 x197003_7)) = some (r1, r2, r3, r4, r5) := H
          have A30 := Aside0.mk A300
          clear A300
          by_cases c31 : t212 = 0
          ·rw [if_pos c31] at H
           have c31b0 : (t212 == 0) = true := beq_iff_eq.mpr c31
           have c31b1 : (t212 != 0) = false := bne_eq_false_iff_eq.mpr c31
           clear c31
           replace H := Option.bind_eq_some_iff.mp H
           obtain ⟨⟨t214, t215⟩, A320, H⟩ := H
           replace H : ((some (([] : List Int) : List Int)).bind fun y216 => (if 0 ≤ t214 then (if t214 ≤ (x7_3.length : Int) then ((some (x7_3.take (t214 : Int).toNat : List Int)).bind fun y219 => (if y216.length + y219.length < 17592186044416 then ((some (y216 ++ y219 : List Int)).bind fun y223 => (if y223.length < 17592186044416 then ((some (y223 ++ [x8_3] : List Int)).bind fun y226 => ((some (x7_3.drop (t214 : Int).toNat : List Int)).bind fun y229 => (if y226.length + y229.length < 17592186044416 then (spec_l20Court.l1 k3 a1 x6_2 (y226 ++ y229) (wrap64 (x8_3 + 1)) s0_0 t215 ji4 x197001_2 x197002_2 x197003_7) else (none)))) else (none))) else (none))) else (none)) else (none))) = some (r1, r2, r3, r4, r5) := H
           have A32 := Aside0.mk A320
           clear A320
           obtain ⟨y216, hy216⟩ : ∃ y_ : List Int, y_ = (([] : List Int)) := ⟨_, rfl⟩
           replace H : (if 0 ≤ t214 then (if t214 ≤ (x7_3.length : Int) then ((some (x7_3.take (t214 : Int).toNat : List Int)).bind fun y219 => (if y216.length + y219.length < 17592186044416 then ((some (y216 ++ y219 : List Int)).bind fun y223 => (if y223.length < 17592186044416 then ((some (y223 ++ [x8_3] : List Int)).bind fun y226 => ((some (x7_3.drop (t214 : Int).toNat : List Int)).bind fun y229 => (if y226.length + y229.length < 17592186044416 then (spec_l20Court.l1 k3 a1 x6_2 (y226 ++ y229) (wrap64 (x8_3 + 1)) s0_0 t215 ji4 x197001_2 x197002_2 x197003_7) else (none)))) else (none))) else (none))) else (none)) else (none)) = some (r1, r2, r3, r4, r5) := by first | (rw [hy216]; with_reducible exact H) | (have H2_ := (Option.bind_some _ _).symm.trans H; rw [hy216]; with_reducible exact H2_) | (have H2_ := (Option.bind_some _ _).symm.trans H; with_reducible exact H2_) | with_reducible exact H | (rw [hy216]; exact H) | exact H
           have Ny216 := Aside0.mk hy216
           clear hy216
           by_cases c33 : 0 ≤ t214
           ·rw [if_pos c33] at H
            have c33b0 := eq_true c33
            have c33b1 : decide (0 ≤ t214) = true := decide_eq_true c33
            clear c33
            by_cases c34 : t214 ≤ (x7_3.length : Int)
            ·rw [if_pos c34] at H
             have c34b0 := eq_true c34
             have c34b1 : decide (t214 ≤ (x7_3.length : Int)) = true := decide_eq_true c34
             clear c34
             obtain ⟨y219, hy219⟩ : ∃ y_ : List Int, y_ = (x7_3.take (t214 : Int).toNat) := ⟨_, rfl⟩
             replace H : (if y216.length + y219.length < 17592186044416 then ((some (y216 ++ y219 : List Int)).bind fun y223 => (if y223.length < 17592186044416 then ((some (y223 ++ [x8_3] : List Int)).bind fun y226 => ((some (x7_3.drop (t214 : Int).toNat : List Int)).bind fun y229 => (if y226.length + y229.length < 17592186044416 then (spec_l20Court.l1 k3 a1 x6_2 (y226 ++ y229) (wrap64 (x8_3 + 1)) s0_0 t215 ji4 x197001_2 x197002_2 x197003_7) else (none)))) else (none))) else (none)) = some (r1, r2, r3, r4, r5) := by first | (rw [hy219]; with_reducible exact H) | (have H2_ := (Option.bind_some _ _).symm.trans H; rw [hy219]; with_reducible exact H2_) | (have H2_ := (Option.bind_some _ _).symm.trans H; with_reducible exact H2_) | with_reducible exact H | (rw [hy219]; exact H) | exact H
             have Ny219 := Aside0.mk hy219
             clear hy219
             by_cases c35 : y216.length + y219.length < 17592186044416
             ·rw [if_pos c35] at H
              have LMc35 := Aside0.mk c35
              clear c35
              obtain ⟨y223, hy223⟩ : ∃ y_ : List Int, y_ = (y216 ++ y219) := ⟨_, rfl⟩
              replace H : (if y223.length < 17592186044416 then ((some (y223 ++ [x8_3] : List Int)).bind fun y226 => ((some (x7_3.drop (t214 : Int).toNat : List Int)).bind fun y229 => (if y226.length + y229.length < 17592186044416 then (spec_l20Court.l1 k3 a1 x6_2 (y226 ++ y229) (wrap64 (x8_3 + 1)) s0_0 t215 ji4 x197001_2 x197002_2 x197003_7) else (none)))) else (none)) = some (r1, r2, r3, r4, r5) := by first | (rw [hy223]; with_reducible exact H) | (have H2_ := (Option.bind_some _ _).symm.trans H; rw [hy223]; with_reducible exact H2_) | (have H2_ := (Option.bind_some _ _).symm.trans H; with_reducible exact H2_) | with_reducible exact H | (rw [hy223]; exact H) | exact H
              have Ny223 := Aside0.mk hy223
              clear hy223
              by_cases c36 : y223.length < 17592186044416
              ·rw [if_pos c36] at H
               have LMc36 := Aside0.mk c36
               clear c36
               obtain ⟨y226, hy226⟩ : ∃ y_ : List Int, y_ = (y223 ++ [x8_3]) := ⟨_, rfl⟩
               replace H : ((some (x7_3.drop (t214 : Int).toNat : List Int)).bind fun y229 => (if y226.length + y229.length < 17592186044416 then (spec_l20Court.l1 k3 a1 x6_2 (y226 ++ y229) (wrap64 (x8_3 + 1)) s0_0 t215 ji4 x197001_2 x197002_2 x197003_7) else (none))) = some (r1, r2, r3, r4, r5) := by first | (rw [hy226]; with_reducible exact H) | (have H2_ := (Option.bind_some _ _).symm.trans H; rw [hy226]; with_reducible exact H2_) | (have H2_ := (Option.bind_some _ _).symm.trans H; with_reducible exact H2_) | with_reducible exact H | (rw [hy226]; exact H) | exact H
               have Ny226 := Aside0.mk hy226
               clear hy226
               have c37b0 := eq_true (oda : 0 ≤ t214)
               have c38b0 := eq_true (oda : t214 ≤ (x7_3.length : Int))
               obtain ⟨y229, hy229⟩ : ∃ y_ : List Int, y_ = (x7_3.drop (t214 : Int).toNat) := ⟨_, rfl⟩
               replace H : (if y226.length + y229.length < 17592186044416 then (spec_l20Court.l1 k3 a1 x6_2 (y226 ++ y229) (wrap64 (x8_3 + 1)) s0_0 t215 ji4 x197001_2 x197002_2 x197003_7) else (none)) = some (r1, r2, r3, r4, r5) := by first | (rw [hy229]; with_reducible exact H) | (have H2_ := (Option.bind_some _ _).symm.trans H; rw [hy229]; with_reducible exact H2_) | (have H2_ := (Option.bind_some _ _).symm.trans H; with_reducible exact H2_) | with_reducible exact H | (rw [hy229]; exact H) | exact H
               have Ny229 := Aside0.mk hy229
               clear hy229
               by_cases c39 : y226.length + y229.length < 17592186044416
               ·rw [if_pos c39] at H
                have LMc39 := Aside0.mk c39
                clear c39
                obtain ⟨y233, hy233⟩ : ∃ y_ : List Int, y_ = (y226 ++ y229) := ⟨_, rfl⟩
                replace H : (spec_l20Court.l1 k3 a1 x6_2 y233 (wrap64 (x8_3 + 1)) s0_0 t215 ji4 x197001_2 x197002_2 x197003_7) = some (r1, r2, r3, r4, r5) := by first | (rw [hy233]; with_reducible exact H) | (have H2_ := (Option.bind_some _ _).symm.trans H; rw [hy233]; with_reducible exact H2_) | (have H2_ := (Option.bind_some _ _).symm.trans H; with_reducible exact H2_) | with_reducible exact H | (rw [hy233]; exact H) | exact H
                have Ny233 := Aside0.mk hy233
                clear hy233
                have H' := Aside0.mk H
                clear H
                have hnb40 := NB196_193.out
                have hnc40 := NB193_196.out
                have hnb41 := NB196_0.out
                have hnc41 := NB0_196.out
                have hcz42_0 := cz0 BK196
                have hcz42_1 := cz1 BK196
                have hcz42_2 := cz2 BK196
                have hcz42_3 := cz3 BK196
                have hfz42_0 := blk_frozen BK196.out 0
                have hfz42_1 := blk_frozen BK196.out 1
                have hfz42_2 := blk_frozen BK196.out 2
                have hfz42_3 := blk_frozen BK196.out 3
                go_wp2_with (first | ((with_reducible refine gate_callee (f := 62) rfl ?_); refine goesL_ (some 43) rfl rfl Try.func62 kr rfl #[.pointer (some ⟨g, 0, none⟩), .int .i64 2] rfl lm ?_; (with_reducible refine (spec_l20Rd_pick.calls k3 g s0_0 x1001_3 2 t212 t213 w0 _ ?side1 ?side2 A30.out).mono ?_); (case side1 => repeat (first | (with_reducible first | exact HI0.out | apply IsS67.alloc | apply IsS67.drewN | apply IsS67.drew | apply IsS67.set_1 | refine IsS67.far ?_ NB0_193.out _ | refine IsS67.far ?_ NB0_196.out _) | exact HI0.out)); (case side2 => repeat (first | (with_reducible first | exact HB.out | apply below_alloc | apply pw_below_drewN | apply below_drew1 | refine below_set ?_ (IsS67.ge HI0.out) | refine below_set ?_ GE193.out | refine below_set ?_ GE196.out) | exact HB.out)); rintro e w43 ⟨rfl, hi, hb, hk⟩; refine ⟨_, rfl, ?_⟩; have n0_ := Aside0.mk (Kd.R_mono (Kd.R_keep (IsS67.apart (show IsS67 w0 _ g s0_0 x1001_3 from by repeat (first | (with_reducible first | exact HI0.out | apply IsS67.alloc | apply IsS67.drewN | apply IsS67.drew | apply IsS67.set_1 | refine IsS67.far ?_ NB0_193.out _ | refine IsS67.far ?_ NB0_196.out _) | exact HI0.out)) (rz HO_7) (by decide)) hk (fun _ h => h.2)) (fun _ h => h.1)); have n1_ := Aside0.mk (Kd.S_mono (Kd.S_keep (IsS67.apartS (show IsS67 w0 _ g s0_0 x1001_3 from by repeat (first | (with_reducible first | exact HI0.out | apply IsS67.alloc | apply IsS67.drewN | apply IsS67.drew | apply IsS67.set_1 | refine IsS67.far ?_ NB0_193.out _ | refine IsS67.far ?_ NB0_196.out _) | exact HI0.out)) (sz HO_197001) (by decide)) hk (fun _ h => h.2)) (fun _ h => h.1)); have n2_ := Aside0.mk (Kd.R_mono (Kd.R_keep (IsS67.apart (show IsS67 w0 _ g s0_0 x1001_3 from by repeat (first | (with_reducible first | exact HI0.out | apply IsS67.alloc | apply IsS67.drewN | apply IsS67.drew | apply IsS67.set_1 | refine IsS67.far ?_ NB0_193.out _ | refine IsS67.far ?_ NB0_196.out _) | exact HI0.out)) (rz HO_197002) (by decide)) hk (fun _ h => h.2)) (fun _ h => h.1)); have n3_ := Aside0.mk (KeepBut.blk hk (bz BK193) NB193_0.out (by simp)); have n4_ := Aside0.mk (KeepBut.blk hk (bz BK196) NB196_0.out (by simp)); have n5_ := Aside0.mk (KeepBut.trans (by repeat (first | (with_reducible first | exact HK.out | apply KeepBut.set_ | apply keep_drewN | apply keep_drew | apply keep_alloc | refine keep_far ?_ GW193.out _ | refine keep_far ?_ GW196.out _) | exact HK.out)) hk (.inl rfl)); have n6_ := Aside0.mk (hb); have n7_ := Aside0.mk (hi); clear HO_7 HO_197001 HO_197002 BK193 BK196 HK HB HI0; have HO_7 := n0_; have HO_197001 := n1_; have HO_197002 := n2_; have BK193 := n3_; have BK196 := n4_; have HK := n5_; have HB := n6_; have HI0 := n7_; clear n0_ n1_ n2_ n3_ n4_ n5_ n6_ n7_; (try clear hb); (try clear hb2); (try clear hk); (try clear hi); obtain ⟨Ao44, co44, eo44⟩ := Kd.R_slice HO_7.out; subst eo44) | ((with_reducible refine gate_callee (f := 62) rfl ?_); refine goesL_ (some 49) rfl rfl Try.func62 kr rfl #[.pointer (some ⟨g, 0, none⟩), .int .i64 (wrap64 ((x7_3.length : Int) + 1))] rfl lm ?_; (with_reducible refine (spec_l20Rd_pick.calls k3 g s0_0 t213 (wrap64 ((x7_3.length : Int) + 1)) t214 t215 w0 _ ?side1 ?side2 A32.out).mono ?_); (case side1 => repeat (first | (with_reducible first | exact HI0.out | apply IsS67.alloc | apply IsS67.drewN | apply IsS67.drew | apply IsS67.set_1 | refine IsS67.far ?_ NB0_193.out _ | refine IsS67.far ?_ NB0_196.out _) | exact HI0.out)); (case side2 => repeat (first | (with_reducible first | exact HB.out | apply below_alloc | apply pw_below_drewN | apply below_drew1 | refine below_set ?_ (IsS67.ge HI0.out) | refine below_set ?_ GE193.out | refine below_set ?_ GE196.out) | exact HB.out)); rintro e w45 ⟨rfl, hi, hb, hk⟩; refine ⟨_, rfl, ?_⟩; have n0_ := Aside0.mk (Kd.R_mono (Kd.R_keep (IsS67.apart (show IsS67 w0 _ g s0_0 t213 from by repeat (first | (with_reducible first | exact HI0.out | apply IsS67.alloc | apply IsS67.drewN | apply IsS67.drew | apply IsS67.set_1 | refine IsS67.far ?_ NB0_193.out _ | refine IsS67.far ?_ NB0_196.out _) | exact HI0.out)) (rz HO_7) (by decide)) hk (fun _ h => h.2)) (fun _ h => h.1)); have n1_ := Aside0.mk (Kd.S_mono (Kd.S_keep (IsS67.apartS (show IsS67 w0 _ g s0_0 t213 from by repeat (first | (with_reducible first | exact HI0.out | apply IsS67.alloc | apply IsS67.drewN | apply IsS67.drew | apply IsS67.set_1 | refine IsS67.far ?_ NB0_193.out _ | refine IsS67.far ?_ NB0_196.out _) | exact HI0.out)) (sz HO_197001) (by decide)) hk (fun _ h => h.2)) (fun _ h => h.1)); have n2_ := Aside0.mk (Kd.R_mono (Kd.R_keep (IsS67.apart (show IsS67 w0 _ g s0_0 t213 from by repeat (first | (with_reducible first | exact HI0.out | apply IsS67.alloc | apply IsS67.drewN | apply IsS67.drew | apply IsS67.set_1 | refine IsS67.far ?_ NB0_193.out _ | refine IsS67.far ?_ NB0_196.out _) | exact HI0.out)) (rz HO_197002) (by decide)) hk (fun _ h => h.2)) (fun _ h => h.1)); have n3_ := Aside0.mk (KeepBut.blk hk (bz BK193) NB193_0.out (by simp)); have n4_ := Aside0.mk (KeepBut.blk hk (bz BK196) NB196_0.out (by simp)); have n5_ := Aside0.mk (KeepBut.trans (by repeat (first | (with_reducible first | exact HK.out | apply KeepBut.set_ | apply keep_drewN | apply keep_drew | apply keep_alloc | refine keep_far ?_ GW193.out _ | refine keep_far ?_ GW196.out _) | exact HK.out)) hk (.inl rfl)); have n6_ := Aside0.mk (hb); have n7_ := Aside0.mk (hi); clear HO_7 HO_197001 HO_197002 BK193 BK196 HK HB HI0; have HO_7 := n0_; have HO_197001 := n1_; have HO_197002 := n2_; have BK193 := n3_; have BK196 := n4_; have HK := n5_; have HB := n6_; have HI0 := n7_; clear n0_ n1_ n2_ n3_ n4_ n5_ n6_ n7_; (try clear hb); (try clear hb2); (try clear hk); (try clear hi)) | ((with_reducible refine gate_dst (N := 50) rfl ?_); refine Kd.R_lit (Kd.int .i64) _ 3 ?hg (N := 50) ?hd (xs := ([] : List Int)) (inner := []) (ok := fun _ => True) (okp := fun _ => True) ?hr ?hp (fun _ hk => hk) trivial (Below.refl _ _) (Nat.le_refl _) (by simp) ?_; (case hd => rfl); (case hg => rfl); (case hr => first | (go_simp; done) | (go_simp; rfl)); (case hp => exact (Reps.none _ _)); intro v217 w46 ho47 hb hg_ hnew_; clear hg_ hnew_; (first | rw [← Ny216.out] at ho47 | (simp only [Int.reduceToNat] at ho47; rw [← Ny216.out] at ho47)); have n0_ := Aside0.mk (Kd.R_elder' (rz HO_7) (Kd.R_base ho47) hb); have n1_ := Aside0.mk (Kd.S_elder' (sz HO_197001) (Kd.R_base ho47) hb); have n2_ := Aside0.mk (Kd.R_elder' (rz HO_197002) (Kd.R_base ho47) hb); have n3_ := Aside0.mk (Kd.R_lower (Kd.R_new' (Kd.R_new' ho47 (Kd.R_lt (rz HO_7))) (Kd.R_lt (rz HO_197002))) (keep_size (w := w) (g := g) (row := none) (by repeat (first | (with_reducible first | exact HK.out | apply KeepBut.set_ | apply keep_drewN | apply keep_drew | apply keep_alloc | refine keep_far ?_ GW193.out _ | refine keep_far ?_ GW196.out _) | exact HK.out)))); have n4_ := Aside0.mk (blk_below (bz BK193) hb); have n5_ := Aside0.mk (blk_below (bz BK196) hb); have n6_ := Aside0.mk (IsS67.below (by repeat (first | (with_reducible first | exact HI0.out | apply IsS67.alloc | apply IsS67.drewN | apply IsS67.drew | apply IsS67.set_1 | refine IsS67.far ?_ NB0_193.out _ | refine IsS67.far ?_ NB0_196.out _) | exact HI0.out)) hb); have n7_ := Aside0.mk (KeepBut.trans (by repeat (first | (with_reducible first | exact HK.out | apply KeepBut.set_ | apply keep_drewN | apply keep_drew | apply keep_alloc | refine keep_far ?_ GW193.out _ | refine keep_far ?_ GW196.out _) | exact HK.out)) (KeepBut.of_below hb g none) (.inl rfl)); have n8_ := Aside0.mk (below_step (by repeat (first | (with_reducible first | exact HB.out | apply below_alloc | apply pw_below_drewN | apply below_drew1 | refine below_set ?_ (IsS67.ge HI0.out) | refine below_set ?_ GE193.out | refine below_set ?_ GE196.out) | exact HB.out)) hb); clear HO_7 HO_197001 HO_197002 BK193 BK196 HI0 HK HB; have HO_7 := n0_; have HO_197001 := n1_; have HO_197002 := n2_; have HO218 := n3_; have BK193 := n4_; have BK196 := n5_; have HI0 := n6_; have HK := n7_; have HB := n8_; clear n0_ n1_ n2_ n3_ n4_ n5_ n6_ n7_ n8_ hb ho47; have q48 : (t214 : Int) ≤ ((x7_3.length : Int) : Int) := oda; obtain ⟨i048, hi048, _, hsz48, _⟩ := info_parts info3; have hroom48 : x7_3.length ≤ co44 := (Kd.R_reads' HO_7.out).2.1; have hC48 : Kd.C (Kd.int .i64) _ Ao44 x7_3.length x7_3 := (Kd.R_reads' HO_7.out).2.2; have hcut48 := cut_to (P := Try.prog) 23 3 .i64 Try.underlying23 hi048 Ao44 x7_3.length co44 t214 oda q48 hroom48; have hr48 := Kd.C_take (m := (t214 : Int).toNat) hC48 (by omega); have hy48 : y219.length = (t214 : Int).toNat := (by rw [Ny219.out, List.length_take]; omega); rw [← Ny219.out] at hr48; rw [← hy48] at hcut48; have HR222 := Aside0.mk hr48; have HC222 := Aside0.mk (show y219.length ≤ co44 from by omega); clear hr48 hC48 hroom48 hi048 hsz48; have KY48 := Aside0.mk hy48; clear hy48; have KL48 := Aside0.mk (show (t214 : Int).toNat ≤ x7_3.length from by omega); replace q48 := eq_true q48) | ((with_reducible refine gate_builtin (b := .append) (xs := #[.tmp 50, .tmp 53]) rfl ?_); at_builtin; refine Kd.R_append_rows (Kd.int .i64) w.heap.size rfl (.tmp 50) (.tmp 53) 23 3 (.int .i64 0) 8 rfl Try.underlying23 info3 rfl (by decide) (by omega) v217 y216 y219 _ _ _ (fun k_ => some k_ ≠ (.slice Ao44 x7_3.length co44 : Value).ownBlock ∧ some k_ ≠ (u197002 : Value).ownBlock) (fun _ => False) rfl rfl ?aO ?aR (fun _ _ h => h) (fun _ h => h.elim) ?aF (Below.refl _ _) ?aS ?aL ?_; (case aR => repeat (first | exact (by repeat (first | (with_reducible exact HR222.out) | (with_reducible refine Kd.C_alloc ?_ _) | (with_reducible refine Kd.C_drewN ?_ _) | (with_reducible refine Kd.C_drew ?_) | exact HR222.out)) | (with_reducible refine Kd.C_alloc ?_ _) | (with_reducible refine Kd.C_drewN ?_ _) | (with_reducible refine Kd.C_drew ?_))); (case aF => exact (fun k_ hk => ⟨Kd.fresh' (Kd.R_lt (rz HO_7)) k_ hk, Kd.fresh' (Kd.R_lt (rz HO_197002)) k_ hk⟩)); (case aO => exact (mR HO218)); (case aS => exact (keep_size (w := w) (g := g) (row := none) (by repeat (first | (with_reducible first | exact HK.out | apply KeepBut.set_ | apply keep_drewN | apply keep_drew | apply keep_alloc | refine keep_far ?_ GW193.out _ | refine keep_far ?_ GW196.out _) | exact HK.out)))); (case aL => have := LMc35.out; omega); intro v224 w49 ho hb hg hat; rw [← Ny223.out] at ho; have n0_ := Aside0.mk (Kd.R_after (ok := (fun k_ => some k_ ≠ (u197002 : Value).ownBlock)) (rz HO_7) hg hat); have n1_ := Aside0.mk (Kd.S_after (ok := (fun k_ => some k_ ≠ (.slice Ao44 x7_3.length co44 : Value).ownBlock ∧ some k_ ≠ (u197002 : Value).ownBlock)) (sz HO_197001) hg hat); have n2_ := Aside0.mk (Kd.R_after (ok := (fun k_ => some k_ ≠ (.slice Ao44 x7_3.length co44 : Value).ownBlock)) (rz HO_197002) hg hat); have n3_ := Aside0.mk (blk_grown (bz BK193) hg (Kd.R_ne HO218.out BK193.out (by decide))); have n4_ := Aside0.mk (blk_grown (bz BK196) hg (Kd.R_ne HO218.out BK196.out (by decide))); have n5_ := Aside0.mk (IsS67.grown ((show IsS67 w0 _ g s0_0 t215 from by repeat (first | (with_reducible first | exact HI0.out | apply IsS67.alloc | apply IsS67.drewN | apply IsS67.drew | apply IsS67.set_1 | refine IsS67.far ?_ NB0_193.out _ | refine IsS67.far ?_ NB0_196.out _) | exact HI0.out))) hg (IsS67.own_ne HI0.out HO218.out (by decide))); have n6_ := Aside0.mk (below_weaken (by repeat (first | (with_reducible first | exact HB.out | apply below_alloc | apply pw_below_drewN | apply below_drew1 | refine below_set ?_ (IsS67.ge HI0.out) | refine below_set ?_ GE193.out | refine below_set ?_ GE196.out) | exact HB.out)) HL.out hb); have n7_ := Aside0.mk (KeepBut.trans (by repeat (first | (with_reducible first | exact HK.out | apply KeepBut.set_ | apply keep_drewN | apply keep_drew | apply keep_alloc | refine keep_far ?_ GW193.out _ | refine keep_far ?_ GW196.out _) | exact HK.out)) (KeepBut.of_grown hg g) (Kd.R_base2 HO218.out)); have n8_ := Aside0.mk ((show Kd.C (Kd.int .i64) w49 Ao44 y219.length y219 from by rw [Ny219.out]; exact Kd.C_take (m := (t214 : Int).toNat) ((Kd.R_reads' (Kd.R_after (ok := (fun k_ => some k_ ≠ (u197002 : Value).ownBlock)) (rz HO_7) hg hat)).2.2) KL48.out)); have n9_ := Aside0.mk (ho); clear HO_7 HO_197001 HO_197002 BK193 BK196 HI0 HB HK HR222 HO218; have HO_7 := n0_; have HO_197001 := n1_; have HO_197002 := n2_; have BK193 := n3_; have BK196 := n4_; have HI0 := n5_; have HB := n6_; have HK := n7_; have HR222 := n8_; have HO225 := n9_; clear n0_ n1_ n2_ n3_ n4_ n5_ n6_ n7_ n8_ n9_ ho hb hg hat) | ((with_reducible refine gate_builtin (b := .append) (xs := #[.tmp 55, .tmp 57]) rfl ?_); at_builtin; refine Kd.R_append (Kd.int .i64) w.heap.size rfl (.tmp 55) (.tmp 57) 23 3 (.int .i64 0) 8 rfl Try.underlying23 info3 rfl (by decide) (by omega) v224 y223 x8_3 [.int .i64 x8_3] (fun k_ => some k_ ≠ (.slice Ao44 x7_3.length co44 : Value).ownBlock ∧ some k_ ≠ (u197002 : Value).ownBlock) (fun _ => False) rfl rfl ?aP (fun _ hk => hk.elim) ?aF ?aO (Below.refl _ _) ?aS ?aL ?_; (case aP => exact rfl); (case aF => exact (fun k_ hk => ⟨Kd.fresh' (Kd.R_lt (rz HO_7)) k_ hk, Kd.fresh' (Kd.R_lt (rz HO_197002)) k_ hk⟩)); (case aO => exact (rz HO225)); (case aS => exact (keep_size (w := w) (g := g) (row := none) (by repeat (first | (with_reducible first | exact HK.out | apply KeepBut.set_ | apply keep_drewN | apply keep_drew | apply keep_alloc | refine keep_far ?_ GW193.out _ | refine keep_far ?_ GW196.out _) | exact HK.out)))); (case aL => have := LMc36.out; omega); intro v227 w50 ho hb hg hat; rw [← Ny226.out] at ho; have n0_ := Aside0.mk (Kd.R_after (ok := (fun k_ => some k_ ≠ (u197002 : Value).ownBlock)) (rz HO_7) hg hat); have n1_ := Aside0.mk (Kd.S_after (ok := (fun k_ => some k_ ≠ (.slice Ao44 x7_3.length co44 : Value).ownBlock ∧ some k_ ≠ (u197002 : Value).ownBlock)) (sz HO_197001) hg hat); have n2_ := Aside0.mk (Kd.R_after (ok := (fun k_ => some k_ ≠ (.slice Ao44 x7_3.length co44 : Value).ownBlock)) (rz HO_197002) hg hat); have n3_ := Aside0.mk (blk_grown (bz BK193) hg (Kd.R_ne HO225.out BK193.out (by decide))); have n4_ := Aside0.mk (blk_grown (bz BK196) hg (Kd.R_ne HO225.out BK196.out (by decide))); have n5_ := Aside0.mk (IsS67.grown ((show IsS67 w0 _ g s0_0 t215 from by repeat (first | (with_reducible first | exact HI0.out | apply IsS67.alloc | apply IsS67.drewN | apply IsS67.drew | apply IsS67.set_1 | refine IsS67.far ?_ NB0_193.out _ | refine IsS67.far ?_ NB0_196.out _) | exact HI0.out))) hg (IsS67.own_ne HI0.out HO225.out (by decide))); have n6_ := Aside0.mk (below_weaken (by repeat (first | (with_reducible first | exact HB.out | apply below_alloc | apply pw_below_drewN | apply below_drew1 | refine below_set ?_ (IsS67.ge HI0.out) | refine below_set ?_ GE193.out | refine below_set ?_ GE196.out) | exact HB.out)) HL.out hb); have n7_ := Aside0.mk (KeepBut.trans (by repeat (first | (with_reducible first | exact HK.out | apply KeepBut.set_ | apply keep_drewN | apply keep_drew | apply keep_alloc | refine keep_far ?_ GW193.out _ | refine keep_far ?_ GW196.out _) | exact HK.out)) (KeepBut.of_grown hg g) (Kd.R_base2 HO225.out)); have n8_ := Aside0.mk ((show Kd.C (Kd.int .i64) w50 Ao44 y219.length y219 from by rw [Ny219.out]; exact Kd.C_take (m := (t214 : Int).toNat) ((Kd.R_reads' (Kd.R_after (ok := (fun k_ => some k_ ≠ (u197002 : Value).ownBlock)) (rz HO_7) hg hat)).2.2) KL48.out)); have n9_ := Aside0.mk (ho); clear HO_7 HO_197001 HO_197002 BK193 BK196 HI0 HB HK HR222 HO225; have HO_7 := n0_; have HO_197001 := n1_; have HO_197002 := n2_; have BK193 := n3_; have BK196 := n4_; have HI0 := n5_; have HB := n6_; have HK := n7_; have HR222 := n8_; have HO228 := n9_; clear n0_ n1_ n2_ n3_ n4_ n5_ n6_ n7_ n8_ n9_ ho hb hg hat; have q51 : (t214 : Int) ≤ ((x7_3.length : Int) : Int) := oda; obtain ⟨i051, hi051, _, hsz51, _⟩ := info_parts info3; have hroom51 : x7_3.length ≤ co44 := (Kd.R_reads' HO_7.out).2.1; have hC51 : Kd.C (Kd.int .i64) _ Ao44 x7_3.length x7_3 := (Kd.R_reads' HO_7.out).2.2; have q051 : (0 : Int) ≤ (t214 : Int) := oda; have hcut51 := cut_from (P := Try.prog) 23 3 .i64 Try.underlying23 hi051 1 hsz51 Ao44 x7_3.length co44 t214 q051 q51; have hr51 := Kd.C_drop (m := (t214 : Int).toNat) (c := co44) hC51 (by omega) hroom51; obtain ⟨A51, hA51⟩ : ∃ Az_, Az_ = (if co44 = (t214 : Int).toNat then Ao44 else (Ao44 : Option Addr).map (·.add ((t214 : Int).toNat * 1))) := ⟨_, rfl⟩; obtain ⟨c51, hc51⟩ : ∃ cz_, cz_ = co44 - (t214 : Int).toNat := ⟨_, rfl⟩; have hy51 : y229.length = x7_3.length - (t214 : Int).toNat := (by rw [Ny229.out, List.length_drop] <;> omega); rw [show (x7_3).drop (t214 : Int).toNat = y229 from Ny229.out.symm] at hr51; replace hr51 : Kd.C (Kd.int .i64) _ A51 y229.length y229 := (by rw [hA51]; exact hr51); rw [← hy51, ← hA51, ← hc51] at hcut51; have HR232 := Aside0.mk hr51; have HC232 := Aside0.mk (show y229.length ≤ c51 from by rw [hy51, hc51]; exact Nat.sub_le_sub_right hroom51 _); clear hr51 hC51 hroom51 hi051 hsz51 hc51; have KY51 := Aside0.mk hy51; have KA51 := Aside0.mk hA51; clear hy51 hA51; have KL51 := Aside0.mk (show (t214 : Int).toNat ≤ x7_3.length from by omega); replace q51 := eq_true q51) | ((with_reducible refine gate_builtin (b := .append) (xs := #[.tmp 59, .tmp 62]) rfl ?_); at_builtin; refine Kd.R_append_rows (Kd.int .i64) w.heap.size rfl (.tmp 59) (.tmp 62) 23 3 (.int .i64 0) 8 rfl Try.underlying23 info3 rfl (by decide) (by omega) v227 y226 y229 _ _ _ (fun k_ => some k_ ≠ (.slice Ao44 x7_3.length co44 : Value).ownBlock ∧ some k_ ≠ (u197002 : Value).ownBlock) (fun _ => False) rfl rfl ?aO ?aR (fun _ _ h => h) (fun _ h => h.elim) ?aF (Below.refl _ _) ?aS ?aL ?_; (case aR => repeat (first | exact (by repeat (first | (with_reducible exact HR232.out) | (with_reducible refine Kd.C_alloc ?_ _) | (with_reducible refine Kd.C_drewN ?_ _) | (with_reducible refine Kd.C_drew ?_) | exact HR232.out)) | (with_reducible refine Kd.C_alloc ?_ _) | (with_reducible refine Kd.C_drewN ?_ _) | (with_reducible refine Kd.C_drew ?_))); (case aF => exact (fun k_ hk => ⟨Kd.fresh' (Kd.R_lt (rz HO_7)) k_ hk, Kd.fresh' (Kd.R_lt (rz HO_197002)) k_ hk⟩)); (case aO => exact (rz HO228)); (case aS => exact (keep_size (w := w) (g := g) (row := none) (by repeat (first | (with_reducible first | exact HK.out | apply KeepBut.set_ | apply keep_drewN | apply keep_drew | apply keep_alloc | refine keep_far ?_ GW193.out _ | refine keep_far ?_ GW196.out _) | exact HK.out)))); (case aL => have := LMc39.out; omega); intro v234 w52 ho hb hg hat; rw [← Ny233.out] at ho; have n0_ := Aside0.mk (Kd.R_after (ok := (fun k_ => some k_ ≠ (u197002 : Value).ownBlock)) (rz HO_7) hg hat); have n1_ := Aside0.mk (Kd.S_after (ok := (fun k_ => some k_ ≠ (.slice Ao44 x7_3.length co44 : Value).ownBlock ∧ some k_ ≠ (u197002 : Value).ownBlock)) (sz HO_197001) hg hat); have n2_ := Aside0.mk (Kd.R_after (ok := (fun k_ => some k_ ≠ (.slice Ao44 x7_3.length co44 : Value).ownBlock)) (rz HO_197002) hg hat); have n3_ := Aside0.mk (blk_grown (bz BK193) hg (Kd.R_ne HO228.out BK193.out (by decide))); have n4_ := Aside0.mk (blk_grown (bz BK196) hg (Kd.R_ne HO228.out BK196.out (by decide))); have n5_ := Aside0.mk (IsS67.grown ((show IsS67 w0 _ g s0_0 t215 from by repeat (first | (with_reducible first | exact HI0.out | apply IsS67.alloc | apply IsS67.drewN | apply IsS67.drew | apply IsS67.set_1 | refine IsS67.far ?_ NB0_193.out _ | refine IsS67.far ?_ NB0_196.out _) | exact HI0.out))) hg (IsS67.own_ne HI0.out HO228.out (by decide))); have n6_ := Aside0.mk (below_weaken (by repeat (first | (with_reducible first | exact HB.out | apply below_alloc | apply pw_below_drewN | apply below_drew1 | refine below_set ?_ (IsS67.ge HI0.out) | refine below_set ?_ GE193.out | refine below_set ?_ GE196.out) | exact HB.out)) HL.out hb); have n7_ := Aside0.mk (KeepBut.trans (by repeat (first | (with_reducible first | exact HK.out | apply KeepBut.set_ | apply keep_drewN | apply keep_drew | apply keep_alloc | refine keep_far ?_ GW193.out _ | refine keep_far ?_ GW196.out _) | exact HK.out)) (KeepBut.of_grown hg g) (Kd.R_base2 HO228.out)); have n8_ := Aside0.mk ((show Kd.C (Kd.int .i64) w52 Ao44 y219.length y219 from by rw [Ny219.out]; exact Kd.C_take (m := (t214 : Int).toNat) ((Kd.R_reads' (Kd.R_after (ok := (fun k_ => some k_ ≠ (u197002 : Value).ownBlock)) (rz HO_7) hg hat)).2.2) KL48.out)); have n9_ := Aside0.mk ((show Kd.C (Kd.int .i64) w52 A51 y229.length y229 from by rw [Ny229.out, KA51.out]; exact Kd.C_drop (m := (t214 : Int).toNat) (c := co44) ((Kd.R_reads' (Kd.R_after (ok := (fun k_ => some k_ ≠ (u197002 : Value).ownBlock)) (rz HO_7) hg hat)).2.2) KL51.out ((Kd.R_reads' (Kd.R_after (ok := (fun k_ => some k_ ≠ (u197002 : Value).ownBlock)) (rz HO_7) hg hat)).2.1))); have n10_ := Aside0.mk (ho); clear HO_7 HO_197001 HO_197002 BK193 BK196 HI0 HB HK HR222 HR232 HO228; have HO_7 := n0_; have HO_197001 := n1_; have HO_197002 := n2_; have BK193 := n3_; have BK196 := n4_; have HI0 := n5_; have HB := n6_; have HK := n7_; have HR222 := n8_; have HR232 := n9_; have HO235 := n10_; clear n0_ n1_ n2_ n3_ n4_ n5_ n6_ n7_ n8_ n9_ n10_ ho hb hg hat))
                go_roundg k3
                case measure => have := HJ7.out; have := HK2.out; have := HK3.out; omega
                case rel => exact ⟨(y233), (wrap64 (x8_3 + 1)), (t215), (by first | rfl | (simp; done) | (simp [*]; done)), H', ⟨by have := HJ7.out; have := HK2.out; have := HK3.out; omega⟩, ⟨mR HO235⟩, ⟨mS HO_197001⟩, ⟨mR HO_197002⟩, ⟨bz BK193⟩, ⟨bz BK196⟩, ⟨by repeat (first | (with_reducible first | exact HI0.out | apply IsS67.alloc | apply IsS67.drewN | apply IsS67.drew | apply IsS67.set_1 | refine IsS67.far ?_ NB0_193.out _ | refine IsS67.far ?_ NB0_196.out _) | exact HI0.out)⟩, ⟨by repeat (first | (with_reducible first | exact HK.out | apply KeepBut.set_ | apply keep_drewN | apply keep_drew | apply keep_alloc | refine keep_far ?_ GW193.out _ | refine keep_far ?_ GW196.out _) | exact HK.out)⟩, ⟨by repeat (first | (with_reducible first | exact HB.out | apply below_alloc | apply pw_below_drewN | apply below_drew1 | refine below_set ?_ (IsS67.ge HI0.out) | refine below_set ?_ GE193.out | refine below_set ?_ GE196.out) | exact HB.out)⟩⟩
               ·rw [if_neg c39] at H
                exact absurd H (by simp)
              ·rw [if_neg c36] at H
               exact absurd H (by simp)
             ·rw [if_neg c35] at H
              exact absurd H (by simp)
            ·rw [if_neg c34] at H
             exact absurd H (by simp)
           ·rw [if_neg c33] at H
            exact absurd H (by simp)
          ·rw [if_neg c31] at H
           have c31b0 : (t212 == 0) = false := beq_eq_false_iff_ne.mpr c31
           have c31b1 : (t212 != 0) = true := bne_iff_ne.mpr c31
           have H' := Aside0.mk H
           clear H
           have hnb53 := NB196_193.out
           have hnc53 := NB193_196.out
           have hnb54 := NB196_0.out
           have hnc54 := NB0_196.out
           have hcz55_0 := cz0 BK196
           have hcz55_1 := cz1 BK196
           have hcz55_2 := cz2 BK196
           have hcz55_3 := cz3 BK196
           have hfz55_0 := blk_frozen BK196.out 0
           have hfz55_1 := blk_frozen BK196.out 1
           have hfz55_2 := blk_frozen BK196.out 2
           have hfz55_3 := blk_frozen BK196.out 3
           go_wp2_with (first | ((with_reducible refine gate_callee (f := 62) rfl ?_); refine goesL_ (some 43) rfl rfl Try.func62 kr rfl #[.pointer (some ⟨g, 0, none⟩), .int .i64 2] rfl lm ?_; (with_reducible refine (spec_l20Rd_pick.calls k3 g s0_0 x1001_3 2 t212 t213 w0 _ ?side1 ?side2 A30.out).mono ?_); (case side1 => repeat (first | (with_reducible first | exact HI0.out | apply IsS67.alloc | apply IsS67.drewN | apply IsS67.drew | apply IsS67.set_1 | refine IsS67.far ?_ NB0_193.out _ | refine IsS67.far ?_ NB0_196.out _) | exact HI0.out)); (case side2 => repeat (first | (with_reducible first | exact HB.out | apply below_alloc | apply pw_below_drewN | apply below_drew1 | refine below_set ?_ (IsS67.ge HI0.out) | refine below_set ?_ GE193.out | refine below_set ?_ GE196.out) | exact HB.out)); rintro e w56 ⟨rfl, hi, hb, hk⟩; refine ⟨_, rfl, ?_⟩; have n0_ := Aside0.mk (Kd.R_mono (Kd.R_keep (IsS67.apart (show IsS67 w0 _ g s0_0 x1001_3 from by repeat (first | (with_reducible first | exact HI0.out | apply IsS67.alloc | apply IsS67.drewN | apply IsS67.drew | apply IsS67.set_1 | refine IsS67.far ?_ NB0_193.out _ | refine IsS67.far ?_ NB0_196.out _) | exact HI0.out)) (rz HO_7) (by decide)) hk (fun _ h => h.2)) (fun _ h => h.1)); have n1_ := Aside0.mk (Kd.S_mono (Kd.S_keep (IsS67.apartS (show IsS67 w0 _ g s0_0 x1001_3 from by repeat (first | (with_reducible first | exact HI0.out | apply IsS67.alloc | apply IsS67.drewN | apply IsS67.drew | apply IsS67.set_1 | refine IsS67.far ?_ NB0_193.out _ | refine IsS67.far ?_ NB0_196.out _) | exact HI0.out)) (sz HO_197001) (by decide)) hk (fun _ h => h.2)) (fun _ h => h.1)); have n2_ := Aside0.mk (Kd.R_mono (Kd.R_keep (IsS67.apart (show IsS67 w0 _ g s0_0 x1001_3 from by repeat (first | (with_reducible first | exact HI0.out | apply IsS67.alloc | apply IsS67.drewN | apply IsS67.drew | apply IsS67.set_1 | refine IsS67.far ?_ NB0_193.out _ | refine IsS67.far ?_ NB0_196.out _) | exact HI0.out)) (rz HO_197002) (by decide)) hk (fun _ h => h.2)) (fun _ h => h.1)); have n3_ := Aside0.mk (KeepBut.blk hk (bz BK193) NB193_0.out (by simp)); have n4_ := Aside0.mk (KeepBut.blk hk (bz BK196) NB196_0.out (by simp)); have n5_ := Aside0.mk (KeepBut.trans (by repeat (first | (with_reducible first | exact HK.out | apply KeepBut.set_ | apply keep_drewN | apply keep_drew | apply keep_alloc | refine keep_far ?_ GW193.out _ | refine keep_far ?_ GW196.out _) | exact HK.out)) hk (.inl rfl)); have n6_ := Aside0.mk (hb); have n7_ := Aside0.mk (hi); clear HO_7 HO_197001 HO_197002 BK193 BK196 HK HB HI0; have HO_7 := n0_; have HO_197001 := n1_; have HO_197002 := n2_; have BK193 := n3_; have BK196 := n4_; have HK := n5_; have HB := n6_; have HI0 := n7_; clear n0_ n1_ n2_ n3_ n4_ n5_ n6_ n7_; (try clear hb); (try clear hb2); (try clear hk); (try clear hi)))
           go_roundg k3
           case measure => have := HJ7.out; have := HK2.out; have := HK3.out; omega
           case rel => exact ⟨(x7_3), (wrap64 (x8_3 + 1)), (t213), (by first | rfl | (simp; done) | (simp [*]; done)), H', ⟨by have := HJ7.out; have := HK2.out; have := HK3.out; omega⟩, ⟨rz HO_7⟩, ⟨sz HO_197001⟩, ⟨rz HO_197002⟩, ⟨bz BK193⟩, ⟨bz BK196⟩, ⟨by repeat (first | (with_reducible first | exact HI0.out | apply IsS67.alloc | apply IsS67.drewN | apply IsS67.drew | apply IsS67.set_1 | refine IsS67.far ?_ NB0_193.out _ | refine IsS67.far ?_ NB0_196.out _) | exact HI0.out)⟩, ⟨by repeat (first | (with_reducible first | exact HK.out | apply KeepBut.set_ | apply keep_drewN | apply keep_drew | apply keep_alloc | refine keep_far ?_ GW193.out _ | refine keep_far ?_ GW196.out _) | exact HK.out)⟩, ⟨by repeat (first | (with_reducible first | exact HB.out | apply below_alloc | apply pw_below_drewN | apply below_drew1 | refine below_set ?_ (IsS67.ge HI0.out) | refine below_set ?_ GE193.out | refine below_set ?_ GE196.out) | exact HB.out)⟩⟩
         ·rw [if_neg c29] at H
          have c29b0 : decide (x8_3 < ji4) = false := decide_eq_false c29
          clear c29
          by_cases c57 : x197001_2.length < 5864062014805
          ·rw [if_pos c57] at H
           have LMc57 := Aside0.mk c57
           clear c57
           obtain ⟨y206, hy206⟩ : ∃ y_ : List (List Int), y_ = (x197001_2 ++ [x7_3]) := ⟨_, rfl⟩
           replace H : (if x197002_2.length < 17592186044416 then (spec_l20Court.l0 k3 a1 (wrap64 (x6_2 - 1)) s0_0 x1001_3 ji4 y206 (x197002_2 ++ [(-1)]) x197003_7) else (none)) = some (r1, r2, r3, r4, r5) := by first | (rw [hy206]; with_reducible exact H) | (have H2_ := (Option.bind_some _ _).symm.trans H; rw [hy206]; with_reducible exact H2_) | (have H2_ := (Option.bind_some _ _).symm.trans H; with_reducible exact H2_) | with_reducible exact H | (rw [hy206]; exact H) | exact H
           have Ny206 := Aside0.mk hy206
           clear hy206
           by_cases c58 : x197002_2.length < 17592186044416
           ·rw [if_pos c58] at H
            have LMc58 := Aside0.mk c58
            clear c58
            obtain ⟨y209, hy209⟩ : ∃ y_ : List Int, y_ = (x197002_2 ++ [(-1)]) := ⟨_, rfl⟩
            replace H : (spec_l20Court.l0 k3 a1 (wrap64 (x6_2 - 1)) s0_0 x1001_3 ji4 y206 y209 x197003_7) = some (r1, r2, r3, r4, r5) := by first | (rw [hy209]; with_reducible exact H) | (have H2_ := (Option.bind_some _ _).symm.trans H; rw [hy209]; with_reducible exact H2_) | (have H2_ := (Option.bind_some _ _).symm.trans H; with_reducible exact H2_) | with_reducible exact H | (rw [hy209]; exact H) | exact H
            have Ny209 := Aside0.mk hy209
            clear hy209
            have H' := Aside0.mk H
            clear H
            have hnb59 := NB196_193.out
            have hnc59 := NB193_196.out
            have hnb60 := NB196_0.out
            have hnc60 := NB0_196.out
            have hcz61_0 := cz0 BK196
            have hcz61_1 := cz1 BK196
            have hcz61_2 := cz2 BK196
            have hcz61_3 := cz3 BK196
            have hfz61_0 := blk_frozen BK196.out 0
            have hfz61_1 := blk_frozen BK196.out 1
            have hfz61_2 := blk_frozen BK196.out 2
            have hfz61_3 := blk_frozen BK196.out 3
            obtain ⟨Ao63, co63, eo63⟩ := Kd.R_slice HO_7.out
            subst eo63
            go_wp2_with (first | ((with_reducible refine gate_builtin (b := .append) (xs := #[.tmp 65, .tmp 67]) rfl ?_); at_builtin; refine Kd.S_append (Kd.slice 3 (Kd.int .i64)) w.heap.size rfl (.tmp 65) (.tmp 67) 22 23 (.slice none 0 0) 24 rfl Try.underlying22 info23 rfl (by decide) (by omega) u197001 x197001_2 x7_3 [.slice Ao63 x7_3.length co63] (fun k_ => some k_ ≠ (u197002 : Value).ownBlock) (fun k_ => some k_ = (.slice Ao63 x7_3.length co63 : Value).ownBlock) rfl rfl ?aP (fun k_ hk_ => ((Kd.R_mono (ok' := fun k_ => ((fun k_ => some k_ ≠ (u197002 : Value).ownBlock)) k_ ∧ some k_ ≠ (u197001 : Value).ownBlock) (Kd.R_apart' (HO_7.out) (Kd.S_typed HO_197001.out) (by decide)) (fun k_ hk => ⟨hk.1, hk.2⟩))).1 k_ hk_.symm) ?aF ?aO (Below.refl _ _) ?aS ?aL ?_; (case aP => exact Kd.M_row (Kd.R_mono (Kd.R_tight rfl (Kd.R_mono (ok' := fun k_ => ((fun k_ => some k_ ≠ (u197002 : Value).ownBlock)) k_ ∧ some k_ ≠ (u197001 : Value).ownBlock) (Kd.R_apart' (HO_7.out) (Kd.S_typed HO_197001.out) (by decide)) (fun k_ hk => ⟨hk.1, hk.2⟩))) (fun _ h_ => h_))); (case aF => exact (fun k_ hk => Kd.fresh' (Kd.R_lt (rz HO_197002)) k_ hk)); (case aO => exact (by (with_reducible repeat (first | apply Kd.S_alloc | apply Kd.S_drewN | apply Kd.S_drew)); exact Kd.S_mono HO_197001.out (fun k_ hk => ⟨hk.2, fun e_ => hk.1 e_⟩))); (case aS => exact (keep_size (w := w) (g := g) (row := none) (by repeat (first | (with_reducible first | exact HK.out | apply KeepBut.set_ | apply keep_drewN | apply keep_drew | apply keep_alloc | refine keep_far ?_ GW193.out _ | refine keep_far ?_ GW196.out _) | exact HK.out)))); (case aL => have := LMc57.out; omega); intro v207 w62 ho hb hg hat; rw [← Ny206.out] at ho; have n0_ := Aside0.mk (Kd.R_over' (rz HO_197002) (Kd.S_typed (sz HO_197001)) (by decide) hg); have n1_ := Aside0.mk (blk_grown (bz BK193) hg (Kd.S_ne HO_197001.out BK193.out (by decide))); have n2_ := Aside0.mk (blk_grown (bz BK196) hg (Kd.S_ne HO_197001.out BK196.out (by decide))); have n3_ := Aside0.mk (IsS67.grown ((show IsS67 w0 _ g s0_0 x1001_3 from by repeat (first | (with_reducible first | exact HI0.out | apply IsS67.alloc | apply IsS67.drewN | apply IsS67.drew | apply IsS67.set_1 | refine IsS67.far ?_ NB0_193.out _ | refine IsS67.far ?_ NB0_196.out _) | exact HI0.out))) hg (IsS67.own_neS HI0.out HO_197001.out (by decide))); have n4_ := Aside0.mk (below_weaken (by repeat (first | (with_reducible first | exact HB.out | apply below_alloc | apply pw_below_drewN | apply below_drew1 | refine below_set ?_ (IsS67.ge HI0.out) | refine below_set ?_ GE193.out | refine below_set ?_ GE196.out) | exact HB.out)) HL.out hb); have n5_ := Aside0.mk (KeepBut.trans (by repeat (first | (with_reducible first | exact HK.out | apply KeepBut.set_ | apply keep_drewN | apply keep_drew | apply keep_alloc | refine keep_far ?_ GW193.out _ | refine keep_far ?_ GW196.out _) | exact HK.out)) (KeepBut.of_grown hg g) (Kd.S_base2 HO_197001.out)); have n6_ := Aside0.mk (ho); clear HO_197002 BK193 BK196 HI0 HB HK HO_197001 HO_7; have HO_197002 := n0_; have BK193 := n1_; have BK196 := n2_; have HI0 := n3_; have HB := n4_; have HK := n5_; have HO208 := n6_; clear n0_ n1_ n2_ n3_ n4_ n5_ n6_ ho hb hg hat; obtain ⟨Ao64, co64, eo64⟩ := Kd.S_slice HO208.out; subst eo64; have hcz65_0 := cz0 BK196; have hcz65_1 := cz1 BK196; have hcz65_2 := cz2 BK196; have hcz65_3 := cz3 BK196; have hfz65_0 := blk_frozen BK196.out 0; have hfz65_1 := blk_frozen BK196.out 1; have hfz65_2 := blk_frozen BK196.out 2; have hfz65_3 := blk_frozen BK196.out 3) | ((with_reducible refine gate_builtin (b := .append) (xs := #[.tmp 71, .tmp 72]) rfl ?_); at_builtin; refine Kd.R_append (Kd.int .i64) w.heap.size rfl (.tmp 71) (.tmp 72) 23 3 (.int .i64 0) 8 rfl Try.underlying23 info3 rfl (by decide) (by omega) u197002 x197002_2 (-1) [.int .i64 (-1)] (fun _ => True) (fun _ => False) rfl (by first | (go_simp; done) | (go_simp; rfl)) ?aP (fun _ hk => hk.elim) ?aF ?aO (Below.refl _ _) ?aS ?aL ?_; (case aP => exact rfl); (case aF => exact (fun _ _ => trivial)); (case aO => exact (gR HO_197002 BK196)); (case aS => exact (keep_size (w := w) (g := g) (row := none) (by repeat (first | (with_reducible first | exact HK.out | apply KeepBut.set_ | apply keep_drewN | apply keep_drew | apply keep_alloc | refine keep_far ?_ GW193.out _ | refine keep_far ?_ GW196.out _) | exact HK.out)))); (case aL => have := LMc58.out; omega); intro v210 w66 ho hb hg hat; rw [← Ny209.out] at ho; have n0_ := Aside0.mk (blk_grown (g := gb193) (o := .cells #[.int .i64 0, .slice none 0 0, .slice none 0 0, .int .i64 0] 28 (0, 0)) (bf NB193_196 BK193) hg (Kd.R_ne HO_197002.out BK193.out (by decide))); have n1_ := Aside0.mk (blk_grown (g := gb196) (o := .cells #[.int .i64 ji4, .slice Ao64 y206.length co64, u197002, .int .i64 x197003_7] 28 (0, 0)) (bp BK196) hg (Kd.R_ne HO_197002.out BK196.out (by decide))); have n2_ := Aside0.mk (IsS67.grown ((show IsS67 w0 _ g s0_0 x1001_3 from by repeat (first | (with_reducible first | exact HI0.out | apply IsS67.alloc | apply IsS67.drewN | apply IsS67.drew | apply IsS67.set_1 | refine IsS67.far ?_ NB0_193.out _ | refine IsS67.far ?_ NB0_196.out _) | exact HI0.out))) hg (IsS67.own_ne HI0.out HO_197002.out (by decide))); have n3_ := Aside0.mk (Kd.S_after (ok := (fun _ => True)) (gS HO208 BK196) hg hat); have n4_ := Aside0.mk (below_weaken (by repeat (first | (with_reducible first | exact HB.out | apply below_alloc | apply pw_below_drewN | apply below_drew1 | refine below_set ?_ (IsS67.ge HI0.out) | refine below_set ?_ GE193.out | refine below_set ?_ GE196.out) | exact HB.out)) HL.out hb); have n5_ := Aside0.mk (KeepBut.trans (by repeat (first | (with_reducible first | exact HK.out | apply KeepBut.set_ | apply keep_drewN | apply keep_drew | apply keep_alloc | refine keep_far ?_ GW193.out _ | refine keep_far ?_ GW196.out _) | exact HK.out)) (KeepBut.of_grown hg g) (Kd.R_base2 HO_197002.out)); have n6_ := Aside0.mk (ho); clear BK193 BK196 HI0 HO208 HB HK HO_197002; have BK193 := n0_; have BK196 := n1_; have HI0 := n2_; have HO208 := n3_; have HB := n4_; have HK := n5_; have HO211 := n6_; clear n0_ n1_ n2_ n3_ n4_ n5_ n6_ ho hb hg hat; obtain ⟨Ao67, co67, eo67⟩ := Kd.R_slice HO211.out; subst eo67; have hcz68_0 := cz0 BK196; have hcz68_1 := cz1 BK196; have hcz68_2 := cz2 BK196; have hcz68_3 := cz3 BK196; have hfz68_0 := blk_frozen BK196.out 0; have hfz68_1 := blk_frozen BK196.out 1; have hfz68_2 := blk_frozen BK196.out 2; have hfz68_3 := blk_frozen BK196.out 3))
            go_roundg k3
            case measure => have := HJ7.out; have := HK2.out; have := HK3.out; omega
            case rel => exact ⟨(wrap64 (x6_2 - 1)), (x1001_3), (y206), (y209), (.slice Ao64 y206.length co64), (.slice Ao67 y209.length co67), (by first | rfl | (simp; done) | (simp [*]; done)), H', ⟨by have := HJ7.out; have := HK2.out; have := HK3.out; omega⟩, ⟨gS HO208 BK196⟩, ⟨gR HO211 BK196⟩, ⟨bf NB193_196 BK193⟩, ⟨bp BK196⟩, ⟨by repeat (first | (with_reducible first | exact HI0.out | apply IsS67.alloc | apply IsS67.drewN | apply IsS67.drew | apply IsS67.set_1 | refine IsS67.far ?_ NB0_193.out _ | refine IsS67.far ?_ NB0_196.out _) | exact HI0.out)⟩, ⟨by repeat (first | (with_reducible first | exact HK.out | apply KeepBut.set_ | apply keep_drewN | apply keep_drew | apply keep_alloc | refine keep_far ?_ GW193.out _ | refine keep_far ?_ GW196.out _) | exact HK.out)⟩, ⟨by repeat (first | (with_reducible first | exact HB.out | apply below_alloc | apply pw_below_drewN | apply below_drew1 | refine below_set ?_ (IsS67.ge HI0.out) | refine below_set ?_ GE193.out | refine below_set ?_ GE196.out) | exact HB.out)⟩⟩
           ·rw [if_neg c58] at H
            exact absurd H (by simp)
          ·rw [if_neg c57] at H
           exact absurd H (by simp)
      ·rw [if_neg c26] at H
       have c26b0 : decide (0 < x6_2) = false := decide_eq_false c26
       clear c26
       replace H := Option.bind_eq_some_iff.mp H
       obtain ⟨⟨t236, t237⟩, A690, H⟩ := H
       replace H : (if t236 = 0 then ((spec_FilledCourt.f k2 ji4 x197001_2 x197002_2 x197003_7).bind fun bt238 => (spec_l20Court.j3 k2 a1 s0_0 t237 bt238.1 bt238.2.1 bt238.2.2.1 bt238.2.2.2)) else (spec_l20Court.j3 k2 a1 s0_0 t237 ji4 x197001_2 x197002_2 x197003_7)) = some (r1, r2, r3, r4, r5) := H
       have A69 := Aside0.mk A690
       clear A690
       have HC70 := Aside0.mk H
       clear H
       go_upto_if 77 with (first | ((with_reducible refine gate_callee (f := 62) rfl ?_); refine goesL_ (some 76) rfl rfl Try.func62 kr rfl #[.pointer (some ⟨g, 0, none⟩), .int .i64 2] rfl lm ?_; (with_reducible refine (spec_l20Rd_pick.calls k2 g s0_0 x1001_2 2 t236 t237 w0 _ ?side1 ?side2 A69.out).mono ?_); (case side1 => repeat (first | (with_reducible first | exact HI0.out | apply IsS67.alloc | apply IsS67.drewN | apply IsS67.drew | apply IsS67.set_1 | refine IsS67.far ?_ NB0_193.out _ | refine IsS67.far ?_ NB0_196.out _) | exact HI0.out)); (case side2 => repeat (first | (with_reducible first | exact HB.out | apply below_alloc | apply pw_below_drewN | apply below_drew1 | refine below_set ?_ (IsS67.ge HI0.out) | refine below_set ?_ GE193.out | refine below_set ?_ GE196.out) | exact HB.out)); rintro e w71 ⟨rfl, hi, hb, hk⟩; refine ⟨_, rfl, ?_⟩; have n0_ := Aside0.mk (Kd.S_mono (Kd.S_keep (IsS67.apartS (show IsS67 w0 _ g s0_0 x1001_2 from by repeat (first | (with_reducible first | exact HI0.out | apply IsS67.alloc | apply IsS67.drewN | apply IsS67.drew | apply IsS67.set_1 | refine IsS67.far ?_ NB0_193.out _ | refine IsS67.far ?_ NB0_196.out _) | exact HI0.out)) (sz HO_197001) (by decide)) hk (fun _ h => h.2)) (fun _ h => h.1)); have n1_ := Aside0.mk (Kd.R_mono (Kd.R_keep (IsS67.apart (show IsS67 w0 _ g s0_0 x1001_2 from by repeat (first | (with_reducible first | exact HI0.out | apply IsS67.alloc | apply IsS67.drewN | apply IsS67.drew | apply IsS67.set_1 | refine IsS67.far ?_ NB0_193.out _ | refine IsS67.far ?_ NB0_196.out _) | exact HI0.out)) (rz HO_197002) (by decide)) hk (fun _ h => h.2)) (fun _ h => h.1)); have n2_ := Aside0.mk (KeepBut.blk hk (bz BK193) NB193_0.out (by simp)); have n3_ := Aside0.mk (KeepBut.blk hk (bz BK196) NB196_0.out (by simp)); have n4_ := Aside0.mk (KeepBut.trans (by repeat (first | (with_reducible first | exact HK.out | apply KeepBut.set_ | apply keep_drewN | apply keep_drew | apply keep_alloc | refine keep_far ?_ GW193.out _ | refine keep_far ?_ GW196.out _) | exact HK.out)) hk (.inl rfl)); have n5_ := Aside0.mk (hb); have n6_ := Aside0.mk (hi); clear HO_197001 HO_197002 BK193 BK196 HK HB HI0; have HO_197001 := n0_; have HO_197002 := n1_; have BK193 := n2_; have BK196 := n3_; have HK := n4_; have HB := n5_; have HI0 := n6_; clear n0_ n1_ n2_ n3_ n4_ n5_ n6_; (try clear hb); (try clear hb2); (try clear hk); (try clear hi)))
       (try simp only [Act.put, List.setIfInBounds_toArray, List.set_cons_zero, List.set_cons_succ])
       go_cut [] (fun wc => ∃ (kq : Nat) (x197000_69 : Int) (x197001_69 : List (List Int)) (x197002_69 : List Int) (x197003_69 : Int) (u197001 : Value) (u197002 : Value), Aside0 (spec_l20Court.j3 kq a1 s0_0 t237 x197000_69 x197001_69 x197002_69 x197003_69 = some (r1, r2, r3, r4, r5)) ∧ Aside0 (kq ≤ k2) ∧ Aside0 (Kd.S (Kd.slice 3 (Kd.int .i64)) 23 wc w.heap.size (fun k_ => some k_ ≠ (u197002 : Value).ownBlock) u197001 x197001_69) ∧ Aside0 (Kd.R (Kd.int .i64) 3 wc w.heap.size (fun _ => True) u197002 x197002_69) ∧ Aside0 (wc.heap[gb193]? = some (.cells #[.int .i64 0, (.slice none 0 0), (.slice none 0 0), .int .i64 0] 28 (0, 0))) ∧ Aside0 (wc.heap[gb196]? = some (.cells #[.int .i64 x197000_69, u197001, u197002, .int .i64 x197003_69] 28 (0, 0))) ∧ Aside0 (IsS67 w0 wc g s0_0 t237) ∧ Aside0 (KeepBut w wc g none) ∧ Aside0 (Below w0.heap.size w0 wc))
       case first =>
        have H := HC70.out
        clear HC70
        by_cases c72 : t236 = 0
        ·rw [if_pos c72] at H
         have c72b0 : (t236 == 0) = true := beq_iff_eq.mpr c72
         have c72b1 : (t236 != 0) = false := bne_eq_false_iff_eq.mpr c72
         clear c72
         (first | rw [c72b0] | (simp only [i64_w, i32_w]; rw [c72b0]) | skip)
         replace H := Option.bind_eq_some_iff.mp H
         obtain ⟨⟨t238, t239, t242, t245⟩, A730, H⟩ := H
         replace H : (spec_l20Court.j3 k2 a1 s0_0 t237 t238 t239 t242 t245) = some (r1, r2, r3, r4, r5) := H
         have A73 := Aside0.mk A730
         clear A730
         have H' := Aside0.mk H
         clear H
         have hnb74 := NB196_193.out
         have hnc74 := NB193_196.out
         have hnb75 := NB196_0.out
         have hnc75 := NB0_196.out
         have hcz76_0 := cz0 BK196
         have hcz76_1 := cz1 BK196
         have hcz76_2 := cz2 BK196
         have hcz76_3 := cz3 BK196
         have hfz76_0 := blk_frozen BK196.out 0
         have hfz76_1 := blk_frozen BK196.out 1
         have hfz76_2 := blk_frozen BK196.out 2
         have hfz76_3 := blk_frozen BK196.out 3
         obtain ⟨Ao77, co77, eo77⟩ := Kd.S_slice HO_197001.out
         subst eo77
         obtain ⟨Ao78, co78, eo78⟩ := Kd.R_slice HO_197002.out
         subst eo78
         go_wp2_with (first | ((with_reducible refine gate_callee (f := 36) rfl ?_); refine goesL_ (some 79) rfl rfl Try.func36 kr rfl #[.agg #[.int .i64 ji4, .slice Ao77 x197001_2.length co77, .slice Ao78 x197002_2.length co78, .int .i64 x197003_7]] rfl (by (try simp only [List.map_toArray, List.map_cons, List.map_nil]); first | done | (simp only [hji4]; rfl) | rfl | (simp only [List.length_drop, List.length_take]; rfl)) ?_; (with_reducible refine (spec_FilledCourt.calls k2 ji4 _ _ x197001_2 _ _ x197002_2 x197003_7 t238 t239 t242 t245 _ ?side1 ?side2 ?side3 ?side4 A73.out).mono ?_); (case side1 => repeat (first | exact (Kd.S_reads' HO_197001.out).2.2 | (with_reducible refine Kd.C_alloc ?_ _) | (with_reducible refine Kd.C_drewN ?_ _) | (with_reducible refine Kd.C_drew ?_))); (case side2 => exact (Kd.S_reads' HO_197001.out).2.1); (case side3 => repeat (first | exact (Kd.R_reads' HO_197002.out).2.2 | (with_reducible refine Kd.C_alloc ?_ _) | (with_reducible refine Kd.C_drewN ?_ _) | (with_reducible refine Kd.C_drew ?_))); (case side4 => exact (Kd.R_reads' HO_197002.out).2.1); rintro e w79 ⟨v240, v243, rfl, ho0, ho1, hb⟩; refine ⟨_, rfl, ?_⟩; have n0_ := Aside0.mk (Kd.S_mono (Kd.S_told (Kd.S_told (Kd.S_old (sz HO_197001) hb) (Kd.S_base ho0)) (Kd.R_base ho1)) (fun _ h_ => h_.1)); have n1_ := Aside0.mk (Kd.R_elder' (rz HO_197002) (Kd.R_base ho1) hb); have n2_ := Aside0.mk (Kd.S_lower (Kd.S_new' (Kd.S_new' ho0 (Kd.S_lt (sz HO_197001))) (Kd.R_lt (rz HO_197002))) (keep_size (w := w) (g := g) (row := none) (by repeat (first | (with_reducible first | exact HK.out | apply KeepBut.set_ | apply keep_drewN | apply keep_drew | apply keep_alloc | refine keep_far ?_ GW193.out _ | refine keep_far ?_ GW196.out _) | exact HK.out)))); have n3_ := Aside0.mk (Kd.R_lower (Kd.R_new' ho1 (Kd.R_lt (rz HO_197002))) (keep_size (w := w) (g := g) (row := none) (by repeat (first | (with_reducible first | exact HK.out | apply KeepBut.set_ | apply keep_drewN | apply keep_drew | apply keep_alloc | refine keep_far ?_ GW193.out _ | refine keep_far ?_ GW196.out _) | exact HK.out)))); have n4_ := Aside0.mk (blk_below (bz BK193) hb); have n5_ := Aside0.mk (blk_below (bz BK196) hb); have n6_ := Aside0.mk (IsS67.below (by repeat (first | (with_reducible first | exact HI0.out | apply IsS67.alloc | apply IsS67.drewN | apply IsS67.drew | apply IsS67.set_1 | refine IsS67.far ?_ NB0_193.out _ | refine IsS67.far ?_ NB0_196.out _) | exact HI0.out)) hb); have n7_ := Aside0.mk (KeepBut.trans (by repeat (first | (with_reducible first | exact HK.out | apply KeepBut.set_ | apply keep_drewN | apply keep_drew | apply keep_alloc | refine keep_far ?_ GW193.out _ | refine keep_far ?_ GW196.out _) | exact HK.out)) (KeepBut.of_below hb g none) (.inl rfl)); have n8_ := Aside0.mk (below_step (by repeat (first | (with_reducible first | exact HB.out | apply below_alloc | apply pw_below_drewN | apply below_drew1 | refine below_set ?_ (IsS67.ge HI0.out) | refine below_set ?_ GE193.out | refine below_set ?_ GE196.out) | exact HB.out)) hb); clear HO_197001 HO_197002 BK193 BK196 HI0 HK HB; have HO_197001 := n0_; have HO_197002 := n1_; have HO241 := n2_; have HO244 := n3_; have BK193 := n4_; have BK196 := n5_; have HI0 := n6_; have HK := n7_; have HB := n8_; clear n0_ n1_ n2_ n3_ n4_ n5_ n6_ n7_ n8_; (try clear hb); (try clear hb2); (try clear hk); (try clear hi); (try clear ho0); (try clear ho1); have hcz80_0 := cz0 BK196; have hcz80_1 := cz1 BK196; have hcz80_2 := cz2 BK196; have hcz80_3 := cz3 BK196; have hfz80_0 := blk_frozen BK196.out 0; have hfz80_1 := blk_frozen BK196.out 1; have hfz80_2 := blk_frozen BK196.out 2; have hfz80_3 := blk_frozen BK196.out 3; obtain ⟨Ao81, co81, eo81⟩ := Kd.S_slice HO241.out; subst eo81; obtain ⟨Ao82, co82, eo82⟩ := Kd.R_slice HO244.out; subst eo82))
         go_meet
         case rel => exact ⟨_, (t238), (t239), (t242), (t245), (.slice Ao81 t239.length co81), (.slice Ao82 t242.length co82), H', ⟨by have := HJ7.out; have := HK2.out; first | omega | exact Nat.le_refl _⟩, ⟨gS HO241 BK196⟩, ⟨gR HO244 BK196⟩, ⟨bf NB193_196 BK193⟩, ⟨bp BK196⟩, ⟨by repeat (first | (with_reducible first | exact HI0.out | apply IsS67.alloc | apply IsS67.drewN | apply IsS67.drew | apply IsS67.set_1 | refine IsS67.far ?_ NB0_193.out _ | refine IsS67.far ?_ NB0_196.out _) | exact HI0.out)⟩, ⟨by repeat (first | (with_reducible first | exact HK.out | apply KeepBut.set_ | apply keep_drewN | apply keep_drew | apply keep_alloc | refine keep_far ?_ GW193.out _ | refine keep_far ?_ GW196.out _) | exact HK.out)⟩, ⟨by repeat (first | (with_reducible first | exact HB.out | apply below_alloc | apply pw_below_drewN | apply below_drew1 | refine below_set ?_ (IsS67.ge HI0.out) | refine below_set ?_ GE193.out | refine below_set ?_ GE196.out) | exact HB.out)⟩⟩
        ·rw [if_neg c72] at H
         have c72b0 : (t236 == 0) = false := beq_eq_false_iff_ne.mpr c72
         have c72b1 : (t236 != 0) = true := bne_iff_ne.mpr c72
         (first | rw [c72b0] | (simp only [i64_w, i32_w]; rw [c72b0]) | skip)
         have H' := Aside0.mk H
         clear H
         go_wp2
         go_meet
         case rel => exact ⟨_, (ji4), (x197001_2), (x197002_2), (x197003_7), (u197001), (u197002), H', ⟨by have := HJ7.out; have := HK2.out; first | omega | exact Nat.le_refl _⟩, ⟨sz HO_197001⟩, ⟨rz HO_197002⟩, ⟨bz BK193⟩, ⟨bz BK196⟩, ⟨by repeat (first | (with_reducible first | exact HI0.out | apply IsS67.alloc | apply IsS67.drewN | apply IsS67.drew | apply IsS67.set_1 | refine IsS67.far ?_ NB0_193.out _ | refine IsS67.far ?_ NB0_196.out _) | exact HI0.out)⟩, ⟨by repeat (first | (with_reducible first | exact HK.out | apply KeepBut.set_ | apply keep_drewN | apply keep_drew | apply keep_alloc | refine keep_far ?_ GW193.out _ | refine keep_far ?_ GW196.out _) | exact HK.out)⟩, ⟨by repeat (first | (with_reducible first | exact HB.out | apply below_alloc | apply pw_below_drewN | apply below_drew1 | refine below_set ?_ (IsS67.ge HI0.out) | refine below_set ?_ GE193.out | refine below_set ?_ GE196.out) | exact HB.out)⟩⟩
       case rest =>
        clear HC70
        try clear c1
        try clear c2
        try clear p2
        try clear c3
        try clear c4
        try clear q4
        try clear c5
        try clear c5b0
        try clear c5b1
        try clear q5
        try clear c6
        try clear p6
        try clear c7
        try clear c12
        try clear c13
        try clear c16
        try clear c16b0
        try clear c16b1
        try clear c17
        try clear c17b0
        try clear c19
        try clear c20
        try clear c26
        try clear c26b0
        try clear c29
        try clear c29b0
        try clear c31
        try clear c31b0
        try clear c31b1
        try clear c33
        try clear c33b0
        try clear c33b1
        try clear c34
        try clear c34b0
        try clear c34b1
        try clear c35
        try clear c36
        try clear c37
        try clear c37b0
        try clear c38
        try clear c38b0
        try clear c39
        try clear c40
        try clear c41
        try clear q48
        try clear c51
        try clear q51
        try clear c53
        try clear c54
        try clear c56
        try clear c57
        try clear c58
        try clear c59
        try clear c60
        try clear c62
        try clear p64
        try clear c72
        try clear c72b0
        try clear c72b1
        try clear c74
        try clear c75
        try clear hcz14_0
        try clear hcz14_1
        try clear hcz14_2
        try clear hcz14_3
        try clear hcz21_0
        try clear hcz21_1
        try clear hcz21_2
        try clear hcz21_3
        try clear hcz23_0
        try clear hcz23_1
        try clear hcz23_2
        try clear hcz23_3
        try clear hcz42_0
        try clear hcz42_1
        try clear hcz42_2
        try clear hcz42_3
        try clear hcz55_0
        try clear hcz55_1
        try clear hcz55_2
        try clear hcz55_3
        try clear hcz61_0
        try clear hcz61_1
        try clear hcz61_2
        try clear hcz61_3
        try clear hcz65_0
        try clear hcz65_1
        try clear hcz65_2
        try clear hcz65_3
        try clear hcz68_0
        try clear hcz68_1
        try clear hcz68_2
        try clear hcz68_3
        try clear hcz76_0
        try clear hcz76_1
        try clear hcz76_2
        try clear hcz76_3
        try clear hcz80_0
        try clear hcz80_1
        try clear hcz80_2
        try clear hcz80_3
        try clear hfz14_0
        try clear hfz14_1
        try clear hfz14_2
        try clear hfz14_3
        try clear hfz21_0
        try clear hfz21_1
        try clear hfz21_2
        try clear hfz21_3
        try clear hfz23_0
        try clear hfz23_1
        try clear hfz23_2
        try clear hfz23_3
        try clear hfz42_0
        try clear hfz42_1
        try clear hfz42_2
        try clear hfz42_3
        try clear hfz55_0
        try clear hfz55_1
        try clear hfz55_2
        try clear hfz55_3
        try clear hfz61_0
        try clear hfz61_1
        try clear hfz61_2
        try clear hfz61_3
        try clear hfz65_0
        try clear hfz65_1
        try clear hfz65_2
        try clear hfz65_3
        try clear hfz68_0
        try clear hfz68_1
        try clear hfz68_2
        try clear hfz68_3
        try clear hfz76_0
        try clear hfz76_1
        try clear hfz76_2
        try clear hfz76_3
        try clear hfz80_0
        try clear hfz80_1
        try clear hfz80_2
        try clear hfz80_3
        try clear p2
        try clear p6
        try clear q051
        try clear q48
        try clear q51
        obtain ⟨kq, x197000_69, x197001_69, x197002_69, x197003_69, u197001, u197002, HA, HJ69, HO_197001, HO_197002, BK193, BK196, HI0, HK, HB⟩ := hcut
        cases kq with
        | zero => exact absurd HA.out (by simp [spec_l20Court.j3])
        | succ kj69 =>
         have H := HA.out
         clear HA
         simp only [spec_l20Court.j3] at H
         replace H := Option.bind_eq_some_iff.mp H
         obtain ⟨⟨t246, t247⟩, A830, H⟩ := H
         replace H : (if t246 = true then ((spec_l20Rd_pick.f kj69 s0_0 t247 3).bind fun bt248 => (if bt248.1 = 0 then (some (0, x197001_69, x197002_69, x197003_69, bt248.2)) else (if bt248.1 = 1 then (if x197002_69.length < 17592186044416 then (some (x197000_69, x197001_69, (x197002_69 ++ [0]), x197003_69, bt248.2)) else (none)) else (if (x197002_69.length : Int) > 0 then ((spec_l20Rd_pick.f kj69 s0_0 bt248.2 (x197002_69.length : Int)).bind fun bt253 => ((spec_l20Rd_pick.f kj69 s0_0 bt253.2 7).bind fun bt255 => (if 0 ≤ bt253.1 then (if bt253.1 < (x197002_69.length : Int) then (some (x197000_69, x197001_69, (x197002_69.set (bt253.1 : Int).toNat bt255.1), x197003_69, bt255.2)) else (none)) else (none)))) else (some (x197000_69, x197001_69, x197002_69, x197003_69, bt248.2)))))) else (some (x197000_69, x197001_69, x197002_69, x197003_69, t247))) = some (r1, r2, r3, r4, r5) := H
         have A83 := Aside0.mk A830
         clear A830
         by_cases c84 : t246 = true
         ·subst c84
          have H1 : ((spec_l20Rd_pick.f kj69 s0_0 t247 3).bind fun bt248 => (if bt248.1 = 0 then (some (0, x197001_69, x197002_69, x197003_69, bt248.2)) else (if bt248.1 = 1 then (if x197002_69.length < 17592186044416 then (some (x197000_69, x197001_69, (x197002_69 ++ [0]), x197003_69, bt248.2)) else (none)) else (if (x197002_69.length : Int) > 0 then ((spec_l20Rd_pick.f kj69 s0_0 bt248.2 (x197002_69.length : Int)).bind fun bt253 => ((spec_l20Rd_pick.f kj69 s0_0 bt253.2 7).bind fun bt255 => (if 0 ≤ bt253.1 then (if bt253.1 < (x197002_69.length : Int) then (some (x197000_69, x197001_69, (x197002_69.set (bt253.1 : Int).toNat bt255.1), x197003_69, bt255.2)) else (none)) else (none)))) else (some (x197000_69, x197001_69, x197002_69, x197003_69, bt248.2)))))) = some (r1, r2, r3, r4, r5) := by rw [if_pos rfl] at H; exact H
          clear H
          have H := H1
          clear H1
          replace H := Option.bind_eq_some_iff.mp H
          obtain ⟨⟨t248, t249⟩, A850, H⟩ := H
          replace H : (if t248 = 0 then (some (0, x197001_69, x197002_69, x197003_69, t249)) else (if t248 = 1 then (if x197002_69.length < 17592186044416 then (some (x197000_69, x197001_69, (x197002_69 ++ [0]), x197003_69, t249)) else (none)) else (if (x197002_69.length : Int) > 0 then ((spec_l20Rd_pick.f kj69 s0_0 t249 (x197002_69.length : Int)).bind fun bt253 => ((spec_l20Rd_pick.f kj69 s0_0 bt253.2 7).bind fun bt255 => (if 0 ≤ bt253.1 then (if bt253.1 < (x197002_69.length : Int) then (some (x197000_69, x197001_69, (x197002_69.set (bt253.1 : Int).toNat bt255.1), x197003_69, bt255.2)) else (none)) else (none)))) else (some (x197000_69, x197001_69, x197002_69, x197003_69, t249))))) = some (r1, r2, r3, r4, r5) := H
          have A85 := Aside0.mk A850
          clear A850
          by_cases c86 : t248 = 0
          ·rw [if_pos c86] at H
           have c86b0 : (t248 == 0) = true := beq_iff_eq.mpr c86
           have c86b1 : (t248 != 0) = false := bne_eq_false_iff_eq.mpr c86
           clear c86
           simp only [Option.some.injEq, Prod.mk.injEq] at H
           obtain ⟨rfl, rfl, rfl, rfl, rfl⟩ := H
           go_wp2_with (first | ((with_reducible refine gate_callee (f := 72) rfl ?_); refine goesL_ (some 82) rfl rfl Try.func72 kr rfl #[.pointer (some ⟨g, 0, none⟩), .int .i64 a1] rfl lm ?_; (with_reducible refine (spec_l20Rd_odd.calls kj69 g s0_0 t237 a1 true t247 w0 _ ?side1 ?side2 A83.out).mono ?_); (case side1 => repeat (first | (with_reducible first | exact HI0.out | apply IsS67.alloc | apply IsS67.drewN | apply IsS67.drew | apply IsS67.set_1 | refine IsS67.far ?_ NB0_193.out _ | refine IsS67.far ?_ NB0_196.out _) | exact HI0.out)); (case side2 => repeat (first | (with_reducible first | exact HB.out | apply below_alloc | apply pw_below_drewN | apply below_drew1 | refine below_set ?_ (IsS67.ge HI0.out) | refine below_set ?_ GE193.out | refine below_set ?_ GE196.out) | exact HB.out)); rintro e w87 ⟨rfl, hi, hb, hk⟩; refine ⟨_, rfl, ?_⟩; have n0_ := Aside0.mk (Kd.S_mono (Kd.S_keep (IsS67.apartS (show IsS67 w0 _ g s0_0 t237 from by repeat (first | (with_reducible first | exact HI0.out | apply IsS67.alloc | apply IsS67.drewN | apply IsS67.drew | apply IsS67.set_1 | refine IsS67.far ?_ NB0_193.out _ | refine IsS67.far ?_ NB0_196.out _) | exact HI0.out)) (sz HO_197001) (by decide)) hk (fun _ h => h.2)) (fun _ h => h.1)); have n1_ := Aside0.mk (Kd.R_mono (Kd.R_keep (IsS67.apart (show IsS67 w0 _ g s0_0 t237 from by repeat (first | (with_reducible first | exact HI0.out | apply IsS67.alloc | apply IsS67.drewN | apply IsS67.drew | apply IsS67.set_1 | refine IsS67.far ?_ NB0_193.out _ | refine IsS67.far ?_ NB0_196.out _) | exact HI0.out)) (rz HO_197002) (by decide)) hk (fun _ h => h.2)) (fun _ h => h.1)); have n2_ := Aside0.mk (KeepBut.blk hk (bz BK193) NB193_0.out (by simp)); have n3_ := Aside0.mk (KeepBut.blk hk (bz BK196) NB196_0.out (by simp)); have n4_ := Aside0.mk (KeepBut.trans (by repeat (first | (with_reducible first | exact HK.out | apply KeepBut.set_ | apply keep_drewN | apply keep_drew | apply keep_alloc | refine keep_far ?_ GW193.out _ | refine keep_far ?_ GW196.out _) | exact HK.out)) hk (.inl rfl)); have n5_ := Aside0.mk (hb); have n6_ := Aside0.mk (hi); clear HO_197001 HO_197002 BK193 BK196 HK HB HI0; have HO_197001 := n0_; have HO_197002 := n1_; have BK193 := n2_; have BK196 := n3_; have HK := n4_; have HB := n5_; have HI0 := n6_; clear n0_ n1_ n2_ n3_ n4_ n5_ n6_; (try clear hb); (try clear hb2); (try clear hk); (try clear hi)) | ((with_reducible refine gate_callee (f := 62) rfl ?_); refine goesL_ (some 84) rfl rfl Try.func62 kr rfl #[.pointer (some ⟨g, 0, none⟩), .int .i64 3] rfl lm ?_; (with_reducible refine (spec_l20Rd_pick.calls kj69 g s0_0 t247 3 t248 t249 w0 _ ?side1 ?side2 A85.out).mono ?_); (case side1 => repeat (first | (with_reducible first | exact HI0.out | apply IsS67.alloc | apply IsS67.drewN | apply IsS67.drew | apply IsS67.set_1 | refine IsS67.far ?_ NB0_193.out _ | refine IsS67.far ?_ NB0_196.out _) | exact HI0.out)); (case side2 => repeat (first | (with_reducible first | exact HB.out | apply below_alloc | apply pw_below_drewN | apply below_drew1 | refine below_set ?_ (IsS67.ge HI0.out) | refine below_set ?_ GE193.out | refine below_set ?_ GE196.out) | exact HB.out)); rintro e w88 ⟨rfl, hi, hb, hk⟩; refine ⟨_, rfl, ?_⟩; have n0_ := Aside0.mk (Kd.S_mono (Kd.S_keep (IsS67.apartS (show IsS67 w0 _ g s0_0 t247 from by repeat (first | (with_reducible first | exact HI0.out | apply IsS67.alloc | apply IsS67.drewN | apply IsS67.drew | apply IsS67.set_1 | refine IsS67.far ?_ NB0_193.out _ | refine IsS67.far ?_ NB0_196.out _) | exact HI0.out)) (sz HO_197001) (by decide)) hk (fun _ h => h.2)) (fun _ h => h.1)); have n1_ := Aside0.mk (Kd.R_mono (Kd.R_keep (IsS67.apart (show IsS67 w0 _ g s0_0 t247 from by repeat (first | (with_reducible first | exact HI0.out | apply IsS67.alloc | apply IsS67.drewN | apply IsS67.drew | apply IsS67.set_1 | refine IsS67.far ?_ NB0_193.out _ | refine IsS67.far ?_ NB0_196.out _) | exact HI0.out)) (rz HO_197002) (by decide)) hk (fun _ h => h.2)) (fun _ h => h.1)); have n2_ := Aside0.mk (KeepBut.blk hk (bz BK193) NB193_0.out (by simp)); have n3_ := Aside0.mk (KeepBut.blk hk (bz BK196) NB196_0.out (by simp)); have n4_ := Aside0.mk (KeepBut.trans (by repeat (first | (with_reducible first | exact HK.out | apply KeepBut.set_ | apply keep_drewN | apply keep_drew | apply keep_alloc | refine keep_far ?_ GW193.out _ | refine keep_far ?_ GW196.out _) | exact HK.out)) hk (.inl rfl)); have n5_ := Aside0.mk (hb); have n6_ := Aside0.mk (hi); clear HO_197001 HO_197002 BK193 BK196 HK HB HI0; have HO_197001 := n0_; have HO_197002 := n1_; have BK193 := n2_; have BK196 := n3_; have HK := n4_; have HB := n5_; have HI0 := n6_; clear n0_ n1_ n2_ n3_ n4_ n5_ n6_; (try clear hb); (try clear hb2); (try clear hk); (try clear hi); have hnb89 := NB196_193.out; have hnc89 := NB193_196.out; have hnb90 := NB196_0.out; have hnc90 := NB0_196.out; have hcz91_0 := cz0 BK196; have hcz91_1 := cz1 BK196; have hcz91_2 := cz2 BK196; have hcz91_3 := cz3 BK196; have hfz91_0 := blk_frozen BK196.out 0; have hfz91_1 := blk_frozen BK196.out 1; have hfz91_2 := blk_frozen BK196.out 2; have hfz91_3 := blk_frozen BK196.out 3; have hnb92 := NB193_0.out; have hnc92 := NB0_193.out; have hcz93_0 := cz0 BK193; have hcz93_1 := cz1 BK193; have hcz93_2 := cz2 BK193; have hcz93_3 := cz3 BK193; have hfz93_0 := blk_frozen BK193.out 0; have hfz93_1 := blk_frozen BK193.out 1; have hfz93_2 := blk_frozen BK193.out 2; have hfz93_3 := blk_frozen BK193.out 3; obtain ⟨Ao94, co94, eo94⟩ := Kd.S_slice HO_197001.out; subst eo94; obtain ⟨Ao95, co95, eo95⟩ := Kd.R_slice HO_197002.out; subst eo95))
           refine bodyPost_ret (results_cell_row rfl _ _ gb193 28 #[.int .i64 0, .slice Ao94 x197001_69.length co94, .slice Ao95 x197002_69.length co95, .int .i64 x197003_69] (0, 0) _ rfl (by (with_reducible repeat (first | refine blk_drewN ?_ _ | refine blk_drew ?_ | refine blk_alloc ?_ _)); refine blk_put (cs := #[.int .i64 0, .slice Ao94 x197001_69.length co94, .slice Ao95 x197002_69.length co95, .int .i64 0]) ?_ 3 _ rfl; (with_reducible repeat (first | refine blk_drewN ?_ _ | refine blk_drew ?_ | refine blk_alloc ?_ _)); refine blk_put (cs := #[.int .i64 0, .slice Ao94 x197001_69.length co94, .slice none 0 0, .int .i64 0]) ?_ 2 _ rfl; (with_reducible repeat (first | refine blk_drewN ?_ _ | refine blk_drew ?_ | refine blk_alloc ?_ _)); refine blk_put (cs := #[.int .i64 0, .slice none 0 0, .slice none 0 0, .int .i64 0]) ?_ 1 _ rfl; (with_reducible repeat (first | refine blk_drewN ?_ _ | refine blk_drew ?_ | refine blk_alloc ?_ _)); refine blk_put (cs := #[.int .i64 0, .slice none 0 0, .slice none 0 0, .int .i64 0]) ?_ 0 _ rfl; (with_reducible repeat (first | refine blk_drewN ?_ _ | refine blk_drew ?_ | refine blk_alloc ?_ _)); refine blk_far ?_ NB193_196.out _; (with_reducible repeat (first | refine blk_drewN ?_ _ | refine blk_drew ?_ | refine blk_alloc ?_ _)); exact BK193.out) Try.underlying28 rfl kr) rfl ?_
           exact ⟨_, _, by first | rfl | (simp [errW_none, errW_some] <;> rfl) | (simp only [← hji4, ← hji6]; first | rfl | (simp [errW_none, errW_some] <;> rfl)) | (simp [*, errW_none, errW_some] <;> rfl), by (with_reducible repeat (first | apply Kd.S_alloc | apply Kd.S_drewN | apply Kd.S_drew)); exact Kd.S_mono (Kd.S_far (p := ⟨gb193, 3, none⟩) (Kd.S_far (p := ⟨gb193, 2, none⟩) (Kd.S_far (p := ⟨gb193, 1, none⟩) (Kd.S_far (p := ⟨gb193, 0, none⟩) (Kd.S_far (p := ⟨gb196, 0, none⟩) (Kd.S_types (Kd.S_types HO_197001.out BK196.out (by decide)) BK193.out (by decide)) (fun _ hk => hk.1.2) (.int .i64 0)) (fun _ hk => hk.2) (.int .i64 0)) (fun _ hk => hk.2) (.slice Ao94 x197001_69.length co94)) (fun _ hk => hk.2) (.slice Ao95 x197002_69.length co95)) (fun _ hk => hk.2) (.int .i64 x197003_69)) (fun _ hk => hk.1.1), by (with_reducible repeat (first | apply Kd.R_alloc | apply Kd.R_drewN | apply Kd.R_drew)); exact Kd.R_mono (Kd.R_far (p := ⟨gb193, 3, none⟩) (Kd.R_far (p := ⟨gb193, 2, none⟩) (Kd.R_far (p := ⟨gb193, 1, none⟩) (Kd.R_far (p := ⟨gb193, 0, none⟩) (Kd.R_far (p := ⟨gb196, 0, none⟩) (Kd.R_types (Kd.R_types HO_197002.out BK196.out (by decide)) BK193.out (by decide)) (fun _ hk => hk.1.2) (.int .i64 0)) (fun _ hk => hk.2) (.int .i64 0)) (fun _ hk => hk.2) (.slice Ao94 x197001_69.length co94)) (fun _ hk => hk.2) (.slice Ao95 x197002_69.length co95)) (fun _ hk => hk.2) (.int .i64 x197003_69)) (fun _ hk => trivial), by repeat (first | (with_reducible first | exact HI0.out | apply IsS67.alloc | apply IsS67.drewN | apply IsS67.drew | apply IsS67.set_1 | refine IsS67.far ?_ NB0_193.out _ | refine IsS67.far ?_ NB0_196.out _) | exact HI0.out), by repeat (first | (with_reducible first | exact HB.out | apply below_alloc | apply pw_below_drewN | apply below_drew1 | refine below_set ?_ (IsS67.ge HI0.out) | refine below_set ?_ GE193.out | refine below_set ?_ GE196.out) | exact HB.out), by repeat (first | (with_reducible first | exact HK.out | apply KeepBut.set_ | apply keep_drewN | apply keep_drew | apply keep_alloc | refine keep_far ?_ GW193.out _ | refine keep_far ?_ GW196.out _) | exact HK.out)⟩
          ·rw [if_neg c86] at H
           have c86b0 : (t248 == 0) = false := beq_eq_false_iff_ne.mpr c86
           have c86b1 : (t248 != 0) = true := bne_iff_ne.mpr c86
           by_cases c96 : t248 = 1
           ·rw [if_pos c96] at H
            have c96b0 : (t248 == 1) = true := beq_iff_eq.mpr c96
            have c96b1 : (t248 != 1) = false := bne_eq_false_iff_eq.mpr c96
            clear c96
            by_cases c97 : x197002_69.length < 17592186044416
            ·rw [if_pos c97] at H
             have LMc97 := Aside0.mk c97
             clear c97
             obtain ⟨y250, hy250⟩ : ∃ y_ : List Int, y_ = (x197002_69 ++ [0]) := ⟨_, rfl⟩
             replace H : (some (x197000_69, x197001_69, y250, x197003_69, t249)) = some (r1, r2, r3, r4, r5) := by first | (rw [hy250]; with_reducible exact H) | (have H2_ := (Option.bind_some _ _).symm.trans H; rw [hy250]; with_reducible exact H2_) | (have H2_ := (Option.bind_some _ _).symm.trans H; with_reducible exact H2_) | with_reducible exact H | (rw [hy250]; exact H) | exact H
             have Ny250 := Aside0.mk hy250
             clear hy250
             simp only [Option.some.injEq, Prod.mk.injEq] at H
             obtain ⟨rfl, rfl, rfl, rfl, rfl⟩ := H
             go_wp2_with (first | ((with_reducible refine gate_callee (f := 72) rfl ?_); refine goesL_ (some 82) rfl rfl Try.func72 kr rfl #[.pointer (some ⟨g, 0, none⟩), .int .i64 a1] rfl lm ?_; (with_reducible refine (spec_l20Rd_odd.calls kj69 g s0_0 t237 a1 true t247 w0 _ ?side1 ?side2 A83.out).mono ?_); (case side1 => repeat (first | (with_reducible first | exact HI0.out | apply IsS67.alloc | apply IsS67.drewN | apply IsS67.drew | apply IsS67.set_1 | refine IsS67.far ?_ NB0_193.out _ | refine IsS67.far ?_ NB0_196.out _) | exact HI0.out)); (case side2 => repeat (first | (with_reducible first | exact HB.out | apply below_alloc | apply pw_below_drewN | apply below_drew1 | refine below_set ?_ (IsS67.ge HI0.out) | refine below_set ?_ GE193.out | refine below_set ?_ GE196.out) | exact HB.out)); rintro e w98 ⟨rfl, hi, hb, hk⟩; refine ⟨_, rfl, ?_⟩; have n0_ := Aside0.mk (Kd.S_mono (Kd.S_keep (IsS67.apartS (show IsS67 w0 _ g s0_0 t237 from by repeat (first | (with_reducible first | exact HI0.out | apply IsS67.alloc | apply IsS67.drewN | apply IsS67.drew | apply IsS67.set_1 | refine IsS67.far ?_ NB0_193.out _ | refine IsS67.far ?_ NB0_196.out _) | exact HI0.out)) (sz HO_197001) (by decide)) hk (fun _ h => h.2)) (fun _ h => h.1)); have n1_ := Aside0.mk (Kd.R_mono (Kd.R_keep (IsS67.apart (show IsS67 w0 _ g s0_0 t237 from by repeat (first | (with_reducible first | exact HI0.out | apply IsS67.alloc | apply IsS67.drewN | apply IsS67.drew | apply IsS67.set_1 | refine IsS67.far ?_ NB0_193.out _ | refine IsS67.far ?_ NB0_196.out _) | exact HI0.out)) (rz HO_197002) (by decide)) hk (fun _ h => h.2)) (fun _ h => h.1)); have n2_ := Aside0.mk (KeepBut.blk hk (bz BK193) NB193_0.out (by simp)); have n3_ := Aside0.mk (KeepBut.blk hk (bz BK196) NB196_0.out (by simp)); have n4_ := Aside0.mk (KeepBut.trans (by repeat (first | (with_reducible first | exact HK.out | apply KeepBut.set_ | apply keep_drewN | apply keep_drew | apply keep_alloc | refine keep_far ?_ GW193.out _ | refine keep_far ?_ GW196.out _) | exact HK.out)) hk (.inl rfl)); have n5_ := Aside0.mk (hb); have n6_ := Aside0.mk (hi); clear HO_197001 HO_197002 BK193 BK196 HK HB HI0; have HO_197001 := n0_; have HO_197002 := n1_; have BK193 := n2_; have BK196 := n3_; have HK := n4_; have HB := n5_; have HI0 := n6_; clear n0_ n1_ n2_ n3_ n4_ n5_ n6_; (try clear hb); (try clear hb2); (try clear hk); (try clear hi)) | ((with_reducible refine gate_callee (f := 62) rfl ?_); refine goesL_ (some 84) rfl rfl Try.func62 kr rfl #[.pointer (some ⟨g, 0, none⟩), .int .i64 3] rfl lm ?_; (with_reducible refine (spec_l20Rd_pick.calls kj69 g s0_0 t247 3 t248 t249 w0 _ ?side1 ?side2 A85.out).mono ?_); (case side1 => repeat (first | (with_reducible first | exact HI0.out | apply IsS67.alloc | apply IsS67.drewN | apply IsS67.drew | apply IsS67.set_1 | refine IsS67.far ?_ NB0_193.out _ | refine IsS67.far ?_ NB0_196.out _) | exact HI0.out)); (case side2 => repeat (first | (with_reducible first | exact HB.out | apply below_alloc | apply pw_below_drewN | apply below_drew1 | refine below_set ?_ (IsS67.ge HI0.out) | refine below_set ?_ GE193.out | refine below_set ?_ GE196.out) | exact HB.out)); rintro e w99 ⟨rfl, hi, hb, hk⟩; refine ⟨_, rfl, ?_⟩; have n0_ := Aside0.mk (Kd.S_mono (Kd.S_keep (IsS67.apartS (show IsS67 w0 _ g s0_0 t247 from by repeat (first | (with_reducible first | exact HI0.out | apply IsS67.alloc | apply IsS67.drewN | apply IsS67.drew | apply IsS67.set_1 | refine IsS67.far ?_ NB0_193.out _ | refine IsS67.far ?_ NB0_196.out _) | exact HI0.out)) (sz HO_197001) (by decide)) hk (fun _ h => h.2)) (fun _ h => h.1)); have n1_ := Aside0.mk (Kd.R_mono (Kd.R_keep (IsS67.apart (show IsS67 w0 _ g s0_0 t247 from by repeat (first | (with_reducible first | exact HI0.out | apply IsS67.alloc | apply IsS67.drewN | apply IsS67.drew | apply IsS67.set_1 | refine IsS67.far ?_ NB0_193.out _ | refine IsS67.far ?_ NB0_196.out _) | exact HI0.out)) (rz HO_197002) (by decide)) hk (fun _ h => h.2)) (fun _ h => h.1)); have n2_ := Aside0.mk (KeepBut.blk hk (bz BK193) NB193_0.out (by simp)); have n3_ := Aside0.mk (KeepBut.blk hk (bz BK196) NB196_0.out (by simp)); have n4_ := Aside0.mk (KeepBut.trans (by repeat (first | (with_reducible first | exact HK.out | apply KeepBut.set_ | apply keep_drewN | apply keep_drew | apply keep_alloc | refine keep_far ?_ GW193.out _ | refine keep_far ?_ GW196.out _) | exact HK.out)) hk (.inl rfl)); have n5_ := Aside0.mk (hb); have n6_ := Aside0.mk (hi); clear HO_197001 HO_197002 BK193 BK196 HK HB HI0; have HO_197001 := n0_; have HO_197002 := n1_; have BK193 := n2_; have BK196 := n3_; have HK := n4_; have HB := n5_; have HI0 := n6_; clear n0_ n1_ n2_ n3_ n4_ n5_ n6_; (try clear hb); (try clear hb2); (try clear hk); (try clear hi); have hnb100 := NB196_193.out; have hnc100 := NB193_196.out; have hnb101 := NB196_0.out; have hnc101 := NB0_196.out; have hcz102_0 := cz0 BK196; have hcz102_1 := cz1 BK196; have hcz102_2 := cz2 BK196; have hcz102_3 := cz3 BK196; have hfz102_0 := blk_frozen BK196.out 0; have hfz102_1 := blk_frozen BK196.out 1; have hfz102_2 := blk_frozen BK196.out 2; have hfz102_3 := blk_frozen BK196.out 3) | ((with_reducible refine gate_builtin (b := .append) (xs := #[.tmp 105, .tmp 106]) rfl ?_); at_builtin; refine Kd.R_append (Kd.int .i64) w.heap.size rfl (.tmp 105) (.tmp 106) 23 3 (.int .i64 0) 8 rfl Try.underlying23 info3 rfl (by decide) (by omega) u197002 x197002_69 0 [.int .i64 0] (fun _ => True) (fun _ => False) rfl rfl ?aP (fun _ hk => hk.elim) ?aF ?aO (Below.refl _ _) ?aS ?aL ?_; (case aP => exact rfl); (case aF => exact (fun _ _ => trivial)); (case aO => exact (rz HO_197002)); (case aS => exact (keep_size (w := w) (g := g) (row := none) (by repeat (first | (with_reducible first | exact HK.out | apply KeepBut.set_ | apply keep_drewN | apply keep_drew | apply keep_alloc | refine keep_far ?_ GW193.out _ | refine keep_far ?_ GW196.out _) | exact HK.out)))); (case aL => have := LMc97.out; omega); intro v251 w103 ho hb hg hat; rw [← Ny250.out] at ho; have n0_ := Aside0.mk (Kd.S_after (ok := (fun _ => True)) (mS HO_197001) hg hat); have n1_ := Aside0.mk (blk_grown (bz BK193) hg (Kd.R_ne HO_197002.out BK193.out (by decide))); have n2_ := Aside0.mk (blk_grown (bz BK196) hg (Kd.R_ne HO_197002.out BK196.out (by decide))); have n3_ := Aside0.mk (IsS67.grown ((show IsS67 w0 _ g s0_0 t249 from by repeat (first | (with_reducible first | exact HI0.out | apply IsS67.alloc | apply IsS67.drewN | apply IsS67.drew | apply IsS67.set_1 | refine IsS67.far ?_ NB0_193.out _ | refine IsS67.far ?_ NB0_196.out _) | exact HI0.out))) hg (IsS67.own_ne HI0.out HO_197002.out (by decide))); have n4_ := Aside0.mk (below_weaken (by repeat (first | (with_reducible first | exact HB.out | apply below_alloc | apply pw_below_drewN | apply below_drew1 | refine below_set ?_ (IsS67.ge HI0.out) | refine below_set ?_ GE193.out | refine below_set ?_ GE196.out) | exact HB.out)) HL.out hb); have n5_ := Aside0.mk (KeepBut.trans (by repeat (first | (with_reducible first | exact HK.out | apply KeepBut.set_ | apply keep_drewN | apply keep_drew | apply keep_alloc | refine keep_far ?_ GW193.out _ | refine keep_far ?_ GW196.out _) | exact HK.out)) (KeepBut.of_grown hg g) (Kd.R_base2 HO_197002.out)); have n6_ := Aside0.mk (ho); clear HO_197001 BK193 BK196 HI0 HB HK HO_197002; have HO_197001 := n0_; have BK193 := n1_; have BK196 := n2_; have HI0 := n3_; have HB := n4_; have HK := n5_; have HO252 := n6_; clear n0_ n1_ n2_ n3_ n4_ n5_ n6_ ho hb hg hat; obtain ⟨Ao104, co104, eo104⟩ := Kd.R_slice HO252.out; subst eo104; have hcz105_0 := cz0 BK196; have hcz105_1 := cz1 BK196; have hcz105_2 := cz2 BK196; have hcz105_3 := cz3 BK196; have hfz105_0 := blk_frozen BK196.out 0; have hfz105_1 := blk_frozen BK196.out 1; have hfz105_2 := blk_frozen BK196.out 2; have hfz105_3 := blk_frozen BK196.out 3; have hnb106 := NB193_0.out; have hnc106 := NB0_193.out; have hcz107_0 := cz0 BK193; have hcz107_1 := cz1 BK193; have hcz107_2 := cz2 BK193; have hcz107_3 := cz3 BK193; have hfz107_0 := blk_frozen BK193.out 0; have hfz107_1 := blk_frozen BK193.out 1; have hfz107_2 := blk_frozen BK193.out 2; have hfz107_3 := blk_frozen BK193.out 3; obtain ⟨Ao108, co108, eo108⟩ := Kd.S_slice HO_197001.out; subst eo108))
             refine bodyPost_ret (results_cell_row rfl _ _ gb193 28 #[.int .i64 x197000_69, .slice Ao108 x197001_69.length co108, .slice Ao104 y250.length co104, .int .i64 x197003_69] (0, 0) _ rfl (by (with_reducible repeat (first | refine blk_drewN ?_ _ | refine blk_drew ?_ | refine blk_alloc ?_ _)); refine blk_put (cs := #[.int .i64 x197000_69, .slice Ao108 x197001_69.length co108, .slice Ao104 y250.length co104, .int .i64 0]) ?_ 3 _ rfl; (with_reducible repeat (first | refine blk_drewN ?_ _ | refine blk_drew ?_ | refine blk_alloc ?_ _)); refine blk_put (cs := #[.int .i64 x197000_69, .slice Ao108 x197001_69.length co108, .slice none 0 0, .int .i64 0]) ?_ 2 _ rfl; (with_reducible repeat (first | refine blk_drewN ?_ _ | refine blk_drew ?_ | refine blk_alloc ?_ _)); refine blk_put (cs := #[.int .i64 x197000_69, .slice none 0 0, .slice none 0 0, .int .i64 0]) ?_ 1 _ rfl; (with_reducible repeat (first | refine blk_drewN ?_ _ | refine blk_drew ?_ | refine blk_alloc ?_ _)); refine blk_put (cs := #[.int .i64 0, .slice none 0 0, .slice none 0 0, .int .i64 0]) ?_ 0 _ rfl; (with_reducible repeat (first | refine blk_drewN ?_ _ | refine blk_drew ?_ | refine blk_alloc ?_ _)); refine blk_far ?_ NB193_196.out _; (with_reducible repeat (first | refine blk_drewN ?_ _ | refine blk_drew ?_ | refine blk_alloc ?_ _)); exact BK193.out) Try.underlying28 rfl kr) rfl ?_
             exact ⟨_, _, by first | rfl | (simp [errW_none, errW_some] <;> rfl) | (simp only [← hji4, ← hji6]; first | rfl | (simp [errW_none, errW_some] <;> rfl)) | (simp [*, errW_none, errW_some] <;> rfl), by (with_reducible repeat (first | apply Kd.S_alloc | apply Kd.S_drewN | apply Kd.S_drew)); exact Kd.S_mono (Kd.S_far (p := ⟨gb193, 3, none⟩) (Kd.S_far (p := ⟨gb193, 2, none⟩) (Kd.S_far (p := ⟨gb193, 1, none⟩) (Kd.S_far (p := ⟨gb193, 0, none⟩) (Kd.S_far (p := ⟨gb196, 2, none⟩) (Kd.S_types (Kd.S_types HO_197001.out BK196.out (by decide)) BK193.out (by decide)) (fun _ hk => hk.1.2) (.slice Ao104 y250.length co104)) (fun _ hk => hk.2) (.int .i64 x197000_69)) (fun _ hk => hk.2) (.slice Ao108 x197001_69.length co108)) (fun _ hk => hk.2) (.slice Ao104 y250.length co104)) (fun _ hk => hk.2) (.int .i64 x197003_69)) (fun _ hk => hk.1.1.2), by (with_reducible repeat (first | apply Kd.R_alloc | apply Kd.R_drewN | apply Kd.R_drew)); exact Kd.R_mono (Kd.R_far (p := ⟨gb193, 3, none⟩) (Kd.R_far (p := ⟨gb193, 2, none⟩) (Kd.R_far (p := ⟨gb193, 1, none⟩) (Kd.R_far (p := ⟨gb193, 0, none⟩) (Kd.R_far (p := ⟨gb196, 2, none⟩) (Kd.R_types (Kd.R_types HO252.out BK196.out (by decide)) BK193.out (by decide)) (fun _ hk => hk.1.2) (.slice Ao104 y250.length co104)) (fun _ hk => hk.2) (.int .i64 x197000_69)) (fun _ hk => hk.2) (.slice Ao108 x197001_69.length co108)) (fun _ hk => hk.2) (.slice Ao104 y250.length co104)) (fun _ hk => hk.2) (.int .i64 x197003_69)) (fun _ hk => trivial), by repeat (first | (with_reducible first | exact HI0.out | apply IsS67.alloc | apply IsS67.drewN | apply IsS67.drew | apply IsS67.set_1 | refine IsS67.far ?_ NB0_193.out _ | refine IsS67.far ?_ NB0_196.out _) | exact HI0.out), by repeat (first | (with_reducible first | exact HB.out | apply below_alloc | apply pw_below_drewN | apply below_drew1 | refine below_set ?_ (IsS67.ge HI0.out) | refine below_set ?_ GE193.out | refine below_set ?_ GE196.out) | exact HB.out), by repeat (first | (with_reducible first | exact HK.out | apply KeepBut.set_ | apply keep_drewN | apply keep_drew | apply keep_alloc | refine keep_far ?_ GW193.out _ | refine keep_far ?_ GW196.out _) | exact HK.out)⟩
            ·rw [if_neg c97] at H
             exact absurd H (by simp)
           ·rw [if_neg c96] at H
            have c96b0 : (t248 == 1) = false := beq_eq_false_iff_ne.mpr c96
            have c96b1 : (t248 != 1) = true := bne_iff_ne.mpr c96
            by_cases c109 : (x197002_69.length : Int) > 0
            ·rw [if_pos c109] at H
             have c109b0 : decide (0 < (x197002_69.length : Int)) = true := decide_eq_true c109
             have c109b1 : decide (0 < x197002_69.length) = true := decide_eq_true (by omega)
             clear c109
             replace H := Option.bind_eq_some_iff.mp H
             obtain ⟨⟨t253, t254⟩, A1100, H⟩ := H
             replace H : ((spec_l20Rd_pick.f kj69 s0_0 t254 7).bind fun bt255 => (if 0 ≤ t253 then (if t253 < (x197002_69.length : Int) then (some (x197000_69, x197001_69, (x197002_69.set (t253 : Int).toNat bt255.1), x197003_69, bt255.2)) else (none)) else (none))) = some (r1, r2, r3, r4, r5) := H
             have A110 := Aside0.mk A1100
             clear A1100
             replace H := Option.bind_eq_some_iff.mp H
             obtain ⟨⟨t255, t256⟩, A1110, H⟩ := H
             replace H : (if 0 ≤ t253 then (if t253 < (x197002_69.length : Int) then (some (x197000_69, x197001_69, (x197002_69.set (t253 : Int).toNat t255), x197003_69, t256)) else (none)) else (none)) = some (r1, r2, r3, r4, r5) := H
             have A111 := Aside0.mk A1110
             clear A1110
             by_cases c112 : 0 ≤ t253
             ·rw [if_pos c112] at H
              have c112b0 : decide (0 ≤ t253) = true := decide_eq_true c112
              clear c112
              by_cases c113 : t253 < (x197002_69.length : Int)
              ·rw [if_pos c113] at H
               have c113b0 : decide (t253 < (x197002_69.length : Int)) = true := decide_eq_true c113
               clear c113
               obtain ⟨y257, hy257⟩ : ∃ y_ : List Int, y_ = (x197002_69.set (t253 : Int).toNat t255) := ⟨_, rfl⟩
               replace H : (some (x197000_69, x197001_69, y257, x197003_69, t256)) = some (r1, r2, r3, r4, r5) := by first | (rw [hy257]; with_reducible exact H) | (have H2_ := (Option.bind_some _ _).symm.trans H; rw [hy257]; with_reducible exact H2_) | (have H2_ := (Option.bind_some _ _).symm.trans H; with_reducible exact H2_) | with_reducible exact H | (rw [hy257]; exact H) | exact H
               have Ny257 := Aside0.mk hy257
               clear hy257
               simp only [Option.some.injEq, Prod.mk.injEq] at H
               obtain ⟨rfl, rfl, rfl, rfl, rfl⟩ := H
               try go_wp2_with (first | ((with_reducible refine gate_callee (f := 72) rfl ?_); refine goesL_ (some 82) rfl rfl Try.func72 kr rfl #[.pointer (some ⟨g, 0, none⟩), .int .i64 a1] rfl lm ?_; (with_reducible refine (spec_l20Rd_odd.calls kj69 g s0_0 t237 a1 true t247 w0 _ ?side1 ?side2 A83.out).mono ?_); (case side1 => repeat (first | (with_reducible first | exact HI0.out | apply IsS67.alloc | apply IsS67.drewN | apply IsS67.drew | apply IsS67.set_1 | refine IsS67.far ?_ NB0_193.out _ | refine IsS67.far ?_ NB0_196.out _) | exact HI0.out)); (case side2 => repeat (first | (with_reducible first | exact HB.out | apply below_alloc | apply pw_below_drewN | apply below_drew1 | refine below_set ?_ (IsS67.ge HI0.out) | refine below_set ?_ GE193.out | refine below_set ?_ GE196.out) | exact HB.out)); rintro e w115 ⟨rfl, hi, hb, hk⟩; refine ⟨_, rfl, ?_⟩; have n0_ := Aside0.mk (Kd.S_mono (Kd.S_keep (IsS67.apartS (show IsS67 w0 _ g s0_0 t237 from by repeat (first | (with_reducible first | exact HI0.out | apply IsS67.alloc | apply IsS67.drewN | apply IsS67.drew | apply IsS67.set_1 | refine IsS67.far ?_ NB0_193.out _ | refine IsS67.far ?_ NB0_196.out _) | exact HI0.out)) (sz HO_197001) (by decide)) hk (fun _ h => h.2)) (fun _ h => h.1)); have n1_ := Aside0.mk (Kd.R_mono (Kd.R_keep (IsS67.apart (show IsS67 w0 _ g s0_0 t237 from by repeat (first | (with_reducible first | exact HI0.out | apply IsS67.alloc | apply IsS67.drewN | apply IsS67.drew | apply IsS67.set_1 | refine IsS67.far ?_ NB0_193.out _ | refine IsS67.far ?_ NB0_196.out _) | exact HI0.out)) (rz HO_197002) (by decide)) hk (fun _ h => h.2)) (fun _ h => h.1)); have n2_ := Aside0.mk (KeepBut.blk hk (bz BK193) NB193_0.out (by simp)); have n3_ := Aside0.mk (KeepBut.blk hk (bz BK196) NB196_0.out (by simp)); have n4_ := Aside0.mk (KeepBut.trans (by repeat (first | (with_reducible first | exact HK.out | apply KeepBut.set_ | apply keep_drewN | apply keep_drew | apply keep_alloc | refine keep_far ?_ GW193.out _ | refine keep_far ?_ GW196.out _) | exact HK.out)) hk (.inl rfl)); have n5_ := Aside0.mk (hb); have n6_ := Aside0.mk (hi); clear HO_197001 HO_197002 BK193 BK196 HK HB HI0; have HO_197001 := n0_; have HO_197002 := n1_; have BK193 := n2_; have BK196 := n3_; have HK := n4_; have HB := n5_; have HI0 := n6_; clear n0_ n1_ n2_ n3_ n4_ n5_ n6_; (try clear hb); (try clear hb2); (try clear hk); (try clear hi)) | ((with_reducible refine gate_callee (f := 62) rfl ?_); refine goesL_ (some 84) rfl rfl Try.func62 kr rfl #[.pointer (some ⟨g, 0, none⟩), .int .i64 3] rfl lm ?_; (with_reducible refine (spec_l20Rd_pick.calls kj69 g s0_0 t247 3 t248 t249 w0 _ ?side1 ?side2 A85.out).mono ?_); (case side1 => repeat (first | (with_reducible first | exact HI0.out | apply IsS67.alloc | apply IsS67.drewN | apply IsS67.drew | apply IsS67.set_1 | refine IsS67.far ?_ NB0_193.out _ | refine IsS67.far ?_ NB0_196.out _) | exact HI0.out)); (case side2 => repeat (first | (with_reducible first | exact HB.out | apply below_alloc | apply pw_below_drewN | apply below_drew1 | refine below_set ?_ (IsS67.ge HI0.out) | refine below_set ?_ GE193.out | refine below_set ?_ GE196.out) | exact HB.out)); rintro e w116 ⟨rfl, hi, hb, hk⟩; refine ⟨_, rfl, ?_⟩; have n0_ := Aside0.mk (Kd.S_mono (Kd.S_keep (IsS67.apartS (show IsS67 w0 _ g s0_0 t247 from by repeat (first | (with_reducible first | exact HI0.out | apply IsS67.alloc | apply IsS67.drewN | apply IsS67.drew | apply IsS67.set_1 | refine IsS67.far ?_ NB0_193.out _ | refine IsS67.far ?_ NB0_196.out _) | exact HI0.out)) (sz HO_197001) (by decide)) hk (fun _ h => h.2)) (fun _ h => h.1)); have n1_ := Aside0.mk (Kd.R_mono (Kd.R_keep (IsS67.apart (show IsS67 w0 _ g s0_0 t247 from by repeat (first | (with_reducible first | exact HI0.out | apply IsS67.alloc | apply IsS67.drewN | apply IsS67.drew | apply IsS67.set_1 | refine IsS67.far ?_ NB0_193.out _ | refine IsS67.far ?_ NB0_196.out _) | exact HI0.out)) (rz HO_197002) (by decide)) hk (fun _ h => h.2)) (fun _ h => h.1)); have n2_ := Aside0.mk (KeepBut.blk hk (bz BK193) NB193_0.out (by simp)); have n3_ := Aside0.mk (KeepBut.blk hk (bz BK196) NB196_0.out (by simp)); have n4_ := Aside0.mk (KeepBut.trans (by repeat (first | (with_reducible first | exact HK.out | apply KeepBut.set_ | apply keep_drewN | apply keep_drew | apply keep_alloc | refine keep_far ?_ GW193.out _ | refine keep_far ?_ GW196.out _) | exact HK.out)) hk (.inl rfl)); have n5_ := Aside0.mk (hb); have n6_ := Aside0.mk (hi); clear HO_197001 HO_197002 BK193 BK196 HK HB HI0; have HO_197001 := n0_; have HO_197002 := n1_; have BK193 := n2_; have BK196 := n3_; have HK := n4_; have HB := n5_; have HI0 := n6_; clear n0_ n1_ n2_ n3_ n4_ n5_ n6_; (try clear hb); (try clear hb2); (try clear hk); (try clear hi); have hnb117 := NB196_193.out; have hnc117 := NB193_196.out; have hnb118 := NB196_0.out; have hnc118 := NB0_196.out; have hcz119_0 := cz0 BK196; have hcz119_1 := cz1 BK196; have hcz119_2 := cz2 BK196; have hcz119_3 := cz3 BK196; have hfz119_0 := blk_frozen BK196.out 0; have hfz119_1 := blk_frozen BK196.out 1; have hfz119_2 := blk_frozen BK196.out 2; have hfz119_3 := blk_frozen BK196.out 3; obtain ⟨Ao120, co120, eo120⟩ := Kd.R_slice HO_197002.out; subst eo120))
               have n0_ := Aside0.mk (Kd.S_drew HO_197001.out)
               have n1_ := Aside0.mk (Kd.R_drew HO_197002.out)
               have n2_ := Aside0.mk (blk_drew BK193.out)
               have n3_ := Aside0.mk (blk_drew BK196.out)
               have n4_ := Aside0.mk (IsS67.drew HI0.out)
               have n5_ := Aside0.mk (keep_drew HK.out)
               have n6_ := Aside0.mk (below_drew1 HB.out)
               clear HO_197001 HO_197002 BK193 BK196 HI0 HK HB
               have HO_197001 := n0_
               have HO_197002 := n1_
               have BK193 := n2_
               have BK196 := n3_
               have HI0 := n4_
               have HK := n5_
               have HB := n6_
               clear n0_ n1_ n2_ n3_ n4_ n5_ n6_
               refine start_ (n := 11) (S := fun w' => w'.cell? ⟨gb196, 0, none⟩ = some (.int .i64 x197000_69) ∧ w'.cell? ⟨gb196, 1, none⟩ = some (u197001) ∧ w'.cell? ⟨gb196, 2, none⟩ = some (.slice Ao120 x197002_69.length co120) ∧ w'.cell? ⟨gb196, 3, none⟩ = some (.int .i64 x197003_69)) (ds := [10]) #[F,F,F,F,F,F,F,F,F,F,F] kr rfl rfl ⟨cz0 BK196, cz1 BK196, cz2 BK196, cz3 BK196⟩ (fun hHeld => ?_); refine with_tabW spec_l20Court.tab24 spec_l20Court.bits24 (fun HT_ HW_ => ?_)
               generalize w116.drew = w121 at HO_197001 HO_197002 BK193 BK196 HI0 HK HB hHeld ⊢
               refine pu 0 (some 89) #[T,F,F,F,F,F,F,F,F,F,F] (any_of HT_.out kr) ?_
               refine pu 2 (some 91) #[T,F,T,F,F,F,F,F,F,F,F] (any_of HT_.out kr) ?_
               refine pu 3 (some 92) #[T,F,T,T,F,F,F,F,F,F,F] (any_of HT_.out kr) ?_
               refine pu 7 (some 96) #[T,F,T,T,F,F,F,T,F,F,F] (any_of HT_.out kr) ?_
               refine tk4 1 (some 90) #[T,T,T,T,F,F,F,T,F,F,F] (take_ofW HT_.out HW_.out kr) ?_
               refine tk4 4 (some 93) #[T,T,T,T,T,F,F,T,F,F,F] (take_ofW HT_.out HW_.out kr) ?_
               refine pu 5 (some 94) #[T,T,T,T,T,T,F,T,F,F,F] (any_of HT_.out kr) ?_
               refine one_ (i := 6) (N := some 95) #[T,T,T,T,T,T,T,T,F,F,F] rfl rfl (one_of HT_.out kr) (by decide) (fun K hK => ?_)
               refine goes_ Try.func62 kr rfl #[.pointer (some ⟨g, 0, none⟩), .int .i64 (x197002_69.length : Int)] (by rfl) rfl rfl lm ?_
               with_reducible refine (spec_l20Rd_pick.calls kj69 g s0_0 t249 (x197002_69.length : Int) t253 t254 w0 _ ?side1 ?side2 A110.out).mono ?_
               (case side1 => repeat (first | (with_reducible first | exact HI0.out | apply IsS67.alloc | apply IsS67.drewN | apply IsS67.drew | apply IsS67.set_1 | refine IsS67.far ?_ NB0_193.out _ | refine IsS67.far ?_ NB0_196.out _) | exact HI0.out))
               (case side2 => repeat (first | (with_reducible first | exact HB.out | apply below_alloc | apply pw_below_drewN | apply below_drew1 | refine below_set ?_ (IsS67.ge HI0.out) | refine below_set ?_ GE193.out | refine below_set ?_ GE196.out) | exact HB.out))
               rintro e w122 ⟨rfl, hi, hb, hk⟩
               refine ⟨_, rfl, ?_⟩
               have n0_ := Aside0.mk (Kd.S_mono (Kd.S_keep (IsS67.apartS (show IsS67 w0 _ g s0_0 t249 from by repeat (first | (with_reducible first | exact HI0.out | apply IsS67.alloc | apply IsS67.drewN | apply IsS67.drew | apply IsS67.set_1 | refine IsS67.far ?_ NB0_193.out _ | refine IsS67.far ?_ NB0_196.out _) | exact HI0.out)) (sz HO_197001) (by decide)) hk (fun _ h => h.2)) (fun _ h => h.1))
               have n1_ := Aside0.mk (Kd.R_mono (Kd.R_keep (IsS67.apart (show IsS67 w0 _ g s0_0 t249 from by repeat (first | (with_reducible first | exact HI0.out | apply IsS67.alloc | apply IsS67.drewN | apply IsS67.drew | apply IsS67.set_1 | refine IsS67.far ?_ NB0_193.out _ | refine IsS67.far ?_ NB0_196.out _) | exact HI0.out)) (rz HO_197002) (by decide)) hk (fun _ h => h.2)) (fun _ h => h.1))
               have n2_ := Aside0.mk (KeepBut.blk hk (bz BK193) NB193_0.out (by simp))
               have n3_ := Aside0.mk (KeepBut.blk hk (bz BK196) NB196_0.out (by simp))
               have n4_ := Aside0.mk (KeepBut.trans (by repeat (first | (with_reducible first | exact HK.out | apply KeepBut.set_ | apply keep_drewN | apply keep_drew | apply keep_alloc | refine keep_far ?_ GW193.out _ | refine keep_far ?_ GW196.out _) | exact HK.out)) hk (.inl rfl))
               have n5_ := Aside0.mk (hb)
               have n6_ := Aside0.mk (hi)
               clear HO_197001 HO_197002 BK193 BK196 HK HB HI0
               have HO_197001 := n0_
               have HO_197002 := n1_
               have BK193 := n2_
               have BK196 := n3_
               have HK := n4_
               have HB := n5_
               have HI0 := n6_
               clear n0_ n1_ n2_ n3_ n4_ n5_ n6_
               (try clear hb)
               (try clear hb2)
               (try clear hk)
               (try clear hi)
               refine hK.out _ _ ⟨cz0 BK196, cz1 BK196, cz2 BK196, cz3 BK196⟩ (fun hHeld => ?_)
               clear hK K
               refine norm_ (a' := ?_) ?_ ?_
               rotate_left
               ·show Act.put _ (some 95) _ = _
                simp only [Act.put, List.setIfInBounds_toArray, List.set_cons_zero, List.set_cons_succ, i64_w, i32_w]
                rfl
               refine one_ (i := 8) (N := some 97) #[T,T,T,T,T,T,T,T,T,F,F] rfl rfl (one_of HT_.out kr) (by decide) (fun K hK => ?_)
               refine goes_ Try.func62 kr rfl #[.pointer (some ⟨g, 0, none⟩), .int .i64 7] (by rfl) rfl rfl lm ?_
               with_reducible refine (spec_l20Rd_pick.calls kj69 g s0_0 t254 7 t255 t256 w0 _ ?side1 ?side2 A111.out).mono ?_
               (case side1 => repeat (first | (with_reducible first | exact HI0.out | apply IsS67.alloc | apply IsS67.drewN | apply IsS67.drew | apply IsS67.set_1 | refine IsS67.far ?_ NB0_193.out _ | refine IsS67.far ?_ NB0_196.out _) | exact HI0.out))
               (case side2 => repeat (first | (with_reducible first | exact HB.out | apply below_alloc | apply pw_below_drewN | apply below_drew1 | refine below_set ?_ (IsS67.ge HI0.out) | refine below_set ?_ GE193.out | refine below_set ?_ GE196.out) | exact HB.out))
               rintro e w123 ⟨rfl, hi, hb, hk⟩
               refine ⟨_, rfl, ?_⟩
               have n0_ := Aside0.mk (Kd.S_mono (Kd.S_keep (IsS67.apartS (show IsS67 w0 _ g s0_0 t254 from by repeat (first | (with_reducible first | exact HI0.out | apply IsS67.alloc | apply IsS67.drewN | apply IsS67.drew | apply IsS67.set_1 | refine IsS67.far ?_ NB0_193.out _ | refine IsS67.far ?_ NB0_196.out _) | exact HI0.out)) (sz HO_197001) (by decide)) hk (fun _ h => h.2)) (fun _ h => h.1))
               have n1_ := Aside0.mk (Kd.R_mono (Kd.R_keep (IsS67.apart (show IsS67 w0 _ g s0_0 t254 from by repeat (first | (with_reducible first | exact HI0.out | apply IsS67.alloc | apply IsS67.drewN | apply IsS67.drew | apply IsS67.set_1 | refine IsS67.far ?_ NB0_193.out _ | refine IsS67.far ?_ NB0_196.out _) | exact HI0.out)) (rz HO_197002) (by decide)) hk (fun _ h => h.2)) (fun _ h => h.1))
               have n2_ := Aside0.mk (KeepBut.blk hk (bz BK193) NB193_0.out (by simp))
               have n3_ := Aside0.mk (KeepBut.blk hk (bz BK196) NB196_0.out (by simp))
               have n4_ := Aside0.mk (KeepBut.trans (by repeat (first | (with_reducible first | exact HK.out | apply KeepBut.set_ | apply keep_drewN | apply keep_drew | apply keep_alloc | refine keep_far ?_ GW193.out _ | refine keep_far ?_ GW196.out _) | exact HK.out)) hk (.inl rfl))
               have n5_ := Aside0.mk (hb)
               have n6_ := Aside0.mk (hi)
               clear HO_197001 HO_197002 BK193 BK196 HK HB HI0
               have HO_197001 := n0_
               have HO_197002 := n1_
               have BK193 := n2_
               have BK196 := n3_
               have HK := n4_
               have HB := n5_
               have HI0 := n6_
               clear n0_ n1_ n2_ n3_ n4_ n5_ n6_
               (try clear hb)
               (try clear hb2)
               (try clear hk)
               (try clear hi)
               have p114 : 0 ≤ (t253 : Int) := oda
               have q114 : (t253 : Int) < ((x197002_69.length : Int) : Int) := oda
               obtain ⟨go114, co114, eo114, gb114, gl114, cl114, HG114⟩ := Kd.R_form HO_197002.out (by omega)
               (first | cases eo114 | (injection eo114 with ea_ en_ ec_; (first | subst ea_ | (injection ea_ with ea_; subst ea_)); subst ec_; clear en_))
               have GB114 := Aside0.mk gb114
               have GG114 := Aside0.mk HG114
               clear gb114 gl114 HG114
               obtain ⟨hx114_0, hf114_0⟩ := Kd.R_celln 0 HO_197002.out (t253 : Int) p114 q114
               replace p114 := eq_true p114
               replace q114 := eq_true q114
               have HN0_go114 := Aside0.mk (show g ≠ go114 from by have h_ := IsS67.own_ne HI0.out HO_197002.out (by decide); intro e_; exact h_ (by rw [e_]; rfl))
               have HP124 := Kd.R_putn HO_197002.out (t253 : Int) t255
               rw [← Ny257.out] at HP124
               have HQ124 := Aside0.mk HP124
               clear HP124
               refine hK.out _ _ ⟨cz0 BK196, cz1 BK196, cz2 BK196, cz3 BK196⟩ (fun hHeld => ?_)
               clear hK K
               refine norm_ (a' := ?_) ?_ ?_
               rotate_left
               ·show Act.put _ (some 97) _ = _
                simp only [Act.put, List.setIfInBounds_toArray, List.set_cons_zero, List.set_cons_succ, i64_w, i32_w]
                rfl
               refine pu 9 (some 98) #[T,T,T,T,T,T,T,T,T,T,F] (any_of HT_.out kr) ?_
               refine last_ (i := 10) (N := none) #[T,T,T,T,T,T,T,T,T,T,T] rfl rfl (one_of HT_.out kr) (by decide) (fun K hK => ?_)
               refine skip_ (w1 := ?_) (by rfl) rfl ?_ ?_
               rotate_left
               ·go_simp
                rfl
               refine hK.out _ _ ?_
               clear hK K
               refine done_ (done_of HT_.out kr) ?_
               generalize hW_ : (w123.setCell ⟨go114, (t253 : Int).toNat, none⟩ (.int .i64 t255)) = w125
               have n0_ : Aside0 (Kd.S (Kd.slice 3 (Kd.int .i64)) 23 w125 w.heap.size (fun k_ => some k_ ≠ (.slice (some ⟨go114, 0, none⟩) x197002_69.length co120 : Value).ownBlock) u197001 x197001_69) := ⟨by subst hW_; (with_reducible repeat (first | apply Kd.S_alloc | apply Kd.S_drewN | apply Kd.S_drew)); exact Kd.S_mono (Kd.S_far (p := ⟨go114, (t253 : Int).toNat, none⟩) (Kd.S_mono HO_197001.out (fun k_ hk => (⟨hk, fun e_ => hk (by rw [e_]; rfl)⟩ : _ ∧ k_ ≠ go114))) (fun _ hk => hk.2) (.int .i64 t255)) (fun _ hk => hk.1)⟩
               have n1_ : Aside0 (Kd.R (Kd.int .i64) 3 w125 w.heap.size (fun _ => True) (.slice (some ⟨go114, 0, none⟩) x197002_69.length co120) y257) := ⟨by subst hW_; (with_reducible repeat (first | apply Kd.R_alloc | apply Kd.R_drewN | apply Kd.R_drew)); exact HQ124.out⟩
               have n2_ : Aside0 (w125.heap[gb193]? = some (.cells #[.int .i64 0, .slice none 0 0, .slice none 0 0, .int .i64 0] 28 (0, 0))) := ⟨by subst hW_; (with_reducible repeat (first | refine blk_drewN ?_ _ | refine blk_drew ?_ | refine blk_alloc ?_ _)); refine blk_far ?_ (by have h_ := Kd.R_ne HO_197002.out BK193.out (by decide); intro e_; exact h_ (by rw [e_]; rfl)) _; (with_reducible repeat (first | refine blk_drewN ?_ _ | refine blk_drew ?_ | refine blk_alloc ?_ _)); exact BK193.out⟩
               have n3_ : Aside0 (w125.heap[gb196]? = some (.cells #[.int .i64 x197000_69, u197001, .slice (some ⟨go114, 0, none⟩) x197002_69.length co120, .int .i64 x197003_69] 28 (0, 0))) := ⟨by subst hW_; (with_reducible repeat (first | refine blk_drewN ?_ _ | refine blk_drew ?_ | refine blk_alloc ?_ _)); refine blk_far ?_ (by have h_ := Kd.R_ne HO_197002.out BK196.out (by decide); intro e_; exact h_ (by rw [e_]; rfl)) _; (with_reducible repeat (first | refine blk_drewN ?_ _ | refine blk_drew ?_ | refine blk_alloc ?_ _)); exact BK196.out⟩
               have n4_ : Aside0 (IsS67 w0 w125 g s0_0 t256) := ⟨by subst hW_; repeat (first | (with_reducible first | exact HI0.out | apply IsS67.alloc | apply IsS67.drewN | apply IsS67.drew | apply IsS67.set_1 | refine IsS67.far ?_ HN0_go114.out _ | refine IsS67.far ?_ NB0_193.out _ | refine IsS67.far ?_ NB0_196.out _) | exact HI0.out)⟩
               have n5_ : Aside0 (KeepBut w w125 g none) := ⟨by subst hW_; repeat (first | (with_reducible first | exact HK.out | apply KeepBut.set_ | apply keep_drewN | apply keep_drew | apply keep_alloc | refine keep_far ?_ GB114.out _ | refine keep_far ?_ GW193.out _ | refine keep_far ?_ GW196.out _) | exact HK.out)⟩
               have n6_ : Aside0 (Below w0.heap.size w0 w125) := ⟨by subst hW_; repeat (first | (with_reducible first | exact HB.out | apply below_alloc | apply pw_below_drewN | apply below_drew1 | refine below_set ?_ (Nat.le_trans HL.out GB114.out) | refine below_set ?_ (IsS67.ge HI0.out) | refine below_set ?_ GE193.out | refine below_set ?_ GE196.out) | exact HB.out)⟩
               clear hW_
               (try clear HO_197001)
               (try clear HO_197002)
               (try clear BK193)
               (try clear BK196)
               (try clear HI0)
               (try clear HK)
               (try clear HB)
               have HO_197001 := n0_
               have HO_197002 := n1_
               have BK193 := n2_
               have BK196 := n3_
               have HI0 := n4_
               have HK := n5_
               have HB := n6_
               clear n0_ n1_ n2_ n3_ n4_ n5_ n6_
               have hcz126_0 := cz0 BK196
               have hcz126_1 := cz1 BK196
               have hcz126_2 := cz2 BK196
               have hcz126_3 := cz3 BK196
               have hfz126_0 := blk_frozen BK196.out 0
               have hfz126_1 := blk_frozen BK196.out 1
               have hfz126_2 := blk_frozen BK196.out 2
               have hfz126_3 := blk_frozen BK196.out 3
               have hnb127 := NB193_0.out
               have hnc127 := NB0_193.out
               have hcz128_0 := cz0 BK193
               have hcz128_1 := cz1 BK193
               have hcz128_2 := cz2 BK193
               have hcz128_3 := cz3 BK193
               have hfz128_0 := blk_frozen BK193.out 0
               have hfz128_1 := blk_frozen BK193.out 1
               have hfz128_2 := blk_frozen BK193.out 2
               have hfz128_3 := blk_frozen BK193.out 3
               obtain ⟨Ao129, co129, eo129⟩ := Kd.S_slice HO_197001.out
               subst eo129
               try go_wp2
               refine bodyPost_ret (results_cell_row rfl _ _ gb193 28 #[.int .i64 x197000_69, .slice Ao129 x197001_69.length co129, .slice (some ⟨go114, 0, none⟩) x197002_69.length co120, .int .i64 x197003_69] (0, 0) _ rfl (bp BK193) Try.underlying28 rfl kr) rfl ?_
               exact ⟨_, _, by first | rfl | (simp [errW_none, errW_some] <;> rfl) | (simp only [← hji4, ← hji6]; first | rfl | (simp [errW_none, errW_some] <;> rfl)) | (simp [*, errW_none, errW_some] <;> rfl), by (with_reducible repeat (first | apply Kd.S_alloc | apply Kd.S_drewN | apply Kd.S_drew)); exact Kd.S_mono (Kd.S_far (p := ⟨gb193, 3, none⟩) (Kd.S_far (p := ⟨gb193, 2, none⟩) (Kd.S_far (p := ⟨gb193, 1, none⟩) (Kd.S_far (p := ⟨gb193, 0, none⟩) (Kd.S_types HO_197001.out BK193.out (by decide)) (fun _ hk => hk.2) (.int .i64 x197000_69)) (fun _ hk => hk.2) (.slice Ao129 x197001_69.length co129)) (fun _ hk => hk.2) (.slice (some ⟨go114, 0, none⟩) x197002_69.length co120)) (fun _ hk => hk.2) (.int .i64 x197003_69)) (fun _ hk => hk.1), by (with_reducible repeat (first | apply Kd.R_alloc | apply Kd.R_drewN | apply Kd.R_drew)); exact Kd.R_mono (Kd.R_far (p := ⟨gb193, 3, none⟩) (Kd.R_far (p := ⟨gb193, 2, none⟩) (Kd.R_far (p := ⟨gb193, 1, none⟩) (Kd.R_far (p := ⟨gb193, 0, none⟩) (Kd.R_types HO_197002.out BK193.out (by decide)) (fun _ hk => hk.2) (.int .i64 x197000_69)) (fun _ hk => hk.2) (.slice Ao129 x197001_69.length co129)) (fun _ hk => hk.2) (.slice (some ⟨go114, 0, none⟩) x197002_69.length co120)) (fun _ hk => hk.2) (.int .i64 x197003_69)) (fun _ hk => trivial), by repeat (first | (with_reducible first | exact HI0.out | apply IsS67.alloc | apply IsS67.drewN | apply IsS67.drew | apply IsS67.set_1 | refine IsS67.far ?_ NB0_193.out _ | refine IsS67.far ?_ NB0_196.out _) | exact HI0.out), by repeat (first | (with_reducible first | exact HB.out | apply below_alloc | apply pw_below_drewN | apply below_drew1 | refine below_set ?_ (IsS67.ge HI0.out) | refine below_set ?_ GE193.out | refine below_set ?_ GE196.out) | exact HB.out), by repeat (first | (with_reducible first | exact HK.out | apply KeepBut.set_ | apply keep_drewN | apply keep_drew | apply keep_alloc | refine keep_far ?_ GW193.out _ | refine keep_far ?_ GW196.out _) | exact HK.out)⟩
              ·rw [if_neg c113] at H
               exact absurd H (by simp)
             ·rw [if_neg c112] at H
              exact absurd H (by simp)
            ·rw [if_neg c109] at H
             have c109b0 : decide (0 < (x197002_69.length : Int)) = false := decide_eq_false c109
             have c109b1 : decide (0 < x197002_69.length) = false := decide_eq_false (by omega)
             clear c109
             simp only [Option.some.injEq, Prod.mk.injEq] at H
             obtain ⟨rfl, rfl, rfl, rfl, rfl⟩ := H
             go_wp2_with (first | ((with_reducible refine gate_callee (f := 72) rfl ?_); refine goesL_ (some 82) rfl rfl Try.func72 kr rfl #[.pointer (some ⟨g, 0, none⟩), .int .i64 a1] rfl lm ?_; (with_reducible refine (spec_l20Rd_odd.calls kj69 g s0_0 t237 a1 true t247 w0 _ ?side1 ?side2 A83.out).mono ?_); (case side1 => repeat (first | (with_reducible first | exact HI0.out | apply IsS67.alloc | apply IsS67.drewN | apply IsS67.drew | apply IsS67.set_1 | refine IsS67.far ?_ NB0_193.out _ | refine IsS67.far ?_ NB0_196.out _) | exact HI0.out)); (case side2 => repeat (first | (with_reducible first | exact HB.out | apply below_alloc | apply pw_below_drewN | apply below_drew1 | refine below_set ?_ (IsS67.ge HI0.out) | refine below_set ?_ GE193.out | refine below_set ?_ GE196.out) | exact HB.out)); rintro e w130 ⟨rfl, hi, hb, hk⟩; refine ⟨_, rfl, ?_⟩; have n0_ := Aside0.mk (Kd.S_mono (Kd.S_keep (IsS67.apartS (show IsS67 w0 _ g s0_0 t237 from by repeat (first | (with_reducible first | exact HI0.out | apply IsS67.alloc | apply IsS67.drewN | apply IsS67.drew | apply IsS67.set_1 | refine IsS67.far ?_ NB0_193.out _ | refine IsS67.far ?_ NB0_196.out _) | exact HI0.out)) (sz HO_197001) (by decide)) hk (fun _ h => h.2)) (fun _ h => h.1)); have n1_ := Aside0.mk (Kd.R_mono (Kd.R_keep (IsS67.apart (show IsS67 w0 _ g s0_0 t237 from by repeat (first | (with_reducible first | exact HI0.out | apply IsS67.alloc | apply IsS67.drewN | apply IsS67.drew | apply IsS67.set_1 | refine IsS67.far ?_ NB0_193.out _ | refine IsS67.far ?_ NB0_196.out _) | exact HI0.out)) (rz HO_197002) (by decide)) hk (fun _ h => h.2)) (fun _ h => h.1)); have n2_ := Aside0.mk (KeepBut.blk hk (bz BK193) NB193_0.out (by simp)); have n3_ := Aside0.mk (KeepBut.blk hk (bz BK196) NB196_0.out (by simp)); have n4_ := Aside0.mk (KeepBut.trans (by repeat (first | (with_reducible first | exact HK.out | apply KeepBut.set_ | apply keep_drewN | apply keep_drew | apply keep_alloc | refine keep_far ?_ GW193.out _ | refine keep_far ?_ GW196.out _) | exact HK.out)) hk (.inl rfl)); have n5_ := Aside0.mk (hb); have n6_ := Aside0.mk (hi); clear HO_197001 HO_197002 BK193 BK196 HK HB HI0; have HO_197001 := n0_; have HO_197002 := n1_; have BK193 := n2_; have BK196 := n3_; have HK := n4_; have HB := n5_; have HI0 := n6_; clear n0_ n1_ n2_ n3_ n4_ n5_ n6_; (try clear hb); (try clear hb2); (try clear hk); (try clear hi)) | ((with_reducible refine gate_callee (f := 62) rfl ?_); refine goesL_ (some 84) rfl rfl Try.func62 kr rfl #[.pointer (some ⟨g, 0, none⟩), .int .i64 3] rfl lm ?_; (with_reducible refine (spec_l20Rd_pick.calls kj69 g s0_0 t247 3 t248 t249 w0 _ ?side1 ?side2 A85.out).mono ?_); (case side1 => repeat (first | (with_reducible first | exact HI0.out | apply IsS67.alloc | apply IsS67.drewN | apply IsS67.drew | apply IsS67.set_1 | refine IsS67.far ?_ NB0_193.out _ | refine IsS67.far ?_ NB0_196.out _) | exact HI0.out)); (case side2 => repeat (first | (with_reducible first | exact HB.out | apply below_alloc | apply pw_below_drewN | apply below_drew1 | refine below_set ?_ (IsS67.ge HI0.out) | refine below_set ?_ GE193.out | refine below_set ?_ GE196.out) | exact HB.out)); rintro e w131 ⟨rfl, hi, hb, hk⟩; refine ⟨_, rfl, ?_⟩; have n0_ := Aside0.mk (Kd.S_mono (Kd.S_keep (IsS67.apartS (show IsS67 w0 _ g s0_0 t247 from by repeat (first | (with_reducible first | exact HI0.out | apply IsS67.alloc | apply IsS67.drewN | apply IsS67.drew | apply IsS67.set_1 | refine IsS67.far ?_ NB0_193.out _ | refine IsS67.far ?_ NB0_196.out _) | exact HI0.out)) (sz HO_197001) (by decide)) hk (fun _ h => h.2)) (fun _ h => h.1)); have n1_ := Aside0.mk (Kd.R_mono (Kd.R_keep (IsS67.apart (show IsS67 w0 _ g s0_0 t247 from by repeat (first | (with_reducible first | exact HI0.out | apply IsS67.alloc | apply IsS67.drewN | apply IsS67.drew | apply IsS67.set_1 | refine IsS67.far ?_ NB0_193.out _ | refine IsS67.far ?_ NB0_196.out _) | exact HI0.out)) (rz HO_197002) (by decide)) hk (fun _ h => h.2)) (fun _ h => h.1)); have n2_ := Aside0.mk (KeepBut.blk hk (bz BK193) NB193_0.out (by simp)); have n3_ := Aside0.mk (KeepBut.blk hk (bz BK196) NB196_0.out (by simp)); have n4_ := Aside0.mk (KeepBut.trans (by repeat (first | (with_reducible first | exact HK.out | apply KeepBut.set_ | apply keep_drewN | apply keep_drew | apply keep_alloc | refine keep_far ?_ GW193.out _ | refine keep_far ?_ GW196.out _) | exact HK.out)) hk (.inl rfl)); have n5_ := Aside0.mk (hb); have n6_ := Aside0.mk (hi); clear HO_197001 HO_197002 BK193 BK196 HK HB HI0; have HO_197001 := n0_; have HO_197002 := n1_; have BK193 := n2_; have BK196 := n3_; have HK := n4_; have HB := n5_; have HI0 := n6_; clear n0_ n1_ n2_ n3_ n4_ n5_ n6_; (try clear hb); (try clear hb2); (try clear hk); (try clear hi); have hnb132 := NB196_193.out; have hnc132 := NB193_196.out; have hnb133 := NB196_0.out; have hnc133 := NB0_196.out; have hcz134_0 := cz0 BK196; have hcz134_1 := cz1 BK196; have hcz134_2 := cz2 BK196; have hcz134_3 := cz3 BK196; have hfz134_0 := blk_frozen BK196.out 0; have hfz134_1 := blk_frozen BK196.out 1; have hfz134_2 := blk_frozen BK196.out 2; have hfz134_3 := blk_frozen BK196.out 3; obtain ⟨Ao135, co135, eo135⟩ := Kd.R_slice HO_197002.out; subst eo135; have hnb136 := NB193_0.out; have hnc136 := NB0_193.out; have hcz137_0 := cz0 BK193; have hcz137_1 := cz1 BK193; have hcz137_2 := cz2 BK193; have hcz137_3 := cz3 BK193; have hfz137_0 := blk_frozen BK193.out 0; have hfz137_1 := blk_frozen BK193.out 1; have hfz137_2 := blk_frozen BK193.out 2; have hfz137_3 := blk_frozen BK193.out 3; obtain ⟨Ao138, co138, eo138⟩ := Kd.S_slice HO_197001.out; subst eo138))
             refine bodyPost_ret (results_cell_row rfl _ _ gb193 28 #[.int .i64 x197000_69, .slice Ao138 x197001_69.length co138, .slice Ao135 x197002_69.length co135, .int .i64 x197003_69] (0, 0) _ rfl (bp BK193) Try.underlying28 rfl kr) rfl ?_
             exact ⟨_, _, by first | rfl | (simp [errW_none, errW_some] <;> rfl) | (simp only [← hji4, ← hji6]; first | rfl | (simp [errW_none, errW_some] <;> rfl)) | (simp [*, errW_none, errW_some] <;> rfl), by (with_reducible repeat (first | apply Kd.S_alloc | apply Kd.S_drewN | apply Kd.S_drew)); exact Kd.S_mono (Kd.S_far (p := ⟨gb193, 3, none⟩) (Kd.S_far (p := ⟨gb193, 2, none⟩) (Kd.S_far (p := ⟨gb193, 1, none⟩) (Kd.S_far (p := ⟨gb193, 0, none⟩) (Kd.S_types HO_197001.out BK193.out (by decide)) (fun _ hk => hk.2) (.int .i64 x197000_69)) (fun _ hk => hk.2) (.slice Ao138 x197001_69.length co138)) (fun _ hk => hk.2) (.slice Ao135 x197002_69.length co135)) (fun _ hk => hk.2) (.int .i64 x197003_69)) (fun _ hk => hk.1), by (with_reducible repeat (first | apply Kd.R_alloc | apply Kd.R_drewN | apply Kd.R_drew)); exact Kd.R_mono (Kd.R_far (p := ⟨gb193, 3, none⟩) (Kd.R_far (p := ⟨gb193, 2, none⟩) (Kd.R_far (p := ⟨gb193, 1, none⟩) (Kd.R_far (p := ⟨gb193, 0, none⟩) (Kd.R_types HO_197002.out BK193.out (by decide)) (fun _ hk => hk.2) (.int .i64 x197000_69)) (fun _ hk => hk.2) (.slice Ao138 x197001_69.length co138)) (fun _ hk => hk.2) (.slice Ao135 x197002_69.length co135)) (fun _ hk => hk.2) (.int .i64 x197003_69)) (fun _ hk => trivial), by repeat (first | (with_reducible first | exact HI0.out | apply IsS67.alloc | apply IsS67.drewN | apply IsS67.drew | apply IsS67.set_1 | refine IsS67.far ?_ NB0_193.out _ | refine IsS67.far ?_ NB0_196.out _) | exact HI0.out), by repeat (first | (with_reducible first | exact HB.out | apply below_alloc | apply pw_below_drewN | apply below_drew1 | refine below_set ?_ (IsS67.ge HI0.out) | refine below_set ?_ GE193.out | refine below_set ?_ GE196.out) | exact HB.out), by repeat (first | (with_reducible first | exact HK.out | apply KeepBut.set_ | apply keep_drewN | apply keep_drew | apply keep_alloc | refine keep_far ?_ GW193.out _ | refine keep_far ?_ GW196.out _) | exact HK.out)⟩
         ·replace c84 := Bool.eq_false_iff.mpr c84
          subst c84
          have H1 : (some (x197000_69, x197001_69, x197002_69, x197003_69, t247)) = some (r1, r2, r3, r4, r5) := by rw [if_neg (show ¬ (false = true) by decide)] at H; exact H
          clear H
          have H := H1
          clear H1
          simp only [Option.some.injEq, Prod.mk.injEq] at H
          obtain ⟨rfl, rfl, rfl, rfl, rfl⟩ := H
          go_wp2_with (first | ((with_reducible refine gate_callee (f := 72) rfl ?_); refine goesL_ (some 82) rfl rfl Try.func72 kr rfl #[.pointer (some ⟨g, 0, none⟩), .int .i64 a1] rfl lm ?_; (with_reducible refine (spec_l20Rd_odd.calls kj69 g s0_0 t237 a1 false t247 w0 _ ?side1 ?side2 A83.out).mono ?_); (case side1 => repeat (first | (with_reducible first | exact HI0.out | apply IsS67.alloc | apply IsS67.drewN | apply IsS67.drew | apply IsS67.set_1 | refine IsS67.far ?_ NB0_193.out _ | refine IsS67.far ?_ NB0_196.out _) | exact HI0.out)); (case side2 => repeat (first | (with_reducible first | exact HB.out | apply below_alloc | apply pw_below_drewN | apply below_drew1 | refine below_set ?_ (IsS67.ge HI0.out) | refine below_set ?_ GE193.out | refine below_set ?_ GE196.out) | exact HB.out)); rintro e w139 ⟨rfl, hi, hb, hk⟩; refine ⟨_, rfl, ?_⟩; have n0_ := Aside0.mk (Kd.S_mono (Kd.S_keep (IsS67.apartS (show IsS67 w0 _ g s0_0 t237 from by repeat (first | (with_reducible first | exact HI0.out | apply IsS67.alloc | apply IsS67.drewN | apply IsS67.drew | apply IsS67.set_1 | refine IsS67.far ?_ NB0_193.out _ | refine IsS67.far ?_ NB0_196.out _) | exact HI0.out)) (sz HO_197001) (by decide)) hk (fun _ h => h.2)) (fun _ h => h.1)); have n1_ := Aside0.mk (Kd.R_mono (Kd.R_keep (IsS67.apart (show IsS67 w0 _ g s0_0 t237 from by repeat (first | (with_reducible first | exact HI0.out | apply IsS67.alloc | apply IsS67.drewN | apply IsS67.drew | apply IsS67.set_1 | refine IsS67.far ?_ NB0_193.out _ | refine IsS67.far ?_ NB0_196.out _) | exact HI0.out)) (rz HO_197002) (by decide)) hk (fun _ h => h.2)) (fun _ h => h.1)); have n2_ := Aside0.mk (KeepBut.blk hk (bz BK193) NB193_0.out (by simp)); have n3_ := Aside0.mk (KeepBut.blk hk (bz BK196) NB196_0.out (by simp)); have n4_ := Aside0.mk (KeepBut.trans (by repeat (first | (with_reducible first | exact HK.out | apply KeepBut.set_ | apply keep_drewN | apply keep_drew | apply keep_alloc | refine keep_far ?_ GW193.out _ | refine keep_far ?_ GW196.out _) | exact HK.out)) hk (.inl rfl)); have n5_ := Aside0.mk (hb); have n6_ := Aside0.mk (hi); clear HO_197001 HO_197002 BK193 BK196 HK HB HI0; have HO_197001 := n0_; have HO_197002 := n1_; have BK193 := n2_; have BK196 := n3_; have HK := n4_; have HB := n5_; have HI0 := n6_; clear n0_ n1_ n2_ n3_ n4_ n5_ n6_; (try clear hb); (try clear hb2); (try clear hk); (try clear hi); have hnb140 := NB196_193.out; have hnc140 := NB193_196.out; have hnb141 := NB196_0.out; have hnc141 := NB0_196.out; have hcz142_0 := cz0 BK196; have hcz142_1 := cz1 BK196; have hcz142_2 := cz2 BK196; have hcz142_3 := cz3 BK196; have hfz142_0 := blk_frozen BK196.out 0; have hfz142_1 := blk_frozen BK196.out 1; have hfz142_2 := blk_frozen BK196.out 2; have hfz142_3 := blk_frozen BK196.out 3; have hnb143 := NB193_0.out; have hnc143 := NB0_193.out; have hcz144_0 := cz0 BK193; have hcz144_1 := cz1 BK193; have hcz144_2 := cz2 BK193; have hcz144_3 := cz3 BK193; have hfz144_0 := blk_frozen BK193.out 0; have hfz144_1 := blk_frozen BK193.out 1; have hfz144_2 := blk_frozen BK193.out 2; have hfz144_3 := blk_frozen BK193.out 3; obtain ⟨Ao145, co145, eo145⟩ := Kd.S_slice HO_197001.out; subst eo145; obtain ⟨Ao146, co146, eo146⟩ := Kd.R_slice HO_197002.out; subst eo146))
          refine bodyPost_ret (results_cell_row rfl _ _ gb193 28 #[.int .i64 x197000_69, .slice Ao145 x197001_69.length co145, .slice Ao146 x197002_69.length co146, .int .i64 x197003_69] (0, 0) _ rfl (bp BK193) Try.underlying28 rfl kr) rfl ?_
          exact ⟨_, _, by first | rfl | (simp [errW_none, errW_some] <;> rfl) | (simp only [← hji4, ← hji6]; first | rfl | (simp [errW_none, errW_some] <;> rfl)) | (simp [*, errW_none, errW_some] <;> rfl), by (with_reducible repeat (first | apply Kd.S_alloc | apply Kd.S_drewN | apply Kd.S_drew)); exact Kd.S_mono (Kd.S_far (p := ⟨gb193, 3, none⟩) (Kd.S_far (p := ⟨gb193, 2, none⟩) (Kd.S_far (p := ⟨gb193, 1, none⟩) (Kd.S_far (p := ⟨gb193, 0, none⟩) (Kd.S_types HO_197001.out BK193.out (by decide)) (fun _ hk => hk.2) (.int .i64 x197000_69)) (fun _ hk => hk.2) (.slice Ao145 x197001_69.length co145)) (fun _ hk => hk.2) (.slice Ao146 x197002_69.length co146)) (fun _ hk => hk.2) (.int .i64 x197003_69)) (fun _ hk => hk.1), by (with_reducible repeat (first | apply Kd.R_alloc | apply Kd.R_drewN | apply Kd.R_drew)); exact Kd.R_mono (Kd.R_far (p := ⟨gb193, 3, none⟩) (Kd.R_far (p := ⟨gb193, 2, none⟩) (Kd.R_far (p := ⟨gb193, 1, none⟩) (Kd.R_far (p := ⟨gb193, 0, none⟩) (Kd.R_types HO_197002.out BK193.out (by decide)) (fun _ hk => hk.2) (.int .i64 x197000_69)) (fun _ hk => hk.2) (.slice Ao145 x197001_69.length co145)) (fun _ hk => hk.2) (.slice Ao146 x197002_69.length co146)) (fun _ hk => hk.2) (.int .i64 x197003_69)) (fun _ hk => trivial), by repeat (first | (with_reducible first | exact HI0.out | apply IsS67.alloc | apply IsS67.drewN | apply IsS67.drew | apply IsS67.set_1 | refine IsS67.far ?_ NB0_193.out _ | refine IsS67.far ?_ NB0_196.out _) | exact HI0.out), by repeat (first | (with_reducible first | exact HB.out | apply below_alloc | apply pw_below_drewN | apply below_drew1 | refine below_set ?_ (IsS67.ge HI0.out) | refine below_set ?_ GE193.out | refine below_set ?_ GE196.out) | exact HB.out), by repeat (first | (with_reducible first | exact HK.out | apply KeepBut.set_ | apply keep_drewN | apply keep_drew | apply keep_alloc | refine keep_far ?_ GW193.out _ | refine keep_far ?_ GW196.out _) | exact HK.out)⟩
 ·rw [if_neg c5] at H
  exact absurd H (by simp)

end Go.Proofs.Ytlpjkeejflogjaa.QFnAfterDeaths
