-- Printed for this claim by a turned copy of the print (wip/myprint). Lean checks it. Squeezed. Worded. Tightened.
import Derived.Test.YtlpjkeejflogjaaQFnExactAfterDeathsx0
import Derived.Test.YtlpjkeejflogjaaQFnExactAfterDeathsx2
namespace Go.Proofs.Ytlpjkeejflogjaa.QFnExactAfterDeaths
open Go.RowKit Go.Proofs.YtlpjkeejflogjaaW.PrintWords Go.Proofs.YtlpjkeejflogjaaW.PrintLast Go.Proofs.YtlpjkeejflogjaaW.PrintMore
attribute [local go_sem] max2_int min2_int max_two min_two max_three min_three max_four min_four Opens.cell_twice   -- for this text's walks alone
set_option linter.unusedVariables false
set_option linter.unusedSimpArgs false

/-! ### impl_isCourt: function 54 -/
mutual
def impl_isCourt.j0 : Nat → Bool → Int → List (List Int) → List Int → Int → Option (Bool)
 | 0, _, _, _, _, _ => none
 | k + 1, x29, x143000, x143001, x143002, x143003 => if x29 = true then (some false) else (impl_isCourt.l0 k x143001 (x143001.length : Int) 0 x143000 x143001 x143002 x143003)
def impl_isCourt.l0 : Nat → List (List Int) → Int → Int → Int → List (List Int) → List Int → Int → Option (Bool)
 | 0, _, _, _, _, _, _, _ => none
 | k + 1, x31, x32, x33, x143000, x143001, x143002, x143003 => if x33 < x32 then (if 0 ≤ x33 then (if x33 < (x31.length : Int) then (impl_isCourt.l1 k (rd_L1 x31 x33) x31 x32 x33 (rd_L1 x31 x33) ((rd_L1 x31 x33).length : Int) 0 x143000 x143001 x143002 x143003) else (none)) else (none)) else (impl_isCourt.l2 k x143002 (x143002.length : Int) 0 x143000 x143001 x143002 x143003)
def impl_isCourt.l1 : Nat → List Int → List (List Int) → Int → Int → List Int → Int → Int → Int → List (List Int) → List Int → Int → Option (Bool)
 | 0, _, _, _, _, _, _, _, _, _, _, _ => none
 | k + 1, x4, x31, x32, x33, x37, x38, x39, x143000, x143001, x143002, x143003 => if x39 < x38 then (if 0 ≤ x39 then (if x39 < (x37.length : Int) then (if (rd x37 x39) < 0 then (some false) else (if (rd x37 x39) ≥ x143000 then (some false) else (if x39 ≤ (x4.length : Int) then ((slices_Contains_int_int.f k (x4.take (x39 : Int).toNat) (rd x37 x39)).bind fun t147 => (if t147 = true then (some false) else (impl_isCourt.l1 k x4 x31 x32 x33 x37 x38 (wrap64 (x39 + 1)) x143000 x143001 x143002 x143003))) else (none)))) else (none)) else (none)) else (impl_isCourt.l0 k x31 x32 (wrap64 (x33 + 1)) x143000 x143001 x143002 x143003)
def impl_isCourt.l2 : Nat → List Int → Int → Int → Int → List (List Int) → List Int → Int → Option (Bool)
 | 0, _, _, _, _, _, _, _ => none
 | k + 1, x62, x63, x64, x143000, x143001, x143002, x143003 => if x64 < x63 then (if 0 ≤ x64 then (if x64 < (x62.length : Int) then (if (rd x62 x64) = (-1) then (impl_isCourt.l2 k x62 x63 (wrap64 (x64 + 1)) x143000 x143001 x143002 x143003) else ((impl_lives.f x143000 x143001 x143002 x143003 (rd x62 x64)).bind fun t149 => (if t149 = true then (if x64 ≤ (x143002.length : Int) then ((slices_Contains_int_int.f k (x143002.take (x64 : Int).toNat) (rd x62 x64)).bind fun t151 => (if t151 = true then (some false) else (impl_isCourt.l2 k x62 x63 (wrap64 (x64 + 1)) x143000 x143001 x143002 x143003))) else (none)) else (some false)))) else (none)) else (none)) else (some true)
end
def impl_isCourt.f (k : Nat) (a0_0 : Int) (l0_1 : List (List Int)) (l0_2 : List Int) (a0_3 : Int) : Option (Bool) := (impl_isCrowd.f a0_0 a0_3).bind fun t143 => (if t143 = true then (if (l0_1.length : Int) > 3 then (impl_isCourt.j0 k true a0_0 l0_1 l0_2 a0_3) else (impl_isCourt.j0 k ((l0_2.length : Int) != (l0_1.length : Int)) a0_0 l0_1 l0_2 a0_3)) else (impl_isCourt.j0 k true a0_0 l0_1 l0_2 a0_3))
theorem impl_isCourt.mono_l : ∀ k, (∀ y0 y1 y2 y3 y4, LeO (impl_isCourt.j0 k y0 y1 y2 y3 y4) (impl_isCourt.j0 (k + 1) y0 y1 y2 y3 y4)) ∧ (∀ y0 y1 y2 y3 y4 y5 y6, LeO (impl_isCourt.l0 k y0 y1 y2 y3 y4 y5 y6) (impl_isCourt.l0 (k + 1) y0 y1 y2 y3 y4 y5 y6)) ∧ (∀ y0 y1 y2 y3 y4 y5 y6 y7 y8 y9 y10, LeO (impl_isCourt.l1 k y0 y1 y2 y3 y4 y5 y6 y7 y8 y9 y10) (impl_isCourt.l1 (k + 1) y0 y1 y2 y3 y4 y5 y6 y7 y8 y9 y10)) ∧ (∀ y0 y1 y2 y3 y4 y5 y6, LeO (impl_isCourt.l2 k y0 y1 y2 y3 y4 y5 y6) (impl_isCourt.l2 (k + 1) y0 y1 y2 y3 y4 y5 y6))
 | 0 => ⟨fun _ _ _ _ _ r h => by simp [impl_isCourt.j0] at h, fun _ _ _ _ _ _ _ r h => by simp [impl_isCourt.l0] at h, fun _ _ _ _ _ _ _ _ _ _ _ r h => by simp [impl_isCourt.l1] at h, fun _ _ _ _ _ _ _ r h => by simp [impl_isCourt.l2] at h⟩
 | k + 1 => by
  obtain ⟨ih0, ih1, ih2, ih3⟩ := impl_isCourt.mono_l k
  refine ⟨?_, ?_, ?_, ?_⟩
  ·intro y0 y1 y2 y3 y4
   unfold impl_isCourt.j0
   repeat' first
   | (with_reducible exact ih0 _ _ _ _ _)
   | (with_reducible exact ih1 _ _ _ _ _ _ _)
   | (with_reducible exact ih2 _ _ _ _ _ _ _ _ _ _ _)
   | (with_reducible exact ih3 _ _ _ _ _ _ _)
   | (with_reducible exact slices_Contains_int_int.mono _ _ _)
   | (with_reducible exact LeO.refl _)
   | (with_reducible exact LeO.none _)
   | (with_reducible refine LeO.ite ?_ ?_)
   | (with_reducible refine LeO.bind ?_ (fun _ => ?_))
   | exact ih0 _ _ _ _ _
   | exact ih1 _ _ _ _ _ _ _
   | exact ih2 _ _ _ _ _ _ _ _ _ _ _
   | exact ih3 _ _ _ _ _ _ _
   | exact slices_Contains_int_int.mono _ _ _
   | exact LeO.none _
   | refine LeO.ite ?_ ?_
   | refine LeO.bind ?_ (fun _ => ?_)
  ·intro y0 y1 y2 y3 y4 y5 y6
   unfold impl_isCourt.l0
   repeat' first
   | (with_reducible exact ih0 _ _ _ _ _)
   | (with_reducible exact ih1 _ _ _ _ _ _ _)
   | (with_reducible exact ih2 _ _ _ _ _ _ _ _ _ _ _)
   | (with_reducible exact ih3 _ _ _ _ _ _ _)
   | (with_reducible exact slices_Contains_int_int.mono _ _ _)
   | (with_reducible exact LeO.refl _)
   | (with_reducible exact LeO.none _)
   | (with_reducible refine LeO.ite ?_ ?_)
   | (with_reducible refine LeO.bind ?_ (fun _ => ?_))
   | exact ih0 _ _ _ _ _
   | exact ih1 _ _ _ _ _ _ _
   | exact ih2 _ _ _ _ _ _ _ _ _ _ _
   | exact ih3 _ _ _ _ _ _ _
   | exact slices_Contains_int_int.mono _ _ _
   | exact LeO.none _
   | refine LeO.ite ?_ ?_
   | refine LeO.bind ?_ (fun _ => ?_)
  ·intro y0 y1 y2 y3 y4 y5 y6 y7 y8 y9 y10
   unfold impl_isCourt.l1
   repeat' first
   | (with_reducible exact ih0 _ _ _ _ _)
   | (with_reducible exact ih1 _ _ _ _ _ _ _)
   | (with_reducible exact ih2 _ _ _ _ _ _ _ _ _ _ _)
   | (with_reducible exact ih3 _ _ _ _ _ _ _)
   | (with_reducible exact slices_Contains_int_int.mono _ _ _)
   | (with_reducible exact LeO.refl _)
   | (with_reducible exact LeO.none _)
   | (with_reducible refine LeO.ite ?_ ?_)
   | (with_reducible refine LeO.bind ?_ (fun _ => ?_))
   | exact ih0 _ _ _ _ _
   | exact ih1 _ _ _ _ _ _ _
   | exact ih2 _ _ _ _ _ _ _ _ _ _ _
   | exact ih3 _ _ _ _ _ _ _
   | exact slices_Contains_int_int.mono _ _ _
   | exact LeO.none _
   | refine LeO.ite ?_ ?_
   | refine LeO.bind ?_ (fun _ => ?_)
  ·intro y0 y1 y2 y3 y4 y5 y6
   unfold impl_isCourt.l2
   repeat' first
   | (with_reducible exact ih0 _ _ _ _ _)
   | (with_reducible exact ih1 _ _ _ _ _ _ _)
   | (with_reducible exact ih2 _ _ _ _ _ _ _ _ _ _ _)
   | (with_reducible exact ih3 _ _ _ _ _ _ _)
   | (with_reducible exact slices_Contains_int_int.mono _ _ _)
   | (with_reducible exact LeO.refl _)
   | (with_reducible exact LeO.none _)
   | (with_reducible refine LeO.ite ?_ ?_)
   | (with_reducible refine LeO.bind ?_ (fun _ => ?_))
   | exact ih0 _ _ _ _ _
   | exact ih1 _ _ _ _ _ _ _
   | exact ih2 _ _ _ _ _ _ _ _ _ _ _
   | exact ih3 _ _ _ _ _ _ _
   | exact slices_Contains_int_int.mono _ _ _
   | exact LeO.none _
   | refine LeO.ite ?_ ?_
   | refine LeO.bind ?_ (fun _ => ?_)
theorem impl_isCourt.mono : ∀ a0 a1 a2 a3 k, LeO (impl_isCourt.f k a0 a1 a2 a3) (impl_isCourt.f (k + 1) a0 a1 a2 a3) := by
 intro a0 a1 a2 a3 k
 obtain ⟨ih0, ih1, ih2, ih3⟩ := impl_isCourt.mono_l k
 unfold impl_isCourt.f
 repeat' first
   | (with_reducible exact ih0 _ _ _ _ _)
   | (with_reducible exact ih1 _ _ _ _ _ _ _)
   | (with_reducible exact ih2 _ _ _ _ _ _ _ _ _ _ _)
   | (with_reducible exact ih3 _ _ _ _ _ _ _)
   | (with_reducible exact slices_Contains_int_int.mono _ _ _)
   | (with_reducible exact LeO.refl _)
   | (with_reducible exact LeO.none _)
   | (with_reducible refine LeO.ite ?_ ?_)
   | (with_reducible refine LeO.bind ?_ (fun _ => ?_))
   | exact ih0 _ _ _ _ _
   | exact ih1 _ _ _ _ _ _ _
   | exact ih2 _ _ _ _ _ _ _ _ _ _ _
   | exact ih3 _ _ _ _ _ _ _
   | exact slices_Contains_int_int.mono _ _ _
   | exact LeO.none _
   | refine LeO.ite ?_ ?_
   | refine LeO.bind ?_ (fun _ => ?_)
set_option maxHeartbeats 8000000 in
set_option maxRecDepth 100000 in
theorem impl_isCourt.calls (k : Nat) (a0_0 : Int) (A0_1 : Option Addr) (c0_1 : Nat) (l0_1 : List (List Int)) (A0_2 : Option Addr) (c0_2 : Nat) (l0_2 : List Int) (a0_3 : Int) (r : Bool) (w : World) (hr0_1 : Kd.C (Kd.slice 3 (Kd.int .i64)) w A0_1 l0_1.length l0_1) (hc0_1 : l0_1.length ≤ c0_1) (hr0_2 : Kd.C (Kd.int .i64) w A0_2 l0_2.length l0_2) (hc0_2 : l0_2.length ≤ c0_2) (h : impl_isCourt.f k a0_0 l0_1 l0_2 a0_3 = some r) :
  Calls Try.prog 54 #[.agg #[.int .i64 a0_0, .slice A0_1 l0_1.length c0_1, .slice A0_2 l0_2.length c0_2, .int .i64 a0_3]] w fun e w' => e = .returned (.bool r) ∧ Below w.heap.size w w' := by
 have hu28 := Try.underlying28
 have HR0_1 := Aside0.mk hr0_1
 have HC0_1 := Aside0.mk hc0_1
 clear hr0_1 hc0_1
 have HR0_2 := Aside0.mk hr0_2
 have HC0_2 := Aside0.mk hc0_2
 clear hr0_2 hc0_2
 have HB := Aside0.mk (Below.refl w.heap.size w)
 have H : ((impl_isCrowd.f a0_0 a0_3).bind fun t143 => (if t143 = true then (if (l0_1.length : Int) > 3 then (impl_isCourt.j0 k true a0_0 l0_1 l0_2 a0_3) else (impl_isCourt.j0 k ((l0_2.length : Int) != (l0_1.length : Int)) a0_0 l0_1 l0_2 a0_3)) else (impl_isCourt.j0 k true a0_0 l0_1 l0_2 a0_3))) = some r := h
 clear h
 have HC2 := Aside0.mk H
 clear H
 go_enter Try.func54, Try.ntmps54
 go_upto_region 1 with (first | ((with_reducible refine gate_dst (N := 1) rfl ?_); (try (refine gate_guard (by rfl) ?_; dsimp only)); refine box_event ?hg (N := 1) ?hd (cs := #[.int .i64 a0_0, .slice A0_1 l0_1.length c0_1, .slice A0_2 l0_2.length c0_2, .int .i64 a0_3]) (t := 28) ?hr ?_; (case hd => rfl); (case hg => rfl); (case hr => first | (go_simp; done) | (go_simp; rfl)); intro gb142 hg w3 hbox hb; have n0_ := Aside0.mk (below_step bh hb); have n1_ := Aside0.mk (hbox); have n2_ := Aside0.mk ((gs (W0 := w) hg bh)); have n3_ := Aside0.mk ((gs (W0 := w) hg bh)); clear HB; have HB := n0_; have BK142 := n1_; have GW142 := n2_; have GE142 := n3_; clear n0_ n1_ n2_ n3_ hb hbox hg))
 (try simp only [Act.put, List.setIfInBounds_toArray, List.set_cons_zero, List.set_cons_succ])
 go_cut [29] (fun v29 wc => ∃ (kq : Nat) (x29_1 : Bool), v29 = .bool x29_1 ∧ Aside0 (impl_isCourt.j0 kq x29_1 a0_0 l0_1 l0_2 a0_3 = some r) ∧ Aside0 (kq ≤ k) ∧ Aside0 (wc.heap[gb142]? = some (.cells #[.int .i64 a0_0, (.slice A0_1 l0_1.length c0_1), (.slice A0_2 l0_2.length c0_2), .int .i64 a0_3] 28 (0, 0))) ∧ Aside0 (Below w.heap.size w wc))
 case first =>
  have H := HC2.out
  clear HC2
  replace H := Option.bind_eq_some_iff.mp H
  obtain ⟨t143, A40, H⟩ := H
  replace H : (if t143 = true then (if (l0_1.length : Int) > 3 then (impl_isCourt.j0 k true a0_0 l0_1 l0_2 a0_3) else (impl_isCourt.j0 k ((l0_2.length : Int) != (l0_1.length : Int)) a0_0 l0_1 l0_2 a0_3)) else (impl_isCourt.j0 k true a0_0 l0_1 l0_2 a0_3)) = some r := H
  have A4 := Aside0.mk A40
  clear A40
  by_cases c5 : t143 = true
  ·subst c5
   have H1 : (if (l0_1.length : Int) > 3 then (impl_isCourt.j0 k true a0_0 l0_1 l0_2 a0_3) else (impl_isCourt.j0 k ((l0_2.length : Int) != (l0_1.length : Int)) a0_0 l0_1 l0_2 a0_3)) = some r := by rw [if_pos rfl] at H; exact H
   clear H
   have H := H1
   clear H1
   by_cases c6 : (l0_1.length : Int) > 3
   ·rw [if_pos c6] at H
    have c6b0 : decide (3 < (l0_1.length : Int)) = true := decide_eq_true c6
    have c6b1 : decide (3 < l0_1.length) = true := decide_eq_true (by omega)
    clear c6
    (first | rw [c6b0] | (simp only [i64_w, i32_w]; rw [c6b0]) | skip)
    have H' := Aside0.mk H
    clear H
    have hcz7_0 := cz0 BK142
    have hcz7_1 := cz1 BK142
    have hcz7_2 := cz2 BK142
    have hcz7_3 := cz3 BK142
    have hfz7_0 := blk_frozen BK142.out 0
    have hfz7_1 := blk_frozen BK142.out 1
    have hfz7_2 := blk_frozen BK142.out 2
    have hfz7_3 := blk_frozen BK142.out 3
    go_wp2_with (first | ((with_reducible refine gate_callee (f := 68) rfl ?_); refine goesL_ (some 13) rfl rfl Try.func68 kr rfl #[.int .i64 a0_0, .int .i64 a0_3] rfl lm ?_; (with_reducible refine (impl_isCrowd.calls a0_0 a0_3 true _ A4.out).mono ?_); rintro e w' ⟨rfl, ⟨nd, rfl⟩⟩; refine ⟨_, rfl, ?_⟩))
    go_meet
    case rel => exact ⟨_, (true), (by first | rfl | (simp; done) | (simp [*]; done)), H', ⟨by first | omega | exact Nat.le_refl _⟩, ⟨bz BK142⟩, ⟨by exact bh⟩⟩
   ·rw [if_neg c6] at H
    have c6b0 : decide (3 < (l0_1.length : Int)) = false := decide_eq_false c6
    have c6b1 : decide (3 < l0_1.length) = false := decide_eq_false (by omega)
    clear c6
    (first | rw [c6b0] | (simp only [i64_w, i32_w]; rw [c6b0]) | skip)
    have H' := Aside0.mk H
    clear H
    have hcz8_0 := cz0 BK142
    have hcz8_1 := cz1 BK142
    have hcz8_2 := cz2 BK142
    have hcz8_3 := cz3 BK142
    have hfz8_0 := blk_frozen BK142.out 0
    have hfz8_1 := blk_frozen BK142.out 1
    have hfz8_2 := blk_frozen BK142.out 2
    have hfz8_3 := blk_frozen BK142.out 3
    go_wp2_with (first | ((with_reducible refine gate_callee (f := 68) rfl ?_); refine goesL_ (some 13) rfl rfl Try.func68 kr rfl #[.int .i64 a0_0, .int .i64 a0_3] rfl lm ?_; (with_reducible refine (impl_isCrowd.calls a0_0 a0_3 true _ A4.out).mono ?_); rintro e w' ⟨rfl, ⟨nd, rfl⟩⟩; refine ⟨_, rfl, ?_⟩))
    go_meet
    case rel => exact ⟨_, (((l0_2.length : Int) != (l0_1.length : Int))), (by first | rfl | (simp; done) | (simp [*]; done)), H', ⟨by first | omega | exact Nat.le_refl _⟩, ⟨bz BK142⟩, ⟨by exact bh⟩⟩
  ·replace c5 := Bool.eq_false_iff.mpr c5
   subst c5
   have H1 : (impl_isCourt.j0 k true a0_0 l0_1 l0_2 a0_3) = some r := by rw [if_neg (show ¬ (false = true) by decide)] at H; exact H
   clear H
   have H := H1
   clear H1
   have H' := Aside0.mk H
   clear H
   have hcz9_0 := cz0 BK142
   have hcz9_1 := cz1 BK142
   have hcz9_2 := cz2 BK142
   have hcz9_3 := cz3 BK142
   have hfz9_0 := blk_frozen BK142.out 0
   have hfz9_1 := blk_frozen BK142.out 1
   have hfz9_2 := blk_frozen BK142.out 2
   have hfz9_3 := blk_frozen BK142.out 3
   go_wp2_with (first | ((with_reducible refine gate_callee (f := 68) rfl ?_); refine goesL_ (some 13) rfl rfl Try.func68 kr rfl #[.int .i64 a0_0, .int .i64 a0_3] rfl lm ?_; (with_reducible refine (impl_isCrowd.calls a0_0 a0_3 false _ A4.out).mono ?_); rintro e w' ⟨rfl, ⟨nd, rfl⟩⟩; refine ⟨_, rfl, ?_⟩))
   go_meet
   case rel => exact ⟨_, (true), (by first | rfl | (simp; done) | (simp [*]; done)), H', ⟨by first | omega | exact Nat.le_refl _⟩, ⟨bz BK142⟩, ⟨by exact bh⟩⟩
 case rest =>
  clear HC2
  try clear p2
  try clear c5
  try clear c6
  try clear c6b0
  try clear c6b1
  try clear hcz7_0
  try clear hcz7_1
  try clear hcz7_2
  try clear hcz7_3
  try clear hcz8_0
  try clear hcz8_1
  try clear hcz8_2
  try clear hcz8_3
  try clear hcz9_0
  try clear hcz9_1
  try clear hcz9_2
  try clear hcz9_3
  try clear hfz7_0
  try clear hfz7_1
  try clear hfz7_2
  try clear hfz7_3
  try clear hfz8_0
  try clear hfz8_1
  try clear hfz8_2
  try clear hfz8_3
  try clear hfz9_0
  try clear hfz9_1
  try clear hfz9_2
  try clear hfz9_3
  obtain ⟨kq, x29_1, rfl, HA, HJ1, BK142, HB⟩ := hcut
  cases kq with
  | zero => exact absurd HA.out (by simp [impl_isCourt.j0])
  | succ kj1 =>
   have H := HA.out
   clear HA
   simp only [impl_isCourt.j0] at H
   by_cases c10 : x29_1 = true
   ·subst c10
    have H1 : (some false) = some r := by rw [if_pos rfl] at H; exact H
    clear H
    have H := H1
    clear H1
    obtain rfl := Option.some.inj H
    go_wp2
    go_ret
    exact ⟨by first | rfl | (simp [errW_none, errW_some] <;> rfl) | (simp [*, errW_none, errW_some] <;> rfl), by exact bh⟩
   ·replace c10 := Bool.eq_false_iff.mpr c10
    subst c10
    have H1 : (impl_isCourt.l0 kj1 l0_1 (l0_1.length : Int) 0 a0_0 l0_1 l0_2 a0_3) = some r := by rw [if_neg (show ¬ (false = true) by decide)] at H; exact H
    clear H
    have H := H1
    clear H1
    have H' := Aside0.mk H
    clear H
    have hcz11_0 := cz0 BK142
    have hcz11_1 := cz1 BK142
    have hcz11_2 := cz2 BK142
    have hcz11_3 := cz3 BK142
    have hfz11_0 := blk_frozen BK142.out 0
    have hfz11_1 := blk_frozen BK142.out 1
    have hfz11_2 := blk_frozen BK142.out 2
    have hfz11_3 := blk_frozen BK142.out 3
    go_wp2
    go_loopg [33] kj1 (fun kq v33 w' => ∃ (x33_2 : Int), v33 = .int .i64 x33_2 ∧ Aside0 (impl_isCourt.l0 kq l0_1 (l0_1.length : Int) x33_2 a0_0 l0_1 l0_2 a0_3 = some r) ∧ Aside0 (kq ≤ kj1) ∧ Aside0 (w'.heap[gb142]? = some (.cells #[.int .i64 a0_0, (.slice A0_1 l0_1.length c0_1), (.slice A0_2 l0_2.length c0_2), .int .i64 a0_3] 28 (0, 0))) ∧ Aside0 (Below w.heap.size w w'))
    case atStart => exact ⟨(0), (by first | rfl | (simp; done) | (simp [*]; done)), H', ⟨Nat.le_refl _⟩, ⟨bz BK142⟩, ⟨by exact bh⟩⟩
    case round =>
     clear H'
     try clear c1
     try clear p2
     try clear c5
     try clear c6
     try clear c6b0
     try clear c6b1
     try clear c10
     try clear hcz11_0
     try clear hcz11_1
     try clear hcz11_2
     try clear hcz11_3
     try clear hcz7_0
     try clear hcz7_1
     try clear hcz7_2
     try clear hcz7_3
     try clear hcz8_0
     try clear hcz8_1
     try clear hcz8_2
     try clear hcz8_3
     try clear hcz9_0
     try clear hcz9_1
     try clear hcz9_2
     try clear hcz9_3
     try clear hfz11_0
     try clear hfz11_1
     try clear hfz11_2
     try clear hfz11_3
     try clear hfz7_0
     try clear hfz7_1
     try clear hfz7_2
     try clear hfz7_3
     try clear hfz8_0
     try clear hfz8_1
     try clear hfz8_2
     try clear hfz8_3
     try clear hfz9_0
     try clear hfz9_1
     try clear hfz9_2
     try clear hfz9_3
     try clear p2
     obtain ⟨x33_2, rfl, HA, HK2, BK142, HB⟩ := hrel
     cases gk with
     | zero => exact absurd HA.out (by simp [impl_isCourt.l0])
     | succ k2 =>
      have H := HA.out
      clear HA
      simp only [impl_isCourt.l0] at H
      by_cases c12 : x33_2 < (l0_1.length : Int)
      ·rw [if_pos c12] at H
       have c12b0 : decide (x33_2 < (l0_1.length : Int)) = true := decide_eq_true c12
       clear c12
       by_cases c13 : 0 ≤ x33_2
       ·rw [if_pos c13] at H
        have c13b0 : decide (0 ≤ x33_2) = true := decide_eq_true c13
        clear c13
        by_cases c14 : x33_2 < (l0_1.length : Int)
        ·rw [if_pos c14] at H
         have c14b0 : decide (x33_2 < (l0_1.length : Int)) = true := decide_eq_true c14
         clear c14
         have H' := Aside0.mk H
         clear H
         have p144 : 0 ≤ (x33_2 : Int) := oda
         have q144 : x33_2 < (l0_1.length : Int) := oda
         obtain ⟨ad144, A144_0, c144_0, e144, hx144_0, hl144_0, hi144_0⟩ := at_L1 HR0_1.out x33_2 p144 q144
         cases e144
         replace hx144_0 := (HB.out.cell (World.block_lt_of_cell? w _ hx144_0)).trans hx144_0
         have HR144_0 := Aside0.mk hi144_0
         have HC144_0 := Aside0.mk hl144_0
         clear hi144_0 hl144_0
         replace p144 := eq_true p144
         replace q144 := eq_true q144
         go_wp2
         go_loopg [39] k2 (fun kq v39 w' => ∃ (x39_3 : Int), v39 = .int .i64 x39_3 ∧ Aside0 (impl_isCourt.l1 kq (rd_L1 l0_1 x33_2) l0_1 (l0_1.length : Int) x33_2 (rd_L1 l0_1 x33_2) ((rd_L1 l0_1 x33_2).length : Int) x39_3 a0_0 l0_1 l0_2 a0_3 = some r) ∧ Aside0 (kq ≤ k2) ∧ Aside0 (w'.heap[gb142]? = some (.cells #[.int .i64 a0_0, (.slice (some ad144) l0_1.length c0_1), (.slice A0_2 l0_2.length c0_2), .int .i64 a0_3] 28 (0, 0))) ∧ Aside0 (Below w.heap.size w w'))
         case atStart => exact ⟨(0), (by first | rfl | (simp; done) | (simp [*]; done)), H', ⟨Nat.le_refl _⟩, ⟨bz BK142⟩, ⟨by exact bh⟩⟩
         case round =>
          clear H'
          try clear c1
          try clear p1
          try clear q1
          try clear hx1
          try clear p2
          try clear c5
          try clear c6
          try clear c6b0
          try clear c6b1
          try clear c10
          try clear c12
          try clear c12b0
          try clear c13
          try clear c13b0
          try clear c14
          try clear c14b0
          try clear p14
          try clear q14
          try clear hx14
          try clear hcz11_0
          try clear hcz11_1
          try clear hcz11_2
          try clear hcz11_3
          try clear hcz7_0
          try clear hcz7_1
          try clear hcz7_2
          try clear hcz7_3
          try clear hcz8_0
          try clear hcz8_1
          try clear hcz8_2
          try clear hcz8_3
          try clear hcz9_0
          try clear hcz9_1
          try clear hcz9_2
          try clear hcz9_3
          try clear hfz11_0
          try clear hfz11_1
          try clear hfz11_2
          try clear hfz11_3
          try clear hfz7_0
          try clear hfz7_1
          try clear hfz7_2
          try clear hfz7_3
          try clear hfz8_0
          try clear hfz8_1
          try clear hfz8_2
          try clear hfz8_3
          try clear hfz9_0
          try clear hfz9_1
          try clear hfz9_2
          try clear hfz9_3
          try clear hx144_0
          try clear p144
          try clear p2
          try clear q144
          obtain ⟨x39_3, rfl, HA, HK3, BK142, HB⟩ := hrel
          cases gk with
          | zero => exact absurd HA.out (by simp [impl_isCourt.l1])
          | succ k3 =>
           have H := HA.out
           clear HA
           simp only [impl_isCourt.l1] at H
           by_cases c15 : x39_3 < ((rd_L1 l0_1 x33_2).length : Int)
           ·rw [if_pos c15] at H
            have c15b0 : decide (x39_3 < ((rd_L1 l0_1 x33_2).length : Int)) = true := decide_eq_true c15
            clear c15
            by_cases c16 : 0 ≤ x39_3
            ·rw [if_pos c16] at H
             have c16b0 : decide (0 ≤ x39_3) = true := decide_eq_true c16
             clear c16
             by_cases c17 : x39_3 < ((rd_L1 l0_1 x33_2).length : Int)
             ·rw [if_pos c17] at H
              have c17b0 : decide (x39_3 < ((rd_L1 l0_1 x33_2).length : Int)) = true := decide_eq_true c17
              clear c17
              by_cases c18 : (rd (rd_L1 l0_1 x33_2) x39_3) < 0
              ·rw [if_pos c18] at H
               have c18b0 : decide ((rd (rd_L1 l0_1 x33_2) x39_3) < 0) = true := decide_eq_true c18
               clear c18
               obtain rfl := Option.some.inj H
               have p145 : 0 ≤ (x39_3 : Int) := oda
               have q145 : x39_3 < ((rd_L1 l0_1 x33_2).length : Int) := oda
               obtain ⟨ad145, e145, hx145_0⟩ := Kd.at_int HR144_0.out x39_3 p145 q145
               cases e145
               replace hx145_0 := (HB.out.cell (World.block_lt_of_cell? w _ hx145_0)).trans hx145_0
               replace p145 := eq_true p145
               replace q145 := eq_true q145
               go_wp2
               go_ret
               exact ⟨by first | rfl | (simp [errW_none, errW_some] <;> rfl) | (simp [*, errW_none, errW_some] <;> rfl), by exact bh⟩
              ·rw [if_neg c18] at H
               have c18b0 : decide ((rd (rd_L1 l0_1 x33_2) x39_3) < 0) = false := decide_eq_false c18
               clear c18
               by_cases c19 : (rd (rd_L1 l0_1 x33_2) x39_3) ≥ a0_0
               ·rw [if_pos c19] at H
                have c19b0 : decide (a0_0 ≤ (rd (rd_L1 l0_1 x33_2) x39_3)) = true := decide_eq_true c19
                clear c19
                obtain rfl := Option.some.inj H
                have p145 : 0 ≤ (x39_3 : Int) := oda
                have q145 : x39_3 < ((rd_L1 l0_1 x33_2).length : Int) := oda
                obtain ⟨ad145, e145, hx145_0⟩ := Kd.at_int HR144_0.out x39_3 p145 q145
                cases e145
                replace hx145_0 := (HB.out.cell (World.block_lt_of_cell? w _ hx145_0)).trans hx145_0
                replace p145 := eq_true p145
                replace q145 := eq_true q145
                have hcz20_0 := cz0 BK142
                have hcz20_1 := cz1 BK142
                have hcz20_2 := cz2 BK142
                have hcz20_3 := cz3 BK142
                have hfz20_0 := blk_frozen BK142.out 0
                have hfz20_1 := blk_frozen BK142.out 1
                have hfz20_2 := blk_frozen BK142.out 2
                have hfz20_3 := blk_frozen BK142.out 3
                go_wp2
                go_ret
                exact ⟨by first | rfl | (simp [errW_none, errW_some] <;> rfl) | (simp [*, errW_none, errW_some] <;> rfl), by exact bh⟩
               ·rw [if_neg c19] at H
                have c19b0 : decide (a0_0 ≤ (rd (rd_L1 l0_1 x33_2) x39_3)) = false := decide_eq_false c19
                clear c19
                have c21b0 := eq_true (oda : 0 ≤ x39_3)
                by_cases c22 : x39_3 ≤ ((rd_L1 l0_1 x33_2).length : Int)
                ·rw [if_pos c22] at H
                 have c22b0 := eq_true c22
                 have c22b1 : decide (x39_3 ≤ ((rd_L1 l0_1 x33_2).length : Int)) = true := decide_eq_true c22
                 clear c22
                 replace H := Option.bind_eq_some_iff.mp H
                 obtain ⟨t147, A230, H⟩ := H
                 replace H : (if t147 = true then (some false) else (impl_isCourt.l1 k3 (rd_L1 l0_1 x33_2) l0_1 (l0_1.length : Int) x33_2 (rd_L1 l0_1 x33_2) ((rd_L1 l0_1 x33_2).length : Int) (wrap64 (x39_3 + 1)) a0_0 l0_1 l0_2 a0_3)) = some r := H
                 have A23 := Aside0.mk A230
                 clear A230
                 by_cases c24 : t147 = true
                 ·subst c24
                  have H1 : (some false) = some r := by rw [if_pos rfl] at H; exact H
                  clear H
                  have H := H1
                  clear H1
                  obtain rfl := Option.some.inj H
                  have p145 : 0 ≤ (x39_3 : Int) := oda
                  have q145 : x39_3 < ((rd_L1 l0_1 x33_2).length : Int) := oda
                  obtain ⟨ad145, e145, hx145_0⟩ := Kd.at_int HR144_0.out x39_3 p145 q145
                  cases e145
                  replace hx145_0 := (HB.out.cell (World.block_lt_of_cell? w _ hx145_0)).trans hx145_0
                  replace p145 := eq_true p145
                  replace q145 := eq_true q145
                  have hcz25_0 := cz0 BK142
                  have hcz25_1 := cz1 BK142
                  have hcz25_2 := cz2 BK142
                  have hcz25_3 := cz3 BK142
                  have hfz25_0 := blk_frozen BK142.out 0
                  have hfz25_1 := blk_frozen BK142.out 1
                  have hfz25_2 := blk_frozen BK142.out 2
                  have hfz25_3 := blk_frozen BK142.out 3
                  obtain ⟨i026, hi026, _, hsz26, _⟩ := info_parts info3
                  obtain ⟨hcut26, hA26, hC26⟩ := print_take_of (P := Try.prog) (Value.int .i64) 0 23 3 .i64 Try.underlying23 hi026 hsz26 (some ad145) c144_0 (rd_L1 l0_1 x33_2) x39_3 oda oda HC144_0.out
                  have HR146 := Aside0.mk (Kd.C_of_reads (h1 := fun _ => rfl) (hA26 _ (Kd.reads_of_C HR144_0.out)))
                  have HC146 := Aside0.mk hC26
                  clear hA26 hC26 hi026 hsz26
                  go_wp2_with (first | (go_at_call 71; refine calls_of_args (args' := #[.slice (some ad145) ((rd_L1 l0_1 x33_2).take (x39_3 : Int).toNat).length c144_0, .int .i64 (rd (rd_L1 l0_1 x33_2) x39_3)]) (by first | (rw [show ((rd_L1 l0_1 x33_2).take (x39_3 : Int).toNat).length = x39_3.toNat from (by rw [List.length_take]; have h_ : (x39_3 : Int) ≤ ((rd_L1 l0_1 x33_2).length : Int) := oda; omega)] <;> rfl) | rfl) ?_; (with_reducible refine (slices_Contains_int_int.calls k3 _ _ ((rd_L1 l0_1 x33_2).take (x39_3 : Int).toNat) (rd (rd_L1 l0_1 x33_2) x39_3) true _ ?side1 ?side2 A23.out).mono ?_); (case side1 => repeat (first | exact (Kd.C_below HR146.out HB.out) | (with_reducible refine Kd.C_alloc ?_ _) | (with_reducible refine Kd.C_drewN ?_ _) | (with_reducible refine Kd.C_drew ?_))); (case side2 => exact HC146.out); rintro e w' ⟨rfl, ⟨nd, rfl⟩⟩))
                  go_ret
                  exact ⟨by first | rfl | (simp [errW_none, errW_some] <;> rfl) | (simp [*, errW_none, errW_some] <;> rfl), by exact bh⟩
                 ·replace c24 := Bool.eq_false_iff.mpr c24
                  subst c24
                  have H1 : (impl_isCourt.l1 k3 (rd_L1 l0_1 x33_2) l0_1 (l0_1.length : Int) x33_2 (rd_L1 l0_1 x33_2) ((rd_L1 l0_1 x33_2).length : Int) (wrap64 (x39_3 + 1)) a0_0 l0_1 l0_2 a0_3) = some r := by rw [if_neg (show ¬ (false = true) by decide)] at H; exact H
                  clear H
                  have H := H1
                  clear H1
                  have H' := Aside0.mk H
                  clear H
                  have p145 : 0 ≤ (x39_3 : Int) := oda
                  have q145 : x39_3 < ((rd_L1 l0_1 x33_2).length : Int) := oda
                  obtain ⟨ad145, e145, hx145_0⟩ := Kd.at_int HR144_0.out x39_3 p145 q145
                  cases e145
                  replace hx145_0 := (HB.out.cell (World.block_lt_of_cell? w _ hx145_0)).trans hx145_0
                  replace p145 := eq_true p145
                  replace q145 := eq_true q145
                  have hcz27_0 := cz0 BK142
                  have hcz27_1 := cz1 BK142
                  have hcz27_2 := cz2 BK142
                  have hcz27_3 := cz3 BK142
                  have hfz27_0 := blk_frozen BK142.out 0
                  have hfz27_1 := blk_frozen BK142.out 1
                  have hfz27_2 := blk_frozen BK142.out 2
                  have hfz27_3 := blk_frozen BK142.out 3
                  obtain ⟨i028, hi028, _, hsz28, _⟩ := info_parts info3
                  obtain ⟨hcut28, hA28, hC28⟩ := print_take_of (P := Try.prog) (Value.int .i64) 0 23 3 .i64 Try.underlying23 hi028 hsz28 (some ad145) c144_0 (rd_L1 l0_1 x33_2) x39_3 oda oda HC144_0.out
                  have HR146 := Aside0.mk (Kd.C_of_reads (h1 := fun _ => rfl) (hA28 _ (Kd.reads_of_C HR144_0.out)))
                  have HC146 := Aside0.mk hC28
                  clear hA28 hC28 hi028 hsz28
                  go_wp2_with (first | (go_at_call 71; refine calls_of_args (args' := #[.slice (some ad145) ((rd_L1 l0_1 x33_2).take (x39_3 : Int).toNat).length c144_0, .int .i64 (rd (rd_L1 l0_1 x33_2) x39_3)]) (by first | (rw [show ((rd_L1 l0_1 x33_2).take (x39_3 : Int).toNat).length = x39_3.toNat from (by rw [List.length_take]; have h_ : (x39_3 : Int) ≤ ((rd_L1 l0_1 x33_2).length : Int) := oda; omega)] <;> rfl) | rfl) ?_; (with_reducible refine (slices_Contains_int_int.calls k3 _ _ ((rd_L1 l0_1 x33_2).take (x39_3 : Int).toNat) (rd (rd_L1 l0_1 x33_2) x39_3) false _ ?side1 ?side2 A23.out).mono ?_); (case side1 => repeat (first | exact (Kd.C_below HR146.out HB.out) | (with_reducible refine Kd.C_alloc ?_ _) | (with_reducible refine Kd.C_drewN ?_ _) | (with_reducible refine Kd.C_drew ?_))); (case side2 => exact HC146.out); rintro e w' ⟨rfl, ⟨nd, rfl⟩⟩))
                  go_roundg k3
                  case measure => have := HJ1.out; have := HK2.out; have := HK3.out; omega
                  case rel => exact ⟨(wrap64 (x39_3 + 1)), (by first | rfl | (simp; done) | (simp [*]; done)), H', ⟨by have := HJ1.out; have := HK2.out; have := HK3.out; omega⟩, ⟨bz BK142⟩, ⟨by exact bh⟩⟩
                ·rw [if_neg c22] at H
                 exact absurd H (by simp)
             ·rw [if_neg c17] at H
              exact absurd H (by simp)
            ·rw [if_neg c16] at H
             exact absurd H (by simp)
           ·rw [if_neg c15] at H
            have c15b0 : decide (x39_3 < ((rd_L1 l0_1 x33_2).length : Int)) = false := decide_eq_false c15
            clear c15
            have H' := Aside0.mk H
            clear H
            go_wp2
            go_roundg k3
            case measure => have := HJ1.out; have := HK2.out; have := HK3.out; omega
            case rel => exact ⟨(wrap64 (x33_2 + 1)), (by first | rfl | (simp; done) | (simp [*]; done)), H', ⟨by have := HJ1.out; have := HK2.out; have := HK3.out; omega⟩, ⟨bz BK142⟩, ⟨by exact bh⟩⟩
        ·rw [if_neg c14] at H
         exact absurd H (by simp)
       ·rw [if_neg c13] at H
        exact absurd H (by simp)
      ·rw [if_neg c12] at H
       have c12b0 : decide (x33_2 < (l0_1.length : Int)) = false := decide_eq_false c12
       clear c12
       have H' := Aside0.mk H
       clear H
       have hcz29_0 := cz0 BK142
       have hcz29_1 := cz1 BK142
       have hcz29_2 := cz2 BK142
       have hcz29_3 := cz3 BK142
       have hfz29_0 := blk_frozen BK142.out 0
       have hfz29_1 := blk_frozen BK142.out 1
       have hfz29_2 := blk_frozen BK142.out 2
       have hfz29_3 := blk_frozen BK142.out 3
       go_wp2
       go_loopg [64] k2 (fun kq v64 w' => ∃ (x64_3 : Int), v64 = .int .i64 x64_3 ∧ Aside0 (impl_isCourt.l2 kq l0_2 (l0_2.length : Int) x64_3 a0_0 l0_1 l0_2 a0_3 = some r) ∧ Aside0 (kq ≤ k2) ∧ Aside0 (w'.heap[gb142]? = some (.cells #[.int .i64 a0_0, (.slice A0_1 l0_1.length c0_1), (.slice A0_2 l0_2.length c0_2), .int .i64 a0_3] 28 (0, 0))) ∧ Aside0 (Below w.heap.size w w'))
       case atStart => exact ⟨(0), (by first | rfl | (simp; done) | (simp [*]; done)), H', ⟨Nat.le_refl _⟩, ⟨bz BK142⟩, ⟨by exact bh⟩⟩
       case round =>
        clear H'
        try clear c1
        try clear p1
        try clear q1
        try clear hx1
        try clear c2
        try clear p2
        try clear c5
        try clear c6
        try clear c6b0
        try clear c6b1
        try clear p6
        try clear c10
        try clear c12
        try clear c12b0
        try clear c13
        try clear c13b0
        try clear c14
        try clear c14b0
        try clear p14
        try clear q14
        try clear hx14
        try clear c15
        try clear c15b0
        try clear c16
        try clear c16b0
        try clear c17
        try clear c17b0
        try clear c18
        try clear c18b0
        try clear c19
        try clear c19b0
        try clear c21
        try clear c21b0
        try clear c22
        try clear c22b0
        try clear c22b1
        try clear c24
        try clear hcz11_0
        try clear hcz11_1
        try clear hcz11_2
        try clear hcz11_3
        try clear hcz20_0
        try clear hcz20_1
        try clear hcz20_2
        try clear hcz20_3
        try clear hcz25_0
        try clear hcz25_1
        try clear hcz25_2
        try clear hcz25_3
        try clear hcz27_0
        try clear hcz27_1
        try clear hcz27_2
        try clear hcz27_3
        try clear hcz29_0
        try clear hcz29_1
        try clear hcz29_2
        try clear hcz29_3
        try clear hcz7_0
        try clear hcz7_1
        try clear hcz7_2
        try clear hcz7_3
        try clear hcz8_0
        try clear hcz8_1
        try clear hcz8_2
        try clear hcz8_3
        try clear hcz9_0
        try clear hcz9_1
        try clear hcz9_2
        try clear hcz9_3
        try clear hfz11_0
        try clear hfz11_1
        try clear hfz11_2
        try clear hfz11_3
        try clear hfz20_0
        try clear hfz20_1
        try clear hfz20_2
        try clear hfz20_3
        try clear hfz25_0
        try clear hfz25_1
        try clear hfz25_2
        try clear hfz25_3
        try clear hfz27_0
        try clear hfz27_1
        try clear hfz27_2
        try clear hfz27_3
        try clear hfz29_0
        try clear hfz29_1
        try clear hfz29_2
        try clear hfz29_3
        try clear hfz7_0
        try clear hfz7_1
        try clear hfz7_2
        try clear hfz7_3
        try clear hfz8_0
        try clear hfz8_1
        try clear hfz8_2
        try clear hfz8_3
        try clear hfz9_0
        try clear hfz9_1
        try clear hfz9_2
        try clear hfz9_3
        try clear hx144_0
        try clear hx145_0
        try clear p1
        try clear p14
        try clear p144
        try clear p145
        try clear p2
        try clear q1
        try clear q14
        try clear q144
        try clear q145
        obtain ⟨x64_3, rfl, HA, HK3, BK142, HB⟩ := hrel
        cases gk with
        | zero => exact absurd HA.out (by simp [impl_isCourt.l2])
        | succ k3 =>
         have H := HA.out
         clear HA
         simp only [impl_isCourt.l2] at H
         by_cases c30 : x64_3 < (l0_2.length : Int)
         ·rw [if_pos c30] at H
          have c30b0 : decide (x64_3 < (l0_2.length : Int)) = true := decide_eq_true c30
          clear c30
          by_cases c31 : 0 ≤ x64_3
          ·rw [if_pos c31] at H
           have c31b0 : decide (0 ≤ x64_3) = true := decide_eq_true c31
           clear c31
           by_cases c32 : x64_3 < (l0_2.length : Int)
           ·rw [if_pos c32] at H
            have c32b0 : decide (x64_3 < (l0_2.length : Int)) = true := decide_eq_true c32
            clear c32
            by_cases c33 : (rd l0_2 x64_3) = (-1)
            ·rw [if_pos c33] at H
             have c33b0 : ((rd l0_2 x64_3) == (-1)) = true := beq_iff_eq.mpr c33
             have c33b1 : ((rd l0_2 x64_3) != (-1)) = false := bne_eq_false_iff_eq.mpr c33
             clear c33
             have H' := Aside0.mk H
             clear H
             have p148 : 0 ≤ (x64_3 : Int) := oda
             have q148 : x64_3 < (l0_2.length : Int) := oda
             obtain ⟨ad148, e148, hx148_0⟩ := Kd.at_int HR0_2.out x64_3 p148 q148
             cases e148
             replace hx148_0 := (HB.out.cell (World.block_lt_of_cell? w _ hx148_0)).trans hx148_0
             replace p148 := eq_true p148
             replace q148 := eq_true q148
             go_wp2
             go_roundg k3
             case measure => have := HJ1.out; have := HK2.out; have := HK3.out; omega
             case rel => exact ⟨(wrap64 (x64_3 + 1)), (by first | rfl | (simp; done) | (simp [*]; done)), H', ⟨by have := HJ1.out; have := HK2.out; have := HK3.out; omega⟩, ⟨bz BK142⟩, ⟨by exact bh⟩⟩
            ·rw [if_neg c33] at H
             have c33b0 : ((rd l0_2 x64_3) == (-1)) = false := beq_eq_false_iff_ne.mpr c33
             have c33b1 : ((rd l0_2 x64_3) != (-1)) = true := bne_iff_ne.mpr c33
             replace H := Option.bind_eq_some_iff.mp H
             obtain ⟨t149, A340, H⟩ := H
             replace H : (if t149 = true then (if x64_3 ≤ (l0_2.length : Int) then ((slices_Contains_int_int.f k3 (l0_2.take (x64_3 : Int).toNat) (rd l0_2 x64_3)).bind fun t151 => (if t151 = true then (some false) else (impl_isCourt.l2 k3 l0_2 (l0_2.length : Int) (wrap64 (x64_3 + 1)) a0_0 l0_1 l0_2 a0_3))) else (none)) else (some false)) = some r := H
             have A34 := Aside0.mk A340
             clear A340
             by_cases c35 : t149 = true
             ·subst c35
              have H1 : (if x64_3 ≤ (l0_2.length : Int) then ((slices_Contains_int_int.f k3 (l0_2.take (x64_3 : Int).toNat) (rd l0_2 x64_3)).bind fun t151 => (if t151 = true then (some false) else (impl_isCourt.l2 k3 l0_2 (l0_2.length : Int) (wrap64 (x64_3 + 1)) a0_0 l0_1 l0_2 a0_3))) else (none)) = some r := by rw [if_pos rfl] at H; exact H
              clear H
              have H := H1
              clear H1
              have c36b0 := eq_true (oda : 0 ≤ x64_3)
              by_cases c37 : x64_3 ≤ (l0_2.length : Int)
              ·rw [if_pos c37] at H
               have c37b0 := eq_true c37
               have c37b1 : decide (x64_3 ≤ (l0_2.length : Int)) = true := decide_eq_true c37
               clear c37
               replace H := Option.bind_eq_some_iff.mp H
               obtain ⟨t151, A380, H⟩ := H
               replace H : (if t151 = true then (some false) else (impl_isCourt.l2 k3 l0_2 (l0_2.length : Int) (wrap64 (x64_3 + 1)) a0_0 l0_1 l0_2 a0_3)) = some r := H
               have A38 := Aside0.mk A380
               clear A380
               by_cases c39 : t151 = true
               ·subst c39
                have H1 : (some false) = some r := by rw [if_pos rfl] at H; exact H
                clear H
                have H := H1
                clear H1
                obtain rfl := Option.some.inj H
                have p148 : 0 ≤ (x64_3 : Int) := oda
                have q148 : x64_3 < (l0_2.length : Int) := oda
                obtain ⟨ad148, e148, hx148_0⟩ := Kd.at_int HR0_2.out x64_3 p148 q148
                cases e148
                replace hx148_0 := (HB.out.cell (World.block_lt_of_cell? w _ hx148_0)).trans hx148_0
                replace p148 := eq_true p148
                replace q148 := eq_true q148
                have hcz40_0 := cz0 BK142
                have hcz40_1 := cz1 BK142
                have hcz40_2 := cz2 BK142
                have hcz40_3 := cz3 BK142
                have hfz40_0 := blk_frozen BK142.out 0
                have hfz40_1 := blk_frozen BK142.out 1
                have hfz40_2 := blk_frozen BK142.out 2
                have hfz40_3 := blk_frozen BK142.out 3
                go_wp2_with (first | (go_at_call 64; (with_reducible refine (impl_lives.calls a0_0 _ _ l0_1 _ _ l0_2 a0_3 (rd l0_2 x64_3) true _ ?side1 ?side2 ?side3 ?side4 A34.out).mono ?_); (case side1 => repeat (first | exact (Kd.C_below HR0_1.out HB.out) | (with_reducible refine Kd.C_alloc ?_ _) | (with_reducible refine Kd.C_drewN ?_ _) | (with_reducible refine Kd.C_drew ?_))); (case side2 => exact HC0_1.out); (case side3 => repeat (first | exact (Kd.C_below HR0_2.out HB.out) | (with_reducible refine Kd.C_alloc ?_ _) | (with_reducible refine Kd.C_drewN ?_ _) | (with_reducible refine Kd.C_drew ?_))); (case side4 => exact HC0_2.out); rintro e w41 ⟨rfl, hb⟩; have n0_ := Aside0.mk (blk_below (bz BK142) hb); have n1_ := Aside0.mk (below_step bh hb); clear BK142 HB; have BK142 := n0_; have HB := n1_; clear n0_ n1_; (try clear hb); (try clear hb2); (try clear hk); (try clear hi); have hcz42_0 := cz0 BK142; have hcz42_1 := cz1 BK142; have hcz42_2 := cz2 BK142; have hcz42_3 := cz3 BK142; have hfz42_0 := blk_frozen BK142.out 0; have hfz42_1 := blk_frozen BK142.out 1; have hfz42_2 := blk_frozen BK142.out 2; have hfz42_3 := blk_frozen BK142.out 3; obtain ⟨i043, hi043, _, hsz43, _⟩ := info_parts info3; obtain ⟨hcut43, hA43, hC43⟩ := print_take_of (P := Try.prog) (Value.int .i64) 0 23 3 .i64 Try.underlying23 hi043 hsz43 (some ad148) c0_2 l0_2 x64_3 oda oda HC0_2.out; have HR150 := Aside0.mk (Kd.C_of_reads (h1 := fun _ => rfl) (hA43 _ (Kd.reads_of_C HR0_2.out))); have HC150 := Aside0.mk hC43; clear hA43 hC43 hi043 hsz43) | (go_at_call 71; refine calls_of_args (args' := #[.slice (some ad148) (l0_2.take (x64_3 : Int).toNat).length c0_2, .int .i64 (rd l0_2 x64_3)]) (by first | (rw [show (l0_2.take (x64_3 : Int).toNat).length = x64_3.toNat from (by rw [List.length_take]; have h_ : (x64_3 : Int) ≤ (l0_2.length : Int) := oda; omega)] <;> rfl) | rfl) ?_; (with_reducible refine (slices_Contains_int_int.calls k3 _ _ (l0_2.take (x64_3 : Int).toNat) (rd l0_2 x64_3) true _ ?side1 ?side2 A38.out).mono ?_); (case side1 => repeat (first | exact (Kd.C_below HR150.out HB.out) | (with_reducible refine Kd.C_alloc ?_ _) | (with_reducible refine Kd.C_drewN ?_ _) | (with_reducible refine Kd.C_drew ?_))); (case side2 => exact HC150.out); rintro e w' ⟨rfl, ⟨nd, rfl⟩⟩))
                go_ret
                exact ⟨by first | rfl | (simp [errW_none, errW_some] <;> rfl) | (simp [*, errW_none, errW_some] <;> rfl), by exact bh⟩
               ·replace c39 := Bool.eq_false_iff.mpr c39
                subst c39
                have H1 : (impl_isCourt.l2 k3 l0_2 (l0_2.length : Int) (wrap64 (x64_3 + 1)) a0_0 l0_1 l0_2 a0_3) = some r := by rw [if_neg (show ¬ (false = true) by decide)] at H; exact H
                clear H
                have H := H1
                clear H1
                have H' := Aside0.mk H
                clear H
                have p148 : 0 ≤ (x64_3 : Int) := oda
                have q148 : x64_3 < (l0_2.length : Int) := oda
                obtain ⟨ad148, e148, hx148_0⟩ := Kd.at_int HR0_2.out x64_3 p148 q148
                cases e148
                replace hx148_0 := (HB.out.cell (World.block_lt_of_cell? w _ hx148_0)).trans hx148_0
                replace p148 := eq_true p148
                replace q148 := eq_true q148
                have hcz44_0 := cz0 BK142
                have hcz44_1 := cz1 BK142
                have hcz44_2 := cz2 BK142
                have hcz44_3 := cz3 BK142
                have hfz44_0 := blk_frozen BK142.out 0
                have hfz44_1 := blk_frozen BK142.out 1
                have hfz44_2 := blk_frozen BK142.out 2
                have hfz44_3 := blk_frozen BK142.out 3
                go_wp2_with (first | (go_at_call 64; (with_reducible refine (impl_lives.calls a0_0 _ _ l0_1 _ _ l0_2 a0_3 (rd l0_2 x64_3) true _ ?side1 ?side2 ?side3 ?side4 A34.out).mono ?_); (case side1 => repeat (first | exact (Kd.C_below HR0_1.out HB.out) | (with_reducible refine Kd.C_alloc ?_ _) | (with_reducible refine Kd.C_drewN ?_ _) | (with_reducible refine Kd.C_drew ?_))); (case side2 => exact HC0_1.out); (case side3 => repeat (first | exact (Kd.C_below HR0_2.out HB.out) | (with_reducible refine Kd.C_alloc ?_ _) | (with_reducible refine Kd.C_drewN ?_ _) | (with_reducible refine Kd.C_drew ?_))); (case side4 => exact HC0_2.out); rintro e w45 ⟨rfl, hb⟩; have n0_ := Aside0.mk (blk_below (bz BK142) hb); have n1_ := Aside0.mk (below_step bh hb); clear BK142 HB; have BK142 := n0_; have HB := n1_; clear n0_ n1_; (try clear hb); (try clear hb2); (try clear hk); (try clear hi); have hcz46_0 := cz0 BK142; have hcz46_1 := cz1 BK142; have hcz46_2 := cz2 BK142; have hcz46_3 := cz3 BK142; have hfz46_0 := blk_frozen BK142.out 0; have hfz46_1 := blk_frozen BK142.out 1; have hfz46_2 := blk_frozen BK142.out 2; have hfz46_3 := blk_frozen BK142.out 3; obtain ⟨i047, hi047, _, hsz47, _⟩ := info_parts info3; obtain ⟨hcut47, hA47, hC47⟩ := print_take_of (P := Try.prog) (Value.int .i64) 0 23 3 .i64 Try.underlying23 hi047 hsz47 (some ad148) c0_2 l0_2 x64_3 oda oda HC0_2.out; have HR150 := Aside0.mk (Kd.C_of_reads (h1 := fun _ => rfl) (hA47 _ (Kd.reads_of_C HR0_2.out))); have HC150 := Aside0.mk hC47; clear hA47 hC47 hi047 hsz47) | (go_at_call 71; refine calls_of_args (args' := #[.slice (some ad148) (l0_2.take (x64_3 : Int).toNat).length c0_2, .int .i64 (rd l0_2 x64_3)]) (by first | (rw [show (l0_2.take (x64_3 : Int).toNat).length = x64_3.toNat from (by rw [List.length_take]; have h_ : (x64_3 : Int) ≤ (l0_2.length : Int) := oda; omega)] <;> rfl) | rfl) ?_; (with_reducible refine (slices_Contains_int_int.calls k3 _ _ (l0_2.take (x64_3 : Int).toNat) (rd l0_2 x64_3) false _ ?side1 ?side2 A38.out).mono ?_); (case side1 => repeat (first | exact (Kd.C_below HR150.out HB.out) | (with_reducible refine Kd.C_alloc ?_ _) | (with_reducible refine Kd.C_drewN ?_ _) | (with_reducible refine Kd.C_drew ?_))); (case side2 => exact HC150.out); rintro e w' ⟨rfl, ⟨nd, rfl⟩⟩))
                go_roundg k3
                case measure => have := HJ1.out; have := HK2.out; have := HK3.out; omega
                case rel => exact ⟨(wrap64 (x64_3 + 1)), (by first | rfl | (simp; done) | (simp [*]; done)), H', ⟨by have := HJ1.out; have := HK2.out; have := HK3.out; omega⟩, ⟨bz BK142⟩, ⟨by exact bh⟩⟩
              ·rw [if_neg c37] at H
               exact absurd H (by simp)
             ·replace c35 := Bool.eq_false_iff.mpr c35
              subst c35
              have H1 : (some false) = some r := by rw [if_neg (show ¬ (false = true) by decide)] at H; exact H
              clear H
              have H := H1
              clear H1
              obtain rfl := Option.some.inj H
              have p148 : 0 ≤ (x64_3 : Int) := oda
              have q148 : x64_3 < (l0_2.length : Int) := oda
              obtain ⟨ad148, e148, hx148_0⟩ := Kd.at_int HR0_2.out x64_3 p148 q148
              cases e148
              replace hx148_0 := (HB.out.cell (World.block_lt_of_cell? w _ hx148_0)).trans hx148_0
              replace p148 := eq_true p148
              replace q148 := eq_true q148
              have hcz48_0 := cz0 BK142
              have hcz48_1 := cz1 BK142
              have hcz48_2 := cz2 BK142
              have hcz48_3 := cz3 BK142
              have hfz48_0 := blk_frozen BK142.out 0
              have hfz48_1 := blk_frozen BK142.out 1
              have hfz48_2 := blk_frozen BK142.out 2
              have hfz48_3 := blk_frozen BK142.out 3
              go_wp2_with (first | (go_at_call 64; (with_reducible refine (impl_lives.calls a0_0 _ _ l0_1 _ _ l0_2 a0_3 (rd l0_2 x64_3) false _ ?side1 ?side2 ?side3 ?side4 A34.out).mono ?_); (case side1 => repeat (first | exact (Kd.C_below HR0_1.out HB.out) | (with_reducible refine Kd.C_alloc ?_ _) | (with_reducible refine Kd.C_drewN ?_ _) | (with_reducible refine Kd.C_drew ?_))); (case side2 => exact HC0_1.out); (case side3 => repeat (first | exact (Kd.C_below HR0_2.out HB.out) | (with_reducible refine Kd.C_alloc ?_ _) | (with_reducible refine Kd.C_drewN ?_ _) | (with_reducible refine Kd.C_drew ?_))); (case side4 => exact HC0_2.out); rintro e w49 ⟨rfl, hb⟩; have n0_ := Aside0.mk (blk_below (bz BK142) hb); have n1_ := Aside0.mk (below_step bh hb); clear BK142 HB; have BK142 := n0_; have HB := n1_; clear n0_ n1_; (try clear hb); (try clear hb2); (try clear hk); (try clear hi)))
              go_ret
              exact ⟨by first | rfl | (simp [errW_none, errW_some] <;> rfl) | (simp [*, errW_none, errW_some] <;> rfl), by exact bh⟩
           ·rw [if_neg c32] at H
            exact absurd H (by simp)
          ·rw [if_neg c31] at H
           exact absurd H (by simp)
         ·rw [if_neg c30] at H
          have c30b0 : decide (x64_3 < (l0_2.length : Int)) = false := decide_eq_false c30
          clear c30
          obtain rfl := Option.some.inj H
          go_wp2
          go_ret
          exact ⟨by first | rfl | (simp [errW_none, errW_some] <;> rfl) | (simp [*, errW_none, errW_some] <;> rfl), by exact bh⟩

end Go.Proofs.Ytlpjkeejflogjaa.QFnExactAfterDeaths
