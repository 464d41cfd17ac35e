-- Printed for this claim by a turned copy of the print (wip/myprint). Lean checks it. Squeezed. Worded. Tightened.
import Derived.Test.YtnpjlpkbefdnlaaQFnExactBillTermx0
import Derived.Test.YtnpjlpkbefdnlaaQFnExactBillTermx11
import Derived.Test.YtnpjlpkbefdnlaaQFnExactBillTermx13
namespace Go.Proofs.Ytnpjlpkbefdnlaa.QFnExactBillTerm
open Go.RowKit Go.Proofs.YtnpjlpkbefdnlaaW.PrintWords Go.Proofs.YtnpjlpkbefdnlaaW.PrintLast Go.Proofs.YtnpjlpkbefdnlaaW.PrintMore
attribute [local go_sem] max2_int min2_int max_two min_two max_three min_three max_four min_four Opens.cell_twice   -- for this text's walks alone
set_option linter.unusedVariables false
set_option linter.unusedSimpArgs false

/-! ### spec_SoundOk: function 33 -/
mutual
def spec_SoundOk.l0 : Nat → List (S41) → Int → Int → List Int → Option (Bool)
 | 0, _, _, _, _ => none
 | k + 1, x1, x5, x329000, x329001 => if x5 < (x1.length : Int) then ((spec_ProcessOk.f k x329000 x329001 x1).bind fun t329 => (spec_SoundOk.j1 k x1 x5 t329 x329000 x329001)) else (spec_SoundOk.j1 k x1 x5 false x329000 x329001)
def spec_SoundOk.j1 : Nat → List (S41) → Int → Bool → Int → List Int → Option (Bool)
 | 0, _, _, _, _, _ => none
 | k + 1, x1, x5, x15, x329000, x329001 => if x15 = true then (spec_SoundOk.l1 k x1 x5 0 x329000 x329001) else ((spec_ProcessOk.f k x329000 x329001 x1).bind fun t330 => (some t330))
def spec_SoundOk.l1 : Nat → List (S41) → Int → Int → Int → List Int → Option (Bool)
 | 0, _, _, _, _, _ => none
 | k + 1, x1, x5, x6, x329000, x329001 => if 0 ≤ x329000 then (if x6 < (shl .i64 1 x329000) then (if 0 ≤ x5 then (if x5 < (x1.length : Int) then ((spec_l5From.f k x329000 x329001 x1 ((rd_T41 x1 x5).f2) x6).bind fun t332 => (if t332 = true then ((spec_l5From.f k x329000 x329001 x1 ((rd_T41 x1 x5).f1) x6).bind fun t334 => (if t334 = true then (spec_SoundOk.l1 k x1 x5 (wrap64 (x6 + 1)) x329000 x329001) else (some false))) else (spec_SoundOk.l1 k x1 x5 (wrap64 (x6 + 1)) x329000 x329001))) else (none)) else (none)) else (spec_SoundOk.l0 k x1 (wrap64 (x5 + 1)) x329000 x329001)) else (none)
end
def spec_SoundOk.f (k : Nat) (a0_0 : Int) (l0_1 : List Int) (l1 : List (S41)) : Option (Bool) := spec_SoundOk.l0 k l1 0 a0_0 l0_1
theorem spec_SoundOk.mono_l : ∀ k, (∀ y0 y1 y2 y3, LeO (spec_SoundOk.l0 k y0 y1 y2 y3) (spec_SoundOk.l0 (k + 1) y0 y1 y2 y3)) ∧ (∀ y0 y1 y2 y3 y4, LeO (spec_SoundOk.j1 k y0 y1 y2 y3 y4) (spec_SoundOk.j1 (k + 1) y0 y1 y2 y3 y4)) ∧ (∀ y0 y1 y2 y3 y4, LeO (spec_SoundOk.l1 k y0 y1 y2 y3 y4) (spec_SoundOk.l1 (k + 1) y0 y1 y2 y3 y4))
 | 0 => ⟨fun _ _ _ _ r h => by simp [spec_SoundOk.l0] at h, fun _ _ _ _ _ r h => by simp [spec_SoundOk.j1] at h, fun _ _ _ _ _ r h => by simp [spec_SoundOk.l1] at h⟩
 | k + 1 => by
  obtain ⟨ih0, ih1, ih2⟩ := spec_SoundOk.mono_l k
  refine ⟨?_, ?_, ?_⟩
  ·intro y0 y1 y2 y3
   unfold spec_SoundOk.l0
   repeat' first
   | (with_reducible exact ih0 _ _ _ _)
   | (with_reducible exact ih1 _ _ _ _ _)
   | (with_reducible exact ih2 _ _ _ _ _)
   | (with_reducible exact spec_ProcessOk.mono _ _ _ _)
   | (with_reducible exact spec_l5From.mono _ _ _ _ _ _)
   | (with_reducible exact LeO.refl _)
   | (with_reducible exact LeO.none _)
   | (with_reducible refine LeO.ite ?_ ?_)
   | (with_reducible refine LeO.bind ?_ (fun _ => ?_))
   | exact ih0 _ _ _ _
   | exact ih1 _ _ _ _ _
   | exact ih2 _ _ _ _ _
   | exact spec_ProcessOk.mono _ _ _ _
   | exact spec_l5From.mono _ _ _ _ _ _
   | exact LeO.none _
   | refine LeO.ite ?_ ?_
   | refine LeO.bind ?_ (fun _ => ?_)
  ·intro y0 y1 y2 y3 y4
   unfold spec_SoundOk.j1
   repeat' first
   | (with_reducible exact ih0 _ _ _ _)
   | (with_reducible exact ih1 _ _ _ _ _)
   | (with_reducible exact ih2 _ _ _ _ _)
   | (with_reducible exact spec_ProcessOk.mono _ _ _ _)
   | (with_reducible exact spec_l5From.mono _ _ _ _ _ _)
   | (with_reducible exact LeO.refl _)
   | (with_reducible exact LeO.none _)
   | (with_reducible refine LeO.ite ?_ ?_)
   | (with_reducible refine LeO.bind ?_ (fun _ => ?_))
   | exact ih0 _ _ _ _
   | exact ih1 _ _ _ _ _
   | exact ih2 _ _ _ _ _
   | exact spec_ProcessOk.mono _ _ _ _
   | exact spec_l5From.mono _ _ _ _ _ _
   | exact LeO.none _
   | refine LeO.ite ?_ ?_
   | refine LeO.bind ?_ (fun _ => ?_)
  ·intro y0 y1 y2 y3 y4
   unfold spec_SoundOk.l1
   repeat' first
   | (with_reducible exact ih0 _ _ _ _)
   | (with_reducible exact ih1 _ _ _ _ _)
   | (with_reducible exact ih2 _ _ _ _ _)
   | (with_reducible exact spec_ProcessOk.mono _ _ _ _)
   | (with_reducible exact spec_l5From.mono _ _ _ _ _ _)
   | (with_reducible exact LeO.refl _)
   | (with_reducible exact LeO.none _)
   | (with_reducible refine LeO.ite ?_ ?_)
   | (with_reducible refine LeO.bind ?_ (fun _ => ?_))
   | exact ih0 _ _ _ _
   | exact ih1 _ _ _ _ _
   | exact ih2 _ _ _ _ _
   | exact spec_ProcessOk.mono _ _ _ _
   | exact spec_l5From.mono _ _ _ _ _ _
   | exact LeO.none _
   | refine LeO.ite ?_ ?_
   | refine LeO.bind ?_ (fun _ => ?_)
theorem spec_SoundOk.mono : ∀ a0 a1 a2 k, LeO (spec_SoundOk.f k a0 a1 a2) (spec_SoundOk.f (k + 1) a0 a1 a2) := by
 intro a0 a1 a2 k
 obtain ⟨ih0, ih1, ih2⟩ := spec_SoundOk.mono_l k
 unfold spec_SoundOk.f
 repeat' first
   | (with_reducible exact ih0 _ _ _ _)
   | (with_reducible exact ih1 _ _ _ _ _)
   | (with_reducible exact ih2 _ _ _ _ _)
   | (with_reducible exact spec_ProcessOk.mono _ _ _ _)
   | (with_reducible exact spec_l5From.mono _ _ _ _ _ _)
   | (with_reducible exact LeO.refl _)
   | (with_reducible exact LeO.none _)
   | (with_reducible refine LeO.ite ?_ ?_)
   | (with_reducible refine LeO.bind ?_ (fun _ => ?_))
   | exact ih0 _ _ _ _
   | exact ih1 _ _ _ _ _
   | exact ih2 _ _ _ _ _
   | exact spec_ProcessOk.mono _ _ _ _
   | exact spec_l5From.mono _ _ _ _ _ _
   | exact LeO.none _
   | refine LeO.ite ?_ ?_
   | refine LeO.bind ?_ (fun _ => ?_)
def spec_SoundOk.T7 : Bool × List (List Nat × List Nat) := (true, [([], []), ([], []), ([], []), ([], []), ([2, 3], [2, 3]), ([4], [4]), ([5], [5]), ([], []), ([0, 1, 6, 7], [0, 1, 6, 7]), ([8, 8], [8]), ([9], [9]), ([9], [9]), ([9], [9]), ([9], [9]), ([12, 13, 9], [9, 12, 13]), ([14, 9], [9, 14]), ([15, 9], [9, 15]), ([9], [9]), ([10, 11, 16, 17, 9, 9], [9, 10, 11, 16, 17]), ([18, 9], [9, 18]), ([9, 19], [9, 19])])
def spec_SoundOk.B7 : List Nat := [0, 0, 0, 0, 12, 28, 60, 0, 255, 511, 1023, 1023, 1023, 1023, 13311, 29695, 62463, 1023, 262143, 524287, 1048575]
theorem spec_SoundOk.tab7 : rtab .any (opsOf Try.f33 7) = spec_SoundOk.T7 := by kernel_rfl
theorem spec_SoundOk.bits7 : waitsOk spec_SoundOk.T7.2 spec_SoundOk.B7 = true := by kernel_rfl
set_option maxHeartbeats 8000000 in
set_option maxRecDepth 100000 in
theorem spec_SoundOk.calls (k : Nat) (a0_0 : Int) (A0_1 : Option Addr) (c0_1 : Nat) (l0_1 : List Int) (A1 : Option Addr) (c1 : Nat) (l1 : List (S41)) (r : Bool) (w : World) (hr0_1 : Kd.C (Kd.int .i64) w A0_1 l0_1.length l0_1) (hc0_1 : l0_1.length ≤ c0_1) (hr1 : Kd.C k41 w A1 l1.length l1) (hc1 : l1.length ≤ c1) (h : spec_SoundOk.f k a0_0 l0_1 l1 = some r) :
  Calls Try.prog 33 #[.agg #[.int .i64 a0_0, .slice A0_1 l0_1.length c0_1], .slice A1 l1.length c1] w fun e w' => e = .returned (.bool r) ∧ Below w.heap.size w w' := by
 have hu25 := Try.underlying25
 have HR0_1 := Aside0.mk hr0_1
 have HC0_1 := Aside0.mk hc0_1
 clear hr0_1 hc0_1
 have HR1 := Aside0.mk hr1
 have HC1 := Aside0.mk hc1
 clear hr1 hc1
 have HB := Aside0.mk (Below.refl w.heap.size w)
 have H : (spec_SoundOk.l0 k l1 0 a0_0 l0_1) = some r := h
 clear h
 have H' := Aside0.mk H
 clear H
 go_enter Try.func33, Try.ntmps33
 go_wp2_with (first | ((with_reducible refine gate_dst (N := 2) rfl ?_); refine box_event ?hg (N := 2) ?hd (cs := #[.int .i64 a0_0, .slice A0_1 l0_1.length c0_1]) (t := 25) ?hr ?_; (case hd => rfl); (case hg => rfl); (case hr => first | (go_simp; done) | (go_simp; rfl)); intro gb328 hg w3 hbox hb; have n0_ := Aside0.mk (below_step bh hb); have n1_ := Aside0.mk (hbox); have n2_ := Aside0.mk ((gs (W0 := w) hg bh)); have n3_ := Aside0.mk ((gs (W0 := w) hg bh)); clear HB; have HB := n0_; have BK328 := n1_; have GW328 := n2_; have GE328 := n3_; clear n0_ n1_ n2_ n3_ hb hbox hg))
 go_loopg [5] k (fun kq v5 w' => ∃ (x5_1 : Int), v5 = .int .i64 x5_1 ∧ Aside0 (spec_SoundOk.l0 kq l1 x5_1 a0_0 l0_1 = some r) ∧ Aside0 (kq ≤ k) ∧ Aside0 (w'.heap[gb328]? = some (.cells #[.int .i64 a0_0, (.slice A0_1 l0_1.length c0_1)] 25 (0, 0))) ∧ Aside0 (Below w.heap.size w w'))
 case atStart => exact ⟨(0), (by first | rfl | (simp; done) | (simp [*]; done)), H', ⟨Nat.le_refl _⟩, ⟨bz BK328⟩, ⟨by exact bh⟩⟩
 case round =>
  clear H'
  try clear c1
  try clear p2
  try clear c3
  obtain ⟨x5_1, rfl, HA, HK1, BK328, HB⟩ := hrel
  cases gk with
  | zero => exact absurd HA.out (by simp [spec_SoundOk.l0])
  | succ k1 =>
   have H := HA.out
   clear HA
   simp only [spec_SoundOk.l0] at H
   have HC4 := Aside0.mk H
   clear H
   go_upto_region 2 with (fail)
   go_cut [15] (fun v15 wc => ∃ (kq : Nat) (x15_3 : Bool), v15 = .bool x15_3 ∧ Aside0 (spec_SoundOk.j1 kq l1 x5_1 x15_3 a0_0 l0_1 = some r) ∧ Aside0 (kq ≤ k1) ∧ Aside0 (wc.heap[gb328]? = some (.cells #[.int .i64 a0_0, (.slice A0_1 l0_1.length c0_1)] 25 (0, 0))) ∧ Aside0 (Below w.heap.size w wc))
   case first =>
    have H := HC4.out
    clear HC4
    by_cases c5 : x5_1 < (l1.length : Int)
    ·rw [if_pos c5] at H
     have c5b0 : decide (x5_1 < (l1.length : Int)) = true := decide_eq_true c5
     clear c5
     (first | rw [c5b0] | (simp only [i64_w, i32_w]; rw [c5b0]) | skip)
     replace H := Option.bind_eq_some_iff.mp H
     obtain ⟨t329, A60, H⟩ := H
     replace H : (spec_SoundOk.j1 k1 l1 x5_1 t329 a0_0 l0_1) = some r := H
     have A6 := Aside0.mk A60
     clear A60
     have H' := Aside0.mk H
     clear H
     have hcz7_0 := cz0 BK328
     have hcz7_1 := cz1 BK328
     have hfz7_0 := blk_frozen BK328.out 0
     have hfz7_1 := blk_frozen BK328.out 1
     go_wp2_with (first | (go_at_call 16; (with_reducible refine (spec_ProcessOk.calls k1 a0_0 _ _ l0_1 _ _ l1 t329 _ ?side1 ?side2 ?side3 ?side4 A6.out).mono ?_); (case side1 => repeat (first | exact (Kd.C_below HR0_1.out HB.out) | (with_reducible refine Kd.C_alloc ?_ _) | (with_reducible refine Kd.C_drewN ?_ _) | (with_reducible refine Kd.C_drew ?_))); (case side2 => exact HC0_1.out); (case side3 => repeat (first | exact (Kd.C_below HR1.out HB.out) | (with_reducible refine Kd.C_alloc ?_ _) | (with_reducible refine Kd.C_drewN ?_ _) | (with_reducible refine Kd.C_drew ?_))); (case side4 => exact HC1.out); rintro e w8 ⟨rfl, hb⟩; have n0_ := Aside0.mk (blk_below (bz BK328) hb); have n1_ := Aside0.mk (below_step bh hb); clear BK328 HB; have BK328 := n0_; have HB := n1_; clear n0_ n1_; (try clear hb); (try clear hb2); (try clear hk); (try clear hi)))
     go_meet
     case rel => exact ⟨_, (t329), (by first | rfl | (simp; done) | (simp [*]; done)), H', ⟨by have := HK1.out; first | omega | exact Nat.le_refl _⟩, ⟨bz BK328⟩, ⟨by exact bh⟩⟩
    ·rw [if_neg c5] at H
     have c5b0 : decide (x5_1 < (l1.length : Int)) = false := decide_eq_false c5
     clear c5
     (first | rw [c5b0] | (simp only [i64_w, i32_w]; rw [c5b0]) | skip)
     have H' := Aside0.mk H
     clear H
     go_wp2
     go_meet
     case rel => exact ⟨_, (false), (by first | rfl | (simp; done) | (simp [*]; done)), H', ⟨by have := HK1.out; first | omega | exact Nat.le_refl _⟩, ⟨bz BK328⟩, ⟨by exact bh⟩⟩
   case rest =>
    clear HC4
    try clear c1
    try clear p2
    try clear c3
    try clear c5
    try clear c5b0
    try clear hcz7_0
    try clear hcz7_1
    try clear hfz7_0
    try clear hfz7_1
    try clear p2
    obtain ⟨kq, x15_3, rfl, HA, HJ3, BK328, HB⟩ := hcut
    cases kq with
    | zero => exact absurd HA.out (by simp [spec_SoundOk.j1])
    | succ kj3 =>
     have H := HA.out
     clear HA
     simp only [spec_SoundOk.j1] at H
     by_cases c9 : x15_3 = true
     ·subst c9
      have H1 : (spec_SoundOk.l1 kj3 l1 x5_1 0 a0_0 l0_1) = some r := by rw [if_pos rfl] at H; exact H
      clear H
      have H := H1
      clear H1
      have H' := Aside0.mk H
      clear H
      go_wp2
      go_loopg [6] kj3 (fun kq v6 w' => ∃ (x6_3 : Int), v6 = .int .i64 x6_3 ∧ Aside0 (spec_SoundOk.l1 kq l1 x5_1 x6_3 a0_0 l0_1 = some r) ∧ Aside0 (kq ≤ kj3) ∧ Aside0 (w'.heap[gb328]? = some (.cells #[.int .i64 a0_0, (.slice A0_1 l0_1.length c0_1)] 25 (0, 0))) ∧ Aside0 (Below w.heap.size w w'))
      case atStart => exact ⟨(0), (by first | rfl | (simp; done) | (simp [*]; done)), H', ⟨Nat.le_refl _⟩, ⟨bz BK328⟩, ⟨by exact bh⟩⟩
      case round =>
       clear H'
       try clear c1
       try clear p2
       try clear c3
       try clear c5
       try clear c5b0
       try clear c9
       try clear hcz7_0
       try clear hcz7_1
       try clear hfz7_0
       try clear hfz7_1
       try clear p2
       obtain ⟨x6_3, rfl, HA, HK3, BK328, HB⟩ := hrel
       cases gk with
       | zero => exact absurd HA.out (by simp [spec_SoundOk.l1])
       | succ k3 =>
        have H := HA.out
        clear HA
        simp only [spec_SoundOk.l1] at H
        by_cases c10 : 0 ≤ a0_0
        ·rw [if_pos c10] at H
         have c10b0 := eq_true c10
         have c10b1 : decide (0 ≤ a0_0) = true := decide_eq_true c10
         clear c10
         obtain ⟨ji11, hji11⟩ : ∃ j_ : Int, (shl .i64 1 a0_0) = j_ := ⟨_, rfl⟩
         replace H : (if x6_3 < (ji11) then (if 0 ≤ x5_1 then (if x5_1 < (l1.length : Int) then ((spec_l5From.f k3 a0_0 l0_1 l1 ((rd_T41 l1 x5_1).f2) x6_3).bind fun t332 => (if t332 = true then ((spec_l5From.f k3 a0_0 l0_1 l1 ((rd_T41 l1 x5_1).f1) x6_3).bind fun t334 => (if t334 = true then (spec_SoundOk.l1 k3 l1 x5_1 (wrap64 (x6_3 + 1)) a0_0 l0_1) else (some false))) else (spec_SoundOk.l1 k3 l1 x5_1 (wrap64 (x6_3 + 1)) a0_0 l0_1))) else (none)) else (none)) else (spec_SoundOk.l0 k3 l1 (wrap64 (x5_1 + 1)) a0_0 l0_1)) = some r := by first | (rw [hji11] at H; exact H) | (simp only [hji11] at H ⊢; exact H)
         have hji11_ : (IntKind.i64.wrap (1 * 2 ^ min a0_0.toNat 64)) = ji11 := hji11
         have hji11z : a0_0 ≤ 64 → (IntKind.i64.wrap (1 * 2 ^ a0_0.toNat)) = ji11 := shl_small hji11
         have hji11u : (IntKind.i64.wrap (2 ^ min a0_0.toNat 64)) = ji11 := by have h_ := hji11_; rw [Int.one_mul] at h_; exact h_
         have hji11v : a0_0 ≤ 64 → (IntKind.i64.wrap (2 ^ a0_0.toNat)) = ji11 := fun hle_ => by have h_ := hji11z hle_; rw [Int.one_mul] at h_; exact h_
         have hji11y : (wrap64 (1 * 2 ^ min a0_0.toNat 64)) = ji11 := (i64_w _).symm.trans hji11_
         have hji11x : a0_0 ≤ 64 → (wrap64 (1 * 2 ^ a0_0.toNat)) = ji11 := fun h_ => (i64_w _).symm.trans (hji11z h_)
         by_cases c12 : x6_3 < (ji11)
         ·rw [if_pos c12] at H
          have c12b0 : decide (x6_3 < (ji11)) = true := decide_eq_true c12
          clear c12
          by_cases c13 : 0 ≤ x5_1
          ·rw [if_pos c13] at H
           have c13b0 : decide (0 ≤ x5_1) = true := decide_eq_true c13
           clear c13
           by_cases c14 : x5_1 < (l1.length : Int)
           ·rw [if_pos c14] at H
            have c14b0 : decide (x5_1 < (l1.length : Int)) = true := decide_eq_true c14
            clear c14
            replace H := Option.bind_eq_some_iff.mp H
            obtain ⟨t332, A150, H⟩ := H
            replace H : (if t332 = true then ((spec_l5From.f k3 a0_0 l0_1 l1 ((rd_T41 l1 x5_1).f1) x6_3).bind fun t334 => (if t334 = true then (spec_SoundOk.l1 k3 l1 x5_1 (wrap64 (x6_3 + 1)) a0_0 l0_1) else (some false))) else (spec_SoundOk.l1 k3 l1 x5_1 (wrap64 (x6_3 + 1)) a0_0 l0_1)) = some r := H
            have A15 := Aside0.mk A150
            clear A150
            by_cases c16 : t332 = true
            ·subst c16
             have H1 : ((spec_l5From.f k3 a0_0 l0_1 l1 ((rd_T41 l1 x5_1).f1) x6_3).bind fun t334 => (if t334 = true then (spec_SoundOk.l1 k3 l1 x5_1 (wrap64 (x6_3 + 1)) a0_0 l0_1) else (some false))) = some r := by rw [if_pos rfl] at H; exact H
             clear H
             have H := H1
             clear H1
             replace H := Option.bind_eq_some_iff.mp H
             obtain ⟨t334, A170, H⟩ := H
             replace H : (if t334 = true then (spec_SoundOk.l1 k3 l1 x5_1 (wrap64 (x6_3 + 1)) a0_0 l0_1) else (some false)) = some r := H
             have A17 := Aside0.mk A170
             clear A170
             by_cases c18 : t334 = true
             ·subst c18
              have H1 : (spec_SoundOk.l1 k3 l1 x5_1 (wrap64 (x6_3 + 1)) a0_0 l0_1) = some r := by rw [if_pos rfl] at H; exact H
              clear H
              have H := H1
              clear H1
              have H' := Aside0.mk H
              clear H
              have hcz19_0 := cz0 BK328
              have hcz19_1 := cz1 BK328
              have hfz19_0 := blk_frozen BK328.out 0
              have hfz19_1 := blk_frozen BK328.out 1
              try go_wp2
              have n0_ := Aside0.mk (blk_drew BK328.out)
              have n1_ := Aside0.mk (below_drew1 HB.out)
              clear BK328 HB
              have BK328 := n0_
              have HB := n1_
              clear n0_ n1_
              have p331 : 0 ≤ (x5_1 : Int) := oda
              have q331 : x5_1 < (l1.length : Int) := oda
              obtain ⟨ad331, A331_0, c331_0, e331, hx331_0, hx331_1, hx331_2, hl331_0, hi331_0⟩ := at_T41 HR1.out x5_1 p331 q331
              have hw331_2 := hx331_2
              have hw331_1 := hx331_1
              have hw331_0 := hx331_0
              cases e331
              replace hx331_0 := (HB.out.cell (World.block_lt_of_cell? w _ hx331_0)).trans hx331_0
              replace hx331_1 := (HB.out.cell (World.block_lt_of_cell? w _ hx331_1)).trans hx331_1
              replace hx331_2 := (HB.out.cell (World.block_lt_of_cell? w _ hx331_2)).trans hx331_2
              have HR331_0 := Aside0.mk hi331_0
              have HC331_0 := Aside0.mk hl331_0
              clear hi331_0 hl331_0
              replace p331 := eq_true p331
              replace q331 := eq_true q331
              have p333 : 0 ≤ (x5_1 : Int) := oda
              have q333 : x5_1 < (l1.length : Int) := oda
              obtain ⟨ad333, A333_0, c333_0, e333, hx333_0, hx333_1, hx333_2, hl333_0, hi333_0⟩ := at_T41 HR1.out x5_1 p333 q333
              have hw333_2 := hx333_2
              have hw333_1 := hx333_1
              have hw333_0 := hx333_0
              obtain rfl : ad331 = ad333 := (by injection e333)
              replace hx333_0 := (HB.out.cell (World.block_lt_of_cell? w _ hx333_0)).trans hx333_0
              replace hx333_1 := (HB.out.cell (World.block_lt_of_cell? w _ hx333_1)).trans hx333_1
              replace hx333_2 := (HB.out.cell (World.block_lt_of_cell? w _ hx333_2)).trans hx333_2
              have HR333_0 := Aside0.mk hi333_0
              have HC333_0 := Aside0.mk hl333_0
              clear hi333_0 hl333_0
              replace p333 := eq_true p333
              replace q333 := eq_true q333
              refine start_ (n := 21) (S := fun w' => w'.cell? ⟨gb328, 0, none⟩ = some (.int .i64 a0_0) ∧ w'.cell? ⟨gb328, 1, none⟩ = some (.slice A0_1 l0_1.length c0_1) ∧ w'.cell? (ad331.add ((x5_1).toNat * 3)) = some (.slice A331_0 ((rd_T41 l1 x5_1).f0).length c331_0) ∧ w'.cell? ⟨(ad331.add ((x5_1).toNat * 3)).block, (ad331.add ((x5_1).toNat * 3)).off + 1, none⟩ = some (.int .i64 ((rd_T41 l1 x5_1).f1)) ∧ w'.cell? ⟨(ad331.add ((x5_1).toNat * 3)).block, (ad331.add ((x5_1).toNat * 3)).off + 2, none⟩ = some (.int .i64 ((rd_T41 l1 x5_1).f2)) ∧ w'.cell? (ad331.add ((x5_1).toNat * 3)) = some (.slice A333_0 ((rd_T41 l1 x5_1).f0).length c333_0) ∧ w'.cell? ⟨(ad331.add ((x5_1).toNat * 3)).block, (ad331.add ((x5_1).toNat * 3)).off + 1, none⟩ = some (.int .i64 ((rd_T41 l1 x5_1).f1)) ∧ w'.cell? ⟨(ad331.add ((x5_1).toNat * 3)).block, (ad331.add ((x5_1).toNat * 3)).off + 2, none⟩ = some (.int .i64 ((rd_T41 l1 x5_1).f2))) (ds := []) #[F,F,F,F,F,F,F,F,F,F,F,F,F,F,F,F,F,F,F,F,F] kr rfl rfl ⟨cz0 BK328, cz1 BK328, ((HB.out.cell (World.block_lt_of_cell? w _ hw331_0)).trans hw331_0), ((HB.out.cell (World.block_lt_of_cell? w _ hw331_1)).trans hw331_1), ((HB.out.cell (World.block_lt_of_cell? w _ hw331_2)).trans hw331_2), ((HB.out.cell (World.block_lt_of_cell? w _ hw333_0)).trans hw333_0), ((HB.out.cell (World.block_lt_of_cell? w _ hw333_1)).trans hw333_1), ((HB.out.cell (World.block_lt_of_cell? w _ hw333_2)).trans hw333_2)⟩ (fun hHeld => ?_); refine with_tabW spec_SoundOk.tab7 spec_SoundOk.bits7 (fun HT_ HW_ => ?_)
              generalize wr.drew = w20 at BK328 HB HR331_0 HR333_0 hx331_0 hx331_1 hx331_2 hx333_0 hx333_1 hx333_2 hHeld ⊢
              refine pu 1 (some 26) #[F,T,F,F,F,F,F,F,F,F,F,F,F,F,F,F,F,F,F,F,F] (any_of HT_.out kr) ?_
              refine pu 2 (some 27) #[F,T,T,F,F,F,F,F,F,F,F,F,F,F,F,F,F,F,F,F,F] (any_of HT_.out kr) ?_
              refine pu 3 (some 28) #[F,T,T,T,F,F,F,F,F,F,F,F,F,F,F,F,F,F,F,F,F] (any_of HT_.out kr) ?_
              refine pu 4 (some 29) #[F,T,T,T,T,F,F,F,F,F,F,F,F,F,F,F,F,F,F,F,F] (any_of HT_.out kr) ?_
              refine pu 5 (some 30) #[F,T,T,T,T,T,F,F,F,F,F,F,F,F,F,F,F,F,F,F,F] (any_of HT_.out kr) ?_
              refine pu 7 (some 32) #[F,T,T,T,T,T,F,T,F,F,F,F,F,F,F,F,F,F,F,F,F] (any_of HT_.out kr) ?_
              refine tk8 0 (some 25) #[T,T,T,T,T,T,F,T,F,F,F,F,F,F,F,F,F,F,F,F,F] (take_ofW HT_.out HW_.out kr) ?_
              refine tk8 6 (some 31) #[T,T,T,T,T,T,T,T,F,F,F,F,F,F,F,F,F,F,F,F,F] (take_ofW HT_.out HW_.out kr) ?_
              refine one_ (i := 8) (N := some 33) #[T,T,T,T,T,T,T,T,T,F,F,F,F,F,F,F,F,F,F,F,F] rfl rfl (one_of HT_.out kr) (by decide) (fun K hK => ?_)
              refine goes_ Try.func71 kr rfl #[.agg #[.int .i64 a0_0, .slice A0_1 l0_1.length c0_1], .slice (some ad331) l1.length c1, .int .i64 ((rd_T41 l1 x5_1).f2), .int .i64 x6_3] (by rfl) rfl rfl lm ?_
              with_reducible refine (spec_l5From.calls k3 a0_0 _ _ l0_1 _ _ l1 ((rd_T41 l1 x5_1).f2) x6_3 true _ ?side1 ?side2 ?side3 ?side4 A15.out).mono ?_
              (case side1 => repeat (first | exact (Kd.C_below HR0_1.out HB.out) | (with_reducible refine Kd.C_alloc ?_ _) | (with_reducible refine Kd.C_drewN ?_ _) | (with_reducible refine Kd.C_drew ?_)))
              (case side2 => exact HC0_1.out)
              (case side3 => repeat (first | exact (Kd.C_below HR1.out HB.out) | (with_reducible refine Kd.C_alloc ?_ _) | (with_reducible refine Kd.C_drewN ?_ _) | (with_reducible refine Kd.C_drew ?_)))
              (case side4 => exact HC1.out)
              rintro e w21 ⟨rfl, hb⟩
              refine ⟨_, rfl, ?_⟩
              have n0_ := Aside0.mk (blk_below (bz BK328) hb)
              have n1_ := Aside0.mk (below_step bh hb)
              clear BK328 HB
              have BK328 := n0_
              have HB := n1_
              clear n0_ n1_
              (try clear hb)
              (try clear hb2)
              (try clear hk)
              (try clear hi)
              refine hK.out _ _ ⟨cz0 BK328, cz1 BK328, ((HB.out.cell (World.block_lt_of_cell? w _ hw331_0)).trans hw331_0), ((HB.out.cell (World.block_lt_of_cell? w _ hw331_1)).trans hw331_1), ((HB.out.cell (World.block_lt_of_cell? w _ hw331_2)).trans hw331_2), ((HB.out.cell (World.block_lt_of_cell? w _ hw333_0)).trans hw333_0), ((HB.out.cell (World.block_lt_of_cell? w _ hw333_1)).trans hw333_1), ((HB.out.cell (World.block_lt_of_cell? w _ hw333_2)).trans hw333_2)⟩ (fun hHeld => ?_)
              clear hK K
              refine norm_ (a' := ?_) ?_ ?_
              rotate_left
              ·show Act.put _ (some 33) _ = _
               simp only [Act.put, List.setIfInBounds_toArray, List.set_cons_zero, List.set_cons_succ, i64_w, i32_w]
               rfl
              refine pu 9 (some 34) #[T,T,T,T,T,T,T,T,T,T,F,F,F,F,F,F,F,F,F,F,F] (any_of HT_.out kr) ?_
              refine pu 11 (some 36) #[T,T,T,T,T,T,T,T,T,T,F,T,F,F,F,F,F,F,F,F,F] (any_of HT_.out kr) ?_
              refine pu 12 (some 37) #[T,T,T,T,T,T,T,T,T,T,F,T,T,F,F,F,F,F,F,F,F] (any_of HT_.out kr) ?_
              refine pu 13 (some 38) #[T,T,T,T,T,T,T,T,T,T,F,T,T,T,F,F,F,F,F,F,F] (any_of HT_.out kr) ?_
              refine pu 14 (some 39) #[T,T,T,T,T,T,T,T,T,T,F,T,T,T,T,F,F,F,F,F,F] (any_of HT_.out kr) ?_
              refine pu 15 (some 40) #[T,T,T,T,T,T,T,T,T,T,F,T,T,T,T,T,F,F,F,F,F] (any_of HT_.out kr) ?_
              refine pu 17 (some 42) #[T,T,T,T,T,T,T,T,T,T,F,T,T,T,T,T,F,T,F,F,F] (any_of HT_.out kr) ?_
              refine tk8 10 (some 35) #[T,T,T,T,T,T,T,T,T,T,T,T,T,T,T,T,F,T,F,F,F] (take_ofW HT_.out HW_.out kr) ?_
              refine tk8 16 (some 41) #[T,T,T,T,T,T,T,T,T,T,T,T,T,T,T,T,T,T,F,F,F] (take_ofW HT_.out HW_.out kr) ?_
              refine one_ (i := 18) (N := some 43) #[T,T,T,T,T,T,T,T,T,T,T,T,T,T,T,T,T,T,T,F,F] rfl rfl (one_of HT_.out kr) (by decide) (fun K hK => ?_)
              refine goes_ Try.func71 kr rfl #[.agg #[.int .i64 a0_0, .slice A0_1 l0_1.length c0_1], .slice (some ad331) l1.length c1, .int .i64 ((rd_T41 l1 x5_1).f1), .int .i64 x6_3] (by rfl) rfl rfl lm ?_
              with_reducible refine (spec_l5From.calls k3 a0_0 _ _ l0_1 _ _ l1 ((rd_T41 l1 x5_1).f1) x6_3 true _ ?side1 ?side2 ?side3 ?side4 A17.out).mono ?_
              (case side1 => repeat (first | exact (Kd.C_below HR0_1.out HB.out) | (with_reducible refine Kd.C_alloc ?_ _) | (with_reducible refine Kd.C_drewN ?_ _) | (with_reducible refine Kd.C_drew ?_)))
              (case side2 => exact HC0_1.out)
              (case side3 => repeat (first | exact (Kd.C_below HR1.out HB.out) | (with_reducible refine Kd.C_alloc ?_ _) | (with_reducible refine Kd.C_drewN ?_ _) | (with_reducible refine Kd.C_drew ?_)))
              (case side4 => exact HC1.out)
              rintro e w22 ⟨rfl, hb⟩
              refine ⟨_, rfl, ?_⟩
              have n0_ := Aside0.mk (blk_below (bz BK328) hb)
              have n1_ := Aside0.mk (below_step bh hb)
              clear BK328 HB
              have BK328 := n0_
              have HB := n1_
              clear n0_ n1_
              (try clear hb)
              (try clear hb2)
              (try clear hk)
              (try clear hi)
              refine hK.out _ _ ⟨cz0 BK328, cz1 BK328, ((HB.out.cell (World.block_lt_of_cell? w _ hw331_0)).trans hw331_0), ((HB.out.cell (World.block_lt_of_cell? w _ hw331_1)).trans hw331_1), ((HB.out.cell (World.block_lt_of_cell? w _ hw331_2)).trans hw331_2), ((HB.out.cell (World.block_lt_of_cell? w _ hw333_0)).trans hw333_0), ((HB.out.cell (World.block_lt_of_cell? w _ hw333_1)).trans hw333_1), ((HB.out.cell (World.block_lt_of_cell? w _ hw333_2)).trans hw333_2)⟩ (fun hHeld => ?_)
              clear hK K
              refine norm_ (a' := ?_) ?_ ?_
              rotate_left
              ·show Act.put _ (some 43) _ = _
               simp only [Act.put, List.setIfInBounds_toArray, List.set_cons_zero, List.set_cons_succ, i64_w, i32_w]
               rfl
              refine pu 19 (some 44) #[T,T,T,T,T,T,T,T,T,T,T,T,T,T,T,T,T,T,T,T,F] (any_of HT_.out kr) ?_
              refine pu 20 (some 45) #[T,T,T,T,T,T,T,T,T,T,T,T,T,T,T,T,T,T,T,T,T] (any_of HT_.out kr) ?_
              refine done_ (done_of HT_.out kr) ?_
              try go_wp2
              go_roundg k3
              case measure => have := HK1.out; have := HJ3.out; have := HK3.out; omega
              case rel => exact ⟨(wrap64 (x6_3 + 1)), (by first | rfl | (simp; done) | (simp [*]; done)), H', ⟨by have := HK1.out; have := HJ3.out; have := HK3.out; omega⟩, ⟨bz BK328⟩, ⟨by exact bh⟩⟩
             ·replace c18 := Bool.eq_false_iff.mpr c18
              subst c18
              have H1 : (some false) = some r := by rw [if_neg (show ¬ (false = true) by decide)] at H; exact H
              clear H
              have H := H1
              clear H1
              obtain rfl := Option.some.inj H
              have hcz23_0 := cz0 BK328
              have hcz23_1 := cz1 BK328
              have hfz23_0 := blk_frozen BK328.out 0
              have hfz23_1 := blk_frozen BK328.out 1
              try go_wp2
              have n0_ := Aside0.mk (blk_drew BK328.out)
              have n1_ := Aside0.mk (below_drew1 HB.out)
              clear BK328 HB
              have BK328 := n0_
              have HB := n1_
              clear n0_ n1_
              have p331 : 0 ≤ (x5_1 : Int) := oda
              have q331 : x5_1 < (l1.length : Int) := oda
              obtain ⟨ad331, A331_0, c331_0, e331, hx331_0, hx331_1, hx331_2, hl331_0, hi331_0⟩ := at_T41 HR1.out x5_1 p331 q331
              have hw331_2 := hx331_2
              have hw331_1 := hx331_1
              have hw331_0 := hx331_0
              cases e331
              replace hx331_0 := (HB.out.cell (World.block_lt_of_cell? w _ hx331_0)).trans hx331_0
              replace hx331_1 := (HB.out.cell (World.block_lt_of_cell? w _ hx331_1)).trans hx331_1
              replace hx331_2 := (HB.out.cell (World.block_lt_of_cell? w _ hx331_2)).trans hx331_2
              have HR331_0 := Aside0.mk hi331_0
              have HC331_0 := Aside0.mk hl331_0
              clear hi331_0 hl331_0
              replace p331 := eq_true p331
              replace q331 := eq_true q331
              have p333 : 0 ≤ (x5_1 : Int) := oda
              have q333 : x5_1 < (l1.length : Int) := oda
              obtain ⟨ad333, A333_0, c333_0, e333, hx333_0, hx333_1, hx333_2, hl333_0, hi333_0⟩ := at_T41 HR1.out x5_1 p333 q333
              have hw333_2 := hx333_2
              have hw333_1 := hx333_1
              have hw333_0 := hx333_0
              obtain rfl : ad331 = ad333 := (by injection e333)
              replace hx333_0 := (HB.out.cell (World.block_lt_of_cell? w _ hx333_0)).trans hx333_0
              replace hx333_1 := (HB.out.cell (World.block_lt_of_cell? w _ hx333_1)).trans hx333_1
              replace hx333_2 := (HB.out.cell (World.block_lt_of_cell? w _ hx333_2)).trans hx333_2
              have HR333_0 := Aside0.mk hi333_0
              have HC333_0 := Aside0.mk hl333_0
              clear hi333_0 hl333_0
              replace p333 := eq_true p333
              replace q333 := eq_true q333
              refine start_ (n := 21) (S := fun w' => w'.cell? ⟨gb328, 0, none⟩ = some (.int .i64 a0_0) ∧ w'.cell? ⟨gb328, 1, none⟩ = some (.slice A0_1 l0_1.length c0_1) ∧ w'.cell? (ad331.add ((x5_1).toNat * 3)) = some (.slice A331_0 ((rd_T41 l1 x5_1).f0).length c331_0) ∧ w'.cell? ⟨(ad331.add ((x5_1).toNat * 3)).block, (ad331.add ((x5_1).toNat * 3)).off + 1, none⟩ = some (.int .i64 ((rd_T41 l1 x5_1).f1)) ∧ w'.cell? ⟨(ad331.add ((x5_1).toNat * 3)).block, (ad331.add ((x5_1).toNat * 3)).off + 2, none⟩ = some (.int .i64 ((rd_T41 l1 x5_1).f2)) ∧ w'.cell? (ad331.add ((x5_1).toNat * 3)) = some (.slice A333_0 ((rd_T41 l1 x5_1).f0).length c333_0) ∧ w'.cell? ⟨(ad331.add ((x5_1).toNat * 3)).block, (ad331.add ((x5_1).toNat * 3)).off + 1, none⟩ = some (.int .i64 ((rd_T41 l1 x5_1).f1)) ∧ w'.cell? ⟨(ad331.add ((x5_1).toNat * 3)).block, (ad331.add ((x5_1).toNat * 3)).off + 2, none⟩ = some (.int .i64 ((rd_T41 l1 x5_1).f2))) (ds := []) #[F,F,F,F,F,F,F,F,F,F,F,F,F,F,F,F,F,F,F,F,F] kr rfl rfl ⟨cz0 BK328, cz1 BK328, ((HB.out.cell (World.block_lt_of_cell? w _ hw331_0)).trans hw331_0), ((HB.out.cell (World.block_lt_of_cell? w _ hw331_1)).trans hw331_1), ((HB.out.cell (World.block_lt_of_cell? w _ hw331_2)).trans hw331_2), ((HB.out.cell (World.block_lt_of_cell? w _ hw333_0)).trans hw333_0), ((HB.out.cell (World.block_lt_of_cell? w _ hw333_1)).trans hw333_1), ((HB.out.cell (World.block_lt_of_cell? w _ hw333_2)).trans hw333_2)⟩ (fun hHeld => ?_); refine with_tabW spec_SoundOk.tab7 spec_SoundOk.bits7 (fun HT_ HW_ => ?_)
              generalize wr.drew = w24 at BK328 HB HR331_0 HR333_0 hx331_0 hx331_1 hx331_2 hx333_0 hx333_1 hx333_2 hHeld ⊢
              refine pu 1 (some 26) #[F,T,F,F,F,F,F,F,F,F,F,F,F,F,F,F,F,F,F,F,F] (any_of HT_.out kr) ?_
              refine pu 2 (some 27) #[F,T,T,F,F,F,F,F,F,F,F,F,F,F,F,F,F,F,F,F,F] (any_of HT_.out kr) ?_
              refine pu 3 (some 28) #[F,T,T,T,F,F,F,F,F,F,F,F,F,F,F,F,F,F,F,F,F] (any_of HT_.out kr) ?_
              refine pu 4 (some 29) #[F,T,T,T,T,F,F,F,F,F,F,F,F,F,F,F,F,F,F,F,F] (any_of HT_.out kr) ?_
              refine pu 5 (some 30) #[F,T,T,T,T,T,F,F,F,F,F,F,F,F,F,F,F,F,F,F,F] (any_of HT_.out kr) ?_
              refine pu 7 (some 32) #[F,T,T,T,T,T,F,T,F,F,F,F,F,F,F,F,F,F,F,F,F] (any_of HT_.out kr) ?_
              refine tk8 0 (some 25) #[T,T,T,T,T,T,F,T,F,F,F,F,F,F,F,F,F,F,F,F,F] (take_ofW HT_.out HW_.out kr) ?_
              refine tk8 6 (some 31) #[T,T,T,T,T,T,T,T,F,F,F,F,F,F,F,F,F,F,F,F,F] (take_ofW HT_.out HW_.out kr) ?_
              refine one_ (i := 8) (N := some 33) #[T,T,T,T,T,T,T,T,T,F,F,F,F,F,F,F,F,F,F,F,F] rfl rfl (one_of HT_.out kr) (by decide) (fun K hK => ?_)
              refine goes_ Try.func71 kr rfl #[.agg #[.int .i64 a0_0, .slice A0_1 l0_1.length c0_1], .slice (some ad331) l1.length c1, .int .i64 ((rd_T41 l1 x5_1).f2), .int .i64 x6_3] (by rfl) rfl rfl lm ?_
              with_reducible refine (spec_l5From.calls k3 a0_0 _ _ l0_1 _ _ l1 ((rd_T41 l1 x5_1).f2) x6_3 true _ ?side1 ?side2 ?side3 ?side4 A15.out).mono ?_
              (case side1 => repeat (first | exact (Kd.C_below HR0_1.out HB.out) | (with_reducible refine Kd.C_alloc ?_ _) | (with_reducible refine Kd.C_drewN ?_ _) | (with_reducible refine Kd.C_drew ?_)))
              (case side2 => exact HC0_1.out)
              (case side3 => repeat (first | exact (Kd.C_below HR1.out HB.out) | (with_reducible refine Kd.C_alloc ?_ _) | (with_reducible refine Kd.C_drewN ?_ _) | (with_reducible refine Kd.C_drew ?_)))
              (case side4 => exact HC1.out)
              rintro e w25 ⟨rfl, hb⟩
              refine ⟨_, rfl, ?_⟩
              have n0_ := Aside0.mk (blk_below (bz BK328) hb)
              have n1_ := Aside0.mk (below_step bh hb)
              clear BK328 HB
              have BK328 := n0_
              have HB := n1_
              clear n0_ n1_
              (try clear hb)
              (try clear hb2)
              (try clear hk)
              (try clear hi)
              refine hK.out _ _ ⟨cz0 BK328, cz1 BK328, ((HB.out.cell (World.block_lt_of_cell? w _ hw331_0)).trans hw331_0), ((HB.out.cell (World.block_lt_of_cell? w _ hw331_1)).trans hw331_1), ((HB.out.cell (World.block_lt_of_cell? w _ hw331_2)).trans hw331_2), ((HB.out.cell (World.block_lt_of_cell? w _ hw333_0)).trans hw333_0), ((HB.out.cell (World.block_lt_of_cell? w _ hw333_1)).trans hw333_1), ((HB.out.cell (World.block_lt_of_cell? w _ hw333_2)).trans hw333_2)⟩ (fun hHeld => ?_)
              clear hK K
              refine norm_ (a' := ?_) ?_ ?_
              rotate_left
              ·show Act.put _ (some 33) _ = _
               simp only [Act.put, List.setIfInBounds_toArray, List.set_cons_zero, List.set_cons_succ, i64_w, i32_w]
               rfl
              refine pu 9 (some 34) #[T,T,T,T,T,T,T,T,T,T,F,F,F,F,F,F,F,F,F,F,F] (any_of HT_.out kr) ?_
              refine pu 11 (some 36) #[T,T,T,T,T,T,T,T,T,T,F,T,F,F,F,F,F,F,F,F,F] (any_of HT_.out kr) ?_
              refine pu 12 (some 37) #[T,T,T,T,T,T,T,T,T,T,F,T,T,F,F,F,F,F,F,F,F] (any_of HT_.out kr) ?_
              refine pu 13 (some 38) #[T,T,T,T,T,T,T,T,T,T,F,T,T,T,F,F,F,F,F,F,F] (any_of HT_.out kr) ?_
              refine pu 14 (some 39) #[T,T,T,T,T,T,T,T,T,T,F,T,T,T,T,F,F,F,F,F,F] (any_of HT_.out kr) ?_
              refine pu 15 (some 40) #[T,T,T,T,T,T,T,T,T,T,F,T,T,T,T,T,F,F,F,F,F] (any_of HT_.out kr) ?_
              refine pu 17 (some 42) #[T,T,T,T,T,T,T,T,T,T,F,T,T,T,T,T,F,T,F,F,F] (any_of HT_.out kr) ?_
              refine tk8 10 (some 35) #[T,T,T,T,T,T,T,T,T,T,T,T,T,T,T,T,F,T,F,F,F] (take_ofW HT_.out HW_.out kr) ?_
              refine tk8 16 (some 41) #[T,T,T,T,T,T,T,T,T,T,T,T,T,T,T,T,T,T,F,F,F] (take_ofW HT_.out HW_.out kr) ?_
              refine one_ (i := 18) (N := some 43) #[T,T,T,T,T,T,T,T,T,T,T,T,T,T,T,T,T,T,T,F,F] rfl rfl (one_of HT_.out kr) (by decide) (fun K hK => ?_)
              refine goes_ Try.func71 kr rfl #[.agg #[.int .i64 a0_0, .slice A0_1 l0_1.length c0_1], .slice (some ad331) l1.length c1, .int .i64 ((rd_T41 l1 x5_1).f1), .int .i64 x6_3] (by rfl) rfl rfl lm ?_
              with_reducible refine (spec_l5From.calls k3 a0_0 _ _ l0_1 _ _ l1 ((rd_T41 l1 x5_1).f1) x6_3 false _ ?side1 ?side2 ?side3 ?side4 A17.out).mono ?_
              (case side1 => repeat (first | exact (Kd.C_below HR0_1.out HB.out) | (with_reducible refine Kd.C_alloc ?_ _) | (with_reducible refine Kd.C_drewN ?_ _) | (with_reducible refine Kd.C_drew ?_)))
              (case side2 => exact HC0_1.out)
              (case side3 => repeat (first | exact (Kd.C_below HR1.out HB.out) | (with_reducible refine Kd.C_alloc ?_ _) | (with_reducible refine Kd.C_drewN ?_ _) | (with_reducible refine Kd.C_drew ?_)))
              (case side4 => exact HC1.out)
              rintro e w26 ⟨rfl, hb⟩
              refine ⟨_, rfl, ?_⟩
              have n0_ := Aside0.mk (blk_below (bz BK328) hb)
              have n1_ := Aside0.mk (below_step bh hb)
              clear BK328 HB
              have BK328 := n0_
              have HB := n1_
              clear n0_ n1_
              (try clear hb)
              (try clear hb2)
              (try clear hk)
              (try clear hi)
              refine hK.out _ _ ⟨cz0 BK328, cz1 BK328, ((HB.out.cell (World.block_lt_of_cell? w _ hw331_0)).trans hw331_0), ((HB.out.cell (World.block_lt_of_cell? w _ hw331_1)).trans hw331_1), ((HB.out.cell (World.block_lt_of_cell? w _ hw331_2)).trans hw331_2), ((HB.out.cell (World.block_lt_of_cell? w _ hw333_0)).trans hw333_0), ((HB.out.cell (World.block_lt_of_cell? w _ hw333_1)).trans hw333_1), ((HB.out.cell (World.block_lt_of_cell? w _ hw333_2)).trans hw333_2)⟩ (fun hHeld => ?_)
              clear hK K
              refine norm_ (a' := ?_) ?_ ?_
              rotate_left
              ·show Act.put _ (some 43) _ = _
               simp only [Act.put, List.setIfInBounds_toArray, List.set_cons_zero, List.set_cons_succ, i64_w, i32_w]
               rfl
              refine pu 19 (some 44) #[T,T,T,T,T,T,T,T,T,T,T,T,T,T,T,T,T,T,T,T,F] (any_of HT_.out kr) ?_
              refine pu 20 (some 45) #[T,T,T,T,T,T,T,T,T,T,T,T,T,T,T,T,T,T,T,T,T] (any_of HT_.out kr) ?_
              refine done_ (done_of HT_.out kr) ?_
              try go_wp2
              go_ret
              exact ⟨by first | rfl | (simp [errW_none, errW_some] <;> rfl) | (simp only [← hji11]; first | rfl | (simp [errW_none, errW_some] <;> rfl)) | (simp [*, errW_none, errW_some] <;> rfl), by exact bh⟩
            ·replace c16 := Bool.eq_false_iff.mpr c16
             subst c16
             have H1 : (spec_SoundOk.l1 k3 l1 x5_1 (wrap64 (x6_3 + 1)) a0_0 l0_1) = some r := by rw [if_neg (show ¬ (false = true) by decide)] at H; exact H
             clear H
             have H := H1
             clear H1
             have H' := Aside0.mk H
             clear H
             have hcz27_0 := cz0 BK328
             have hcz27_1 := cz1 BK328
             have hfz27_0 := blk_frozen BK328.out 0
             have hfz27_1 := blk_frozen BK328.out 1
             try go_wp2
             have n0_ := Aside0.mk (blk_drew BK328.out)
             have n1_ := Aside0.mk (below_drew1 HB.out)
             clear BK328 HB
             have BK328 := n0_
             have HB := n1_
             clear n0_ n1_
             have p331 : 0 ≤ (x5_1 : Int) := oda
             have q331 : x5_1 < (l1.length : Int) := oda
             obtain ⟨ad331, A331_0, c331_0, e331, hx331_0, hx331_1, hx331_2, hl331_0, hi331_0⟩ := at_T41 HR1.out x5_1 p331 q331
             have hw331_2 := hx331_2
             have hw331_1 := hx331_1
             have hw331_0 := hx331_0
             cases e331
             replace hx331_0 := (HB.out.cell (World.block_lt_of_cell? w _ hx331_0)).trans hx331_0
             replace hx331_1 := (HB.out.cell (World.block_lt_of_cell? w _ hx331_1)).trans hx331_1
             replace hx331_2 := (HB.out.cell (World.block_lt_of_cell? w _ hx331_2)).trans hx331_2
             have HR331_0 := Aside0.mk hi331_0
             have HC331_0 := Aside0.mk hl331_0
             clear hi331_0 hl331_0
             replace p331 := eq_true p331
             replace q331 := eq_true q331
             refine start_ (n := 21) (S := fun w' => w'.cell? ⟨gb328, 0, none⟩ = some (.int .i64 a0_0) ∧ w'.cell? ⟨gb328, 1, none⟩ = some (.slice A0_1 l0_1.length c0_1) ∧ w'.cell? (ad331.add ((x5_1).toNat * 3)) = some (.slice A331_0 ((rd_T41 l1 x5_1).f0).length c331_0) ∧ w'.cell? ⟨(ad331.add ((x5_1).toNat * 3)).block, (ad331.add ((x5_1).toNat * 3)).off + 1, none⟩ = some (.int .i64 ((rd_T41 l1 x5_1).f1)) ∧ w'.cell? ⟨(ad331.add ((x5_1).toNat * 3)).block, (ad331.add ((x5_1).toNat * 3)).off + 2, none⟩ = some (.int .i64 ((rd_T41 l1 x5_1).f2))) (ds := []) #[F,F,F,F,F,F,F,F,F,F,F,F,F,F,F,F,F,F,F,F,F] kr rfl rfl ⟨cz0 BK328, cz1 BK328, ((HB.out.cell (World.block_lt_of_cell? w _ hw331_0)).trans hw331_0), ((HB.out.cell (World.block_lt_of_cell? w _ hw331_1)).trans hw331_1), ((HB.out.cell (World.block_lt_of_cell? w _ hw331_2)).trans hw331_2)⟩ (fun hHeld => ?_); refine with_tabW spec_SoundOk.tab7 spec_SoundOk.bits7 (fun HT_ HW_ => ?_)
             generalize wr.drew = w28 at BK328 HB HR331_0 hx331_0 hx331_1 hx331_2 hHeld ⊢
             refine pu 1 (some 26) #[F,T,F,F,F,F,F,F,F,F,F,F,F,F,F,F,F,F,F,F,F] (any_of HT_.out kr) ?_
             refine pu 2 (some 27) #[F,T,T,F,F,F,F,F,F,F,F,F,F,F,F,F,F,F,F,F,F] (any_of HT_.out kr) ?_
             refine pu 3 (some 28) #[F,T,T,T,F,F,F,F,F,F,F,F,F,F,F,F,F,F,F,F,F] (any_of HT_.out kr) ?_
             refine pu 4 (some 29) #[F,T,T,T,T,F,F,F,F,F,F,F,F,F,F,F,F,F,F,F,F] (any_of HT_.out kr) ?_
             refine pu 5 (some 30) #[F,T,T,T,T,T,F,F,F,F,F,F,F,F,F,F,F,F,F,F,F] (any_of HT_.out kr) ?_
             refine pu 7 (some 32) #[F,T,T,T,T,T,F,T,F,F,F,F,F,F,F,F,F,F,F,F,F] (any_of HT_.out kr) ?_
             refine tk5 0 (some 25) #[T,T,T,T,T,T,F,T,F,F,F,F,F,F,F,F,F,F,F,F,F] (take_ofW HT_.out HW_.out kr) ?_
             refine tk5 6 (some 31) #[T,T,T,T,T,T,T,T,F,F,F,F,F,F,F,F,F,F,F,F,F] (take_ofW HT_.out HW_.out kr) ?_
             refine one_ (i := 8) (N := some 33) #[T,T,T,T,T,T,T,T,T,F,F,F,F,F,F,F,F,F,F,F,F] rfl rfl (one_of HT_.out kr) (by decide) (fun K hK => ?_)
             refine goes_ Try.func71 kr rfl #[.agg #[.int .i64 a0_0, .slice A0_1 l0_1.length c0_1], .slice (some ad331) l1.length c1, .int .i64 ((rd_T41 l1 x5_1).f2), .int .i64 x6_3] (by rfl) rfl rfl lm ?_
             with_reducible refine (spec_l5From.calls k3 a0_0 _ _ l0_1 _ _ l1 ((rd_T41 l1 x5_1).f2) x6_3 false _ ?side1 ?side2 ?side3 ?side4 A15.out).mono ?_
             (case side1 => repeat (first | exact (Kd.C_below HR0_1.out HB.out) | (with_reducible refine Kd.C_alloc ?_ _) | (with_reducible refine Kd.C_drewN ?_ _) | (with_reducible refine Kd.C_drew ?_)))
             (case side2 => exact HC0_1.out)
             (case side3 => repeat (first | exact (Kd.C_below HR1.out HB.out) | (with_reducible refine Kd.C_alloc ?_ _) | (with_reducible refine Kd.C_drewN ?_ _) | (with_reducible refine Kd.C_drew ?_)))
             (case side4 => exact HC1.out)
             rintro e w29 ⟨rfl, hb⟩
             refine ⟨_, rfl, ?_⟩
             have n0_ := Aside0.mk (blk_below (bz BK328) hb)
             have n1_ := Aside0.mk (below_step bh hb)
             clear BK328 HB
             have BK328 := n0_
             have HB := n1_
             clear n0_ n1_
             (try clear hb)
             (try clear hb2)
             (try clear hk)
             (try clear hi)
             refine hK.out _ _ ⟨cz0 BK328, cz1 BK328, ((HB.out.cell (World.block_lt_of_cell? w _ hw331_0)).trans hw331_0), ((HB.out.cell (World.block_lt_of_cell? w _ hw331_1)).trans hw331_1), ((HB.out.cell (World.block_lt_of_cell? w _ hw331_2)).trans hw331_2)⟩ (fun hHeld => ?_)
             clear hK K
             refine norm_ (a' := ?_) ?_ ?_
             rotate_left
             ·show Act.put _ (some 33) _ = _
              simp only [Act.put, List.setIfInBounds_toArray, List.set_cons_zero, List.set_cons_succ, i64_w, i32_w]
              rfl
             refine pu 9 (some 34) #[T,T,T,T,T,T,T,T,T,T,F,F,F,F,F,F,F,F,F,F,F] (any_of HT_.out kr) ?_
             refine pure_ (i := 10) (N := some 35) (v := undef) (a' := ?_) #[T,T,T,T,T,T,T,T,T,T,T,F,F,F,F,F,F,F,F,F,F] rfl rfl (any_of HT_.out kr) (fun _ _ _ h => h) (Or.inr ⟨by rfl, rfl⟩) ?_ ?_
             rotate_left
             ·simp only [Act.put, List.setIfInBounds_toArray, List.set_cons_zero, List.set_cons_succ, i64_w, i32_w]
              rfl
             refine pure_ (i := 11) (N := some 36) (v := undef) (a' := ?_) #[T,T,T,T,T,T,T,T,T,T,T,T,F,F,F,F,F,F,F,F,F] rfl rfl (any_of HT_.out kr) (fun _ _ _ h => h) (Or.inr ⟨by rfl, rfl⟩) ?_ ?_
             rotate_left
             ·simp only [Act.put, List.setIfInBounds_toArray, List.set_cons_zero, List.set_cons_succ, i64_w, i32_w]
              rfl
             refine pure_ (i := 12) (N := some 37) (v := undef) (a' := ?_) #[T,T,T,T,T,T,T,T,T,T,T,T,T,F,F,F,F,F,F,F,F] rfl rfl (any_of HT_.out kr) (fun _ _ _ h => h) (Or.inr ⟨by rfl, rfl⟩) ?_ ?_
             rotate_left
             ·simp only [Act.put, List.setIfInBounds_toArray, List.set_cons_zero, List.set_cons_succ, i64_w, i32_w]
              rfl
             refine pure_ (i := 13) (N := some 38) (v := undef) (a' := ?_) #[T,T,T,T,T,T,T,T,T,T,T,T,T,T,F,F,F,F,F,F,F] rfl rfl (any_of HT_.out kr) (fun _ _ _ h => h) (Or.inr ⟨by rfl, rfl⟩) ?_ ?_
             rotate_left
             ·simp only [Act.put, List.setIfInBounds_toArray, List.set_cons_zero, List.set_cons_succ, i64_w, i32_w]
              rfl
             refine pure_ (i := 14) (N := some 39) (v := undef) (a' := ?_) #[T,T,T,T,T,T,T,T,T,T,T,T,T,T,T,F,F,F,F,F,F] rfl rfl (any_of HT_.out kr) (fun _ _ _ h => h) (Or.inr ⟨by rfl, rfl⟩) ?_ ?_
             rotate_left
             ·simp only [Act.put, List.setIfInBounds_toArray, List.set_cons_zero, List.set_cons_succ, i64_w, i32_w]
              rfl
             refine pure_ (i := 15) (N := some 40) (v := undef) (a' := ?_) #[T,T,T,T,T,T,T,T,T,T,T,T,T,T,T,T,F,F,F,F,F] rfl rfl (any_of HT_.out kr) (fun _ _ _ h => h) (Or.inr ⟨by rfl, rfl⟩) ?_ ?_
             rotate_left
             ·simp only [Act.put, List.setIfInBounds_toArray, List.set_cons_zero, List.set_cons_succ, i64_w, i32_w]
              rfl
             refine pure_ (i := 16) (N := some 41) (v := undef) (a' := ?_) #[T,T,T,T,T,T,T,T,T,T,T,T,T,T,T,T,T,F,F,F,F] rfl rfl (any_of HT_.out kr) (fun _ _ _ h => h) (Or.inr ⟨by rfl, rfl⟩) ?_ ?_
             rotate_left
             ·simp only [Act.put, List.setIfInBounds_toArray, List.set_cons_zero, List.set_cons_succ, i64_w, i32_w]
              rfl
             refine pure_ (i := 17) (N := some 42) (v := undef) (a' := ?_) #[T,T,T,T,T,T,T,T,T,T,T,T,T,T,T,T,T,T,F,F,F] rfl rfl (any_of HT_.out kr) (fun _ _ _ h => h) (Or.inr ⟨by rfl, rfl⟩) ?_ ?_
             rotate_left
             ·simp only [Act.put, List.setIfInBounds_toArray, List.set_cons_zero, List.set_cons_succ, i64_w, i32_w]
              rfl
             refine pure_ (i := 18) (N := some 43) (v := undef) (a' := ?_) #[T,T,T,T,T,T,T,T,T,T,T,T,T,T,T,T,T,T,T,F,F] rfl rfl (any_of HT_.out kr) (fun _ _ _ h => h) (Or.inr ⟨by rfl, rfl⟩) ?_ ?_
             rotate_left
             ·simp only [Act.put, List.setIfInBounds_toArray, List.set_cons_zero, List.set_cons_succ, i64_w, i32_w]
              rfl
             refine pure_ (i := 19) (N := some 44) (v := undef) (a' := ?_) #[T,T,T,T,T,T,T,T,T,T,T,T,T,T,T,T,T,T,T,T,F] rfl rfl (any_of HT_.out kr) (fun _ _ _ h => h) (Or.inr ⟨by rfl, rfl⟩) ?_ ?_
             rotate_left
             ·simp only [Act.put, List.setIfInBounds_toArray, List.set_cons_zero, List.set_cons_succ, i64_w, i32_w]
              rfl
             refine pu 20 (some 45) #[T,T,T,T,T,T,T,T,T,T,T,T,T,T,T,T,T,T,T,T,T] (any_of HT_.out kr) ?_
             refine done_ (done_of HT_.out kr) ?_
             try go_wp2
             go_roundg k3
             case measure => have := HK1.out; have := HJ3.out; have := HK3.out; omega
             case rel => exact ⟨(wrap64 (x6_3 + 1)), (by first | rfl | (simp; done) | (simp [*]; done)), H', ⟨by have := HK1.out; have := HJ3.out; have := HK3.out; omega⟩, ⟨bz BK328⟩, ⟨by exact bh⟩⟩
           ·rw [if_neg c14] at H
            exact absurd H (by simp)
          ·rw [if_neg c13] at H
           exact absurd H (by simp)
         ·rw [if_neg c12] at H
          have c12b0 : decide (x6_3 < (ji11)) = false := decide_eq_false c12
          clear c12
          have H' := Aside0.mk H
          clear H
          have hcz30_0 := cz0 BK328
          have hcz30_1 := cz1 BK328
          have hfz30_0 := blk_frozen BK328.out 0
          have hfz30_1 := blk_frozen BK328.out 1
          go_wp2
          go_roundg k3
          case measure => have := HK1.out; have := HJ3.out; have := HK3.out; omega
          case rel => exact ⟨(wrap64 (x5_1 + 1)), (by first | rfl | (simp; done) | (simp [*]; done)), H', ⟨by have := HK1.out; have := HJ3.out; have := HK3.out; omega⟩, ⟨bz BK328⟩, ⟨by exact bh⟩⟩
        ·rw [if_neg c10] at H
         exact absurd H (by simp)
     ·replace c9 := Bool.eq_false_iff.mpr c9
      subst c9
      have H1 : ((spec_ProcessOk.f kj3 a0_0 l0_1 l1).bind fun t330 => (some t330)) = some r := by rw [if_neg (show ¬ (false = true) by decide)] at H; exact H
      clear H
      have H := H1
      clear H1
      replace H := Option.bind_eq_some_iff.mp H
      obtain ⟨t330, A310, H⟩ := H
      replace H : (some t330) = some r := H
      have A31 := Aside0.mk A310
      clear A310
      obtain rfl := Option.some.inj H
      have hcz32_0 := cz0 BK328
      have hcz32_1 := cz1 BK328
      have hfz32_0 := blk_frozen BK328.out 0
      have hfz32_1 := blk_frozen BK328.out 1
      go_wp2_with (first | ((with_reducible refine gate_callee (f := 16) rfl ?_); refine goesL_ (some 48) rfl rfl Try.func16 kr rfl #[.agg #[.int .i64 a0_0, .slice A0_1 l0_1.length c0_1], .slice A1 l1.length c1] rfl lm ?_; (with_reducible refine (spec_ProcessOk.calls kj3 a0_0 _ _ l0_1 _ _ l1 t330 _ ?side1 ?side2 ?side3 ?side4 A31.out).mono ?_); (case side1 => repeat (first | exact (Kd.C_below HR0_1.out HB.out) | (with_reducible refine Kd.C_alloc ?_ _) | (with_reducible refine Kd.C_drewN ?_ _) | (with_reducible refine Kd.C_drew ?_))); (case side2 => exact HC0_1.out); (case side3 => repeat (first | exact (Kd.C_below HR1.out HB.out) | (with_reducible refine Kd.C_alloc ?_ _) | (with_reducible refine Kd.C_drewN ?_ _) | (with_reducible refine Kd.C_drew ?_))); (case side4 => exact HC1.out); rintro e w33 ⟨rfl, hb⟩; refine ⟨_, rfl, ?_⟩; have n0_ := Aside0.mk (blk_below (bz BK328) hb); have n1_ := Aside0.mk (below_step bh hb); clear BK328 HB; have BK328 := n0_; have HB := n1_; clear n0_ n1_; (try clear hb); (try clear hb2); (try clear hk); (try clear hi)))
      go_ret
      exact ⟨by first | rfl | (simp [errW_none, errW_some] <;> rfl) | (simp [*, errW_none, errW_some] <;> rfl), by exact bh⟩

end Go.Proofs.Ytnpjlpkbefdnlaa.QFnExactBillTerm
