-- Printed for this claim by a turned copy of the print (wip/myprint). Lean checks it. Squeezed. Worded. Tightened.
import Derived.Test.YtlpjkeejflogjaaQFnExactAfterDeathsx0
import Derived.Test.YtlpjkeejflogjaaQFnExactAfterDeathsx6
namespace Go.Proofs.Ytlpjkeejflogjaa.QFnExactAfterDeaths
open Go.RowKit Go.Proofs.YtlpjkeejflogjaaW.PrintWords Go.Proofs.YtlpjkeejflogjaaW.PrintLast Go.Proofs.YtlpjkeejflogjaaW.PrintMore
attribute [local go_sem] max2_int min2_int max_two min_two max_three min_three max_four min_four Opens.cell_twice   -- for this text's walks alone
set_option linter.unusedVariables false
set_option linter.unusedSimpArgs false

/-! ### spec_CourtOk: function 17 -/
mutual
def spec_CourtOk.j0 : Nat → Bool → Int → List (List Int) → List Int → Int → Option (Bool)
 | 0, _, _, _, _, _ => none
 | k + 1, x27, x239000, x239001, x239002, x239003 => if x27 = true then (some false) else (spec_CourtOk.l0 k 0 x239000 x239001 x239002 x239003)
def spec_CourtOk.l0 : Nat → Int → Int → List (List Int) → List Int → Int → Option (Bool)
 | 0, _, _, _, _, _ => none
 | k + 1, x3, x239000, x239001, x239002, x239003 => if x3 < (x239001.length : Int) then (if 0 ≤ x3 then (if ((rd_L1 x239001 x3).length : Int) > 6 then (spec_CourtOk.j2 k x3 true x239000 x239001 x239002 x239003) else (if x3 < (x239002.length : Int) then ((spec_l1In.f (rd x239002 x3) (-1) (wrap64 (x239000 - 1))).bind fun t242 => (spec_CourtOk.j2 k x3 (!t242) x239000 x239001 x239002 x239003)) else (none))) else (none)) else (some true)
def spec_CourtOk.j2 : Nat → Int → Bool → Int → List (List Int) → List Int → Int → Option (Bool)
 | 0, _, _, _, _, _, _ => none
 | k + 1, x3, x53, x239000, x239001, x239002, x239003 => if x53 = true then (some false) else (spec_CourtOk.l1 k x3 0 x239000 x239001 x239002 x239003)
def spec_CourtOk.l1 : Nat → Int → Int → Int → List (List Int) → List Int → Int → Option (Bool)
 | 0, _, _, _, _, _, _ => none
 | k + 1, x3, x4, x239000, x239001, x239002, x239003 => if 0 ≤ x3 then (if x3 < (x239001.length : Int) then (if x4 < ((rd_L1 x239001 x3).length : Int) then (if 0 ≤ x4 then ((spec_l1In.f (rd (rd_L1 x239001 x3) x4) 0 (wrap64 (x239000 - 1))).bind fun t246 => (if t246 = true then (spec_CourtOk.l2 k x3 x4 0 x239000 x239001 x239002 x239003) else (some false))) else (none)) else (if x3 < (x239002.length : Int) then (if (rd x239002 x3) = (-1) then (spec_CourtOk.j5 k x3 false x239000 x239001 x239002 x239003) else (if 0 ≤ (rd x239002 x3) then (spec_CourtOk.j5 k x3 ((Int.tmod (shr .i64 x239003 (rd x239002 x3)) 2) == 0) x239000 x239001 x239002 x239003) else (none))) else (none))) else (none)) else (none)
def spec_CourtOk.l2 : Nat → Int → Int → Int → Int → List (List Int) → List Int → Int → Option (Bool)
 | 0, _, _, _, _, _, _, _ => none
 | k + 1, x3, x4, x5, x239000, x239001, x239002, x239003 => if x5 < x4 then (if 0 ≤ x3 then (if x3 < (x239001.length : Int) then (if 0 ≤ x5 then (if x5 < ((rd_L1 x239001 x3).length : Int) then (if 0 ≤ x4 then (if x4 < ((rd_L1 x239001 x3).length : Int) then (if (rd (rd_L1 x239001 x3) x5) = (rd (rd_L1 x239001 x3) x4) then (some false) else (spec_CourtOk.l2 k x3 x4 (wrap64 (x5 + 1)) x239000 x239001 x239002 x239003)) else (none)) else (none)) else (none)) else (none)) else (none)) else (none)) else (spec_CourtOk.l1 k x3 (wrap64 (x4 + 1)) x239000 x239001 x239002 x239003)
def spec_CourtOk.j5 : Nat → Int → Bool → Int → List (List Int) → List Int → Int → Option (Bool)
 | 0, _, _, _, _, _, _ => none
 | k + 1, x3, x116, x239000, x239001, x239002, x239003 => if x116 = true then (some false) else (spec_CourtOk.l3 k x3 0 x239000 x239001 x239002 x239003)
def spec_CourtOk.l3 : Nat → Int → Int → Int → List (List Int) → List Int → Int → Option (Bool)
 | 0, _, _, _, _, _, _ => none
 | k + 1, x3, x6, x239000, x239001, x239002, x239003 => if x6 < x3 then (if 0 ≤ x3 then (if x3 < (x239002.length : Int) then (if (rd x239002 x3) = (-1) then (spec_CourtOk.l3 k x3 (wrap64 (x6 + 1)) x239000 x239001 x239002 x239003) else (if 0 ≤ x6 then (if x6 < (x239002.length : Int) then (if (rd x239002 x3) = (rd x239002 x6) then (some false) else (spec_CourtOk.l3 k x3 (wrap64 (x6 + 1)) x239000 x239001 x239002 x239003)) else (none)) else (none))) else (none)) else (none)) else (spec_CourtOk.l0 k (wrap64 (x3 + 1)) x239000 x239001 x239002 x239003)
end
def spec_CourtOk.f (k : Nat) (a0_0 : Int) (l0_1 : List (List Int)) (l0_2 : List Int) (a0_3 : Int) : Option (Bool) := (spec_CrowdOk.f a0_0 a0_3).bind fun t239 => (if t239 = true then (if (l0_1.length : Int) > 3 then (spec_CourtOk.j0 k true a0_0 l0_1 l0_2 a0_3) else (spec_CourtOk.j0 k ((l0_2.length : Int) != (l0_1.length : Int)) a0_0 l0_1 l0_2 a0_3)) else (spec_CourtOk.j0 k true a0_0 l0_1 l0_2 a0_3))
theorem spec_CourtOk.mono_l : ∀ k, (∀ y0 y1 y2 y3 y4, LeO (spec_CourtOk.j0 k y0 y1 y2 y3 y4) (spec_CourtOk.j0 (k + 1) y0 y1 y2 y3 y4)) ∧ (∀ y0 y1 y2 y3 y4, LeO (spec_CourtOk.l0 k y0 y1 y2 y3 y4) (spec_CourtOk.l0 (k + 1) y0 y1 y2 y3 y4)) ∧ (∀ y0 y1 y2 y3 y4 y5, LeO (spec_CourtOk.j2 k y0 y1 y2 y3 y4 y5) (spec_CourtOk.j2 (k + 1) y0 y1 y2 y3 y4 y5)) ∧ (∀ y0 y1 y2 y3 y4 y5, LeO (spec_CourtOk.l1 k y0 y1 y2 y3 y4 y5) (spec_CourtOk.l1 (k + 1) y0 y1 y2 y3 y4 y5)) ∧ (∀ y0 y1 y2 y3 y4 y5 y6, LeO (spec_CourtOk.l2 k y0 y1 y2 y3 y4 y5 y6) (spec_CourtOk.l2 (k + 1) y0 y1 y2 y3 y4 y5 y6)) ∧ (∀ y0 y1 y2 y3 y4 y5, LeO (spec_CourtOk.j5 k y0 y1 y2 y3 y4 y5) (spec_CourtOk.j5 (k + 1) y0 y1 y2 y3 y4 y5)) ∧ (∀ y0 y1 y2 y3 y4 y5, LeO (spec_CourtOk.l3 k y0 y1 y2 y3 y4 y5) (spec_CourtOk.l3 (k + 1) y0 y1 y2 y3 y4 y5))
 | 0 => ⟨fun _ _ _ _ _ r h => by simp [spec_CourtOk.j0] at h, fun _ _ _ _ _ r h => by simp [spec_CourtOk.l0] at h, fun _ _ _ _ _ _ r h => by simp [spec_CourtOk.j2] at h, fun _ _ _ _ _ _ r h => by simp [spec_CourtOk.l1] at h, fun _ _ _ _ _ _ _ r h => by simp [spec_CourtOk.l2] at h, fun _ _ _ _ _ _ r h => by simp [spec_CourtOk.j5] at h, fun _ _ _ _ _ _ r h => by simp [spec_CourtOk.l3] at h⟩
 | k + 1 => by
  obtain ⟨ih0, ih1, ih2, ih3, ih4, ih5, ih6⟩ := spec_CourtOk.mono_l k
  refine ⟨?_, ?_, ?_, ?_, ?_, ?_, ?_⟩
  ·intro y0 y1 y2 y3 y4
   unfold spec_CourtOk.j0
   repeat' first
   | (with_reducible exact ih0 _ _ _ _ _)
   | (with_reducible exact ih1 _ _ _ _ _)
   | (with_reducible exact ih2 _ _ _ _ _ _)
   | (with_reducible exact ih3 _ _ _ _ _ _)
   | (with_reducible exact ih4 _ _ _ _ _ _ _)
   | (with_reducible exact ih5 _ _ _ _ _ _)
   | (with_reducible exact ih6 _ _ _ _ _ _)
   | (with_reducible exact LeO.refl _)
   | (with_reducible exact LeO.none _)
   | (with_reducible refine LeO.ite ?_ ?_)
   | (with_reducible refine LeO.bind ?_ (fun _ => ?_))
   | exact ih0 _ _ _ _ _
   | exact ih1 _ _ _ _ _
   | exact ih2 _ _ _ _ _ _
   | exact ih3 _ _ _ _ _ _
   | exact ih4 _ _ _ _ _ _ _
   | exact ih5 _ _ _ _ _ _
   | exact ih6 _ _ _ _ _ _
   | exact LeO.none _
   | refine LeO.ite ?_ ?_
   | refine LeO.bind ?_ (fun _ => ?_)
  ·intro y0 y1 y2 y3 y4
   unfold spec_CourtOk.l0
   repeat' first
   | (with_reducible exact ih0 _ _ _ _ _)
   | (with_reducible exact ih1 _ _ _ _ _)
   | (with_reducible exact ih2 _ _ _ _ _ _)
   | (with_reducible exact ih3 _ _ _ _ _ _)
   | (with_reducible exact ih4 _ _ _ _ _ _ _)
   | (with_reducible exact ih5 _ _ _ _ _ _)
   | (with_reducible exact ih6 _ _ _ _ _ _)
   | (with_reducible exact LeO.refl _)
   | (with_reducible exact LeO.none _)
   | (with_reducible refine LeO.ite ?_ ?_)
   | (with_reducible refine LeO.bind ?_ (fun _ => ?_))
   | exact ih0 _ _ _ _ _
   | exact ih1 _ _ _ _ _
   | exact ih2 _ _ _ _ _ _
   | exact ih3 _ _ _ _ _ _
   | exact ih4 _ _ _ _ _ _ _
   | exact ih5 _ _ _ _ _ _
   | exact ih6 _ _ _ _ _ _
   | exact LeO.none _
   | refine LeO.ite ?_ ?_
   | refine LeO.bind ?_ (fun _ => ?_)
  ·intro y0 y1 y2 y3 y4 y5
   unfold spec_CourtOk.j2
   repeat' first
   | (with_reducible exact ih0 _ _ _ _ _)
   | (with_reducible exact ih1 _ _ _ _ _)
   | (with_reducible exact ih2 _ _ _ _ _ _)
   | (with_reducible exact ih3 _ _ _ _ _ _)
   | (with_reducible exact ih4 _ _ _ _ _ _ _)
   | (with_reducible exact ih5 _ _ _ _ _ _)
   | (with_reducible exact ih6 _ _ _ _ _ _)
   | (with_reducible exact LeO.refl _)
   | (with_reducible exact LeO.none _)
   | (with_reducible refine LeO.ite ?_ ?_)
   | (with_reducible refine LeO.bind ?_ (fun _ => ?_))
   | exact ih0 _ _ _ _ _
   | exact ih1 _ _ _ _ _
   | exact ih2 _ _ _ _ _ _
   | exact ih3 _ _ _ _ _ _
   | exact ih4 _ _ _ _ _ _ _
   | exact ih5 _ _ _ _ _ _
   | exact ih6 _ _ _ _ _ _
   | exact LeO.none _
   | refine LeO.ite ?_ ?_
   | refine LeO.bind ?_ (fun _ => ?_)
  ·intro y0 y1 y2 y3 y4 y5
   unfold spec_CourtOk.l1
   repeat' first
   | (with_reducible exact ih0 _ _ _ _ _)
   | (with_reducible exact ih1 _ _ _ _ _)
   | (with_reducible exact ih2 _ _ _ _ _ _)
   | (with_reducible exact ih3 _ _ _ _ _ _)
   | (with_reducible exact ih4 _ _ _ _ _ _ _)
   | (with_reducible exact ih5 _ _ _ _ _ _)
   | (with_reducible exact ih6 _ _ _ _ _ _)
   | (with_reducible exact LeO.refl _)
   | (with_reducible exact LeO.none _)
   | (with_reducible refine LeO.ite ?_ ?_)
   | (with_reducible refine LeO.bind ?_ (fun _ => ?_))
   | exact ih0 _ _ _ _ _
   | exact ih1 _ _ _ _ _
   | exact ih2 _ _ _ _ _ _
   | exact ih3 _ _ _ _ _ _
   | exact ih4 _ _ _ _ _ _ _
   | exact ih5 _ _ _ _ _ _
   | exact ih6 _ _ _ _ _ _
   | exact LeO.none _
   | refine LeO.ite ?_ ?_
   | refine LeO.bind ?_ (fun _ => ?_)
  ·intro y0 y1 y2 y3 y4 y5 y6
   unfold spec_CourtOk.l2
   repeat' first
   | (with_reducible exact ih0 _ _ _ _ _)
   | (with_reducible exact ih1 _ _ _ _ _)
   | (with_reducible exact ih2 _ _ _ _ _ _)
   | (with_reducible exact ih3 _ _ _ _ _ _)
   | (with_reducible exact ih4 _ _ _ _ _ _ _)
   | (with_reducible exact ih5 _ _ _ _ _ _)
   | (with_reducible exact ih6 _ _ _ _ _ _)
   | (with_reducible exact LeO.refl _)
   | (with_reducible exact LeO.none _)
   | (with_reducible refine LeO.ite ?_ ?_)
   | (with_reducible refine LeO.bind ?_ (fun _ => ?_))
   | exact ih0 _ _ _ _ _
   | exact ih1 _ _ _ _ _
   | exact ih2 _ _ _ _ _ _
   | exact ih3 _ _ _ _ _ _
   | exact ih4 _ _ _ _ _ _ _
   | exact ih5 _ _ _ _ _ _
   | exact ih6 _ _ _ _ _ _
   | exact LeO.none _
   | refine LeO.ite ?_ ?_
   | refine LeO.bind ?_ (fun _ => ?_)
  ·intro y0 y1 y2 y3 y4 y5
   unfold spec_CourtOk.j5
   repeat' first
   | (with_reducible exact ih0 _ _ _ _ _)
   | (with_reducible exact ih1 _ _ _ _ _)
   | (with_reducible exact ih2 _ _ _ _ _ _)
   | (with_reducible exact ih3 _ _ _ _ _ _)
   | (with_reducible exact ih4 _ _ _ _ _ _ _)
   | (with_reducible exact ih5 _ _ _ _ _ _)
   | (with_reducible exact ih6 _ _ _ _ _ _)
   | (with_reducible exact LeO.refl _)
   | (with_reducible exact LeO.none _)
   | (with_reducible refine LeO.ite ?_ ?_)
   | (with_reducible refine LeO.bind ?_ (fun _ => ?_))
   | exact ih0 _ _ _ _ _
   | exact ih1 _ _ _ _ _
   | exact ih2 _ _ _ _ _ _
   | exact ih3 _ _ _ _ _ _
   | exact ih4 _ _ _ _ _ _ _
   | exact ih5 _ _ _ _ _ _
   | exact ih6 _ _ _ _ _ _
   | exact LeO.none _
   | refine LeO.ite ?_ ?_
   | refine LeO.bind ?_ (fun _ => ?_)
  ·intro y0 y1 y2 y3 y4 y5
   unfold spec_CourtOk.l3
   repeat' first
   | (with_reducible exact ih0 _ _ _ _ _)
   | (with_reducible exact ih1 _ _ _ _ _)
   | (with_reducible exact ih2 _ _ _ _ _ _)
   | (with_reducible exact ih3 _ _ _ _ _ _)
   | (with_reducible exact ih4 _ _ _ _ _ _ _)
   | (with_reducible exact ih5 _ _ _ _ _ _)
   | (with_reducible exact ih6 _ _ _ _ _ _)
   | (with_reducible exact LeO.refl _)
   | (with_reducible exact LeO.none _)
   | (with_reducible refine LeO.ite ?_ ?_)
   | (with_reducible refine LeO.bind ?_ (fun _ => ?_))
   | exact ih0 _ _ _ _ _
   | exact ih1 _ _ _ _ _
   | exact ih2 _ _ _ _ _ _
   | exact ih3 _ _ _ _ _ _
   | exact ih4 _ _ _ _ _ _ _
   | exact ih5 _ _ _ _ _ _
   | exact ih6 _ _ _ _ _ _
   | exact LeO.none _
   | refine LeO.ite ?_ ?_
   | refine LeO.bind ?_ (fun _ => ?_)
theorem spec_CourtOk.mono : ∀ a0 a1 a2 a3 k, LeO (spec_CourtOk.f k a0 a1 a2 a3) (spec_CourtOk.f (k + 1) a0 a1 a2 a3) := by
 intro a0 a1 a2 a3 k
 obtain ⟨ih0, ih1, ih2, ih3, ih4, ih5, ih6⟩ := spec_CourtOk.mono_l k
 unfold spec_CourtOk.f
 repeat' first
   | (with_reducible exact ih0 _ _ _ _ _)
   | (with_reducible exact ih1 _ _ _ _ _)
   | (with_reducible exact ih2 _ _ _ _ _ _)
   | (with_reducible exact ih3 _ _ _ _ _ _)
   | (with_reducible exact ih4 _ _ _ _ _ _ _)
   | (with_reducible exact ih5 _ _ _ _ _ _)
   | (with_reducible exact ih6 _ _ _ _ _ _)
   | (with_reducible exact LeO.refl _)
   | (with_reducible exact LeO.none _)
   | (with_reducible refine LeO.ite ?_ ?_)
   | (with_reducible refine LeO.bind ?_ (fun _ => ?_))
   | exact ih0 _ _ _ _ _
   | exact ih1 _ _ _ _ _
   | exact ih2 _ _ _ _ _ _
   | exact ih3 _ _ _ _ _ _
   | exact ih4 _ _ _ _ _ _ _
   | exact ih5 _ _ _ _ _ _
   | exact ih6 _ _ _ _ _ _
   | exact LeO.none _
   | refine LeO.ite ?_ ?_
   | refine LeO.bind ?_ (fun _ => ?_)
set_option maxHeartbeats 8000000 in
set_option maxRecDepth 100000 in
theorem spec_CourtOk.calls (k : Nat) (a0_0 : Int) (A0_1 : Option Addr) (c0_1 : Nat) (l0_1 : List (List Int)) (A0_2 : Option Addr) (c0_2 : Nat) (l0_2 : List Int) (a0_3 : Int) (r : Bool) (w : World) (hr0_1 : Kd.C (Kd.slice 3 (Kd.int .i64)) w A0_1 l0_1.length l0_1) (hc0_1 : l0_1.length ≤ c0_1) (hr0_2 : Kd.C (Kd.int .i64) w A0_2 l0_2.length l0_2) (hc0_2 : l0_2.length ≤ c0_2) (h : spec_CourtOk.f k a0_0 l0_1 l0_2 a0_3 = some r) :
  Calls Try.prog 17 #[.agg #[.int .i64 a0_0, .slice A0_1 l0_1.length c0_1, .slice A0_2 l0_2.length c0_2, .int .i64 a0_3]] w fun e w' => e = .returned (.bool r) ∧ Below w.heap.size w w' := by
 have hu28 := Try.underlying28
 have HR0_1 := Aside0.mk hr0_1
 have HC0_1 := Aside0.mk hc0_1
 clear hr0_1 hc0_1
 have HR0_2 := Aside0.mk hr0_2
 have HC0_2 := Aside0.mk hc0_2
 clear hr0_2 hc0_2
 have HB := Aside0.mk (Below.refl w.heap.size w)
 have H : ((spec_CrowdOk.f a0_0 a0_3).bind fun t239 => (if t239 = true then (if (l0_1.length : Int) > 3 then (spec_CourtOk.j0 k true a0_0 l0_1 l0_2 a0_3) else (spec_CourtOk.j0 k ((l0_2.length : Int) != (l0_1.length : Int)) a0_0 l0_1 l0_2 a0_3)) else (spec_CourtOk.j0 k true a0_0 l0_1 l0_2 a0_3))) = some r := h
 clear h
 have HC2 := Aside0.mk H
 clear H
 go_enter Try.func17, Try.ntmps17
 go_upto_region 1 with (first | ((with_reducible refine gate_dst (N := 1) rfl ?_); (try (refine gate_guard (by rfl) ?_; dsimp only)); refine box_event ?hg (N := 1) ?hd (cs := #[.int .i64 a0_0, .slice A0_1 l0_1.length c0_1, .slice A0_2 l0_2.length c0_2, .int .i64 a0_3]) (t := 28) ?hr ?_; (case hd => rfl); (case hg => rfl); (case hr => first | (go_simp; done) | (go_simp; rfl)); intro gb238 hg w3 hbox hb; have n0_ := Aside0.mk (below_step bh hb); have n1_ := Aside0.mk (hbox); have n2_ := Aside0.mk ((gs (W0 := w) hg bh)); have n3_ := Aside0.mk ((gs (W0 := w) hg bh)); clear HB; have HB := n0_; have BK238 := n1_; have GW238 := n2_; have GE238 := n3_; clear n0_ n1_ n2_ n3_ hb hbox hg))
 repeat (go_quiet (first | ((with_reducible refine gate_dst (N := 1) rfl ?_); (try (refine gate_guard (by rfl) ?_; dsimp only)); refine box_event ?hg (N := 1) ?hd (cs := #[.int .i64 a0_0, .slice A0_1 l0_1.length c0_1, .slice A0_2 l0_2.length c0_2, .int .i64 a0_3]) (t := 28) ?hr ?_; (case hd => rfl); (case hg => rfl); (case hr => first | (go_simp; done) | (go_simp; rfl)); intro gb238 hg w3 hbox hb; have n0_ := Aside0.mk (below_step bh hb); have n1_ := Aside0.mk (hbox); have n2_ := Aside0.mk ((gs (W0 := w) hg bh)); have n3_ := Aside0.mk ((gs (W0 := w) hg bh)); clear HB; have HB := n0_; have BK238 := n1_; have GW238 := n2_; have GE238 := n3_; clear n0_ n1_ n2_ n3_ hb hbox hg)); go_upto_region 1 with (first | ((with_reducible refine gate_dst (N := 1) rfl ?_); (try (refine gate_guard (by rfl) ?_; dsimp only)); refine box_event ?hg (N := 1) ?hd (cs := #[.int .i64 a0_0, .slice A0_1 l0_1.length c0_1, .slice A0_2 l0_2.length c0_2, .int .i64 a0_3]) (t := 28) ?hr ?_; (case hd => rfl); (case hg => rfl); (case hr => first | (go_simp; done) | (go_simp; rfl)); intro gb238 hg w3 hbox hb; have n0_ := Aside0.mk (below_step bh hb); have n1_ := Aside0.mk (hbox); have n2_ := Aside0.mk ((gs (W0 := w) hg bh)); have n3_ := Aside0.mk ((gs (W0 := w) hg bh)); clear HB; have HB := n0_; have BK238 := n1_; have GW238 := n2_; have GE238 := n3_; clear n0_ n1_ n2_ n3_ hb hbox hg)))
 (try simp only [Act.put, List.setIfInBounds_toArray, List.set_cons_zero, List.set_cons_succ])
 go_cut [27] (fun v27 wc => ∃ (kq : Nat) (x27_1 : Bool), v27 = .bool x27_1 ∧ Aside0 (spec_CourtOk.j0 kq x27_1 a0_0 l0_1 l0_2 a0_3 = some r) ∧ Aside0 (kq ≤ k) ∧ Aside0 (wc.heap[gb238]? = some (.cells #[.int .i64 a0_0, (.slice A0_1 l0_1.length c0_1), (.slice A0_2 l0_2.length c0_2), .int .i64 a0_3] 28 (0, 0))) ∧ Aside0 (Below w.heap.size w wc))
 case first =>
  have H := HC2.out
  clear HC2
  replace H := Option.bind_eq_some_iff.mp H
  obtain ⟨t239, A40, H⟩ := H
  replace H : (if t239 = true then (if (l0_1.length : Int) > 3 then (spec_CourtOk.j0 k true a0_0 l0_1 l0_2 a0_3) else (spec_CourtOk.j0 k ((l0_2.length : Int) != (l0_1.length : Int)) a0_0 l0_1 l0_2 a0_3)) else (spec_CourtOk.j0 k true a0_0 l0_1 l0_2 a0_3)) = some r := H
  have A4 := Aside0.mk A40
  clear A40
  by_cases c5 : t239 = true
  ·subst c5
   have H1 : (if (l0_1.length : Int) > 3 then (spec_CourtOk.j0 k true a0_0 l0_1 l0_2 a0_3) else (spec_CourtOk.j0 k ((l0_2.length : Int) != (l0_1.length : Int)) a0_0 l0_1 l0_2 a0_3)) = some r := by rw [if_pos rfl] at H; exact H
   clear H
   have H := H1
   clear H1
   by_cases c6 : (l0_1.length : Int) > 3
   ·rw [if_pos c6] at H
    have c6b0 : decide (3 < (l0_1.length : Int)) = true := decide_eq_true c6
    have c6b1 : decide (3 < l0_1.length) = true := decide_eq_true (by omega)
    clear c6
    (first | rw [c6b0] | (simp only [i64_w, i32_w]; rw [c6b0]) | skip)
    have H' := Aside0.mk H
    clear H
    have hcz7_0 := cz0 BK238
    have hcz7_1 := cz1 BK238
    have hcz7_2 := cz2 BK238
    have hcz7_3 := cz3 BK238
    have hfz7_0 := blk_frozen BK238.out 0
    have hfz7_1 := blk_frozen BK238.out 1
    have hfz7_2 := blk_frozen BK238.out 2
    have hfz7_3 := blk_frozen BK238.out 3
    go_wp2_with (first | (go_at_call 51; (with_reducible refine (spec_CrowdOk.calls a0_0 a0_3 true _ A4.out).mono ?_); rintro e w' ⟨rfl, ⟨nd, rfl⟩⟩; (try first | exact ⟨rfl, _, World.drewN_drewN _ _ _⟩ | exact ⟨rfl, _, Eq.trans (World.drewN_drewN _ _ _) (congrArg (World.drewN _) (Nat.add_assoc _ _ _))⟩)))
    repeat (go_quiet (first | (go_at_call 51; (with_reducible refine (spec_CrowdOk.calls a0_0 a0_3 true _ A4.out).mono ?_); rintro e w' ⟨rfl, ⟨nd, rfl⟩⟩; (try first | exact ⟨rfl, _, World.drewN_drewN _ _ _⟩ | exact ⟨rfl, _, Eq.trans (World.drewN_drewN _ _ _) (congrArg (World.drewN _) (Nat.add_assoc _ _ _))⟩))); try go_wp2_with (first | (go_at_call 51; (with_reducible refine (spec_CrowdOk.calls a0_0 a0_3 true _ A4.out).mono ?_); rintro e w' ⟨rfl, ⟨nd, rfl⟩⟩; (try first | exact ⟨rfl, _, World.drewN_drewN _ _ _⟩ | exact ⟨rfl, _, Eq.trans (World.drewN_drewN _ _ _) (congrArg (World.drewN _) (Nat.add_assoc _ _ _))⟩))))
    go_meet
    case rel => exact ⟨_, (true), (by first | rfl | (simp; done) | (simp [*]; done)), H', ⟨by first | omega | exact Nat.le_refl _⟩, ⟨bz BK238⟩, ⟨by exact bh⟩⟩
   ·rw [if_neg c6] at H
    have c6b0 : decide (3 < (l0_1.length : Int)) = false := decide_eq_false c6
    have c6b1 : decide (3 < l0_1.length) = false := decide_eq_false (by omega)
    clear c6
    (first | rw [c6b0] | (simp only [i64_w, i32_w]; rw [c6b0]) | skip)
    have H' := Aside0.mk H
    clear H
    have hcz8_0 := cz0 BK238
    have hcz8_1 := cz1 BK238
    have hcz8_2 := cz2 BK238
    have hcz8_3 := cz3 BK238
    have hfz8_0 := blk_frozen BK238.out 0
    have hfz8_1 := blk_frozen BK238.out 1
    have hfz8_2 := blk_frozen BK238.out 2
    have hfz8_3 := blk_frozen BK238.out 3
    go_wp2_with (first | (go_at_call 51; (with_reducible refine (spec_CrowdOk.calls a0_0 a0_3 true _ A4.out).mono ?_); rintro e w' ⟨rfl, ⟨nd, rfl⟩⟩; (try first | exact ⟨rfl, _, World.drewN_drewN _ _ _⟩ | exact ⟨rfl, _, Eq.trans (World.drewN_drewN _ _ _) (congrArg (World.drewN _) (Nat.add_assoc _ _ _))⟩)))
    repeat (go_quiet (first | (go_at_call 51; (with_reducible refine (spec_CrowdOk.calls a0_0 a0_3 true _ A4.out).mono ?_); rintro e w' ⟨rfl, ⟨nd, rfl⟩⟩; (try first | exact ⟨rfl, _, World.drewN_drewN _ _ _⟩ | exact ⟨rfl, _, Eq.trans (World.drewN_drewN _ _ _) (congrArg (World.drewN _) (Nat.add_assoc _ _ _))⟩))); try go_wp2_with (first | (go_at_call 51; (with_reducible refine (spec_CrowdOk.calls a0_0 a0_3 true _ A4.out).mono ?_); rintro e w' ⟨rfl, ⟨nd, rfl⟩⟩; (try first | exact ⟨rfl, _, World.drewN_drewN _ _ _⟩ | exact ⟨rfl, _, Eq.trans (World.drewN_drewN _ _ _) (congrArg (World.drewN _) (Nat.add_assoc _ _ _))⟩))))
    go_meet
    case rel => exact ⟨_, (((l0_2.length : Int) != (l0_1.length : Int))), (by first | rfl | (simp; done) | (simp [*]; done)), H', ⟨by first | omega | exact Nat.le_refl _⟩, ⟨bz BK238⟩, ⟨by exact bh⟩⟩
  ·replace c5 := Bool.eq_false_iff.mpr c5
   subst c5
   have H1 : (spec_CourtOk.j0 k true a0_0 l0_1 l0_2 a0_3) = some r := by rw [if_neg (show ¬ (false = true) by decide)] at H; exact H
   clear H
   have H := H1
   clear H1
   have H' := Aside0.mk H
   clear H
   have hcz9_0 := cz0 BK238
   have hcz9_1 := cz1 BK238
   have hcz9_2 := cz2 BK238
   have hcz9_3 := cz3 BK238
   have hfz9_0 := blk_frozen BK238.out 0
   have hfz9_1 := blk_frozen BK238.out 1
   have hfz9_2 := blk_frozen BK238.out 2
   have hfz9_3 := blk_frozen BK238.out 3
   go_wp2_with (first | (go_at_call 51; (with_reducible refine (spec_CrowdOk.calls a0_0 a0_3 false _ A4.out).mono ?_); rintro e w' ⟨rfl, ⟨nd, rfl⟩⟩; (try first | exact ⟨rfl, _, World.drewN_drewN _ _ _⟩ | exact ⟨rfl, _, Eq.trans (World.drewN_drewN _ _ _) (congrArg (World.drewN _) (Nat.add_assoc _ _ _))⟩)))
   repeat (go_quiet (first | (go_at_call 51; (with_reducible refine (spec_CrowdOk.calls a0_0 a0_3 false _ A4.out).mono ?_); rintro e w' ⟨rfl, ⟨nd, rfl⟩⟩; (try first | exact ⟨rfl, _, World.drewN_drewN _ _ _⟩ | exact ⟨rfl, _, Eq.trans (World.drewN_drewN _ _ _) (congrArg (World.drewN _) (Nat.add_assoc _ _ _))⟩))); try go_wp2_with (first | (go_at_call 51; (with_reducible refine (spec_CrowdOk.calls a0_0 a0_3 false _ A4.out).mono ?_); rintro e w' ⟨rfl, ⟨nd, rfl⟩⟩; (try first | exact ⟨rfl, _, World.drewN_drewN _ _ _⟩ | exact ⟨rfl, _, Eq.trans (World.drewN_drewN _ _ _) (congrArg (World.drewN _) (Nat.add_assoc _ _ _))⟩))))
   go_meet
   case rel => exact ⟨_, (true), (by first | rfl | (simp; done) | (simp [*]; done)), H', ⟨by first | omega | exact Nat.le_refl _⟩, ⟨bz BK238⟩, ⟨by exact bh⟩⟩
 case rest =>
  clear HC2
  try clear c1
  try clear p2
  try clear c5
  try clear c6
  try clear c6b0
  try clear c6b1
  try clear hcz7_0
  try clear hcz7_1
  try clear hcz7_2
  try clear hcz7_3
  try clear hcz8_0
  try clear hcz8_1
  try clear hcz8_2
  try clear hcz8_3
  try clear hcz9_0
  try clear hcz9_1
  try clear hcz9_2
  try clear hcz9_3
  try clear hfz7_0
  try clear hfz7_1
  try clear hfz7_2
  try clear hfz7_3
  try clear hfz8_0
  try clear hfz8_1
  try clear hfz8_2
  try clear hfz8_3
  try clear hfz9_0
  try clear hfz9_1
  try clear hfz9_2
  try clear hfz9_3
  obtain ⟨kq, x27_1, rfl, HA, HJ1, BK238, HB⟩ := hcut
  cases kq with
  | zero => exact absurd HA.out (by simp [spec_CourtOk.j0])
  | succ kj1 =>
   have H := HA.out
   clear HA
   simp only [spec_CourtOk.j0] at H
   by_cases c10 : x27_1 = true
   ·subst c10
    have H1 : (some false) = some r := by rw [if_pos rfl] at H; exact H
    clear H
    have H := H1
    clear H1
    obtain rfl := Option.some.inj H
    go_wp2
    repeat (go_quiet (fail); try go_wp2)
    go_ret
    exact ⟨by first | rfl | (simp [errW_none, errW_some] <;> rfl) | (simp [*, errW_none, errW_some] <;> rfl), by exact bh⟩
   ·replace c10 := Bool.eq_false_iff.mpr c10
    subst c10
    have H1 : (spec_CourtOk.l0 kj1 0 a0_0 l0_1 l0_2 a0_3) = some r := by rw [if_neg (show ¬ (false = true) by decide)] at H; exact H
    clear H
    have H := H1
    clear H1
    have H' := Aside0.mk H
    clear H
    go_wp2
    repeat (go_quiet (fail); try go_wp2)
    go_loopg [3] kj1 (fun kq v3 w' => ∃ (x3_2 : Int), v3 = .int .i64 x3_2 ∧ Aside0 (spec_CourtOk.l0 kq x3_2 a0_0 l0_1 l0_2 a0_3 = some r) ∧ Aside0 (kq ≤ kj1) ∧ Aside0 (w'.heap[gb238]? = some (.cells #[.int .i64 a0_0, (.slice A0_1 l0_1.length c0_1), (.slice A0_2 l0_2.length c0_2), .int .i64 a0_3] 28 (0, 0))) ∧ Aside0 (Below w.heap.size w w'))
    case atStart => exact ⟨(0), (by first | rfl | (simp; done) | (simp [*]; done)), H', ⟨Nat.le_refl _⟩, ⟨bz BK238⟩, ⟨by exact bh⟩⟩
    case round =>
     clear H'
     try clear c1
     try clear p2
     try clear c5
     try clear c6
     try clear c6b0
     try clear c6b1
     try clear c10
     try clear hcz7_0
     try clear hcz7_1
     try clear hcz7_2
     try clear hcz7_3
     try clear hcz8_0
     try clear hcz8_1
     try clear hcz8_2
     try clear hcz8_3
     try clear hcz9_0
     try clear hcz9_1
     try clear hcz9_2
     try clear hcz9_3
     try clear hfz7_0
     try clear hfz7_1
     try clear hfz7_2
     try clear hfz7_3
     try clear hfz8_0
     try clear hfz8_1
     try clear hfz8_2
     try clear hfz8_3
     try clear hfz9_0
     try clear hfz9_1
     try clear hfz9_2
     try clear hfz9_3
     try clear p2
     obtain ⟨x3_2, rfl, HA, HK2, BK238, HB⟩ := hrel
     cases gk with
     | zero => exact absurd HA.out (by simp [spec_CourtOk.l0])
     | succ k2 =>
      have H := HA.out
      clear HA
      simp only [spec_CourtOk.l0] at H
      by_cases c11 : x3_2 < (l0_1.length : Int)
      ·rw [if_pos c11] at H
       have c11b0 : decide (x3_2 < (l0_1.length : Int)) = true := decide_eq_true c11
       clear c11
       have HC12 := Aside0.mk H
       clear H
       have hcz13_0 := cz0 BK238
       have hcz13_1 := cz1 BK238
       have hcz13_2 := cz2 BK238
       have hcz13_3 := cz3 BK238
       have hfz13_0 := blk_frozen BK238.out 0
       have hfz13_1 := blk_frozen BK238.out 1
       have hfz13_2 := blk_frozen BK238.out 2
       have hfz13_3 := blk_frozen BK238.out 3
       go_upto_region 6 with (fail)
       repeat (go_quiet (fail); go_upto_region 6 with (fail))
       go_cut [53] (fun v53 wc => ∃ (kq : Nat) (x53_11 : Bool), v53 = .bool x53_11 ∧ Aside0 (spec_CourtOk.j2 kq x3_2 x53_11 a0_0 l0_1 l0_2 a0_3 = some r) ∧ Aside0 (kq ≤ k2) ∧ Aside0 (wc.heap[gb238]? = some (.cells #[.int .i64 a0_0, (.slice A0_1 l0_1.length c0_1), (.slice A0_2 l0_2.length c0_2), .int .i64 a0_3] 28 (0, 0))) ∧ Aside0 (Below w.heap.size w wc))
       case first =>
        have H := HC12.out
        clear HC12
        by_cases c14 : 0 ≤ x3_2
        ·rw [if_pos c14] at H
         have c14b0 : decide (0 ≤ x3_2) = true := decide_eq_true c14
         clear c14
         (first | rw [c14b0] | (simp only [i64_w, i32_w]; rw [c14b0]) | skip)
         by_cases c15 : ((rd_L1 l0_1 x3_2).length : Int) > 6
         ·rw [if_pos c15] at H
          have c15b0 : decide (6 < ((rd_L1 l0_1 x3_2).length : Int)) = true := decide_eq_true c15
          have c15b1 : decide (6 < (rd_L1 l0_1 x3_2).length) = true := decide_eq_true (by omega)
          clear c15
          have H' := Aside0.mk H
          clear H
          have hcz16_0 := cz0 BK238
          have hcz16_1 := cz1 BK238
          have hcz16_2 := cz2 BK238
          have hcz16_3 := cz3 BK238
          have hfz16_0 := blk_frozen BK238.out 0
          have hfz16_1 := blk_frozen BK238.out 1
          have hfz16_2 := blk_frozen BK238.out 2
          have hfz16_3 := blk_frozen BK238.out 3
          have p240 : 0 ≤ (x3_2 : Int) := oda
          have q240 : x3_2 < (l0_1.length : Int) := oda
          obtain ⟨ad240, A240_0, c240_0, e240, hx240_0, hl240_0, hi240_0⟩ := at_L1 HR0_1.out x3_2 p240 q240
          cases e240
          replace hx240_0 := (HB.out.cell (World.block_lt_of_cell? w _ hx240_0)).trans hx240_0
          have HR240_0 := Aside0.mk hi240_0
          have HC240_0 := Aside0.mk hl240_0
          clear hi240_0 hl240_0
          replace p240 := eq_true p240
          replace q240 := eq_true q240
          go_wp2
          repeat (go_quiet (fail); try go_wp2)
          go_meet
          case rel => exact ⟨_, (true), (by first | rfl | (simp; done) | (simp [*]; done)), H', ⟨by have := HJ1.out; have := HK2.out; first | omega | exact Nat.le_refl _⟩, ⟨bz BK238⟩, ⟨by exact bh⟩⟩
         ·rw [if_neg c15] at H
          have c15b0 : decide (6 < ((rd_L1 l0_1 x3_2).length : Int)) = false := decide_eq_false c15
          have c15b1 : decide (6 < (rd_L1 l0_1 x3_2).length) = false := decide_eq_false (by omega)
          clear c15
          by_cases c17 : x3_2 < (l0_2.length : Int)
          ·rw [if_pos c17] at H
           have c17b0 : decide (x3_2 < (l0_2.length : Int)) = true := decide_eq_true c17
           clear c17
           replace H := Option.bind_eq_some_iff.mp H
           obtain ⟨t242, A180, H⟩ := H
           replace H : (spec_CourtOk.j2 k2 x3_2 (!t242) a0_0 l0_1 l0_2 a0_3) = some r := H
           have A18 := Aside0.mk A180
           clear A180
           have H' := Aside0.mk H
           clear H
           have hcz19_0 := cz0 BK238
           have hcz19_1 := cz1 BK238
           have hcz19_2 := cz2 BK238
           have hcz19_3 := cz3 BK238
           have hfz19_0 := blk_frozen BK238.out 0
           have hfz19_1 := blk_frozen BK238.out 1
           have hfz19_2 := blk_frozen BK238.out 2
           have hfz19_3 := blk_frozen BK238.out 3
           have p240 : 0 ≤ (x3_2 : Int) := oda
           have q240 : x3_2 < (l0_1.length : Int) := oda
           obtain ⟨ad240, A240_0, c240_0, e240, hx240_0, hl240_0, hi240_0⟩ := at_L1 HR0_1.out x3_2 p240 q240
           cases e240
           replace hx240_0 := (HB.out.cell (World.block_lt_of_cell? w _ hx240_0)).trans hx240_0
           have HR240_0 := Aside0.mk hi240_0
           have HC240_0 := Aside0.mk hl240_0
           clear hi240_0 hl240_0
           replace p240 := eq_true p240
           replace q240 := eq_true q240
           have p241 : 0 ≤ (x3_2 : Int) := oda
           have q241 : x3_2 < (l0_2.length : Int) := oda
           obtain ⟨ad241, e241, hx241_0⟩ := Kd.at_int HR0_2.out x3_2 p241 q241
           cases e241
           replace hx241_0 := (HB.out.cell (World.block_lt_of_cell? w _ hx241_0)).trans hx241_0
           replace p241 := eq_true p241
           replace q241 := eq_true q241
           go_wp2_with (first | (go_at_call 52; (with_reducible refine (spec_l1In.calls (rd l0_2 x3_2) (-1) (wrap64 (a0_0 - 1)) t242 _ A18.out).mono ?_); rintro e w' ⟨rfl, ⟨nd, rfl⟩⟩; (try first | exact ⟨rfl, _, World.drewN_drewN _ _ _⟩ | exact ⟨rfl, _, Eq.trans (World.drewN_drewN _ _ _) (congrArg (World.drewN _) (Nat.add_assoc _ _ _))⟩)))
           repeat (go_quiet (first | (go_at_call 52; (with_reducible refine (spec_l1In.calls (rd l0_2 x3_2) (-1) (wrap64 (a0_0 - 1)) t242 _ A18.out).mono ?_); rintro e w' ⟨rfl, ⟨nd, rfl⟩⟩; (try first | exact ⟨rfl, _, World.drewN_drewN _ _ _⟩ | exact ⟨rfl, _, Eq.trans (World.drewN_drewN _ _ _) (congrArg (World.drewN _) (Nat.add_assoc _ _ _))⟩))); try go_wp2_with (first | (go_at_call 52; (with_reducible refine (spec_l1In.calls (rd l0_2 x3_2) (-1) (wrap64 (a0_0 - 1)) t242 _ A18.out).mono ?_); rintro e w' ⟨rfl, ⟨nd, rfl⟩⟩; (try first | exact ⟨rfl, _, World.drewN_drewN _ _ _⟩ | exact ⟨rfl, _, Eq.trans (World.drewN_drewN _ _ _) (congrArg (World.drewN _) (Nat.add_assoc _ _ _))⟩))))
           go_meet
           case rel => exact ⟨_, (!t242), (by first | rfl | (simp; done) | (simp [*]; done)), H', ⟨by have := HJ1.out; have := HK2.out; first | omega | exact Nat.le_refl _⟩, ⟨bz BK238⟩, ⟨by exact bh⟩⟩
          ·rw [if_neg c17] at H
           exact absurd H (by simp)
        ·rw [if_neg c14] at H
         exact absurd H (by simp)
       case rest =>
        clear HC12
        try clear c1
        try clear c2
        try clear p2
        try clear q2
        try clear hx2
        try clear c5
        try clear c6
        try clear c6b0
        try clear c6b1
        try clear p6
        try clear c10
        try clear c11
        try clear c11b0
        try clear c14
        try clear c14b0
        try clear c15
        try clear c15b0
        try clear c15b1
        try clear c17
        try clear c17b0
        try clear hcz13_0
        try clear hcz13_1
        try clear hcz13_2
        try clear hcz13_3
        try clear hcz16_0
        try clear hcz16_1
        try clear hcz16_2
        try clear hcz16_3
        try clear hcz19_0
        try clear hcz19_1
        try clear hcz19_2
        try clear hcz19_3
        try clear hcz7_0
        try clear hcz7_1
        try clear hcz7_2
        try clear hcz7_3
        try clear hcz8_0
        try clear hcz8_1
        try clear hcz8_2
        try clear hcz8_3
        try clear hcz9_0
        try clear hcz9_1
        try clear hcz9_2
        try clear hcz9_3
        try clear hfz13_0
        try clear hfz13_1
        try clear hfz13_2
        try clear hfz13_3
        try clear hfz16_0
        try clear hfz16_1
        try clear hfz16_2
        try clear hfz16_3
        try clear hfz19_0
        try clear hfz19_1
        try clear hfz19_2
        try clear hfz19_3
        try clear hfz7_0
        try clear hfz7_1
        try clear hfz7_2
        try clear hfz7_3
        try clear hfz8_0
        try clear hfz8_1
        try clear hfz8_2
        try clear hfz8_3
        try clear hfz9_0
        try clear hfz9_1
        try clear hfz9_2
        try clear hfz9_3
        try clear hx240_0
        try clear hx241_0
        try clear p2
        try clear p240
        try clear p241
        try clear q240
        try clear q241
        obtain ⟨kq, x53_11, rfl, HA, HJ11, BK238, HB⟩ := hcut
        cases kq with
        | zero => exact absurd HA.out (by simp [spec_CourtOk.j2])
        | succ kj11 =>
         have H := HA.out
         clear HA
         simp only [spec_CourtOk.j2] at H
         by_cases c20 : x53_11 = true
         ·subst c20
          have H1 : (some false) = some r := by rw [if_pos rfl] at H; exact H
          clear H
          have H := H1
          clear H1
          obtain rfl := Option.some.inj H
          go_wp2
          repeat (go_quiet (fail); try go_wp2)
          go_ret
          exact ⟨by first | rfl | (simp [errW_none, errW_some] <;> rfl) | (simp [*, errW_none, errW_some] <;> rfl), by exact bh⟩
         ·replace c20 := Bool.eq_false_iff.mpr c20
          subst c20
          have H1 : (spec_CourtOk.l1 kj11 x3_2 0 a0_0 l0_1 l0_2 a0_3) = some r := by rw [if_neg (show ¬ (false = true) by decide)] at H; exact H
          clear H
          have H := H1
          clear H1
          have H' := Aside0.mk H
          clear H
          go_wp2
          repeat (go_quiet (fail); try go_wp2)
          go_loopg [4] kj11 (fun kq v4 w' => ∃ (x4_4 : Int), v4 = .int .i64 x4_4 ∧ Aside0 (spec_CourtOk.l1 kq x3_2 x4_4 a0_0 l0_1 l0_2 a0_3 = some r) ∧ Aside0 (kq ≤ kj11) ∧ Aside0 (w'.heap[gb238]? = some (.cells #[.int .i64 a0_0, (.slice A0_1 l0_1.length c0_1), (.slice A0_2 l0_2.length c0_2), .int .i64 a0_3] 28 (0, 0))) ∧ Aside0 (Below w.heap.size w w'))
          case atStart => exact ⟨(0), (by first | rfl | (simp; done) | (simp [*]; done)), H', ⟨Nat.le_refl _⟩, ⟨bz BK238⟩, ⟨by exact bh⟩⟩
          case round =>
           clear H'
           try clear c1
           try clear c2
           try clear p2
           try clear q2
           try clear hx2
           try clear c5
           try clear c6
           try clear c6b0
           try clear c6b1
           try clear p6
           try clear c10
           try clear c11
           try clear c11b0
           try clear c14
           try clear c14b0
           try clear c15
           try clear c15b0
           try clear c15b1
           try clear c17
           try clear c17b0
           try clear c20
           try clear hcz13_0
           try clear hcz13_1
           try clear hcz13_2
           try clear hcz13_3
           try clear hcz16_0
           try clear hcz16_1
           try clear hcz16_2
           try clear hcz16_3
           try clear hcz19_0
           try clear hcz19_1
           try clear hcz19_2
           try clear hcz19_3
           try clear hcz7_0
           try clear hcz7_1
           try clear hcz7_2
           try clear hcz7_3
           try clear hcz8_0
           try clear hcz8_1
           try clear hcz8_2
           try clear hcz8_3
           try clear hcz9_0
           try clear hcz9_1
           try clear hcz9_2
           try clear hcz9_3
           try clear hfz13_0
           try clear hfz13_1
           try clear hfz13_2
           try clear hfz13_3
           try clear hfz16_0
           try clear hfz16_1
           try clear hfz16_2
           try clear hfz16_3
           try clear hfz19_0
           try clear hfz19_1
           try clear hfz19_2
           try clear hfz19_3
           try clear hfz7_0
           try clear hfz7_1
           try clear hfz7_2
           try clear hfz7_3
           try clear hfz8_0
           try clear hfz8_1
           try clear hfz8_2
           try clear hfz8_3
           try clear hfz9_0
           try clear hfz9_1
           try clear hfz9_2
           try clear hfz9_3
           try clear hx240_0
           try clear hx241_0
           try clear p2
           try clear p240
           try clear p241
           try clear p6
           try clear q2
           try clear q240
           try clear q241
           obtain ⟨x4_4, rfl, HA, HK4, BK238, HB⟩ := hrel
           cases gk with
           | zero => exact absurd HA.out (by simp [spec_CourtOk.l1])
           | succ k4 =>
            have H := HA.out
            clear HA
            simp only [spec_CourtOk.l1] at H
            by_cases c21 : 0 ≤ x3_2
            ·rw [if_pos c21] at H
             have c21b0 : decide (0 ≤ x3_2) = true := decide_eq_true c21
             clear c21
             by_cases c22 : x3_2 < (l0_1.length : Int)
             ·rw [if_pos c22] at H
              have c22b0 : decide (x3_2 < (l0_1.length : Int)) = true := decide_eq_true c22
              clear c22
              by_cases c23 : x4_4 < ((rd_L1 l0_1 x3_2).length : Int)
              ·rw [if_pos c23] at H
               have c23b0 : decide (x4_4 < ((rd_L1 l0_1 x3_2).length : Int)) = true := decide_eq_true c23
               clear c23
               by_cases c24 : 0 ≤ x4_4
               ·rw [if_pos c24] at H
                have c24b0 : decide (0 ≤ x4_4) = true := decide_eq_true c24
                clear c24
                replace H := Option.bind_eq_some_iff.mp H
                obtain ⟨t246, A250, H⟩ := H
                replace H : (if t246 = true then (spec_CourtOk.l2 k4 x3_2 x4_4 0 a0_0 l0_1 l0_2 a0_3) else (some false)) = some r := H
                have A25 := Aside0.mk A250
                clear A250
                by_cases c26 : t246 = true
                ·subst c26
                 have H1 : (spec_CourtOk.l2 k4 x3_2 x4_4 0 a0_0 l0_1 l0_2 a0_3) = some r := by rw [if_pos rfl] at H; exact H
                 clear H
                 have H := H1
                 clear H1
                 have H' := Aside0.mk H
                 clear H
                 have hcz27_0 := cz0 BK238
                 have hcz27_1 := cz1 BK238
                 have hcz27_2 := cz2 BK238
                 have hcz27_3 := cz3 BK238
                 have hfz27_0 := blk_frozen BK238.out 0
                 have hfz27_1 := blk_frozen BK238.out 1
                 have hfz27_2 := blk_frozen BK238.out 2
                 have hfz27_3 := blk_frozen BK238.out 3
                 have p243 : 0 ≤ (x3_2 : Int) := oda
                 have q243 : x3_2 < (l0_1.length : Int) := oda
                 obtain ⟨ad243, A243_0, c243_0, e243, hx243_0, hl243_0, hi243_0⟩ := at_L1 HR0_1.out x3_2 p243 q243
                 cases e243
                 replace hx243_0 := (HB.out.cell (World.block_lt_of_cell? w _ hx243_0)).trans hx243_0
                 have HR243_0 := Aside0.mk hi243_0
                 have HC243_0 := Aside0.mk hl243_0
                 clear hi243_0 hl243_0
                 replace p243 := eq_true p243
                 replace q243 := eq_true q243
                 have p244 : 0 ≤ (x3_2 : Int) := oda
                 have q244 : x3_2 < (l0_1.length : Int) := oda
                 obtain ⟨ad244, A244_0, c244_0, e244, hx244_0, hl244_0, hi244_0⟩ := at_L1 HR0_1.out x3_2 p244 q244
                 obtain rfl : ad243 = ad244 := (by injection e244)
                 replace hx244_0 := (HB.out.cell (World.block_lt_of_cell? w _ hx244_0)).trans hx244_0
                 have HR244_0 := Aside0.mk hi244_0
                 have HC244_0 := Aside0.mk hl244_0
                 clear hi244_0 hl244_0
                 replace p244 := eq_true p244
                 replace q244 := eq_true q244
                 have ea_ := Option.some.inj (hx243_0.symm.trans hx244_0)
                 injection ea_ with ea_ en_ ec_
                 subst ea_
                 subst ec_
                 clear en_
                 have p245 : 0 ≤ (x4_4 : Int) := oda
                 have q245 : x4_4 < ((rd_L1 l0_1 x3_2).length : Int) := oda
                 obtain ⟨ad245, e245, hx245_0⟩ := Kd.at_int HR244_0.out x4_4 p245 q245
                 cases e245
                 replace hx245_0 := (HB.out.cell (World.block_lt_of_cell? w _ hx245_0)).trans hx245_0
                 replace p245 := eq_true p245
                 replace q245 := eq_true q245
                 go_wp2_with (first | (go_at_call 52; (with_reducible refine (spec_l1In.calls (rd (rd_L1 l0_1 x3_2) x4_4) 0 (wrap64 (a0_0 - 1)) true _ A25.out).mono ?_); rintro e w' ⟨rfl, ⟨nd, rfl⟩⟩; (try first | exact ⟨rfl, _, World.drewN_drewN _ _ _⟩ | exact ⟨rfl, _, Eq.trans (World.drewN_drewN _ _ _) (congrArg (World.drewN _) (Nat.add_assoc _ _ _))⟩)))
                 repeat (go_quiet (first | (go_at_call 52; (with_reducible refine (spec_l1In.calls (rd (rd_L1 l0_1 x3_2) x4_4) 0 (wrap64 (a0_0 - 1)) true _ A25.out).mono ?_); rintro e w' ⟨rfl, ⟨nd, rfl⟩⟩; (try first | exact ⟨rfl, _, World.drewN_drewN _ _ _⟩ | exact ⟨rfl, _, Eq.trans (World.drewN_drewN _ _ _) (congrArg (World.drewN _) (Nat.add_assoc _ _ _))⟩))); try go_wp2_with (first | (go_at_call 52; (with_reducible refine (spec_l1In.calls (rd (rd_L1 l0_1 x3_2) x4_4) 0 (wrap64 (a0_0 - 1)) true _ A25.out).mono ?_); rintro e w' ⟨rfl, ⟨nd, rfl⟩⟩; (try first | exact ⟨rfl, _, World.drewN_drewN _ _ _⟩ | exact ⟨rfl, _, Eq.trans (World.drewN_drewN _ _ _) (congrArg (World.drewN _) (Nat.add_assoc _ _ _))⟩))))
                 go_loopg [5] k4 (fun kq v5 w' => ∃ (x5_5 : Int), v5 = .int .i64 x5_5 ∧ Aside0 (spec_CourtOk.l2 kq x3_2 x4_4 x5_5 a0_0 l0_1 l0_2 a0_3 = some r) ∧ Aside0 (kq ≤ k4) ∧ Aside0 (w'.heap[gb238]? = some (.cells #[.int .i64 a0_0, (.slice (some ad243) l0_1.length c0_1), (.slice A0_2 l0_2.length c0_2), .int .i64 a0_3] 28 (0, 0))) ∧ Aside0 (Below w.heap.size w w'))
                 case atStart => exact ⟨(0), (by first | rfl | (simp; done) | (simp [*]; done)), H', ⟨Nat.le_refl _⟩, ⟨bz BK238⟩, ⟨by exact bh⟩⟩
                 case round =>
                  clear H'
                  try clear c1
                  try clear c2
                  try clear p2
                  try clear q2
                  try clear hx2
                  try clear c5
                  try clear c6
                  try clear c6b0
                  try clear c6b1
                  try clear p6
                  try clear c10
                  try clear c11
                  try clear c11b0
                  try clear c14
                  try clear c14b0
                  try clear c15
                  try clear c15b0
                  try clear c15b1
                  try clear c17
                  try clear c17b0
                  try clear c20
                  try clear c21
                  try clear c21b0
                  try clear c22
                  try clear c22b0
                  try clear c23
                  try clear c23b0
                  try clear c24
                  try clear c24b0
                  try clear p24
                  try clear q24
                  try clear hx24
                  try clear c26
                  try clear hcz13_0
                  try clear hcz13_1
                  try clear hcz13_2
                  try clear hcz13_3
                  try clear hcz16_0
                  try clear hcz16_1
                  try clear hcz16_2
                  try clear hcz16_3
                  try clear hcz19_0
                  try clear hcz19_1
                  try clear hcz19_2
                  try clear hcz19_3
                  try clear hcz27_0
                  try clear hcz27_1
                  try clear hcz27_2
                  try clear hcz27_3
                  try clear hcz7_0
                  try clear hcz7_1
                  try clear hcz7_2
                  try clear hcz7_3
                  try clear hcz8_0
                  try clear hcz8_1
                  try clear hcz8_2
                  try clear hcz8_3
                  try clear hcz9_0
                  try clear hcz9_1
                  try clear hcz9_2
                  try clear hcz9_3
                  try clear hfz13_0
                  try clear hfz13_1
                  try clear hfz13_2
                  try clear hfz13_3
                  try clear hfz16_0
                  try clear hfz16_1
                  try clear hfz16_2
                  try clear hfz16_3
                  try clear hfz19_0
                  try clear hfz19_1
                  try clear hfz19_2
                  try clear hfz19_3
                  try clear hfz27_0
                  try clear hfz27_1
                  try clear hfz27_2
                  try clear hfz27_3
                  try clear hfz7_0
                  try clear hfz7_1
                  try clear hfz7_2
                  try clear hfz7_3
                  try clear hfz8_0
                  try clear hfz8_1
                  try clear hfz8_2
                  try clear hfz8_3
                  try clear hfz9_0
                  try clear hfz9_1
                  try clear hfz9_2
                  try clear hfz9_3
                  try clear hx240_0
                  try clear hx241_0
                  try clear hx243_0
                  try clear hx244_0
                  try clear hx245_0
                  try clear p2
                  try clear p240
                  try clear p241
                  try clear p243
                  try clear p244
                  try clear p245
                  try clear p6
                  try clear q2
                  try clear q240
                  try clear q241
                  try clear q243
                  try clear q244
                  try clear q245
                  obtain ⟨x5_5, rfl, HA, HK5, BK238, HB⟩ := hrel
                  cases gk with
                  | zero => exact absurd HA.out (by simp [spec_CourtOk.l2])
                  | succ k5 =>
                   have H := HA.out
                   clear HA
                   simp only [spec_CourtOk.l2] at H
                   by_cases c28 : x5_5 < x4_4
                   ·rw [if_pos c28] at H
                    have c28b0 : decide (x5_5 < x4_4) = true := decide_eq_true c28
                    clear c28
                    by_cases c29 : 0 ≤ x3_2
                    ·rw [if_pos c29] at H
                     have c29b0 : decide (0 ≤ x3_2) = true := decide_eq_true c29
                     clear c29
                     by_cases c30 : x3_2 < (l0_1.length : Int)
                     ·rw [if_pos c30] at H
                      have c30b0 : decide (x3_2 < (l0_1.length : Int)) = true := decide_eq_true c30
                      clear c30
                      by_cases c31 : 0 ≤ x5_5
                      ·rw [if_pos c31] at H
                       have c31b0 : decide (0 ≤ x5_5) = true := decide_eq_true c31
                       clear c31
                       by_cases c32 : x5_5 < ((rd_L1 l0_1 x3_2).length : Int)
                       ·rw [if_pos c32] at H
                        have c32b0 : decide (x5_5 < ((rd_L1 l0_1 x3_2).length : Int)) = true := decide_eq_true c32
                        clear c32
                        by_cases c33 : 0 ≤ x4_4
                        ·rw [if_pos c33] at H
                         have c33b0 : decide (0 ≤ x4_4) = true := decide_eq_true c33
                         clear c33
                         by_cases c34 : x4_4 < ((rd_L1 l0_1 x3_2).length : Int)
                         ·rw [if_pos c34] at H
                          have c34b0 : decide (x4_4 < ((rd_L1 l0_1 x3_2).length : Int)) = true := decide_eq_true c34
                          clear c34
                          by_cases c35 : (rd (rd_L1 l0_1 x3_2) x5_5) = (rd (rd_L1 l0_1 x3_2) x4_4)
                          ·rw [if_pos c35] at H
                           have c35b0 : ((rd (rd_L1 l0_1 x3_2) x5_5) == (rd (rd_L1 l0_1 x3_2) x4_4)) = true := beq_iff_eq.mpr c35
                           have c35b1 : ((rd (rd_L1 l0_1 x3_2) x5_5) != (rd (rd_L1 l0_1 x3_2) x4_4)) = false := bne_eq_false_iff_eq.mpr c35
                           clear c35
                           obtain rfl := Option.some.inj H
                           have hcz36_0 := cz0 BK238
                           have hcz36_1 := cz1 BK238
                           have hcz36_2 := cz2 BK238
                           have hcz36_3 := cz3 BK238
                           have hfz36_0 := blk_frozen BK238.out 0
                           have hfz36_1 := blk_frozen BK238.out 1
                           have hfz36_2 := blk_frozen BK238.out 2
                           have hfz36_3 := blk_frozen BK238.out 3
                           have p247 : 0 ≤ (x3_2 : Int) := oda
                           have q247 : x3_2 < (l0_1.length : Int) := oda
                           obtain ⟨ad247, A247_0, c247_0, e247, hx247_0, hl247_0, hi247_0⟩ := at_L1 HR0_1.out x3_2 p247 q247
                           obtain rfl : ad243 = ad247 := (by injection e247)
                           replace hx247_0 := (HB.out.cell (World.block_lt_of_cell? w _ hx247_0)).trans hx247_0
                           have HR247_0 := Aside0.mk hi247_0
                           have HC247_0 := Aside0.mk hl247_0
                           clear hi247_0 hl247_0
                           replace p247 := eq_true p247
                           replace q247 := eq_true q247
                           have p248 : 0 ≤ (x5_5 : Int) := oda
                           have q248 : x5_5 < ((rd_L1 l0_1 x3_2).length : Int) := oda
                           obtain ⟨ad248, e248, hx248_0⟩ := Kd.at_int HR247_0.out x5_5 p248 q248
                           cases e248
                           replace hx248_0 := (HB.out.cell (World.block_lt_of_cell? w _ hx248_0)).trans hx248_0
                           replace p248 := eq_true p248
                           replace q248 := eq_true q248
                           have p249 : 0 ≤ (x3_2 : Int) := oda
                           have q249 : x3_2 < (l0_1.length : Int) := oda
                           obtain ⟨ad249, A249_0, c249_0, e249, hx249_0, hl249_0, hi249_0⟩ := at_L1 HR0_1.out x3_2 p249 q249
                           obtain rfl : ad243 = ad249 := (by injection e249)
                           replace hx249_0 := (HB.out.cell (World.block_lt_of_cell? w _ hx249_0)).trans hx249_0
                           have HR249_0 := Aside0.mk hi249_0
                           have HC249_0 := Aside0.mk hl249_0
                           clear hi249_0 hl249_0
                           replace p249 := eq_true p249
                           replace q249 := eq_true q249
                           have ea_ := Option.some.inj (hx247_0.symm.trans hx249_0)
                           injection ea_ with ea_ en_ ec_
                           subst ea_
                           subst ec_
                           clear en_
                           have p250 : 0 ≤ (x4_4 : Int) := oda
                           have q250 : x4_4 < ((rd_L1 l0_1 x3_2).length : Int) := oda
                           obtain ⟨ad250, e250, hx250_0⟩ := Kd.at_int HR249_0.out x4_4 p250 q250
                           cases e250
                           replace hx250_0 := (HB.out.cell (World.block_lt_of_cell? w _ hx250_0)).trans hx250_0
                           replace p250 := eq_true p250
                           replace q250 := eq_true q250
                           go_wp2
                           repeat (go_quiet (fail); try go_wp2)
                           go_ret
                           exact ⟨by first | rfl | (simp [errW_none, errW_some] <;> rfl) | (simp [*, errW_none, errW_some] <;> rfl), by exact bh⟩
                          ·rw [if_neg c35] at H
                           have c35b0 : ((rd (rd_L1 l0_1 x3_2) x5_5) == (rd (rd_L1 l0_1 x3_2) x4_4)) = false := beq_eq_false_iff_ne.mpr c35
                           have c35b1 : ((rd (rd_L1 l0_1 x3_2) x5_5) != (rd (rd_L1 l0_1 x3_2) x4_4)) = true := bne_iff_ne.mpr c35
                           have H' := Aside0.mk H
                           clear H
                           have hcz37_0 := cz0 BK238
                           have hcz37_1 := cz1 BK238
                           have hcz37_2 := cz2 BK238
                           have hcz37_3 := cz3 BK238
                           have hfz37_0 := blk_frozen BK238.out 0
                           have hfz37_1 := blk_frozen BK238.out 1
                           have hfz37_2 := blk_frozen BK238.out 2
                           have hfz37_3 := blk_frozen BK238.out 3
                           have p247 : 0 ≤ (x3_2 : Int) := oda
                           have q247 : x3_2 < (l0_1.length : Int) := oda
                           obtain ⟨ad247, A247_0, c247_0, e247, hx247_0, hl247_0, hi247_0⟩ := at_L1 HR0_1.out x3_2 p247 q247
                           obtain rfl : ad243 = ad247 := (by injection e247)
                           replace hx247_0 := (HB.out.cell (World.block_lt_of_cell? w _ hx247_0)).trans hx247_0
                           have HR247_0 := Aside0.mk hi247_0
                           have HC247_0 := Aside0.mk hl247_0
                           clear hi247_0 hl247_0
                           replace p247 := eq_true p247
                           replace q247 := eq_true q247
                           have p248 : 0 ≤ (x5_5 : Int) := oda
                           have q248 : x5_5 < ((rd_L1 l0_1 x3_2).length : Int) := oda
                           obtain ⟨ad248, e248, hx248_0⟩ := Kd.at_int HR247_0.out x5_5 p248 q248
                           cases e248
                           replace hx248_0 := (HB.out.cell (World.block_lt_of_cell? w _ hx248_0)).trans hx248_0
                           replace p248 := eq_true p248
                           replace q248 := eq_true q248
                           have p249 : 0 ≤ (x3_2 : Int) := oda
                           have q249 : x3_2 < (l0_1.length : Int) := oda
                           obtain ⟨ad249, A249_0, c249_0, e249, hx249_0, hl249_0, hi249_0⟩ := at_L1 HR0_1.out x3_2 p249 q249
                           obtain rfl : ad243 = ad249 := (by injection e249)
                           replace hx249_0 := (HB.out.cell (World.block_lt_of_cell? w _ hx249_0)).trans hx249_0
                           have HR249_0 := Aside0.mk hi249_0
                           have HC249_0 := Aside0.mk hl249_0
                           clear hi249_0 hl249_0
                           replace p249 := eq_true p249
                           replace q249 := eq_true q249
                           have ea_ := Option.some.inj (hx247_0.symm.trans hx249_0)
                           injection ea_ with ea_ en_ ec_
                           subst ea_
                           subst ec_
                           clear en_
                           have p250 : 0 ≤ (x4_4 : Int) := oda
                           have q250 : x4_4 < ((rd_L1 l0_1 x3_2).length : Int) := oda
                           obtain ⟨ad250, e250, hx250_0⟩ := Kd.at_int HR249_0.out x4_4 p250 q250
                           cases e250
                           replace hx250_0 := (HB.out.cell (World.block_lt_of_cell? w _ hx250_0)).trans hx250_0
                           replace p250 := eq_true p250
                           replace q250 := eq_true q250
                           go_wp2
                           repeat (go_quiet (fail); try go_wp2)
                           go_roundg k5
                           case measure => have := HJ1.out; have := HK2.out; have := HJ11.out; have := HK4.out; have := HK5.out; omega
                           case rel => exact ⟨(wrap64 (x5_5 + 1)), (by first | rfl | (simp; done) | (simp [*]; done)), H', ⟨by have := HJ1.out; have := HK2.out; have := HJ11.out; have := HK4.out; have := HK5.out; omega⟩, ⟨bz BK238⟩, ⟨by exact bh⟩⟩
                         ·rw [if_neg c34] at H
                          exact absurd H (by simp)
                        ·rw [if_neg c33] at H
                         exact absurd H (by simp)
                       ·rw [if_neg c32] at H
                        exact absurd H (by simp)
                      ·rw [if_neg c31] at H
                       exact absurd H (by simp)
                     ·rw [if_neg c30] at H
                      exact absurd H (by simp)
                    ·rw [if_neg c29] at H
                     exact absurd H (by simp)
                   ·rw [if_neg c28] at H
                    have c28b0 : decide (x5_5 < x4_4) = false := decide_eq_false c28
                    clear c28
                    have H' := Aside0.mk H
                    clear H
                    go_wp2
                    repeat (go_quiet (fail); try go_wp2)
                    go_roundg k5
                    case measure => have := HJ1.out; have := HK2.out; have := HJ11.out; have := HK4.out; have := HK5.out; omega
                    case rel => exact ⟨(wrap64 (x4_4 + 1)), (by first | rfl | (simp; done) | (simp [*]; done)), H', ⟨by have := HJ1.out; have := HK2.out; have := HJ11.out; have := HK4.out; have := HK5.out; omega⟩, ⟨bz BK238⟩, ⟨by exact bh⟩⟩
                ·replace c26 := Bool.eq_false_iff.mpr c26
                 subst c26
                 have H1 : (some false) = some r := by rw [if_neg (show ¬ (false = true) by decide)] at H; exact H
                 clear H
                 have H := H1
                 clear H1
                 obtain rfl := Option.some.inj H
                 have hcz38_0 := cz0 BK238
                 have hcz38_1 := cz1 BK238
                 have hcz38_2 := cz2 BK238
                 have hcz38_3 := cz3 BK238
                 have hfz38_0 := blk_frozen BK238.out 0
                 have hfz38_1 := blk_frozen BK238.out 1
                 have hfz38_2 := blk_frozen BK238.out 2
                 have hfz38_3 := blk_frozen BK238.out 3
                 have p243 : 0 ≤ (x3_2 : Int) := oda
                 have q243 : x3_2 < (l0_1.length : Int) := oda
                 obtain ⟨ad243, A243_0, c243_0, e243, hx243_0, hl243_0, hi243_0⟩ := at_L1 HR0_1.out x3_2 p243 q243
                 cases e243
                 replace hx243_0 := (HB.out.cell (World.block_lt_of_cell? w _ hx243_0)).trans hx243_0
                 have HR243_0 := Aside0.mk hi243_0
                 have HC243_0 := Aside0.mk hl243_0
                 clear hi243_0 hl243_0
                 replace p243 := eq_true p243
                 replace q243 := eq_true q243
                 have p244 : 0 ≤ (x3_2 : Int) := oda
                 have q244 : x3_2 < (l0_1.length : Int) := oda
                 obtain ⟨ad244, A244_0, c244_0, e244, hx244_0, hl244_0, hi244_0⟩ := at_L1 HR0_1.out x3_2 p244 q244
                 obtain rfl : ad243 = ad244 := (by injection e244)
                 replace hx244_0 := (HB.out.cell (World.block_lt_of_cell? w _ hx244_0)).trans hx244_0
                 have HR244_0 := Aside0.mk hi244_0
                 have HC244_0 := Aside0.mk hl244_0
                 clear hi244_0 hl244_0
                 replace p244 := eq_true p244
                 replace q244 := eq_true q244
                 have ea_ := Option.some.inj (hx243_0.symm.trans hx244_0)
                 injection ea_ with ea_ en_ ec_
                 subst ea_
                 subst ec_
                 clear en_
                 have p245 : 0 ≤ (x4_4 : Int) := oda
                 have q245 : x4_4 < ((rd_L1 l0_1 x3_2).length : Int) := oda
                 obtain ⟨ad245, e245, hx245_0⟩ := Kd.at_int HR244_0.out x4_4 p245 q245
                 cases e245
                 replace hx245_0 := (HB.out.cell (World.block_lt_of_cell? w _ hx245_0)).trans hx245_0
                 replace p245 := eq_true p245
                 replace q245 := eq_true q245
                 go_wp2_with (first | (go_at_call 52; (with_reducible refine (spec_l1In.calls (rd (rd_L1 l0_1 x3_2) x4_4) 0 (wrap64 (a0_0 - 1)) false _ A25.out).mono ?_); rintro e w' ⟨rfl, ⟨nd, rfl⟩⟩; (try first | exact ⟨rfl, _, World.drewN_drewN _ _ _⟩ | exact ⟨rfl, _, Eq.trans (World.drewN_drewN _ _ _) (congrArg (World.drewN _) (Nat.add_assoc _ _ _))⟩)))
                 repeat (go_quiet (first | (go_at_call 52; (with_reducible refine (spec_l1In.calls (rd (rd_L1 l0_1 x3_2) x4_4) 0 (wrap64 (a0_0 - 1)) false _ A25.out).mono ?_); rintro e w' ⟨rfl, ⟨nd, rfl⟩⟩; (try first | exact ⟨rfl, _, World.drewN_drewN _ _ _⟩ | exact ⟨rfl, _, Eq.trans (World.drewN_drewN _ _ _) (congrArg (World.drewN _) (Nat.add_assoc _ _ _))⟩))); try go_wp2_with (first | (go_at_call 52; (with_reducible refine (spec_l1In.calls (rd (rd_L1 l0_1 x3_2) x4_4) 0 (wrap64 (a0_0 - 1)) false _ A25.out).mono ?_); rintro e w' ⟨rfl, ⟨nd, rfl⟩⟩; (try first | exact ⟨rfl, _, World.drewN_drewN _ _ _⟩ | exact ⟨rfl, _, Eq.trans (World.drewN_drewN _ _ _) (congrArg (World.drewN _) (Nat.add_assoc _ _ _))⟩))))
                 go_ret
                 exact ⟨by first | rfl | (simp [errW_none, errW_some] <;> rfl) | (simp [*, errW_none, errW_some] <;> rfl), by exact bh⟩
               ·rw [if_neg c24] at H
                exact absurd H (by simp)
              ·rw [if_neg c23] at H
               have c23b0 : decide (x4_4 < ((rd_L1 l0_1 x3_2).length : Int)) = false := decide_eq_false c23
               clear c23
               have HC39 := Aside0.mk H
               clear H
               have hcz40_0 := cz0 BK238
               have hcz40_1 := cz1 BK238
               have hcz40_2 := cz2 BK238
               have hcz40_3 := cz3 BK238
               have hfz40_0 := blk_frozen BK238.out 0
               have hfz40_1 := blk_frozen BK238.out 1
               have hfz40_2 := blk_frozen BK238.out 2
               have hfz40_3 := blk_frozen BK238.out 3
               have p243 : 0 ≤ (x3_2 : Int) := oda
               have q243 : x3_2 < (l0_1.length : Int) := oda
               obtain ⟨ad243, A243_0, c243_0, e243, hx243_0, hl243_0, hi243_0⟩ := at_L1 HR0_1.out x3_2 p243 q243
               cases e243
               replace hx243_0 := (HB.out.cell (World.block_lt_of_cell? w _ hx243_0)).trans hx243_0
               have HR243_0 := Aside0.mk hi243_0
               have HC243_0 := Aside0.mk hl243_0
               clear hi243_0 hl243_0
               replace p243 := eq_true p243
               replace q243 := eq_true q243
               go_upto_region 18 with (fail)
               repeat (go_quiet (fail); go_upto_region 18 with (fail))
               go_cut [116] (fun v116 wc => ∃ (kq : Nat) (x116_38 : Bool), v116 = .bool x116_38 ∧ Aside0 (spec_CourtOk.j5 kq x3_2 x116_38 a0_0 l0_1 l0_2 a0_3 = some r) ∧ Aside0 (kq ≤ k4) ∧ Aside0 (wc.heap[gb238]? = some (.cells #[.int .i64 a0_0, (.slice (some ad243) l0_1.length c0_1), (.slice A0_2 l0_2.length c0_2), .int .i64 a0_3] 28 (0, 0))) ∧ Aside0 (Below w.heap.size w wc))
               case first =>
                have H := HC39.out
                clear HC39
                by_cases c41 : x3_2 < (l0_2.length : Int)
                ·rw [if_pos c41] at H
                 have c41b0 : decide (x3_2 < (l0_2.length : Int)) = true := decide_eq_true c41
                 clear c41
                 (first | rw [c41b0] | (simp only [i64_w, i32_w]; rw [c41b0]) | skip)
                 by_cases c42 : (rd l0_2 x3_2) = (-1)
                 ·rw [if_pos c42] at H
                  have c42b0 : ((rd l0_2 x3_2) == (-1)) = true := beq_iff_eq.mpr c42
                  have c42b1 : ((rd l0_2 x3_2) != (-1)) = false := bne_eq_false_iff_eq.mpr c42
                  clear c42
                  have H' := Aside0.mk H
                  clear H
                  have hcz43_0 := cz0 BK238
                  have hcz43_1 := cz1 BK238
                  have hcz43_2 := cz2 BK238
                  have hcz43_3 := cz3 BK238
                  have hfz43_0 := blk_frozen BK238.out 0
                  have hfz43_1 := blk_frozen BK238.out 1
                  have hfz43_2 := blk_frozen BK238.out 2
                  have hfz43_3 := blk_frozen BK238.out 3
                  have p251 : 0 ≤ (x3_2 : Int) := oda
                  have q251 : x3_2 < (l0_2.length : Int) := oda
                  obtain ⟨ad251, e251, hx251_0⟩ := Kd.at_int HR0_2.out x3_2 p251 q251
                  cases e251
                  replace hx251_0 := (HB.out.cell (World.block_lt_of_cell? w _ hx251_0)).trans hx251_0
                  replace p251 := eq_true p251
                  replace q251 := eq_true q251
                  go_wp2
                  repeat (go_quiet (fail); try go_wp2)
                  go_meet
                  case rel => exact ⟨_, (false), (by first | rfl | (simp; done) | (simp [*]; done)), H', ⟨by have := HJ1.out; have := HK2.out; have := HJ11.out; have := HK4.out; first | omega | exact Nat.le_refl _⟩, ⟨bz BK238⟩, ⟨by exact bh⟩⟩
                 ·rw [if_neg c42] at H
                  have c42b0 : ((rd l0_2 x3_2) == (-1)) = false := beq_eq_false_iff_ne.mpr c42
                  have c42b1 : ((rd l0_2 x3_2) != (-1)) = true := bne_iff_ne.mpr c42
                  by_cases c44 : 0 ≤ (rd l0_2 x3_2)
                  ·rw [if_pos c44] at H
                   have c44b0 := eq_true c44
                   have c44b1 : decide (0 ≤ (rd l0_2 x3_2)) = true := decide_eq_true c44
                   clear c44
                   obtain ⟨ji45, hji45⟩ : ∃ j_ : Int, (shr .i64 a0_3 (rd l0_2 x3_2)) = j_ := ⟨_, rfl⟩
                   replace H : (spec_CourtOk.j5 k4 x3_2 ((Int.tmod (ji45) 2) == 0) a0_0 l0_1 l0_2 a0_3) = some r := by first | (rw [hji45] at H; exact H) | (simp only [hji45] at H ⊢; exact H)
                   have hji45_ : (a0_3 / 2 ^ min (rd l0_2 x3_2).toNat 64) = ji45 := hji45
                   have hji45z : (rd l0_2 x3_2) ≤ 64 → (a0_3 / 2 ^ (rd l0_2 x3_2).toNat) = ji45 := shr_small hji45
                   have H' := Aside0.mk H
                   clear H
                   have hcz46_0 := cz0 BK238
                   have hcz46_1 := cz1 BK238
                   have hcz46_2 := cz2 BK238
                   have hcz46_3 := cz3 BK238
                   have hfz46_0 := blk_frozen BK238.out 0
                   have hfz46_1 := blk_frozen BK238.out 1
                   have hfz46_2 := blk_frozen BK238.out 2
                   have hfz46_3 := blk_frozen BK238.out 3
                   have p251 : 0 ≤ (x3_2 : Int) := oda
                   have q251 : x3_2 < (l0_2.length : Int) := oda
                   obtain ⟨ad251, e251, hx251_0⟩ := Kd.at_int HR0_2.out x3_2 p251 q251
                   cases e251
                   replace hx251_0 := (HB.out.cell (World.block_lt_of_cell? w _ hx251_0)).trans hx251_0
                   replace p251 := eq_true p251
                   replace q251 := eq_true q251
                   have p252 : 0 ≤ (x3_2 : Int) := oda
                   have q252 : x3_2 < (l0_2.length : Int) := oda
                   obtain ⟨ad252, e252, hx252_0⟩ := Kd.at_int HR0_2.out x3_2 p252 q252
                   obtain rfl : ad251 = ad252 := (by injection e252)
                   replace hx252_0 := (HB.out.cell (World.block_lt_of_cell? w _ hx252_0)).trans hx252_0
                   replace p252 := eq_true p252
                   replace q252 := eq_true q252
                   go_wp2
                   repeat (go_quiet (fail); try go_wp2)
                   go_meet
                   case rel => exact ⟨_, (((Int.tmod (ji45) 2) == 0)), (by first | rfl | (simp; done) | (simp only [← hji45] <;> (first | rfl | simp)) | (simp [*]; done)), H', ⟨by have := HJ1.out; have := HK2.out; have := HJ11.out; have := HK4.out; first | omega | exact Nat.le_refl _⟩, ⟨bz BK238⟩, ⟨by exact bh⟩⟩
                  ·rw [if_neg c44] at H
                   exact absurd H (by simp)
                ·rw [if_neg c41] at H
                 exact absurd H (by simp)
               case rest =>
                clear HC39
                try clear c1
                try clear c2
                try clear p2
                try clear q2
                try clear hx2
                try clear c3
                try clear c4
                try clear c5
                try clear c6
                try clear c6b0
                try clear c6b1
                try clear p6
                try clear c10
                try clear c11
                try clear c11b0
                try clear c14
                try clear c14b0
                try clear c15
                try clear c15b0
                try clear c15b1
                try clear c17
                try clear c17b0
                try clear c20
                try clear c21
                try clear c21b0
                try clear c22
                try clear c22b0
                try clear c23
                try clear c23b0
                try clear c24
                try clear c24b0
                try clear p24
                try clear q24
                try clear hx24
                try clear p25
                try clear q25
                try clear hx25
                try clear c26
                try clear c28
                try clear c28b0
                try clear c29
                try clear c29b0
                try clear c30
                try clear c30b0
                try clear c31
                try clear c31b0
                try clear c32
                try clear c32b0
                try clear c33
                try clear c33b0
                try clear c34
                try clear c34b0
                try clear c35
                try clear c35b0
                try clear c35b1
                try clear c41
                try clear c41b0
                try clear c42
                try clear c42b0
                try clear c42b1
                try clear c44
                try clear c44b0
                try clear c44b1
                try clear hcz13_0
                try clear hcz13_1
                try clear hcz13_2
                try clear hcz13_3
                try clear hcz16_0
                try clear hcz16_1
                try clear hcz16_2
                try clear hcz16_3
                try clear hcz19_0
                try clear hcz19_1
                try clear hcz19_2
                try clear hcz19_3
                try clear hcz27_0
                try clear hcz27_1
                try clear hcz27_2
                try clear hcz27_3
                try clear hcz36_0
                try clear hcz36_1
                try clear hcz36_2
                try clear hcz36_3
                try clear hcz37_0
                try clear hcz37_1
                try clear hcz37_2
                try clear hcz37_3
                try clear hcz38_0
                try clear hcz38_1
                try clear hcz38_2
                try clear hcz38_3
                try clear hcz40_0
                try clear hcz40_1
                try clear hcz40_2
                try clear hcz40_3
                try clear hcz43_0
                try clear hcz43_1
                try clear hcz43_2
                try clear hcz43_3
                try clear hcz46_0
                try clear hcz46_1
                try clear hcz46_2
                try clear hcz46_3
                try clear hcz7_0
                try clear hcz7_1
                try clear hcz7_2
                try clear hcz7_3
                try clear hcz8_0
                try clear hcz8_1
                try clear hcz8_2
                try clear hcz8_3
                try clear hcz9_0
                try clear hcz9_1
                try clear hcz9_2
                try clear hcz9_3
                try clear hfz13_0
                try clear hfz13_1
                try clear hfz13_2
                try clear hfz13_3
                try clear hfz16_0
                try clear hfz16_1
                try clear hfz16_2
                try clear hfz16_3
                try clear hfz19_0
                try clear hfz19_1
                try clear hfz19_2
                try clear hfz19_3
                try clear hfz27_0
                try clear hfz27_1
                try clear hfz27_2
                try clear hfz27_3
                try clear hfz36_0
                try clear hfz36_1
                try clear hfz36_2
                try clear hfz36_3
                try clear hfz37_0
                try clear hfz37_1
                try clear hfz37_2
                try clear hfz37_3
                try clear hfz38_0
                try clear hfz38_1
                try clear hfz38_2
                try clear hfz38_3
                try clear hfz40_0
                try clear hfz40_1
                try clear hfz40_2
                try clear hfz40_3
                try clear hfz43_0
                try clear hfz43_1
                try clear hfz43_2
                try clear hfz43_3
                try clear hfz46_0
                try clear hfz46_1
                try clear hfz46_2
                try clear hfz46_3
                try clear hfz7_0
                try clear hfz7_1
                try clear hfz7_2
                try clear hfz7_3
                try clear hfz8_0
                try clear hfz8_1
                try clear hfz8_2
                try clear hfz8_3
                try clear hfz9_0
                try clear hfz9_1
                try clear hfz9_2
                try clear hfz9_3
                try clear hx240_0
                try clear hx241_0
                try clear hx243_0
                try clear hx244_0
                try clear hx245_0
                try clear hx247_0
                try clear hx248_0
                try clear hx249_0
                try clear hx250_0
                try clear hx251_0
                try clear hx252_0
                try clear p2
                try clear p24
                try clear p240
                try clear p241
                try clear p243
                try clear p244
                try clear p245
                try clear p247
                try clear p248
                try clear p249
                try clear p250
                try clear p251
                try clear p252
                try clear p6
                try clear q2
                try clear q24
                try clear q240
                try clear q241
                try clear q243
                try clear q244
                try clear q245
                try clear q247
                try clear q248
                try clear q249
                try clear q250
                try clear q251
                try clear q252
                obtain ⟨kq, x116_38, rfl, HA, HJ38, BK238, HB⟩ := hcut
                cases kq with
                | zero => exact absurd HA.out (by simp [spec_CourtOk.j5])
                | succ kj38 =>
                 have H := HA.out
                 clear HA
                 simp only [spec_CourtOk.j5] at H
                 by_cases c47 : x116_38 = true
                 ·subst c47
                  have H1 : (some false) = some r := by rw [if_pos rfl] at H; exact H
                  clear H
                  have H := H1
                  clear H1
                  obtain rfl := Option.some.inj H
                  go_wp2
                  repeat (go_quiet (fail); try go_wp2)
                  go_ret
                  exact ⟨by first | rfl | (simp [errW_none, errW_some] <;> rfl) | (simp [*, errW_none, errW_some] <;> rfl), by exact bh⟩
                 ·replace c47 := Bool.eq_false_iff.mpr c47
                  subst c47
                  have H1 : (spec_CourtOk.l3 kj38 x3_2 0 a0_0 l0_1 l0_2 a0_3) = some r := by rw [if_neg (show ¬ (false = true) by decide)] at H; exact H
                  clear H
                  have H := H1
                  clear H1
                  have H' := Aside0.mk H
                  clear H
                  go_wp2
                  repeat (go_quiet (fail); try go_wp2)
                  go_loopg [6] kj38 (fun kq v6 w' => ∃ (x6_6 : Int), v6 = .int .i64 x6_6 ∧ Aside0 (spec_CourtOk.l3 kq x3_2 x6_6 a0_0 l0_1 l0_2 a0_3 = some r) ∧ Aside0 (kq ≤ kj38) ∧ Aside0 (w'.heap[gb238]? = some (.cells #[.int .i64 a0_0, (.slice (some ad243) l0_1.length c0_1), (.slice A0_2 l0_2.length c0_2), .int .i64 a0_3] 28 (0, 0))) ∧ Aside0 (Below w.heap.size w w'))
                  case atStart => exact ⟨(0), (by first | rfl | (simp; done) | (simp [*]; done)), H', ⟨Nat.le_refl _⟩, ⟨bz BK238⟩, ⟨by exact bh⟩⟩
                  case round =>
                   clear H'
                   try clear c1
                   try clear c2
                   try clear p2
                   try clear q2
                   try clear hx2
                   try clear c3
                   try clear c4
                   try clear c5
                   try clear c6
                   try clear c6b0
                   try clear c6b1
                   try clear p6
                   try clear c10
                   try clear c11
                   try clear c11b0
                   try clear c14
                   try clear c14b0
                   try clear c15
                   try clear c15b0
                   try clear c15b1
                   try clear c17
                   try clear c17b0
                   try clear c20
                   try clear c21
                   try clear c21b0
                   try clear c22
                   try clear c22b0
                   try clear c23
                   try clear c23b0
                   try clear c24
                   try clear c24b0
                   try clear p24
                   try clear q24
                   try clear hx24
                   try clear p25
                   try clear q25
                   try clear hx25
                   try clear c26
                   try clear c28
                   try clear c28b0
                   try clear c29
                   try clear c29b0
                   try clear c30
                   try clear c30b0
                   try clear c31
                   try clear c31b0
                   try clear c32
                   try clear c32b0
                   try clear c33
                   try clear c33b0
                   try clear c34
                   try clear c34b0
                   try clear c35
                   try clear c35b0
                   try clear c35b1
                   try clear c41
                   try clear c41b0
                   try clear c42
                   try clear c42b0
                   try clear c42b1
                   try clear c44
                   try clear c44b0
                   try clear c44b1
                   try clear c47
                   try clear hcz13_0
                   try clear hcz13_1
                   try clear hcz13_2
                   try clear hcz13_3
                   try clear hcz16_0
                   try clear hcz16_1
                   try clear hcz16_2
                   try clear hcz16_3
                   try clear hcz19_0
                   try clear hcz19_1
                   try clear hcz19_2
                   try clear hcz19_3
                   try clear hcz27_0
                   try clear hcz27_1
                   try clear hcz27_2
                   try clear hcz27_3
                   try clear hcz36_0
                   try clear hcz36_1
                   try clear hcz36_2
                   try clear hcz36_3
                   try clear hcz37_0
                   try clear hcz37_1
                   try clear hcz37_2
                   try clear hcz37_3
                   try clear hcz38_0
                   try clear hcz38_1
                   try clear hcz38_2
                   try clear hcz38_3
                   try clear hcz40_0
                   try clear hcz40_1
                   try clear hcz40_2
                   try clear hcz40_3
                   try clear hcz43_0
                   try clear hcz43_1
                   try clear hcz43_2
                   try clear hcz43_3
                   try clear hcz46_0
                   try clear hcz46_1
                   try clear hcz46_2
                   try clear hcz46_3
                   try clear hcz7_0
                   try clear hcz7_1
                   try clear hcz7_2
                   try clear hcz7_3
                   try clear hcz8_0
                   try clear hcz8_1
                   try clear hcz8_2
                   try clear hcz8_3
                   try clear hcz9_0
                   try clear hcz9_1
                   try clear hcz9_2
                   try clear hcz9_3
                   try clear hfz13_0
                   try clear hfz13_1
                   try clear hfz13_2
                   try clear hfz13_3
                   try clear hfz16_0
                   try clear hfz16_1
                   try clear hfz16_2
                   try clear hfz16_3
                   try clear hfz19_0
                   try clear hfz19_1
                   try clear hfz19_2
                   try clear hfz19_3
                   try clear hfz27_0
                   try clear hfz27_1
                   try clear hfz27_2
                   try clear hfz27_3
                   try clear hfz36_0
                   try clear hfz36_1
                   try clear hfz36_2
                   try clear hfz36_3
                   try clear hfz37_0
                   try clear hfz37_1
                   try clear hfz37_2
                   try clear hfz37_3
                   try clear hfz38_0
                   try clear hfz38_1
                   try clear hfz38_2
                   try clear hfz38_3
                   try clear hfz40_0
                   try clear hfz40_1
                   try clear hfz40_2
                   try clear hfz40_3
                   try clear hfz43_0
                   try clear hfz43_1
                   try clear hfz43_2
                   try clear hfz43_3
                   try clear hfz46_0
                   try clear hfz46_1
                   try clear hfz46_2
                   try clear hfz46_3
                   try clear hfz7_0
                   try clear hfz7_1
                   try clear hfz7_2
                   try clear hfz7_3
                   try clear hfz8_0
                   try clear hfz8_1
                   try clear hfz8_2
                   try clear hfz8_3
                   try clear hfz9_0
                   try clear hfz9_1
                   try clear hfz9_2
                   try clear hfz9_3
                   try clear hx240_0
                   try clear hx241_0
                   try clear hx243_0
                   try clear hx244_0
                   try clear hx245_0
                   try clear hx247_0
                   try clear hx248_0
                   try clear hx249_0
                   try clear hx250_0
                   try clear hx251_0
                   try clear hx252_0
                   try clear p2
                   try clear p24
                   try clear p240
                   try clear p241
                   try clear p243
                   try clear p244
                   try clear p245
                   try clear p247
                   try clear p248
                   try clear p249
                   try clear p25
                   try clear p250
                   try clear p251
                   try clear p252
                   try clear p6
                   try clear q2
                   try clear q24
                   try clear q240
                   try clear q241
                   try clear q243
                   try clear q244
                   try clear q245
                   try clear q247
                   try clear q248
                   try clear q249
                   try clear q25
                   try clear q250
                   try clear q251
                   try clear q252
                   obtain ⟨x6_6, rfl, HA, HK6, BK238, HB⟩ := hrel
                   cases gk with
                   | zero => exact absurd HA.out (by simp [spec_CourtOk.l3])
                   | succ k6 =>
                    have H := HA.out
                    clear HA
                    simp only [spec_CourtOk.l3] at H
                    by_cases c48 : x6_6 < x3_2
                    ·rw [if_pos c48] at H
                     have c48b0 : decide (x6_6 < x3_2) = true := decide_eq_true c48
                     clear c48
                     by_cases c49 : 0 ≤ x3_2
                     ·rw [if_pos c49] at H
                      have c49b0 : decide (0 ≤ x3_2) = true := decide_eq_true c49
                      clear c49
                      by_cases c50 : x3_2 < (l0_2.length : Int)
                      ·rw [if_pos c50] at H
                       have c50b0 : decide (x3_2 < (l0_2.length : Int)) = true := decide_eq_true c50
                       clear c50
                       by_cases c51 : (rd l0_2 x3_2) = (-1)
                       ·rw [if_pos c51] at H
                        have c51b0 : ((rd l0_2 x3_2) == (-1)) = true := beq_iff_eq.mpr c51
                        have c51b1 : ((rd l0_2 x3_2) != (-1)) = false := bne_eq_false_iff_eq.mpr c51
                        clear c51
                        have H' := Aside0.mk H
                        clear H
                        have hcz52_0 := cz0 BK238
                        have hcz52_1 := cz1 BK238
                        have hcz52_2 := cz2 BK238
                        have hcz52_3 := cz3 BK238
                        have hfz52_0 := blk_frozen BK238.out 0
                        have hfz52_1 := blk_frozen BK238.out 1
                        have hfz52_2 := blk_frozen BK238.out 2
                        have hfz52_3 := blk_frozen BK238.out 3
                        have p253 : 0 ≤ (x3_2 : Int) := oda
                        have q253 : x3_2 < (l0_2.length : Int) := oda
                        obtain ⟨ad253, e253, hx253_0⟩ := Kd.at_int HR0_2.out x3_2 p253 q253
                        cases e253
                        replace hx253_0 := (HB.out.cell (World.block_lt_of_cell? w _ hx253_0)).trans hx253_0
                        replace p253 := eq_true p253
                        replace q253 := eq_true q253
                        go_wp2
                        repeat (go_quiet (fail); try go_wp2)
                        go_roundg k6
                        case measure => have := HJ1.out; have := HK2.out; have := HJ11.out; have := HK4.out; have := HJ38.out; have := HK6.out; omega
                        case rel => exact ⟨(wrap64 (x6_6 + 1)), (by first | rfl | (simp; done) | (simp [*]; done)), H', ⟨by have := HJ1.out; have := HK2.out; have := HJ11.out; have := HK4.out; have := HJ38.out; have := HK6.out; omega⟩, ⟨bz BK238⟩, ⟨by exact bh⟩⟩
                       ·rw [if_neg c51] at H
                        have c51b0 : ((rd l0_2 x3_2) == (-1)) = false := beq_eq_false_iff_ne.mpr c51
                        have c51b1 : ((rd l0_2 x3_2) != (-1)) = true := bne_iff_ne.mpr c51
                        by_cases c53 : 0 ≤ x6_6
                        ·rw [if_pos c53] at H
                         have c53b0 : decide (0 ≤ x6_6) = true := decide_eq_true c53
                         clear c53
                         by_cases c54 : x6_6 < (l0_2.length : Int)
                         ·rw [if_pos c54] at H
                          have c54b0 : decide (x6_6 < (l0_2.length : Int)) = true := decide_eq_true c54
                          clear c54
                          by_cases c55 : (rd l0_2 x3_2) = (rd l0_2 x6_6)
                          ·rw [if_pos c55] at H
                           have c55b0 : ((rd l0_2 x3_2) == (rd l0_2 x6_6)) = true := beq_iff_eq.mpr c55
                           have c55b1 : ((rd l0_2 x3_2) != (rd l0_2 x6_6)) = false := bne_eq_false_iff_eq.mpr c55
                           clear c55
                           obtain rfl := Option.some.inj H
                           have hcz56_0 := cz0 BK238
                           have hcz56_1 := cz1 BK238
                           have hcz56_2 := cz2 BK238
                           have hcz56_3 := cz3 BK238
                           have hfz56_0 := blk_frozen BK238.out 0
                           have hfz56_1 := blk_frozen BK238.out 1
                           have hfz56_2 := blk_frozen BK238.out 2
                           have hfz56_3 := blk_frozen BK238.out 3
                           have p253 : 0 ≤ (x3_2 : Int) := oda
                           have q253 : x3_2 < (l0_2.length : Int) := oda
                           obtain ⟨ad253, e253, hx253_0⟩ := Kd.at_int HR0_2.out x3_2 p253 q253
                           cases e253
                           replace hx253_0 := (HB.out.cell (World.block_lt_of_cell? w _ hx253_0)).trans hx253_0
                           replace p253 := eq_true p253
                           replace q253 := eq_true q253
                           have p254 : 0 ≤ (x3_2 : Int) := oda
                           have q254 : x3_2 < (l0_2.length : Int) := oda
                           obtain ⟨ad254, e254, hx254_0⟩ := Kd.at_int HR0_2.out x3_2 p254 q254
                           obtain rfl : ad253 = ad254 := (by injection e254)
                           replace hx254_0 := (HB.out.cell (World.block_lt_of_cell? w _ hx254_0)).trans hx254_0
                           replace p254 := eq_true p254
                           replace q254 := eq_true q254
                           have p255 : 0 ≤ (x6_6 : Int) := oda
                           have q255 : x6_6 < (l0_2.length : Int) := oda
                           obtain ⟨ad255, e255, hx255_0⟩ := Kd.at_int HR0_2.out x6_6 p255 q255
                           obtain rfl : ad253 = ad255 := (by injection e255)
                           replace hx255_0 := (HB.out.cell (World.block_lt_of_cell? w _ hx255_0)).trans hx255_0
                           replace p255 := eq_true p255
                           replace q255 := eq_true q255
                           go_wp2
                           repeat (go_quiet (fail); try go_wp2)
                           go_ret
                           exact ⟨by first | rfl | (simp [errW_none, errW_some] <;> rfl) | (simp [*, errW_none, errW_some] <;> rfl), by exact bh⟩
                          ·rw [if_neg c55] at H
                           have c55b0 : ((rd l0_2 x3_2) == (rd l0_2 x6_6)) = false := beq_eq_false_iff_ne.mpr c55
                           have c55b1 : ((rd l0_2 x3_2) != (rd l0_2 x6_6)) = true := bne_iff_ne.mpr c55
                           have H' := Aside0.mk H
                           clear H
                           have hcz57_0 := cz0 BK238
                           have hcz57_1 := cz1 BK238
                           have hcz57_2 := cz2 BK238
                           have hcz57_3 := cz3 BK238
                           have hfz57_0 := blk_frozen BK238.out 0
                           have hfz57_1 := blk_frozen BK238.out 1
                           have hfz57_2 := blk_frozen BK238.out 2
                           have hfz57_3 := blk_frozen BK238.out 3
                           have p253 : 0 ≤ (x3_2 : Int) := oda
                           have q253 : x3_2 < (l0_2.length : Int) := oda
                           obtain ⟨ad253, e253, hx253_0⟩ := Kd.at_int HR0_2.out x3_2 p253 q253
                           cases e253
                           replace hx253_0 := (HB.out.cell (World.block_lt_of_cell? w _ hx253_0)).trans hx253_0
                           replace p253 := eq_true p253
                           replace q253 := eq_true q253
                           have p254 : 0 ≤ (x3_2 : Int) := oda
                           have q254 : x3_2 < (l0_2.length : Int) := oda
                           obtain ⟨ad254, e254, hx254_0⟩ := Kd.at_int HR0_2.out x3_2 p254 q254
                           obtain rfl : ad253 = ad254 := (by injection e254)
                           replace hx254_0 := (HB.out.cell (World.block_lt_of_cell? w _ hx254_0)).trans hx254_0
                           replace p254 := eq_true p254
                           replace q254 := eq_true q254
                           have p255 : 0 ≤ (x6_6 : Int) := oda
                           have q255 : x6_6 < (l0_2.length : Int) := oda
                           obtain ⟨ad255, e255, hx255_0⟩ := Kd.at_int HR0_2.out x6_6 p255 q255
                           obtain rfl : ad253 = ad255 := (by injection e255)
                           replace hx255_0 := (HB.out.cell (World.block_lt_of_cell? w _ hx255_0)).trans hx255_0
                           replace p255 := eq_true p255
                           replace q255 := eq_true q255
                           go_wp2
                           repeat (go_quiet (fail); try go_wp2)
                           go_roundg k6
                           case measure => have := HJ1.out; have := HK2.out; have := HJ11.out; have := HK4.out; have := HJ38.out; have := HK6.out; omega
                           case rel => exact ⟨(wrap64 (x6_6 + 1)), (by first | rfl | (simp; done) | (simp [*]; done)), H', ⟨by have := HJ1.out; have := HK2.out; have := HJ11.out; have := HK4.out; have := HJ38.out; have := HK6.out; omega⟩, ⟨bz BK238⟩, ⟨by exact bh⟩⟩
                         ·rw [if_neg c54] at H
                          exact absurd H (by simp)
                        ·rw [if_neg c53] at H
                         exact absurd H (by simp)
                      ·rw [if_neg c50] at H
                       exact absurd H (by simp)
                     ·rw [if_neg c49] at H
                      exact absurd H (by simp)
                    ·rw [if_neg c48] at H
                     have c48b0 : decide (x6_6 < x3_2) = false := decide_eq_false c48
                     clear c48
                     have H' := Aside0.mk H
                     clear H
                     go_wp2
                     repeat (go_quiet (fail); try go_wp2)
                     go_roundg k6
                     case measure => have := HJ1.out; have := HK2.out; have := HJ11.out; have := HK4.out; have := HJ38.out; have := HK6.out; omega
                     case rel => exact ⟨(wrap64 (x3_2 + 1)), (by first | rfl | (simp; done) | (simp [*]; done)), H', ⟨by have := HJ1.out; have := HK2.out; have := HJ11.out; have := HK4.out; have := HJ38.out; have := HK6.out; omega⟩, ⟨bz BK238⟩, ⟨by exact bh⟩⟩
             ·rw [if_neg c22] at H
              exact absurd H (by simp)
            ·rw [if_neg c21] at H
             exact absurd H (by simp)
      ·rw [if_neg c11] at H
       have c11b0 : decide (x3_2 < (l0_1.length : Int)) = false := decide_eq_false c11
       clear c11
       obtain rfl := Option.some.inj H
       have hcz58_0 := cz0 BK238
       have hcz58_1 := cz1 BK238
       have hcz58_2 := cz2 BK238
       have hcz58_3 := cz3 BK238
       have hfz58_0 := blk_frozen BK238.out 0
       have hfz58_1 := blk_frozen BK238.out 1
       have hfz58_2 := blk_frozen BK238.out 2
       have hfz58_3 := blk_frozen BK238.out 3
       go_wp2
       repeat (go_quiet (fail); try go_wp2)
       go_ret
       exact ⟨by first | rfl | (simp [errW_none, errW_some] <;> rfl) | (simp [*, errW_none, errW_some] <;> rfl), by exact bh⟩

end Go.Proofs.Ytlpjkeejflogjaa.QFnExactAfterDeaths
