-- Printed for this claim by a turned copy of the print (wip/myprint). Lean checks it.
import Derived.Test.YtaddlahbahedeaaRows
import Derived.Test.YtaddlahbahedeaaQFnExactLeastConsentsx15
import Derived.Test.YtaddlahbahedeaaPureFnExactLeastConsents
import Derived.Test.YtaddlahbahedeaaUFnExactLeastConsentsOpens
import Derived.WalkKit
import Derived.ProofKit
import Derived.OpenShut
import Derived.ShutString
import Derived.ChangeOld
import Derived.Below
import Derived.SizedLaws
namespace Go.Proofs.Ytaddlahbahedeaa.fnExactLeastConsents
open Go.ChangeShapes Go.WideShapes Go.ChangeAt Go.RowKit
open Go.Proofs.Ytaddlahbahedeaa.QFnExactLeastConsents Go.Proofs.YtaddlahbahedeaaW.PrintWords
open Go.ChangeMaps (open_string shut_string)
set_option linter.unusedVariables false
theorem own : ownKnob Try.prog.godebug = none := by kernel_rfl
theorem laidOut : laidOutB Try.prog = true := by kernel_rfl
set_option maxRecDepth 100000 in
theorem lifted (os : Os) (started : os.Started) (H : Type) (enc : TypeId × Value → H) :
    ReturnsInHanded {} Try.checked os 4 .any (Rows.fnExactLeastConsentsSpec.pre6 enc Try.prog Try.f4 Rows.fnExactLeastConsentsRow.domain false) (Rows.fnExactLeastConsentsSpec.post enc Try.prog Try.f4 false true false false) := by
  refine returnsInHanded_of_change_sized (C := Try.checked) own started (by kernel_rfl) Try.func4
    (ChangeSpec.witness6 (enc := enc) (C := Try.checked) false ⟨#[], #[.agg #[.int .i64 0, .slice none 0 0], .slice none 0 0], []⟩ 8 (by kernel_rfl) (by kernel_rfl) (by kernel_rfl) (by kernel_rfl)) ?_
  intro W base args ds gs before hval0 hW hcnd hsz0 _
  have hval : ∀ (j : Nat) t v, Try.f4.params[j]? = some t → args[j]? = some v → Value.okWide Try.prog W .any base t v := hval0
  have hW' := hW
  obtain ⟨p, q, hA0, hV, rfl, hfz, hnd⟩ := hW
  have hA : DataW.TrodAll enc Try.prog W 0 (fun _ => true) true Try.f4.params.toList args.toList ds p := hA0
  rw [Try.params4] at hA hval
  obtain ⟨v0, vs0, d0, ds0, p0, q0, hargs, rfl, rfl, h0, r0⟩ := trodAll_cons hA
  obtain ⟨v1, vs1, d1, ds1, p1, q1, rfl, rfl, rfl, h1, r1⟩ := trodAll_cons r0
  obtain ⟨rfl, rfl, rfl⟩ := trodAll_nil r1
  obtain rfl : args = #[v0, v1] := by cases args; simp_all
  obtain ⟨rfl, rfl⟩ := trodVars_none hV
  have k0 := h0
  have lt0 : ∀ x ∈ p0, x.block < W.heap.size := by obtain ⟨m, hm⟩ := k0; exact DataW.trod_lt m _ _ _ hm
  obtain ⟨cs0, rfl⟩ : ∃ cs : List Value, v0 = .agg cs.toArray := by
    have hq := hval 0 36 v0 rfl rfl
    unfold Value.okWide at hq
    rw [Try.underlying36] at hq
    obtain ⟨cs, e, _⟩ := hq
    exact ⟨cs.toList, by rw [e]⟩
  obtain ⟨x0, hK0, hp0⟩ : ∃ x, ((Kd.pair (Kd.int .i64) (Kd.slice 3 (Kd.int .i64)))).K W x cs0 ∧ (Opens.pPair (Opens.pInt .i64) (Opens.pSlice (Opens.pInt .i64))) x := by
    obtain ⟨fuel, hf⟩ := h0
    exact (Opens.opens_struct Try.underlying36 (by kernel_rfl) (Opens.opensF_cons rfl (by kernel_rfl) (Opens.opens_int Try.underlying3) (Opens.opensF_one rfl (by kernel_rfl) (Opens.opens_slice Try.underlying23 (by kernel_rfl) (Opens.opens_int Try.underlying3))))) _ _ _ hf
  obtain ⟨a0_0, l0_1⟩ := x0
  obtain ⟨_, _, rfl, rfl, ⟨A0_1, c0_1, rfl, hc0_1, hr0_1⟩⟩ := hK0
  obtain ⟨hp0_0, hp0_1⟩ := hp0
  have k1 := h1
  have lt1 : ∀ x ∈ p1, x.block < W.heap.size := by obtain ⟨m, hm⟩ := k1; exact DataW.trod_lt m _ _ _ hm
  obtain ⟨A1, len1, c1, rfl⟩ := okWide_slice Try.underlying37 (hval 1 37 v1 rfl rfl)
  obtain ⟨l1, hK1, hp1⟩ : ∃ l, ((Kd.slice 68 k68)).K W l [.slice A1 len1 c1] ∧ (Opens.pSlice (Opens.pIso (Opens.pPair (Opens.pInt .i64) (Opens.pPair (Opens.pInt .i64) (Opens.pInt .i64))) (fun x : S68 => (x.f0, x.f1, x.f2)))) l := by
    obtain ⟨fuel, hf⟩ := h1
    exact (Opens.opens_slice Try.underlying37 (by kernel_rfl) (Opens.opens_iso (fun x => (⟨x.1, x.2.1, x.2.2⟩ : S68)) (fun _ => rfl) (Opens.opens_struct Try.underlying68 (by kernel_rfl) (Opens.opensF_cons rfl (by kernel_rfl) (Opens.opens_int Try.underlying3) (Opens.opensF_cons rfl (by kernel_rfl) (Opens.opens_int Try.underlying3) (Opens.opensF_one rfl (by kernel_rfl) (Opens.opens_int Try.underlying3))))))) _ _ _ hf
  obtain ⟨e1, hc1, hr1⟩ := Opens.slice_parts hK1
  subst e1
  clear hA0 hval0 hsz0
  obtain ⟨k, h⟩ := Pure.FnExactLeastConsents a0_0 l0_1 l1 hp0_0 hp0_1 hp1
  refine (laws_FnExactLeastConsents.calls k a0_0 A0_1 c0_1 l0_1 A1 c1 l1 true W hr0_1 hc0_1 hr1 hc1 h).mono fun e W' ⟨he, bel0⟩ => ?_
  have bel : Below W.heap.size W W' := bel0
  subst he
  exact ⟨_, rfl, _, _, _, [], _, [], hW', trodAll_mk1 (shut_bool Try.underlying4 _), (trodAll_cons_mk (Below.trod laidOut (by kernel_rfl) (of_decide_eq_true (by kernel_rfl)) k0 bel lt0) (trodAll_cons_mk (Below.trod laidOut (by kernel_rfl) (of_decide_eq_true (by kernel_rfl)) k1 bel lt1) trodAll_mk0)), rfl, bel.frame _, fun h => by cases h⟩
theorem over : Rows.fnExactLeastConsentsRow.holds Try.pinned (OpenSpec.ofChange Rows.fnExactLeastConsentsSpec) :=
  OpenClaim.holds_of_wide 4 Try.f4 rfl rfl rfl rfl rfl rfl rfl ⟨rfl, rfl, rfl, rfl, rfl⟩ rfl rfl rfl rfl rfl (by kernel_rfl) Try.func4 (by kernel_rfl)
    (of_decide_eq_true (by kernel_rfl)) (by unfold Func.isWrapper; first | (rw [if_pos (by decide +kernel)]; kernel_rfl) | (rw [if_neg (by decide +kernel)]; exact ⟨rfl, rfl⟩))
    (fun os started H enc _ => lifted os started H enc)
theorem proved : Rows.FnExactLeastConsentsSaid := over
#print axioms proved
end Go.Proofs.Ytaddlahbahedeaa.fnExactLeastConsents
namespace Go.Proofs.Ytaddlahbahedeaa
/-- The row, under a short name, for the claim. -/
theorem fnExactLeastConsents_holds : Rows.FnExactLeastConsentsSaid := fnExactLeastConsents.proved
end Go.Proofs.Ytaddlahbahedeaa
