-- Printed for this claim by a turned copy of the print (wip/myprint). Lean checks it.
import Derived.Test.YtlacdgmapojmlaaRows
import Derived.Test.YtlacdgmapojmlaaQFnExactWithoutLawx4
import Derived.Test.YtlacdgmapojmlaaPureFnExactWithoutLaw
import Derived.Test.YtlacdgmapojmlaaUFnExactWithoutLawOpens
import Derived.WalkKit
import Derived.ProofKit
import Derived.OpenShut
import Derived.ShutString
import Derived.ChangeOld
import Derived.Below
import Derived.SizedLaws
namespace Go.Proofs.Ytlacdgmapojmlaa.fnExactWithoutLaw
open Go.ChangeShapes Go.WideShapes Go.ChangeAt Go.RowKit
open Go.Proofs.Ytlacdgmapojmlaa.QFnExactWithoutLaw Go.Proofs.YtlacdgmapojmlaaW.PrintWords
open Go.ChangeMaps (open_string shut_string)
set_option linter.unusedVariables false
theorem own : ownKnob Try.prog.godebug = none := by kernel_rfl
theorem laidOut : laidOutB Try.prog = true := by kernel_rfl
set_option maxRecDepth 100000 in
theorem lifted (os : Os) (started : os.Started) (H : Type) (enc : TypeId × Value → H) :
    ReturnsInHanded {} Try.checked os 8 .any (Rows.fnExactWithoutLawSpec.pre6 enc Try.prog Try.f8 Rows.fnExactWithoutLawRow.domain false) (Rows.fnExactWithoutLawSpec.post enc Try.prog Try.f8 false true false false) := by
  refine returnsInHanded_of_change_sized (C := Try.checked) own started (by kernel_rfl) Try.func8
    (ChangeSpec.witness6 (enc := enc) (C := Try.checked) false ⟨#[], #[.slice none 0 0, .int .i64 0], []⟩ 8 (by kernel_rfl) (by kernel_rfl) (by kernel_rfl) (by kernel_rfl)) ?_
  intro W base args ds gs before hval0 hW hcnd hsz0 _
  have hval : ∀ (j : Nat) t v, Try.f8.params[j]? = some t → args[j]? = some v → Value.okWide Try.prog W .any base t v := hval0
  have hW' := hW
  obtain ⟨p, q, hA0, hV, rfl, hfz, hnd⟩ := hW
  have hA : DataW.TrodAll enc Try.prog W 0 (fun _ => true) true Try.f8.params.toList args.toList ds p := hA0
  rw [Try.params8] at hA hval
  obtain ⟨v0, vs0, d0, ds0, p0, q0, hargs, rfl, rfl, h0, r0⟩ := trodAll_cons hA
  obtain ⟨v1, vs1, d1, ds1, p1, q1, rfl, rfl, rfl, h1, r1⟩ := trodAll_cons r0
  obtain ⟨rfl, rfl, rfl⟩ := trodAll_nil r1
  obtain rfl : args = #[v0, v1] := by cases args; simp_all
  obtain ⟨rfl, rfl⟩ := trodVars_none hV
  have k0 := h0
  have lt0 : ∀ x ∈ p0, x.block < W.heap.size := by obtain ⟨m, hm⟩ := k0; exact DataW.trod_lt m _ _ _ hm
  obtain ⟨A0, len0, c0, rfl⟩ := okWide_slice Try.underlying31 (hval 0 31 v0 rfl rfl)
  obtain ⟨l0, hK0, hp0⟩ : ∃ l, ((Kd.slice 23 k23)).K W l [.slice A0 len0 c0] ∧ (Opens.pSlice (Opens.pIso (Opens.pPair (Opens.pInt .i64) (Opens.pPair (Opens.pInt .i64) (Opens.pPair (Opens.pInt .i64) (Opens.pPair (Opens.pInt .i64) Opens.pBool)))) (fun x : S23 => (x.f0, x.f1, x.f2, x.f3, x.f4)))) l := by
    obtain ⟨fuel, hf⟩ := h0
    exact (Opens.opens_slice Try.underlying31 (by kernel_rfl) (Opens.opens_iso (fun x => (⟨x.1, x.2.1, x.2.2.1, x.2.2.2.1, x.2.2.2.2⟩ : S23)) (fun _ => rfl) (Opens.opens_struct Try.underlying23 (by kernel_rfl) (Opens.opensF_cons rfl (by kernel_rfl) (Opens.opens_int Try.underlying3) (Opens.opensF_cons rfl (by kernel_rfl) (Opens.opens_int Try.underlying3) (Opens.opensF_cons rfl (by kernel_rfl) (Opens.opens_int Try.underlying3) (Opens.opensF_cons rfl (by kernel_rfl) (Opens.opens_int Try.underlying3) (Opens.opensF_one rfl (by kernel_rfl) (Opens.opens_bool Try.underlying4))))))))) _ _ _ hf
  obtain ⟨e0, hc0, hr0⟩ := Opens.slice_parts hK0
  subst e0
  obtain ⟨a1, rfl, rfl, rfl, w1⟩ := open_int Try.underlying3 (hval 1 3 v1 rfl rfl) h1
  clear hA0 hval0 hsz0
  obtain ⟨k, h⟩ := Pure.FnExactWithoutLaw l0 a1 hp0 w1
  refine (laws_FnExactWithoutLaw.calls k A0 c0 l0 a1 true W hr0 hc0 h).mono fun e W' ⟨he, bel0⟩ => ?_
  have bel : Below W.heap.size W W' := bel0
  subst he
  exact ⟨_, rfl, _, _, _, [], _, [], hW', trodAll_mk1 (shut_bool Try.underlying4 _), (trodAll_cons_mk (Below.trod laidOut (by kernel_rfl) (of_decide_eq_true (by kernel_rfl)) k0 bel lt0) (trodAll_cons_mk (shut_int Try.underlying3 w1) trodAll_mk0)), rfl, bel.frame _, fun h => by cases h⟩
theorem over : Rows.fnExactWithoutLawRow.holds Try.pinned (OpenSpec.ofChange Rows.fnExactWithoutLawSpec) :=
  OpenClaim.holds_of_wide 8 Try.f8 rfl rfl rfl rfl rfl rfl rfl ⟨rfl, rfl, rfl, rfl, rfl⟩ rfl rfl rfl rfl rfl (by kernel_rfl) Try.func8 (by kernel_rfl)
    (of_decide_eq_true (by kernel_rfl)) (by unfold Func.isWrapper; first | (rw [if_pos (by decide +kernel)]; kernel_rfl) | (rw [if_neg (by decide +kernel)]; exact ⟨rfl, rfl⟩))
    (fun os started H enc _ => lifted os started H enc)
theorem proved : Rows.FnExactWithoutLawSaid := over
#print axioms proved
end Go.Proofs.Ytlacdgmapojmlaa.fnExactWithoutLaw
namespace Go.Proofs.Ytlacdgmapojmlaa
/-- The row, under a short name, for the claim. -/
theorem fnExactWithoutLaw_holds : Rows.FnExactWithoutLawSaid := fnExactWithoutLaw.proved
end Go.Proofs.Ytlacdgmapojmlaa
