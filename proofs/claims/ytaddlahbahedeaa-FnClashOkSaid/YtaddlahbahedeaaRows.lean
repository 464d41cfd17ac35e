/-
  No cell of these rows narrows 'for every input' (looked for: loops, veiled, ifaces, maps, wideKeys, modest, calm, conditions, laid).
  DERIVED. THE GIVEN ROWS OF THIS SEAT. 6 by the template 'for every input the law returns true; each argument reads behind the call as it read before'; 0 by the template 'total and deterministic' (their statements: YtaddlahbahedeaaTotals.lean).
  GIVEN WITH THE SEED: the statements are not yours to turn. If you find one false, say at which input.
  Laid BY PROGRAM, IN A SANDBOX (cutbox-rows.mjs): the forced cells as the released guide's own fill.sh prints them over the translation 00be2b6ab9df7a2c… (all of the seat's roots in one cut). By AI agents, Wed Nov 11 2026. No macro, syntax, notation, axiom, sorry.
-/
import Derived.Test.YtaddlahbahedeaaChecked
import GoSem.Claim
import GoSem.ClaimJoined
import GoSem.ClaimMapViews
import Derived.JoinedTies
import Derived.KernelRfl
namespace Go.Proofs.Ytaddlahbahedeaa
/- THE CELL 'sum', in the pinned program and in every row, IS THE sha256 OF THE DUMP (.gsa) THAT YtaddlahbahedeaaProg.lean LOADS. Nothing in Lean hashes anything: it is a label: what it is worth is what the hold of that sum in a sandbox is worth. -/
noncomputable def Try.pinned : Pinned := { name := "ytaddlahbahedeaa", sum := "00be2b6ab9df7a2c2db106803ac2327544bfe2a3a2d25a76b5d76b537608f149", checked := Try.checked }
namespace Rows
def none {H : Type} : Left H := { results := [], args := [] }

/-- 'laws.FnSameConsents': WHATEVER THE INPUT: true; the input reads as it did. -/
def fnSameConsentsSpec : ChangeSpec := { name := "fnSameConsents", fn := fun _ => fun
  | [d] => { results := [.lit (.bool true)], args := [d] }
  | _ => none }
def fnSameConsentsRow : OpenClaim := { program := "ytaddlahbahedeaa", sum := "00be2b6ab9df7a2c2db106803ac2327544bfe2a3a2d25a76b5d76b537608f149", func := "loop.example/charterrules/laws.FnSameConsents", spec := "fnSameConsents", unfollowed := true, recurses := true, apart := false }
def FnSameConsentsSaid : Prop := fnSameConsentsRow.holds Try.pinned (OpenSpec.ofChange fnSameConsentsSpec)

/-- ITS FALSE NEIGHBOUR: 'it returns false'. Refute it at one input. -/
def fnSameConsentsWrong : ChangeSpec := { name := "fnSameConsents", fn := fun _ => fun
  | [d] => { results := [.lit (.bool false)], args := [d] }
  | _ => none }
def FnSameConsentsWrongFalsely : Prop := fnSameConsentsRow.holds Try.pinned (OpenSpec.ofChange fnSameConsentsWrong)

/-- 'laws.FnExactLeastConsents': WHATEVER THE INPUT: true; the input reads as it did. -/
def fnExactLeastConsentsSpec : ChangeSpec := { name := "fnExactLeastConsents", fn := fun _ => fun
  | [d1, d2] => { results := [.lit (.bool true)], args := [d1, d2] }
  | _ => none }
def fnExactLeastConsentsRow : OpenClaim := { program := "ytaddlahbahedeaa", sum := "00be2b6ab9df7a2c2db106803ac2327544bfe2a3a2d25a76b5d76b537608f149", func := "loop.example/charterrules/laws.FnExactLeastConsents", spec := "fnExactLeastConsents", unfollowed := true, recurses := true, apart := false }
def FnExactLeastConsentsSaid : Prop := fnExactLeastConsentsRow.holds Try.pinned (OpenSpec.ofChange fnExactLeastConsentsSpec)

/-- ITS FALSE NEIGHBOUR: 'it returns false'. Refute it at one input. -/
def fnExactLeastConsentsWrong : ChangeSpec := { name := "fnExactLeastConsents", fn := fun _ => fun
  | [d1, d2] => { results := [.lit (.bool false)], args := [d1, d2] }
  | _ => none }
def FnExactLeastConsentsWrongFalsely : Prop := fnExactLeastConsentsRow.holds Try.pinned (OpenSpec.ofChange fnExactLeastConsentsWrong)

/-- 'laws.FnLeastConsents': WHATEVER THE INPUT: true; the input reads as it did. -/
def fnLeastConsentsSpec : ChangeSpec := { name := "fnLeastConsents", fn := fun _ => fun
  | [d] => { results := [.lit (.bool true)], args := [d] }
  | _ => none }
def fnLeastConsentsRow : OpenClaim := { program := "ytaddlahbahedeaa", sum := "00be2b6ab9df7a2c2db106803ac2327544bfe2a3a2d25a76b5d76b537608f149", func := "loop.example/charterrules/laws.FnLeastConsents", spec := "fnLeastConsents", unfollowed := true, recurses := true, apart := false }
def FnLeastConsentsSaid : Prop := fnLeastConsentsRow.holds Try.pinned (OpenSpec.ofChange fnLeastConsentsSpec)

/-- ITS FALSE NEIGHBOUR: 'it returns false'. Refute it at one input. -/
def fnLeastConsentsWrong : ChangeSpec := { name := "fnLeastConsents", fn := fun _ => fun
  | [d] => { results := [.lit (.bool false)], args := [d] }
  | _ => none }
def FnLeastConsentsWrongFalsely : Prop := fnLeastConsentsRow.holds Try.pinned (OpenSpec.ofChange fnLeastConsentsWrong)

/-- 'laws.FnClashOk': WHATEVER THE INPUT: true; the input reads as it did. -/
def fnClashOkSpec : ChangeSpec := { name := "fnClashOk", fn := fun _ => fun
  | [d] => { results := [.lit (.bool true)], args := [d] }
  | _ => none }
def fnClashOkRow : OpenClaim := { program := "ytaddlahbahedeaa", sum := "00be2b6ab9df7a2c2db106803ac2327544bfe2a3a2d25a76b5d76b537608f149", func := "loop.example/charterrules/laws.FnClashOk", spec := "fnClashOk", unfollowed := true, recurses := true, apart := false }
def FnClashOkSaid : Prop := fnClashOkRow.holds Try.pinned (OpenSpec.ofChange fnClashOkSpec)

/-- ITS FALSE NEIGHBOUR: 'it returns false'. Refute it at one input. -/
def fnClashOkWrong : ChangeSpec := { name := "fnClashOk", fn := fun _ => fun
  | [d] => { results := [.lit (.bool false)], args := [d] }
  | _ => none }
def FnClashOkWrongFalsely : Prop := fnClashOkRow.holds Try.pinned (OpenSpec.ofChange fnClashOkWrong)

/-- 'laws.FnNeededIn': WHATEVER THE INPUT: true; the input reads as it did. -/
def fnNeededInSpec : ChangeSpec := { name := "fnNeededIn", fn := fun _ => fun
  | [d] => { results := [.lit (.bool true)], args := [d] }
  | _ => none }
def fnNeededInRow : OpenClaim := { program := "ytaddlahbahedeaa", sum := "00be2b6ab9df7a2c2db106803ac2327544bfe2a3a2d25a76b5d76b537608f149", func := "loop.example/charterrules/laws.FnNeededIn", spec := "fnNeededIn", unfollowed := true, recurses := true, apart := false }
def FnNeededInSaid : Prop := fnNeededInRow.holds Try.pinned (OpenSpec.ofChange fnNeededInSpec)

/-- ITS FALSE NEIGHBOUR: 'it returns false'. Refute it at one input. -/
def fnNeededInWrong : ChangeSpec := { name := "fnNeededIn", fn := fun _ => fun
  | [d] => { results := [.lit (.bool false)], args := [d] }
  | _ => none }
def FnNeededInWrongFalsely : Prop := fnNeededInRow.holds Try.pinned (OpenSpec.ofChange fnNeededInWrong)

/-- 'laws.FnIdleIn': WHATEVER THE INPUT: true; the input reads as it did. -/
def fnIdleInSpec : ChangeSpec := { name := "fnIdleIn", fn := fun _ => fun
  | [d] => { results := [.lit (.bool true)], args := [d] }
  | _ => none }
def fnIdleInRow : OpenClaim := { program := "ytaddlahbahedeaa", sum := "00be2b6ab9df7a2c2db106803ac2327544bfe2a3a2d25a76b5d76b537608f149", func := "loop.example/charterrules/laws.FnIdleIn", spec := "fnIdleIn", unfollowed := true, recurses := true, apart := false }
def FnIdleInSaid : Prop := fnIdleInRow.holds Try.pinned (OpenSpec.ofChange fnIdleInSpec)

/-- ITS FALSE NEIGHBOUR: 'it returns false'. Refute it at one input. -/
def fnIdleInWrong : ChangeSpec := { name := "fnIdleIn", fn := fun _ => fun
  | [d] => { results := [.lit (.bool false)], args := [d] }
  | _ => none }
def FnIdleInWrongFalsely : Prop := fnIdleInRow.holds Try.pinned (OpenSpec.ofChange fnIdleInWrong)

/- THE SECOND FORM. 'bulk': how many values and letters a reading holds, each counted each time it is reached (what is shared counts as often as it is met; a slice's spare places count too). A statement '..UptoSaid' is the law's where the arguments, and the package variables that the reading takes, are together of bulk at most 1048576: NARROWER than '..Said'. Prove '..Said' where nothing that the law and all that it calls make is longer than what came in: it says more and counts as full. Else prove '..UptoSaid'. A law counts once. -/
mutual
def uptoBulk {H : Type} : DataW H → Nat
  | .lit (.string bytes) => bytes.length + 1
  | .lit _ => 1
  | .nil => 1
  | .ptr d => uptoBulk d + 1
  | .slice elems spare => uptoBulkAll elems + uptoBulkAll spare + 1
  | .agg parts => uptoBulkAll parts + 1
  | .iface _ d => uptoBulk d + 1
  | .map entries => uptoBulkEntries entries + 1
  | .held _ => 1
def uptoBulkAll {H : Type} : List (DataW H) → Nat
  | [] => 0
  | d :: r => uptoBulk d + uptoBulkAll r
def uptoBulkEntries {H : Type} : List (Lit × DataW H) → Nat
  | [] => 0
  | x :: r => uptoBulkEntry x + uptoBulkEntries r
def uptoBulkEntry {H : Type} : Lit × DataW H → Nat
  | (.string bytes, d) => bytes.length + uptoBulk d + 1
  | (_, d) => uptoBulk d + 1
 end
def uptoSmall : (H : Type) → List (DataW H) → Bool := fun _ ds => decide (uptoBulkAll ds ≤ 1048576)
def OpenSpec.upto (s : _root_.Go.ChangeSpec) : _root_.Go.OpenSpec := { _root_.Go.OpenSpec.ofChange s with cond := some uptoSmall }

/-- 'laws.FnSameConsents', WHERE WHAT IT READS IS OF BULK AT MOST 1048576: true; the input reads as it did. -/
def fnSameConsentsUptoRow : OpenClaim := { program := "ytaddlahbahedeaa", sum := "00be2b6ab9df7a2c2db106803ac2327544bfe2a3a2d25a76b5d76b537608f149", func := "loop.example/charterrules/laws.FnSameConsents", spec := "fnSameConsents", unfollowed := true, recurses := true, apart := false, narrowed := true }
def FnSameConsentsUptoSaid : Prop := fnSameConsentsUptoRow.holds Try.pinned (OpenSpec.upto fnSameConsentsSpec)

/-- 'laws.FnExactLeastConsents', WHERE WHAT IT READS IS OF BULK AT MOST 1048576: true; the input reads as it did. -/
def fnExactLeastConsentsUptoRow : OpenClaim := { program := "ytaddlahbahedeaa", sum := "00be2b6ab9df7a2c2db106803ac2327544bfe2a3a2d25a76b5d76b537608f149", func := "loop.example/charterrules/laws.FnExactLeastConsents", spec := "fnExactLeastConsents", unfollowed := true, recurses := true, apart := false, narrowed := true }
def FnExactLeastConsentsUptoSaid : Prop := fnExactLeastConsentsUptoRow.holds Try.pinned (OpenSpec.upto fnExactLeastConsentsSpec)

/-- 'laws.FnLeastConsents', WHERE WHAT IT READS IS OF BULK AT MOST 1048576: true; the input reads as it did. -/
def fnLeastConsentsUptoRow : OpenClaim := { program := "ytaddlahbahedeaa", sum := "00be2b6ab9df7a2c2db106803ac2327544bfe2a3a2d25a76b5d76b537608f149", func := "loop.example/charterrules/laws.FnLeastConsents", spec := "fnLeastConsents", unfollowed := true, recurses := true, apart := false, narrowed := true }
def FnLeastConsentsUptoSaid : Prop := fnLeastConsentsUptoRow.holds Try.pinned (OpenSpec.upto fnLeastConsentsSpec)

/-- 'laws.FnClashOk', WHERE WHAT IT READS IS OF BULK AT MOST 1048576: true; the input reads as it did. -/
def fnClashOkUptoRow : OpenClaim := { program := "ytaddlahbahedeaa", sum := "00be2b6ab9df7a2c2db106803ac2327544bfe2a3a2d25a76b5d76b537608f149", func := "loop.example/charterrules/laws.FnClashOk", spec := "fnClashOk", unfollowed := true, recurses := true, apart := false, narrowed := true }
def FnClashOkUptoSaid : Prop := fnClashOkUptoRow.holds Try.pinned (OpenSpec.upto fnClashOkSpec)

/-- 'laws.FnNeededIn', WHERE WHAT IT READS IS OF BULK AT MOST 1048576: true; the input reads as it did. -/
def fnNeededInUptoRow : OpenClaim := { program := "ytaddlahbahedeaa", sum := "00be2b6ab9df7a2c2db106803ac2327544bfe2a3a2d25a76b5d76b537608f149", func := "loop.example/charterrules/laws.FnNeededIn", spec := "fnNeededIn", unfollowed := true, recurses := true, apart := false, narrowed := true }
def FnNeededInUptoSaid : Prop := fnNeededInUptoRow.holds Try.pinned (OpenSpec.upto fnNeededInSpec)

/-- 'laws.FnIdleIn', WHERE WHAT IT READS IS OF BULK AT MOST 1048576: true; the input reads as it did. -/
def fnIdleInUptoRow : OpenClaim := { program := "ytaddlahbahedeaa", sum := "00be2b6ab9df7a2c2db106803ac2327544bfe2a3a2d25a76b5d76b537608f149", func := "loop.example/charterrules/laws.FnIdleIn", spec := "fnIdleIn", unfollowed := true, recurses := true, apart := false, narrowed := true }
def FnIdleInUptoSaid : Prop := fnIdleInUptoRow.holds Try.pinned (OpenSpec.upto fnIdleInSpec)

end Rows
end Go.Proofs.Ytaddlahbahedeaa
