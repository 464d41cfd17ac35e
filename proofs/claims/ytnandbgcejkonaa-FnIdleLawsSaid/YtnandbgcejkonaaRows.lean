/-
  No cell of these rows narrows 'for every input' (looked for: loops, veiled, ifaces, maps, wideKeys, modest, calm, conditions, laid).
  DERIVED. THE GIVEN ROWS OF THIS SEAT. 3 by the template 'for every input the law returns true; each argument reads behind the call as it read before'; 0 by the template 'total and deterministic' (their statements: YtnandbgcejkonaaTotals.lean).
  GIVEN WITH THE SEED: the statements are not yours to turn. If you find one false, say at which input.
  Laid BY PROGRAM, IN A SANDBOX (cutbox-rows.mjs): the forced cells as the released guide's own fill.sh prints them over the translation c11ffcbf19c5db28… (all of the seat's roots in one cut). By AI agents, Wed Nov 11 2026. No macro, syntax, notation, axiom, sorry.
-/
import Derived.Test.YtnandbgcejkonaaChecked
import GoSem.Claim
import GoSem.ClaimJoined
import GoSem.ClaimMapViews
import Derived.JoinedTies
import Derived.KernelRfl
namespace Go.Proofs.Ytnandbgcejkonaa
/- THE CELL 'sum', in the pinned program and in every row, IS THE sha256 OF THE DUMP (.gsa) THAT YtnandbgcejkonaaProg.lean LOADS. Nothing in Lean hashes anything: it is a label: what it is worth is what the hold of that sum in a sandbox is worth. -/
noncomputable def Try.pinned : Pinned := { name := "ytnandbgcejkonaa", sum := "c11ffcbf19c5db28472d9c7fea9831d146360926da262a5b6ffa60c771a81345", checked := Try.checked }
namespace Rows
def none {H : Type} : Left H := { results := [], args := [] }

/-- 'laws.FnWithoutLaw': WHATEVER THE INPUT: true; the input reads as it did. -/
def fnWithoutLawSpec : ChangeSpec := { name := "fnWithoutLaw", fn := fun _ => fun
  | [d] => { results := [.lit (.bool true)], args := [d] }
  | _ => none }
def fnWithoutLawRow : OpenClaim := { program := "ytnandbgcejkonaa", sum := "c11ffcbf19c5db28472d9c7fea9831d146360926da262a5b6ffa60c771a81345", func := "loop.example/charterrules/laws.FnWithoutLaw", spec := "fnWithoutLaw", unfollowed := true, recurses := true, apart := false }
def FnWithoutLawSaid : Prop := fnWithoutLawRow.holds Try.pinned (OpenSpec.ofChange fnWithoutLawSpec)

/-- ITS FALSE NEIGHBOUR: 'it returns false'. Refute it at one input. -/
def fnWithoutLawWrong : ChangeSpec := { name := "fnWithoutLaw", fn := fun _ => fun
  | [d] => { results := [.lit (.bool false)], args := [d] }
  | _ => none }
def FnWithoutLawWrongFalsely : Prop := fnWithoutLawRow.holds Try.pinned (OpenSpec.ofChange fnWithoutLawWrong)

/-- 'laws.FnExactIdleLaws': WHATEVER THE INPUT: true; the input reads as it did. -/
def fnExactIdleLawsSpec : ChangeSpec := { name := "fnExactIdleLaws", fn := fun _ => fun
  | [d] => { results := [.lit (.bool true)], args := [d] }
  | _ => none }
def fnExactIdleLawsRow : OpenClaim := { program := "ytnandbgcejkonaa", sum := "c11ffcbf19c5db28472d9c7fea9831d146360926da262a5b6ffa60c771a81345", func := "loop.example/charterrules/laws.FnExactIdleLaws", spec := "fnExactIdleLaws", unfollowed := true, recurses := true, apart := false }
def FnExactIdleLawsSaid : Prop := fnExactIdleLawsRow.holds Try.pinned (OpenSpec.ofChange fnExactIdleLawsSpec)

/-- ITS FALSE NEIGHBOUR: 'it returns false'. Refute it at one input. -/
def fnExactIdleLawsWrong : ChangeSpec := { name := "fnExactIdleLaws", fn := fun _ => fun
  | [d] => { results := [.lit (.bool false)], args := [d] }
  | _ => none }
def FnExactIdleLawsWrongFalsely : Prop := fnExactIdleLawsRow.holds Try.pinned (OpenSpec.ofChange fnExactIdleLawsWrong)

/-- 'laws.FnIdleLaws': WHATEVER THE INPUT: true; the input reads as it did. -/
def fnIdleLawsSpec : ChangeSpec := { name := "fnIdleLaws", fn := fun _ => fun
  | [d] => { results := [.lit (.bool true)], args := [d] }
  | _ => none }
def fnIdleLawsRow : OpenClaim := { program := "ytnandbgcejkonaa", sum := "c11ffcbf19c5db28472d9c7fea9831d146360926da262a5b6ffa60c771a81345", func := "loop.example/charterrules/laws.FnIdleLaws", spec := "fnIdleLaws", unfollowed := true, recurses := true, apart := false }
def FnIdleLawsSaid : Prop := fnIdleLawsRow.holds Try.pinned (OpenSpec.ofChange fnIdleLawsSpec)

/-- ITS FALSE NEIGHBOUR: 'it returns false'. Refute it at one input. -/
def fnIdleLawsWrong : ChangeSpec := { name := "fnIdleLaws", fn := fun _ => fun
  | [d] => { results := [.lit (.bool false)], args := [d] }
  | _ => none }
def FnIdleLawsWrongFalsely : Prop := fnIdleLawsRow.holds Try.pinned (OpenSpec.ofChange fnIdleLawsWrong)

/- THE SECOND FORM. 'bulk': how many values and letters a reading holds, each counted each time it is reached (what is shared counts as often as it is met; a slice's spare places count too). A statement '..UptoSaid' is the law's where the arguments, and the package variables that the reading takes, are together of bulk at most 1048576: NARROWER than '..Said'. Prove '..Said' where nothing that the law and all that it calls make is longer than what came in: it says more and counts as full. Else prove '..UptoSaid'. A law counts once. -/
mutual
def uptoBulk {H : Type} : DataW H → Nat
  | .lit (.string bytes) => bytes.length + 1
  | .lit _ => 1
  | .nil => 1
  | .ptr d => uptoBulk d + 1
  | .slice elems spare => uptoBulkAll elems + uptoBulkAll spare + 1
  | .agg parts => uptoBulkAll parts + 1
  | .iface _ d => uptoBulk d + 1
  | .map entries => uptoBulkEntries entries + 1
  | .held _ => 1
def uptoBulkAll {H : Type} : List (DataW H) → Nat
  | [] => 0
  | d :: r => uptoBulk d + uptoBulkAll r
def uptoBulkEntries {H : Type} : List (Lit × DataW H) → Nat
  | [] => 0
  | x :: r => uptoBulkEntry x + uptoBulkEntries r
def uptoBulkEntry {H : Type} : Lit × DataW H → Nat
  | (.string bytes, d) => bytes.length + uptoBulk d + 1
  | (_, d) => uptoBulk d + 1
 end
def uptoSmall : (H : Type) → List (DataW H) → Bool := fun _ ds => decide (uptoBulkAll ds ≤ 1048576)
def OpenSpec.upto (s : _root_.Go.ChangeSpec) : _root_.Go.OpenSpec := { _root_.Go.OpenSpec.ofChange s with cond := some uptoSmall }

/-- 'laws.FnWithoutLaw', WHERE WHAT IT READS IS OF BULK AT MOST 1048576: true; the input reads as it did. -/
def fnWithoutLawUptoRow : OpenClaim := { program := "ytnandbgcejkonaa", sum := "c11ffcbf19c5db28472d9c7fea9831d146360926da262a5b6ffa60c771a81345", func := "loop.example/charterrules/laws.FnWithoutLaw", spec := "fnWithoutLaw", unfollowed := true, recurses := true, apart := false, narrowed := true }
def FnWithoutLawUptoSaid : Prop := fnWithoutLawUptoRow.holds Try.pinned (OpenSpec.upto fnWithoutLawSpec)

/-- 'laws.FnExactIdleLaws', WHERE WHAT IT READS IS OF BULK AT MOST 1048576: true; the input reads as it did. -/
def fnExactIdleLawsUptoRow : OpenClaim := { program := "ytnandbgcejkonaa", sum := "c11ffcbf19c5db28472d9c7fea9831d146360926da262a5b6ffa60c771a81345", func := "loop.example/charterrules/laws.FnExactIdleLaws", spec := "fnExactIdleLaws", unfollowed := true, recurses := true, apart := false, narrowed := true }
def FnExactIdleLawsUptoSaid : Prop := fnExactIdleLawsUptoRow.holds Try.pinned (OpenSpec.upto fnExactIdleLawsSpec)

/-- 'laws.FnIdleLaws', WHERE WHAT IT READS IS OF BULK AT MOST 1048576: true; the input reads as it did. -/
def fnIdleLawsUptoRow : OpenClaim := { program := "ytnandbgcejkonaa", sum := "c11ffcbf19c5db28472d9c7fea9831d146360926da262a5b6ffa60c771a81345", func := "loop.example/charterrules/laws.FnIdleLaws", spec := "fnIdleLaws", unfollowed := true, recurses := true, apart := false, narrowed := true }
def FnIdleLawsUptoSaid : Prop := fnIdleLawsUptoRow.holds Try.pinned (OpenSpec.upto fnIdleLawsSpec)

end Rows
end Go.Proofs.Ytnandbgcejkonaa
