/-
  No cell of these rows narrows 'for every input' (looked for: loops, veiled, ifaces, maps, wideKeys, modest, calm, conditions, laid).
  DERIVED. THE GIVEN ROWS OF THIS SEAT. 13 by the template 'for every input the law returns true; each argument reads behind the call as it read before'; 0 by the template 'total and deterministic' (their statements: YtlpjkeejflogjaaTotals.lean).
  GIVEN WITH THE SEED: the statements are not yours to turn. If you find one false, say at which input.
  Laid BY PROGRAM, IN A SANDBOX (cutbox-rows.mjs): the forced cells as the released guide's own fill.sh prints them over the translation 745fe9fa83897764… (all of the seat's roots in one cut). By AI agents, Wed Nov 11 2026. No macro, syntax, notation, axiom, sorry.
-/
import Derived.Test.YtlpjkeejflogjaaChecked
import GoSem.Claim
import GoSem.ClaimJoined
import GoSem.ClaimMapViews
import Derived.JoinedTies
import Derived.KernelRfl
namespace Go.Proofs.Ytlpjkeejflogjaa
/- THE CELL 'sum', in the pinned program and in every row, IS THE sha256 OF THE DUMP (.gsa) THAT YtlpjkeejflogjaaProg.lean LOADS. Nothing in Lean hashes anything: it is a label: what it is worth is what the hold of that sum in a sandbox is worth. -/
noncomputable def Try.pinned : Pinned := { name := "ytlpjkeejflogjaa", sum := "745fe9fa8389776446f9c54f1dd0a4915706ca41a976558deb994a01a261b93e", checked := Try.checked }
namespace Rows
def none {H : Type} : Left H := { results := [], args := [] }

/-- 'laws.FnExactCourtOk': WHATEVER THE INPUT: true; the input reads as it did. -/
def fnExactCourtOkSpec : ChangeSpec := { name := "fnExactCourtOk", fn := fun _ => fun
  | [d] => { results := [.lit (.bool true)], args := [d] }
  | _ => none }
def fnExactCourtOkRow : OpenClaim := { program := "ytlpjkeejflogjaa", sum := "745fe9fa8389776446f9c54f1dd0a4915706ca41a976558deb994a01a261b93e", func := "loop.example/charterrules/laws.FnExactCourtOk", spec := "fnExactCourtOk", apart := false }
def FnExactCourtOkSaid : Prop := fnExactCourtOkRow.holds Try.pinned (OpenSpec.ofChange fnExactCourtOkSpec)

/-- ITS FALSE NEIGHBOUR: 'it returns false'. Refute it at one input. -/
def fnExactCourtOkWrong : ChangeSpec := { name := "fnExactCourtOk", fn := fun _ => fun
  | [d] => { results := [.lit (.bool false)], args := [d] }
  | _ => none }
def FnExactCourtOkWrongFalsely : Prop := fnExactCourtOkRow.holds Try.pinned (OpenSpec.ofChange fnExactCourtOkWrong)

/-- 'laws.FnCourtOk': WHATEVER THE INPUT: true; the input reads as it did. -/
def fnCourtOkSpec : ChangeSpec := { name := "fnCourtOk", fn := fun _ => fun
  | [d] => { results := [.lit (.bool true)], args := [d] }
  | _ => none }
def fnCourtOkRow : OpenClaim := { program := "ytlpjkeejflogjaa", sum := "745fe9fa8389776446f9c54f1dd0a4915706ca41a976558deb994a01a261b93e", func := "loop.example/charterrules/laws.FnCourtOk", spec := "fnCourtOk", apart := false }
def FnCourtOkSaid : Prop := fnCourtOkRow.holds Try.pinned (OpenSpec.ofChange fnCourtOkSpec)

/-- ITS FALSE NEIGHBOUR: 'it returns false'. Refute it at one input. -/
def fnCourtOkWrong : ChangeSpec := { name := "fnCourtOk", fn := fun _ => fun
  | [d] => { results := [.lit (.bool false)], args := [d] }
  | _ => none }
def FnCourtOkWrongFalsely : Prop := fnCourtOkRow.holds Try.pinned (OpenSpec.ofChange fnCourtOkWrong)

/-- 'laws.FnExactRestOk': WHATEVER THE INPUT: true; the input reads as it did. -/
def fnExactRestOkSpec : ChangeSpec := { name := "fnExactRestOk", fn := fun _ => fun
  | [d] => { results := [.lit (.bool true)], args := [d] }
  | _ => none }
def fnExactRestOkRow : OpenClaim := { program := "ytlpjkeejflogjaa", sum := "745fe9fa8389776446f9c54f1dd0a4915706ca41a976558deb994a01a261b93e", func := "loop.example/charterrules/laws.FnExactRestOk", spec := "fnExactRestOk", apart := false }
def FnExactRestOkSaid : Prop := fnExactRestOkRow.holds Try.pinned (OpenSpec.ofChange fnExactRestOkSpec)

/-- ITS FALSE NEIGHBOUR: 'it returns false'. Refute it at one input. -/
def fnExactRestOkWrong : ChangeSpec := { name := "fnExactRestOk", fn := fun _ => fun
  | [d] => { results := [.lit (.bool false)], args := [d] }
  | _ => none }
def FnExactRestOkWrongFalsely : Prop := fnExactRestOkRow.holds Try.pinned (OpenSpec.ofChange fnExactRestOkWrong)

/-- 'laws.FnExactVacantOf': WHATEVER THE INPUT: true; the input reads as it did. -/
def fnExactVacantOfSpec : ChangeSpec := { name := "fnExactVacantOf", fn := fun _ => fun
  | [d] => { results := [.lit (.bool true)], args := [d] }
  | _ => none }
def fnExactVacantOfRow : OpenClaim := { program := "ytlpjkeejflogjaa", sum := "745fe9fa8389776446f9c54f1dd0a4915706ca41a976558deb994a01a261b93e", func := "loop.example/charterrules/laws.FnExactVacantOf", spec := "fnExactVacantOf", apart := false }
def FnExactVacantOfSaid : Prop := fnExactVacantOfRow.holds Try.pinned (OpenSpec.ofChange fnExactVacantOfSpec)

/-- ITS FALSE NEIGHBOUR: 'it returns false'. Refute it at one input. -/
def fnExactVacantOfWrong : ChangeSpec := { name := "fnExactVacantOf", fn := fun _ => fun
  | [d] => { results := [.lit (.bool false)], args := [d] }
  | _ => none }
def FnExactVacantOfWrongFalsely : Prop := fnExactVacantOfRow.holds Try.pinned (OpenSpec.ofChange fnExactVacantOfWrong)

/-- 'laws.FnHoldersStay': WHATEVER THE INPUT: true; the input reads as it did. -/
def fnHoldersStaySpec : ChangeSpec := { name := "fnHoldersStay", fn := fun _ => fun
  | [d] => { results := [.lit (.bool true)], args := [d] }
  | _ => none }
def fnHoldersStayRow : OpenClaim := { program := "ytlpjkeejflogjaa", sum := "745fe9fa8389776446f9c54f1dd0a4915706ca41a976558deb994a01a261b93e", func := "loop.example/charterrules/laws.FnHoldersStay", spec := "fnHoldersStay", apart := false }
def FnHoldersStaySaid : Prop := fnHoldersStayRow.holds Try.pinned (OpenSpec.ofChange fnHoldersStaySpec)

/-- ITS FALSE NEIGHBOUR: 'it returns false'. Refute it at one input. -/
def fnHoldersStayWrong : ChangeSpec := { name := "fnHoldersStay", fn := fun _ => fun
  | [d] => { results := [.lit (.bool false)], args := [d] }
  | _ => none }
def FnHoldersStayWrongFalsely : Prop := fnHoldersStayRow.holds Try.pinned (OpenSpec.ofChange fnHoldersStayWrong)

/-- 'laws.FnFilledCourt': WHATEVER THE INPUT: true; the input reads as it did. -/
def fnFilledCourtSpec : ChangeSpec := { name := "fnFilledCourt", fn := fun _ => fun
  | [d] => { results := [.lit (.bool true)], args := [d] }
  | _ => none }
def fnFilledCourtRow : OpenClaim := { program := "ytlpjkeejflogjaa", sum := "745fe9fa8389776446f9c54f1dd0a4915706ca41a976558deb994a01a261b93e", func := "loop.example/charterrules/laws.FnFilledCourt", spec := "fnFilledCourt", apart := false }
def FnFilledCourtSaid : Prop := fnFilledCourtRow.holds Try.pinned (OpenSpec.ofChange fnFilledCourtSpec)

/-- ITS FALSE NEIGHBOUR: 'it returns false'. Refute it at one input. -/
def fnFilledCourtWrong : ChangeSpec := { name := "fnFilledCourt", fn := fun _ => fun
  | [d] => { results := [.lit (.bool false)], args := [d] }
  | _ => none }
def FnFilledCourtWrongFalsely : Prop := fnFilledCourtRow.holds Try.pinned (OpenSpec.ofChange fnFilledCourtWrong)

/-- 'laws.FnVacantOf': WHATEVER THE INPUT: true; the input reads as it did. -/
def fnVacantOfSpec : ChangeSpec := { name := "fnVacantOf", fn := fun _ => fun
  | [d] => { results := [.lit (.bool true)], args := [d] }
  | _ => none }
def fnVacantOfRow : OpenClaim := { program := "ytlpjkeejflogjaa", sum := "745fe9fa8389776446f9c54f1dd0a4915706ca41a976558deb994a01a261b93e", func := "loop.example/charterrules/laws.FnVacantOf", spec := "fnVacantOf", apart := false }
def FnVacantOfSaid : Prop := fnVacantOfRow.holds Try.pinned (OpenSpec.ofChange fnVacantOfSpec)

/-- ITS FALSE NEIGHBOUR: 'it returns false'. Refute it at one input. -/
def fnVacantOfWrong : ChangeSpec := { name := "fnVacantOf", fn := fun _ => fun
  | [d] => { results := [.lit (.bool false)], args := [d] }
  | _ => none }
def FnVacantOfWrongFalsely : Prop := fnVacantOfRow.holds Try.pinned (OpenSpec.ofChange fnVacantOfWrong)

/-- 'laws.FnRestOk': WHATEVER THE INPUT: true; the input reads as it did. -/
def fnRestOkSpec : ChangeSpec := { name := "fnRestOk", fn := fun _ => fun
  | [d] => { results := [.lit (.bool true)], args := [d] }
  | _ => none }
def fnRestOkRow : OpenClaim := { program := "ytlpjkeejflogjaa", sum := "745fe9fa8389776446f9c54f1dd0a4915706ca41a976558deb994a01a261b93e", func := "loop.example/charterrules/laws.FnRestOk", spec := "fnRestOk", apart := false }
def FnRestOkSaid : Prop := fnRestOkRow.holds Try.pinned (OpenSpec.ofChange fnRestOkSpec)

/-- ITS FALSE NEIGHBOUR: 'it returns false'. Refute it at one input. -/
def fnRestOkWrong : ChangeSpec := { name := "fnRestOk", fn := fun _ => fun
  | [d] => { results := [.lit (.bool false)], args := [d] }
  | _ => none }
def FnRestOkWrongFalsely : Prop := fnRestOkRow.holds Try.pinned (OpenSpec.ofChange fnRestOkWrong)

/-- 'laws.FnExactFilledCourt': WHATEVER THE INPUT: true; the input reads as it did. -/
def fnExactFilledCourtSpec : ChangeSpec := { name := "fnExactFilledCourt", fn := fun _ => fun
  | [d] => { results := [.lit (.bool true)], args := [d] }
  | _ => none }
def fnExactFilledCourtRow : OpenClaim := { program := "ytlpjkeejflogjaa", sum := "745fe9fa8389776446f9c54f1dd0a4915706ca41a976558deb994a01a261b93e", func := "loop.example/charterrules/laws.FnExactFilledCourt", spec := "fnExactFilledCourt", apart := false }
def FnExactFilledCourtSaid : Prop := fnExactFilledCourtRow.holds Try.pinned (OpenSpec.ofChange fnExactFilledCourtSpec)

/-- ITS FALSE NEIGHBOUR: 'it returns false'. Refute it at one input. -/
def fnExactFilledCourtWrong : ChangeSpec := { name := "fnExactFilledCourt", fn := fun _ => fun
  | [d] => { results := [.lit (.bool false)], args := [d] }
  | _ => none }
def FnExactFilledCourtWrongFalsely : Prop := fnExactFilledCourtRow.holds Try.pinned (OpenSpec.ofChange fnExactFilledCourtWrong)

/-- 'laws.FnAfterDeath': WHATEVER THE INPUT: true; the input reads as it did. -/
def fnAfterDeathSpec : ChangeSpec := { name := "fnAfterDeath", fn := fun _ => fun
  | [d] => { results := [.lit (.bool true)], args := [d] }
  | _ => none }
def fnAfterDeathRow : OpenClaim := { program := "ytlpjkeejflogjaa", sum := "745fe9fa8389776446f9c54f1dd0a4915706ca41a976558deb994a01a261b93e", func := "loop.example/charterrules/laws.FnAfterDeath", spec := "fnAfterDeath", apart := false }
def FnAfterDeathSaid : Prop := fnAfterDeathRow.holds Try.pinned (OpenSpec.ofChange fnAfterDeathSpec)

/-- ITS FALSE NEIGHBOUR: 'it returns false'. Refute it at one input. -/
def fnAfterDeathWrong : ChangeSpec := { name := "fnAfterDeath", fn := fun _ => fun
  | [d] => { results := [.lit (.bool false)], args := [d] }
  | _ => none }
def FnAfterDeathWrongFalsely : Prop := fnAfterDeathRow.holds Try.pinned (OpenSpec.ofChange fnAfterDeathWrong)

/-- 'laws.FnExactAfterDeath': WHATEVER THE INPUT: true; the input reads as it did. -/
def fnExactAfterDeathSpec : ChangeSpec := { name := "fnExactAfterDeath", fn := fun _ => fun
  | [d1, d2] => { results := [.lit (.bool true)], args := [d1, d2] }
  | _ => none }
def fnExactAfterDeathRow : OpenClaim := { program := "ytlpjkeejflogjaa", sum := "745fe9fa8389776446f9c54f1dd0a4915706ca41a976558deb994a01a261b93e", func := "loop.example/charterrules/laws.FnExactAfterDeath", spec := "fnExactAfterDeath", apart := false }
def FnExactAfterDeathSaid : Prop := fnExactAfterDeathRow.holds Try.pinned (OpenSpec.ofChange fnExactAfterDeathSpec)

/-- ITS FALSE NEIGHBOUR: 'it returns false'. Refute it at one input. -/
def fnExactAfterDeathWrong : ChangeSpec := { name := "fnExactAfterDeath", fn := fun _ => fun
  | [d1, d2] => { results := [.lit (.bool false)], args := [d1, d2] }
  | _ => none }
def FnExactAfterDeathWrongFalsely : Prop := fnExactAfterDeathRow.holds Try.pinned (OpenSpec.ofChange fnExactAfterDeathWrong)

/-- 'laws.FnExactAfterDeaths': WHATEVER THE INPUT: true; the input reads as it did. -/
def fnExactAfterDeathsSpec : ChangeSpec := { name := "fnExactAfterDeaths", fn := fun _ => fun
  | [d1, d2] => { results := [.lit (.bool true)], args := [d1, d2] }
  | _ => none }
def fnExactAfterDeathsRow : OpenClaim := { program := "ytlpjkeejflogjaa", sum := "745fe9fa8389776446f9c54f1dd0a4915706ca41a976558deb994a01a261b93e", func := "loop.example/charterrules/laws.FnExactAfterDeaths", spec := "fnExactAfterDeaths", apart := false }
def FnExactAfterDeathsSaid : Prop := fnExactAfterDeathsRow.holds Try.pinned (OpenSpec.ofChange fnExactAfterDeathsSpec)

/-- ITS FALSE NEIGHBOUR: 'it returns false'. Refute it at one input. -/
def fnExactAfterDeathsWrong : ChangeSpec := { name := "fnExactAfterDeaths", fn := fun _ => fun
  | [d1, d2] => { results := [.lit (.bool false)], args := [d1, d2] }
  | _ => none }
def FnExactAfterDeathsWrongFalsely : Prop := fnExactAfterDeathsRow.holds Try.pinned (OpenSpec.ofChange fnExactAfterDeathsWrong)

/-- 'laws.FnAfterDeaths': WHATEVER THE INPUT: true; the input reads as it did. -/
def fnAfterDeathsSpec : ChangeSpec := { name := "fnAfterDeaths", fn := fun _ => fun
  | [d] => { results := [.lit (.bool true)], args := [d] }
  | _ => none }
def fnAfterDeathsRow : OpenClaim := { program := "ytlpjkeejflogjaa", sum := "745fe9fa8389776446f9c54f1dd0a4915706ca41a976558deb994a01a261b93e", func := "loop.example/charterrules/laws.FnAfterDeaths", spec := "fnAfterDeaths", apart := false }
def FnAfterDeathsSaid : Prop := fnAfterDeathsRow.holds Try.pinned (OpenSpec.ofChange fnAfterDeathsSpec)

/-- ITS FALSE NEIGHBOUR: 'it returns false'. Refute it at one input. -/
def fnAfterDeathsWrong : ChangeSpec := { name := "fnAfterDeaths", fn := fun _ => fun
  | [d] => { results := [.lit (.bool false)], args := [d] }
  | _ => none }
def FnAfterDeathsWrongFalsely : Prop := fnAfterDeathsRow.holds Try.pinned (OpenSpec.ofChange fnAfterDeathsWrong)

/- THE SECOND FORM. 'bulk': how many values and letters a reading holds, each counted each time it is reached (what is shared counts as often as it is met; a slice's spare places count too). A statement '..UptoSaid' is the law's where the arguments, and the package variables that the reading takes, are together of bulk at most 1048576: NARROWER than '..Said'. Prove '..Said' where nothing that the law and all that it calls make is longer than what came in: it says more and counts as full. Else prove '..UptoSaid'. A law counts once. -/
mutual
def uptoBulk {H : Type} : DataW H → Nat
  | .lit (.string bytes) => bytes.length + 1
  | .lit _ => 1
  | .nil => 1
  | .ptr d => uptoBulk d + 1
  | .slice elems spare => uptoBulkAll elems + uptoBulkAll spare + 1
  | .agg parts => uptoBulkAll parts + 1
  | .iface _ d => uptoBulk d + 1
  | .map entries => uptoBulkEntries entries + 1
  | .held _ => 1
def uptoBulkAll {H : Type} : List (DataW H) → Nat
  | [] => 0
  | d :: r => uptoBulk d + uptoBulkAll r
def uptoBulkEntries {H : Type} : List (Lit × DataW H) → Nat
  | [] => 0
  | x :: r => uptoBulkEntry x + uptoBulkEntries r
def uptoBulkEntry {H : Type} : Lit × DataW H → Nat
  | (.string bytes, d) => bytes.length + uptoBulk d + 1
  | (_, d) => uptoBulk d + 1
 end
def uptoSmall : (H : Type) → List (DataW H) → Bool := fun _ ds => decide (uptoBulkAll ds ≤ 1048576)
def OpenSpec.upto (s : _root_.Go.ChangeSpec) : _root_.Go.OpenSpec := { _root_.Go.OpenSpec.ofChange s with cond := some uptoSmall }

/-- 'laws.FnExactCourtOk', WHERE WHAT IT READS IS OF BULK AT MOST 1048576: true; the input reads as it did. -/
def fnExactCourtOkUptoRow : OpenClaim := { program := "ytlpjkeejflogjaa", sum := "745fe9fa8389776446f9c54f1dd0a4915706ca41a976558deb994a01a261b93e", func := "loop.example/charterrules/laws.FnExactCourtOk", spec := "fnExactCourtOk", apart := false, narrowed := true }
def FnExactCourtOkUptoSaid : Prop := fnExactCourtOkUptoRow.holds Try.pinned (OpenSpec.upto fnExactCourtOkSpec)

/-- 'laws.FnCourtOk', WHERE WHAT IT READS IS OF BULK AT MOST 1048576: true; the input reads as it did. -/
def fnCourtOkUptoRow : OpenClaim := { program := "ytlpjkeejflogjaa", sum := "745fe9fa8389776446f9c54f1dd0a4915706ca41a976558deb994a01a261b93e", func := "loop.example/charterrules/laws.FnCourtOk", spec := "fnCourtOk", apart := false, narrowed := true }
def FnCourtOkUptoSaid : Prop := fnCourtOkUptoRow.holds Try.pinned (OpenSpec.upto fnCourtOkSpec)

/-- 'laws.FnExactRestOk', WHERE WHAT IT READS IS OF BULK AT MOST 1048576: true; the input reads as it did. -/
def fnExactRestOkUptoRow : OpenClaim := { program := "ytlpjkeejflogjaa", sum := "745fe9fa8389776446f9c54f1dd0a4915706ca41a976558deb994a01a261b93e", func := "loop.example/charterrules/laws.FnExactRestOk", spec := "fnExactRestOk", apart := false, narrowed := true }
def FnExactRestOkUptoSaid : Prop := fnExactRestOkUptoRow.holds Try.pinned (OpenSpec.upto fnExactRestOkSpec)

/-- 'laws.FnExactVacantOf', WHERE WHAT IT READS IS OF BULK AT MOST 1048576: true; the input reads as it did. -/
def fnExactVacantOfUptoRow : OpenClaim := { program := "ytlpjkeejflogjaa", sum := "745fe9fa8389776446f9c54f1dd0a4915706ca41a976558deb994a01a261b93e", func := "loop.example/charterrules/laws.FnExactVacantOf", spec := "fnExactVacantOf", apart := false, narrowed := true }
def FnExactVacantOfUptoSaid : Prop := fnExactVacantOfUptoRow.holds Try.pinned (OpenSpec.upto fnExactVacantOfSpec)

/-- 'laws.FnHoldersStay', WHERE WHAT IT READS IS OF BULK AT MOST 1048576: true; the input reads as it did. -/
def fnHoldersStayUptoRow : OpenClaim := { program := "ytlpjkeejflogjaa", sum := "745fe9fa8389776446f9c54f1dd0a4915706ca41a976558deb994a01a261b93e", func := "loop.example/charterrules/laws.FnHoldersStay", spec := "fnHoldersStay", apart := false, narrowed := true }
def FnHoldersStayUptoSaid : Prop := fnHoldersStayUptoRow.holds Try.pinned (OpenSpec.upto fnHoldersStaySpec)

/-- 'laws.FnFilledCourt', WHERE WHAT IT READS IS OF BULK AT MOST 1048576: true; the input reads as it did. -/
def fnFilledCourtUptoRow : OpenClaim := { program := "ytlpjkeejflogjaa", sum := "745fe9fa8389776446f9c54f1dd0a4915706ca41a976558deb994a01a261b93e", func := "loop.example/charterrules/laws.FnFilledCourt", spec := "fnFilledCourt", apart := false, narrowed := true }
def FnFilledCourtUptoSaid : Prop := fnFilledCourtUptoRow.holds Try.pinned (OpenSpec.upto fnFilledCourtSpec)

/-- 'laws.FnVacantOf', WHERE WHAT IT READS IS OF BULK AT MOST 1048576: true; the input reads as it did. -/
def fnVacantOfUptoRow : OpenClaim := { program := "ytlpjkeejflogjaa", sum := "745fe9fa8389776446f9c54f1dd0a4915706ca41a976558deb994a01a261b93e", func := "loop.example/charterrules/laws.FnVacantOf", spec := "fnVacantOf", apart := false, narrowed := true }
def FnVacantOfUptoSaid : Prop := fnVacantOfUptoRow.holds Try.pinned (OpenSpec.upto fnVacantOfSpec)

/-- 'laws.FnRestOk', WHERE WHAT IT READS IS OF BULK AT MOST 1048576: true; the input reads as it did. -/
def fnRestOkUptoRow : OpenClaim := { program := "ytlpjkeejflogjaa", sum := "745fe9fa8389776446f9c54f1dd0a4915706ca41a976558deb994a01a261b93e", func := "loop.example/charterrules/laws.FnRestOk", spec := "fnRestOk", apart := false, narrowed := true }
def FnRestOkUptoSaid : Prop := fnRestOkUptoRow.holds Try.pinned (OpenSpec.upto fnRestOkSpec)

/-- 'laws.FnExactFilledCourt', WHERE WHAT IT READS IS OF BULK AT MOST 1048576: true; the input reads as it did. -/
def fnExactFilledCourtUptoRow : OpenClaim := { program := "ytlpjkeejflogjaa", sum := "745fe9fa8389776446f9c54f1dd0a4915706ca41a976558deb994a01a261b93e", func := "loop.example/charterrules/laws.FnExactFilledCourt", spec := "fnExactFilledCourt", apart := false, narrowed := true }
def FnExactFilledCourtUptoSaid : Prop := fnExactFilledCourtUptoRow.holds Try.pinned (OpenSpec.upto fnExactFilledCourtSpec)

/-- 'laws.FnAfterDeath', WHERE WHAT IT READS IS OF BULK AT MOST 1048576: true; the input reads as it did. -/
def fnAfterDeathUptoRow : OpenClaim := { program := "ytlpjkeejflogjaa", sum := "745fe9fa8389776446f9c54f1dd0a4915706ca41a976558deb994a01a261b93e", func := "loop.example/charterrules/laws.FnAfterDeath", spec := "fnAfterDeath", apart := false, narrowed := true }
def FnAfterDeathUptoSaid : Prop := fnAfterDeathUptoRow.holds Try.pinned (OpenSpec.upto fnAfterDeathSpec)

/-- 'laws.FnExactAfterDeath', WHERE WHAT IT READS IS OF BULK AT MOST 1048576: true; the input reads as it did. -/
def fnExactAfterDeathUptoRow : OpenClaim := { program := "ytlpjkeejflogjaa", sum := "745fe9fa8389776446f9c54f1dd0a4915706ca41a976558deb994a01a261b93e", func := "loop.example/charterrules/laws.FnExactAfterDeath", spec := "fnExactAfterDeath", apart := false, narrowed := true }
def FnExactAfterDeathUptoSaid : Prop := fnExactAfterDeathUptoRow.holds Try.pinned (OpenSpec.upto fnExactAfterDeathSpec)

/-- 'laws.FnExactAfterDeaths', WHERE WHAT IT READS IS OF BULK AT MOST 1048576: true; the input reads as it did. -/
def fnExactAfterDeathsUptoRow : OpenClaim := { program := "ytlpjkeejflogjaa", sum := "745fe9fa8389776446f9c54f1dd0a4915706ca41a976558deb994a01a261b93e", func := "loop.example/charterrules/laws.FnExactAfterDeaths", spec := "fnExactAfterDeaths", apart := false, narrowed := true }
def FnExactAfterDeathsUptoSaid : Prop := fnExactAfterDeathsUptoRow.holds Try.pinned (OpenSpec.upto fnExactAfterDeathsSpec)

/-- 'laws.FnAfterDeaths', WHERE WHAT IT READS IS OF BULK AT MOST 1048576: true; the input reads as it did. -/
def fnAfterDeathsUptoRow : OpenClaim := { program := "ytlpjkeejflogjaa", sum := "745fe9fa8389776446f9c54f1dd0a4915706ca41a976558deb994a01a261b93e", func := "loop.example/charterrules/laws.FnAfterDeaths", spec := "fnAfterDeaths", apart := false, narrowed := true }
def FnAfterDeathsUptoSaid : Prop := fnAfterDeathsUptoRow.holds Try.pinned (OpenSpec.upto fnAfterDeathsSpec)

end Rows
end Go.Proofs.Ytlpjkeejflogjaa
