/-
  No cell of these rows narrows 'for every input' (looked for: loops, veiled, ifaces, maps, wideKeys, modest, calm, conditions, laid).
  DERIVED. THE GIVEN ROWS OF THIS SEAT. 11 by the template 'for every input the law returns true; each argument reads behind the call as it read before'; 0 by the template 'total and deterministic' (their statements: YtnpjlpkbefdnlaaTotals.lean).
  GIVEN WITH THE SEED: the statements are not yours to turn. If you find one false, say at which input.
  Laid BY PROGRAM, IN A SANDBOX (cutbox-rows.mjs): the forced cells as the released guide's own fill.sh prints them over the translation b8bccd6cb647191e… (all of the seat's roots in one cut). By AI agents, Wed Nov 11 2026. No macro, syntax, notation, axiom, sorry.
-/
import Derived.Test.YtnpjlpkbefdnlaaChecked
import GoSem.Claim
import GoSem.ClaimJoined
import GoSem.ClaimMapViews
import Derived.JoinedTies
import Derived.KernelRfl
namespace Go.Proofs.Ytnpjlpkbefdnlaa
/- THE CELL 'sum', in the pinned program and in every row, IS THE sha256 OF THE DUMP (.gsa) THAT YtnpjlpkbefdnlaaProg.lean LOADS. Nothing in Lean hashes anything: it is a label: what it is worth is what the hold of that sum in a sandbox is worth. -/
noncomputable def Try.pinned : Pinned := { name := "ytnpjlpkbefdnlaa", sum := "b8bccd6cb647191e5248f6210c9147c860319cb862c88a1331954385fe705cae", checked := Try.checked }
namespace Rows
def none {H : Type} : Left H := { results := [], args := [] }

/-- 'laws.FnProcessOk': WHATEVER THE INPUT: true; the input reads as it did. -/
def fnProcessOkSpec : ChangeSpec := { name := "fnProcessOk", fn := fun _ => fun
  | [d] => { results := [.lit (.bool true)], args := [d] }
  | _ => none }
def fnProcessOkRow : OpenClaim := { program := "ytnpjlpkbefdnlaa", sum := "b8bccd6cb647191e5248f6210c9147c860319cb862c88a1331954385fe705cae", func := "loop.example/charterrules/laws.FnProcessOk", spec := "fnProcessOk", apart := false }
def FnProcessOkSaid : Prop := fnProcessOkRow.holds Try.pinned (OpenSpec.ofChange fnProcessOkSpec)

/-- ITS FALSE NEIGHBOUR: 'it returns false'. Refute it at one input. -/
def fnProcessOkWrong : ChangeSpec := { name := "fnProcessOk", fn := fun _ => fun
  | [d] => { results := [.lit (.bool false)], args := [d] }
  | _ => none }
def FnProcessOkWrongFalsely : Prop := fnProcessOkRow.holds Try.pinned (OpenSpec.ofChange fnProcessOkWrong)

/-- 'laws.FnTwoHouses': WHATEVER THE INPUT: true; the input reads as it did. -/
def fnTwoHousesSpec : ChangeSpec := { name := "fnTwoHouses", fn := fun _ => fun
  | [d] => { results := [.lit (.bool true)], args := [d] }
  | _ => none }
def fnTwoHousesRow : OpenClaim := { program := "ytnpjlpkbefdnlaa", sum := "b8bccd6cb647191e5248f6210c9147c860319cb862c88a1331954385fe705cae", func := "loop.example/charterrules/laws.FnTwoHouses", spec := "fnTwoHouses", apart := false }
def FnTwoHousesSaid : Prop := fnTwoHousesRow.holds Try.pinned (OpenSpec.ofChange fnTwoHousesSpec)

/-- ITS FALSE NEIGHBOUR: 'it returns false'. Refute it at one input. -/
def fnTwoHousesWrong : ChangeSpec := { name := "fnTwoHouses", fn := fun _ => fun
  | [d] => { results := [.lit (.bool false)], args := [d] }
  | _ => none }
def FnTwoHousesWrongFalsely : Prop := fnTwoHousesRow.holds Try.pinned (OpenSpec.ofChange fnTwoHousesWrong)

/-- 'laws.FnExactProcessOk': WHATEVER THE INPUT: true; the input reads as it did. -/
def fnExactProcessOkSpec : ChangeSpec := { name := "fnExactProcessOk", fn := fun _ => fun
  | [d1, d2] => { results := [.lit (.bool true)], args := [d1, d2] }
  | _ => none }
def fnExactProcessOkRow : OpenClaim := { program := "ytnpjlpkbefdnlaa", sum := "b8bccd6cb647191e5248f6210c9147c860319cb862c88a1331954385fe705cae", func := "loop.example/charterrules/laws.FnExactProcessOk", spec := "fnExactProcessOk", apart := false }
def FnExactProcessOkSaid : Prop := fnExactProcessOkRow.holds Try.pinned (OpenSpec.ofChange fnExactProcessOkSpec)

/-- ITS FALSE NEIGHBOUR: 'it returns false'. Refute it at one input. -/
def fnExactProcessOkWrong : ChangeSpec := { name := "fnExactProcessOk", fn := fun _ => fun
  | [d1, d2] => { results := [.lit (.bool false)], args := [d1, d2] }
  | _ => none }
def FnExactProcessOkWrongFalsely : Prop := fnExactProcessOkRow.holds Try.pinned (OpenSpec.ofChange fnExactProcessOkWrong)

/-- 'laws.FnSoundOk': WHATEVER THE INPUT: true; the input reads as it did. -/
def fnSoundOkSpec : ChangeSpec := { name := "fnSoundOk", fn := fun _ => fun
  | [d] => { results := [.lit (.bool true)], args := [d] }
  | _ => none }
def fnSoundOkRow : OpenClaim := { program := "ytnpjlpkbefdnlaa", sum := "b8bccd6cb647191e5248f6210c9147c860319cb862c88a1331954385fe705cae", func := "loop.example/charterrules/laws.FnSoundOk", spec := "fnSoundOk", recurses := true, apart := false }
def FnSoundOkSaid : Prop := fnSoundOkRow.holds Try.pinned (OpenSpec.ofChange fnSoundOkSpec)

/-- ITS FALSE NEIGHBOUR: 'it returns false'. Refute it at one input. -/
def fnSoundOkWrong : ChangeSpec := { name := "fnSoundOk", fn := fun _ => fun
  | [d] => { results := [.lit (.bool false)], args := [d] }
  | _ => none }
def FnSoundOkWrongFalsely : Prop := fnSoundOkRow.holds Try.pinned (OpenSpec.ofChange fnSoundOkWrong)

/-- 'laws.FnLawByEach': WHATEVER THE INPUT: true; the input reads as it did. -/
def fnLawByEachSpec : ChangeSpec := { name := "fnLawByEach", fn := fun _ => fun
  | [d] => { results := [.lit (.bool true)], args := [d] }
  | _ => none }
def fnLawByEachRow : OpenClaim := { program := "ytnpjlpkbefdnlaa", sum := "b8bccd6cb647191e5248f6210c9147c860319cb862c88a1331954385fe705cae", func := "loop.example/charterrules/laws.FnLawByEach", spec := "fnLawByEach", unfollowed := true, recurses := true, apart := false }
def FnLawByEachSaid : Prop := fnLawByEachRow.holds Try.pinned (OpenSpec.ofChange fnLawByEachSpec)

/-- ITS FALSE NEIGHBOUR: 'it returns false'. Refute it at one input. -/
def fnLawByEachWrong : ChangeSpec := { name := "fnLawByEach", fn := fun _ => fun
  | [d] => { results := [.lit (.bool false)], args := [d] }
  | _ => none }
def FnLawByEachWrongFalsely : Prop := fnLawByEachRow.holds Try.pinned (OpenSpec.ofChange fnLawByEachWrong)

/-- 'laws.FnLawBy': WHATEVER THE INPUT: true; the input reads as it did. -/
def fnLawBySpec : ChangeSpec := { name := "fnLawBy", fn := fun _ => fun
  | [d] => { results := [.lit (.bool true)], args := [d] }
  | _ => none }
def fnLawByRow : OpenClaim := { program := "ytnpjlpkbefdnlaa", sum := "b8bccd6cb647191e5248f6210c9147c860319cb862c88a1331954385fe705cae", func := "loop.example/charterrules/laws.FnLawBy", spec := "fnLawBy", unfollowed := true, recurses := true, apart := false }
def FnLawBySaid : Prop := fnLawByRow.holds Try.pinned (OpenSpec.ofChange fnLawBySpec)

/-- ITS FALSE NEIGHBOUR: 'it returns false'. Refute it at one input. -/
def fnLawByWrong : ChangeSpec := { name := "fnLawBy", fn := fun _ => fun
  | [d] => { results := [.lit (.bool false)], args := [d] }
  | _ => none }
def FnLawByWrongFalsely : Prop := fnLawByRow.holds Try.pinned (OpenSpec.ofChange fnLawByWrong)

/-- 'laws.FnExactLawBy': WHATEVER THE INPUT: true; the input reads as it did. -/
def fnExactLawBySpec : ChangeSpec := { name := "fnExactLawBy", fn := fun _ => fun
  | [d1, d2, d3] => { results := [.lit (.bool true)], args := [d1, d2, d3] }
  | _ => none }
def fnExactLawByRow : OpenClaim := { program := "ytnpjlpkbefdnlaa", sum := "b8bccd6cb647191e5248f6210c9147c860319cb862c88a1331954385fe705cae", func := "loop.example/charterrules/laws.FnExactLawBy", spec := "fnExactLawBy", recurses := true, apart := false }
def FnExactLawBySaid : Prop := fnExactLawByRow.holds Try.pinned (OpenSpec.ofChange fnExactLawBySpec)

/-- ITS FALSE NEIGHBOUR: 'it returns false'. Refute it at one input. -/
def fnExactLawByWrong : ChangeSpec := { name := "fnExactLawBy", fn := fun _ => fun
  | [d1, d2, d3] => { results := [.lit (.bool false)], args := [d1, d2, d3] }
  | _ => none }
def FnExactLawByWrongFalsely : Prop := fnExactLawByRow.holds Try.pinned (OpenSpec.ofChange fnExactLawByWrong)

/-- 'laws.FnExactSoundOk': WHATEVER THE INPUT: true; the input reads as it did. -/
def fnExactSoundOkSpec : ChangeSpec := { name := "fnExactSoundOk", fn := fun _ => fun
  | [d1, d2] => { results := [.lit (.bool true)], args := [d1, d2] }
  | _ => none }
def fnExactSoundOkRow : OpenClaim := { program := "ytnpjlpkbefdnlaa", sum := "b8bccd6cb647191e5248f6210c9147c860319cb862c88a1331954385fe705cae", func := "loop.example/charterrules/laws.FnExactSoundOk", spec := "fnExactSoundOk", recurses := true, apart := false }
def FnExactSoundOkSaid : Prop := fnExactSoundOkRow.holds Try.pinned (OpenSpec.ofChange fnExactSoundOkSpec)

/-- ITS FALSE NEIGHBOUR: 'it returns false'. Refute it at one input. -/
def fnExactSoundOkWrong : ChangeSpec := { name := "fnExactSoundOk", fn := fun _ => fun
  | [d1, d2] => { results := [.lit (.bool false)], args := [d1, d2] }
  | _ => none }
def FnExactSoundOkWrongFalsely : Prop := fnExactSoundOkRow.holds Try.pinned (OpenSpec.ofChange fnExactSoundOkWrong)

/-- 'laws.FnExactLawByEach': WHATEVER THE INPUT: true; the input reads as it did. -/
def fnExactLawByEachSpec : ChangeSpec := { name := "fnExactLawByEach", fn := fun _ => fun
  | [d1, d2, d3] => { results := [.lit (.bool true)], args := [d1, d2, d3] }
  | _ => none }
def fnExactLawByEachRow : OpenClaim := { program := "ytnpjlpkbefdnlaa", sum := "b8bccd6cb647191e5248f6210c9147c860319cb862c88a1331954385fe705cae", func := "loop.example/charterrules/laws.FnExactLawByEach", spec := "fnExactLawByEach", unfollowed := true, recurses := true, apart := false }
def FnExactLawByEachSaid : Prop := fnExactLawByEachRow.holds Try.pinned (OpenSpec.ofChange fnExactLawByEachSpec)

/-- ITS FALSE NEIGHBOUR: 'it returns false'. Refute it at one input. -/
def fnExactLawByEachWrong : ChangeSpec := { name := "fnExactLawByEach", fn := fun _ => fun
  | [d1, d2, d3] => { results := [.lit (.bool false)], args := [d1, d2, d3] }
  | _ => none }
def FnExactLawByEachWrongFalsely : Prop := fnExactLawByEachRow.holds Try.pinned (OpenSpec.ofChange fnExactLawByEachWrong)

/-- 'laws.FnBillTerm': WHATEVER THE INPUT: true; the input reads as it did. -/
def fnBillTermSpec : ChangeSpec := { name := "fnBillTerm", fn := fun _ => fun
  | [d] => { results := [.lit (.bool true)], args := [d] }
  | _ => none }
def fnBillTermRow : OpenClaim := { program := "ytnpjlpkbefdnlaa", sum := "b8bccd6cb647191e5248f6210c9147c860319cb862c88a1331954385fe705cae", func := "loop.example/charterrules/laws.FnBillTerm", spec := "fnBillTerm", recurses := true, apart := false }
def FnBillTermSaid : Prop := fnBillTermRow.holds Try.pinned (OpenSpec.ofChange fnBillTermSpec)

/-- ITS FALSE NEIGHBOUR: 'it returns false'. Refute it at one input. -/
def fnBillTermWrong : ChangeSpec := { name := "fnBillTerm", fn := fun _ => fun
  | [d] => { results := [.lit (.bool false)], args := [d] }
  | _ => none }
def FnBillTermWrongFalsely : Prop := fnBillTermRow.holds Try.pinned (OpenSpec.ofChange fnBillTermWrong)

/-- 'laws.FnExactBillTerm': WHATEVER THE INPUT: true; the input reads as it did. -/
def fnExactBillTermSpec : ChangeSpec := { name := "fnExactBillTerm", fn := fun _ => fun
  | [d1, d2] => { results := [.lit (.bool true)], args := [d1, d2] }
  | _ => none }
def fnExactBillTermRow : OpenClaim := { program := "ytnpjlpkbefdnlaa", sum := "b8bccd6cb647191e5248f6210c9147c860319cb862c88a1331954385fe705cae", func := "loop.example/charterrules/laws.FnExactBillTerm", spec := "fnExactBillTerm", recurses := true, apart := false }
def FnExactBillTermSaid : Prop := fnExactBillTermRow.holds Try.pinned (OpenSpec.ofChange fnExactBillTermSpec)

/-- ITS FALSE NEIGHBOUR: 'it returns false'. Refute it at one input. -/
def fnExactBillTermWrong : ChangeSpec := { name := "fnExactBillTerm", fn := fun _ => fun
  | [d1, d2] => { results := [.lit (.bool false)], args := [d1, d2] }
  | _ => none }
def FnExactBillTermWrongFalsely : Prop := fnExactBillTermRow.holds Try.pinned (OpenSpec.ofChange fnExactBillTermWrong)

/- THE SECOND FORM. 'bulk': how many values and letters a reading holds, each counted each time it is reached (what is shared counts as often as it is met; a slice's spare places count too). A statement '..UptoSaid' is the law's where the arguments, and the package variables that the reading takes, are together of bulk at most 1048576: NARROWER than '..Said'. Prove '..Said' where nothing that the law and all that it calls make is longer than what came in: it says more and counts as full. Else prove '..UptoSaid'. A law counts once. -/
mutual
def uptoBulk {H : Type} : DataW H → Nat
  | .lit (.string bytes) => bytes.length + 1
  | .lit _ => 1
  | .nil => 1
  | .ptr d => uptoBulk d + 1
  | .slice elems spare => uptoBulkAll elems + uptoBulkAll spare + 1
  | .agg parts => uptoBulkAll parts + 1
  | .iface _ d => uptoBulk d + 1
  | .map entries => uptoBulkEntries entries + 1
  | .held _ => 1
def uptoBulkAll {H : Type} : List (DataW H) → Nat
  | [] => 0
  | d :: r => uptoBulk d + uptoBulkAll r
def uptoBulkEntries {H : Type} : List (Lit × DataW H) → Nat
  | [] => 0
  | x :: r => uptoBulkEntry x + uptoBulkEntries r
def uptoBulkEntry {H : Type} : Lit × DataW H → Nat
  | (.string bytes, d) => bytes.length + uptoBulk d + 1
  | (_, d) => uptoBulk d + 1
 end
def uptoSmall : (H : Type) → List (DataW H) → Bool := fun _ ds => decide (uptoBulkAll ds ≤ 1048576)
def OpenSpec.upto (s : _root_.Go.ChangeSpec) : _root_.Go.OpenSpec := { _root_.Go.OpenSpec.ofChange s with cond := some uptoSmall }

/-- 'laws.FnProcessOk', WHERE WHAT IT READS IS OF BULK AT MOST 1048576: true; the input reads as it did. -/
def fnProcessOkUptoRow : OpenClaim := { program := "ytnpjlpkbefdnlaa", sum := "b8bccd6cb647191e5248f6210c9147c860319cb862c88a1331954385fe705cae", func := "loop.example/charterrules/laws.FnProcessOk", spec := "fnProcessOk", apart := false, narrowed := true }
def FnProcessOkUptoSaid : Prop := fnProcessOkUptoRow.holds Try.pinned (OpenSpec.upto fnProcessOkSpec)

/-- 'laws.FnTwoHouses', WHERE WHAT IT READS IS OF BULK AT MOST 1048576: true; the input reads as it did. -/
def fnTwoHousesUptoRow : OpenClaim := { program := "ytnpjlpkbefdnlaa", sum := "b8bccd6cb647191e5248f6210c9147c860319cb862c88a1331954385fe705cae", func := "loop.example/charterrules/laws.FnTwoHouses", spec := "fnTwoHouses", apart := false, narrowed := true }
def FnTwoHousesUptoSaid : Prop := fnTwoHousesUptoRow.holds Try.pinned (OpenSpec.upto fnTwoHousesSpec)

/-- 'laws.FnExactProcessOk', WHERE WHAT IT READS IS OF BULK AT MOST 1048576: true; the input reads as it did. -/
def fnExactProcessOkUptoRow : OpenClaim := { program := "ytnpjlpkbefdnlaa", sum := "b8bccd6cb647191e5248f6210c9147c860319cb862c88a1331954385fe705cae", func := "loop.example/charterrules/laws.FnExactProcessOk", spec := "fnExactProcessOk", apart := false, narrowed := true }
def FnExactProcessOkUptoSaid : Prop := fnExactProcessOkUptoRow.holds Try.pinned (OpenSpec.upto fnExactProcessOkSpec)

/-- 'laws.FnSoundOk', WHERE WHAT IT READS IS OF BULK AT MOST 1048576: true; the input reads as it did. -/
def fnSoundOkUptoRow : OpenClaim := { program := "ytnpjlpkbefdnlaa", sum := "b8bccd6cb647191e5248f6210c9147c860319cb862c88a1331954385fe705cae", func := "loop.example/charterrules/laws.FnSoundOk", spec := "fnSoundOk", recurses := true, apart := false, narrowed := true }
def FnSoundOkUptoSaid : Prop := fnSoundOkUptoRow.holds Try.pinned (OpenSpec.upto fnSoundOkSpec)

/-- 'laws.FnLawByEach', WHERE WHAT IT READS IS OF BULK AT MOST 1048576: true; the input reads as it did. -/
def fnLawByEachUptoRow : OpenClaim := { program := "ytnpjlpkbefdnlaa", sum := "b8bccd6cb647191e5248f6210c9147c860319cb862c88a1331954385fe705cae", func := "loop.example/charterrules/laws.FnLawByEach", spec := "fnLawByEach", unfollowed := true, recurses := true, apart := false, narrowed := true }
def FnLawByEachUptoSaid : Prop := fnLawByEachUptoRow.holds Try.pinned (OpenSpec.upto fnLawByEachSpec)

/-- 'laws.FnLawBy', WHERE WHAT IT READS IS OF BULK AT MOST 1048576: true; the input reads as it did. -/
def fnLawByUptoRow : OpenClaim := { program := "ytnpjlpkbefdnlaa", sum := "b8bccd6cb647191e5248f6210c9147c860319cb862c88a1331954385fe705cae", func := "loop.example/charterrules/laws.FnLawBy", spec := "fnLawBy", unfollowed := true, recurses := true, apart := false, narrowed := true }
def FnLawByUptoSaid : Prop := fnLawByUptoRow.holds Try.pinned (OpenSpec.upto fnLawBySpec)

/-- 'laws.FnExactLawBy', WHERE WHAT IT READS IS OF BULK AT MOST 1048576: true; the input reads as it did. -/
def fnExactLawByUptoRow : OpenClaim := { program := "ytnpjlpkbefdnlaa", sum := "b8bccd6cb647191e5248f6210c9147c860319cb862c88a1331954385fe705cae", func := "loop.example/charterrules/laws.FnExactLawBy", spec := "fnExactLawBy", recurses := true, apart := false, narrowed := true }
def FnExactLawByUptoSaid : Prop := fnExactLawByUptoRow.holds Try.pinned (OpenSpec.upto fnExactLawBySpec)

/-- 'laws.FnExactSoundOk', WHERE WHAT IT READS IS OF BULK AT MOST 1048576: true; the input reads as it did. -/
def fnExactSoundOkUptoRow : OpenClaim := { program := "ytnpjlpkbefdnlaa", sum := "b8bccd6cb647191e5248f6210c9147c860319cb862c88a1331954385fe705cae", func := "loop.example/charterrules/laws.FnExactSoundOk", spec := "fnExactSoundOk", recurses := true, apart := false, narrowed := true }
def FnExactSoundOkUptoSaid : Prop := fnExactSoundOkUptoRow.holds Try.pinned (OpenSpec.upto fnExactSoundOkSpec)

/-- 'laws.FnExactLawByEach', WHERE WHAT IT READS IS OF BULK AT MOST 1048576: true; the input reads as it did. -/
def fnExactLawByEachUptoRow : OpenClaim := { program := "ytnpjlpkbefdnlaa", sum := "b8bccd6cb647191e5248f6210c9147c860319cb862c88a1331954385fe705cae", func := "loop.example/charterrules/laws.FnExactLawByEach", spec := "fnExactLawByEach", unfollowed := true, recurses := true, apart := false, narrowed := true }
def FnExactLawByEachUptoSaid : Prop := fnExactLawByEachUptoRow.holds Try.pinned (OpenSpec.upto fnExactLawByEachSpec)

/-- 'laws.FnBillTerm', WHERE WHAT IT READS IS OF BULK AT MOST 1048576: true; the input reads as it did. -/
def fnBillTermUptoRow : OpenClaim := { program := "ytnpjlpkbefdnlaa", sum := "b8bccd6cb647191e5248f6210c9147c860319cb862c88a1331954385fe705cae", func := "loop.example/charterrules/laws.FnBillTerm", spec := "fnBillTerm", recurses := true, apart := false, narrowed := true }
def FnBillTermUptoSaid : Prop := fnBillTermUptoRow.holds Try.pinned (OpenSpec.upto fnBillTermSpec)

/-- 'laws.FnExactBillTerm', WHERE WHAT IT READS IS OF BULK AT MOST 1048576: true; the input reads as it did. -/
def fnExactBillTermUptoRow : OpenClaim := { program := "ytnpjlpkbefdnlaa", sum := "b8bccd6cb647191e5248f6210c9147c860319cb862c88a1331954385fe705cae", func := "loop.example/charterrules/laws.FnExactBillTerm", spec := "fnExactBillTerm", recurses := true, apart := false, narrowed := true }
def FnExactBillTermUptoSaid : Prop := fnExactBillTermUptoRow.holds Try.pinned (OpenSpec.upto fnExactBillTermSpec)

end Rows
end Go.Proofs.Ytnpjlpkbefdnlaa
