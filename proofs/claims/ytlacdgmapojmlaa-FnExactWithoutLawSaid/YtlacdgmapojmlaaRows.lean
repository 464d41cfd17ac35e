/-
  No cell of these rows narrows 'for every input' (looked for: loops, veiled, ifaces, maps, wideKeys, modest, calm, conditions, laid).
  DERIVED. THE GIVEN ROWS OF THIS SEAT. 12 by the template 'for every input the law returns true; each argument reads behind the call as it read before'; 0 by the template 'total and deterministic' (their statements: YtlacdgmapojmlaaTotals.lean).
  GIVEN WITH THE SEED: the statements are not yours to turn. If you find one false, say at which input.
  Laid BY PROGRAM, IN A SANDBOX (cutbox-rows.mjs): the forced cells as the released guide's own fill.sh prints them over the translation 245af55e2fb02f4b… (all of the seat's roots in one cut). By AI agents, Wed Nov 11 2026. No macro, syntax, notation, axiom, sorry.
-/
import Derived.Test.YtlacdgmapojmlaaChecked
import GoSem.Claim
import GoSem.ClaimJoined
import GoSem.ClaimMapViews
import Derived.JoinedTies
import Derived.KernelRfl
namespace Go.Proofs.Ytlacdgmapojmlaa
/- THE CELL 'sum', in the pinned program and in every row, IS THE sha256 OF THE DUMP (.gsa) THAT YtlacdgmapojmlaaProg.lean LOADS. Nothing in Lean hashes anything: it is a label: what it is worth is what the hold of that sum in a sandbox is worth. -/
noncomputable def Try.pinned : Pinned := { name := "ytlacdgmapojmlaa", sum := "245af55e2fb02f4b5521e5a7f85c22247b9a2265ca9651a93c2098d7f0ee641b", checked := Try.checked }
namespace Rows
def none {H : Type} : Left H := { results := [], args := [] }

/-- 'laws.FnExactLawOk': WHATEVER THE INPUT: true; the input reads as it did. -/
def fnExactLawOkSpec : ChangeSpec := { name := "fnExactLawOk", fn := fun _ => fun
  | [d] => { results := [.lit (.bool true)], args := [d] }
  | _ => none }
def fnExactLawOkRow : OpenClaim := { program := "ytlacdgmapojmlaa", sum := "245af55e2fb02f4b5521e5a7f85c22247b9a2265ca9651a93c2098d7f0ee641b", func := "loop.example/charterrules/laws.FnExactLawOk", spec := "fnExactLawOk", apart := false }
def FnExactLawOkSaid : Prop := fnExactLawOkRow.holds Try.pinned (OpenSpec.ofChange fnExactLawOkSpec)

/-- ITS FALSE NEIGHBOUR: 'it returns false'. Refute it at one input. -/
def fnExactLawOkWrong : ChangeSpec := { name := "fnExactLawOk", fn := fun _ => fun
  | [d] => { results := [.lit (.bool false)], args := [d] }
  | _ => none }
def FnExactLawOkWrongFalsely : Prop := fnExactLawOkRow.holds Try.pinned (OpenSpec.ofChange fnExactLawOkWrong)

/-- 'laws.FnLawOk': WHATEVER THE INPUT: true; the input reads as it did. -/
def fnLawOkSpec : ChangeSpec := { name := "fnLawOk", fn := fun _ => fun
  | [d] => { results := [.lit (.bool true)], args := [d] }
  | _ => none }
def fnLawOkRow : OpenClaim := { program := "ytlacdgmapojmlaa", sum := "245af55e2fb02f4b5521e5a7f85c22247b9a2265ca9651a93c2098d7f0ee641b", func := "loop.example/charterrules/laws.FnLawOk", spec := "fnLawOk", apart := false }
def FnLawOkSaid : Prop := fnLawOkRow.holds Try.pinned (OpenSpec.ofChange fnLawOkSpec)

/-- ITS FALSE NEIGHBOUR: 'it returns false'. Refute it at one input. -/
def fnLawOkWrong : ChangeSpec := { name := "fnLawOk", fn := fun _ => fun
  | [d] => { results := [.lit (.bool false)], args := [d] }
  | _ => none }
def FnLawOkWrongFalsely : Prop := fnLawOkRow.holds Try.pinned (OpenSpec.ofChange fnLawOkWrong)

/-- 'laws.FnExactBookOk': WHATEVER THE INPUT: true; the input reads as it did. -/
def fnExactBookOkSpec : ChangeSpec := { name := "fnExactBookOk", fn := fun _ => fun
  | [d] => { results := [.lit (.bool true)], args := [d] }
  | _ => none }
def fnExactBookOkRow : OpenClaim := { program := "ytlacdgmapojmlaa", sum := "245af55e2fb02f4b5521e5a7f85c22247b9a2265ca9651a93c2098d7f0ee641b", func := "loop.example/charterrules/laws.FnExactBookOk", spec := "fnExactBookOk", unfollowed := true, recurses := true, apart := false }
def FnExactBookOkSaid : Prop := fnExactBookOkRow.holds Try.pinned (OpenSpec.ofChange fnExactBookOkSpec)

/-- ITS FALSE NEIGHBOUR: 'it returns false'. Refute it at one input. -/
def fnExactBookOkWrong : ChangeSpec := { name := "fnExactBookOk", fn := fun _ => fun
  | [d] => { results := [.lit (.bool false)], args := [d] }
  | _ => none }
def FnExactBookOkWrongFalsely : Prop := fnExactBookOkRow.holds Try.pinned (OpenSpec.ofChange fnExactBookOkWrong)

/-- 'laws.FnBookOk': WHATEVER THE INPUT: true; the input reads as it did. -/
def fnBookOkSpec : ChangeSpec := { name := "fnBookOk", fn := fun _ => fun
  | [d] => { results := [.lit (.bool true)], args := [d] }
  | _ => none }
def fnBookOkRow : OpenClaim := { program := "ytlacdgmapojmlaa", sum := "245af55e2fb02f4b5521e5a7f85c22247b9a2265ca9651a93c2098d7f0ee641b", func := "loop.example/charterrules/laws.FnBookOk", spec := "fnBookOk", unfollowed := true, recurses := true, apart := false }
def FnBookOkSaid : Prop := fnBookOkRow.holds Try.pinned (OpenSpec.ofChange fnBookOkSpec)

/-- ITS FALSE NEIGHBOUR: 'it returns false'. Refute it at one input. -/
def fnBookOkWrong : ChangeSpec := { name := "fnBookOk", fn := fun _ => fun
  | [d] => { results := [.lit (.bool false)], args := [d] }
  | _ => none }
def FnBookOkWrongFalsely : Prop := fnBookOkRow.holds Try.pinned (OpenSpec.ofChange fnBookOkWrong)

/-- 'laws.FnExactBeatsOk': WHATEVER THE INPUT: true; the input reads as it did. -/
def fnExactBeatsOkSpec : ChangeSpec := { name := "fnExactBeatsOk", fn := fun _ => fun
  | [d1, d2] => { results := [.lit (.bool true)], args := [d1, d2] }
  | _ => none }
def fnExactBeatsOkRow : OpenClaim := { program := "ytlacdgmapojmlaa", sum := "245af55e2fb02f4b5521e5a7f85c22247b9a2265ca9651a93c2098d7f0ee641b", func := "loop.example/charterrules/laws.FnExactBeatsOk", spec := "fnExactBeatsOk", apart := false }
def FnExactBeatsOkSaid : Prop := fnExactBeatsOkRow.holds Try.pinned (OpenSpec.ofChange fnExactBeatsOkSpec)

/-- ITS FALSE NEIGHBOUR: 'it returns false'. Refute it at one input. -/
def fnExactBeatsOkWrong : ChangeSpec := { name := "fnExactBeatsOk", fn := fun _ => fun
  | [d1, d2] => { results := [.lit (.bool false)], args := [d1, d2] }
  | _ => none }
def FnExactBeatsOkWrongFalsely : Prop := fnExactBeatsOkRow.holds Try.pinned (OpenSpec.ofChange fnExactBeatsOkWrong)

/-- 'laws.FnExactWithoutLaw': WHATEVER THE INPUT: true; the input reads as it did. -/
def fnExactWithoutLawSpec : ChangeSpec := { name := "fnExactWithoutLaw", fn := fun _ => fun
  | [d1, d2] => { results := [.lit (.bool true)], args := [d1, d2] }
  | _ => none }
def fnExactWithoutLawRow : OpenClaim := { program := "ytlacdgmapojmlaa", sum := "245af55e2fb02f4b5521e5a7f85c22247b9a2265ca9651a93c2098d7f0ee641b", func := "loop.example/charterrules/laws.FnExactWithoutLaw", spec := "fnExactWithoutLaw", unfollowed := true, recurses := true, apart := false }
def FnExactWithoutLawSaid : Prop := fnExactWithoutLawRow.holds Try.pinned (OpenSpec.ofChange fnExactWithoutLawSpec)

/-- ITS FALSE NEIGHBOUR: 'it returns false'. Refute it at one input. -/
def fnExactWithoutLawWrong : ChangeSpec := { name := "fnExactWithoutLaw", fn := fun _ => fun
  | [d1, d2] => { results := [.lit (.bool false)], args := [d1, d2] }
  | _ => none }
def FnExactWithoutLawWrongFalsely : Prop := fnExactWithoutLawRow.holds Try.pinned (OpenSpec.ofChange fnExactWithoutLawWrong)

/-- 'laws.FnBeatsOk': WHATEVER THE INPUT: true; the input reads as it did. -/
def fnBeatsOkSpec : ChangeSpec := { name := "fnBeatsOk", fn := fun _ => fun
  | [d1, d2] => { results := [.lit (.bool true)], args := [d1, d2] }
  | _ => none }
def fnBeatsOkRow : OpenClaim := { program := "ytlacdgmapojmlaa", sum := "245af55e2fb02f4b5521e5a7f85c22247b9a2265ca9651a93c2098d7f0ee641b", func := "loop.example/charterrules/laws.FnBeatsOk", spec := "fnBeatsOk", apart := false }
def FnBeatsOkSaid : Prop := fnBeatsOkRow.holds Try.pinned (OpenSpec.ofChange fnBeatsOkSpec)

/-- ITS FALSE NEIGHBOUR: 'it returns false'. Refute it at one input. -/
def fnBeatsOkWrong : ChangeSpec := { name := "fnBeatsOk", fn := fun _ => fun
  | [d1, d2] => { results := [.lit (.bool false)], args := [d1, d2] }
  | _ => none }
def FnBeatsOkWrongFalsely : Prop := fnBeatsOkRow.holds Try.pinned (OpenSpec.ofChange fnBeatsOkWrong)

/-- 'laws.FnExactSaysOf': WHATEVER THE INPUT: true; the input reads as it did. -/
def fnExactSaysOfSpec : ChangeSpec := { name := "fnExactSaysOf", fn := fun _ => fun
  | [d1, d2, d3] => { results := [.lit (.bool true)], args := [d1, d2, d3] }
  | _ => none }
def fnExactSaysOfRow : OpenClaim := { program := "ytlacdgmapojmlaa", sum := "245af55e2fb02f4b5521e5a7f85c22247b9a2265ca9651a93c2098d7f0ee641b", func := "loop.example/charterrules/laws.FnExactSaysOf", spec := "fnExactSaysOf", unfollowed := true, recurses := true, apart := false }
def FnExactSaysOfSaid : Prop := fnExactSaysOfRow.holds Try.pinned (OpenSpec.ofChange fnExactSaysOfSpec)

/-- ITS FALSE NEIGHBOUR: 'it returns false'. Refute it at one input. -/
def fnExactSaysOfWrong : ChangeSpec := { name := "fnExactSaysOf", fn := fun _ => fun
  | [d1, d2, d3] => { results := [.lit (.bool false)], args := [d1, d2, d3] }
  | _ => none }
def FnExactSaysOfWrongFalsely : Prop := fnExactSaysOfRow.holds Try.pinned (OpenSpec.ofChange fnExactSaysOfWrong)

/-- 'laws.FnExactUnbeatenOf': WHATEVER THE INPUT: true; the input reads as it did. -/
def fnExactUnbeatenOfSpec : ChangeSpec := { name := "fnExactUnbeatenOf", fn := fun _ => fun
  | [d1, d2, d3] => { results := [.lit (.bool true)], args := [d1, d2, d3] }
  | _ => none }
def fnExactUnbeatenOfRow : OpenClaim := { program := "ytlacdgmapojmlaa", sum := "245af55e2fb02f4b5521e5a7f85c22247b9a2265ca9651a93c2098d7f0ee641b", func := "loop.example/charterrules/laws.FnExactUnbeatenOf", spec := "fnExactUnbeatenOf", unfollowed := true, recurses := true, apart := false }
def FnExactUnbeatenOfSaid : Prop := fnExactUnbeatenOfRow.holds Try.pinned (OpenSpec.ofChange fnExactUnbeatenOfSpec)

/-- ITS FALSE NEIGHBOUR: 'it returns false'. Refute it at one input. -/
def fnExactUnbeatenOfWrong : ChangeSpec := { name := "fnExactUnbeatenOf", fn := fun _ => fun
  | [d1, d2, d3] => { results := [.lit (.bool false)], args := [d1, d2, d3] }
  | _ => none }
def FnExactUnbeatenOfWrongFalsely : Prop := fnExactUnbeatenOfRow.holds Try.pinned (OpenSpec.ofChange fnExactUnbeatenOfWrong)

/-- 'laws.FnUnbeatenOf': WHATEVER THE INPUT: true; the input reads as it did. -/
def fnUnbeatenOfSpec : ChangeSpec := { name := "fnUnbeatenOf", fn := fun _ => fun
  | [d] => { results := [.lit (.bool true)], args := [d] }
  | _ => none }
def fnUnbeatenOfRow : OpenClaim := { program := "ytlacdgmapojmlaa", sum := "245af55e2fb02f4b5521e5a7f85c22247b9a2265ca9651a93c2098d7f0ee641b", func := "loop.example/charterrules/laws.FnUnbeatenOf", spec := "fnUnbeatenOf", unfollowed := true, recurses := true, apart := false }
def FnUnbeatenOfSaid : Prop := fnUnbeatenOfRow.holds Try.pinned (OpenSpec.ofChange fnUnbeatenOfSpec)

/-- ITS FALSE NEIGHBOUR: 'it returns false'. Refute it at one input. -/
def fnUnbeatenOfWrong : ChangeSpec := { name := "fnUnbeatenOf", fn := fun _ => fun
  | [d] => { results := [.lit (.bool false)], args := [d] }
  | _ => none }
def FnUnbeatenOfWrongFalsely : Prop := fnUnbeatenOfRow.holds Try.pinned (OpenSpec.ofChange fnUnbeatenOfWrong)

/-- 'laws.FnSaysOf': WHATEVER THE INPUT: true; the input reads as it did. -/
def fnSaysOfSpec : ChangeSpec := { name := "fnSaysOf", fn := fun _ => fun
  | [d] => { results := [.lit (.bool true)], args := [d] }
  | _ => none }
def fnSaysOfRow : OpenClaim := { program := "ytlacdgmapojmlaa", sum := "245af55e2fb02f4b5521e5a7f85c22247b9a2265ca9651a93c2098d7f0ee641b", func := "loop.example/charterrules/laws.FnSaysOf", spec := "fnSaysOf", unfollowed := true, recurses := true, apart := false }
def FnSaysOfSaid : Prop := fnSaysOfRow.holds Try.pinned (OpenSpec.ofChange fnSaysOfSpec)

/-- ITS FALSE NEIGHBOUR: 'it returns false'. Refute it at one input. -/
def fnSaysOfWrong : ChangeSpec := { name := "fnSaysOf", fn := fun _ => fun
  | [d] => { results := [.lit (.bool false)], args := [d] }
  | _ => none }
def FnSaysOfWrongFalsely : Prop := fnSaysOfRow.holds Try.pinned (OpenSpec.ofChange fnSaysOfWrong)

/-- 'laws.FnLastWord': WHATEVER THE INPUT: true; the input reads as it did. -/
def fnLastWordSpec : ChangeSpec := { name := "fnLastWord", fn := fun _ => fun
  | [d] => { results := [.lit (.bool true)], args := [d] }
  | _ => none }
def fnLastWordRow : OpenClaim := { program := "ytlacdgmapojmlaa", sum := "245af55e2fb02f4b5521e5a7f85c22247b9a2265ca9651a93c2098d7f0ee641b", func := "loop.example/charterrules/laws.FnLastWord", spec := "fnLastWord", unfollowed := true, recurses := true, apart := false }
def FnLastWordSaid : Prop := fnLastWordRow.holds Try.pinned (OpenSpec.ofChange fnLastWordSpec)

/-- ITS FALSE NEIGHBOUR: 'it returns false'. Refute it at one input. -/
def fnLastWordWrong : ChangeSpec := { name := "fnLastWord", fn := fun _ => fun
  | [d] => { results := [.lit (.bool false)], args := [d] }
  | _ => none }
def FnLastWordWrongFalsely : Prop := fnLastWordRow.holds Try.pinned (OpenSpec.ofChange fnLastWordWrong)

/- THE SECOND FORM. 'bulk': how many values and letters a reading holds, each counted each time it is reached (what is shared counts as often as it is met; a slice's spare places count too). A statement '..UptoSaid' is the law's where the arguments, and the package variables that the reading takes, are together of bulk at most 1048576: NARROWER than '..Said'. Prove '..Said' where nothing that the law and all that it calls make is longer than what came in: it says more and counts as full. Else prove '..UptoSaid'. A law counts once. -/
mutual
def uptoBulk {H : Type} : DataW H → Nat
  | .lit (.string bytes) => bytes.length + 1
  | .lit _ => 1
  | .nil => 1
  | .ptr d => uptoBulk d + 1
  | .slice elems spare => uptoBulkAll elems + uptoBulkAll spare + 1
  | .agg parts => uptoBulkAll parts + 1
  | .iface _ d => uptoBulk d + 1
  | .map entries => uptoBulkEntries entries + 1
  | .held _ => 1
def uptoBulkAll {H : Type} : List (DataW H) → Nat
  | [] => 0
  | d :: r => uptoBulk d + uptoBulkAll r
def uptoBulkEntries {H : Type} : List (Lit × DataW H) → Nat
  | [] => 0
  | x :: r => uptoBulkEntry x + uptoBulkEntries r
def uptoBulkEntry {H : Type} : Lit × DataW H → Nat
  | (.string bytes, d) => bytes.length + uptoBulk d + 1
  | (_, d) => uptoBulk d + 1
 end
def uptoSmall : (H : Type) → List (DataW H) → Bool := fun _ ds => decide (uptoBulkAll ds ≤ 1048576)
def OpenSpec.upto (s : _root_.Go.ChangeSpec) : _root_.Go.OpenSpec := { _root_.Go.OpenSpec.ofChange s with cond := some uptoSmall }

/-- 'laws.FnExactLawOk', WHERE WHAT IT READS IS OF BULK AT MOST 1048576: true; the input reads as it did. -/
def fnExactLawOkUptoRow : OpenClaim := { program := "ytlacdgmapojmlaa", sum := "245af55e2fb02f4b5521e5a7f85c22247b9a2265ca9651a93c2098d7f0ee641b", func := "loop.example/charterrules/laws.FnExactLawOk", spec := "fnExactLawOk", apart := false, narrowed := true }
def FnExactLawOkUptoSaid : Prop := fnExactLawOkUptoRow.holds Try.pinned (OpenSpec.upto fnExactLawOkSpec)

/-- 'laws.FnLawOk', WHERE WHAT IT READS IS OF BULK AT MOST 1048576: true; the input reads as it did. -/
def fnLawOkUptoRow : OpenClaim := { program := "ytlacdgmapojmlaa", sum := "245af55e2fb02f4b5521e5a7f85c22247b9a2265ca9651a93c2098d7f0ee641b", func := "loop.example/charterrules/laws.FnLawOk", spec := "fnLawOk", apart := false, narrowed := true }
def FnLawOkUptoSaid : Prop := fnLawOkUptoRow.holds Try.pinned (OpenSpec.upto fnLawOkSpec)

/-- 'laws.FnExactBookOk', WHERE WHAT IT READS IS OF BULK AT MOST 1048576: true; the input reads as it did. -/
def fnExactBookOkUptoRow : OpenClaim := { program := "ytlacdgmapojmlaa", sum := "245af55e2fb02f4b5521e5a7f85c22247b9a2265ca9651a93c2098d7f0ee641b", func := "loop.example/charterrules/laws.FnExactBookOk", spec := "fnExactBookOk", unfollowed := true, recurses := true, apart := false, narrowed := true }
def FnExactBookOkUptoSaid : Prop := fnExactBookOkUptoRow.holds Try.pinned (OpenSpec.upto fnExactBookOkSpec)

/-- 'laws.FnBookOk', WHERE WHAT IT READS IS OF BULK AT MOST 1048576: true; the input reads as it did. -/
def fnBookOkUptoRow : OpenClaim := { program := "ytlacdgmapojmlaa", sum := "245af55e2fb02f4b5521e5a7f85c22247b9a2265ca9651a93c2098d7f0ee641b", func := "loop.example/charterrules/laws.FnBookOk", spec := "fnBookOk", unfollowed := true, recurses := true, apart := false, narrowed := true }
def FnBookOkUptoSaid : Prop := fnBookOkUptoRow.holds Try.pinned (OpenSpec.upto fnBookOkSpec)

/-- 'laws.FnExactBeatsOk', WHERE WHAT IT READS IS OF BULK AT MOST 1048576: true; the input reads as it did. -/
def fnExactBeatsOkUptoRow : OpenClaim := { program := "ytlacdgmapojmlaa", sum := "245af55e2fb02f4b5521e5a7f85c22247b9a2265ca9651a93c2098d7f0ee641b", func := "loop.example/charterrules/laws.FnExactBeatsOk", spec := "fnExactBeatsOk", apart := false, narrowed := true }
def FnExactBeatsOkUptoSaid : Prop := fnExactBeatsOkUptoRow.holds Try.pinned (OpenSpec.upto fnExactBeatsOkSpec)

/-- 'laws.FnExactWithoutLaw', WHERE WHAT IT READS IS OF BULK AT MOST 1048576: true; the input reads as it did. -/
def fnExactWithoutLawUptoRow : OpenClaim := { program := "ytlacdgmapojmlaa", sum := "245af55e2fb02f4b5521e5a7f85c22247b9a2265ca9651a93c2098d7f0ee641b", func := "loop.example/charterrules/laws.FnExactWithoutLaw", spec := "fnExactWithoutLaw", unfollowed := true, recurses := true, apart := false, narrowed := true }
def FnExactWithoutLawUptoSaid : Prop := fnExactWithoutLawUptoRow.holds Try.pinned (OpenSpec.upto fnExactWithoutLawSpec)

/-- 'laws.FnBeatsOk', WHERE WHAT IT READS IS OF BULK AT MOST 1048576: true; the input reads as it did. -/
def fnBeatsOkUptoRow : OpenClaim := { program := "ytlacdgmapojmlaa", sum := "245af55e2fb02f4b5521e5a7f85c22247b9a2265ca9651a93c2098d7f0ee641b", func := "loop.example/charterrules/laws.FnBeatsOk", spec := "fnBeatsOk", apart := false, narrowed := true }
def FnBeatsOkUptoSaid : Prop := fnBeatsOkUptoRow.holds Try.pinned (OpenSpec.upto fnBeatsOkSpec)

/-- 'laws.FnExactSaysOf', WHERE WHAT IT READS IS OF BULK AT MOST 1048576: true; the input reads as it did. -/
def fnExactSaysOfUptoRow : OpenClaim := { program := "ytlacdgmapojmlaa", sum := "245af55e2fb02f4b5521e5a7f85c22247b9a2265ca9651a93c2098d7f0ee641b", func := "loop.example/charterrules/laws.FnExactSaysOf", spec := "fnExactSaysOf", unfollowed := true, recurses := true, apart := false, narrowed := true }
def FnExactSaysOfUptoSaid : Prop := fnExactSaysOfUptoRow.holds Try.pinned (OpenSpec.upto fnExactSaysOfSpec)

/-- 'laws.FnExactUnbeatenOf', WHERE WHAT IT READS IS OF BULK AT MOST 1048576: true; the input reads as it did. -/
def fnExactUnbeatenOfUptoRow : OpenClaim := { program := "ytlacdgmapojmlaa", sum := "245af55e2fb02f4b5521e5a7f85c22247b9a2265ca9651a93c2098d7f0ee641b", func := "loop.example/charterrules/laws.FnExactUnbeatenOf", spec := "fnExactUnbeatenOf", unfollowed := true, recurses := true, apart := false, narrowed := true }
def FnExactUnbeatenOfUptoSaid : Prop := fnExactUnbeatenOfUptoRow.holds Try.pinned (OpenSpec.upto fnExactUnbeatenOfSpec)

/-- 'laws.FnUnbeatenOf', WHERE WHAT IT READS IS OF BULK AT MOST 1048576: true; the input reads as it did. -/
def fnUnbeatenOfUptoRow : OpenClaim := { program := "ytlacdgmapojmlaa", sum := "245af55e2fb02f4b5521e5a7f85c22247b9a2265ca9651a93c2098d7f0ee641b", func := "loop.example/charterrules/laws.FnUnbeatenOf", spec := "fnUnbeatenOf", unfollowed := true, recurses := true, apart := false, narrowed := true }
def FnUnbeatenOfUptoSaid : Prop := fnUnbeatenOfUptoRow.holds Try.pinned (OpenSpec.upto fnUnbeatenOfSpec)

/-- 'laws.FnSaysOf', WHERE WHAT IT READS IS OF BULK AT MOST 1048576: true; the input reads as it did. -/
def fnSaysOfUptoRow : OpenClaim := { program := "ytlacdgmapojmlaa", sum := "245af55e2fb02f4b5521e5a7f85c22247b9a2265ca9651a93c2098d7f0ee641b", func := "loop.example/charterrules/laws.FnSaysOf", spec := "fnSaysOf", unfollowed := true, recurses := true, apart := false, narrowed := true }
def FnSaysOfUptoSaid : Prop := fnSaysOfUptoRow.holds Try.pinned (OpenSpec.upto fnSaysOfSpec)

/-- 'laws.FnLastWord', WHERE WHAT IT READS IS OF BULK AT MOST 1048576: true; the input reads as it did. -/
def fnLastWordUptoRow : OpenClaim := { program := "ytlacdgmapojmlaa", sum := "245af55e2fb02f4b5521e5a7f85c22247b9a2265ca9651a93c2098d7f0ee641b", func := "loop.example/charterrules/laws.FnLastWord", spec := "fnLastWord", unfollowed := true, recurses := true, apart := false, narrowed := true }
def FnLastWordUptoSaid : Prop := fnLastWordUptoRow.holds Try.pinned (OpenSpec.upto fnLastWordSpec)

end Rows
end Go.Proofs.Ytlacdgmapojmlaa
