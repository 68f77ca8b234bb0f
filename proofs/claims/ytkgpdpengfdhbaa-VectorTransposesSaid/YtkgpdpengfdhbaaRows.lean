/-
  No cell of these rows narrows 'for every input' (looked for: loops, veiled, ifaces, maps, wideKeys, modest, calm, conditions, laid).
  DERIVED. THE GIVEN ROWS OF THIS SEAT. 8 by the template 'for every input the law returns true; each argument reads behind the call as it read before'; 0 by the template 'total and deterministic' (their statements: YtkgpdpengfdhbaaTotals.lean).
  GIVEN WITH THE SEED: the statements are not yours to turn. If you find one false, say at which input.
  Laid BY PROGRAM, IN A SANDBOX (cutbox-rows.mjs): the forced cells as the released guide's own fill.sh prints them over the translation 3d50902e2fbca232… (all of the seat's roots in one cut). By AI agents, Wed Nov 11 2026. No macro, syntax, notation, axiom, sorry.
-/
import Derived.Test.YtkgpdpengfdhbaaChecked
import GoSem.Claim
import GoSem.ClaimJoined
import GoSem.ClaimMapViews
import Derived.JoinedTies
import Derived.KernelRfl
namespace Go.Proofs.Ytkgpdpengfdhbaa
/- THE CELL 'sum', in the pinned program and in every row, IS THE sha256 OF THE DUMP (.gsa) THAT YtkgpdpengfdhbaaProg.lean LOADS. Nothing in Lean hashes anything: it is a label: what it is worth is what the hold of that sum in a sandbox is worth. -/
noncomputable def Try.pinned : Pinned := { name := "ytkgpdpengfdhbaa", sum := "3d50902e2fbca232c3510cc6c007f798ae558fba56bf7b3272d7bd655afc9e6e", checked := Try.checked }
namespace Rows
def none {H : Type} : Left H := { results := [], args := [] }

/-- 'perilunelaw17.VectorProducts': WHATEVER THE INPUT: true; the input reads as it did. -/
def vectorProductsSpec : ChangeSpec := { name := "vectorProducts", fn := fun _ => fun
  | [d1, d2] => { results := [.lit (.bool true)], args := [d1, d2] }
  | _ => none }
def vectorProductsRow : OpenClaim := { program := "ytkgpdpengfdhbaa", sum := "3d50902e2fbca232c3510cc6c007f798ae558fba56bf7b3272d7bd655afc9e6e", func := "perilune/perilunelaw17.VectorProducts", spec := "vectorProducts", unfollowed := true, recurses := true, apart := false }
def VectorProductsSaid : Prop := vectorProductsRow.holds Try.pinned (OpenSpec.ofChange vectorProductsSpec)

/-- ITS FALSE NEIGHBOUR: 'it returns false'. Refute it at one input. -/
def vectorProductsWrong : ChangeSpec := { name := "vectorProducts", fn := fun _ => fun
  | [d1, d2] => { results := [.lit (.bool false)], args := [d1, d2] }
  | _ => none }
def VectorProductsWrongFalsely : Prop := vectorProductsRow.holds Try.pinned (OpenSpec.ofChange vectorProductsWrong)

/-- 'perilunelaw17.VectorLengths': WHATEVER THE INPUT: true; the input reads as it did. -/
def vectorLengthsSpec : ChangeSpec := { name := "vectorLengths", fn := fun _ => fun
  | [d] => { results := [.lit (.bool true)], args := [d] }
  | _ => none }
def vectorLengthsRow : OpenClaim := { program := "ytkgpdpengfdhbaa", sum := "3d50902e2fbca232c3510cc6c007f798ae558fba56bf7b3272d7bd655afc9e6e", func := "perilune/perilunelaw17.VectorLengths", spec := "vectorLengths", unfollowed := true, recurses := true, apart := false }
def VectorLengthsSaid : Prop := vectorLengthsRow.holds Try.pinned (OpenSpec.ofChange vectorLengthsSpec)

/-- ITS FALSE NEIGHBOUR: 'it returns false'. Refute it at one input. -/
def vectorLengthsWrong : ChangeSpec := { name := "vectorLengths", fn := fun _ => fun
  | [d] => { results := [.lit (.bool false)], args := [d] }
  | _ => none }
def VectorLengthsWrongFalsely : Prop := vectorLengthsRow.holds Try.pinned (OpenSpec.ofChange vectorLengthsWrong)

/-- 'perilunelaw17.VectorRules': WHATEVER THE INPUT: true; the input reads as it did. -/
def vectorRulesSpec : ChangeSpec := { name := "vectorRules", fn := fun _ => fun
  | [d1, d2] => { results := [.lit (.bool true)], args := [d1, d2] }
  | _ => none }
def vectorRulesRow : OpenClaim := { program := "ytkgpdpengfdhbaa", sum := "3d50902e2fbca232c3510cc6c007f798ae558fba56bf7b3272d7bd655afc9e6e", func := "perilune/perilunelaw17.VectorRules", spec := "vectorRules", unfollowed := true, recurses := true, apart := false }
def VectorRulesSaid : Prop := vectorRulesRow.holds Try.pinned (OpenSpec.ofChange vectorRulesSpec)

/-- ITS FALSE NEIGHBOUR: 'it returns false'. Refute it at one input. -/
def vectorRulesWrong : ChangeSpec := { name := "vectorRules", fn := fun _ => fun
  | [d1, d2] => { results := [.lit (.bool false)], args := [d1, d2] }
  | _ => none }
def VectorRulesWrongFalsely : Prop := vectorRulesRow.holds Try.pinned (OpenSpec.ofChange vectorRulesWrong)

/-- 'perilunelaw17.VectorKnown': WHATEVER THE INPUT: true; the input reads as it did. -/
def vectorKnownSpec : ChangeSpec := { name := "vectorKnown", fn := fun _ => fun
  | [] => { results := [.lit (.bool true)], args := [] }
  | _ => none }
def vectorKnownRow : OpenClaim := { program := "ytkgpdpengfdhbaa", sum := "3d50902e2fbca232c3510cc6c007f798ae558fba56bf7b3272d7bd655afc9e6e", func := "perilune/perilunelaw17.VectorKnown", spec := "vectorKnown", unfollowed := true, recurses := true, apart := false }
def VectorKnownSaid : Prop := vectorKnownRow.holds Try.pinned (OpenSpec.ofChange vectorKnownSpec)

/-- ITS FALSE NEIGHBOUR: 'it returns false'. Refute it at one input. -/
def vectorKnownWrong : ChangeSpec := { name := "vectorKnown", fn := fun _ => fun
  | [] => { results := [.lit (.bool false)], args := [] }
  | _ => none }
def VectorKnownWrongFalsely : Prop := vectorKnownRow.holds Try.pinned (OpenSpec.ofChange vectorKnownWrong)

/-- 'perilunelaw17.VectorMatrices': WHATEVER THE INPUT: true; the input reads as it did. -/
def vectorMatricesSpec : ChangeSpec := { name := "vectorMatrices", fn := fun _ => fun
  | [d1, d2, d3] => { results := [.lit (.bool true)], args := [d1, d2, d3] }
  | _ => none }
def vectorMatricesRow : OpenClaim := { program := "ytkgpdpengfdhbaa", sum := "3d50902e2fbca232c3510cc6c007f798ae558fba56bf7b3272d7bd655afc9e6e", func := "perilune/perilunelaw17.VectorMatrices", spec := "vectorMatrices", unfollowed := true, recurses := true, apart := false }
def VectorMatricesSaid : Prop := vectorMatricesRow.holds Try.pinned (OpenSpec.ofChange vectorMatricesSpec)

/-- ITS FALSE NEIGHBOUR: 'it returns false'. Refute it at one input. -/
def vectorMatricesWrong : ChangeSpec := { name := "vectorMatrices", fn := fun _ => fun
  | [d1, d2, d3] => { results := [.lit (.bool false)], args := [d1, d2, d3] }
  | _ => none }
def VectorMatricesWrongFalsely : Prop := vectorMatricesRow.holds Try.pinned (OpenSpec.ofChange vectorMatricesWrong)

/-- 'perilunelaw17.VectorUnits': WHATEVER THE INPUT: true; the input reads as it did. -/
def vectorUnitsSpec : ChangeSpec := { name := "vectorUnits", fn := fun _ => fun
  | [d] => { results := [.lit (.bool true)], args := [d] }
  | _ => none }
def vectorUnitsRow : OpenClaim := { program := "ytkgpdpengfdhbaa", sum := "3d50902e2fbca232c3510cc6c007f798ae558fba56bf7b3272d7bd655afc9e6e", func := "perilune/perilunelaw17.VectorUnits", spec := "vectorUnits", unfollowed := true, recurses := true, apart := false }
def VectorUnitsSaid : Prop := vectorUnitsRow.holds Try.pinned (OpenSpec.ofChange vectorUnitsSpec)

/-- ITS FALSE NEIGHBOUR: 'it returns false'. Refute it at one input. -/
def vectorUnitsWrong : ChangeSpec := { name := "vectorUnits", fn := fun _ => fun
  | [d] => { results := [.lit (.bool false)], args := [d] }
  | _ => none }
def VectorUnitsWrongFalsely : Prop := vectorUnitsRow.holds Try.pinned (OpenSpec.ofChange vectorUnitsWrong)

/-- 'perilunelaw17.VectorTransposes': WHATEVER THE INPUT: true; the input reads as it did. -/
def vectorTransposesSpec : ChangeSpec := { name := "vectorTransposes", fn := fun _ => fun
  | [d1, d2, d3] => { results := [.lit (.bool true)], args := [d1, d2, d3] }
  | _ => none }
def vectorTransposesRow : OpenClaim := { program := "ytkgpdpengfdhbaa", sum := "3d50902e2fbca232c3510cc6c007f798ae558fba56bf7b3272d7bd655afc9e6e", func := "perilune/perilunelaw17.VectorTransposes", spec := "vectorTransposes", unfollowed := true, recurses := true, apart := false }
def VectorTransposesSaid : Prop := vectorTransposesRow.holds Try.pinned (OpenSpec.ofChange vectorTransposesSpec)

/-- ITS FALSE NEIGHBOUR: 'it returns false'. Refute it at one input. -/
def vectorTransposesWrong : ChangeSpec := { name := "vectorTransposes", fn := fun _ => fun
  | [d1, d2, d3] => { results := [.lit (.bool false)], args := [d1, d2, d3] }
  | _ => none }
def VectorTransposesWrongFalsely : Prop := vectorTransposesRow.holds Try.pinned (OpenSpec.ofChange vectorTransposesWrong)

/-- 'perilunelaw17.VectorSums': WHATEVER THE INPUT: true; the input reads as it did. -/
def vectorSumsSpec : ChangeSpec := { name := "vectorSums", fn := fun _ => fun
  | [d1, d2, d3, d4] => { results := [.lit (.bool true)], args := [d1, d2, d3, d4] }
  | _ => none }
def vectorSumsRow : OpenClaim := { program := "ytkgpdpengfdhbaa", sum := "3d50902e2fbca232c3510cc6c007f798ae558fba56bf7b3272d7bd655afc9e6e", func := "perilune/perilunelaw17.VectorSums", spec := "vectorSums", unfollowed := true, recurses := true, apart := false }
def VectorSumsSaid : Prop := vectorSumsRow.holds Try.pinned (OpenSpec.ofChange vectorSumsSpec)

/-- ITS FALSE NEIGHBOUR: 'it returns false'. Refute it at one input. -/
def vectorSumsWrong : ChangeSpec := { name := "vectorSums", fn := fun _ => fun
  | [d1, d2, d3, d4] => { results := [.lit (.bool false)], args := [d1, d2, d3, d4] }
  | _ => none }
def VectorSumsWrongFalsely : Prop := vectorSumsRow.holds Try.pinned (OpenSpec.ofChange vectorSumsWrong)

/- THE SECOND FORM. 'bulk': how many values and letters a reading holds, each counted each time it is reached (what is shared counts as often as it is met; a slice's spare places count too). A statement '..UptoSaid' is the law's where the arguments, and the package variables that the reading takes, are together of bulk at most 1048576: NARROWER than '..Said'. Prove '..Said' where nothing that the law and all that it calls make is longer than what came in: it says more and counts as full. Else prove '..UptoSaid'. A law counts once. -/
mutual
def uptoBulk {H : Type} : DataW H → Nat
  | .lit (.string bytes) => bytes.length + 1
  | .lit _ => 1
  | .nil => 1
  | .ptr d => uptoBulk d + 1
  | .slice elems spare => uptoBulkAll elems + uptoBulkAll spare + 1
  | .agg parts => uptoBulkAll parts + 1
  | .iface _ d => uptoBulk d + 1
  | .map entries => uptoBulkEntries entries + 1
  | .held _ => 1
def uptoBulkAll {H : Type} : List (DataW H) → Nat
  | [] => 0
  | d :: r => uptoBulk d + uptoBulkAll r
def uptoBulkEntries {H : Type} : List (Lit × DataW H) → Nat
  | [] => 0
  | x :: r => uptoBulkEntry x + uptoBulkEntries r
def uptoBulkEntry {H : Type} : Lit × DataW H → Nat
  | (.string bytes, d) => bytes.length + uptoBulk d + 1
  | (_, d) => uptoBulk d + 1
 end
def uptoSmall : (H : Type) → List (DataW H) → Bool := fun _ ds => decide (uptoBulkAll ds ≤ 1048576)
def OpenSpec.upto (s : _root_.Go.ChangeSpec) : _root_.Go.OpenSpec := { _root_.Go.OpenSpec.ofChange s with cond := some uptoSmall }

/-- 'perilunelaw17.VectorProducts', WHERE WHAT IT READS IS OF BULK AT MOST 1048576: true; the input reads as it did. -/
def vectorProductsUptoRow : OpenClaim := { program := "ytkgpdpengfdhbaa", sum := "3d50902e2fbca232c3510cc6c007f798ae558fba56bf7b3272d7bd655afc9e6e", func := "perilune/perilunelaw17.VectorProducts", spec := "vectorProducts", unfollowed := true, recurses := true, apart := false, narrowed := true }
def VectorProductsUptoSaid : Prop := vectorProductsUptoRow.holds Try.pinned (OpenSpec.upto vectorProductsSpec)

/-- 'perilunelaw17.VectorLengths', WHERE WHAT IT READS IS OF BULK AT MOST 1048576: true; the input reads as it did. -/
def vectorLengthsUptoRow : OpenClaim := { program := "ytkgpdpengfdhbaa", sum := "3d50902e2fbca232c3510cc6c007f798ae558fba56bf7b3272d7bd655afc9e6e", func := "perilune/perilunelaw17.VectorLengths", spec := "vectorLengths", unfollowed := true, recurses := true, apart := false, narrowed := true }
def VectorLengthsUptoSaid : Prop := vectorLengthsUptoRow.holds Try.pinned (OpenSpec.upto vectorLengthsSpec)

/-- 'perilunelaw17.VectorRules', WHERE WHAT IT READS IS OF BULK AT MOST 1048576: true; the input reads as it did. -/
def vectorRulesUptoRow : OpenClaim := { program := "ytkgpdpengfdhbaa", sum := "3d50902e2fbca232c3510cc6c007f798ae558fba56bf7b3272d7bd655afc9e6e", func := "perilune/perilunelaw17.VectorRules", spec := "vectorRules", unfollowed := true, recurses := true, apart := false, narrowed := true }
def VectorRulesUptoSaid : Prop := vectorRulesUptoRow.holds Try.pinned (OpenSpec.upto vectorRulesSpec)

/-- 'perilunelaw17.VectorKnown', WHERE WHAT IT READS IS OF BULK AT MOST 1048576: true; the input reads as it did. -/
def vectorKnownUptoRow : OpenClaim := { program := "ytkgpdpengfdhbaa", sum := "3d50902e2fbca232c3510cc6c007f798ae558fba56bf7b3272d7bd655afc9e6e", func := "perilune/perilunelaw17.VectorKnown", spec := "vectorKnown", unfollowed := true, recurses := true, apart := false, narrowed := true }
def VectorKnownUptoSaid : Prop := vectorKnownUptoRow.holds Try.pinned (OpenSpec.upto vectorKnownSpec)

/-- 'perilunelaw17.VectorMatrices', WHERE WHAT IT READS IS OF BULK AT MOST 1048576: true; the input reads as it did. -/
def vectorMatricesUptoRow : OpenClaim := { program := "ytkgpdpengfdhbaa", sum := "3d50902e2fbca232c3510cc6c007f798ae558fba56bf7b3272d7bd655afc9e6e", func := "perilune/perilunelaw17.VectorMatrices", spec := "vectorMatrices", unfollowed := true, recurses := true, apart := false, narrowed := true }
def VectorMatricesUptoSaid : Prop := vectorMatricesUptoRow.holds Try.pinned (OpenSpec.upto vectorMatricesSpec)

/-- 'perilunelaw17.VectorUnits', WHERE WHAT IT READS IS OF BULK AT MOST 1048576: true; the input reads as it did. -/
def vectorUnitsUptoRow : OpenClaim := { program := "ytkgpdpengfdhbaa", sum := "3d50902e2fbca232c3510cc6c007f798ae558fba56bf7b3272d7bd655afc9e6e", func := "perilune/perilunelaw17.VectorUnits", spec := "vectorUnits", unfollowed := true, recurses := true, apart := false, narrowed := true }
def VectorUnitsUptoSaid : Prop := vectorUnitsUptoRow.holds Try.pinned (OpenSpec.upto vectorUnitsSpec)

/-- 'perilunelaw17.VectorTransposes', WHERE WHAT IT READS IS OF BULK AT MOST 1048576: true; the input reads as it did. -/
def vectorTransposesUptoRow : OpenClaim := { program := "ytkgpdpengfdhbaa", sum := "3d50902e2fbca232c3510cc6c007f798ae558fba56bf7b3272d7bd655afc9e6e", func := "perilune/perilunelaw17.VectorTransposes", spec := "vectorTransposes", unfollowed := true, recurses := true, apart := false, narrowed := true }
def VectorTransposesUptoSaid : Prop := vectorTransposesUptoRow.holds Try.pinned (OpenSpec.upto vectorTransposesSpec)

/-- 'perilunelaw17.VectorSums', WHERE WHAT IT READS IS OF BULK AT MOST 1048576: true; the input reads as it did. -/
def vectorSumsUptoRow : OpenClaim := { program := "ytkgpdpengfdhbaa", sum := "3d50902e2fbca232c3510cc6c007f798ae558fba56bf7b3272d7bd655afc9e6e", func := "perilune/perilunelaw17.VectorSums", spec := "vectorSums", unfollowed := true, recurses := true, apart := false, narrowed := true }
def VectorSumsUptoSaid : Prop := vectorSumsUptoRow.holds Try.pinned (OpenSpec.upto vectorSumsSpec)

end Rows
end Go.Proofs.Ytkgpdpengfdhbaa
