/-
  NARROWER THAN 'FOR EVERY INPUT', by the rows' own cells (each row's printed sentence says how): FixedProducts: laid · FixedNearest: laid · FixedQuotients: laid · FixedDivides: laid · FixedRoots: laid · FixedPoly: laid · FixedSines: laid · FixedTurns: laid · FixedCircle: laid · FixedKnown: laid.
  DERIVED. THE GIVEN ROWS OF THIS SEAT. 10 by the template 'for every input the law returns true; each argument reads behind the call as it read before'; 0 by the template 'total and deterministic' (their statements: YtccnflemopajcaaDoorTotals.lean).
  GIVEN WITH THE SEED: the statements are not yours to turn. If you find one false, say at which input.
  Laid BY PROGRAM, IN A SANDBOX (cutbox-rows.mjs): the forced cells as the released guide's own fill.sh prints them over the translation a386ba51b5682535… (all of the seat's roots in one cut). By AI agents, Wed Nov 11 2026. No macro, syntax, notation, axiom, sorry.
-/
import Derived.Test.YtccnflemopajcaaDoorChecked
import GoSem.Claim
import GoSem.ClaimJoined
import GoSem.ClaimMapViews
import Derived.JoinedTies
import Derived.KernelRfl
namespace Go.Proofs.YtccnflemopajcaaDoor
/- THE CELL 'sum', in the pinned program and in every row, IS THE sha256 OF THE DUMP (.gsa) THAT YtccnflemopajcaaDoorProg.lean LOADS. Nothing in Lean hashes anything: it is a label: what it is worth is what the hold of that sum in a sandbox is worth. -/
noncomputable def Tryd.pinned : Pinned := { name := "ytccnflemopajcaadoor", sum := "a386ba51b5682535f6301f63420e35635f6f92bb887206151af9a5dae91b5a40", checked := Tryd.checked }
namespace Rows
def none {H : Type} : Left H := { results := [], args := [] }

/- WHAT THE LISTED PACKAGE-LEVEL VARIABLES READ AS WHEN THE CALL BEGINS. Each datum BY PROGRAM (the guide's laid-datum.mjs) off the statement by which the dump's own 'gosem.cut.vars' lays the variable. In a bare row this is a premise. The card (YtccnflemopajcaaDoorCards.lean) ties it to the program's text. -/
def laid_perilune_fixed_sines {H : Type} : DataW H := .agg [.lit (.int .i64 8), .lit (.int .i64 (-483)), .lit (.int .i64 21534), .lit (.int .i64 (-628374)), .lit (.int .i64 10696163), .lit (.int .i64 (-86699834)), .lit (.int .i64 210828714)]

/-- 'perilunelaw16.FixedProducts': WHATEVER THE INPUT: true; the input reads as it did. -/
def fixedProductsSpec : ChangeSpec := { name := "fixedProducts", fn := fun _ => fun
  | [d1, d2] => { results := [.lit (.bool true)], args := [d1, d2] }
  | _ => none }
def fixedProductsRow : OpenClaim := { program := "ytccnflemopajcaadoor", sum := "a386ba51b5682535f6301f63420e35635f6f92bb887206151af9a5dae91b5a40", func := "perilune/perilunelaw16.FixedProducts", spec := "fixedProducts", unfollowed := true, recurses := true, named := ["perilune/fixed.sines"], apart := false, laid := [("perilune/fixed.sines", laid_perilune_fixed_sines)] }
def FixedProductsSaid : Prop := fixedProductsRow.holds Tryd.pinned (OpenSpec.ofChange fixedProductsSpec)

/-- ITS FALSE NEIGHBOUR: 'it returns false'. Refute it at one input. -/
def fixedProductsWrong : ChangeSpec := { name := "fixedProducts", fn := fun _ => fun
  | [d1, d2] => { results := [.lit (.bool false)], args := [d1, d2] }
  | _ => none }
def FixedProductsWrongFalsely : Prop := fixedProductsRow.holds Tryd.pinned (OpenSpec.ofChange fixedProductsWrong)

/-- 'perilunelaw16.FixedNearest': WHATEVER THE INPUT: true; the input reads as it did. -/
def fixedNearestSpec : ChangeSpec := { name := "fixedNearest", fn := fun _ => fun
  | [d1, d2] => { results := [.lit (.bool true)], args := [d1, d2] }
  | _ => none }
def fixedNearestRow : OpenClaim := { program := "ytccnflemopajcaadoor", sum := "a386ba51b5682535f6301f63420e35635f6f92bb887206151af9a5dae91b5a40", func := "perilune/perilunelaw16.FixedNearest", spec := "fixedNearest", unfollowed := true, recurses := true, named := ["perilune/fixed.sines"], apart := false, laid := [("perilune/fixed.sines", laid_perilune_fixed_sines)] }
def FixedNearestSaid : Prop := fixedNearestRow.holds Tryd.pinned (OpenSpec.ofChange fixedNearestSpec)

/-- ITS FALSE NEIGHBOUR: 'it returns false'. Refute it at one input. -/
def fixedNearestWrong : ChangeSpec := { name := "fixedNearest", fn := fun _ => fun
  | [d1, d2] => { results := [.lit (.bool false)], args := [d1, d2] }
  | _ => none }
def FixedNearestWrongFalsely : Prop := fixedNearestRow.holds Tryd.pinned (OpenSpec.ofChange fixedNearestWrong)

/-- 'perilunelaw16.FixedQuotients': WHATEVER THE INPUT: true; the input reads as it did. -/
def fixedQuotientsSpec : ChangeSpec := { name := "fixedQuotients", fn := fun _ => fun
  | [d1, d2] => { results := [.lit (.bool true)], args := [d1, d2] }
  | _ => none }
def fixedQuotientsRow : OpenClaim := { program := "ytccnflemopajcaadoor", sum := "a386ba51b5682535f6301f63420e35635f6f92bb887206151af9a5dae91b5a40", func := "perilune/perilunelaw16.FixedQuotients", spec := "fixedQuotients", unfollowed := true, recurses := true, named := ["perilune/fixed.sines"], apart := false, laid := [("perilune/fixed.sines", laid_perilune_fixed_sines)] }
def FixedQuotientsSaid : Prop := fixedQuotientsRow.holds Tryd.pinned (OpenSpec.ofChange fixedQuotientsSpec)

/-- ITS FALSE NEIGHBOUR: 'it returns false'. Refute it at one input. -/
def fixedQuotientsWrong : ChangeSpec := { name := "fixedQuotients", fn := fun _ => fun
  | [d1, d2] => { results := [.lit (.bool false)], args := [d1, d2] }
  | _ => none }
def FixedQuotientsWrongFalsely : Prop := fixedQuotientsRow.holds Tryd.pinned (OpenSpec.ofChange fixedQuotientsWrong)

/-- 'perilunelaw16.FixedDivides': WHATEVER THE INPUT: true; the input reads as it did. -/
def fixedDividesSpec : ChangeSpec := { name := "fixedDivides", fn := fun _ => fun
  | [d1, d2] => { results := [.lit (.bool true)], args := [d1, d2] }
  | _ => none }
def fixedDividesRow : OpenClaim := { program := "ytccnflemopajcaadoor", sum := "a386ba51b5682535f6301f63420e35635f6f92bb887206151af9a5dae91b5a40", func := "perilune/perilunelaw16.FixedDivides", spec := "fixedDivides", unfollowed := true, recurses := true, named := ["perilune/fixed.sines"], apart := false, laid := [("perilune/fixed.sines", laid_perilune_fixed_sines)] }
def FixedDividesSaid : Prop := fixedDividesRow.holds Tryd.pinned (OpenSpec.ofChange fixedDividesSpec)

/-- ITS FALSE NEIGHBOUR: 'it returns false'. Refute it at one input. -/
def fixedDividesWrong : ChangeSpec := { name := "fixedDivides", fn := fun _ => fun
  | [d1, d2] => { results := [.lit (.bool false)], args := [d1, d2] }
  | _ => none }
def FixedDividesWrongFalsely : Prop := fixedDividesRow.holds Tryd.pinned (OpenSpec.ofChange fixedDividesWrong)

/-- 'perilunelaw16.FixedRoots': WHATEVER THE INPUT: true; the input reads as it did. -/
def fixedRootsSpec : ChangeSpec := { name := "fixedRoots", fn := fun _ => fun
  | [d1, d2] => { results := [.lit (.bool true)], args := [d1, d2] }
  | _ => none }
def fixedRootsRow : OpenClaim := { program := "ytccnflemopajcaadoor", sum := "a386ba51b5682535f6301f63420e35635f6f92bb887206151af9a5dae91b5a40", func := "perilune/perilunelaw16.FixedRoots", spec := "fixedRoots", unfollowed := true, recurses := true, named := ["perilune/fixed.sines"], apart := false, laid := [("perilune/fixed.sines", laid_perilune_fixed_sines)] }
def FixedRootsSaid : Prop := fixedRootsRow.holds Tryd.pinned (OpenSpec.ofChange fixedRootsSpec)

/-- ITS FALSE NEIGHBOUR: 'it returns false'. Refute it at one input. -/
def fixedRootsWrong : ChangeSpec := { name := "fixedRoots", fn := fun _ => fun
  | [d1, d2] => { results := [.lit (.bool false)], args := [d1, d2] }
  | _ => none }
def FixedRootsWrongFalsely : Prop := fixedRootsRow.holds Tryd.pinned (OpenSpec.ofChange fixedRootsWrong)

/-- 'perilunelaw16.FixedPoly': WHATEVER THE INPUT: true; the input reads as it did. -/
def fixedPolySpec : ChangeSpec := { name := "fixedPoly", fn := fun _ => fun
  | [d1, d2] => { results := [.lit (.bool true)], args := [d1, d2] }
  | _ => none }
def fixedPolyRow : OpenClaim := { program := "ytccnflemopajcaadoor", sum := "a386ba51b5682535f6301f63420e35635f6f92bb887206151af9a5dae91b5a40", func := "perilune/perilunelaw16.FixedPoly", spec := "fixedPoly", unfollowed := true, recurses := true, named := ["perilune/fixed.sines"], apart := false, laid := [("perilune/fixed.sines", laid_perilune_fixed_sines)] }
def FixedPolySaid : Prop := fixedPolyRow.holds Tryd.pinned (OpenSpec.ofChange fixedPolySpec)

/-- ITS FALSE NEIGHBOUR: 'it returns false'. Refute it at one input. -/
def fixedPolyWrong : ChangeSpec := { name := "fixedPoly", fn := fun _ => fun
  | [d1, d2] => { results := [.lit (.bool false)], args := [d1, d2] }
  | _ => none }
def FixedPolyWrongFalsely : Prop := fixedPolyRow.holds Tryd.pinned (OpenSpec.ofChange fixedPolyWrong)

/-- 'perilunelaw16.FixedSines': WHATEVER THE INPUT: true; the input reads as it did. -/
def fixedSinesSpec : ChangeSpec := { name := "fixedSines", fn := fun _ => fun
  | [d] => { results := [.lit (.bool true)], args := [d] }
  | _ => none }
def fixedSinesRow : OpenClaim := { program := "ytccnflemopajcaadoor", sum := "a386ba51b5682535f6301f63420e35635f6f92bb887206151af9a5dae91b5a40", func := "perilune/perilunelaw16.FixedSines", spec := "fixedSines", unfollowed := true, recurses := true, named := ["perilune/fixed.sines"], apart := false, laid := [("perilune/fixed.sines", laid_perilune_fixed_sines)] }
def FixedSinesSaid : Prop := fixedSinesRow.holds Tryd.pinned (OpenSpec.ofChange fixedSinesSpec)

/-- ITS FALSE NEIGHBOUR: 'it returns false'. Refute it at one input. -/
def fixedSinesWrong : ChangeSpec := { name := "fixedSines", fn := fun _ => fun
  | [d] => { results := [.lit (.bool false)], args := [d] }
  | _ => none }
def FixedSinesWrongFalsely : Prop := fixedSinesRow.holds Tryd.pinned (OpenSpec.ofChange fixedSinesWrong)

/-- 'perilunelaw16.FixedTurns': WHATEVER THE INPUT: true; the input reads as it did. -/
def fixedTurnsSpec : ChangeSpec := { name := "fixedTurns", fn := fun _ => fun
  | [d] => { results := [.lit (.bool true)], args := [d] }
  | _ => none }
def fixedTurnsRow : OpenClaim := { program := "ytccnflemopajcaadoor", sum := "a386ba51b5682535f6301f63420e35635f6f92bb887206151af9a5dae91b5a40", func := "perilune/perilunelaw16.FixedTurns", spec := "fixedTurns", unfollowed := true, recurses := true, named := ["perilune/fixed.sines"], apart := false, laid := [("perilune/fixed.sines", laid_perilune_fixed_sines)] }
def FixedTurnsSaid : Prop := fixedTurnsRow.holds Tryd.pinned (OpenSpec.ofChange fixedTurnsSpec)

/-- ITS FALSE NEIGHBOUR: 'it returns false'. Refute it at one input. -/
def fixedTurnsWrong : ChangeSpec := { name := "fixedTurns", fn := fun _ => fun
  | [d] => { results := [.lit (.bool false)], args := [d] }
  | _ => none }
def FixedTurnsWrongFalsely : Prop := fixedTurnsRow.holds Tryd.pinned (OpenSpec.ofChange fixedTurnsWrong)

/-- 'perilunelaw16.FixedCircle': WHATEVER THE INPUT: true; the input reads as it did. -/
def fixedCircleSpec : ChangeSpec := { name := "fixedCircle", fn := fun _ => fun
  | [d1, d2] => { results := [.lit (.bool true)], args := [d1, d2] }
  | _ => none }
def fixedCircleRow : OpenClaim := { program := "ytccnflemopajcaadoor", sum := "a386ba51b5682535f6301f63420e35635f6f92bb887206151af9a5dae91b5a40", func := "perilune/perilunelaw16.FixedCircle", spec := "fixedCircle", unfollowed := true, recurses := true, named := ["perilune/fixed.sines"], apart := false, laid := [("perilune/fixed.sines", laid_perilune_fixed_sines)] }
def FixedCircleSaid : Prop := fixedCircleRow.holds Tryd.pinned (OpenSpec.ofChange fixedCircleSpec)

/-- ITS FALSE NEIGHBOUR: 'it returns false'. Refute it at one input. -/
def fixedCircleWrong : ChangeSpec := { name := "fixedCircle", fn := fun _ => fun
  | [d1, d2] => { results := [.lit (.bool false)], args := [d1, d2] }
  | _ => none }
def FixedCircleWrongFalsely : Prop := fixedCircleRow.holds Tryd.pinned (OpenSpec.ofChange fixedCircleWrong)

/-- 'perilunelaw16.FixedKnown': WHATEVER THE INPUT: true; the input reads as it did. -/
def fixedKnownSpec : ChangeSpec := { name := "fixedKnown", fn := fun _ => fun
  | [] => { results := [.lit (.bool true)], args := [] }
  | _ => none }
def fixedKnownRow : OpenClaim := { program := "ytccnflemopajcaadoor", sum := "a386ba51b5682535f6301f63420e35635f6f92bb887206151af9a5dae91b5a40", func := "perilune/perilunelaw16.FixedKnown", spec := "fixedKnown", unfollowed := true, recurses := true, named := ["perilune/fixed.sines"], apart := false, laid := [("perilune/fixed.sines", laid_perilune_fixed_sines)] }
def FixedKnownSaid : Prop := fixedKnownRow.holds Tryd.pinned (OpenSpec.ofChange fixedKnownSpec)

/-- ITS FALSE NEIGHBOUR: 'it returns false'. Refute it at one input. -/
def fixedKnownWrong : ChangeSpec := { name := "fixedKnown", fn := fun _ => fun
  | [] => { results := [.lit (.bool false)], args := [] }
  | _ => none }
def FixedKnownWrongFalsely : Prop := fixedKnownRow.holds Tryd.pinned (OpenSpec.ofChange fixedKnownWrong)

/- THE SECOND FORM. 'bulk': how many values and letters a reading holds, each counted each time it is reached (what is shared counts as often as it is met; a slice's spare places count too). A statement '..UptoSaid' is the law's where the arguments, and the package variables that the reading takes, are together of bulk at most 1048576: NARROWER than '..Said'. Prove '..Said' where nothing that the law and all that it calls make is longer than what came in: it says more and counts as full. Else prove '..UptoSaid'. A law counts once. -/
mutual
def uptoBulk {H : Type} : DataW H → Nat
  | .lit (.string bytes) => bytes.length + 1
  | .lit _ => 1
  | .nil => 1
  | .ptr d => uptoBulk d + 1
  | .slice elems spare => uptoBulkAll elems + uptoBulkAll spare + 1
  | .agg parts => uptoBulkAll parts + 1
  | .iface _ d => uptoBulk d + 1
  | .map entries => uptoBulkEntries entries + 1
  | .held _ => 1
def uptoBulkAll {H : Type} : List (DataW H) → Nat
  | [] => 0
  | d :: r => uptoBulk d + uptoBulkAll r
def uptoBulkEntries {H : Type} : List (Lit × DataW H) → Nat
  | [] => 0
  | x :: r => uptoBulkEntry x + uptoBulkEntries r
def uptoBulkEntry {H : Type} : Lit × DataW H → Nat
  | (.string bytes, d) => bytes.length + uptoBulk d + 1
  | (_, d) => uptoBulk d + 1
 end
def uptoSmall : (H : Type) → List (DataW H) → Bool := fun _ ds => decide (uptoBulkAll ds ≤ 1048576)
def OpenSpec.upto (s : _root_.Go.ChangeSpec) : _root_.Go.OpenSpec := { _root_.Go.OpenSpec.ofChange s with cond := some uptoSmall }

/-- 'perilunelaw16.FixedProducts', WHERE WHAT IT READS IS OF BULK AT MOST 1048576: true; the input reads as it did. -/
def fixedProductsUptoRow : OpenClaim := { program := "ytccnflemopajcaadoor", sum := "a386ba51b5682535f6301f63420e35635f6f92bb887206151af9a5dae91b5a40", func := "perilune/perilunelaw16.FixedProducts", spec := "fixedProducts", unfollowed := true, recurses := true, named := ["perilune/fixed.sines"], apart := false, laid := [("perilune/fixed.sines", laid_perilune_fixed_sines)], narrowed := true }
def FixedProductsUptoSaid : Prop := fixedProductsUptoRow.holds Tryd.pinned (OpenSpec.upto fixedProductsSpec)

/-- 'perilunelaw16.FixedNearest', WHERE WHAT IT READS IS OF BULK AT MOST 1048576: true; the input reads as it did. -/
def fixedNearestUptoRow : OpenClaim := { program := "ytccnflemopajcaadoor", sum := "a386ba51b5682535f6301f63420e35635f6f92bb887206151af9a5dae91b5a40", func := "perilune/perilunelaw16.FixedNearest", spec := "fixedNearest", unfollowed := true, recurses := true, named := ["perilune/fixed.sines"], apart := false, laid := [("perilune/fixed.sines", laid_perilune_fixed_sines)], narrowed := true }
def FixedNearestUptoSaid : Prop := fixedNearestUptoRow.holds Tryd.pinned (OpenSpec.upto fixedNearestSpec)

/-- 'perilunelaw16.FixedQuotients', WHERE WHAT IT READS IS OF BULK AT MOST 1048576: true; the input reads as it did. -/
def fixedQuotientsUptoRow : OpenClaim := { program := "ytccnflemopajcaadoor", sum := "a386ba51b5682535f6301f63420e35635f6f92bb887206151af9a5dae91b5a40", func := "perilune/perilunelaw16.FixedQuotients", spec := "fixedQuotients", unfollowed := true, recurses := true, named := ["perilune/fixed.sines"], apart := false, laid := [("perilune/fixed.sines", laid_perilune_fixed_sines)], narrowed := true }
def FixedQuotientsUptoSaid : Prop := fixedQuotientsUptoRow.holds Tryd.pinned (OpenSpec.upto fixedQuotientsSpec)

/-- 'perilunelaw16.FixedDivides', WHERE WHAT IT READS IS OF BULK AT MOST 1048576: true; the input reads as it did. -/
def fixedDividesUptoRow : OpenClaim := { program := "ytccnflemopajcaadoor", sum := "a386ba51b5682535f6301f63420e35635f6f92bb887206151af9a5dae91b5a40", func := "perilune/perilunelaw16.FixedDivides", spec := "fixedDivides", unfollowed := true, recurses := true, named := ["perilune/fixed.sines"], apart := false, laid := [("perilune/fixed.sines", laid_perilune_fixed_sines)], narrowed := true }
def FixedDividesUptoSaid : Prop := fixedDividesUptoRow.holds Tryd.pinned (OpenSpec.upto fixedDividesSpec)

/-- 'perilunelaw16.FixedRoots', WHERE WHAT IT READS IS OF BULK AT MOST 1048576: true; the input reads as it did. -/
def fixedRootsUptoRow : OpenClaim := { program := "ytccnflemopajcaadoor", sum := "a386ba51b5682535f6301f63420e35635f6f92bb887206151af9a5dae91b5a40", func := "perilune/perilunelaw16.FixedRoots", spec := "fixedRoots", unfollowed := true, recurses := true, named := ["perilune/fixed.sines"], apart := false, laid := [("perilune/fixed.sines", laid_perilune_fixed_sines)], narrowed := true }
def FixedRootsUptoSaid : Prop := fixedRootsUptoRow.holds Tryd.pinned (OpenSpec.upto fixedRootsSpec)

/-- 'perilunelaw16.FixedPoly', WHERE WHAT IT READS IS OF BULK AT MOST 1048576: true; the input reads as it did. -/
def fixedPolyUptoRow : OpenClaim := { program := "ytccnflemopajcaadoor", sum := "a386ba51b5682535f6301f63420e35635f6f92bb887206151af9a5dae91b5a40", func := "perilune/perilunelaw16.FixedPoly", spec := "fixedPoly", unfollowed := true, recurses := true, named := ["perilune/fixed.sines"], apart := false, laid := [("perilune/fixed.sines", laid_perilune_fixed_sines)], narrowed := true }
def FixedPolyUptoSaid : Prop := fixedPolyUptoRow.holds Tryd.pinned (OpenSpec.upto fixedPolySpec)

/-- 'perilunelaw16.FixedSines', WHERE WHAT IT READS IS OF BULK AT MOST 1048576: true; the input reads as it did. -/
def fixedSinesUptoRow : OpenClaim := { program := "ytccnflemopajcaadoor", sum := "a386ba51b5682535f6301f63420e35635f6f92bb887206151af9a5dae91b5a40", func := "perilune/perilunelaw16.FixedSines", spec := "fixedSines", unfollowed := true, recurses := true, named := ["perilune/fixed.sines"], apart := false, laid := [("perilune/fixed.sines", laid_perilune_fixed_sines)], narrowed := true }
def FixedSinesUptoSaid : Prop := fixedSinesUptoRow.holds Tryd.pinned (OpenSpec.upto fixedSinesSpec)

/-- 'perilunelaw16.FixedTurns', WHERE WHAT IT READS IS OF BULK AT MOST 1048576: true; the input reads as it did. -/
def fixedTurnsUptoRow : OpenClaim := { program := "ytccnflemopajcaadoor", sum := "a386ba51b5682535f6301f63420e35635f6f92bb887206151af9a5dae91b5a40", func := "perilune/perilunelaw16.FixedTurns", spec := "fixedTurns", unfollowed := true, recurses := true, named := ["perilune/fixed.sines"], apart := false, laid := [("perilune/fixed.sines", laid_perilune_fixed_sines)], narrowed := true }
def FixedTurnsUptoSaid : Prop := fixedTurnsUptoRow.holds Tryd.pinned (OpenSpec.upto fixedTurnsSpec)

/-- 'perilunelaw16.FixedCircle', WHERE WHAT IT READS IS OF BULK AT MOST 1048576: true; the input reads as it did. -/
def fixedCircleUptoRow : OpenClaim := { program := "ytccnflemopajcaadoor", sum := "a386ba51b5682535f6301f63420e35635f6f92bb887206151af9a5dae91b5a40", func := "perilune/perilunelaw16.FixedCircle", spec := "fixedCircle", unfollowed := true, recurses := true, named := ["perilune/fixed.sines"], apart := false, laid := [("perilune/fixed.sines", laid_perilune_fixed_sines)], narrowed := true }
def FixedCircleUptoSaid : Prop := fixedCircleUptoRow.holds Tryd.pinned (OpenSpec.upto fixedCircleSpec)

/-- 'perilunelaw16.FixedKnown', WHERE WHAT IT READS IS OF BULK AT MOST 1048576: true; the input reads as it did. -/
def fixedKnownUptoRow : OpenClaim := { program := "ytccnflemopajcaadoor", sum := "a386ba51b5682535f6301f63420e35635f6f92bb887206151af9a5dae91b5a40", func := "perilune/perilunelaw16.FixedKnown", spec := "fixedKnown", unfollowed := true, recurses := true, named := ["perilune/fixed.sines"], apart := false, laid := [("perilune/fixed.sines", laid_perilune_fixed_sines)], narrowed := true }
def FixedKnownUptoSaid : Prop := fixedKnownUptoRow.holds Tryd.pinned (OpenSpec.upto fixedKnownSpec)

end Rows
end Go.Proofs.YtccnflemopajcaaDoor
