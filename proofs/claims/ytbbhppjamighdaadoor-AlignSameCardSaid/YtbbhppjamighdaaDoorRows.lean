/-
  NARROWER THAN 'FOR EVERY INPUT', by the rows' own cells (each row's printed sentence says how): AlignAngles: laid · AlignKnown: laid · AlignTriads: laid · AlignFrames: laid · AlignOrients: laid · AlignTurns: laid · AlignSmall: laid · AlignSame: laid.
  DERIVED. THE GIVEN ROWS OF THIS SEAT. 8 by the template 'for every input the law returns true; each argument reads behind the call as it read before'; 0 by the template 'total and deterministic' (their statements: YtbbhppjamighdaaDoorTotals.lean).
  GIVEN WITH THE SEED: the statements are not yours to turn. If you find one false, say at which input.
  Laid BY PROGRAM, IN A SANDBOX (cutbox-rows.mjs): the forced cells as the released guide's own fill.sh prints them over the translation 04e5113b4da6e753… (all of the seat's roots in one cut). By AI agents, Wed Nov 11 2026. No macro, syntax, notation, axiom, sorry.
-/
import Derived.Test.YtbbhppjamighdaaDoorChecked
import GoSem.Claim
import GoSem.ClaimJoined
import GoSem.ClaimMapViews
import Derived.JoinedTies
import Derived.KernelRfl
namespace Go.Proofs.YtbbhppjamighdaaDoor
/- THE CELL 'sum', in the pinned program and in every row, IS THE sha256 OF THE DUMP (.gsa) THAT YtbbhppjamighdaaDoorProg.lean LOADS. Nothing in Lean hashes anything: it is a label: what it is worth is what the hold of that sum in a sandbox is worth. -/
noncomputable def Tryd.pinned : Pinned := { name := "ytbbhppjamighdaadoor", sum := "04e5113b4da6e753652450e183c91da662bc58c4ab4ba25d4e4920fb7527cf98", checked := Tryd.checked }
namespace Rows
def none {H : Type} : Left H := { results := [], args := [] }

/- WHAT THE LISTED PACKAGE-LEVEL VARIABLES READ AS WHEN THE CALL BEGINS. Each datum BY PROGRAM (the guide's laid-datum.mjs) off the statement by which the dump's own 'gosem.cut.vars' lays the variable. In a bare row this is a premise. The card (YtbbhppjamighdaaDoorCards.lean) ties it to the program's text. -/
def laid_perilune_fixed_sines {H : Type} : DataW H := .agg [.lit (.int .i64 8), .lit (.int .i64 (-483)), .lit (.int .i64 21534), .lit (.int .i64 (-628374)), .lit (.int .i64 10696163), .lit (.int .i64 (-86699834)), .lit (.int .i64 210828714)]

/-- 'perilunelaw34.AlignAngles': WHATEVER THE INPUT: true; the input reads as it did. -/
def alignAnglesSpec : ChangeSpec := { name := "alignAngles", fn := fun _ => fun
  | [d1, d2] => { results := [.lit (.bool true)], args := [d1, d2] }
  | _ => none }
def alignAnglesRow : OpenClaim := { program := "ytbbhppjamighdaadoor", sum := "04e5113b4da6e753652450e183c91da662bc58c4ab4ba25d4e4920fb7527cf98", func := "perilune/perilunelaw34.AlignAngles", spec := "alignAngles", unfollowed := true, recurses := true, named := ["perilune/fixed.sines"], apart := false, laid := [("perilune/fixed.sines", laid_perilune_fixed_sines)] }
def AlignAnglesSaid : Prop := alignAnglesRow.holds Tryd.pinned (OpenSpec.ofChange alignAnglesSpec)

/-- ITS FALSE NEIGHBOUR: 'it returns false'. Refute it at one input. -/
def alignAnglesWrong : ChangeSpec := { name := "alignAngles", fn := fun _ => fun
  | [d1, d2] => { results := [.lit (.bool false)], args := [d1, d2] }
  | _ => none }
def AlignAnglesWrongFalsely : Prop := alignAnglesRow.holds Tryd.pinned (OpenSpec.ofChange alignAnglesWrong)

/-- 'perilunelaw34.AlignKnown': WHATEVER THE INPUT: true; the input reads as it did. -/
def alignKnownSpec : ChangeSpec := { name := "alignKnown", fn := fun _ => fun
  | [] => { results := [.lit (.bool true)], args := [] }
  | _ => none }
def alignKnownRow : OpenClaim := { program := "ytbbhppjamighdaadoor", sum := "04e5113b4da6e753652450e183c91da662bc58c4ab4ba25d4e4920fb7527cf98", func := "perilune/perilunelaw34.AlignKnown", spec := "alignKnown", unfollowed := true, recurses := true, named := ["perilune/fixed.sines"], apart := false, laid := [("perilune/fixed.sines", laid_perilune_fixed_sines)] }
def AlignKnownSaid : Prop := alignKnownRow.holds Tryd.pinned (OpenSpec.ofChange alignKnownSpec)

/-- ITS FALSE NEIGHBOUR: 'it returns false'. Refute it at one input. -/
def alignKnownWrong : ChangeSpec := { name := "alignKnown", fn := fun _ => fun
  | [] => { results := [.lit (.bool false)], args := [] }
  | _ => none }
def AlignKnownWrongFalsely : Prop := alignKnownRow.holds Tryd.pinned (OpenSpec.ofChange alignKnownWrong)

/-- 'perilunelaw34.AlignTriads': WHATEVER THE INPUT: true; the input reads as it did. -/
def alignTriadsSpec : ChangeSpec := { name := "alignTriads", fn := fun _ => fun
  | [d1, d2] => { results := [.lit (.bool true)], args := [d1, d2] }
  | _ => none }
def alignTriadsRow : OpenClaim := { program := "ytbbhppjamighdaadoor", sum := "04e5113b4da6e753652450e183c91da662bc58c4ab4ba25d4e4920fb7527cf98", func := "perilune/perilunelaw34.AlignTriads", spec := "alignTriads", unfollowed := true, recurses := true, named := ["perilune/fixed.sines"], apart := false, laid := [("perilune/fixed.sines", laid_perilune_fixed_sines)] }
def AlignTriadsSaid : Prop := alignTriadsRow.holds Tryd.pinned (OpenSpec.ofChange alignTriadsSpec)

/-- ITS FALSE NEIGHBOUR: 'it returns false'. Refute it at one input. -/
def alignTriadsWrong : ChangeSpec := { name := "alignTriads", fn := fun _ => fun
  | [d1, d2] => { results := [.lit (.bool false)], args := [d1, d2] }
  | _ => none }
def AlignTriadsWrongFalsely : Prop := alignTriadsRow.holds Tryd.pinned (OpenSpec.ofChange alignTriadsWrong)

/-- 'perilunelaw34.AlignFrames': WHATEVER THE INPUT: true; the input reads as it did. -/
def alignFramesSpec : ChangeSpec := { name := "alignFrames", fn := fun _ => fun
  | [d1, d2] => { results := [.lit (.bool true)], args := [d1, d2] }
  | _ => none }
def alignFramesRow : OpenClaim := { program := "ytbbhppjamighdaadoor", sum := "04e5113b4da6e753652450e183c91da662bc58c4ab4ba25d4e4920fb7527cf98", func := "perilune/perilunelaw34.AlignFrames", spec := "alignFrames", unfollowed := true, recurses := true, named := ["perilune/fixed.sines"], apart := false, laid := [("perilune/fixed.sines", laid_perilune_fixed_sines)] }
def AlignFramesSaid : Prop := alignFramesRow.holds Tryd.pinned (OpenSpec.ofChange alignFramesSpec)

/-- ITS FALSE NEIGHBOUR: 'it returns false'. Refute it at one input. -/
def alignFramesWrong : ChangeSpec := { name := "alignFrames", fn := fun _ => fun
  | [d1, d2] => { results := [.lit (.bool false)], args := [d1, d2] }
  | _ => none }
def AlignFramesWrongFalsely : Prop := alignFramesRow.holds Tryd.pinned (OpenSpec.ofChange alignFramesWrong)

/-- 'perilunelaw34.AlignOrients': WHATEVER THE INPUT: true; the input reads as it did. -/
def alignOrientsSpec : ChangeSpec := { name := "alignOrients", fn := fun _ => fun
  | [d1, d2, d3, d4] => { results := [.lit (.bool true)], args := [d1, d2, d3, d4] }
  | _ => none }
def alignOrientsRow : OpenClaim := { program := "ytbbhppjamighdaadoor", sum := "04e5113b4da6e753652450e183c91da662bc58c4ab4ba25d4e4920fb7527cf98", func := "perilune/perilunelaw34.AlignOrients", spec := "alignOrients", unfollowed := true, recurses := true, named := ["perilune/fixed.sines"], apart := false, laid := [("perilune/fixed.sines", laid_perilune_fixed_sines)] }
def AlignOrientsSaid : Prop := alignOrientsRow.holds Tryd.pinned (OpenSpec.ofChange alignOrientsSpec)

/-- ITS FALSE NEIGHBOUR: 'it returns false'. Refute it at one input. -/
def alignOrientsWrong : ChangeSpec := { name := "alignOrients", fn := fun _ => fun
  | [d1, d2, d3, d4] => { results := [.lit (.bool false)], args := [d1, d2, d3, d4] }
  | _ => none }
def AlignOrientsWrongFalsely : Prop := alignOrientsRow.holds Tryd.pinned (OpenSpec.ofChange alignOrientsWrong)

/-- 'perilunelaw34.AlignTurns': WHATEVER THE INPUT: true; the input reads as it did. -/
def alignTurnsSpec : ChangeSpec := { name := "alignTurns", fn := fun _ => fun
  | [d1, d2, d3, d4] => { results := [.lit (.bool true)], args := [d1, d2, d3, d4] }
  | _ => none }
def alignTurnsRow : OpenClaim := { program := "ytbbhppjamighdaadoor", sum := "04e5113b4da6e753652450e183c91da662bc58c4ab4ba25d4e4920fb7527cf98", func := "perilune/perilunelaw34.AlignTurns", spec := "alignTurns", unfollowed := true, recurses := true, named := ["perilune/fixed.sines"], apart := false, laid := [("perilune/fixed.sines", laid_perilune_fixed_sines)] }
def AlignTurnsSaid : Prop := alignTurnsRow.holds Tryd.pinned (OpenSpec.ofChange alignTurnsSpec)

/-- ITS FALSE NEIGHBOUR: 'it returns false'. Refute it at one input. -/
def alignTurnsWrong : ChangeSpec := { name := "alignTurns", fn := fun _ => fun
  | [d1, d2, d3, d4] => { results := [.lit (.bool false)], args := [d1, d2, d3, d4] }
  | _ => none }
def AlignTurnsWrongFalsely : Prop := alignTurnsRow.holds Tryd.pinned (OpenSpec.ofChange alignTurnsWrong)

/-- 'perilunelaw34.AlignSmall': WHATEVER THE INPUT: true; the input reads as it did. -/
def alignSmallSpec : ChangeSpec := { name := "alignSmall", fn := fun _ => fun
  | [d1, d2] => { results := [.lit (.bool true)], args := [d1, d2] }
  | _ => none }
def alignSmallRow : OpenClaim := { program := "ytbbhppjamighdaadoor", sum := "04e5113b4da6e753652450e183c91da662bc58c4ab4ba25d4e4920fb7527cf98", func := "perilune/perilunelaw34.AlignSmall", spec := "alignSmall", unfollowed := true, recurses := true, named := ["perilune/fixed.sines"], apart := false, laid := [("perilune/fixed.sines", laid_perilune_fixed_sines)] }
def AlignSmallSaid : Prop := alignSmallRow.holds Tryd.pinned (OpenSpec.ofChange alignSmallSpec)

/-- ITS FALSE NEIGHBOUR: 'it returns false'. Refute it at one input. -/
def alignSmallWrong : ChangeSpec := { name := "alignSmall", fn := fun _ => fun
  | [d1, d2] => { results := [.lit (.bool false)], args := [d1, d2] }
  | _ => none }
def AlignSmallWrongFalsely : Prop := alignSmallRow.holds Tryd.pinned (OpenSpec.ofChange alignSmallWrong)

/-- 'perilunelaw34.AlignSame': WHATEVER THE INPUT: true; the input reads as it did. -/
def alignSameSpec : ChangeSpec := { name := "alignSame", fn := fun _ => fun
  | [d1, d2] => { results := [.lit (.bool true)], args := [d1, d2] }
  | _ => none }
def alignSameRow : OpenClaim := { program := "ytbbhppjamighdaadoor", sum := "04e5113b4da6e753652450e183c91da662bc58c4ab4ba25d4e4920fb7527cf98", func := "perilune/perilunelaw34.AlignSame", spec := "alignSame", unfollowed := true, recurses := true, named := ["perilune/fixed.sines"], apart := false, laid := [("perilune/fixed.sines", laid_perilune_fixed_sines)] }
def AlignSameSaid : Prop := alignSameRow.holds Tryd.pinned (OpenSpec.ofChange alignSameSpec)

/-- ITS FALSE NEIGHBOUR: 'it returns false'. Refute it at one input. -/
def alignSameWrong : ChangeSpec := { name := "alignSame", fn := fun _ => fun
  | [d1, d2] => { results := [.lit (.bool false)], args := [d1, d2] }
  | _ => none }
def AlignSameWrongFalsely : Prop := alignSameRow.holds Tryd.pinned (OpenSpec.ofChange alignSameWrong)

/- THE SECOND FORM. 'bulk': how many values and letters a reading holds, each counted each time it is reached (what is shared counts as often as it is met; a slice's spare places count too). A statement '..UptoSaid' is the law's where the arguments, and the package variables that the reading takes, are together of bulk at most 1048576: NARROWER than '..Said'. Prove '..Said' where nothing that the law and all that it calls make is longer than what came in: it says more and counts as full. Else prove '..UptoSaid'. A law counts once. -/
mutual
def uptoBulk {H : Type} : DataW H → Nat
  | .lit (.string bytes) => bytes.length + 1
  | .lit _ => 1
  | .nil => 1
  | .ptr d => uptoBulk d + 1
  | .slice elems spare => uptoBulkAll elems + uptoBulkAll spare + 1
  | .agg parts => uptoBulkAll parts + 1
  | .iface _ d => uptoBulk d + 1
  | .map entries => uptoBulkEntries entries + 1
  | .held _ => 1
def uptoBulkAll {H : Type} : List (DataW H) → Nat
  | [] => 0
  | d :: r => uptoBulk d + uptoBulkAll r
def uptoBulkEntries {H : Type} : List (Lit × DataW H) → Nat
  | [] => 0
  | x :: r => uptoBulkEntry x + uptoBulkEntries r
def uptoBulkEntry {H : Type} : Lit × DataW H → Nat
  | (.string bytes, d) => bytes.length + uptoBulk d + 1
  | (_, d) => uptoBulk d + 1
 end
def uptoSmall : (H : Type) → List (DataW H) → Bool := fun _ ds => decide (uptoBulkAll ds ≤ 1048576)
def OpenSpec.upto (s : _root_.Go.ChangeSpec) : _root_.Go.OpenSpec := { _root_.Go.OpenSpec.ofChange s with cond := some uptoSmall }

/-- 'perilunelaw34.AlignAngles', WHERE WHAT IT READS IS OF BULK AT MOST 1048576: true; the input reads as it did. -/
def alignAnglesUptoRow : OpenClaim := { program := "ytbbhppjamighdaadoor", sum := "04e5113b4da6e753652450e183c91da662bc58c4ab4ba25d4e4920fb7527cf98", func := "perilune/perilunelaw34.AlignAngles", spec := "alignAngles", unfollowed := true, recurses := true, named := ["perilune/fixed.sines"], apart := false, laid := [("perilune/fixed.sines", laid_perilune_fixed_sines)], narrowed := true }
def AlignAnglesUptoSaid : Prop := alignAnglesUptoRow.holds Tryd.pinned (OpenSpec.upto alignAnglesSpec)

/-- 'perilunelaw34.AlignKnown', WHERE WHAT IT READS IS OF BULK AT MOST 1048576: true; the input reads as it did. -/
def alignKnownUptoRow : OpenClaim := { program := "ytbbhppjamighdaadoor", sum := "04e5113b4da6e753652450e183c91da662bc58c4ab4ba25d4e4920fb7527cf98", func := "perilune/perilunelaw34.AlignKnown", spec := "alignKnown", unfollowed := true, recurses := true, named := ["perilune/fixed.sines"], apart := false, laid := [("perilune/fixed.sines", laid_perilune_fixed_sines)], narrowed := true }
def AlignKnownUptoSaid : Prop := alignKnownUptoRow.holds Tryd.pinned (OpenSpec.upto alignKnownSpec)

/-- 'perilunelaw34.AlignTriads', WHERE WHAT IT READS IS OF BULK AT MOST 1048576: true; the input reads as it did. -/
def alignTriadsUptoRow : OpenClaim := { program := "ytbbhppjamighdaadoor", sum := "04e5113b4da6e753652450e183c91da662bc58c4ab4ba25d4e4920fb7527cf98", func := "perilune/perilunelaw34.AlignTriads", spec := "alignTriads", unfollowed := true, recurses := true, named := ["perilune/fixed.sines"], apart := false, laid := [("perilune/fixed.sines", laid_perilune_fixed_sines)], narrowed := true }
def AlignTriadsUptoSaid : Prop := alignTriadsUptoRow.holds Tryd.pinned (OpenSpec.upto alignTriadsSpec)

/-- 'perilunelaw34.AlignFrames', WHERE WHAT IT READS IS OF BULK AT MOST 1048576: true; the input reads as it did. -/
def alignFramesUptoRow : OpenClaim := { program := "ytbbhppjamighdaadoor", sum := "04e5113b4da6e753652450e183c91da662bc58c4ab4ba25d4e4920fb7527cf98", func := "perilune/perilunelaw34.AlignFrames", spec := "alignFrames", unfollowed := true, recurses := true, named := ["perilune/fixed.sines"], apart := false, laid := [("perilune/fixed.sines", laid_perilune_fixed_sines)], narrowed := true }
def AlignFramesUptoSaid : Prop := alignFramesUptoRow.holds Tryd.pinned (OpenSpec.upto alignFramesSpec)

/-- 'perilunelaw34.AlignOrients', WHERE WHAT IT READS IS OF BULK AT MOST 1048576: true; the input reads as it did. -/
def alignOrientsUptoRow : OpenClaim := { program := "ytbbhppjamighdaadoor", sum := "04e5113b4da6e753652450e183c91da662bc58c4ab4ba25d4e4920fb7527cf98", func := "perilune/perilunelaw34.AlignOrients", spec := "alignOrients", unfollowed := true, recurses := true, named := ["perilune/fixed.sines"], apart := false, laid := [("perilune/fixed.sines", laid_perilune_fixed_sines)], narrowed := true }
def AlignOrientsUptoSaid : Prop := alignOrientsUptoRow.holds Tryd.pinned (OpenSpec.upto alignOrientsSpec)

/-- 'perilunelaw34.AlignTurns', WHERE WHAT IT READS IS OF BULK AT MOST 1048576: true; the input reads as it did. -/
def alignTurnsUptoRow : OpenClaim := { program := "ytbbhppjamighdaadoor", sum := "04e5113b4da6e753652450e183c91da662bc58c4ab4ba25d4e4920fb7527cf98", func := "perilune/perilunelaw34.AlignTurns", spec := "alignTurns", unfollowed := true, recurses := true, named := ["perilune/fixed.sines"], apart := false, laid := [("perilune/fixed.sines", laid_perilune_fixed_sines)], narrowed := true }
def AlignTurnsUptoSaid : Prop := alignTurnsUptoRow.holds Tryd.pinned (OpenSpec.upto alignTurnsSpec)

/-- 'perilunelaw34.AlignSmall', WHERE WHAT IT READS IS OF BULK AT MOST 1048576: true; the input reads as it did. -/
def alignSmallUptoRow : OpenClaim := { program := "ytbbhppjamighdaadoor", sum := "04e5113b4da6e753652450e183c91da662bc58c4ab4ba25d4e4920fb7527cf98", func := "perilune/perilunelaw34.AlignSmall", spec := "alignSmall", unfollowed := true, recurses := true, named := ["perilune/fixed.sines"], apart := false, laid := [("perilune/fixed.sines", laid_perilune_fixed_sines)], narrowed := true }
def AlignSmallUptoSaid : Prop := alignSmallUptoRow.holds Tryd.pinned (OpenSpec.upto alignSmallSpec)

/-- 'perilunelaw34.AlignSame', WHERE WHAT IT READS IS OF BULK AT MOST 1048576: true; the input reads as it did. -/
def alignSameUptoRow : OpenClaim := { program := "ytbbhppjamighdaadoor", sum := "04e5113b4da6e753652450e183c91da662bc58c4ab4ba25d4e4920fb7527cf98", func := "perilune/perilunelaw34.AlignSame", spec := "alignSame", unfollowed := true, recurses := true, named := ["perilune/fixed.sines"], apart := false, laid := [("perilune/fixed.sines", laid_perilune_fixed_sines)], narrowed := true }
def AlignSameUptoSaid : Prop := alignSameUptoRow.holds Tryd.pinned (OpenSpec.upto alignSameSpec)

end Rows
end Go.Proofs.YtbbhppjamighdaaDoor
