/-
  No cell of these rows narrows 'for every input' (looked for: loops, veiled, ifaces, maps, wideKeys, modest, calm, conditions, laid).
  DERIVED. THE GIVEN ROWS OF THIS SEAT. 7 by the template 'for every input the law returns true; each argument reads behind the call as it read before'; 0 by the template 'total and deterministic' (their statements: YtpmocegfiniafaaTotals.lean).
  GIVEN WITH THE SEED: the statements are not yours to turn. If you find one false, say at which input.
  Laid BY PROGRAM, IN A SANDBOX (cutbox-rows.mjs): the forced cells as the released guide's own fill.sh prints them over the translation 48c1154eaaaf31d5… (all of the seat's roots in one cut). By AI agents, Wed Nov 11 2026. No macro, syntax, notation, axiom, sorry.
-/
import Derived.Test.YtpmocegfiniafaaChecked
import GoSem.Claim
import GoSem.ClaimJoined
import GoSem.ClaimMapViews
import Derived.JoinedTies
import Derived.KernelRfl
namespace Go.Proofs.Ytpmocegfiniafaa
/- THE CELL 'sum', in the pinned program and in every row, IS THE sha256 OF THE DUMP (.gsa) THAT YtpmocegfiniafaaProg.lean LOADS. Nothing in Lean hashes anything: it is a label: what it is worth is what the hold of that sum in a sandbox is worth. -/
noncomputable def Try.pinned : Pinned := { name := "ytpmocegfiniafaa", sum := "48c1154eaaaf31d500f5aee4d343011ce9975879c1bc7bef4a4561b4320807ad", checked := Try.checked }
namespace Rows
def none {H : Type} : Left H := { results := [], args := [] }

/-- 'perilunelaw35.DescentCommands': WHATEVER THE INPUT: true; the input reads as it did. -/
def descentCommandsSpec : ChangeSpec := { name := "descentCommands", fn := fun _ => fun
  | [d1, d2] => { results := [.lit (.bool true)], args := [d1, d2] }
  | _ => none }
def descentCommandsRow : OpenClaim := { program := "ytpmocegfiniafaa", sum := "48c1154eaaaf31d500f5aee4d343011ce9975879c1bc7bef4a4561b4320807ad", func := "perilune/perilunelaw35.DescentCommands", spec := "descentCommands", unfollowed := true, recurses := true, apart := false }
def DescentCommandsSaid : Prop := descentCommandsRow.holds Try.pinned (OpenSpec.ofChange descentCommandsSpec)

/-- ITS FALSE NEIGHBOUR: 'it returns false'. Refute it at one input. -/
def descentCommandsWrong : ChangeSpec := { name := "descentCommands", fn := fun _ => fun
  | [d1, d2] => { results := [.lit (.bool false)], args := [d1, d2] }
  | _ => none }
def DescentCommandsWrongFalsely : Prop := descentCommandsRow.holds Try.pinned (OpenSpec.ofChange descentCommandsWrong)

/-- 'perilunelaw35.DescentConstant': WHATEVER THE INPUT: true; the input reads as it did. -/
def descentConstantSpec : ChangeSpec := { name := "descentConstant", fn := fun _ => fun
  | [d1, d2, d3] => { results := [.lit (.bool true)], args := [d1, d2, d3] }
  | _ => none }
def descentConstantRow : OpenClaim := { program := "ytpmocegfiniafaa", sum := "48c1154eaaaf31d500f5aee4d343011ce9975879c1bc7bef4a4561b4320807ad", func := "perilune/perilunelaw35.DescentConstant", spec := "descentConstant", unfollowed := true, recurses := true, apart := false }
def DescentConstantSaid : Prop := descentConstantRow.holds Try.pinned (OpenSpec.ofChange descentConstantSpec)

/-- ITS FALSE NEIGHBOUR: 'it returns false'. Refute it at one input. -/
def descentConstantWrong : ChangeSpec := { name := "descentConstant", fn := fun _ => fun
  | [d1, d2, d3] => { results := [.lit (.bool false)], args := [d1, d2, d3] }
  | _ => none }
def DescentConstantWrongFalsely : Prop := descentConstantRow.holds Try.pinned (OpenSpec.ofChange descentConstantWrong)

/-- 'perilunelaw35.DescentThrusts': WHATEVER THE INPUT: true; the input reads as it did. -/
def descentThrustsSpec : ChangeSpec := { name := "descentThrusts", fn := fun _ => fun
  | [d1, d2] => { results := [.lit (.bool true)], args := [d1, d2] }
  | _ => none }
def descentThrustsRow : OpenClaim := { program := "ytpmocegfiniafaa", sum := "48c1154eaaaf31d500f5aee4d343011ce9975879c1bc7bef4a4561b4320807ad", func := "perilune/perilunelaw35.DescentThrusts", spec := "descentThrusts", unfollowed := true, recurses := true, apart := false }
def DescentThrustsSaid : Prop := descentThrustsRow.holds Try.pinned (OpenSpec.ofChange descentThrustsSpec)

/-- ITS FALSE NEIGHBOUR: 'it returns false'. Refute it at one input. -/
def descentThrustsWrong : ChangeSpec := { name := "descentThrusts", fn := fun _ => fun
  | [d1, d2] => { results := [.lit (.bool false)], args := [d1, d2] }
  | _ => none }
def DescentThrustsWrongFalsely : Prop := descentThrustsRow.holds Try.pinned (OpenSpec.ofChange descentThrustsWrong)

/-- 'perilunelaw35.DescentThrottles': WHATEVER THE INPUT: true; the input reads as it did. -/
def descentThrottlesSpec : ChangeSpec := { name := "descentThrottles", fn := fun _ => fun
  | [d1, d2, d3] => { results := [.lit (.bool true)], args := [d1, d2, d3] }
  | _ => none }
def descentThrottlesRow : OpenClaim := { program := "ytpmocegfiniafaa", sum := "48c1154eaaaf31d500f5aee4d343011ce9975879c1bc7bef4a4561b4320807ad", func := "perilune/perilunelaw35.DescentThrottles", spec := "descentThrottles", unfollowed := true, recurses := true, apart := false }
def DescentThrottlesSaid : Prop := descentThrottlesRow.holds Try.pinned (OpenSpec.ofChange descentThrottlesSpec)

/-- ITS FALSE NEIGHBOUR: 'it returns false'. Refute it at one input. -/
def descentThrottlesWrong : ChangeSpec := { name := "descentThrottles", fn := fun _ => fun
  | [d1, d2, d3] => { results := [.lit (.bool false)], args := [d1, d2, d3] }
  | _ => none }
def DescentThrottlesWrongFalsely : Prop := descentThrottlesRow.holds Try.pinned (OpenSpec.ofChange descentThrottlesWrong)

/-- 'perilunelaw35.DescentPhases': WHATEVER THE INPUT: true; the input reads as it did. -/
def descentPhasesSpec : ChangeSpec := { name := "descentPhases", fn := fun _ => fun
  | [d1, d2, d3, d4] => { results := [.lit (.bool true)], args := [d1, d2, d3, d4] }
  | _ => none }
def descentPhasesRow : OpenClaim := { program := "ytpmocegfiniafaa", sum := "48c1154eaaaf31d500f5aee4d343011ce9975879c1bc7bef4a4561b4320807ad", func := "perilune/perilunelaw35.DescentPhases", spec := "descentPhases", unfollowed := true, recurses := true, apart := false }
def DescentPhasesSaid : Prop := descentPhasesRow.holds Try.pinned (OpenSpec.ofChange descentPhasesSpec)

/-- ITS FALSE NEIGHBOUR: 'it returns false'. Refute it at one input. -/
def descentPhasesWrong : ChangeSpec := { name := "descentPhases", fn := fun _ => fun
  | [d1, d2, d3, d4] => { results := [.lit (.bool false)], args := [d1, d2, d3, d4] }
  | _ => none }
def DescentPhasesWrongFalsely : Prop := descentPhasesRow.holds Try.pinned (OpenSpec.ofChange descentPhasesWrong)

/-- 'perilunelaw35.DescentKnown': WHATEVER THE INPUT: true; the input reads as it did. -/
def descentKnownSpec : ChangeSpec := { name := "descentKnown", fn := fun _ => fun
  | [] => { results := [.lit (.bool true)], args := [] }
  | _ => none }
def descentKnownRow : OpenClaim := { program := "ytpmocegfiniafaa", sum := "48c1154eaaaf31d500f5aee4d343011ce9975879c1bc7bef4a4561b4320807ad", func := "perilune/perilunelaw35.DescentKnown", spec := "descentKnown", unfollowed := true, recurses := true, apart := false }
def DescentKnownSaid : Prop := descentKnownRow.holds Try.pinned (OpenSpec.ofChange descentKnownSpec)

/-- ITS FALSE NEIGHBOUR: 'it returns false'. Refute it at one input. -/
def descentKnownWrong : ChangeSpec := { name := "descentKnown", fn := fun _ => fun
  | [] => { results := [.lit (.bool false)], args := [] }
  | _ => none }
def DescentKnownWrongFalsely : Prop := descentKnownRow.holds Try.pinned (OpenSpec.ofChange descentKnownWrong)

/-- 'perilunelaw35.DescentTurned': WHATEVER THE INPUT: true; the input reads as it did. -/
def descentTurnedSpec : ChangeSpec := { name := "descentTurned", fn := fun _ => fun
  | [d1, d2] => { results := [.lit (.bool true)], args := [d1, d2] }
  | _ => none }
def descentTurnedRow : OpenClaim := { program := "ytpmocegfiniafaa", sum := "48c1154eaaaf31d500f5aee4d343011ce9975879c1bc7bef4a4561b4320807ad", func := "perilune/perilunelaw35.DescentTurned", spec := "descentTurned", unfollowed := true, recurses := true, apart := false }
def DescentTurnedSaid : Prop := descentTurnedRow.holds Try.pinned (OpenSpec.ofChange descentTurnedSpec)

/-- ITS FALSE NEIGHBOUR: 'it returns false'. Refute it at one input. -/
def descentTurnedWrong : ChangeSpec := { name := "descentTurned", fn := fun _ => fun
  | [d1, d2] => { results := [.lit (.bool false)], args := [d1, d2] }
  | _ => none }
def DescentTurnedWrongFalsely : Prop := descentTurnedRow.holds Try.pinned (OpenSpec.ofChange descentTurnedWrong)

/- THE SECOND FORM. 'bulk': how many values and letters a reading holds, each counted each time it is reached (what is shared counts as often as it is met; a slice's spare places count too). A statement '..UptoSaid' is the law's where the arguments, and the package variables that the reading takes, are together of bulk at most 1048576: NARROWER than '..Said'. Prove '..Said' where nothing that the law and all that it calls make is longer than what came in: it says more and counts as full. Else prove '..UptoSaid'. A law counts once. -/
mutual
def uptoBulk {H : Type} : DataW H → Nat
  | .lit (.string bytes) => bytes.length + 1
  | .lit _ => 1
  | .nil => 1
  | .ptr d => uptoBulk d + 1
  | .slice elems spare => uptoBulkAll elems + uptoBulkAll spare + 1
  | .agg parts => uptoBulkAll parts + 1
  | .iface _ d => uptoBulk d + 1
  | .map entries => uptoBulkEntries entries + 1
  | .held _ => 1
def uptoBulkAll {H : Type} : List (DataW H) → Nat
  | [] => 0
  | d :: r => uptoBulk d + uptoBulkAll r
def uptoBulkEntries {H : Type} : List (Lit × DataW H) → Nat
  | [] => 0
  | x :: r => uptoBulkEntry x + uptoBulkEntries r
def uptoBulkEntry {H : Type} : Lit × DataW H → Nat
  | (.string bytes, d) => bytes.length + uptoBulk d + 1
  | (_, d) => uptoBulk d + 1
 end
def uptoSmall : (H : Type) → List (DataW H) → Bool := fun _ ds => decide (uptoBulkAll ds ≤ 1048576)
def OpenSpec.upto (s : _root_.Go.ChangeSpec) : _root_.Go.OpenSpec := { _root_.Go.OpenSpec.ofChange s with cond := some uptoSmall }

/-- 'perilunelaw35.DescentCommands', WHERE WHAT IT READS IS OF BULK AT MOST 1048576: true; the input reads as it did. -/
def descentCommandsUptoRow : OpenClaim := { program := "ytpmocegfiniafaa", sum := "48c1154eaaaf31d500f5aee4d343011ce9975879c1bc7bef4a4561b4320807ad", func := "perilune/perilunelaw35.DescentCommands", spec := "descentCommands", unfollowed := true, recurses := true, apart := false, narrowed := true }
def DescentCommandsUptoSaid : Prop := descentCommandsUptoRow.holds Try.pinned (OpenSpec.upto descentCommandsSpec)

/-- 'perilunelaw35.DescentConstant', WHERE WHAT IT READS IS OF BULK AT MOST 1048576: true; the input reads as it did. -/
def descentConstantUptoRow : OpenClaim := { program := "ytpmocegfiniafaa", sum := "48c1154eaaaf31d500f5aee4d343011ce9975879c1bc7bef4a4561b4320807ad", func := "perilune/perilunelaw35.DescentConstant", spec := "descentConstant", unfollowed := true, recurses := true, apart := false, narrowed := true }
def DescentConstantUptoSaid : Prop := descentConstantUptoRow.holds Try.pinned (OpenSpec.upto descentConstantSpec)

/-- 'perilunelaw35.DescentThrusts', WHERE WHAT IT READS IS OF BULK AT MOST 1048576: true; the input reads as it did. -/
def descentThrustsUptoRow : OpenClaim := { program := "ytpmocegfiniafaa", sum := "48c1154eaaaf31d500f5aee4d343011ce9975879c1bc7bef4a4561b4320807ad", func := "perilune/perilunelaw35.DescentThrusts", spec := "descentThrusts", unfollowed := true, recurses := true, apart := false, narrowed := true }
def DescentThrustsUptoSaid : Prop := descentThrustsUptoRow.holds Try.pinned (OpenSpec.upto descentThrustsSpec)

/-- 'perilunelaw35.DescentThrottles', WHERE WHAT IT READS IS OF BULK AT MOST 1048576: true; the input reads as it did. -/
def descentThrottlesUptoRow : OpenClaim := { program := "ytpmocegfiniafaa", sum := "48c1154eaaaf31d500f5aee4d343011ce9975879c1bc7bef4a4561b4320807ad", func := "perilune/perilunelaw35.DescentThrottles", spec := "descentThrottles", unfollowed := true, recurses := true, apart := false, narrowed := true }
def DescentThrottlesUptoSaid : Prop := descentThrottlesUptoRow.holds Try.pinned (OpenSpec.upto descentThrottlesSpec)

/-- 'perilunelaw35.DescentPhases', WHERE WHAT IT READS IS OF BULK AT MOST 1048576: true; the input reads as it did. -/
def descentPhasesUptoRow : OpenClaim := { program := "ytpmocegfiniafaa", sum := "48c1154eaaaf31d500f5aee4d343011ce9975879c1bc7bef4a4561b4320807ad", func := "perilune/perilunelaw35.DescentPhases", spec := "descentPhases", unfollowed := true, recurses := true, apart := false, narrowed := true }
def DescentPhasesUptoSaid : Prop := descentPhasesUptoRow.holds Try.pinned (OpenSpec.upto descentPhasesSpec)

/-- 'perilunelaw35.DescentKnown', WHERE WHAT IT READS IS OF BULK AT MOST 1048576: true; the input reads as it did. -/
def descentKnownUptoRow : OpenClaim := { program := "ytpmocegfiniafaa", sum := "48c1154eaaaf31d500f5aee4d343011ce9975879c1bc7bef4a4561b4320807ad", func := "perilune/perilunelaw35.DescentKnown", spec := "descentKnown", unfollowed := true, recurses := true, apart := false, narrowed := true }
def DescentKnownUptoSaid : Prop := descentKnownUptoRow.holds Try.pinned (OpenSpec.upto descentKnownSpec)

/-- 'perilunelaw35.DescentTurned', WHERE WHAT IT READS IS OF BULK AT MOST 1048576: true; the input reads as it did. -/
def descentTurnedUptoRow : OpenClaim := { program := "ytpmocegfiniafaa", sum := "48c1154eaaaf31d500f5aee4d343011ce9975879c1bc7bef4a4561b4320807ad", func := "perilune/perilunelaw35.DescentTurned", spec := "descentTurned", unfollowed := true, recurses := true, apart := false, narrowed := true }
def DescentTurnedUptoSaid : Prop := descentTurnedUptoRow.holds Try.pinned (OpenSpec.upto descentTurnedSpec)

end Rows
end Go.Proofs.Ytpmocegfiniafaa
