/-
  No cell of these rows narrows 'for every input' (looked for: loops, veiled, ifaces, maps, wideKeys, modest, calm, conditions, laid).
  DERIVED. THE GIVEN ROWS OF THIS SEAT. 8 by the template 'for every input the law returns true; each argument reads behind the call as it read before'; 0 by the template 'total and deterministic' (their statements: YtojbdalhngcddaaTotals.lean).
  GIVEN WITH THE SEED: the statements are not yours to turn. If you find one false, say at which input.
  Laid BY PROGRAM, IN A SANDBOX (cutbox-rows.mjs): the forced cells as the released guide's own fill.sh prints them over the translation 8509e3ff4727f775… (all of the seat's roots in one cut). By AI agents, Wed Nov 11 2026. No macro, syntax, notation, axiom, sorry.
-/
import Derived.Test.YtojbdalhngcddaaChecked
import GoSem.Claim
import GoSem.ClaimJoined
import GoSem.ClaimMapViews
import Derived.JoinedTies
import Derived.KernelRfl
namespace Go.Proofs.Ytojbdalhngcddaa
/- THE CELL 'sum', in the pinned program and in every row, IS THE sha256 OF THE DUMP (.gsa) THAT YtojbdalhngcddaaProg.lean LOADS. Nothing in Lean hashes anything: it is a label: what it is worth is what the hold of that sum in a sandbox is worth. -/
noncomputable def Try.pinned : Pinned := { name := "ytojbdalhngcddaa", sum := "8509e3ff4727f775a844f956f5f6a7317ddd3f2656dff2014c09fc244d176b5c", checked := Try.checked }
namespace Rows
def none {H : Type} : Left H := { results := [], args := [] }

/-- 'perilunelaw15.DoubleShifts': WHATEVER THE INPUT: true; the input reads as it did. -/
def doubleShiftsSpec : ChangeSpec := { name := "doubleShifts", fn := fun _ => fun
  | [d1, d2] => { results := [.lit (.bool true)], args := [d1, d2] }
  | _ => none }
def doubleShiftsRow : OpenClaim := { program := "ytojbdalhngcddaa", sum := "8509e3ff4727f775a844f956f5f6a7317ddd3f2656dff2014c09fc244d176b5c", func := "perilune/perilunelaw15.DoubleShifts", spec := "doubleShifts", unfollowed := true, recurses := true, apart := false }
def DoubleShiftsSaid : Prop := doubleShiftsRow.holds Try.pinned (OpenSpec.ofChange doubleShiftsSpec)

/-- ITS FALSE NEIGHBOUR: 'it returns false'. Refute it at one input. -/
def doubleShiftsWrong : ChangeSpec := { name := "doubleShifts", fn := fun _ => fun
  | [d1, d2] => { results := [.lit (.bool false)], args := [d1, d2] }
  | _ => none }
def DoubleShiftsWrongFalsely : Prop := doubleShiftsRow.holds Try.pinned (OpenSpec.ofChange doubleShiftsWrong)

/-- 'perilunelaw15.DoubleScales': WHATEVER THE INPUT: true; the input reads as it did. -/
def doubleScalesSpec : ChangeSpec := { name := "doubleScales", fn := fun _ => fun
  | [d1, d2] => { results := [.lit (.bool true)], args := [d1, d2] }
  | _ => none }
def doubleScalesRow : OpenClaim := { program := "ytojbdalhngcddaa", sum := "8509e3ff4727f775a844f956f5f6a7317ddd3f2656dff2014c09fc244d176b5c", func := "perilune/perilunelaw15.DoubleScales", spec := "doubleScales", unfollowed := true, recurses := true, apart := false }
def DoubleScalesSaid : Prop := doubleScalesRow.holds Try.pinned (OpenSpec.ofChange doubleScalesSpec)

/-- ITS FALSE NEIGHBOUR: 'it returns false'. Refute it at one input. -/
def doubleScalesWrong : ChangeSpec := { name := "doubleScales", fn := fun _ => fun
  | [d1, d2] => { results := [.lit (.bool false)], args := [d1, d2] }
  | _ => none }
def DoubleScalesWrongFalsely : Prop := doubleScalesRow.holds Try.pinned (OpenSpec.ofChange doubleScalesWrong)

/-- 'perilunelaw15.DoubleGroup': WHATEVER THE INPUT: true; the input reads as it did. -/
def doubleGroupSpec : ChangeSpec := { name := "doubleGroup", fn := fun _ => fun
  | [d1, d2] => { results := [.lit (.bool true)], args := [d1, d2] }
  | _ => none }
def doubleGroupRow : OpenClaim := { program := "ytojbdalhngcddaa", sum := "8509e3ff4727f775a844f956f5f6a7317ddd3f2656dff2014c09fc244d176b5c", func := "perilune/perilunelaw15.DoubleGroup", spec := "doubleGroup", unfollowed := true, recurses := true, apart := false }
def DoubleGroupSaid : Prop := doubleGroupRow.holds Try.pinned (OpenSpec.ofChange doubleGroupSpec)

/-- ITS FALSE NEIGHBOUR: 'it returns false'. Refute it at one input. -/
def doubleGroupWrong : ChangeSpec := { name := "doubleGroup", fn := fun _ => fun
  | [d1, d2] => { results := [.lit (.bool false)], args := [d1, d2] }
  | _ => none }
def DoubleGroupWrongFalsely : Prop := doubleGroupRow.holds Try.pinned (OpenSpec.ofChange doubleGroupWrong)

/-- 'perilunelaw15.DoubleSums': WHATEVER THE INPUT: true; the input reads as it did. -/
def doubleSumsSpec : ChangeSpec := { name := "doubleSums", fn := fun _ => fun
  | [d1, d2] => { results := [.lit (.bool true)], args := [d1, d2] }
  | _ => none }
def doubleSumsRow : OpenClaim := { program := "ytojbdalhngcddaa", sum := "8509e3ff4727f775a844f956f5f6a7317ddd3f2656dff2014c09fc244d176b5c", func := "perilune/perilunelaw15.DoubleSums", spec := "doubleSums", unfollowed := true, recurses := true, apart := false }
def DoubleSumsSaid : Prop := doubleSumsRow.holds Try.pinned (OpenSpec.ofChange doubleSumsSpec)

/-- ITS FALSE NEIGHBOUR: 'it returns false'. Refute it at one input. -/
def doubleSumsWrong : ChangeSpec := { name := "doubleSums", fn := fun _ => fun
  | [d1, d2] => { results := [.lit (.bool false)], args := [d1, d2] }
  | _ => none }
def DoubleSumsWrongFalsely : Prop := doubleSumsRow.holds Try.pinned (OpenSpec.ofChange doubleSumsWrong)

/-- 'perilunelaw15.DoubleMakes': WHATEVER THE INPUT: true; the input reads as it did. -/
def doubleMakesSpec : ChangeSpec := { name := "doubleMakes", fn := fun _ => fun
  | [d] => { results := [.lit (.bool true)], args := [d] }
  | _ => none }
def doubleMakesRow : OpenClaim := { program := "ytojbdalhngcddaa", sum := "8509e3ff4727f775a844f956f5f6a7317ddd3f2656dff2014c09fc244d176b5c", func := "perilune/perilunelaw15.DoubleMakes", spec := "doubleMakes", unfollowed := true, recurses := true, apart := false }
def DoubleMakesSaid : Prop := doubleMakesRow.holds Try.pinned (OpenSpec.ofChange doubleMakesSpec)

/-- ITS FALSE NEIGHBOUR: 'it returns false'. Refute it at one input. -/
def doubleMakesWrong : ChangeSpec := { name := "doubleMakes", fn := fun _ => fun
  | [d] => { results := [.lit (.bool false)], args := [d] }
  | _ => none }
def DoubleMakesWrongFalsely : Prop := doubleMakesRow.holds Try.pinned (OpenSpec.ofChange doubleMakesWrong)

/-- 'perilunelaw15.DoubleBack': WHATEVER THE INPUT: true; the input reads as it did. -/
def doubleBackSpec : ChangeSpec := { name := "doubleBack", fn := fun _ => fun
  | [d1, d2, d3] => { results := [.lit (.bool true)], args := [d1, d2, d3] }
  | _ => none }
def doubleBackRow : OpenClaim := { program := "ytojbdalhngcddaa", sum := "8509e3ff4727f775a844f956f5f6a7317ddd3f2656dff2014c09fc244d176b5c", func := "perilune/perilunelaw15.DoubleBack", spec := "doubleBack", unfollowed := true, recurses := true, apart := false }
def DoubleBackSaid : Prop := doubleBackRow.holds Try.pinned (OpenSpec.ofChange doubleBackSpec)

/-- ITS FALSE NEIGHBOUR: 'it returns false'. Refute it at one input. -/
def doubleBackWrong : ChangeSpec := { name := "doubleBack", fn := fun _ => fun
  | [d1, d2, d3] => { results := [.lit (.bool false)], args := [d1, d2, d3] }
  | _ => none }
def DoubleBackWrongFalsely : Prop := doubleBackRow.holds Try.pinned (OpenSpec.ofChange doubleBackWrong)

/-- 'perilunelaw15.DoubleTriples': WHATEVER THE INPUT: true; the input reads as it did. -/
def doubleTriplesSpec : ChangeSpec := { name := "doubleTriples", fn := fun _ => fun
  | [d1, d2, d3] => { results := [.lit (.bool true)], args := [d1, d2, d3] }
  | _ => none }
def doubleTriplesRow : OpenClaim := { program := "ytojbdalhngcddaa", sum := "8509e3ff4727f775a844f956f5f6a7317ddd3f2656dff2014c09fc244d176b5c", func := "perilune/perilunelaw15.DoubleTriples", spec := "doubleTriples", unfollowed := true, recurses := true, apart := false }
def DoubleTriplesSaid : Prop := doubleTriplesRow.holds Try.pinned (OpenSpec.ofChange doubleTriplesSpec)

/-- ITS FALSE NEIGHBOUR: 'it returns false'. Refute it at one input. -/
def doubleTriplesWrong : ChangeSpec := { name := "doubleTriples", fn := fun _ => fun
  | [d1, d2, d3] => { results := [.lit (.bool false)], args := [d1, d2, d3] }
  | _ => none }
def DoubleTriplesWrongFalsely : Prop := doubleTriplesRow.holds Try.pinned (OpenSpec.ofChange doubleTriplesWrong)

/-- 'perilunelaw15.DoubleKnown': WHATEVER THE INPUT: true; the input reads as it did. -/
def doubleKnownSpec : ChangeSpec := { name := "doubleKnown", fn := fun _ => fun
  | [] => { results := [.lit (.bool true)], args := [] }
  | _ => none }
def doubleKnownRow : OpenClaim := { program := "ytojbdalhngcddaa", sum := "8509e3ff4727f775a844f956f5f6a7317ddd3f2656dff2014c09fc244d176b5c", func := "perilune/perilunelaw15.DoubleKnown", spec := "doubleKnown", unfollowed := true, recurses := true, apart := false }
def DoubleKnownSaid : Prop := doubleKnownRow.holds Try.pinned (OpenSpec.ofChange doubleKnownSpec)

/-- ITS FALSE NEIGHBOUR: 'it returns false'. Refute it at one input. -/
def doubleKnownWrong : ChangeSpec := { name := "doubleKnown", fn := fun _ => fun
  | [] => { results := [.lit (.bool false)], args := [] }
  | _ => none }
def DoubleKnownWrongFalsely : Prop := doubleKnownRow.holds Try.pinned (OpenSpec.ofChange doubleKnownWrong)

/- THE SECOND FORM. 'bulk': how many values and letters a reading holds, each counted each time it is reached (what is shared counts as often as it is met; a slice's spare places count too). A statement '..UptoSaid' is the law's where the arguments, and the package variables that the reading takes, are together of bulk at most 1048576: NARROWER than '..Said'. Prove '..Said' where nothing that the law and all that it calls make is longer than what came in: it says more and counts as full. Else prove '..UptoSaid'. A law counts once. -/
mutual
def uptoBulk {H : Type} : DataW H → Nat
  | .lit (.string bytes) => bytes.length + 1
  | .lit _ => 1
  | .nil => 1
  | .ptr d => uptoBulk d + 1
  | .slice elems spare => uptoBulkAll elems + uptoBulkAll spare + 1
  | .agg parts => uptoBulkAll parts + 1
  | .iface _ d => uptoBulk d + 1
  | .map entries => uptoBulkEntries entries + 1
  | .held _ => 1
def uptoBulkAll {H : Type} : List (DataW H) → Nat
  | [] => 0
  | d :: r => uptoBulk d + uptoBulkAll r
def uptoBulkEntries {H : Type} : List (Lit × DataW H) → Nat
  | [] => 0
  | x :: r => uptoBulkEntry x + uptoBulkEntries r
def uptoBulkEntry {H : Type} : Lit × DataW H → Nat
  | (.string bytes, d) => bytes.length + uptoBulk d + 1
  | (_, d) => uptoBulk d + 1
 end
def uptoSmall : (H : Type) → List (DataW H) → Bool := fun _ ds => decide (uptoBulkAll ds ≤ 1048576)
def OpenSpec.upto (s : _root_.Go.ChangeSpec) : _root_.Go.OpenSpec := { _root_.Go.OpenSpec.ofChange s with cond := some uptoSmall }

/-- 'perilunelaw15.DoubleShifts', WHERE WHAT IT READS IS OF BULK AT MOST 1048576: true; the input reads as it did. -/
def doubleShiftsUptoRow : OpenClaim := { program := "ytojbdalhngcddaa", sum := "8509e3ff4727f775a844f956f5f6a7317ddd3f2656dff2014c09fc244d176b5c", func := "perilune/perilunelaw15.DoubleShifts", spec := "doubleShifts", unfollowed := true, recurses := true, apart := false, narrowed := true }
def DoubleShiftsUptoSaid : Prop := doubleShiftsUptoRow.holds Try.pinned (OpenSpec.upto doubleShiftsSpec)

/-- 'perilunelaw15.DoubleScales', WHERE WHAT IT READS IS OF BULK AT MOST 1048576: true; the input reads as it did. -/
def doubleScalesUptoRow : OpenClaim := { program := "ytojbdalhngcddaa", sum := "8509e3ff4727f775a844f956f5f6a7317ddd3f2656dff2014c09fc244d176b5c", func := "perilune/perilunelaw15.DoubleScales", spec := "doubleScales", unfollowed := true, recurses := true, apart := false, narrowed := true }
def DoubleScalesUptoSaid : Prop := doubleScalesUptoRow.holds Try.pinned (OpenSpec.upto doubleScalesSpec)

/-- 'perilunelaw15.DoubleGroup', WHERE WHAT IT READS IS OF BULK AT MOST 1048576: true; the input reads as it did. -/
def doubleGroupUptoRow : OpenClaim := { program := "ytojbdalhngcddaa", sum := "8509e3ff4727f775a844f956f5f6a7317ddd3f2656dff2014c09fc244d176b5c", func := "perilune/perilunelaw15.DoubleGroup", spec := "doubleGroup", unfollowed := true, recurses := true, apart := false, narrowed := true }
def DoubleGroupUptoSaid : Prop := doubleGroupUptoRow.holds Try.pinned (OpenSpec.upto doubleGroupSpec)

/-- 'perilunelaw15.DoubleSums', WHERE WHAT IT READS IS OF BULK AT MOST 1048576: true; the input reads as it did. -/
def doubleSumsUptoRow : OpenClaim := { program := "ytojbdalhngcddaa", sum := "8509e3ff4727f775a844f956f5f6a7317ddd3f2656dff2014c09fc244d176b5c", func := "perilune/perilunelaw15.DoubleSums", spec := "doubleSums", unfollowed := true, recurses := true, apart := false, narrowed := true }
def DoubleSumsUptoSaid : Prop := doubleSumsUptoRow.holds Try.pinned (OpenSpec.upto doubleSumsSpec)

/-- 'perilunelaw15.DoubleMakes', WHERE WHAT IT READS IS OF BULK AT MOST 1048576: true; the input reads as it did. -/
def doubleMakesUptoRow : OpenClaim := { program := "ytojbdalhngcddaa", sum := "8509e3ff4727f775a844f956f5f6a7317ddd3f2656dff2014c09fc244d176b5c", func := "perilune/perilunelaw15.DoubleMakes", spec := "doubleMakes", unfollowed := true, recurses := true, apart := false, narrowed := true }
def DoubleMakesUptoSaid : Prop := doubleMakesUptoRow.holds Try.pinned (OpenSpec.upto doubleMakesSpec)

/-- 'perilunelaw15.DoubleBack', WHERE WHAT IT READS IS OF BULK AT MOST 1048576: true; the input reads as it did. -/
def doubleBackUptoRow : OpenClaim := { program := "ytojbdalhngcddaa", sum := "8509e3ff4727f775a844f956f5f6a7317ddd3f2656dff2014c09fc244d176b5c", func := "perilune/perilunelaw15.DoubleBack", spec := "doubleBack", unfollowed := true, recurses := true, apart := false, narrowed := true }
def DoubleBackUptoSaid : Prop := doubleBackUptoRow.holds Try.pinned (OpenSpec.upto doubleBackSpec)

/-- 'perilunelaw15.DoubleTriples', WHERE WHAT IT READS IS OF BULK AT MOST 1048576: true; the input reads as it did. -/
def doubleTriplesUptoRow : OpenClaim := { program := "ytojbdalhngcddaa", sum := "8509e3ff4727f775a844f956f5f6a7317ddd3f2656dff2014c09fc244d176b5c", func := "perilune/perilunelaw15.DoubleTriples", spec := "doubleTriples", unfollowed := true, recurses := true, apart := false, narrowed := true }
def DoubleTriplesUptoSaid : Prop := doubleTriplesUptoRow.holds Try.pinned (OpenSpec.upto doubleTriplesSpec)

/-- 'perilunelaw15.DoubleKnown', WHERE WHAT IT READS IS OF BULK AT MOST 1048576: true; the input reads as it did. -/
def doubleKnownUptoRow : OpenClaim := { program := "ytojbdalhngcddaa", sum := "8509e3ff4727f775a844f956f5f6a7317ddd3f2656dff2014c09fc244d176b5c", func := "perilune/perilunelaw15.DoubleKnown", spec := "doubleKnown", unfollowed := true, recurses := true, apart := false, narrowed := true }
def DoubleKnownUptoSaid : Prop := doubleKnownUptoRow.holds Try.pinned (OpenSpec.upto doubleKnownSpec)

end Rows
end Go.Proofs.Ytojbdalhngcddaa
