/- A law's own variables: each in a block of its own, known by its range; a store into a new one keeps the others. -/
import Derived.Test.YtpmocegfiniafaaKf
namespace Go.Proofs.Ytpmocegfiniafaa
set_option linter.unusedSimpArgs false
set_option linter.unusedVariables false
open Go.RowKit

section
variable {P : Program} {C : World → Prop} {K : Act → Prop} {a : Act} {op : Oper}
end
/-- The goals of a walk behind a name that is not unfolded: an arm that is not meant fails at once. -/
structure QW (P : Program) (op : Oper) (a : Act) (C : World → Prop) (K : Act → Prop) : Prop where
  h : op.quiet P a C K
structure WL (P : Program) (ops : Array Oper) (Q : Exit → Act → World → Prop) (l : List Oper) (a : Act) (w : World) : Prop where
  h : wpList P ops Q l a w
section
variable {P : Program} {C : World → Prop} {K : Act → Prop} {a : Act} {op : Oper} {ops : Array Oper} {Q : Exit → Act → World → Prop} {rest : List Oper} {w : World}
end
end Go.Proofs.Ytpmocegfiniafaa
