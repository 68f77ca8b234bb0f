/- Contracts of package double on triples over this translation. -/
import Derived.Test.YtbbhppjamighdaaDoorDa
namespace Go.Proofs.YtbbhppjamighdaaDoor
set_option linter.unusedSimpArgs false
set_option linter.unusedVariables false
open Go.RowKit





end Go.Proofs.YtbbhppjamighdaaDoor
