/- Contracts of package double on triples over this translation. -/
import Derived.Test.YtpmocegfiniafaaDa
namespace Go.Proofs.Ytpmocegfiniafaa
set_option linter.unusedSimpArgs false
set_option linter.unusedVariables false
open Go.RowKit





end Go.Proofs.Ytpmocegfiniafaa
