/- Contracts of package double on triples over this translation. -/
import Derived.Test.YtkgpdpengfdhbaaDa
namespace Go.Proofs.Ytkgpdpengfdhbaa
set_option linter.unusedSimpArgs false
set_option linter.unusedVariables false
open Go.RowKit





end Go.Proofs.Ytkgpdpengfdhbaa
