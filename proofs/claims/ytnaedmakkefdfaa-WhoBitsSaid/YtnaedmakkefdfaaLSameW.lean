/- What the reference's comparisons of words comes to: equality of lists. -/
import Derived.Test.YtnaedmakkefdfaaLBase
import Derived.Test.YtnaedmakkefdfaaPx0
namespace Go.Proofs.Ytnaedmakkefdfaa.L
open Go.RowKit Go.Proofs.Ytnaedmakkefdfaa.P Go.Proofs.YtnaedmakkefdfaaW.PrintWords Go.Proofs.YtnaedmakkefdfaaW.PrintLast
set_option linter.unusedVariables false
set_option linter.unusedSimpArgs false

end Go.Proofs.Ytnaedmakkefdfaa.L
