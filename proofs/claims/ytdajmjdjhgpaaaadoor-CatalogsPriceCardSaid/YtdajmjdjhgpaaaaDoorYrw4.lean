/- Walks along the models. Printed by a program. -/
import Derived.Test.YtdajmjdjhgpaaaaDoorYrw3
namespace Go.Proofs.YtdajmjdjhgpaaaaDoor
open Go.RowKit
set_option linter.unusedVariables false
set_option maxRecDepth 20000
set_option maxHeartbeats 2000000
end Go.Proofs.YtdajmjdjhgpaaaaDoor
