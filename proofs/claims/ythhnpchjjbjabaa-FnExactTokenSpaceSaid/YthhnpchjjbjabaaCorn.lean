/- Numbers of corners. -/
import Derived.Test.YthhnpchjjbjabaaBase
namespace Go.Proofs.Ythhnpchjjbjabaa.Ai
open Go Go.RowKit
set_option linter.unusedVariables false
set_option linter.unusedSimpArgs false

end Go.Proofs.Ythhnpchjjbjabaa.Ai
