/- Print: the program's; law PathPrints. -/
import Derived.Test.YtmfhmlhaofpeiaaGreatDoorV15
namespace Go.Proofs.YtmfhmlhaofpeiaaGreatDoor.Ev
open Go Go.RowKit
set_option linter.unusedSimpArgs false
set_option linter.unusedVariables false
set_option maxRecDepth 100000

end Go.Proofs.YtmfhmlhaofpeiaaGreatDoor.Ev
