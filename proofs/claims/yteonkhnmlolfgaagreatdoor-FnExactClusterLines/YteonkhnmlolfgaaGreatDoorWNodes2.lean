/- Texts for the law FnExactClusterLines: WNodes2. No conditions. -/
import Derived.Test.YteonkhnmlolfgaaGreatDoorWNodes

set_option maxRecDepth 100000
namespace Go.Proofs.YteonkhnmlolfgaaGreatDoor
open Go.Sx
end Go.Proofs.YteonkhnmlolfgaaGreatDoor
