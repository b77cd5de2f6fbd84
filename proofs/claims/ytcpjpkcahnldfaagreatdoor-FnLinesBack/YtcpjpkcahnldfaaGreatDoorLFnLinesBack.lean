/- Texts for the law FnLinesBack: LFnLinesBack. No conditions. -/
import Derived.Test.YtcpjpkcahnldfaaGreatDoorWBack2

set_option maxRecDepth 100000
namespace Go.Proofs.YtcpjpkcahnldfaaGreatDoor
open Go.Sx
theorem law (x0 : List UInt8) (_o0 : x0.length ≤ maxLen) : MeetsT Tryz.prog Tab 4 [.one (sByte x0)] [.one (vb true)] := fnLinesBack x0
end Go.Proofs.YtcpjpkcahnldfaaGreatDoor
