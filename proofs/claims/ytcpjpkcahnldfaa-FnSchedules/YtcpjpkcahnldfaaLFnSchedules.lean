/- Texts for the law FnSchedules: LFnSchedules. No conditions. -/
import Derived.Test.YtcpjpkcahnldfaaWSch2

set_option maxRecDepth 100000
namespace Go.Proofs.Ytcpjpkcahnldfaa
open Go.Sx
theorem law (x0 : List UInt8) (_o0 : x0.length ≤ maxLen) : Meets Try.prog 3 [.one (sByte x0)] [.one (vb true)] := fnSchedules x0
end Go.Proofs.Ytcpjpkcahnldfaa
