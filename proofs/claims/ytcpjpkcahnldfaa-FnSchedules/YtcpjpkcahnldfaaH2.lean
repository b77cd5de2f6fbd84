/- Texts for the law FnSchedules: H2. No conditions. -/
import Derived.Test.YtcpjpkcahnldfaaH1

set_option maxRecDepth 100000
namespace Go.Proofs.Ytcpjpkcahnldfaa
open Go.Sx

end Go.Proofs.Ytcpjpkcahnldfaa
