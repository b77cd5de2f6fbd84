/- Texts for the law FnExactCellsSpread: H2. No conditions. -/
import Derived.Test.YtifdjnpnhgdcgaaH1

set_option maxRecDepth 100000
namespace Go.Proofs.Ytifdjnpnhgdcgaa
open Go.Sx

end Go.Proofs.Ytifdjnpnhgdcgaa
