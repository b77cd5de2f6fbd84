/- Texts for the law FnExactWorkerLine: H2. No conditions. -/
import Derived.Test.YtnialccpeadbbaaDoorH1

set_option maxRecDepth 100000
namespace Go.Proofs.YtnialccpeadbbaaDoor
open Go.Sx

end Go.Proofs.YtnialccpeadbbaaDoor
