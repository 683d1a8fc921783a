/- WHAT IS PROVED: contracts and plain laws of IntJ. Conditions: stated with each. -/
import Derived.Test.YtoaifondpohniaaGreatPL05
set_option maxHeartbeats 4000000
set_option maxRecDepth 100000
namespace Go.Proofs.YtoaifondpohniaaGreat
open Go.RowKit
end Go.Proofs.YtoaifondpohniaaGreat
