/- WHAT IS PROVED: contracts and plain laws of IntJ. Conditions: stated with each. -/
import Derived.Test.YtoaifondpohniaaGreatMT05
set_option maxHeartbeats 4000000
set_option maxRecDepth 100000
namespace Go.Proofs.YtoaifondpohniaaGreat
open Go.RowKit
def encJ (x : Int) : List Value := [.int .i64 x]
end Go.Proofs.YtoaifondpohniaaGreat
