/- WHAT IS PROVED: what a walk over the counts gathers. No condition. -/
import Derived.Test.YtfhhljgjppcdlaaTallyAbs
import Derived.Test.YtfhhljgjppcdlaaLess
namespace Go.Proofs.Ytfhhljgjppcdlaa
open Go.RowKit
def mostStep (kind round : Int) (s : Hash × Int) (y : Choice × Int) : Hash × Int :=
  bif decide (y.1.kind = kind) && decide (y.1.round = round) && (decide (y.2 > s.2) || (decide (y.2 = s.2) && lessB y.1.h s.1)) then (y.1.h, y.2) else s
def mostF (kind round : Int) (l : List (Choice × Int)) : Hash × Int := l.foldl (mostStep kind round) (hash0, 0)
theorem mostF_snoc (kind round : Int) (l : List (Choice × Int)) (y : Choice × Int) : mostF kind round (l ++ [y]) = mostStep kind round (mostF kind round l) y := by simp [mostF]
end Go.Proofs.Ytfhhljgjppcdlaa
