/- Lemmas. -/
import Derived.Test.YtmkjnlifimffkaaGreatF07
namespace Go.Proofs.YtmkjnlifimffkaaGreat
open Go.RowKit Tryz
set_option linter.all false
set_option maxRecDepth 100000
set_option maxHeartbeats 0

