/- The walk of Grid.Cut where there is a part. -/
import Derived.Test.YtphcffcecncngaaSpan
namespace Go.Proofs.Ytphcffcecncngaa
open Go.RowKit

end Go.Proofs.Ytphcffcecncngaa
