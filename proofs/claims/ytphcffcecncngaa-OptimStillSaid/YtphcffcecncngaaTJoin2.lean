/- The walk of tensor.Join where two are joined. -/
import Derived.Test.YtphcffcecncngaaTJoin
namespace Go.Proofs.Ytphcffcecncngaa
open Go.RowKit

end Go.Proofs.Ytphcffcecncngaa
