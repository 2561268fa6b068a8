/- Facts of the row. No condition. -/
import Derived.Test.YtmkjnlifimffkaaGreatRows
import Derived.Test.YtmkjnlifimffkaaGreatG01
import Derived.ProofKit
namespace Go.Proofs.YtmkjnlifimffkaaGreat
theorem yp:Go.joinedFacts Tryz.pinned.checked.prog 5 Tryz.f5 Rows.wholeSameSpec Rows.wholeSameRow=true:=by kernel_rfl
theorem yq:Tryz.pinned.checked.prog.funcNamed Rows.wholeSameRow.func=some 5:=by kernel_rfl
end Go.Proofs.YtmkjnlifimffkaaGreat
