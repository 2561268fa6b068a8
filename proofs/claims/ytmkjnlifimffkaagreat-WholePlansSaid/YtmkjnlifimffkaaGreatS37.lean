/- Facts of the row. No condition. -/
import Derived.Test.YtmkjnlifimffkaaGreatRows
import Derived.Test.YtmkjnlifimffkaaGreatS01
import Derived.ProofKit
namespace Go.Proofs.YtmkjnlifimffkaaGreat
theorem u1:Go.joinedFacts Tryz.pinned.checked.prog 6 Tryz.f6 Rows.wholePlansSpec Rows.wholePlansRow=true:=by kernel_rfl
theorem u2:Tryz.pinned.checked.prog.funcNamed Rows.wholePlansRow.func=some 6:=by kernel_rfl
end Go.Proofs.YtmkjnlifimffkaaGreat
