/- Facts of the row. No condition. -/
import Derived.Test.YtmkjnlifimffkaaGreatRows
import Derived.Test.YtmkjnlifimffkaaGreatF01
import Derived.ProofKit
namespace Go.Proofs.YtmkjnlifimffkaaGreat
theorem tm:Go.joinedFacts Tryz.pinned.checked.prog 4 Tryz.f4 Rows.wholeFilesSpec Rows.wholeFilesRow=true:=by kernel_rfl
theorem tn:Tryz.pinned.checked.prog.funcNamed Rows.wholeFilesRow.func=some 4:=by kernel_rfl
end Go.Proofs.YtmkjnlifimffkaaGreat
