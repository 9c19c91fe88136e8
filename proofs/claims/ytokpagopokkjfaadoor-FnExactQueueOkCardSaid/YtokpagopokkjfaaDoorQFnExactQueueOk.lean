/- What is left of FnExactQueueOk behind the machine: one statement about numbers and lists. -/
import Derived.Test.YtokpagopokkjfaaDoorPx17
import Derived.Test.YtokpagopokkjfaaDoorOpen
namespace Go.Proofs.YtokpagopokkjfaaDoor.QFnExactQueueOk
open Go.RowKit Go.Proofs.YtokpagopokkjfaaDoor.P Go.Proofs.YtokpagopokkjfaaDoor.Open Go.Proofs.YtokpagopokkjfaaDoorW.PrintWords Go.Proofs.YtokpagopokkjfaaDoorW.PrintLast
def Pure : Prop := ∀ (l0_0 : List ByteArray) (a0_1 : Int), l0_0.length ≤ 9223372036854775807 → GList GStr l0_0 → GInt a0_1 → ∃ k, laws_FnExactQueueOk.f k l0_0 a0_1 = some true
end Go.Proofs.YtokpagopokkjfaaDoor.QFnExactQueueOk
