/- What is left of FnExactQueuePut behind the machine: one statement about numbers and lists. -/
import Derived.Test.YtokpagopokkjfaaDoorPx18
import Derived.Test.YtokpagopokkjfaaDoorOpen
namespace Go.Proofs.YtokpagopokkjfaaDoor.QFnExactQueuePut
open Go.RowKit Go.Proofs.YtokpagopokkjfaaDoor.P Go.Proofs.YtokpagopokkjfaaDoor.Open Go.Proofs.YtokpagopokkjfaaDoorW.PrintWords Go.Proofs.YtokpagopokkjfaaDoorW.PrintLast
def Pure : Prop := ∀ (l0_0 : List ByteArray) (a0_1 : Int) (a1 : ByteArray), l0_0.length ≤ 9223372036854775807 → GList GStr l0_0 → GInt a0_1 → GStr a1 → ∃ k, laws_FnExactQueuePut.f k l0_0 a0_1 a1 = some true
end Go.Proofs.YtokpagopokkjfaaDoor.QFnExactQueuePut
