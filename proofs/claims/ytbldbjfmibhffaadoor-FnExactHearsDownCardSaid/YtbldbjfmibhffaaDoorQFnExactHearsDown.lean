/- What is left of FnExactHearsDown behind the machine: one statement about numbers and lists. -/
import Derived.Test.YtbldbjfmibhffaaDoorPx12
import Derived.Test.YtbldbjfmibhffaaDoorOpen
namespace Go.Proofs.YtbldbjfmibhffaaDoor.QFnExactHearsDown
open Go.RowKit Go.Proofs.YtbldbjfmibhffaaDoor.P Go.Proofs.YtbldbjfmibhffaaDoor.Open Go.Proofs.YtbldbjfmibhffaaDoorW.PrintWords Go.Proofs.YtbldbjfmibhffaaDoorW.PrintLast
def Pure : Prop := ∀ (a0_0 : Int) (a0_1 : Bool) (a0_2 : ByteArray) (a1_0 : Int) (a1_1 : Int) (a1_2 : Int) (a1_3 : Int) (a1_4 : Int) (a1_5 : ByteArray) (a1_6 : ByteArray), GInt a0_0 → GStr a0_2 → GInt a1_0 → GInt a1_1 → GInt a1_2 → GInt a1_3 → GInt a1_4 → GStr a1_5 → GStr a1_6 → ∃ k, laws_FnExactHearsDown.f k a0_0 a0_1 a0_2 a1_0 a1_1 a1_2 a1_3 a1_4 a1_5 a1_6 = some true
end Go.Proofs.YtbldbjfmibhffaaDoor.QFnExactHearsDown
