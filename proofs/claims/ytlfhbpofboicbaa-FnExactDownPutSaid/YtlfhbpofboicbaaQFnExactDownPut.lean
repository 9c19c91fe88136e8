/- What is left of FnExactDownPut behind the machine: one statement about numbers and lists. -/
import Derived.Test.YtlfhbpofboicbaaPx11
import Derived.Test.YtlfhbpofboicbaaOpen
namespace Go.Proofs.Ytlfhbpofboicbaa.QFnExactDownPut
open Go.RowKit Go.Proofs.Ytlfhbpofboicbaa.P Go.Proofs.Ytlfhbpofboicbaa.Open Go.Proofs.YtlfhbpofboicbaaW.PrintWords Go.Proofs.YtlfhbpofboicbaaW.PrintLast
def Pure : Prop := ∀ (a0_0 : Int) (a0_1 : Int) (a0_2 : Int) (a0_3 : Int) (a0_4 : Int) (a0_5 : ByteArray) (a0_6 : ByteArray), GInt a0_0 → GInt a0_1 → GInt a0_2 → GInt a0_3 → GInt a0_4 → GStr a0_5 → GStr a0_6 → ∃ k, laws_FnExactDownPut.f k a0_0 a0_1 a0_2 a0_3 a0_4 a0_5 a0_6 = some true
end Go.Proofs.Ytlfhbpofboicbaa.QFnExactDownPut
