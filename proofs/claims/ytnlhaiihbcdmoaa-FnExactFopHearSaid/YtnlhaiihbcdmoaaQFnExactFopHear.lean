/- What is left of FnExactFopHear behind the machine: one statement about numbers and lists. -/
import Derived.Test.YtnlhaiihbcdmoaaPx19
import Derived.Test.YtnlhaiihbcdmoaaOpen
namespace Go.Proofs.Ytnlhaiihbcdmoaa.QFnExactFopHear
open Go.RowKit Go.Proofs.Ytnlhaiihbcdmoaa.P Go.Proofs.Ytnlhaiihbcdmoaa.Open Go.Proofs.YtnlhaiihbcdmoaaW.PrintWords Go.Proofs.YtnlhaiihbcdmoaaW.PrintLast
def Pure : Prop := ∀ (a0_0 : Int) (a0_1 : Int) (a0_2 : Int) (l0_3 : List ByteArray) (a0_4 : Bool) (a1_0 : Bool) (a1_1 : Bool) (a1_2 : Bool) (a1_3 : Int) (a1_4 : Int), GInt a0_0 → GInt a0_1 → GInt a0_2 → l0_3.length ≤ 9223372036854775807 → GList GStr l0_3 → GInt a1_3 → GInt a1_4 → ∃ k, laws_FnExactFopHear.f k a0_0 a0_1 a0_2 l0_3 a0_4 a1_0 a1_1 a1_2 a1_3 a1_4 = some true
end Go.Proofs.Ytnlhaiihbcdmoaa.QFnExactFopHear
