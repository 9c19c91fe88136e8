/- What is left of FnExactFopSend behind the machine: one statement about numbers and lists. -/
import Derived.Test.YtnlhaiihbcdmoaaPx22
import Derived.Test.YtnlhaiihbcdmoaaOpen
namespace Go.Proofs.Ytnlhaiihbcdmoaa.QFnExactFopSend
open Go.RowKit Go.Proofs.Ytnlhaiihbcdmoaa.P Go.Proofs.Ytnlhaiihbcdmoaa.Open Go.Proofs.YtnlhaiihbcdmoaaW.PrintWords Go.Proofs.YtnlhaiihbcdmoaaW.PrintLast
def Pure : Prop := ∀ (a0_0 : Int) (a0_1 : Int) (a0_2 : Int) (l0_3 : List ByteArray) (a0_4 : Bool) (a1 : ByteArray), GInt a0_0 → GInt a0_1 → GInt a0_2 → l0_3.length ≤ 9223372036854775807 → GList GStr l0_3 → GStr a1 → ∃ k, laws_FnExactFopSend.f k a0_0 a0_1 a0_2 l0_3 a0_4 a1 = some true
end Go.Proofs.Ytnlhaiihbcdmoaa.QFnExactFopSend
