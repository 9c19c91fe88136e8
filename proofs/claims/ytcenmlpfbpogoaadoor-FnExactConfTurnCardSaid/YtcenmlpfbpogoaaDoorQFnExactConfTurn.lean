/- What is left of FnExactConfTurn behind the machine: one statement about numbers and lists. -/
import Derived.Test.YtcenmlpfbpogoaaDoorPx17
import Derived.Test.YtcenmlpfbpogoaaDoorOpen
namespace Go.Proofs.YtcenmlpfbpogoaaDoor.QFnExactConfTurn
open Go.RowKit Go.Proofs.YtcenmlpfbpogoaaDoor.P Go.Proofs.YtcenmlpfbpogoaaDoor.Open Go.Proofs.YtcenmlpfbpogoaaDoorW.PrintWords Go.Proofs.YtcenmlpfbpogoaaDoorW.PrintLast
def Pure : Prop := ∀ (a0_0 : Int) (a0_1 : Int) (l0_2 : List (List (S109))) (l0_3 : List Int) (l0_4 : List Int) (l0_5 : List Int) (l0_6 : List Int) (l0_7 : List Int) (l0_8 : List (S80)) (a0_9 : Int) (a1 : Int) (a2 : Int), GInt a0_0 → GInt a0_1 → l0_2.length ≤ 9223372036854775807 → GList GLen l0_2 → l0_3.length ≤ 9223372036854775807 → GList GInt l0_3 → l0_4.length ≤ 9223372036854775807 → GList GInt l0_4 → l0_5.length ≤ 9223372036854775807 → GList GInt l0_5 → l0_6.length ≤ 9223372036854775807 → GList GInt l0_6 → l0_7.length ≤ 9223372036854775807 → GList GInt l0_7 → l0_8.length ≤ 9223372036854775807 → GInt a0_9 → GInt a1 → GInt a2 → ∃ k, laws_FnExactConfTurn.f k a0_0 a0_1 l0_2 l0_3 l0_4 l0_5 l0_6 l0_7 l0_8 a0_9 a1 a2 = some true
end Go.Proofs.YtcenmlpfbpogoaaDoor.QFnExactConfTurn
