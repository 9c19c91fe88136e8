/- What is left of FnExactPartSend behind the machine: one statement about numbers and lists. -/
import Derived.Test.YtmhdphohhheoaaaPx29
import Derived.Test.YtmhdphohhheoaaaOpen
namespace Go.Proofs.Ytmhdphohhheoaaa.QFnExactPartSend
open Go.RowKit Go.Proofs.Ytmhdphohhheoaaa.P Go.Proofs.Ytmhdphohhheoaaa.Open Go.Proofs.YtmhdphohhheoaaaW.PrintWords Go.Proofs.YtmhdphohhheoaaaW.PrintLast
def Pure : Prop := ∀ (l0_0 : List (S56)) (l0_1 : List Int) (a0_2 : Int) (a0_3 : Bool) (l0_4 : List Int) (a1 : Int), l0_0.length ≤ 9223372036854775807 → l0_1.length ≤ 9223372036854775807 → GList GInt l0_1 → GInt a0_2 → l0_4.length ≤ 9223372036854775807 → GList GInt l0_4 → GInt a1 → ∃ k, laws_FnExactPartSend.f k l0_0 l0_1 a0_2 a0_3 l0_4 a1 = some true
end Go.Proofs.Ytmhdphohhheoaaa.QFnExactPartSend
