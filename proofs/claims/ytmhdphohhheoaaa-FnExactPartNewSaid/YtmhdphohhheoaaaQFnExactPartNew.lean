/- What is left of FnExactPartNew behind the machine: one statement about numbers and lists. -/
import Derived.Test.YtmhdphohhheoaaaPx25
import Derived.Test.YtmhdphohhheoaaaOpen
namespace Go.Proofs.Ytmhdphohhheoaaa.QFnExactPartNew
open Go.RowKit Go.Proofs.Ytmhdphohhheoaaa.P Go.Proofs.Ytmhdphohhheoaaa.Open Go.Proofs.YtmhdphohhheoaaaW.PrintWords Go.Proofs.YtmhdphohhheoaaaW.PrintLast
def Pure : Prop := ∀ (l0 : List (S56)), l0.length ≤ 9223372036854775807 → ∃ k, laws_FnExactPartNew.f k l0 = some true
end Go.Proofs.Ytmhdphohhheoaaa.QFnExactPartNew
