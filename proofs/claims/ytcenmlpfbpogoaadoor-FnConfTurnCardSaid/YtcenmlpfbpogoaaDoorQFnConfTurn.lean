/- What is left of FnConfTurn behind the machine: one statement about numbers and lists. -/
import Derived.Test.YtcenmlpfbpogoaaDoorPx21
import Derived.Test.YtcenmlpfbpogoaaDoorOpen
namespace Go.Proofs.YtcenmlpfbpogoaaDoor.QFnConfTurn
open Go.RowKit Go.Proofs.YtcenmlpfbpogoaaDoor.P Go.Proofs.YtcenmlpfbpogoaaDoor.Open Go.Proofs.YtcenmlpfbpogoaaDoorW.PrintWords Go.Proofs.YtcenmlpfbpogoaaDoorW.PrintLast
def Pure : Prop := ∀ (l0 : List Int), l0.length ≤ 9223372036854775807 → GList GU8 l0 → ∃ k, laws_FnConfTurn.f k l0 = some true
end Go.Proofs.YtcenmlpfbpogoaaDoor.QFnConfTurn
