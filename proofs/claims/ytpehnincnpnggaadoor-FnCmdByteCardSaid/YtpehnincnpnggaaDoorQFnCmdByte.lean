/- What is left of FnCmdByte behind the machine: one statement about numbers and lists. -/
import Derived.Test.YtpehnincnpnggaaDoorPx8
import Derived.Test.YtpehnincnpnggaaDoorOpen
namespace Go.Proofs.YtpehnincnpnggaaDoor.QFnCmdByte
open Go.RowKit Go.Proofs.YtpehnincnpnggaaDoor.P Go.Proofs.YtpehnincnpnggaaDoor.Open Go.Proofs.YtpehnincnpnggaaDoorW.PrintWords Go.Proofs.YtpehnincnpnggaaDoorW.PrintLast
def Pure : Prop := ∀ (l0 : List Int) (l1 : List Int), l0.length ≤ 9223372036854775807 → GList GU8 l0 → l1.length ≤ 9223372036854775807 → GList GU8 l1 → ∃ k, laws_FnCmdByte.f k l0 l1 = some true
end Go.Proofs.YtpehnincnpnggaaDoor.QFnCmdByte
