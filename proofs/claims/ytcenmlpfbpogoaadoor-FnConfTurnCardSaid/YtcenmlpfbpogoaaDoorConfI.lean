/- How a craft is made: short lists; reading a list of programs. No conditions. -/
import Derived.Test.YtcenmlpfbpogoaaDoorPx0
import Derived.Test.YtcenmlpfbpogoaaDoorOpsOk
namespace Go.Proofs.YtcenmlpfbpogoaaDoor.Conf
open Go.RowKit Go.Proofs.YtcenmlpfbpogoaaDoor.P Go.Proofs.YtcenmlpfbpogoaaDoor.E Go.Proofs.YtcenmlpfbpogoaaDoor.OpsOk Go.Proofs.YtcenmlpfbpogoaaDoorW.PrintWords
set_option linter.unusedSimpArgs false
set_option linter.unusedVariables false
abbrev IOps := List (List S107)
theorem rdI (l : IOps) (i : Nat) (h : i < l.length) : rd_L2 l (i : Int) = l[i] := by simp [rd_L2, List.getD, h]
/-- All the lists are short. -/
def Small {α β : Type} (l2 : List (List α)) (l3 l4 l5 l6 l7 : List Int) (l8 : List β) : Prop :=
  (l2.length ≤ 1048576 ∧ ∀ x ∈ l2, x.length ≤ 1048576) ∧ l3.length ≤ 1048576 ∧ l4.length ≤ 1048576 ∧ l5.length ≤ 1048576 ∧ l6.length ≤ 1048576 ∧ l7.length ≤ 1048576 ∧ l8.length ≤ 1048576
end Go.Proofs.YtcenmlpfbpogoaaDoor.Conf
