/- FnExactHearsDown, behind the machine: the program's HearsDown and the reference's are one. No conditions. -/
import Derived.Test.YtbldbjfmibhffaaDoorPx2
import Derived.Test.YtbldbjfmibhffaaDoorPx10
import Derived.Test.YtbldbjfmibhffaaDoorPx12
import Derived.Test.YtbldbjfmibhffaaDoorHears
import Derived.Test.YtbldbjfmibhffaaDoorListStrI
import Derived.Test.YtbldbjfmibhffaaDoorMarkStr
import Derived.Test.YtbldbjfmibhffaaDoorQFnExactHearsDown
namespace Go.Proofs.YtbldbjfmibhffaaDoor.Pure
open Go.RowKit Go.Proofs.YtbldbjfmibhffaaDoor.P Go.Proofs.YtbldbjfmibhffaaDoor.E Go.Proofs.YtbldbjfmibhffaaDoor.Num Go.Proofs.YtbldbjfmibhffaaDoor.Lists Go.Proofs.YtbldbjfmibhffaaDoor.Hears Go.Proofs.YtbldbjfmibhffaaDoorW.PrintWords
set_option linter.unusedSimpArgs false
set_option linter.unusedVariables false
theorem eqHears_at (n : Int) (o : Bool) (t : ByteArray) : laws_eqHears.f n o t n o t = some true := by
  unfold laws_eqHears.f
  rw [if_pos rfl, if_neg (by cases o <;> simp), if_pos rfl]
theorem eqSame_ev (l : List ByteArray) (hl : l.length ≤ 1000) : Ev (fun k => laws_eqStringS.f k l l) true := Ev.eq (eqStringS_ev l l (by omega)) (by simp)
theorem FnExactHearsDown : Go.Proofs.YtbldbjfmibhffaaDoor.QFnExactHearsDown.Pure := by
  intro n o t c w a x f d fm _ _ _ _ _ _ _ _ _
  refine Ev.rnd ?_
  unfold laws_FnExactHearsDown.f
  have sz1 : ∃ y, laws_szHears.f n o t 1048576 = some y := by
    unfold laws_szHears.f
    split <;> exact ⟨_, rfl⟩
  obtain ⟨y, hy⟩ := sz1
  refine Ev.bindc hy ?_
  by_cases h : y < 0
  · exact Ev.iteT h (Ev.now true)
  refine Ev.iteF h ?_
  have sz2 : ∃ z, laws_szDown.f c w a x f d fm y = some z := by
    unfold laws_szDown.f
    split
    · exact ⟨_, rfl⟩
    · split <;> exact ⟨_, rfl⟩
  obtain ⟨z, hz⟩ := sz2
  refine Ev.bindc hz ?_
  by_cases h2 : z < 0
  · exact Ev.iteT h2 (Ev.now true)
  refine Ev.iteF h2 ?_
  obtain ⟨⟨g1, g2, g3, g4⟩, e1, e2, e3⟩ := hears_both n o t c w a x f d fm
  simp only at e3
  refine Ev.bindc rfl ?_
  refine Ev.bindc rfl ?_
  refine Ev.bind e1 ?_
  refine Ev.bindc rfl ?_
  refine Ev.bindc rfl ?_
  refine Ev.bind e2 ?_
  refine Ev.bindc (eqHears_at g1 g2 g3) ?_
  refine Ev.iteT rfl ?_
  refine Ev.bind (eqSame_ev g4 e3) ?_
  refine Ev.step (fun k => by rw [laws_FnExactHearsDown.j0]) ?_
  refine Ev.iteF (by simp) ?_
  refine Ev.bind (markStringS_ev g4 1 (by omega) (by omega) (by omega)) ?_
  refine Ev.bind (heldStringS_ev g4.length 1 (by omega) (by omega) (by omega)) ?_
  refine Ev.iteF (by omega) ?_
  refine Ev.iteT rfl ?_
  refine Ev.bindc rfl ?_
  refine Ev.bindc rfl ?_
  refine Ev.bind e2 ?_
  refine Ev.bindc (eqHears_at g1 g2 g3) ?_
  refine Ev.iteT rfl ?_
  refine Ev.bind (eqSame_ev g4 e3) ?_
  refine Ev.step (fun k => by rw [laws_FnExactHearsDown.j1]) ?_
  refine Ev.iteF (by simp) ?_
  refine Ev.bind (heldStringS_ev g4.length 1 (by omega) (by omega) (by omega)) ?_
  exact Ev.iteF (by omega) (Ev.iteT rfl (Ev.now true))
end Go.Proofs.YtbldbjfmibhffaaDoor.Pure
