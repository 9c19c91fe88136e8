/- FnExactRepGet, behind the machine: the program's RepGet and the reference's are one. No conditions. -/
import Derived.Test.YtllchgipnfdneaaDoorPx26
import Derived.Test.YtllchgipnfdneaaDoorRep
namespace Go.Proofs.YtllchgipnfdneaaDoor.Pure
open Go.RowKit Go.Proofs.YtllchgipnfdneaaDoor.P Go.Proofs.YtllchgipnfdneaaDoor.E Go.Proofs.YtllchgipnfdneaaDoor.Num Go.Proofs.YtllchgipnfdneaaDoor.Rep Go.Proofs.YtllchgipnfdneaaDoorW.PrintWords
set_option linter.unusedVariables false
theorem eqRep_at (a c s u m : Int) (d : ByteArray) : laws_eqRep.f a c s u m d a c s u m d = some true := by
  unfold laws_eqRep.f
  simp
theorem FnExactRepGet : laws_FnExactRepGet.Pure := by
  intro t ht
  refine Ev.rnd ?_
  unfold laws_FnExactRepGet.f
  by_cases h : (t.size : Int) > 1048576
  · exact Ev.iteT h (Ev.now true)
  · refine Ev.iteF h (Ev.bind (specGet_ev t (by omega)) (Ev.bind (implGet_ev t (by omega)) (Ev.bindc (eqRep_at _ _ _ _ _ _) ?_)))
    exact Ev.iteT rfl (Ev.iteF (by simp) (Ev.now true))
end Go.Proofs.YtllchgipnfdneaaDoor.Pure
