/- FnExactDownGet, behind the machine: the program's DownGet and the reference's are one. No conditions. -/
import Derived.Test.YtlfhbpofboicbaaPx13
import Derived.Test.YtlfhbpofboicbaaDownGet
namespace Go.Proofs.Ytlfhbpofboicbaa.Pure
open Go.RowKit Go.Proofs.Ytlfhbpofboicbaa.P Go.Proofs.Ytlfhbpofboicbaa.E Go.Proofs.Ytlfhbpofboicbaa.Num Go.Proofs.Ytlfhbpofboicbaa.Down Go.Proofs.YtlfhbpofboicbaaW.PrintWords
set_option linter.unusedVariables false
theorem eqDown_at (c w a o f : Int) (d m : ByteArray) : laws_eqDown.f c w a o f d m c w a o f d m = some true := by
  unfold laws_eqDown.f
  simp
theorem FnExactDownGet : laws_FnExactDownGet.Pure := by
  intro t ht
  refine Ev.rnd ?_
  unfold laws_FnExactDownGet.f
  by_cases h : (t.size : Int) > 1048576
  · exact Ev.iteT h (Ev.now true)
  · refine Ev.iteF h (Ev.bind (specGet_ev t (by omega)) (Ev.bind (implGet_ev t (by omega)) (Ev.bindc (eqDown_at _ _ _ _ _ _ _) ?_)))
    exact Ev.iteT rfl (Ev.iteF (by simp) (Ev.now true))
end Go.Proofs.Ytlfhbpofboicbaa.Pure
