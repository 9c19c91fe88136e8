/- FnExactDownPut, behind the machine: the program's DownPut and the reference's are one. No conditions. -/
import Derived.Test.YtlfhbpofboicbaaPx11
import Derived.Test.YtlfhbpofboicbaaDown
import Derived.Test.YtlfhbpofboicbaaQFnExactDownPut
namespace Go.Proofs.Ytlfhbpofboicbaa.Pure
open Go.RowKit Go.Proofs.Ytlfhbpofboicbaa.P Go.Proofs.Ytlfhbpofboicbaa.E Go.Proofs.Ytlfhbpofboicbaa.Num Go.Proofs.Ytlfhbpofboicbaa.Down Go.Proofs.YtlfhbpofboicbaaW.PrintWords
set_option linter.unusedVariables false
theorem FnExactDownPut : Go.Proofs.Ytlfhbpofboicbaa.QFnExactDownPut.Pure := by
  intro c w a o f d fm _ _ _ _ _ hd hf
  refine Ev.rnd ?_
  unfold laws_FnExactDownPut.f
  have sz : ∃ n, laws_szDown.f c w a o f d fm 1048576 = some n := by
    unfold laws_szDown.f
    split
    · exact ⟨_, rfl⟩
    · split <;> exact ⟨_, rfl⟩
  obtain ⟨n, hn⟩ := sz
  refine Ev.bindc hn ?_
  by_cases h : n < 0
  · exact Ev.iteT h (Ev.now true)
  · refine Ev.iteF h (Ev.bindc rfl (Ev.bind (specPut_ev c w a o f d fm) (Ev.bindc rfl (Ev.bind (implPut_ev c w a o f d fm) ?_))))
    exact Ev.iteT rfl (Ev.now true)
end Go.Proofs.Ytlfhbpofboicbaa.Pure
