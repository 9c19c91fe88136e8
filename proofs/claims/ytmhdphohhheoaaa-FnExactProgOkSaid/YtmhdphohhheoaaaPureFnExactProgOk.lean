/- FnExactProgOk, behind the machine: the program's ProgOk and the reference's are one, for all lists. No conditions. -/
import Derived.Test.YtmhdphohhheoaaaPx5
import Derived.Test.YtmhdphohhheoaaaOpsOk
import Derived.Test.YtmhdphohhheoaaaListOp
import Derived.Test.YtmhdphohhheoaaaQFnExactProgOk
namespace Go.Proofs.Ytmhdphohhheoaaa.Pure
open Go.RowKit Go.Proofs.Ytmhdphohhheoaaa.P Go.Proofs.Ytmhdphohhheoaaa.E Go.Proofs.Ytmhdphohhheoaaa.OpsOk Go.Proofs.Ytmhdphohhheoaaa.Lists Go.Proofs.YtmhdphohhheoaaaW.PrintWords
set_option linter.unusedSimpArgs false
set_option linter.unusedVariables false
theorem FnExactProgOk : Go.Proofs.Ytmhdphohhheoaaa.QFnExactProgOk.Pure := by
  intro l0 hl
  refine Ev.rounds ?_
  unfold laws_FnExactProgOk.f
  refine Ev.bindc (szOpS_at l0 1048576 (by omega) (by omega) hl) ?_
  by_cases h : (1048576 : Int) - l0.length < 0
  · simp only [if_pos h]
    exact Ev.iteT (by omega) (Ev.now true)
  · simp only [if_neg h]
    have hn : l0.length ≤ 1048576 := by omega
    have hm : (l0.map opOf).length ≤ 9223372036854775806 := by simp; omega
    refine Ev.bind (toOpS_ev l0 hn) ?_
    refine Ev.bind (specProg_ev _ hm) ?_
    refine Ev.bind (toOpS_ev l0 hn) ?_
    refine Ev.bind (implProg_ev _ hm) ?_
    refine Ev.iteF (by simp) ?_
    refine Ev.bind (toOpS_ev l0 hn) ?_
    refine Ev.bind (eqOpS_ev _ _ hm) ?_
    exact Ev.iteT (by simp) (Ev.now true)
end Go.Proofs.Ytmhdphohhheoaaa.Pure
