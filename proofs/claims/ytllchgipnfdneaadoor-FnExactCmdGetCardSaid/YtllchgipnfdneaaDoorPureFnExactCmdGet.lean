/- FnExactCmdGet, behind the machine: the program's CmdGet and the reference's are one. No conditions. -/
import Derived.Test.YtllchgipnfdneaaDoorPx29
import Derived.Test.YtllchgipnfdneaaDoorCmd
namespace Go.Proofs.YtllchgipnfdneaaDoor.Pure
open Go.RowKit Go.Proofs.YtllchgipnfdneaaDoor.P Go.Proofs.YtllchgipnfdneaaDoor.E Go.Proofs.YtllchgipnfdneaaDoor.Num Go.Proofs.YtllchgipnfdneaaDoor.Cmd Go.Proofs.YtllchgipnfdneaaDoorW.PrintWords
set_option linter.unusedVariables false
theorem eqCmd_at (a c s u m : Int) (d : ByteArray) : laws_eqCmd.f a c s u m d a c s u m d = some true := by
  unfold laws_eqCmd.f
  simp
theorem FnExactCmdGet : laws_FnExactCmdGet.Pure := by
  intro t ht
  refine Ev.rnd ?_
  unfold laws_FnExactCmdGet.f
  by_cases h : (t.size : Int) > 1048576
  · exact Ev.iteT h (Ev.now true)
  · refine Ev.iteF h (Ev.bind (specGet_ev t (by omega)) (Ev.bind (implGet_ev t (by omega)) (Ev.bindc (eqCmd_at _ _ _ _ _ _) ?_)))
    exact Ev.iteT rfl (Ev.iteT rfl (Ev.now true))
end Go.Proofs.YtllchgipnfdneaaDoor.Pure
