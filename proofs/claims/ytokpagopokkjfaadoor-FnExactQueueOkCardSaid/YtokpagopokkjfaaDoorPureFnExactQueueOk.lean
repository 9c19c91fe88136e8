/- FnExactQueueOk, behind the machine: the program's QueueOk and the reference's are one. No conditions. -/
import Derived.Test.YtokpagopokkjfaaDoorPx9
import Derived.Test.YtokpagopokkjfaaDoorPx17
import Derived.Test.YtokpagopokkjfaaDoorQueueOk
import Derived.Test.YtokpagopokkjfaaDoorQFnExactQueueOk
namespace Go.Proofs.YtokpagopokkjfaaDoor.Pure
open Go.RowKit Go.Proofs.YtokpagopokkjfaaDoor.P Go.Proofs.YtokpagopokkjfaaDoor.E Go.Proofs.YtokpagopokkjfaaDoor.Lists Go.Proofs.YtokpagopokkjfaaDoor.Queue Go.Proofs.YtokpagopokkjfaaDoorW.PrintWords
set_option linter.unusedSimpArgs false
set_option linter.unusedVariables false
theorem FnExactQueueOk : Go.Proofs.YtokpagopokkjfaaDoor.QFnExactQueueOk.Pure := by
  intro l n hl hs _
  refine Ev.rounds ?_
  unfold laws_FnExactQueueOk.f
  by_cases hl2 : l.length ≤ 9223372036854775806
  · obtain ⟨r, er, hr⟩ := szQueue_ev l n hl2 hs
    refine Ev.bind er ?_
    by_cases h : r < 0
    · exact Ev.iteT h (Ev.now true)
    · have hS := hr (by omega)
      refine Ev.iteF h ?_
      refine Ev.bind (toQueue_ev l n hS) ?_
      refine Ev.bind (specOk_ev l n hS) ?_
      refine Ev.bind (toQueue_ev l n hS) ?_
      refine Ev.bind (implOk_ev l n hS) ?_
      refine Ev.iteF (by simp) ?_
      refine Ev.bind (toQueue_ev l n hS) ?_
      refine Ev.bind (eqQueue_ev l l n n hl2) ?_
      exact Ev.iteT (by simp) (Ev.now true)
  · have e : Ev (fun k => laws_szQueue.f k l n 1048576) (-1) := by
      unfold laws_szQueue.f laws_szStringS.f
      have e1 : Ev (fun k => if (wrap64 (1048576 - (l.length : Int))) < 0 then some (-1) else laws_szStringS.l0 k l (wrap64 (1048576 - (l.length : Int))) 0) (-1) := Ev.iteT (by rw [wrap64_id (by omega) (by omega)]; omega) (Ev.now _)
      exact Ev.bind e1 (Ev.iteT (by omega) (Ev.now _))
    exact Ev.bind e (Ev.iteT (by omega) (Ev.now true))
end Go.Proofs.YtokpagopokkjfaaDoor.Pure
