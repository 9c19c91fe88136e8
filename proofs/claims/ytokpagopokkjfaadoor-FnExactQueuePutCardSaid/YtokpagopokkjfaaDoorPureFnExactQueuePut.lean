/- FnExactQueuePut, behind the machine: the program's QueuePut and the reference's are one. No conditions. -/
import Derived.Test.YtokpagopokkjfaaDoorPx18
import Derived.Test.YtokpagopokkjfaaDoorQueuePut
import Derived.Test.YtokpagopokkjfaaDoorQFnExactQueuePut
namespace Go.Proofs.YtokpagopokkjfaaDoor.Pure
open Go.RowKit Go.Proofs.YtokpagopokkjfaaDoor.P Go.Proofs.YtokpagopokkjfaaDoor.E Go.Proofs.YtokpagopokkjfaaDoor.Lists Go.Proofs.YtokpagopokkjfaaDoor.Queue Go.Proofs.YtokpagopokkjfaaDoorW.PrintWords
set_option linter.unusedSimpArgs false
set_option linter.unusedVariables false
theorem FnExactQueuePut : Go.Proofs.YtokpagopokkjfaaDoor.QFnExactQueuePut.Pure := by
  intro l n x hl hs _ _
  refine Ev.rounds ?_
  unfold laws_FnExactQueuePut.f
  by_cases hx : (x.size : Int) > 1048576
  · exact Ev.iteT hx (Ev.now true)
  refine Ev.iteF hx ?_
  obtain ⟨r, er, hr⟩ := szQueue_any l n hl hs
  refine Ev.bind er ?_
  by_cases h : r < 0
  · exact Ev.iteT h (Ev.now true)
  · have hS := hr (by omega)
    have hl1 := hS.1
    have hT := putR_short l n x
    refine Ev.iteF h ?_
    refine Ev.bind (toQueue_ev l n hS) ?_
    refine Ev.bind (specPut_ev l n x hS (by omega)) ?_
    refine Ev.bind (toQueue_ev l n hS) ?_
    have im := implPut_ev l n x hS (by omega)
    refine Ev.bind im ?_
    generalize putR l n x = g at hT im ⊢
    obtain ⟨gl, gn, go⟩ := g
    simp only at hT
    refine Ev.bind (eqSame_ev gl gn (by omega)) ?_
    refine Ev.iteT rfl ?_
    have e0 : (go != go) = false := by simp
    show Ev (fun k => laws_FnExactQueuePut.j0 k x go go (go != go) l n gl gn l n gl gn) true
    rw [e0]
    refine Ev.step (fun k => by rw [laws_FnExactQueuePut.j0]) ?_
    refine Ev.iteF (by simp) ?_
    refine Ev.bind (toQueue_ev l n hS) ?_
    refine Ev.bind (eqSame_ev l n (by omega)) ?_
    refine Ev.iteT rfl ?_
    refine Ev.bind (markQueue_ev l n 1 (by omega) (by omega) (by omega)) ?_
    refine Ev.iteF (show ¬ ((1 : Int) + (l.length : Int) < 0) by omega) ?_
    refine Ev.bind (eqSame_ev gl gn (by omega)) ?_
    refine Ev.iteT rfl ?_
    rw [e0]
    refine Ev.step (fun k => by rw [laws_FnExactQueuePut.j1]) ?_
    refine Ev.iteF (by simp) ?_
    refine Ev.bind (markQueue_ev gl gn 1 (by omega) (by omega) (by omega)) ?_
    refine Ev.bind (heldQueue_ev gl.length gn 1 (by omega) (by omega) (by omega)) ?_
    refine Ev.iteF (by omega) (Ev.iteT rfl ?_)
    refine Ev.bind (toQueue_ev l n hS) ?_
    refine Ev.bind im ?_
    refine Ev.bind (eqSame_ev gl gn (by omega)) ?_
    refine Ev.iteT rfl ?_
    show Ev (fun k => laws_FnExactQueuePut.j2 k ((1 : Int) + (gl.length : Int)) (go != go) (mkStr 1 gl.length) gn) true
    rw [e0]
    refine Ev.step (fun k => by rw [laws_FnExactQueuePut.j2]) ?_
    refine Ev.iteF (by simp) ?_
    refine Ev.bind (heldQueue_ev gl.length gn 1 (by omega) (by omega) (by omega)) ?_
    exact Ev.iteF (by omega) (Ev.iteT rfl (Ev.now true))
end Go.Proofs.YtokpagopokkjfaaDoor.Pure
