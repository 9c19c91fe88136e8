/- FnExactPartNew, behind the machine: the program's PartNew and the reference's are one. No conditions. -/
import Derived.Test.YtmhdphohhheoaaaPx8
import Derived.Test.YtmhdphohhheoaaaPx10
import Derived.Test.YtmhdphohhheoaaaPx15
import Derived.Test.YtmhdphohhheoaaaPx25
import Derived.Test.YtmhdphohhheoaaaOpsOk
import Derived.Test.YtmhdphohhheoaaaListPart
import Derived.Test.YtmhdphohhheoaaaMarkPart
import Derived.Test.YtmhdphohhheoaaaQFnExactPartNew
namespace Go.Proofs.Ytmhdphohhheoaaa.Pure
open Go.RowKit Go.Proofs.Ytmhdphohhheoaaa.P Go.Proofs.Ytmhdphohhheoaaa.E Go.Proofs.Ytmhdphohhheoaaa.OpsOk Go.Proofs.Ytmhdphohhheoaaa.Lists Go.Proofs.YtmhdphohhheoaaaW.PrintWords
set_option linter.unusedSimpArgs false
set_option linter.unusedVariables false
def newP (l : List S53) : List S53 := if progB l = true then l else []
def newC (l : List S53) : List Int := if progB l = true then List.replicate 8 0 else []
theorem newP_le (l : List S53) (h : l.length ≤ 1048576) : (newP l).length ≤ 1048576 := by
  unfold newP
  split
  · exact h
  · simp
theorem newC_le (l : List S53) : (newC l).length ≤ 1048576 := by unfold newC; split <;> simp
theorem specNew_ev (l : List S53) (h : l.length ≤ 1048576) : Ev (fun k => spec_PartNew.f k l) (newP l, newC l, 0, false, []) := by
  unfold spec_PartNew.f newP newC
  refine Ev.bind (specProg_ev l (by omega)) ?_
  cases progB l with
  | false => exact Ev.iteF (by simp) (Ev.now _)
  | true => exact Ev.iteT rfl (Ev.bindc rfl (Ev.iteT (by simp; omega) (Ev.iteT (by omega) (Ev.now _))))
theorem implNew_ev (l : List S53) (h : l.length ≤ 1048576) : Ev (fun k => impl_PartNew.f k l) (newP l, newC l, 0, false, []) := by
  unfold impl_PartNew.f newP newC
  refine Ev.bind (implProg_ev l (by omega)) ?_
  cases progB l with
  | false => exact Ev.iteF (by simp) (Ev.now _)
  | true =>
    refine Ev.iteT rfl (Ev.bindc (x := l) ?_ (Ev.iteT (by omega) (Ev.now _)))
    unfold impl_Op.f
    simp only [Option.bind_some, List.length_nil, List.nil_append]
    rw [if_pos (by omega)]
theorem FnExactPartNew : Go.Proofs.Ytmhdphohhheoaaa.QFnExactPartNew.Pure := by
  intro l0 hl
  refine Ev.rounds ?_
  unfold laws_FnExactPartNew.f
  refine Ev.bindc (szOpS_at l0 1048576 (by omega) (by omega) hl) ?_
  by_cases h : (1048576 : Int) - l0.length < 0
  · simp only [if_pos h]
    exact Ev.iteT (by omega) (Ev.now true)
  · simp only [if_neg h]
    have hn : l0.length ≤ 1048576 := by omega
    have hm : (l0.map opOf).length ≤ 1048576 := by simp; omega
    have hp := newP_le _ hm
    have hc := newC_le (l0.map opOf)
    have heq := eqPart_ev (newP (l0.map opOf)) (newC (l0.map opOf)) 0 false [] (by omega) (by omega) (by simp)
    obtain ⟨m, p', c', b', hm0, hmark, hheld⟩ := markPart_ev (newP (l0.map opOf)) (newC (l0.map opOf)) 0 false [] hp hc (by simp)
    refine Ev.bind (toOpS_ev l0 hn) ?_
    refine Ev.bind (specNew_ev _ hm) ?_
    refine Ev.bind (toOpS_ev l0 hn) ?_
    refine Ev.bind (implNew_ev _ hm) ?_
    refine Ev.bind heq (Ev.iteT rfl ?_)
    refine Ev.bind (toOpS_ev l0 hn) ?_
    refine Ev.bind (eqOpS_ev _ _ (by omega)) (Ev.iteT (by simp) ?_)
    refine Ev.bind (markOpS_ev _ 1 (by omega) (by omega) hm) (Ev.iteF (by omega) ?_)
    refine Ev.bind heq ?_
    refine Ev.step (fun k => by rw [laws_FnExactPartNew.j0]) (Ev.iteF (by simp) ?_)
    refine Ev.bind hmark ?_
    refine Ev.bind hheld (Ev.iteF (by omega) (Ev.iteT rfl ?_))
    refine Ev.bind (toOpS_ev l0 hn) ?_
    refine Ev.bind (implNew_ev _ hm) ?_
    refine Ev.bind heq (Ev.iteT rfl ?_)
    exact Ev.bind hheld (Ev.iteF (by omega) (Ev.iteT rfl (Ev.now true)))
end Go.Proofs.Ytmhdphohhheoaaa.Pure
