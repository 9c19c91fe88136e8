/- FnExactConfCheck, behind the machine: the program's answer and the reference's are one. No conditions. -/
import Derived.Test.YtcenmlpfbpogoaaDoorPx13
import Derived.Test.YtcenmlpfbpogoaaDoorConfOk
import Derived.Test.YtcenmlpfbpogoaaDoorQFnExactConfCheck
namespace Go.Proofs.YtcenmlpfbpogoaaDoor.Pure
open Go.RowKit Go.Proofs.YtcenmlpfbpogoaaDoor.P Go.Proofs.YtcenmlpfbpogoaaDoor.E Go.Proofs.YtcenmlpfbpogoaaDoor.OpsOk Go.Proofs.YtcenmlpfbpogoaaDoor.Lists Go.Proofs.YtcenmlpfbpogoaaDoor.Conf Go.Proofs.YtcenmlpfbpogoaaDoorW.PrintWords
set_option linter.unusedSimpArgs false
set_option linter.unusedVariables false
theorem FnExactConfCheck : Go.Proofs.YtcenmlpfbpogoaaDoor.QFnExactConfCheck.Pure := by
  intro a0 a1 l2 l3 l4 l5 l6 l7 l8 a9  _ _ h2 hi h3 _ h4 _ h5 _ h6 _ h7 _ h8 _ 
  refine Ev.rnd ?_
  unfold laws_FnExactConfCheck.f
  obtain ⟨m, hm, hs⟩ := szConf_ev a0 a1 l2 l3 l4 l5 l6 l7 l8 a9 h2 hi h3 h4 h5 h6 h7 h8
  refine Ev.bind hm ?_
  by_cases c : m < 0
  · exact Ev.iteT c (Ev.now _)
  have s := hs (by omega)
  have t := toConf_ev a0 a1 l2 l3 l4 l5 l6 l7 l8 a9 s
  refine Ev.iteF c (Ev.bind t (Ev.bind (specCheck_ev _ _ _ _ _ _ _ _ _ _ s.map) (Ev.bind t (Ev.bind (implCheck_ev _ _ _ _ _ _ _ _ _ _ s.map) (Ev.iteT rfl (Ev.bind t (Ev.bind (eqConf_ev _ _ _ _ _ _ _ _ _ _ s.map) (Ev.iteT rfl (Ev.now _)))))))))
end Go.Proofs.YtcenmlpfbpogoaaDoor.Pure
