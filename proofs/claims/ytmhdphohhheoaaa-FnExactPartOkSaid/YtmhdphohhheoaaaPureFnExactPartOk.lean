/- FnExactPartOk, behind the machine: the program's PartOk and the reference's are one. No conditions. -/
import Derived.Test.YtmhdphohhheoaaaPx12
import Derived.Test.YtmhdphohhheoaaaParts
import Derived.Test.YtmhdphohhheoaaaListPart
import Derived.Test.YtmhdphohhheoaaaQFnExactPartOk
namespace Go.Proofs.Ytmhdphohhheoaaa.Pure
open Go.RowKit Go.Proofs.Ytmhdphohhheoaaa.P Go.Proofs.Ytmhdphohhheoaaa.E Go.Proofs.Ytmhdphohhheoaaa.Parts Go.Proofs.Ytmhdphohhheoaaa.Lists Go.Proofs.YtmhdphohhheoaaaW.PrintWords
set_option linter.unusedSimpArgs false
set_option linter.unusedVariables false
theorem FnExactPartOk : Go.Proofs.Ytmhdphohhheoaaa.QFnExactPartOk.Pure := by
  intro p c a f b hp hc _ _ hb _
  refine Ev.rounds ?_
  unfold laws_FnExactPartOk.f
  obtain ⟨n, hn, hs⟩ := szPart_at p c a f b hp hc hb
  refine Ev.bindc hn ?_
  by_cases h : n < 0
  · exact Ev.iteT h (Ev.now true)
  · obtain ⟨h1, h2, h3⟩ := hs (by omega)
    have hm : (p.map opOf).length ≤ 9223372036854775806 := by simp; omega
    refine Ev.iteF h ?_
    refine Ev.bind (toPart_ev p c a f b h1 h2 h3) ?_
    refine Ev.bind (specPart_ev _ c a f b hm (by omega) (by omega)) ?_
    refine Ev.bind (toPart_ev p c a f b h1 h2 h3) ?_
    refine Ev.bind (implPart_ev _ c a f b hm (by omega) (by omega)) ?_
    refine Ev.iteF (by simp) ?_
    refine Ev.bind (toPart_ev p c a f b h1 h2 h3) ?_
    refine Ev.bind (eqPart_ev _ c a f b hm (by omega) (by omega)) ?_
    exact Ev.iteT rfl (Ev.now true)
end Go.Proofs.Ytmhdphohhheoaaa.Pure
