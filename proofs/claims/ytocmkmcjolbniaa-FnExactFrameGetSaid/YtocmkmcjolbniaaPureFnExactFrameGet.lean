/- FnExactFrameGet, behind the machine: the program's FrameGet and the reference's are one. No conditions. -/
import Derived.Test.YtocmkmcjolbniaaPx6
import Derived.Test.YtocmkmcjolbniaaFrameGet
namespace Go.Proofs.Ytocmkmcjolbniaa.Pure
open Go.RowKit Go.Proofs.Ytocmkmcjolbniaa.P Go.Proofs.Ytocmkmcjolbniaa.E Go.Proofs.Ytocmkmcjolbniaa.Num Go.Proofs.Ytocmkmcjolbniaa.Frame Go.Proofs.YtocmkmcjolbniaaW.PrintWords
set_option linter.unusedVariables false
theorem eqFrame_at (p g : Bool) (c v n : Int) (d : ByteArray) : laws_eqFrame.f p g c v n d p g c v n d = some true := by
  unfold laws_eqFrame.f
  simp
theorem FnExactFrameGet : laws_FnExactFrameGet.Pure := by
  intro t ht
  refine Ev.rnd ?_
  unfold laws_FnExactFrameGet.f
  by_cases h : (t.size : Int) > 1048576
  · exact Ev.iteT h (Ev.now true)
  · refine Ev.iteF h (Ev.bind (specGet_ev t (by omega)) (Ev.bind (implGet_ev t (by omega)) (Ev.bindc (eqFrame_at _ _ _ _ _ _) ?_)))
    exact Ev.iteT rfl (Ev.iteF (by simp) (Ev.now true))
end Go.Proofs.Ytocmkmcjolbniaa.Pure
