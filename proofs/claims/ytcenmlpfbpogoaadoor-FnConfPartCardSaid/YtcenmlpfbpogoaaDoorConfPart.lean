/- The program that has a number: the program's and the reference's are one. No conditions. -/
import Derived.Test.YtcenmlpfbpogoaaDoorPx18
import Derived.Test.YtcenmlpfbpogoaaDoorConfOkI
namespace Go.Proofs.YtcenmlpfbpogoaaDoor.Conf
open Go.RowKit Go.Proofs.YtcenmlpfbpogoaaDoor.P Go.Proofs.YtcenmlpfbpogoaaDoor.E Go.Proofs.YtcenmlpfbpogoaaDoor.OpsOk Go.Proofs.YtcenmlpfbpogoaaDoorW.PrintWords
set_option linter.unusedSimpArgs false
set_option linter.unusedVariables false
/-- The program that has a number for packets. -/
def partR (a0 a1 : Int) (l2 : IOps) (l3 l4 l5 l6 l7 : List Int) (l8 : List S78) (a9 v : Int) : Int := if (wrong a0 a1 l2 l3 l4 l5 l6 l7 l8 a9).getD 0 = 0 then idx v l3 0 else -1
theorem implPart_ev (a0 a1 : Int) (l2 : IOps) (l3 l4 l5 l6 l7 : List Int) (l8 : List S78) (a9 v : Int) (h : Small l2 l3 l4 l5 l6 l7 l8) :
    Ev (fun k => impl_ConfPart.f k a0 a1 l2 l3 l4 l5 l6 l7 l8 a9 v) (partR a0 a1 l2 l3 l4 l5 l6 l7 l8 a9 v) := by
  unfold impl_ConfPart.f partR
  refine Ev.bind (implCheck_ev a0 a1 l2 l3 l4 l5 l6 l7 l8 a9 h) ?_
  by_cases c : (wrong a0 a1 l2 l3 l4 l5 l6 l7 l8 a9).getD 0 = 0
  · rw [if_pos c]
    exact Ev.iteT c (Ev.bind (index_ev l3 v h.2.1) (Ev.now _))
  · rw [if_neg c]
    exact Ev.iteF c (Ev.now _)
theorem specPart_loop (v a0 a1 : Int) (l2 : IOps) (l3 l4 l5 l6 l7 : List Int) (l8 : List S78) (a9 : Int) (h3 : l3.length ≤ 1048576) :
    ∀ (d i : Nat), i + d = l3.length → Ev (fun k => spec_l11Part.l0 k v (i : Int) a0 a1 l2 l3 l4 l5 l6 l7 l8 a9) (idx v (l3.drop i) i) := by
  intro d
  induction d with
  | zero =>
    intro i hd
    rw [List.drop_of_length_le (by omega)]
    refine Ev.step (fun k => by rw [spec_l11Part.l0]) ?_
    exact Ev.iteF (by omega) (Ev.now _)
  | succ d ih =>
    intro i hd
    have hil : i < l3.length := by omega
    refine Ev.step (fun k => by rw [spec_l11Part.l0]) ?_
    refine Ev.iteT (by omega) (Ev.iteT (by omega) ?_)
    have e : rd l3 (i : Int) = l3[i] := by rw [rdN]; simp [List.getD, hil]
    rw [e, List.drop_eq_getElem_cons hil, idx]
    by_cases h : v = l3[i]
    · rw [if_pos h]
      exact Ev.iteT h.symm (Ev.now _)
    · rw [if_neg h]
      refine Ev.iteF (fun x => h x.symm) ?_
      rw [wrap_succ (by omega)]
      exact ih (i + 1) (by omega)
theorem specPart_ev (a0 a1 : Int) (l2 : IOps) (l3 l4 l5 l6 l7 : List Int) (l8 : List S78) (a9 v : Int) (h : Small l2 l3 l4 l5 l6 l7 l8) :
    Ev (fun k => spec_ConfPart.f k a0 a1 l2 l3 l4 l5 l6 l7 l8 a9 v) (partR a0 a1 l2 l3 l4 l5 l6 l7 l8 a9 v) := by
  unfold spec_ConfPart.f partR
  refine Ev.bind (specCheck_ev a0 a1 l2 l3 l4 l5 l6 l7 l8 a9 h) ?_
  by_cases c : (wrong a0 a1 l2 l3 l4 l5 l6 l7 l8 a9).getD 0 = 0
  · rw [if_pos c]
    refine Ev.iteT c (Ev.bind ?_ (Ev.now _))
    unfold spec_l11Part.f
    exact specPart_loop v a0 a1 l2 l3 l4 l5 l6 l7 l8 a9 h.2.1 l3.length 0 (by omega)
  · rw [if_neg c]
    exact Ev.iteF c (Ev.now _)
end Go.Proofs.YtcenmlpfbpogoaaDoor.Conf
