/- Whose turn it is: the program's and the reference's are one. No conditions. -/
import Derived.Test.YtcenmlpfbpogoaaDoorPx20
import Derived.Test.YtcenmlpfbpogoaaDoorConfTurnI
namespace Go.Proofs.YtcenmlpfbpogoaaDoor.Conf
open Go.RowKit Go.Proofs.YtcenmlpfbpogoaaDoor.P Go.Proofs.YtcenmlpfbpogoaaDoor.E Go.Proofs.YtcenmlpfbpogoaaDoor.OpsOk Go.Proofs.YtcenmlpfbpogoaaDoorW.PrintWords
set_option linter.unusedSimpArgs false
set_option linter.unusedVariables false
theorem specTurn_ev (a0 a1 : Int) (l2 : IOps) (l3 l4 l5 l6 l7 : List Int) (l8 : List S78) (a9 mode turn : Int) (h : Small l2 l3 l4 l5 l6 l7 l8) :
    Ev (fun k => spec_ConfTurn.f k a0 a1 l2 l3 l4 l5 l6 l7 l8 a9 mode turn) (turnR a0 a1 l2 l3 l4 l5 l6 l7 l8 a9 mode turn) := by
  have h5 := h.2.2.2.1
  unfold spec_ConfTurn.f turnR
  refine Ev.bind (specCheck_ev a0 a1 l2 l3 l4 l5 l6 l7 l8 a9 h) ?_
  by_cases c : (wrong a0 a1 l2 l3 l4 l5 l6 l7 l8 a9).getD 0 = 0
  · have h6 := wrong_turns c
    refine Ev.iteT c (Ev.bindc (l1In_at _ _ _) ?_)
    rw [wrap64_id (by omega) (by omega)]
    by_cases m : inB mode 0 1 = true
    · have m' := inB_iff.1 m
      refine Ev.iteT m (Ev.bindc (l1In_at _ _ _) ?_)
      by_cases b : inB turn 0 ((l5.length : Int) - 1) = true
      · have b' := inB_iff.1 b
        have cb : ((wrong a0 a1 l2 l3 l4 l5 l6 l7 l8 a9).getD 0 = 0 ∧ inB turn 0 ((l5.length : Int) - 1) = true) := ⟨c, b⟩
        rw [if_pos cb]
        refine Ev.iteT b ?_
        unfold spec_l11Turn.f
        by_cases m1 : mode = 1
        · rw [if_pos m1, if_pos (by omega), if_pos (by omega), if_neg (by omega), if_pos m1]
          exact Ev.now _
        · rw [if_neg m1, if_pos (by omega), if_pos (by omega), if_pos (by omega)]
          exact Ev.now _
      · rw [if_neg (show ¬ ((wrong a0 a1 l2 l3 l4 l5 l6 l7 l8 a9).getD 0 = 0 ∧ inB turn 0 ((l5.length : Int) - 1) = true) from fun x => b x.2)]
        exact Ev.iteF b (Ev.now _)
    · have e : ¬ (mode = 0) ∧ ¬ (mode = 1) := by
        constructor <;> intro e <;> exact m (inB_iff.2 (by omega))
      rw [if_neg e.1, if_neg e.2, ite_self]
      exact Ev.iteF m (Ev.now _)
  · rw [if_neg (show ¬ ((wrong a0 a1 l2 l3 l4 l5 l6 l7 l8 a9).getD 0 = 0 ∧ inB turn 0 ((l5.length : Int) - 1) = true) from fun x => c x.1)]
    exact Ev.iteF c (Ev.now _)
end Go.Proofs.YtcenmlpfbpogoaaDoor.Conf
