/- Whose turn it is: the program's and the reference's are one. No conditions. -/
import Derived.Test.YtcenmlpfbpogoaaDoorPx15
import Derived.Test.YtcenmlpfbpogoaaDoorConfOkI
namespace Go.Proofs.YtcenmlpfbpogoaaDoor.Conf
open Go.RowKit Go.Proofs.YtcenmlpfbpogoaaDoor.P Go.Proofs.YtcenmlpfbpogoaaDoor.E Go.Proofs.YtcenmlpfbpogoaaDoor.OpsOk Go.Proofs.YtcenmlpfbpogoaaDoorW.PrintWords
set_option linter.unusedSimpArgs false
set_option linter.unusedVariables false
/-- Whose turn it is. -/
def turnR (a0 a1 : Int) (l2 : IOps) (l3 l4 l5 l6 l7 : List Int) (l8 : List S78) (a9 mode turn : Int) : Int :=
  if (wrong a0 a1 l2 l3 l4 l5 l6 l7 l8 a9).getD 0 = 0 ∧ inB turn 0 ((l5.length : Int) - 1) = true then (if mode = 0 then rd l5 turn else if mode = 1 then rd l6 turn else -1) else -1
theorem wrong_turns {a0 a1 : Int} {l2 : IOps} {l3 l4 l5 l6 l7 : List Int} {l8 : List S78} {a9 : Int} (h : (wrong a0 a1 l2 l3 l4 l5 l6 l7 l8 a9).getD 0 = 0) : l6.length = l5.length := by
  unfold wrong at h
  split at h
  · unfold wrong2 at h
    split at h
    · unfold wrong3 at h
      split at h
      · unfold wrong4 at h
        split at h
        · unfold wrong5 at h
          split at h
          · rename_i ht
            unfold turnsB at ht
            simp only [Bool.and_eq_true, decide_eq_true_eq] at ht
            omega
          · exact absurd h (by decide)
        · exact absurd h (by decide)
      · exact absurd h (by decide)
    · exact absurd h (by decide)
  · exact absurd h (by decide)
theorem inB_iff {x a b : Int} : inB x a b = true ↔ a ≤ x ∧ x ≤ b := by
  unfold inB
  rw [Bool.and_eq_true, decide_eq_true_eq, decide_eq_true_eq]
theorem implTurn_ev (a0 a1 : Int) (l2 : IOps) (l3 l4 l5 l6 l7 : List Int) (l8 : List S78) (a9 mode turn : Int) (h : Small l2 l3 l4 l5 l6 l7 l8) :
    Ev (fun k => impl_ConfTurn.f k a0 a1 l2 l3 l4 l5 l6 l7 l8 a9 mode turn) (turnR a0 a1 l2 l3 l4 l5 l6 l7 l8 a9 mode turn) := by
  have h5 := h.2.2.2.1
  unfold impl_ConfTurn.f turnR
  refine Ev.bind (implCheck_ev a0 a1 l2 l3 l4 l5 l6 l7 l8 a9 h) ?_
  by_cases c : (wrong a0 a1 l2 l3 l4 l5 l6 l7 l8 a9).getD 0 = 0
  · have h6 := wrong_turns c
    refine Ev.iteT c ?_
    rw [wrap64_id (by omega) (by omega)]
    refine Ev.bindc (within_at _ _) ?_
    refine Ev.step (fun k => by rw [impl_ConfTurn.j0]) ?_
    by_cases b : inB turn 0 ((l5.length : Int) - 1) = true
    · have b' := inB_iff.1 b
      have cb : ((wrong a0 a1 l2 l3 l4 l5 l6 l7 l8 a9).getD 0 = 0 ∧ inB turn 0 ((l5.length : Int) - 1) = true) := ⟨c, b⟩
      rw [if_pos cb, b]
      refine Ev.iteF (by simp) ?_
      by_cases m0 : mode = 0
      · rw [if_pos m0, if_pos m0]
        exact Ev.iteT (by omega) (Ev.iteT (by omega) (Ev.now _))
      · rw [if_neg m0, if_neg m0]
        by_cases m1 : mode = 1
        · rw [if_pos m1, if_pos m1]
          exact Ev.iteT (by omega) (Ev.iteT (by omega) (Ev.now _))
        · rw [if_neg m1, if_neg m1]
          exact Ev.now _
    · rw [if_neg (show ¬ ((wrong a0 a1 l2 l3 l4 l5 l6 l7 l8 a9).getD 0 = 0 ∧ inB turn 0 ((l5.length : Int) - 1) = true) from fun x => b x.2), eq_false_of_ne_true b]
      exact Ev.iteT rfl (Ev.now _)
  · rw [if_neg (show ¬ ((wrong a0 a1 l2 l3 l4 l5 l6 l7 l8 a9).getD 0 = 0 ∧ inB turn 0 ((l5.length : Int) - 1) = true) from fun x => c x.1)]
    refine Ev.iteF c ?_
    refine Ev.step (fun k => by rw [impl_ConfTurn.j0]) ?_
    exact Ev.iteT rfl (Ev.now _)
end Go.Proofs.YtcenmlpfbpogoaaDoor.Conf
