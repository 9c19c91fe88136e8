/- What holds of a craft that is right, in plain Lean. No conditions. -/
import Derived.Test.YtcenmlpfbpogoaaDoorPx15
import Derived.Test.YtcenmlpfbpogoaaDoorConfTurnI
namespace Go.Proofs.YtcenmlpfbpogoaaDoor.Conf
open Go.RowKit Go.Proofs.YtcenmlpfbpogoaaDoor.P Go.Proofs.YtcenmlpfbpogoaaDoor.E Go.Proofs.YtcenmlpfbpogoaaDoor.OpsOk Go.Proofs.YtcenmlpfbpogoaaDoorW.PrintWords
set_option linter.unusedSimpArgs false
set_option linter.unusedVariables false
theorem wrong_facts {a0 a1 : Int} {l2 : IOps} {l3 l4 l5 l6 l7 : List Int} {l8 : List S78} {a9 : Int} (h : (wrong a0 a1 l2 l3 l4 l5 l6 l7 l8 a9).getD 0 = 0) : turnsB l5 l6 l2.length = true ∧ apidsB l3 = true := by
  unfold wrong at h
  split at h
  · unfold wrong2 at h
    split at h
    · unfold wrong3 at h
      split at h
      · rename_i ha
        simp only [Bool.and_eq_true] at ha
        unfold wrong4 at h
        split at h
        · unfold wrong5 at h
          split at h
          · rename_i ht
            exact ⟨ht, ha.2⟩
          · exact absurd h (by decide)
        · exact absurd h (by decide)
      · exact absurd h (by decide)
    · exact absurd h (by decide)
  · exact absurd h (by decide)
theorem wrong_range (a0 a1 : Int) (l2 : IOps) (l3 l4 l5 l6 l7 : List Int) (l8 : List S78) (a9 : Int) : 0 ≤ (wrong a0 a1 l2 l3 l4 l5 l6 l7 l8 a9).getD 0 ∧ (wrong a0 a1 l2 l3 l4 l5 l6 l7 l8 a9).getD 0 ≤ 8 := by
  unfold wrong wrong2 wrong3 wrong4 wrong5 wrong6 wrong7
  repeat' split
  all_goals decide
theorem skIn_at (x lo hi : Int) : laws_skIn.f x lo hi = some (inB x lo hi) := by
  unfold laws_skIn.f inB
  by_cases h : x ≥ lo
  · rw [if_pos h, decide_eq_true (show lo ≤ x from h), Bool.true_and]
  · rw [if_neg h, decide_eq_false (show ¬ lo ≤ x from h), Bool.false_and]
theorem mem_getD {l : List Int} {i : Nat} (h : i < l.length) : l.getD i 0 ∈ l := by
  rw [List.getD_eq_getElem?_getD, List.getElem?_eq_getElem h]
  exact List.getElem_mem _
theorem turns_in {l5 l6 : List Int} {n : Nat} (h : turnsB l5 l6 n = true) : l6.length = l5.length ∧ ∀ i, i < l5.length → inB (l5.getD i 0) (-1) ((n : Int) - 1) = true ∧ inB (l6.getD i 0) (-1) ((n : Int) - 1) = true := by
  unfold turnsB at h
  simp only [Bool.and_eq_true, decide_eq_true_eq] at h
  obtain ⟨_, h6, ha, hb⟩ := h
  refine ⟨by omega, fun i hi => ⟨?_, ?_⟩⟩
  · exact (List.all_eq_true.1 ha) _ (mem_getD hi)
  · exact (List.all_eq_true.1 hb) _ (mem_getD (by omega))
theorem wf_of_u8 {l : List Int} (h : ∀ x ∈ l, 0 ≤ x ∧ x ≤ 255) : ∀ x ∈ l, (Lit.int .u8 x).wf = true := by
  intro x hx
  obtain ⟨h0, h1⟩ := h x hx
  simp [Lit.wf, IntKind.min, IntKind.max, IntKind.signed, IntKind.bits]
  omega
end Go.Proofs.YtcenmlpfbpogoaaDoor.Conf
