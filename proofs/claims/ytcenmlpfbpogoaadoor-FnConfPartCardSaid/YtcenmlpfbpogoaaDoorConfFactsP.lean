/- What holds of a craft that is right, in plain Lean. No conditions. -/
import Derived.Test.YtcenmlpfbpogoaaDoorPx0
import Derived.Test.YtcenmlpfbpogoaaDoorConfPart
namespace Go.Proofs.YtcenmlpfbpogoaaDoor.Conf
open Go.RowKit Go.Proofs.YtcenmlpfbpogoaaDoor.P Go.Proofs.YtcenmlpfbpogoaaDoor.E Go.Proofs.YtcenmlpfbpogoaaDoor.OpsOk Go.Proofs.YtcenmlpfbpogoaaDoorW.PrintWords
set_option linter.unusedSimpArgs false
set_option linter.unusedVariables false
theorem wrong_facts {a0 a1 : Int} {l2 : IOps} {l3 l4 l5 l6 l7 : List Int} {l8 : List S78} {a9 : Int} (h : (wrong a0 a1 l2 l3 l4 l5 l6 l7 l8 a9).getD 0 = 0) : turnsB l5 l6 l2.length = true ∧ apidsB l3 = true := by
  unfold wrong at h
  split at h
  · unfold wrong2 at h
    split at h
    · unfold wrong3 at h
      split at h
      · rename_i ha
        simp only [Bool.and_eq_true] at ha
        unfold wrong4 at h
        split at h
        · unfold wrong5 at h
          split at h
          · rename_i ht
            exact ⟨ht, ha.2⟩
          · exact absurd h (by decide)
        · exact absurd h (by decide)
      · exact absurd h (by decide)
    · exact absurd h (by decide)
  · exact absurd h (by decide)
theorem mem_getD {l : List Int} {i : Nat} (h : i < l.length) : l.getD i 0 ∈ l := by
  rw [List.getD_eq_getElem?_getD, List.getElem?_eq_getElem h]
  exact List.getElem_mem _
theorem idx_cases (v : Int) : ∀ (l : List Int) (i : Nat), idx v l i = -1 ∨ ∃ j, j < l.length ∧ idx v l i = ((i + j : Nat) : Int) ∧ l.getD j 0 = v := by
  intro l
  induction l with
  | nil => intro i; exact .inl rfl
  | cons x r ih =>
    intro i
    unfold idx
    by_cases h : v = x
    · rw [if_pos h]
      exact .inr ⟨0, by simp, rfl, h.symm⟩
    · rw [if_neg h]
      rcases ih (i + 1) with h1 | ⟨j, h1, h2, h3⟩
      · exact .inl h1
      · exact .inr ⟨j + 1, by simp; omega, by rw [h2]; congr 1; omega, by simpa using h3⟩
theorem idx_none (v : Int) : ∀ (l : List Int) (i : Nat), v ∉ l → idx v l i = -1 := by
  intro l i h
  rcases idx_cases v l i with h1 | ⟨j, h1, h2, h3⟩
  · exact h1
  · exact absurd (h3 ▸ mem_getD h1) h
theorem idx_first (v : Int) : ∀ (l : List Int) (i j : Nat), j < l.length → l.getD j 0 = v → v ∉ l.take j → idx v l i = ((i + j : Nat) : Int) := by
  intro l
  induction l with
  | nil => intro i j h; exact absurd h (by simp)
  | cons x r ih =>
    intro i j hj hv hn
    unfold idx
    cases j with
    | zero =>
      rw [if_pos (by simpa using hv.symm)]
      rfl
    | succ j =>
      have hx : ¬ v = x := fun e => hn (by rw [List.take_succ_cons]; exact List.mem_cons.2 (.inl e))
      rw [if_neg hx, ih (i + 1) j (by simpa using hj) (by simpa using hv) (fun hm => hn (by rw [List.take_succ_cons]; exact List.mem_cons_of_mem _ hm))]
      congr 1
      omega
theorem apids_facts {l3 : List Int} (h : apidsB l3 = true) : (0 : Int) ∉ l3 ∧ ∀ i, i < l3.length → idx (l3.getD i 0) l3 0 = (i : Int) := by
  unfold apidsB at h
  rw [Bool.and_eq_true] at h
  obtain ⟨h1, h2⟩ := h
  refine ⟨fun hm => ?_, fun i hi => ?_⟩
  · have h3 : inB (0 : Int) 1 2046 = true := (List.all_eq_true.1 h1) _ hm
    exact absurd h3 (by decide)
  · have := (List.all_eq_true.1 h2) i (List.mem_range.2 hi)
    unfold newB at this
    rw [Bool.not_eq_true', decide_eq_false_iff_not] at this
    rw [idx_first _ l3 0 i hi rfl this, Nat.zero_add]
theorem wf_of_u8 {l : List Int} (h : ∀ x ∈ l, 0 ≤ x ∧ x ≤ 255) : ∀ x ∈ l, (Lit.int .u8 x).wf = true := by
  intro x hx
  obtain ⟨h0, h1⟩ := h x hx
  simp [Lit.wf, IntKind.min, IntKind.max, IntKind.signed, IntKind.bits]
  omega
end Go.Proofs.YtcenmlpfbpogoaaDoor.Conf
