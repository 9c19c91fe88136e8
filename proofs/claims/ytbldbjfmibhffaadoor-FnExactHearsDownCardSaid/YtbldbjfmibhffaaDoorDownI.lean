/- A frame down in bytes, in plain Lean: the program's and the reference's are one. No conditions. -/
import Derived.Test.YtbldbjfmibhffaaDoorPx2
import Derived.Test.YtbldbjfmibhffaaDoorPx7
import Derived.Test.YtbldbjfmibhffaaDoorFarm
namespace Go.Proofs.YtbldbjfmibhffaaDoor.Down
open Go.RowKit Go.Proofs.YtbldbjfmibhffaaDoor.P Go.Proofs.YtbldbjfmibhffaaDoor.E Go.Proofs.YtbldbjfmibhffaaDoor.Num Go.Proofs.YtbldbjfmibhffaaDoor.Farm Go.Proofs.YtbldbjfmibhffaaDoorW.PrintWords
set_option linter.unusedSimpArgs false
set_option linter.unusedVariables false
def firstB (f : Int) : Bool := inB f 0 27 || (decide (f = 2047) || decide (f = 2046))
def downB (c w a o f : Int) (d fm : ByteArray) : Bool := (farmGet fm).2.2.2.2.2 && (inB c 0 1023 && (inB w 0 7 && (inB a 0 255 && (inB o 0 255 && (firstB f && decide ((d.size : Int) = 28))))))
def downT (c w a o f : Int) (d fm : ByteArray) : ByteArray := bs (c * 16 + w * 2 + 1).toNat 2 ++ bs a.toNat 1 ++ bs o.toNat 1 ++ bs (6144 + f).toNat 2 ++ d ++ fm
theorem downB_range {c w a o f : Int} {d fm : ByteArray} (h : downB c w a o f d fm = true) : (0 ≤ c ∧ c ≤ 1023) ∧ (0 ≤ w ∧ w ≤ 7) ∧ (0 ≤ a ∧ a ≤ 255) ∧ (0 ≤ o ∧ o ≤ 255) ∧ (0 ≤ f ∧ f ≤ 2047) ∧ d.size = 28 ∧ fm.size = 4 := by
  unfold downB firstB at h
  simp only [Bool.and_eq_true, Bool.or_eq_true, inB_true, decide_eq_true_eq] at h
  obtain ⟨h0, h1, h2, h3, h4, h5, h6⟩ := h
  refine ⟨h1, h2, h3, h4, by omega, by omega, farmGet_size h0⟩
theorem beq_dec (x y : Int) : (x == y) = decide (x = y) := by
  by_cases h : x = y
  · rw [decide_eq_true h, beq_iff_eq.2 h]
  · rw [decide_eq_false h, beq_eq_false_iff_ne.2 h]
theorem specOk_ev (c w a o f : Int) (d fm : ByteArray) : Ev (fun k => spec_l12Ok.f k c w a o f d fm) (downB c w a o f d fm) := by
  unfold spec_l12Ok.f
  refine Ev.bind (specGet_ev fm) ?_
  unfold downB
  cases h0 : (farmGet fm).2.2.2.2.2 with
  | false => exact Ev.iteF (by simp) (Ev.now _)
  | true =>
    refine Ev.iteT rfl (Ev.bindc (l1In_at _ _ _) ?_)
    cases inB c 0 1023 with
    | false => exact Ev.iteF (by simp) (Ev.now _)
    | true =>
      refine Ev.iteT rfl (Ev.bindc (l1In_at _ _ _) ?_)
      cases inB w 0 7 with
      | false => exact Ev.iteF (by simp) (Ev.now _)
      | true =>
        refine Ev.iteT rfl (Ev.bindc (l1In_at _ _ _) ?_)
        cases inB a 0 255 with
        | false => exact Ev.iteF (by simp) (Ev.now _)
        | true =>
          refine Ev.iteT rfl (Ev.bindc (l1In_at _ _ _) ?_)
          cases inB o 0 255 with
          | false => exact Ev.iteF (by simp) (Ev.now _)
          | true =>
            refine Ev.iteT rfl (Ev.bindc (l1In_at _ _ _) ?_)
            unfold firstB
            rw [beq_dec]
            cases inB f 0 27 with
            | true => exact Ev.iteT rfl (Ev.now _)
            | false =>
              refine Ev.iteF (by simp) ?_
              by_cases h1 : f = 2047
              · rw [decide_eq_true h1]
                exact Ev.iteT h1 (Ev.now _)
              · rw [decide_eq_false h1]
                refine Ev.iteF h1 ?_
                by_cases h2 : f = 2046
                · rw [decide_eq_true h2]
                  exact Ev.iteT h2 (Ev.now _)
                · rw [decide_eq_false h2]
                  exact Ev.iteF h2 (Ev.now _)
theorem implOk_ev (c w a o f : Int) (d fm : ByteArray) : Ev (fun k => impl_downOk.f k c w a o f d fm) (downB c w a o f d fm) := by
  have rest : ∀ b : Bool, b = firstB f → Ev (fun k => impl_downOk.j0 k (farmGet fm).2.2.2.2.2 b c w a o f d fm) (downB c w a o f d fm) := by
    rintro _ rfl
    refine Ev.step (fun k => by rw [impl_downOk.j0]) ?_
    unfold downB
    cases h0 : (farmGet fm).2.2.2.2.2 with
    | false => exact Ev.iteF (by simp) (Ev.now _)
    | true =>
      refine Ev.iteT rfl ?_
      cases h1 : firstB f with
      | false => refine Ev.iteF (by simp) (Ev.eq (Ev.now _) ?_); cases inB c 0 1023 <;> cases inB w 0 7 <;> cases inB a 0 255 <;> cases inB o 0 255 <;> rfl
      | true =>
        refine Ev.iteT rfl (Ev.bindc (within_at _ _) ?_)
        cases inB c 0 1023 with
        | false => exact Ev.iteF (by simp) (Ev.now _)
        | true =>
          refine Ev.iteT rfl (Ev.bindc (within_at _ _) ?_)
          cases inB w 0 7 with
          | false => exact Ev.iteF (by simp) (Ev.now _)
          | true =>
            refine Ev.iteT rfl (Ev.bindc (within_at _ _) ?_)
            cases inB a 0 255 with
            | false => exact Ev.iteF (by simp) (Ev.now _)
            | true =>
              refine Ev.iteT rfl (Ev.bindc (within_at _ _) ?_)
              cases inB o 0 255 with
              | false => exact Ev.iteF (by simp) (Ev.now _)
              | true =>
                refine Ev.iteT rfl ?_
                rw [beq_dec]
                exact Ev.now _
  unfold impl_downOk.f
  refine Ev.bind (implGet_ev fm) (Ev.bindc (within_at _ _) ?_)
  by_cases h : inB f 0 27 = true
  · exact Ev.iteT h (rest true (by unfold firstB; rw [h]; rfl))
  · refine Ev.iteF h ?_
    have hf : inB f 0 27 = false := by simpa using h
    by_cases h1 : f = 2047
    · exact Ev.iteT h1 (rest true (by unfold firstB; rw [hf, decide_eq_true h1]; rfl))
    · exact Ev.iteF h1 (rest _ (by unfold firstB; rw [hf, decide_eq_false h1, beq_dec]; rfl))
theorem downT_size {c w a o f : Int} {d fm : ByteArray} (hd : d.size = 28) (hf : fm.size = 4) : (downT c w a o f d fm).size = 38 := by
  unfold downT
  simp only [ByteArray.size_append, bs_size]
  omega
theorem head_at {c w : Int} (hc : 0 ≤ c ∧ c ≤ 1023) (hw : 0 ≤ w ∧ w ≤ 7) : wrap64 (wrap64 (wrap64 (c * 16) + wrap64 (w * 2)) + 1) = c * 16 + w * 2 + 1 := by
  rw [wrap64_id (x := c * 16) (by omega) (by omega), wrap64_id (x := w * 2) (by omega) (by omega), wrap64_id (x := c * 16 + w * 2) (by omega) (by omega), wrap64_id (by omega) (by omega)]
end Go.Proofs.YtbldbjfmibhffaaDoor.Down
