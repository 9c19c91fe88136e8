/- Plain facts on the laws' helpers over lists of texts: copies are the list, equal is equal. No conditions. -/
import Derived.Test.YtbldbjfmibhffaaDoorPx10
import Derived.Test.YtbldbjfmibhffaaDoorText
namespace Go.Proofs.YtbldbjfmibhffaaDoor.Lists
open Go.RowKit Go.Proofs.YtbldbjfmibhffaaDoor.P Go.Proofs.YtbldbjfmibhffaaDoor.E Go.Proofs.YtbldbjfmibhffaaDoor.Num Go.Proofs.YtbldbjfmibhffaaDoorW.PrintWords
set_option linter.unusedSimpArgs false
set_option linter.unusedVariables false
/-- All texts are short. -/
def Short (l : List ByteArray) : Prop := l.length ≤ 1048576 ∧ ∀ s ∈ l, s.size ≤ 1048576
theorem eqStringS_ev (a b : List ByteArray) (hl : a.length ≤ 9223372036854775806) : Ev (fun k => laws_eqStringS.f k a b) (decide (a = b)) := by
  unfold laws_eqStringS.f
  by_cases h : a.length = b.length
  · refine Ev.iteT (by omega) ?_
    refine Ev.eq (Ev.all (L := fun k i => laws_eqStringS.l0 k a b i) a.length 0 (fun i => decide (a.getD i ByteArray.empty = b.getD i ByteArray.empty)) (b := true) (fun i hi k _ => ?_) (fun k _ => ?_)) ?_
    · show laws_eqStringS.l0 (k + 1) a b i = _
      rw [laws_eqStringS.l0, if_pos (by omega), if_pos (by omega), if_pos (by omega), wrap_succ (by omega)]
      simp [rdOf, str_eq]
    · show laws_eqStringS.l0 (k + 1) a b a.length = _
      rw [laws_eqStringS.l0, if_neg (by omega)]
    · rw [all_eq a b ByteArray.empty h, Bool.and_true]
  · refine Ev.iteF (by omega) (Ev.eq (Ev.now false) ?_)
    rw [eq_comm, decide_eq_false_iff_not]
    rintro rfl
    exact h rfl
end Go.Proofs.YtbldbjfmibhffaaDoor.Lists
