/- Plain facts on the laws' helpers over lists of numbers: copies are the list, equal is equal. No conditions. -/
import Derived.Test.YtcenmlpfbpogoaaDoorPx1
import Derived.Test.YtcenmlpfbpogoaaDoorPx3
import Derived.Test.YtcenmlpfbpogoaaDoorEv
namespace Go.Proofs.YtcenmlpfbpogoaaDoor.Lists
open Go.RowKit Go.Proofs.YtcenmlpfbpogoaaDoor.P Go.Proofs.YtcenmlpfbpogoaaDoor.E Go.Proofs.YtcenmlpfbpogoaaDoorW.PrintWords
set_option linter.unusedSimpArgs false
set_option linter.unusedVariables false

/-! ### numbers -/
theorem szIntS_at (l : List Int) (n : Int) (h0 : 0 ≤ n) (h1 : n ≤ 1048576) (hl : l.length ≤ 9223372036854775807) : laws_szIntS.f l n = some (if n - l.length < 0 then -1 else n - l.length) := by
  unfold laws_szIntS.f
  rw [wrap64_id (by omega) (by omega)]
  split <;> rfl
theorem toIntS_ev (l : List Int) (hl : l.length ≤ 1048576) : Ev (fun k => laws_toIntS.f k l) l := by
  unfold laws_toIntS.f
  refine Ev.iteT (by omega) (Ev.iteT (by simp; omega) ?_)
  refine Ev.eq (Ev.fill (L := fun k ys i => laws_toIntS.l0 k l ys i) l.length 0 (fun i => l.getD i 0) _ (by simp) (fun i hi k _ zs hz => ?_) (fun k _ zs hz => ?_)) ?_
  · show laws_toIntS.l0 (k + 1) l zs i = _
    rw [laws_toIntS.l0, if_pos (by omega), if_pos (by omega), if_pos (by omega), wrap_succ (by omega)]
    simp [rd]
  · show laws_toIntS.l0 (k + 1) l zs l.length = _
    rw [laws_toIntS.l0, if_neg (by omega)]
  · simpa using map_range_getD l 0 id
theorem eqIntS_ev (a b : List Int) (hl : a.length ≤ 9223372036854775806) : Ev (fun k => laws_eqIntS.f k a b) (decide (a = b)) := by
  unfold laws_eqIntS.f
  by_cases h : a.length = b.length
  · refine Ev.iteT (by omega) ?_
    refine Ev.eq (Ev.all (L := fun k i => laws_eqIntS.l0 k a b i) a.length 0 (fun i => decide (a.getD i 0 = b.getD i 0)) (b := true) (fun i hi k _ => ?_) (fun k _ => ?_)) ?_
    · show laws_eqIntS.l0 (k + 1) a b i = _
      rw [laws_eqIntS.l0, if_pos (by omega), if_pos (by omega), if_pos (by omega), wrap_succ (by omega)]
      simp [rd]
    · show laws_eqIntS.l0 (k + 1) a b a.length = _
      rw [laws_eqIntS.l0, if_neg (by omega)]
    · rw [all_eq a b 0 h, Bool.and_true]
  · refine Ev.iteF (by omega) (Ev.eq (Ev.now false) ?_)
    rw [eq_comm, decide_eq_false_iff_not]
    rintro rfl
    exact h rfl
end Go.Proofs.YtcenmlpfbpogoaaDoor.Lists
