/- Plain facts on the laws' helpers over lists of ops: copies are the list, equal is equal. No conditions. -/
import Derived.Test.YtcenmlpfbpogoaaDoorPx1
import Derived.Test.YtcenmlpfbpogoaaDoorPx2
import Derived.Test.YtcenmlpfbpogoaaDoorEv
namespace Go.Proofs.YtcenmlpfbpogoaaDoor.Lists
open Go.RowKit Go.Proofs.YtcenmlpfbpogoaaDoor.P Go.Proofs.YtcenmlpfbpogoaaDoor.E Go.Proofs.YtcenmlpfbpogoaaDoorW.PrintWords
set_option linter.unusedSimpArgs false
set_option linter.unusedVariables false

/-! ### ops -/
def opOf (x : S109) : S107 := ⟨x.f0, x.f1, x.f2⟩
theorem s107_ext {a b : S107} (h0 : a.f0 = b.f0) (h1 : a.f1 = b.f1) (h2 : a.f2 = b.f2) : a = b := by
  cases a; cases b; simp_all
instance : DecidableEq S107 := fun a b =>
  if h : a.f0 = b.f0 ∧ a.f1 = b.f1 ∧ a.f2 = b.f2 then .isTrue (s107_ext h.1 h.2.1 h.2.2) else .isFalse (fun e => h (by subst e; exact ⟨rfl, rfl, rfl⟩))
theorem szOpS_at (l : List S109) (n : Int) (h0 : 0 ≤ n) (h1 : n ≤ 1048576) (hl : l.length ≤ 9223372036854775807) : laws_szOpS.f l n = some (if n - l.length < 0 then -1 else n - l.length) := by
  unfold laws_szOpS.f
  rw [wrap64_id (by omega) (by omega)]
  split <;> rfl
theorem toOpS_ev (l : List S109) (hl : l.length ≤ 1048576) : Ev (fun k => laws_toOpS.f k l) (l.map opOf) := by
  unfold laws_toOpS.f
  refine Ev.iteT (by omega) (Ev.iteT (by simp; omega) ?_)
  refine Ev.eq (Ev.fill (L := fun k ys i => laws_toOpS.l0 k l ys i) l.length 0 (fun i => opOf (l.getD i z109)) _ (by simp) (fun i hi k _ zs hz => ?_) (fun k _ zs hz => ?_)) ?_
  · show laws_toOpS.l0 (k + 1) l zs i = _
    rw [laws_toOpS.l0, if_pos (by omega), if_pos (by omega)]
    simp only [laws_toOp.f, Option.bind_some]
    rw [if_pos (by omega), wrap_succ (by omega)]
    simp [rd_T109, opOf]
  · show laws_toOpS.l0 (k + 1) l zs l.length = _
    rw [laws_toOpS.l0, if_neg (by omega)]
  · exact map_range_getD l z109 opOf
theorem eqOp_at (a b : S107) : laws_eqOp.f a.f0 a.f1 a.f2 b.f0 b.f1 b.f2 = some (decide (a = b)) := by
  unfold laws_eqOp.f
  by_cases h0 : a.f0 = b.f0
  · by_cases h1 : a.f1 = b.f1
    · by_cases h2 : a.f2 = b.f2
      · rw [if_pos h0, if_pos h1, if_pos h2, decide_eq_true (s107_ext h0 h1 h2)]
      · rw [if_pos h0, if_pos h1, if_neg h2, decide_eq_false (fun e => h2 (by rw [e]))]
    · rw [if_pos h0, if_neg h1, decide_eq_false (fun e => h1 (by rw [e]))]
  · rw [if_neg h0, decide_eq_false (fun e => h0 (by rw [e]))]
theorem eqOpS_ev (a b : List S107) (hl : a.length ≤ 9223372036854775806) : Ev (fun k => laws_eqOpS.f k a b) (decide (a = b)) := by
  unfold laws_eqOpS.f
  by_cases h : a.length = b.length
  · refine Ev.iteT (by omega) ?_
    refine Ev.eq (Ev.all (L := fun k i => laws_eqOpS.l0 k a b i) a.length 0 (fun i => decide (a.getD i z107 = b.getD i z107)) (b := true) (fun i hi k _ => ?_) (fun k _ => ?_)) ?_
    · show laws_eqOpS.l0 (k + 1) a b i = _
      rw [laws_eqOpS.l0, if_pos (by omega), if_pos (by omega), if_pos (by omega), eqOp_at, wrap_succ (by omega)]
      simp [rd_T107]
    · show laws_eqOpS.l0 (k + 1) a b a.length = _
      rw [laws_eqOpS.l0, if_neg (by omega)]
    · rw [all_eq a b z107 h, Bool.and_true]
  · refine Ev.iteF (by omega) (Ev.eq (Ev.now false) ?_)
    rw [eq_comm, decide_eq_false_iff_not]
    rintro rfl
    exact h rfl
end Go.Proofs.YtcenmlpfbpogoaaDoor.Lists
