/- Plain facts on programs: what it takes for one to be right, as the reference and as the program ask it. No conditions. -/
import Derived.Test.YtcenmlpfbpogoaaDoorPx2
import Derived.Test.YtcenmlpfbpogoaaDoorPx3
import Derived.Test.YtcenmlpfbpogoaaDoorPx11
import Derived.Test.YtcenmlpfbpogoaaDoorPx12
import Derived.Test.YtcenmlpfbpogoaaDoorEv
namespace Go.Proofs.YtcenmlpfbpogoaaDoor.OpsOk
open Go.RowKit Go.Proofs.YtcenmlpfbpogoaaDoor.P Go.Proofs.YtcenmlpfbpogoaaDoor.E Go.Proofs.YtcenmlpfbpogoaaDoorW.PrintWords
set_option linter.unusedSimpArgs false
set_option linter.unusedVariables false

def inB (x lo hi : Int) : Bool := decide (lo ≤ x) && decide (x ≤ hi)
theorem l1In_at (a b c : Int) : spec_l1In.f a b c = some (inB a b c) := by
  unfold spec_l1In.f inB
  by_cases h : a ≥ b
  · rw [if_pos h]; simp; intro _; omega
  · rw [if_neg h]; simp; intro h2; omega
theorem within_at (a b : Int) : impl_within.f a b = some (inB a 0 b) := by
  unfold impl_within.f inB
  by_cases h : a ≥ 0
  · rw [if_pos h]; simp; intro _; omega
  · rw [if_neg h]; simp; intro h2; omega

def opB (a b c n : Int) : Bool :=
  if a = 1 ∨ a = 3 then inB b 0 7 && inB c 0 9999 else if a = 2 ∨ a = 13 then inB b 0 7 && inB c 0 7 else if a = 5 then inB b 0 7 && inB c 0 (n - 1)
  else if a = 9 ∨ a = 10 then inB b 0 7 && inB c 0 3 else if a = 4 ∨ a = 6 ∨ a = 7 ∨ a = 8 ∨ a = 12 then inB b 0 7 && (c == 0) else if a = 11 then (b == 0) && (c == 0) else false

theorem wrap_pred {n : Int} (h0 : 0 ≤ n) (h1 : n ≤ 9223372036854775807) : wrap64 (n - 1) = n - 1 := by unfold wrap64; omega
theorem in00 (c : Int) : inB c 0 0 = (c == 0) := by
  unfold inB
  rw [Bool.eq_iff_iff]
  simp
  omega

theorem l10Ok_at (a b c n : Int) (h0 : 0 ≤ n) (h1 : n ≤ 9223372036854775807) (k : Nat) : spec_l10Ok.f (k + 4) a b c n = some (opB a b c n) := by
  have cell : ∀ x, spec_l10Cell.f x = some (inB x 0 7) := fun x => by unfold spec_l10Cell.f; rw [l1In_at]; rfl
  unfold spec_l10Ok.f opB
  by_cases c1 : a = 1
  · subst c1; simp [spec_l10Ok.j0, cell, l1In_at]; cases inB b 0 7 <;> simp
  by_cases c3 : a = 3
  · subst c3; simp [spec_l10Ok.j0, cell, l1In_at]; cases inB b 0 7 <;> simp
  by_cases c2 : a = 2
  · subst c2; simp [spec_l10Ok.j0, spec_l10Ok.j1, cell, l1In_at]; cases inB b 0 7 <;> simp
  by_cases c13 : a = 13
  · subst c13; simp [spec_l10Ok.j0, spec_l10Ok.j1, cell, l1In_at]; cases inB b 0 7 <;> simp
  by_cases c5 : a = 5
  · subst c5; simp [spec_l10Ok.j0, spec_l10Ok.j1, cell, wrap_pred h0 h1, l1In_at]; cases inB b 0 7 <;> simp
  by_cases c9 : a = 9
  · subst c9; simp [spec_l10Ok.j0, spec_l10Ok.j1, spec_l10Ok.j2, cell, l1In_at]; cases inB b 0 7 <;> simp
  by_cases c10 : a = 10
  · subst c10; simp [spec_l10Ok.j0, spec_l10Ok.j1, spec_l10Ok.j2, cell, l1In_at]; cases inB b 0 7 <;> simp
  by_cases c4 : a = 4
  · subst c4; simp [spec_l10Ok.j0, spec_l10Ok.j1, spec_l10Ok.j2, spec_l10Ok.j3, cell, l1In_at]; cases inB b 0 7 <;> simp
  by_cases c6 : a = 6
  · subst c6; simp [spec_l10Ok.j0, spec_l10Ok.j1, spec_l10Ok.j2, spec_l10Ok.j3, cell, l1In_at]; cases inB b 0 7 <;> simp
  by_cases c7 : a = 7
  · subst c7; simp [spec_l10Ok.j0, spec_l10Ok.j1, spec_l10Ok.j2, spec_l10Ok.j3, cell, l1In_at]; cases inB b 0 7 <;> simp
  by_cases c8 : a = 8
  · subst c8; simp [spec_l10Ok.j0, spec_l10Ok.j1, spec_l10Ok.j2, spec_l10Ok.j3, cell, l1In_at]; cases inB b 0 7 <;> simp
  by_cases c12 : a = 12
  · subst c12; simp [spec_l10Ok.j0, spec_l10Ok.j1, spec_l10Ok.j2, spec_l10Ok.j3, cell, l1In_at]; cases inB b 0 7 <;> simp
  by_cases c11 : a = 11
  · subst c11
    simp [spec_l10Ok.j0, spec_l10Ok.j1, spec_l10Ok.j2, spec_l10Ok.j3]
    by_cases hb : b = 0 <;> simp [hb]
  simp [spec_l10Ok.j0, spec_l10Ok.j1, spec_l10Ok.j2, spec_l10Ok.j3, c1, c2, c3, c4, c5, c6, c7, c8, c9, c10, c11, c12, c13]

theorem opOk_at (a b c n : Int) (h0 : 0 ≤ n) (h1 : n ≤ 9223372036854775807) (k : Nat) : impl_opOk.f (k + 4) a b c n = some (opB a b c n) := by
  unfold impl_opOk.f opB
  by_cases c1 : a = 1
  · subst c1; simp [impl_opOk.j0, within_at]; cases inB b 0 7 <;> simp
  by_cases c3 : a = 3
  · subst c3; simp [impl_opOk.j0, within_at]; cases inB b 0 7 <;> simp
  by_cases c2 : a = 2
  · subst c2; simp [impl_opOk.j0, impl_opOk.j1, within_at]; cases inB b 0 7 <;> simp
  by_cases c13 : a = 13
  · subst c13; simp [impl_opOk.j0, impl_opOk.j1, within_at]; cases inB b 0 7 <;> simp
  by_cases c5 : a = 5
  · subst c5; simp [impl_opOk.j0, impl_opOk.j1, within_at, wrap_pred h0 h1]; cases inB b 0 7 <;> simp
  by_cases c9 : a = 9
  · subst c9; simp [impl_opOk.j0, impl_opOk.j1, impl_opOk.j2, within_at]; cases inB b 0 7 <;> simp
  by_cases c10 : a = 10
  · subst c10; simp [impl_opOk.j0, impl_opOk.j1, impl_opOk.j2, within_at]; cases inB b 0 7 <;> simp
  by_cases c4 : a = 4
  · subst c4; simp [impl_opOk.j0, impl_opOk.j1, impl_opOk.j2, impl_opOk.j3, within_at, in00]; cases inB b 0 7 <;> simp
  by_cases c6 : a = 6
  · subst c6; simp [impl_opOk.j0, impl_opOk.j1, impl_opOk.j2, impl_opOk.j3, within_at, in00]; cases inB b 0 7 <;> simp
  by_cases c7 : a = 7
  · subst c7; simp [impl_opOk.j0, impl_opOk.j1, impl_opOk.j2, impl_opOk.j3, within_at, in00]; cases inB b 0 7 <;> simp
  by_cases c8 : a = 8
  · subst c8; simp [impl_opOk.j0, impl_opOk.j1, impl_opOk.j2, impl_opOk.j3, within_at, in00]; cases inB b 0 7 <;> simp
  by_cases c12 : a = 12
  · subst c12; simp [impl_opOk.j0, impl_opOk.j1, impl_opOk.j2, impl_opOk.j3, within_at, in00]; cases inB b 0 7 <;> simp
  by_cases c11 : a = 11
  · subst c11
    simp [impl_opOk.j0, impl_opOk.j1, impl_opOk.j2]
    by_cases hb : b = 0 <;> simp [hb]
  simp [impl_opOk.j0, impl_opOk.j1, impl_opOk.j2, impl_opOk.j3, c1, c2, c3, c4, c5, c6, c7, c8, c9, c10, c11, c12, c13]

def progB (l : List S107) : Bool := l.all (fun o => opB o.f0 o.f1 o.f2 l.length) && inB l.length 1 16

theorem specProg_ev (l : List S107) (hl : l.length ≤ 9223372036854775806) : Ev (fun k => spec_ProgOk.f k l) (progB l) := by
  unfold spec_ProgOk.f progB
  rw [← all_range l z107 (fun o => opB o.f0 o.f1 o.f2 l.length)]
  refine Ev.all l.length 4 _ (fun i hi k hk => ?_) (fun k hk => ?_)
  · obtain ⟨k, rfl⟩ : ∃ m, k = m + 4 := ⟨k - 4, by omega⟩
    rw [spec_ProgOk.l0, if_pos (by omega), if_pos (by omega), l10Ok_at _ _ _ _ (by omega) (by omega), wrap_succ (by omega)]
    simp [rd_T107]
  · rw [spec_ProgOk.l0, if_neg (by omega), l1In_at]
    rfl

theorem implProg_ev (l : List S107) (hl : l.length ≤ 9223372036854775806) : Ev (fun k => impl_ProgOk.f k l) (progB l) := by
  unfold impl_ProgOk.f
  by_cases h1 : (l.length : Int) < 1
  · simp only [if_pos h1]
    refine Ev.step (fun k => by rw [impl_ProgOk.j0]) ?_
    refine Ev.eq (Ev.now false) ?_
    unfold progB inB
    simp
    intro _ h
    omega
  · simp only [if_neg h1]
    by_cases h2 : (l.length : Int) > 16
    · refine Ev.step (fun k => by rw [impl_ProgOk.j0, decide_eq_true h2]) ?_
      refine Ev.eq (Ev.now false) ?_
      unfold progB inB
      simp
      intro _ _
      omega
    · refine Ev.step (fun k => by rw [impl_ProgOk.j0, decide_eq_false h2]) ?_
      simp only [Bool.false_eq_true, if_false]
      have hb : inB l.length 1 16 = true := by unfold inB; simp; omega
      unfold progB
      rw [hb, ← all_range l z107 (fun o => opB o.f0 o.f1 o.f2 l.length)]
      refine Ev.all (L := fun k i => impl_ProgOk.l0 k l l l.length i) l.length 4 _ (fun i hi k hk => ?_) (fun k hk => ?_)
      · obtain ⟨k, rfl⟩ : ∃ m, k = m + 4 := ⟨k - 4, by omega⟩
        show impl_ProgOk.l0 (k + 4 + 1) l l l.length i = _
        rw [impl_ProgOk.l0, if_pos (by omega), if_pos (by omega), if_pos (by omega), opOk_at _ _ _ _ (by omega) (by omega), wrap_succ (by omega)]
        simp [rd_T107]
      · show impl_ProgOk.l0 (k + 1) l l l.length l.length = _
        rw [impl_ProgOk.l0, if_neg (by omega)]
end Go.Proofs.YtcenmlpfbpogoaaDoor.OpsOk
