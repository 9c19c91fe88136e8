/- FnConfTurn, behind the machine. No conditions. -/
import Derived.Test.YtcenmlpfbpogoaaDoorPx21
import Derived.Test.YtcenmlpfbpogoaaDoorConfFactsC
import Derived.Test.YtcenmlpfbpogoaaDoorConfTurnS
import Derived.Test.YtcenmlpfbpogoaaDoorDrawConf
import Derived.Test.YtcenmlpfbpogoaaDoorQFnConfTurn
namespace Go.Proofs.YtcenmlpfbpogoaaDoor.Pure
open Go.RowKit Go.Proofs.YtcenmlpfbpogoaaDoor.P Go.Proofs.YtcenmlpfbpogoaaDoor.E Go.Proofs.YtcenmlpfbpogoaaDoor.OpsOk Go.Proofs.YtcenmlpfbpogoaaDoor.Conf Go.Proofs.YtcenmlpfbpogoaaDoor.Draw Go.Proofs.YtcenmlpfbpogoaaDoorW.PrintWords
set_option linter.unusedSimpArgs false
set_option linter.unusedVariables false
theorem turn_draw {l : List Int} (h : ∀ x ∈ l, (Lit.int .u8 x).wf = true) : ∃ a0 a1 l2 l3 l4 l5 l6 l7 l8 a9 mode turn, Ev (fun k => spec_DrawConfTurn.f k l) (a0, a1, l2, l3, l4, l5, l6, l7, l8, a9, mode, turn) ∧ Small l2 l3 l4 l5 l6 l7 l8 ∧ 0 ≤ mode ∧ mode ≤ 2 := by
  obtain ⟨b, eo, hb⟩ := open_at h
  obtain ⟨a0, a1, l2, l3, l4, l5, l6, l7, l8, a9, p', e, s, p0, p1⟩ := anyConf_ev hb (show (0 : Int) ≤ 0 by omega) (by omega)
  obtain ⟨v, e2, v0, v1⟩ := pick_ev hb p0 (by omega) 9
  have v2 := v1 (by omega)
  obtain ⟨u, e3, _, _⟩ := pick_ev hb (show 0 ≤ p' + 1 by omega) (by omega) (wrap64 ((l5.length : Int) + 2))
  have ew : wrap64 (Int.tdiv (wrap64 (v * 3)) 9) = v * 3 / 9 := by
    rw [wrap64_id (x := v * 3) (by omega) (by omega), Int.tdiv_eq_ediv_of_nonneg (by omega), wrap64_id (by omega) (by omega)]
  have hm : 0 ≤ rd [0, 1, 2] (v * 3 / 9) ∧ rd [0, 1, 2] (v * 3 / 9) ≤ 2 := by
    have hc : v * 3 / 9 = 0 ∨ v * 3 / 9 = 1 ∨ v * 3 / 9 = 2 := by omega
    rcases hc with h | h | h <;> rw [h] <;> decide
  unfold spec_DrawConfTurn.f
  refine ⟨a0, a1, l2, l3, l4, l5, l6, l7, l8, a9, rd [0, 1, 2] (v * 3 / 9), wrap64 (u - 1), Ev.bindc eo (Ev.bind e (Ev.bindc (x := [0, 1, 2]) rfl (Ev.bind e2 ?_))), s, hm.1, hm.2⟩
  dsimp only
  rw [ew]
  exact Ev.iteT (by omega) (Ev.iteT (by show v * 3 / 9 < 3; omega) (Ev.bind e3 (Ev.now _)))
theorem FnConfTurn : Go.Proofs.YtcenmlpfbpogoaaDoor.QFnConfTurn.Pure := by
  intro l hl hlb
  refine Ev.rnd ?_
  unfold laws_FnConfTurn.f
  by_cases h0 : (l.length : Int) > 1048576
  · exact Ev.iteT h0 (Ev.now _)
  refine Ev.iteF h0 ?_
  obtain ⟨a0, a1, l2, l3, l4, l5, l6, l7, l8, a9, mode, turn, ed, s, m0, m2⟩ := turn_draw (wf_of_u8 hlb)
  have h2 := s.1.1
  have ei := implTurn_ev a0 a1 l2 l3 l4 l5 l6 l7 l8 a9 mode turn s
  have es := specTurn_ev a0 a1 l2 l3 l4 l5 l6 l7 l8 a9 mode turn s
  have ec := specCheck_ev a0 a1 l2 l3 l4 l5 l6 l7 l8 a9 s
  refine Ev.bind ed (Ev.bind ei (Ev.bind es (Ev.iteT rfl (Ev.bind ec ?_))))
  have no : ∀ {x : Int}, x = -1 → Ev (fun _ : Nat => some (x == -1)) true := fun h => Ev.eq (Ev.now _) (by rw [h]; rfl)
  by_cases c : (wrong a0 a1 l2 l3 l4 l5 l6 l7 l8 a9).getD 0 = 0
  · refine Ev.iteT c ?_
    by_cases b : inB turn 0 ((l5.length : Int) - 1) = true
    · have b' := inB_iff.1 b
      have cb : ((wrong a0 a1 l2 l3 l4 l5 l6 l7 l8 a9).getD 0 = 0 ∧ inB turn 0 ((l5.length : Int) - 1) = true) := ⟨c, b⟩
      by_cases m1 : mode > 1
      · refine Ev.iteT m1 (no ?_)
        show turnR a0 a1 l2 l3 l4 l5 l6 l7 l8 a9 mode turn = -1
        unfold turnR
        rw [if_pos cb, if_neg (by omega), if_neg (by omega)]
      · refine Ev.iteF m1 (Ev.iteF (show ¬ turn < 0 by omega) (Ev.iteF (show ¬ turn ≥ (l5.length : Int) by omega) ?_))
        obtain ⟨ht, _⟩ := wrong_facts c
        obtain ⟨h6, hin⟩ := turns_in ht
        obtain ⟨i, rfl⟩ := Int.eq_ofNat_of_zero_le b'.1
        obtain ⟨i5, i6⟩ := hin i (by omega)
        rw [turns_wrap h2]
        refine Ev.bindc (skIn_at _ _ _) (Ev.eq (Ev.now _) ?_)
        show inB (turnR a0 a1 l2 l3 l4 l5 l6 l7 l8 a9 mode (i : Int)) (-1) _ = true
        unfold turnR
        rw [if_pos cb]
        by_cases z : mode = 0
        · rw [if_pos z, rdN]
          exact i5
        · rw [if_neg z, if_pos (by omega), rdN]
          exact i6
    · have e : turnR a0 a1 l2 l3 l4 l5 l6 l7 l8 a9 mode turn = -1 := by
        unfold turnR
        rw [if_neg (show ¬ ((wrong a0 a1 l2 l3 l4 l5 l6 l7 l8 a9).getD 0 = 0 ∧ inB turn 0 ((l5.length : Int) - 1) = true) from fun x => b x.2)]
      have b' : turn < 0 ∨ turn ≥ (l5.length : Int) := by
        have : ¬ (0 ≤ turn ∧ turn ≤ (l5.length : Int) - 1) := fun x => b (inB_iff.2 x)
        omega
      refine Ev.ite (fun _ => no e) (fun _ => Ev.ite (fun _ => no e) (fun q => Ev.iteT ?_ (no e)))
      rcases b' with b' | b'
      · exact absurd b' q
      · exact b'
  · refine Ev.iteF c (no ?_)
    show turnR a0 a1 l2 l3 l4 l5 l6 l7 l8 a9 mode turn = -1
    unfold turnR
    rw [if_neg (show ¬ ((wrong a0 a1 l2 l3 l4 l5 l6 l7 l8 a9).getD 0 = 0 ∧ inB turn 0 ((l5.length : Int) - 1) = true) from fun x => c x.1)]
end Go.Proofs.YtcenmlpfbpogoaaDoor.Pure
