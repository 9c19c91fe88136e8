/- FnConfPart, behind the machine. No conditions. -/
import Derived.Test.YtcenmlpfbpogoaaDoorPx18
import Derived.Test.YtcenmlpfbpogoaaDoorPx19
import Derived.Test.YtcenmlpfbpogoaaDoorConfFactsP
import Derived.Test.YtcenmlpfbpogoaaDoorDrawConf
import Derived.Test.YtcenmlpfbpogoaaDoorQFnConfPart
namespace Go.Proofs.YtcenmlpfbpogoaaDoor.Pure
open Go.RowKit Go.Proofs.YtcenmlpfbpogoaaDoor.P Go.Proofs.YtcenmlpfbpogoaaDoor.E Go.Proofs.YtcenmlpfbpogoaaDoor.OpsOk Go.Proofs.YtcenmlpfbpogoaaDoor.Conf Go.Proofs.YtcenmlpfbpogoaaDoor.Draw Go.Proofs.YtcenmlpfbpogoaaDoorW.PrintWords
set_option linter.unusedSimpArgs false
set_option linter.unusedVariables false
theorem part_draw {l : List Int} (h : ∀ x ∈ l, (Lit.int .u8 x).wf = true) : ∃ a0 a1 l2 l3 l4 l5 l6 l7 l8 a9 v, Ev (fun k => spec_DrawConfPart.f k l) (a0, a1, l2, l3, l4, l5, l6, l7, l8, a9, v) ∧ Small l2 l3 l4 l5 l6 l7 l8 := by
  obtain ⟨b, eo, hb⟩ := open_at h
  obtain ⟨a0, a1, l2, l3, l4, l5, l6, l7, l8, a9, p', e, s, p0, p1⟩ := anyConf_ev hb (show (0 : Int) ≤ 0 by omega) (by omega)
  obtain ⟨v, e2, _⟩ := one_ev hb p0 (by omega) [0, 1, 7, 9, 5] (by simp)
  unfold spec_DrawConfPart.f
  exact ⟨a0, a1, l2, l3, l4, l5, l6, l7, l8, a9, v, Ev.bindc eo (Ev.bind e (Ev.bind e2 (Ev.now _))), s⟩
theorem part_loop (a0 a1 : Int) (l2 : IOps) (l3 l4 l5 l6 l7 : List Int) (l8 : List S78) (a9 v : Int) (s : Small l2 l3 l4 l5 l6 l7 l8) (c : (wrong a0 a1 l2 l3 l4 l5 l6 l7 l8 a9).getD 0 = 0) :
    ∀ (d i : Nat), i + d = l3.length → Ev (fun k => laws_FnConfPart.l0 k v (idx v l3 0) (i : Int) a0 a1 l2 l3 l4 l5 l6 l7 l8 a9) true := by
  have h3 := s.2.1
  obtain ⟨_, ha⟩ := wrong_facts c
  obtain ⟨hz, hf⟩ := apids_facts ha
  have part : ∀ x, partR a0 a1 l2 l3 l4 l5 l6 l7 l8 a9 x = idx x l3 0 := fun x => by unfold partR; rw [if_pos c]
  intro d
  induction d with
  | zero =>
    intro i hd
    have e0 := implPart_ev a0 a1 l2 l3 l4 l5 l6 l7 l8 a9 0 s
    rw [part, idx_none _ _ _ hz] at e0
    refine Ev.step (fun k => by rw [laws_FnConfPart.l0]) (Ev.iteF (by omega) (Ev.bind e0 (Ev.iteT rfl ?_)))
    rcases idx_cases v l3 0 with h1 | ⟨j, h1, h2, h4⟩
    · exact Ev.iteT h1 (Ev.now _)
    · refine Ev.iteF (by omega) (Ev.iteT (by omega) (Ev.iteT (by omega) (Ev.eq (Ev.now _) ?_)))
      rw [h2, Nat.zero_add, rdN, h4]
      exact beq_self_eq_true v
  | succ d ih =>
    intro i hd
    have e0 := implPart_ev a0 a1 l2 l3 l4 l5 l6 l7 l8 a9 (l3.getD i 0) s
    rw [part, hf i (by omega)] at e0
    refine Ev.step (fun k => by rw [laws_FnConfPart.l0]) (Ev.iteT (by omega) (Ev.iteT (by omega) ?_))
    rw [rdN]
    refine Ev.bind e0 (Ev.iteT rfl ?_)
    rw [wrap_succ (by omega)]
    exact ih (i + 1) (by omega)
theorem FnConfPart : Go.Proofs.YtcenmlpfbpogoaaDoor.QFnConfPart.Pure := by
  intro l hl hlb
  refine Ev.rnd ?_
  unfold laws_FnConfPart.f
  by_cases h0 : (l.length : Int) > 1048576
  · exact Ev.iteT h0 (Ev.now _)
  refine Ev.iteF h0 ?_
  obtain ⟨a0, a1, l2, l3, l4, l5, l6, l7, l8, a9, v, ed, s⟩ := part_draw (wf_of_u8 hlb)
  have ei := implPart_ev a0 a1 l2 l3 l4 l5 l6 l7 l8 a9 v s
  have es := specPart_ev a0 a1 l2 l3 l4 l5 l6 l7 l8 a9 v s
  have ec := specCheck_ev a0 a1 l2 l3 l4 l5 l6 l7 l8 a9 s
  refine Ev.bind ed (Ev.bind ei (Ev.bind es (Ev.iteT rfl (Ev.bind ec ?_))))
  refine Ev.step (fun k => by rw [laws_FnConfPart.j0]) ?_
  by_cases c : (wrong a0 a1 l2 l3 l4 l5 l6 l7 l8 a9).getD 0 = 0
  · rw [c]
    refine Ev.iteF (by simp) ?_
    have part : partR a0 a1 l2 l3 l4 l5 l6 l7 l8 a9 v = idx v l3 0 := by unfold partR; rw [if_pos c]
    rw [part]
    exact part_loop a0 a1 l2 l3 l4 l5 l6 l7 l8 a9 v s c l3.length 0 (by omega)
  · refine Ev.iteT (bne_iff_ne.2 c) (Ev.bind es (Ev.eq (Ev.now _) ?_))
    exact beq_self_eq_true _
end Go.Proofs.YtcenmlpfbpogoaaDoor.Pure
