/- FnConfCheck, behind the machine. No conditions. -/
import Derived.Test.YtcenmlpfbpogoaaDoorPx16
import Derived.Test.YtcenmlpfbpogoaaDoorPx17
import Derived.Test.YtcenmlpfbpogoaaDoorConfFactsC
import Derived.Test.YtcenmlpfbpogoaaDoorDrawConf
import Derived.Test.YtcenmlpfbpogoaaDoorQFnConfCheck
namespace Go.Proofs.YtcenmlpfbpogoaaDoor.Pure
open Go.RowKit Go.Proofs.YtcenmlpfbpogoaaDoor.P Go.Proofs.YtcenmlpfbpogoaaDoor.E Go.Proofs.YtcenmlpfbpogoaaDoor.OpsOk Go.Proofs.YtcenmlpfbpogoaaDoor.Conf Go.Proofs.YtcenmlpfbpogoaaDoor.Draw Go.Proofs.YtcenmlpfbpogoaaDoorW.PrintWords
set_option linter.unusedSimpArgs false
set_option linter.unusedVariables false
theorem check_draw {l : List Int} (h : ∀ x ∈ l, (Lit.int .u8 x).wf = true) : ∃ a0 a1 l2 l3 l4 l5 l6 l7 l8 a9, Ev (fun k => spec_DrawConfCheck.f k l) (a0, a1, l2, l3, l4, l5, l6, l7, l8, a9) ∧ Small l2 l3 l4 l5 l6 l7 l8 := by
  obtain ⟨b, eo, hb⟩ := open_at h
  obtain ⟨a0, a1, l2, l3, l4, l5, l6, l7, l8, a9, p', e, s, _, _⟩ := anyConf_ev hb (show (0 : Int) ≤ 0 by omega) (by omega)
  unfold spec_DrawConfCheck.f
  exact ⟨a0, a1, l2, l3, l4, l5, l6, l7, l8, a9, Ev.bindc eo (Ev.bind e (Ev.now _)), s⟩
theorem check_loop (a0 a1 : Int) (l2 : IOps) (l3 l4 l5 l6 l7 : List Int) (l8 : List S78) (a9 : Int) (s : Small l2 l3 l4 l5 l6 l7 l8) (c : (wrong a0 a1 l2 l3 l4 l5 l6 l7 l8 a9).getD 0 = 0) :
    ∀ (d i : Nat), i + d = l5.length → Ev (fun k => laws_FnConfCheck.l0 k 0 (i : Int) a0 a1 l2 l3 l4 l5 l6 l7 l8 a9) true := by
  have h2 := s.1.1
  have h5 := s.2.2.2.1
  obtain ⟨ht, _⟩ := wrong_facts c
  obtain ⟨h6, hin⟩ := turns_in ht
  intro d
  induction d with
  | zero =>
    intro i hd
    refine Ev.step (fun k => by rw [laws_FnConfCheck.l0]) (Ev.iteF (by omega) ?_)
    refine Ev.step (fun k => by rw [laws_FnConfCheck.j2]) ?_
    exact Ev.iteF (by simp) (Ev.now _)
  | succ d ih =>
    intro i hd
    obtain ⟨i5, i6⟩ := hin i (by omega)
    have hb : inB (i : Int) 0 ((l5.length : Int) - 1) = true := inB_iff.2 (by omega)
    have e0 := implTurn_ev a0 a1 l2 l3 l4 l5 l6 l7 l8 a9 0 (i : Int) s
    have e1 := implTurn_ev a0 a1 l2 l3 l4 l5 l6 l7 l8 a9 1 (i : Int) s
    have t0 : turnR a0 a1 l2 l3 l4 l5 l6 l7 l8 a9 0 (i : Int) = rd l5 (i : Int) := by
      unfold turnR
      rw [if_pos ⟨c, hb⟩, if_pos rfl]
    have t1 : turnR a0 a1 l2 l3 l4 l5 l6 l7 l8 a9 1 (i : Int) = rd l6 (i : Int) := by
      unfold turnR
      rw [if_pos ⟨c, hb⟩, if_neg (by decide), if_pos rfl]
    rw [t0] at e0
    rw [t1] at e1
    refine Ev.step (fun k => by rw [laws_FnConfCheck.l0]) (Ev.iteT (by omega) ?_)
    refine Ev.step (fun k => by rw [laws_FnConfCheck.j2]) ?_
    refine Ev.iteT (by simp) (Ev.bind e0 (Ev.iteT (by omega) (Ev.iteT (by omega) (Ev.iteT rfl (Ev.bind e1 (Ev.iteT (by omega) (Ev.iteT rfl ?_)))))))
    refine Ev.bindc (skIn_at _ _ _) ?_
    rw [turns_wrap h2, rdN, i5]
    refine Ev.iteT rfl ?_
    rw [wrap_succ (by omega)]
    exact ih (i + 1) (by omega)
theorem FnConfCheck : Go.Proofs.YtcenmlpfbpogoaaDoor.QFnConfCheck.Pure := by
  intro l hl hlb
  refine Ev.rnd ?_
  unfold laws_FnConfCheck.f
  by_cases h0 : (l.length : Int) > 1048576
  · exact Ev.iteT h0 (Ev.now _)
  refine Ev.iteF h0 ?_
  obtain ⟨a0, a1, l2, l3, l4, l5, l6, l7, l8, a9, ed, s⟩ := check_draw (wf_of_u8 hlb)
  have r := wrong_range a0 a1 l2 l3 l4 l5 l6 l7 l8 a9
  have ei := implCheck_ev a0 a1 l2 l3 l4 l5 l6 l7 l8 a9 s
  have es := specCheck_ev a0 a1 l2 l3 l4 l5 l6 l7 l8 a9 s
  have e1 := implCheck_ev (-1) a1 l2 l3 l4 l5 l6 l7 l8 a9 s
  have w1 : (wrong (-1) a1 l2 l3 l4 l5 l6 l7 l8 a9).getD 0 = 1 := by
    unfold wrong
    rw [show inB (-1) 0 1023 = false from by decide]
    rfl
  rw [w1] at e1
  refine Ev.bind ed (Ev.bind ei (Ev.bind es (Ev.iteT rfl (Ev.bind e1 (Ev.iteT rfl (Ev.bindc (skIn_at _ _ _) ?_))))))
  rw [inB_iff.2 r]
  refine Ev.step (fun k => by rw [laws_FnConfCheck.j0]) (Ev.iteF (by simp) ?_)
  by_cases c : (wrong a0 a1 l2 l3 l4 l5 l6 l7 l8 a9).getD 0 = 0
  · rw [c]
    exact check_loop a0 a1 l2 l3 l4 l5 l6 l7 l8 a9 s c l5.length 0 (by omega)
  · generalize (wrong a0 a1 l2 l3 l4 l5 l6 l7 l8 a9).getD 0 = x at c
    refine Ev.step (fun k => by rw [laws_FnConfCheck.l0]) ?_
    have hx : (x == 0) = false := beq_eq_false_iff_ne.2 c
    rw [hx]
    have e : Ev (fun k => laws_FnConfCheck.j2 k x 0 false a0 a1 l2 l3 l4 l5 l6 l7 l8 a9) true := by
      refine Ev.step (fun k => by rw [laws_FnConfCheck.j2]) ?_
      exact Ev.iteF (by simp) (Ev.now _)
    exact Ev.ite (fun _ => e) (fun _ => e)
end Go.Proofs.YtcenmlpfbpogoaaDoor.Pure
