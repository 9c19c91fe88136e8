/- What the laws mark in a list of at most one frame is held. No conditions. -/
import Derived.Test.YtnlhaiihbcdmoaaPx20
import Derived.Test.YtnlhaiihbcdmoaaPx21
import Derived.Test.YtnlhaiihbcdmoaaMarkStr
namespace Go.Proofs.Ytnlhaiihbcdmoaa.Lists
open Go.RowKit Go.Proofs.Ytnlhaiihbcdmoaa.P Go.Proofs.Ytnlhaiihbcdmoaa.E Go.Proofs.Ytnlhaiihbcdmoaa.Num Go.Proofs.YtnlhaiihbcdmoaaW.PrintWords
set_option linter.unusedSimpArgs false
set_option linter.unusedVariables false
theorem eqFrame_at (p g : Bool) (c v n : Int) (d : ByteArray) : laws_eqFrame.f p g c v n d p g c v n d = some true := by
  unfold laws_eqFrame.f
  simp
theorem eqFrameS_ev (l : List S35) (hl : l = [] ∨ ∃ x, l = [x]) : Ev (fun k => laws_eqFrameS.f k l l) true := by
  unfold laws_eqFrameS.f
  rcases hl with rfl | ⟨x, rfl⟩
  · refine Ev.iteT rfl (Ev.step (fun k => by rw [laws_eqFrameS.l0]) ?_)
    exact Ev.iteF (by simp) (Ev.now _)
  · refine Ev.iteT rfl (Ev.step (fun k => by rw [laws_eqFrameS.l0]) ?_)
    refine Ev.iteT (by simp) (Ev.iteT (by omega) (Ev.iteT (by simp) (Ev.bindc (eqFrame_at _ _ _ _ _ _) (Ev.iteT rfl ?_))))
    refine Ev.step (fun k => by rw [laws_eqFrameS.l0]) ?_
    exact Ev.iteF (by rw [wrap64_id (by omega) (by omega)]; simp) (Ev.now _)
noncomputable def fm (m : Int) : S35 := ⟨Int.tmod m 3 == 0, Int.tmod (m + 1) 3 == 0, m + 2, m + 3, m + 4, mt (m + 5)⟩
theorem ones {m : Int} (h0 : 0 ≤ m) (h1 : m ≤ 1000000000000) : wrap64 (m + 1) = m + 1 ∧ wrap64 (m + 1 + 1) = m + 2 ∧ wrap64 (m + 2 + 1) = m + 3 ∧ wrap64 (m + 3 + 1) = m + 4 ∧ wrap64 (m + 4 + 1) = m + 5 ∧ wrap64 (m + 5 + 1) = m + 6 := by
  refine ⟨?_, ?_, ?_, ?_, ?_, ?_⟩ <;> rw [wrap64_id (by omega) (by omega)] <;> omega
theorem markFrame_ev (l : List S35) (m : Int) (h0 : 0 ≤ m) (h1 : m ≤ 1000000000000) (hl : l = [] ∨ ∃ x, l = [x]) :
    ∃ l' m', Ev (fun k => laws_markFrameS.f k l m) (m', l') ∧ m ≤ m' ∧ Ev (fun k => laws_heldFrameS.f k l' m) m' := by
  unfold laws_markFrameS.f laws_heldFrameS.f
  rcases hl with rfl | ⟨x, rfl⟩
  · refine ⟨[], m, ?_, by omega, ?_⟩
    · refine Ev.step (fun k => by rw [laws_markFrameS.l0]) ?_
      exact Ev.iteF (by simp) (Ev.now _)
    · refine Ev.step (fun k => by rw [laws_heldFrameS.l0]) ?_
      exact Ev.iteF (by simp) (Ev.now _)
  · obtain ⟨w1, w2, w3, w4, w5, w6⟩ := ones h0 h1
    refine ⟨[fm m], m + 6, ?_, by omega, ?_⟩
    · refine Ev.step (fun k => by rw [laws_markFrameS.l0]) ?_
      refine Ev.iteT (by simp) (Ev.iteT (by omega) ?_)
      rw [w1, w2, w3, w4, w5]
      refine Ev.bindc rfl (Ev.bindc rfl (Ev.bindc rfl (Ev.bindc rfl (Ev.bindc rfl (Ev.bind (mt_ev (by omega) (by omega)) ?_)))))
      rw [w6]
      refine Ev.step (fun k => by rw [laws_markFrameS.l0]) ?_
      refine Ev.iteF (by rw [wrap64_id (by omega) (by omega)]; simp) (Ev.eq (Ev.now _) ?_)
      rfl
    · refine Ev.step (fun k => by rw [laws_heldFrameS.l0]) ?_
      refine Ev.iteT (by simp) (Ev.iteT (by omega) ?_)
      rw [w1, w2, w3, w4, w5]
      have e : rd_T35 [fm m] 0 = fm m := rfl
      rw [e]
      refine Ev.iteF (by simp [fm]) (Ev.iteF (by simp [fm]) (Ev.iteT rfl (Ev.iteT rfl (Ev.iteT rfl (Ev.bind (mt_ev (by omega) (by omega)) (Ev.iteT rfl ?_))))))
      rw [w6]
      refine Ev.step (fun k => by rw [laws_heldFrameS.l0]) ?_
      exact Ev.iteF (by rw [wrap64_id (by omega) (by omega)]; simp) (Ev.now _)
end Go.Proofs.Ytnlhaiihbcdmoaa.Lists
