/- FnFopSend, behind the machine. No conditions. -/
import Derived.Test.YtnlhaiihbcdmoaaPx6
import Derived.Test.YtnlhaiihbcdmoaaPx9
import Derived.Test.YtnlhaiihbcdmoaaPx14
import Derived.Test.YtnlhaiihbcdmoaaPx15
import Derived.Test.YtnlhaiihbcdmoaaFopSend
import Derived.Test.YtnlhaiihbcdmoaaDrawFop
namespace Go.Proofs.Ytnlhaiihbcdmoaa.Pure
open Go.RowKit Go.Proofs.Ytnlhaiihbcdmoaa.P Go.Proofs.Ytnlhaiihbcdmoaa.E Go.Proofs.Ytnlhaiihbcdmoaa.Num Go.Proofs.Ytnlhaiihbcdmoaa.In Go.Proofs.Ytnlhaiihbcdmoaa.Lists Go.Proofs.Ytnlhaiihbcdmoaa.Fop Go.Proofs.Ytnlhaiihbcdmoaa.Draw Go.Proofs.YtnlhaiihbcdmoaaW.PrintWords
set_option linter.unusedSimpArgs false
set_option linter.unusedVariables false
theorem skTexts_ev (a : List ByteArray) (hl : a.length ≤ 9223372036854775806) : Ev (fun k => laws_skTexts.f k a a) true := by
  unfold laws_skTexts.f
  refine Ev.iteT rfl ?_
  refine Ev.eq (Ev.all (L := fun k i => laws_skTexts.l0 k a a i) a.length 0 (fun i => true) (b := true) (fun i hi k _ => ?_) (fun k _ => ?_)) ?_
  · show laws_skTexts.l0 (k + 1) a a i = _
    rw [laws_skTexts.l0, if_pos (by omega), if_pos (by omega), if_pos (by omega), wrap_succ (by omega), if_pos rfl, if_pos rfl]
  · show laws_skTexts.l0 (k + 1) a a a.length = _
    rw [laws_skTexts.l0, if_neg (by omega)]
  · simp
theorem skFop_ev (c v n : Int) (l : List ByteArray) (s : Bool) (hl : l.length ≤ 9223372036854775806) : Ev (fun k => laws_skFop.f k c v n l s c v n l s) true := by
  unfold laws_skFop.f
  exact Ev.iteT rfl (Ev.iteT rfl (Ev.iteT rfl (Ev.iteT (by simp) (Ev.bind (skTexts_ev l hl) (Ev.now _)))))
theorem skFrames_ev (l : List S35) (hl : l = [] ∨ ∃ x, l = [x]) : Ev (fun k => laws_skFrames.f k l l) true := by
  unfold laws_skFrames.f
  rcases hl with rfl | ⟨x, rfl⟩
  · refine Ev.iteT rfl (Ev.step (fun k => by rw [laws_skFrames.l0]) ?_)
    exact Ev.iteF (by simp) (Ev.now _)
  · refine Ev.iteT rfl (Ev.step (fun k => by rw [laws_skFrames.l0]) ?_)
    refine Ev.iteT (by simp) (Ev.iteT (by omega) (Ev.iteT (by simp) (Ev.iteF (by simp) ?_)))
    refine Ev.step (fun k => by rw [laws_skFrames.l0]) ?_
    exact Ev.iteF (by rw [wrap64_id (by omega) (by omega)]; simp) (Ev.now _)
theorem drawSend {l : List Int} (h : ∀ x ∈ l, (Lit.int .u8 x).wf = true) : ∃ c v n t s d, Ev (fun k => spec_DrawFopSend.f k l) (c, v, n, t, s, d) ∧ t.length ≤ 5 := by
  obtain ⟨b, eo, hb⟩ := open_at h
  obtain ⟨c, v, n, t, s, p1, e1, ht, q0, q1⟩ := anyFop_ev hb (show (0 : Int) ≤ 0 by omega) (by omega)
  obtain ⟨y, ey, _⟩ := many_ev 53 (by omega)
  obtain ⟨z, ez, _⟩ := many_ev 54 (by omega)
  obtain ⟨d, e2, _⟩ := of_ev hb (show 0 ≤ p1 by omega) (by omega) [(⟨#[100, 97, 116, 97]⟩ : ByteArray), (⟨#[120]⟩ : ByteArray), (⟨#[]⟩ : ByteArray), y, z] (by simp)
  refine ⟨c, v, n, t, s, d, ?_, ht⟩
  unfold spec_DrawFopSend.f
  refine Ev.bindc eo ?_
  refine Ev.bind e1 ?_
  refine Ev.bind ey ?_
  refine Ev.bind ez ?_
  refine Ev.bind e2 ?_
  exact Ev.now _
theorem first_at (c v n : Int) (l : List ByteArray) (s : Bool) (h : fopB c v n l = true) : Ev (fun k => impl_FopFirst.f k c v n l s) ((n - (l.length : Int) + 256) % 256) := by
  obtain ⟨⟨n0, n1⟩, hl⟩ := fopB_range h
  unfold impl_FopFirst.f
  refine Ev.bind (implOk_ev c v n l s (by omega)) (Ev.iteT h ?_)
  rw [wrap64_id (by omega) (by omega)]
  exact Ev.bindc (plus_at n (-(l.length : Int)) n0 n1 (by omega) (by omega)) (Ev.now _)
theorem ok_more {c v n : Int} {l : List ByteArray} {s : Bool} {x : ByteArray} (h : fopB c v n l = true) (h2 : mayB l s x = true) : fopB c v ((n + 1) % 256) (l ++ [x]) = true := by
  unfold fopB at h ⊢
  unfold mayB at h2
  simp only [Bool.and_eq_true, decide_eq_true_eq, inB_true, List.all_append, List.all_cons, List.all_nil, Bool.and_true, List.length_append, List.length_cons, List.length_nil] at h h2 ⊢
  obtain ⟨h1, hv, hn, hl, ha⟩ := h
  exact ⟨h1, hv, by omega, by omega, ha, h2.2.2⟩
theorem FnFopSend : laws_FnFopSend.Pure := by
  intro l hl hl2 hlb
  refine Ev.rnd ?_
  unfold laws_FnFopSend.f
  by_cases h : (l.length : Int) > 1048576
  · exact Ev.iteT h (Ev.now true)
  refine Ev.iteF h ?_
  obtain ⟨c, v, n, t, s, d, ed, ht⟩ := drawSend hlb
  refine Ev.bind ed ?_
  refine Ev.bind (implSend_ev c v n t s d (by omega)) ?_
  refine Ev.bind (specSend_ev c v n t s d (by omega)) ?_
  obtain ⟨hT, hF⟩ := sendR_short c v n t s d
  have hF2 : (sendR c v n t s d).2.2.2.2.2 = [] ∨ ∃ y, (sendR c v n t s d).2.2.2.2.2 = [y] := by
    rcases hF with h | h
    · exact Or.inl h
    · exact Or.inr ⟨_, h⟩
  refine Ev.bind (skFop_ev _ _ _ _ _ (by omega)) (Ev.iteT rfl ?_)
  refine Ev.bind (skFrames_ev _ hF2) (Ev.iteT rfl ?_)
  refine Ev.bind (implOk_ev c v n t s (by omega)) (Ev.bind (specOk_ev c v n t s (by omega)) ?_)
  refine Ev.iteF (by simp) (Ev.bind (specOk_ev c v n t s (by omega)) ?_)
  by_cases hB : fopB c v n t = true
  · rw [hB]
    refine Ev.step (fun k => by rw [laws_FnFopSend.j0]) ?_
    refine Ev.iteF (by simp) ?_
    by_cases hm : mayB t s d = true
    · rw [sendR_yes hB hm]
      have hB2 := ok_more hB hm
      obtain ⟨⟨n0, n1⟩, h4⟩ := fopB_range hB
      obtain ⟨_, h5⟩ := fopB_range hB2
      have hlen : (t ++ [d]).length = t.length + 1 := by simp
      refine Ev.iteF (by simp) (Ev.iteT (by simp) (Ev.iteT (by simp) (Ev.iteT rfl (Ev.iteT rfl (Ev.iteF (by simp [rd_T35]) ?_)))))
      dsimp only
      refine Ev.bind (implOk_ev _ _ _ _ _ (by omega)) (Ev.iteT hB2 ?_)
      refine Ev.iteT (by rw [wrap64_id (by omega) (by omega)]; omega) (Ev.iteT (by omega) ?_)
      refine Ev.bind (first_at _ _ _ _ _ hB2) (Ev.bind (first_at _ _ _ _ _ hB) (Ev.eq (Ev.now _) ?_))
      rw [beq_iff_eq]
      omega
    · rw [Bool.not_eq_true] at hm
      rw [sendR_keep hB hm]
      dsimp only
      exact Ev.iteT rfl (Ev.bind (skFop_ev _ _ _ _ _ (by omega)) (Ev.now _))
  · rw [Bool.not_eq_true] at hB
    rw [hB]
    refine Ev.step (fun k => by rw [laws_FnFopSend.j0]) ?_
    refine Ev.iteT rfl ?_
    exact Ev.bind (skFop_ev _ _ _ _ _ (by omega)) (Ev.iteT rfl (Ev.bind (skFrames_ev _ hF2) (Ev.now _)))
end Go.Proofs.Ytnlhaiihbcdmoaa.Pure
