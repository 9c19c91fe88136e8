/- FnFopHear, behind the machine. No conditions. -/
import Derived.Test.YtnlhaiihbcdmoaaPx9
import Derived.Test.YtnlhaiihbcdmoaaPx16
import Derived.Test.YtnlhaiihbcdmoaaPx17
import Derived.Test.YtnlhaiihbcdmoaaFopHear
import Derived.Test.YtnlhaiihbcdmoaaDrawAnyFarm
import Derived.Test.YtnlhaiihbcdmoaaDrawFop
namespace Go.Proofs.Ytnlhaiihbcdmoaa.Pure
open Go.RowKit Go.Proofs.Ytnlhaiihbcdmoaa.P Go.Proofs.Ytnlhaiihbcdmoaa.E Go.Proofs.Ytnlhaiihbcdmoaa.Num Go.Proofs.Ytnlhaiihbcdmoaa.In Go.Proofs.Ytnlhaiihbcdmoaa.Lists Go.Proofs.Ytnlhaiihbcdmoaa.Fop Go.Proofs.Ytnlhaiihbcdmoaa.Draw Go.Proofs.YtnlhaiihbcdmoaaW.PrintWords
set_option linter.unusedSimpArgs false
set_option linter.unusedVariables false
theorem skTexts_ev (a : List ByteArray) (hl : a.length ≤ 9223372036854775806) : Ev (fun k => laws_skTexts.f k a a) true := by
  unfold laws_skTexts.f
  refine Ev.iteT rfl ?_
  refine Ev.eq (Ev.all (L := fun k i => laws_skTexts.l0 k a a i) a.length 0 (fun i => true) (b := true) (fun i hi k _ => ?_) (fun k _ => ?_)) ?_
  · show laws_skTexts.l0 (k + 1) a a i = _
    rw [laws_skTexts.l0, if_pos (by omega), if_pos (by omega), if_pos (by omega), wrap_succ (by omega), if_pos rfl, if_pos rfl]
  · show laws_skTexts.l0 (k + 1) a a a.length = _
    rw [laws_skTexts.l0, if_neg (by omega)]
  · simp
theorem skFop_ev (c v n : Int) (l : List ByteArray) (s : Bool) (hl : l.length ≤ 9223372036854775806) : Ev (fun k => laws_skFop.f k c v n l s c v n l s) true := by
  unfold laws_skFop.f
  exact Ev.iteT rfl (Ev.iteT rfl (Ev.iteT rfl (Ev.iteT (by simp) (Ev.bind (skTexts_ev l hl) (Ev.now _)))))
theorem drawHear {l : List Int} (h : ∀ x ∈ l, (Lit.int .u8 x).wf = true) : ∃ c v n t s xs xw xa xc xn, Ev (fun k => spec_DrawFopHear.f k l) (c, v, n, t, s, xs, xw, xa, xc, xn) ∧ t.length ≤ 5 := by
  obtain ⟨b, eo, hb⟩ := open_at h
  obtain ⟨c, v, n, t, s, p1, e1, ht, q0, q1⟩ := anyFop_ev hb (show (0 : Int) ≤ 0 by omega) (by omega)
  obtain ⟨xs, xw, xa, xc, xn, p2, e2, r0, r1⟩ := anyFarm_ev hb (show 0 ≤ p1 by omega) (by omega)
  obtain ⟨u, e3, _, _⟩ := pick_ev hb (show 0 ≤ p2 by omega) (by omega) 4
  by_cases hu : u > 0
  · obtain ⟨y, e4, _, _⟩ := pick_ev hb (show 0 ≤ p2 + 1 by omega) (by omega) 6
    refine ⟨c, v, n, t, s, xs, xw, xa, xc, Int.tmod (wrap64 (wrap64 (n - y) + 512)) 256, ?_, ht⟩
    unfold spec_DrawFopHear.f
    refine Ev.bindc eo ?_
    refine Ev.bind e1 ?_
    refine Ev.bind e2 ?_
    refine Ev.bind e3 ?_
    refine Ev.iteT hu ?_
    refine Ev.bind e4 ?_
    refine Ev.bindc (x := Int.tmod (wrap64 (wrap64 (n - y) + 512)) 256) rfl ?_
    exact Ev.now _
  · refine ⟨c, v, n, t, s, xs, xw, xa, xc, xn, ?_, ht⟩
    unfold spec_DrawFopHear.f
    refine Ev.bindc eo ?_
    refine Ev.bind e1 ?_
    refine Ev.bind e2 ?_
    refine Ev.bind e3 ?_
    exact Ev.iteF hu (Ev.now _)
theorem ok_less {c v n : Int} {l : List ByteArray} (m : Nat) (h : fopB c v n l = true) : fopB c v n (l.drop m) = true := by
  unfold fopB at h ⊢
  simp only [Bool.and_eq_true, decide_eq_true_eq, inB_true, List.all_eq_true, List.length_drop] at h ⊢
  obtain ⟨h1, hv, hn, hl, ha⟩ := h
  exact ⟨h1, hv, hn, by omega, fun x hx => ha x (List.mem_of_mem_drop hx)⟩
theorem FnFopHear : laws_FnFopHear.Pure := by
  intro l hl hl2 hlb
  refine Ev.rnd ?_
  unfold laws_FnFopHear.f
  by_cases h : (l.length : Int) > 1048576
  · exact Ev.iteT h (Ev.now true)
  refine Ev.iteF h ?_
  obtain ⟨c, v, n, t, s, xs, xw, xa, xc, xn, ed, ht⟩ := drawHear hlb
  refine Ev.bind ed ?_
  refine Ev.bind (implHear_ev c v n t s xs xw xa xc xn (by omega)) ?_
  refine Ev.bind (specHear_ev c v n t s xs xw xa xc xn (by omega)) ?_
  have hT : (hearR c v n t s xs xw xa xc xn).2.2.2.1.length ≤ t.length := by
    unfold hearR
    split
    · split
      · simp
      · simp
    · simp
  refine Ev.bind (skFop_ev _ _ _ _ _ (by omega)) (Ev.iteT rfl ?_)
  refine Ev.iteF (by simp) (Ev.bind (specOk_ev c v n t s (by omega)) ?_)
  refine Ev.step (fun k => by rw [laws_FnFopHear.j0]) ?_
  by_cases hB : fopB c v n t = true
  · rw [hB]
    refine Ev.iteF (by simp) ?_
    by_cases hm : farmB xw xa xc xn = true ∧ ansN n t xn ≤ (t.length : Int)
    · rw [hearR_yes hB hm.1 hm.2]
      obtain ⟨⟨n0, n1⟩, h4⟩ := fopB_range hB
      obtain ⟨x0, x1⟩ := farmB_range hm.1
      have a0 : 0 ≤ ansN n t xn := by unfold ansN; omega
      have hm2 := hm.2
      obtain ⟨a, ha⟩ := Int.eq_ofNat_of_zero_le a0
      have hB2 := ok_less a hB
      have hd : (t.drop a).length = t.length - a := by simp
      have hx : firstN n (t.drop a) = xn := by
        have hf : ansN n t xn = (xn - firstN n t + 256) % 256 := rfl
        unfold firstN at hf ⊢
        rw [hd]
        omega
      rw [ha] at hm2 ⊢
      dsimp only
      rw [Int.toNat_natCast]
      have hw : wrap64 ((t.length : Int) - ((t.drop a).length : Int)) = (a : Int) := by rw [wrap64_id (by omega) (by omega)]; omega
      rw [hw, Int.toNat_natCast]
      refine Ev.iteT rfl (Ev.iteT (by omega) (Ev.iteT (by omega) (Ev.iteT (by omega) ?_)))
      refine Ev.bind (skTexts_ev (t.drop a) (by omega)) (Ev.iteT rfl (Ev.iteT rfl ?_))
      refine Ev.bind (first_at c v n (t.drop a) xs hB2) (Ev.iteT hx (Ev.eq (Ev.now _) ?_))
      simp
    · rw [hearR_keep hB hm]
      dsimp only
      exact Ev.iteF (by simp) (Ev.bind (skFop_ev _ _ _ _ _ (by omega)) (Ev.now _))
  · rw [Bool.not_eq_true] at hB
    rw [hB]
    refine Ev.iteT rfl ?_
    exact Ev.bind (skFop_ev _ _ _ _ _ (by omega)) (Ev.iteT rfl (Ev.eq (Ev.now _) (by simp)))
end Go.Proofs.Ytnlhaiihbcdmoaa.Pure
