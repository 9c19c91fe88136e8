/- FnPartSend, behind the machine: of a drawn program that runs and a drawn value the program's PartSend and the reference's are one, and the value is in the box. No conditions. -/
import Derived.Test.YtmhdphohhheoaaaPx3
import Derived.Test.YtmhdphohhheoaaaPx11
import Derived.Test.YtmhdphohhheoaaaPx15
import Derived.Test.YtmhdphohhheoaaaSend
import Derived.Test.YtmhdphohhheoaaaDrawPart
import Derived.Test.YtmhdphohhheoaaaSk
namespace Go.Proofs.Ytmhdphohhheoaaa.Pure
open Go.RowKit Go.Proofs.Ytmhdphohhheoaaa.P Go.Proofs.Ytmhdphohhheoaaa.E Go.Proofs.Ytmhdphohhheoaaa.OpsOk Go.Proofs.Ytmhdphohhheoaaa.Parts Go.Proofs.Ytmhdphohhheoaaa.Draw Go.Proofs.Ytmhdphohhheoaaa.Sk Go.Proofs.Ytmhdphohhheoaaa.Send Go.Proofs.YtmhdphohhheoaaaW.PrintWords
set_option linter.unusedSimpArgs false
set_option linter.unusedVariables false
theorem drawPartSend_ev {l0 : List Int} (hw : ∀ x ∈ l0, (Lit.int .u8 x).wf = true) : ∃ P C a f B v, Ev (fun k => spec_DrawPartSend.f k l0) (P, C, a, f, B, v) ∧ P.length ≤ 16 ∧ C.length ≤ 8 ∧ B.length ≤ 5 := by
  unfold spec_DrawPartSend.f
  obtain ⟨b, hb, h⟩ := open_at hw
  obtain ⟨P, C, a, f, B, q, e, hP, hC, hB, q0, q1⟩ := anyPart_ev h (p := 0) (by omega) (by omega)
  obtain ⟨x, ex, _⟩ := pick_ev h (p := q) (by omega) (by omega) 256
  obtain ⟨v, ev, _⟩ := one_ev h (p := q + 1) (by omega) (by omega) [x, 0, 9999, 10000, -1] (by simp)
  refine ⟨P, C, a, f, B, v, Ev.bindc hb (Ev.bind e (Ev.bind ex ?_)), hP, hC, hB⟩
  exact Ev.bind ev (Ev.now _)
theorem part_put {p : List S53} {c : List Int} {a : Int} {b : List Int} {v : Int} (h : partB p c a b = true) (h2 : inB v 0 9999 = true) (h3 : ¬ b.length ≥ 4) : partB p c a (b ++ [v]) = true := by
  unfold partB valuesB at *
  simp only [Bool.and_eq_true, decide_eq_true_eq] at h ⊢
  refine ⟨h.1, h.2.1, h.2.2.1, h.2.2.2.1, by simp; omega, ?_⟩
  rw [List.all_append, h.2.2.2.2.2]
  simp [h2]
theorem FnPartSend : laws_FnPartSend.Pure := by
  intro l0 _ _ hw
  refine Ev.rounds ?_
  unfold laws_FnPartSend.f
  by_cases h : (l0.length : Int) > 1048576
  · exact Ev.iteT h (Ev.now _)
  · obtain ⟨p, c, a, f, b, v, eD, hp, hc, hb⟩ := drawPartSend_ev hw
    have himpl := implSend_ev p c a f b v (by omega) (by omega) (by omega)
    have hspec := specSend_ev p c a f b v (by omega) (by omega) (by omega)
    have hi := implPart_ev p c a f b (by omega) (by omega) (by omega)
    have hs := specPart_ev p c a f b (by omega) (by omega) (by omega)
    have same := skPart_ev p c a f b (by omega) (by omega) (by omega)
    have none := skPart_ev [] [] 0 false [] (by simp) (by simp) (by simp)
    refine Ev.iteF h (Ev.bind eD (Ev.bind himpl (Ev.bind hspec ?_)))
    by_cases hP : partB p c a b = true
    · rw [hP] at hi hs
      by_cases h2 : inB v 0 9999 = true
      · by_cases h3 : b.length ≥ 4
        · rw [sendR_full hP h2 h3]
          refine Ev.bind same (Ev.iteT rfl (Ev.iteF (by simp) ?_))
          refine Ev.bind hi (Ev.bind hs (Ev.iteF (by simp) (Ev.bind hs ?_)))
          refine Ev.step (fun k => by rw [laws_FnPartSend.j0]) (Ev.iteF (by simp) (Ev.iteF (by simp) ?_))
          exact Ev.bind same (Ev.now _)
        · rw [sendR_put hP h2 h3]
          have hlen : (b ++ [v]).length = b.length + 1 := by simp
          have same2 := skPart_ev p c a f (b ++ [v]) (by omega) (by omega) (by omega)
          refine Ev.bind same2 (Ev.iteT rfl (Ev.iteF (by simp) ?_))
          refine Ev.bind hi (Ev.bind hs (Ev.iteF (by simp) (Ev.bind hs ?_)))
          refine Ev.step (fun k => by rw [laws_FnPartSend.j0]) (Ev.iteF (by simp) (Ev.iteT rfl ?_))
          have hw1 : wrap64 ((b.length : Int) + 1) = (b.length : Int) + 1 := wrap64_id (by omega) (by omega)
          refine Ev.iteT (by show ((b ++ [v]).length : Int) = wrap64 ((b.length : Int) + 1); rw [hw1, hlen]; omega) ?_
          refine Ev.iteT (by show 0 ≤ (b.length : Int); omega) (Ev.iteT (by show (b.length : Int) < ((b ++ [v]).length : Int); omega) ?_)
          refine Ev.iteT (by show rd (b ++ [v]) (b.length : Int) = v; unfold rd; simp) (Ev.iteT (by show (b.length : Int) ≤ ((b ++ [v]).length : Int); omega) ?_)
          have ht : (b ++ [v]).take ((b.length : Int) : Int).toNat = b := by simp
          refine Ev.bind (show Ev (fun k => laws_skInts.f k ((b ++ [v]).take ((b.length : Int) : Int).toNat) b) true by rw [ht]; exact skInts_ev b (by omega)) (Ev.iteT rfl ?_)
          refine Ev.bind (skInts_ev c (by omega)) (Ev.iteT rfl ?_)
          have hf := implPart_ev p c a f (b ++ [v]) (by omega) (by omega) (by omega)
          rw [part_put hP h2 h3] at hf
          exact Ev.bind hf (Ev.now _)
      · rw [sendR_out hP h2]
        refine Ev.bind same (Ev.iteT rfl (Ev.iteF (by simp) ?_))
        refine Ev.bind hi (Ev.bind hs (Ev.iteF (by simp) (Ev.bind hs ?_)))
        refine Ev.step (fun k => by rw [laws_FnPartSend.j0]) (Ev.iteF (by simp) (Ev.iteF (by simp) ?_))
        exact Ev.bind same (Ev.now _)
    · rw [sendR_no hP]
      have hF : partB p c a b = false := by simpa using hP
      rw [hF] at hi hs
      refine Ev.bind none (Ev.iteT rfl (Ev.iteF (by simp) ?_))
      refine Ev.bind hi (Ev.bind hs (Ev.iteF (by simp) (Ev.bind hs ?_)))
      refine Ev.step (fun k => by rw [laws_FnPartSend.j0]) (Ev.iteT (by simp) ?_)
      exact Ev.bind none (Ev.iteT rfl (Ev.now _))
end Go.Proofs.Ytmhdphohhheoaaa.Pure
