/- Drawn hearings, in plain Lean: each draw answers, and what it answers lies in bounds. No conditions. -/
import Derived.Test.YtaolcmhgbanacaaPx2
import Derived.Test.YtaolcmhgbanacaaPx3
import Derived.Test.YtaolcmhgbanacaaDraw
namespace Go.Proofs.Ytaolcmhgbanacaa.Draw
open Go.RowKit Go.Proofs.Ytaolcmhgbanacaa.P Go.Proofs.Ytaolcmhgbanacaa.E Go.Proofs.YtaolcmhgbanacaaW.PrintWords
set_option linter.unusedSimpArgs false
set_option linter.unusedVariables false
theorem farm_ev {b : List Int} {p : Int} (h : Bytes b) (hp : 0 ≤ p) (hp2 : p < 600000) :
    ∃ s w a c n p', Ev (fun k => spec_l15Farm.f k b p) (s, w, a, c, n, p') ∧ (p ≤ p' ∧ p' ≤ p + 7) ∧ (w = true → a = true) ∧ (0 ≤ c ∧ c ≤ 3) ∧ (0 ≤ n ∧ n ≤ 255) := by
  obtain ⟨v1, e1, _, _⟩ := pick_ev h hp (by omega) 6
  obtain ⟨v2, e2, _, _⟩ := pick_ev h (show 0 ≤ p + 1 by omega) (by omega) 3
  obtain ⟨v3, e3, c0, c1⟩ := pick_ev h (show 0 ≤ p + 1 + 1 by omega) (by omega) 4
  have c2 := c1 (by omega)
  obtain ⟨v4, e4, d0, d1⟩ := pick_ev h (show 0 ≤ p + 1 + 1 + 1 by omega) (by omega) 12
  obtain ⟨v5, e5, f0, f1⟩ := pick_ev h (show 0 ≤ p + 1 + 1 + 1 + 1 by omega) (by omega) 256
  obtain ⟨v6, e6, g0, g1⟩ := pick_ev h (show 0 ≤ p + 1 + 1 + 1 + 1 + 1 by omega) (by omega) 4
  have g2 := g1 (by omega)
  have d2 := d1 (by omega)
  have f2 := f1 (by omega)
  have hn : 0 ≤ rd [v4, v5, 255, 0] v6 ∧ rd [v4, v5, 255, 0] v6 ≤ 255 := by
    rcases (show v6 = 0 ∨ v6 = 1 ∨ v6 = 2 ∨ v6 = 3 by omega) with rfl | rfl | rfl | rfl
    · show 0 ≤ v4 ∧ v4 ≤ 255; omega
    · show 0 ≤ v5 ∧ v5 ≤ 255; omega
    · show (0 : Int) ≤ 255 ∧ (255 : Int) ≤ 255; omega
    · show (0 : Int) ≤ 0 ∧ (0 : Int) ≤ 255; omega
  obtain ⟨v7, e7, _, _⟩ := pick_ev h (show 0 ≤ p + 1 + 1 + 1 + 1 + 1 + 1 by omega) (by omega) 2
  suffices hs : ∃ s w a c n p', Ev (fun k => if v2 = 0 then ((spec_l1Rd_pick.f k b (p + 1 + 1 + 1 + 1 + 1 + 1) 2).bind fun bt333 => (some ((v1 == 0), (bt333.1 == 0), (v2 == 0), v3, rd [v4, v5, 255, 0] v6, bt333.2))) else (some ((v1 == 0), false, (v2 == 0), v3, rd [v4, v5, 255, 0] v6, p + 1 + 1 + 1 + 1 + 1 + 1))) (s, w, a, c, n, p') ∧ (p ≤ p' ∧ p' ≤ p + 7) ∧ (w = true → a = true) ∧ (0 ≤ c ∧ c ≤ 3) ∧ (0 ≤ n ∧ n ≤ 255) by
    obtain ⟨s, w, a, c, n, p', e, x0⟩ := hs
    refine ⟨s, w, a, c, n, p', ?_, x0⟩
    unfold spec_l15Farm.f
    refine Ev.bind e1 ?_
    refine Ev.bind e2 ?_
    refine Ev.bind e3 ?_
    refine Ev.bind e4 ?_
    refine Ev.bind e5 ?_
    refine Ev.bindc (x := [v4, v5, 255, 0]) rfl ?_
    refine Ev.bind e6 ?_
    refine Ev.iteT g0 (Ev.iteT (show v6 < (([v4, v5, 255, 0] : List Int).length : Int) by simp; omega) ?_)
    exact e
  by_cases h0 : v2 = 0
  · exact ⟨_, _, _, _, _, _, Ev.iteT h0 (Ev.bind e7 (Ev.now _)), ⟨by omega, by omega⟩, fun _ => by simp [h0], ⟨by omega, by omega⟩, hn⟩
  · exact ⟨_, _, _, _, _, _, Ev.iteF h0 (Ev.now _), ⟨by omega, by omega⟩, fun x => absurd x (by simp), ⟨by omega, by omega⟩, hn⟩
end Go.Proofs.Ytaolcmhgbanacaa.Draw
