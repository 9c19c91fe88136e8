/- Drawn hearings, some of them none, in plain Lean: each draw answers. No conditions. -/
import Derived.Test.YtnlhaiihbcdmoaaPx9
import Derived.Test.YtnlhaiihbcdmoaaPx16
import Derived.Test.YtnlhaiihbcdmoaaDrawFarm
namespace Go.Proofs.Ytnlhaiihbcdmoaa.Draw
open Go.RowKit Go.Proofs.Ytnlhaiihbcdmoaa.P Go.Proofs.Ytnlhaiihbcdmoaa.E Go.Proofs.YtnlhaiihbcdmoaaW.PrintWords
set_option linter.unusedSimpArgs false
set_option linter.unusedVariables false
theorem anyFarm_ev {b : List Int} {p : Int} (h : Bytes b) (hp : 0 ≤ p) (hp2 : p < 500000) :
    ∃ s w a c n p', Ev (fun k => spec_l15AnyFarm.f k b p) (s, w, a, c, n, p') ∧ p ≤ p' ∧ p' ≤ p + 9 := by
  obtain ⟨s, w, a, c, n, p1, e1, ⟨q0, q1⟩, _⟩ := farm_ev h hp (by omega)
  obtain ⟨u, e2, _, _⟩ := pick_ev h (show 0 ≤ p1 by omega) (by omega) 20
  suffices hs : ∃ s' w' a' c' n' p', Ev (fun k => if u = 0 then ((spec_l1Rd_one.f k b (p1 + 1) (([(-1), 4] : List Int))).bind fun bt348 => (some (s, w, a, bt348.1, n, bt348.2))) else (if u = 1 then ((spec_l1Rd_one.f k b (p1 + 1) (([(-1), 256] : List Int))).bind fun bt353 => (some (s, w, a, c, bt353.1, bt353.2))) else (if u = 2 then (some (s, true, false, c, n, p1 + 1)) else (some (s, w, a, c, n, p1 + 1))))) (s', w', a', c', n', p') ∧ p1 ≤ p' ∧ p' ≤ p1 + 2 by
    obtain ⟨s', w', a', c', n', p', e, b0, b1⟩ := hs
    refine ⟨s', w', a', c', n', p', ?_, by omega, by omega⟩
    unfold spec_l15AnyFarm.f
    refine Ev.bind e1 ?_
    refine Ev.bind e2 ?_
    exact e
  by_cases h0 : u = 0
  · obtain ⟨y, e3, _⟩ := one_ev h (show 0 ≤ p1 + 1 by omega) (by omega) [(-1), 4] (by simp)
    exact ⟨_, _, _, _, _, _, Ev.iteT h0 (Ev.bind e3 (Ev.now _)), by omega, by omega⟩
  · by_cases h1 : u = 1
    · obtain ⟨y, e3, _⟩ := one_ev h (show 0 ≤ p1 + 1 by omega) (by omega) [(-1), 256] (by simp)
      exact ⟨_, _, _, _, _, _, Ev.iteF h0 (Ev.iteT h1 (Ev.bind e3 (Ev.now _))), by omega, by omega⟩
    · by_cases h2 : u = 2
      · exact ⟨_, _, _, _, _, _, Ev.iteF h0 (Ev.iteF h1 (Ev.iteT h2 (Ev.now _))), by omega, by omega⟩
      · exact ⟨_, _, _, _, _, _, Ev.iteF h0 (Ev.iteF h1 (Ev.iteF h2 (Ev.now _))), by omega, by omega⟩
end Go.Proofs.Ytnlhaiihbcdmoaa.Draw
