/- Plain facts on the laws' helpers over programs that run: copies, equality. No conditions. -/
import Derived.Test.YtmhdphohhheoaaaPx12
import Derived.Test.YtmhdphohhheoaaaPx16
import Derived.Test.YtmhdphohhheoaaaListInt
import Derived.Test.YtmhdphohhheoaaaListOp
namespace Go.Proofs.Ytmhdphohhheoaaa.Lists
open Go.RowKit Go.Proofs.Ytmhdphohhheoaaa.P Go.Proofs.Ytmhdphohhheoaaa.E Go.Proofs.YtmhdphohhheoaaaW.PrintWords
set_option linter.unusedSimpArgs false
set_option linter.unusedVariables false

/-- Either there is too much, and the law answers at once; or all is short. -/
theorem szPart_at (p : List S56) (c : List Int) (a : Int) (f : Bool) (b : List Int) (hp : p.length ≤ 9223372036854775807) (hc : c.length ≤ 9223372036854775807) (hb : b.length ≤ 9223372036854775807) :
    ∃ n, laws_szPart.f p c a f b 1048576 = some n ∧ (0 ≤ n → p.length ≤ 1048576 ∧ c.length ≤ 1048576 ∧ b.length ≤ 1048576) := by
  unfold laws_szPart.f
  rw [szOpS_at p 1048576 (by omega) (by omega) hp]
  simp only [Option.bind_some]
  by_cases h1 : (1048576 : Int) - p.length < 0
  · rw [if_pos h1, if_pos (by omega)]
    exact ⟨-1, rfl, fun h => absurd h (by omega)⟩
  · rw [if_neg h1, if_neg h1, szIntS_at c _ (by omega) (by omega) hc]
    simp only [Option.bind_some]
    by_cases h2 : (1048576 : Int) - p.length - c.length < 0
    · rw [if_pos h2, if_pos (by omega)]
      exact ⟨-1, rfl, fun h => absurd h (by omega)⟩
    · rw [if_neg h2, if_neg h2, szIntS_at b _ (by omega) (by omega) hb]
      simp only [Option.bind_some]
      by_cases h3 : (1048576 : Int) - p.length - c.length - b.length < 0
      · rw [if_pos h3, if_pos (by omega)]
        exact ⟨-1, rfl, fun h => absurd h (by omega)⟩
      · rw [if_neg h3, if_neg h3]
        exact ⟨_, rfl, fun _ => ⟨by omega, by omega, by omega⟩⟩
theorem toPart_ev (p : List S56) (c : List Int) (a : Int) (f : Bool) (b : List Int) (hp : p.length ≤ 1048576) (hc : c.length ≤ 1048576) (hb : b.length ≤ 1048576) : Ev (fun k => laws_toPart.f k p c a f b) (p.map opOf, c, a, f, b) := by
  unfold laws_toPart.f
  exact Ev.bind (toOpS_ev p hp) (Ev.bind (toIntS_ev c hc) (Ev.bind (toIntS_ev b hb) (Ev.now _)))
theorem eqPart_ev (p : List S53) (c : List Int) (a : Int) (f : Bool) (b : List Int) (hp : p.length ≤ 9223372036854775806) (hc : c.length ≤ 9223372036854775806) (hb : b.length ≤ 9223372036854775806) : Ev (fun k => laws_eqPart.f k p c a f b p c a f b) true := by
  unfold laws_eqPart.f
  refine Ev.bind (eqOpS_ev p p hp) (Ev.iteT (by simp) ?_)
  refine Ev.bind (eqIntS_ev c c hc) (Ev.iteT (by simp) (Ev.iteT rfl (Ev.iteF (by simp) ?_)))
  exact Ev.bind (eqIntS_ev b b hb) (Ev.iteT (by simp) (Ev.now _))
end Go.Proofs.Ytmhdphohhheoaaa.Lists
