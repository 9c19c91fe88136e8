/- Drawn senders, in plain Lean: each draw answers, and what it answers lies in bounds. No conditions. -/
import Derived.Test.YtnlhaiihbcdmoaaPx7
import Derived.Test.YtnlhaiihbcdmoaaPx8
import Derived.Test.YtnlhaiihbcdmoaaPx9
import Derived.Test.YtnlhaiihbcdmoaaDrawTx
namespace Go.Proofs.Ytnlhaiihbcdmoaa.Draw
open Go.RowKit Go.Proofs.Ytnlhaiihbcdmoaa.P Go.Proofs.Ytnlhaiihbcdmoaa.E Go.Proofs.Ytnlhaiihbcdmoaa.Num Go.Proofs.YtnlhaiihbcdmoaaW.PrintWords
set_option linter.unusedSimpArgs false
set_option linter.unusedVariables false
theorem fop_loop {b : List Int} (h : Bytes b) (c v n : Int) (s : Bool) : ∀ (d : Nat) (p : Int) (l : List ByteArray), l.length + d ≤ 100 → 0 ≤ p → p + 500 * d < 1000000 →
    ∃ l' p', Ev (fun k => spec_l15Fop.l0 k (d : Int) b p c v n l s) (c, v, n, l', s, p') ∧ l'.length = l.length + d ∧ p ≤ p' ∧ p' ≤ p + 500 * d := by
  intro d
  induction d with
  | zero =>
    intro p l hl hp hp2
    refine ⟨l, p, Ev.step (fun k => by rw [spec_l15Fop.l0]) ?_, by omega, by omega, by omega⟩
    exact Ev.iteF (by omega) (Ev.now _)
  | succ d ih =>
    intro p l hl hp hp2
    obtain ⟨t, p1, e1, ht, q0, q1⟩ := text_ev h hp (by omega) 6 (by omega)
    have e1 : Ev (fun k => spec_l15Text.f k b p 6) (t, p1) := e1
    obtain ⟨l', p', e', hl', r0, r1⟩ := ih p1 (l ++ [(⟨#[115]⟩ : ByteArray) ++ t]) (by simp; omega) (by omega) (by omega)
    have ew : wrap64 (((d + 1 : Nat) : Int) - 1) = (d : Int) := by rw [wrap64_id (by omega) (by omega)]; omega
    refine ⟨l', p', Ev.step (fun k => by rw [spec_l15Fop.l0]) ?_, by rw [hl']; simp; omega, by omega, by omega⟩
    refine Ev.iteT (by omega) ?_
    refine Ev.bind e1 ?_
    refine Ev.iteT (show 1 + t.size ≤ 9223372036854775807 by omega) ?_
    refine Ev.iteT (by omega) ?_
    rw [ew]
    exact e'
theorem fop_ev {b : List Int} {p : Int} (h : Bytes b) (hp : 0 ≤ p) (hp2 : p < 500000) :
    ∃ c v n l s p', Ev (fun k => spec_l15Fop.f k b p) (c, v, n, l, s, p') ∧ l.length ≤ 4 ∧ p ≤ p' ∧ p' ≤ p + 3000 := by
  obtain ⟨v1, e1, _, _⟩ := pick_ev h hp (by omega) 8
  obtain ⟨v2, e2, _, _⟩ := pick_ev h (show 0 ≤ p + 1 by omega) (by omega) 256
  obtain ⟨v3, e3, g0, g1⟩ := pick_ev h (show 0 ≤ p + 1 + 1 by omega) (by omega) 3
  have g2 := g1 (by omega)
  obtain ⟨v4, e4, _, _⟩ := pick_ev h (show 0 ≤ p + 1 + 1 + 1 by omega) (by omega) 6
  obtain ⟨v5, e5, k0, k1⟩ := pick_ev h (show 0 ≤ p + 1 + 1 + 1 + 1 by omega) (by omega) 5
  have k2 := k1 (by omega)
  obtain ⟨d, rfl⟩ := Int.eq_ofNat_of_zero_le k0
  obtain ⟨l', p', e', hl', r0, r1⟩ := fop_loop h 5 3 (rd [v1, v2, 255] v3) (v4 == 0) d (p + 1 + 1 + 1 + 1 + 1) [] (by simp; omega) (by omega) (by omega)
  refine ⟨5, 3, rd [v1, v2, 255] v3, l', v4 == 0, p', ?_, by simp at hl'; omega, by omega, by omega⟩
  unfold spec_l15Fop.f
  refine Ev.bind e1 ?_
  refine Ev.bind e2 ?_
  refine Ev.bindc (x := [v1, v2, 255]) rfl ?_
  refine Ev.bind e3 ?_
  refine Ev.iteT g0 (Ev.iteT (show v3 < (([v1, v2, 255] : List Int).length : Int) by simp; omega) ?_)
  refine Ev.bind e4 ?_
  refine Ev.bind e5 ?_
  exact e'
theorem more_loop {b : List Int} (p c v n : Int) (s : Bool) : ∀ (d : Nat) (l : List ByteArray), l.length + d = 5 → ∃ l', Ev (fun k => spec_l15AnyFop.l0 k b p c v n l s) (c, v, n, l', s, p) ∧ l'.length ≤ 5 := by
  intro d
  induction d with
  | zero =>
    intro l hl
    refine ⟨l, Ev.step (fun k => by rw [spec_l15AnyFop.l0]) ?_, by omega⟩
    exact Ev.iteF (by omega) (Ev.now _)
  | succ d ih =>
    intro l hl
    obtain ⟨l', e', hl'⟩ := ih (l ++ [(⟨#[120]⟩ : ByteArray)]) (by simp; omega)
    refine ⟨l', Ev.step (fun k => by rw [spec_l15AnyFop.l0]) ?_, hl'⟩
    exact Ev.iteT (by omega) (Ev.iteT (by omega) e')
theorem anyFop_ev {b : List Int} {p : Int} (h : Bytes b) (hp : 0 ≤ p) (hp2 : p < 500000) :
    ∃ c v n l s p', Ev (fun k => spec_l15AnyFop.f k b p) (c, v, n, l, s, p') ∧ l.length ≤ 5 ∧ p ≤ p' ∧ p' ≤ p + 4000 := by
  obtain ⟨c, v, n, l, s, p1, e1, hl, q0, q1⟩ := fop_ev h hp hp2
  obtain ⟨u, e2, _, _⟩ := pick_ev h (show 0 ≤ p1 by omega) (by omega) 20
  suffices hs : ∃ c' v' n' l' s' p', Ev (fun k => if u = 0 then ((spec_l1Rd_one.f k b (p1 + 1) (([(-1), 256] : List Int))).bind fun bt164 => (some (c, v, bt164.1, l, s, bt164.2))) else (if u = 1 then (if l.length < 8796093022208 then (some (c, v, n, (l ++ [(⟨#[]⟩ : ByteArray)]), s, p1 + 1)) else (none)) else (if u = 2 then (some (1024, v, n, l, s, p1 + 1)) else (if u = 3 then (spec_l15AnyFop.l0 k b (p1 + 1) c v n l s) else (some (c, v, n, l, s, p1 + 1)))))) (c', v', n', l', s', p') ∧ l'.length ≤ 5 ∧ p1 ≤ p' ∧ p' ≤ p1 + 2 by
    obtain ⟨c', v', n', l', s', p', e, a, b0, b1⟩ := hs
    refine ⟨c', v', n', l', s', p', ?_, a, by omega, by omega⟩
    unfold spec_l15AnyFop.f
    refine Ev.bind e1 ?_
    refine Ev.bind e2 ?_
    exact e
  by_cases h0 : u = 0
  · obtain ⟨w, e3, _⟩ := one_ev h (show 0 ≤ p1 + 1 by omega) (by omega) [(-1), 256] (by simp)
    exact ⟨c, v, w, l, s, p1 + 1 + 1, Ev.iteT h0 (Ev.bind e3 (Ev.now _)), by omega, by omega, by omega⟩
  · by_cases h1 : u = 1
    · exact ⟨c, v, n, l ++ [⟨#[]⟩], s, p1 + 1, Ev.iteF h0 (Ev.iteT h1 (Ev.iteT (by omega) (Ev.now _))), by simp; omega, by omega, by omega⟩
    · by_cases h2 : u = 2
      · exact ⟨1024, v, n, l, s, p1 + 1, Ev.iteF h0 (Ev.iteF h1 (Ev.iteT h2 (Ev.now _))), by omega, by omega, by omega⟩
      · by_cases h3 : u = 3
        · obtain ⟨l', e', hl'⟩ := more_loop (b := b) (p1 + 1) c v n s (5 - l.length) l (by omega)
          exact ⟨c, v, n, l', s, p1 + 1, Ev.iteF h0 (Ev.iteF h1 (Ev.iteF h2 (Ev.iteT h3 e'))), hl', by omega, by omega⟩
        · exact ⟨c, v, n, l, s, p1 + 1, Ev.iteF h0 (Ev.iteF h1 (Ev.iteF h2 (Ev.iteF h3 (Ev.now _)))), by omega, by omega, by omega⟩
end Go.Proofs.Ytnlhaiihbcdmoaa.Draw
