/- The drawn programs that run, in plain Lean: each draw answers; nothing drawn is long. No conditions. -/
import Derived.Test.YtmhdphohhheoaaaPx8
import Derived.Test.YtmhdphohhheoaaaPx10
import Derived.Test.YtmhdphohhheoaaaPx11
import Derived.Test.YtmhdphohhheoaaaDrawProg
namespace Go.Proofs.Ytmhdphohhheoaaa.Draw
open Go.RowKit Go.Proofs.Ytmhdphohhheoaaa.P Go.Proofs.Ytmhdphohhheoaaa.E Go.Proofs.Ytmhdphohhheoaaa.OpsOk Go.Proofs.YtmhdphohhheoaaaW.PrintWords
set_option linter.unusedSimpArgs false
set_option linter.unusedVariables false
theorem box_ev {b : List Int} (h : Bytes b) (P : List S53) (C : List Int) (a : Int) (f : Bool) : ∀ (d : Nat) (p : Int) (B : List Int), d ≤ 4 → 0 ≤ p → p + 2 * d < 1099511600000 → B.length + d ≤ 100 →
    ∃ B' q, Ev (fun k => spec_l15Part.l1 k (d : Int) b p P C a f B) (P, C, a, f, B', q) ∧ B'.length = B.length + d ∧ p ≤ q ∧ q ≤ p + 2 * d := by
  intro d
  induction d with
  | zero => exact fun p B _ _ _ _ => ⟨B, p, Ev.step (fun k => by rw [spec_l15Part.l1]) (Ev.iteF (by omega) (Ev.now _)), by simp, by omega, by omega⟩
  | succ d ih =>
    intro p B hd hp hp2 hB
    obtain ⟨x, ex, _⟩ := pick_ev h hp (by omega) 256
    obtain ⟨y, ey, _⟩ := one_ev h (p := p + 1) (by omega) (by omega) [x, 9999] (by simp)
    obtain ⟨B', q, e, hl, q0, q1⟩ := ih (p + 1 + 1) (B ++ [y]) (by omega) (by omega) (by omega) (by simp; omega)
    refine ⟨B', q, Ev.step (fun k => by rw [spec_l15Part.l1]) (Ev.iteT (by omega) ?_), by simp at hl; omega, by omega, by omega⟩
    refine Ev.bind ex ?_
    refine Ev.bind ey ?_
    refine Ev.iteT (by omega) ?_
    have : wrap64 (((d + 1 : Nat) : Int) - 1) = (d : Int) := by rw [wrap64_id (by omega) (by omega)]; omega
    simp only [this]
    exact e
theorem cells_ev {b : List Int} (h : Bytes b) (P : List S53) : ∀ (d i : Nat) (p : Int) (C : List Int), i + d = C.length → C.length ≤ 8 → 0 ≤ p → p + 3 * d < 1099511500000 →
    ∃ C' a f B q, Ev (fun k => spec_l15Part.l0 k (i : Int) b p P C 0 false []) (P, C', a, f, B, q) ∧ C'.length = C.length ∧ B.length ≤ 4 ∧ p ≤ q ∧ q ≤ p + 3 * d + 11 := by
  intro d
  induction d with
  | zero =>
    intro i p C hi hC hp hp2
    obtain ⟨x, ex, _⟩ := pick_ev h hp (by omega) (P.length : Int)
    obtain ⟨y, ey, _⟩ := pick_ev h (p := p + 1) (by omega) (by omega) 12
    obtain ⟨z, ez, z0, z1⟩ := pick_ev h (p := p + 1 + 1) (by omega) (by omega) 5
    have hz := z1 (by omega)
    obtain ⟨n, rfl⟩ := Int.eq_ofNat_of_zero_le z0
    obtain ⟨B, q, e, hl, q0, q1⟩ := box_ev h P C x (y == 0) n (p + 1 + 1 + 1) [] (by omega) (by omega) (by omega) (by simp; omega)
    refine ⟨C, x, (y == 0), B, q, Ev.step (fun k => by rw [spec_l15Part.l0]) (Ev.iteF (by omega) ?_), rfl, by simp at hl; omega, by omega, by omega⟩
    refine Ev.bind ex ?_
    refine Ev.bind ey ?_
    refine Ev.bind ez ?_
    exact e
  | succ d ih =>
    intro i p C hi hC hp hp2
    obtain ⟨x, ex, _⟩ := pick_ev h hp (by omega) 9
    obtain ⟨y, ey, _⟩ := pick_ev h (p := p + 1) (by omega) (by omega) 256
    obtain ⟨z, ez, _⟩ := one_ev h (p := p + 1 + 1) (by omega) (by omega) [0, x, 9999, y] (by simp)
    obtain ⟨C', a, f, B, q, e, hl, hB, q0, q1⟩ := ih (i + 1) (p + 1 + 1 + 1) (C.set i z) (by simp; omega) (by simp; omega) (by omega) (by omega)
    refine ⟨C', a, f, B, q, Ev.step (fun k => by rw [spec_l15Part.l0]) (Ev.iteT (by omega) ?_), by simp at hl; omega, hB, by omega, by omega⟩
    refine Ev.bind ex ?_
    refine Ev.bind ey ?_
    refine Ev.bind ez ?_
    refine Ev.iteT (by omega) ?_
    have : wrap64 ((i : Int) + 1) = ((i + 1 : Nat) : Int) := by rw [wrap64_id (by omega) (by omega)]; omega
    simp only [this, Int.toNat_natCast]
    exact e
theorem part_ev {b : List Int} {p : Int} (h : Bytes b) (hp : 0 ≤ p) (hp2 : p < 1000000) :
    ∃ P C a f B q, Ev (fun k => spec_l15Part.f k b p) (P, C, a, f, B, q) ∧ 1 ≤ P.length ∧ P.length ≤ 16 ∧ C.length = 8 ∧ B.length ≤ 4 ∧ p ≤ q ∧ q ≤ p + 1000 := by
  unfold spec_l15Part.f
  obtain ⟨R, q, e, hR, hR2, q0, q1, hB⟩ := prog_ev h hp (by omega)
  have en : Ev (fun k => spec_PartNew.f k R) (R, List.replicate 8 0, 0, false, []) := by
    unfold spec_PartNew.f
    refine Ev.bind (specProg_ev R (by omega)) ?_
    rw [hB]
    exact Ev.iteT rfl (Ev.bindc rfl (Ev.iteT (by simp; omega) (Ev.iteT (by omega) (Ev.now _))))
  obtain ⟨C', a, f, B, q', e', hl, hB', q0', q1'⟩ := cells_ev h R 8 0 q (List.replicate 8 0) (by simp) (by simp) (by omega) (by omega)
  refine ⟨R, C', a, f, B, q', Ev.bind e (Ev.bind en ?_), hR, hR2, by simp at hl; exact hl, hB', by omega, by omega⟩
  exact e'
theorem anyBox_ev (b : List Int) (p : Int) (P : List S53) (C : List Int) (a : Int) (f : Bool) : ∀ (d : Nat) (B : List Int), B.length + d = 5 → ∃ B', Ev (fun k => spec_l15AnyPart.l0 k b p P C a f B) (P, C, a, f, B', p) ∧ B'.length = 5 := by
  intro d
  induction d with
  | zero => exact fun B hB => ⟨B, Ev.step (fun k => by rw [spec_l15AnyPart.l0]) (Ev.iteF (by omega) (Ev.now _)), by omega⟩
  | succ d ih =>
    intro B hB
    obtain ⟨B', e, hl⟩ := ih (B ++ [1]) (by simp; omega)
    exact ⟨B', Ev.step (fun k => by rw [spec_l15AnyPart.l0]) (Ev.iteT (by omega) (Ev.iteT (by omega) e)), hl⟩
theorem anyPart_ev {b : List Int} {p : Int} (h : Bytes b) (hp : 0 ≤ p) (hp2 : p < 1000000) :
    ∃ P C a f B q, Ev (fun k => spec_l15AnyPart.f k b p) (P, C, a, f, B, q) ∧ P.length ≤ 16 ∧ C.length ≤ 8 ∧ B.length ≤ 5 ∧ p ≤ q ∧ q ≤ p + 2000 := by
  unfold spec_l15AnyPart.f
  obtain ⟨P, C, a, f, B, q, e, hP, hP2, hC, hB, q0, q1⟩ := part_ev h hp hp2
  obtain ⟨x, ex, x0, x1⟩ := pick_ev h (p := q) (by omega) (by omega) 24
  by_cases h0 : x = 0
  · obtain ⟨u, eu, _⟩ := one_ev h (p := q + 1) (by omega) (by omega) [-1, (P.length : Int)] (by simp)
    refine ⟨P, C, u, f, B, q + 1 + 1, Ev.bind e (Ev.bind ex (Ev.iteT h0 ?_)), by omega, by omega, by omega, by omega, by omega⟩
    exact Ev.bind eu (Ev.now _)
  · by_cases h1 : x = 1
    · obtain ⟨u, eu, u0, u1⟩ := pick_ev h (p := q + 1) (by omega) (by omega) (C.length : Int)
      obtain ⟨v, ev, _⟩ := one_ev h (p := q + 1 + 1) (by omega) (by omega) [-1, 10000] (by simp)
      have hu := u1 (by omega)
      refine ⟨P, C.set u.toNat v, a, f, B, q + 1 + 1 + 1, Ev.bind e (Ev.bind ex (Ev.iteF h0 (Ev.iteT h1 ?_))), by omega, by simp; omega, by omega, by omega, by omega⟩
      refine Ev.bind eu ?_
      refine Ev.bind ev ?_
      exact Ev.iteT u0 (Ev.iteT hu (Ev.now _))
    · by_cases h2 : x = 2
      · refine ⟨P, C.drop (1 : Int).toNat, a, f, B, q + 1, Ev.bind e (Ev.bind ex (Ev.iteF h0 (Ev.iteF h1 (Ev.iteT h2 ?_)))), by omega, by simp; omega, by omega, by omega, by omega⟩
        exact Ev.iteT (by show 1 ≤ (C.length : Int); omega) (Ev.now _)
      · by_cases h3 : x = 3
        · obtain ⟨B', e', hl⟩ := anyBox_ev b (q + 1) P C a f (5 - B.length) B (by omega)
          exact ⟨P, C, a, f, B', q + 1, Ev.bind e (Ev.bind ex (Ev.iteF h0 (Ev.iteF h1 (Ev.iteF h2 (Ev.iteT h3 e'))))), by omega, by omega, by omega, by omega, by omega⟩
        · exact ⟨P, C, a, f, B, q + 1, Ev.bind e (Ev.bind ex (Ev.iteF h0 (Ev.iteF h1 (Ev.iteF h2 (Ev.iteF h3 (Ev.now _)))))), by omega, by omega, by omega, by omega, by omega⟩
end Go.Proofs.Ytmhdphohhheoaaa.Draw
