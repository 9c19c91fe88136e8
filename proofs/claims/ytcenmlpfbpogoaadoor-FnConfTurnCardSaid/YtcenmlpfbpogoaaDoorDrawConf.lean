/- How a craft is drawn to be made, in plain Lean: each draw answers, and all its lists are short. No conditions. -/
import Derived.Test.YtcenmlpfbpogoaaDoorPx7
import Derived.Test.YtcenmlpfbpogoaaDoorPx8
import Derived.Test.YtcenmlpfbpogoaaDoorPx9
import Derived.Test.YtcenmlpfbpogoaaDoorPx10
import Derived.Test.YtcenmlpfbpogoaaDoorDrawProg
import Derived.Test.YtcenmlpfbpogoaaDoorConfI
namespace Go.Proofs.YtcenmlpfbpogoaaDoor.Draw
open Go.RowKit Go.Proofs.YtcenmlpfbpogoaaDoor.P Go.Proofs.YtcenmlpfbpogoaaDoor.E Go.Proofs.YtcenmlpfbpogoaaDoor.OpsOk Go.Proofs.YtcenmlpfbpogoaaDoor.Conf Go.Proofs.YtcenmlpfbpogoaaDoorW.PrintWords
set_option linter.unusedSimpArgs false
set_option linter.unusedVariables false
def Len2 (l2 : IOps) (l3 l4 : List Int) : Prop := (1 ≤ l2.length ∧ l2.length ≤ 3 ∧ ∀ x ∈ l2, x.length ≤ 16) ∧ (1 ≤ l3.length ∧ l3.length ≤ 3) ∧ (1 ≤ l4.length ∧ l4.length ≤ 3)
def Len5 (l5 l6 : List Int) : Prop := (1 ≤ l5.length ∧ l5.length ≤ 4) ∧ (1 ≤ l6.length ∧ l6.length ≤ 4)
theorem rule_ev {b : List Int} {p : Int} (h : Bytes b) (hp : 0 ≤ p) (hp2 : p < 1099511000000) :
    ∃ s a v u x y, Ev (fun k => spec_l15Rule.f k b p) (s, a, v, u, x, y, p + 1 + 1 + 1 + 1 + 1 + 1) := by
  unfold spec_l15Rule.f
  obtain ⟨v1, e1, _⟩ := one_ev h hp (by omega) [1, 2] (by simp)
  obtain ⟨v2, e2, _⟩ := one_ev h (show 0 ≤ p + 1 by omega) (by omega) [0, 1, 7] (by simp)
  obtain ⟨v3, e3, _⟩ := one_ev h (show 0 ≤ p + 1 + 1 by omega) (by omega) [8, 11, 17] (by simp)
  obtain ⟨v4, e4, _, _⟩ := pick_ev h (show 0 ≤ p + 1 + 1 + 1 by omega) (by omega) 5
  obtain ⟨v5, e5, _, _⟩ := pick_ev h (show 0 ≤ p + 1 + 1 + 1 + 1 by omega) (by omega) 3
  obtain ⟨v6, e6, _, _⟩ := pick_ev h (show 0 ≤ p + 1 + 1 + 1 + 1 + 1 by omega) (by omega) 3
  exact ⟨_, _, _, _, _, _, Ev.bind e1 (Ev.bind e2 (Ev.bind e3 (Ev.bind e4 (Ev.bind e5 (Ev.bind e6 (Ev.now _))))))⟩
theorem conf3_ev {b : List Int} (h : Bytes b) (a0 a1 : Int) (l2 : IOps) (l3 l4 l5 l6 l7 : List Int) (a9 : Int) : ∀ (n : Nat) (p : Int) (l8 : List S78), l8.length + n ≤ 12 → 0 ≤ p → p + 6 * n ≤ 900000 →
    ∃ l8' p', Ev (fun k => spec_l15Conf.l3 k (n : Int) b p a0 a1 l2 l3 l4 l5 l6 l7 l8 a9) (a0, a1, l2, l3, l4, l5, l6, l7, l8', a9, p') ∧ l8'.length ≤ 12 ∧ 0 ≤ p' ∧ p' ≤ 900000 := by
  intro n
  induction n with
  | zero =>
    intro p l8 hl hp hp2
    refine ⟨l8, p, ?_, by omega, hp, by omega⟩
    refine Ev.step (fun k => by rw [spec_l15Conf.l3]) ?_
    exact Ev.iteF (by omega) (Ev.now _)
  | succ n ih =>
    intro p l8 hl hp hp2
    obtain ⟨s, a, v, u, x, y, e⟩ := rule_ev h hp (by omega)
    obtain ⟨l8', p', e', h1, h2, h3⟩ := ih (p + 1 + 1 + 1 + 1 + 1 + 1) (l8 ++ [⟨s, a, v, u, x, y⟩]) (by simp; omega) (by omega) (by omega)
    refine ⟨l8', p', ?_, h1, h2, h3⟩
    refine Ev.step (fun k => by rw [spec_l15Conf.l3]) ?_
    refine Ev.iteT (by omega) (Ev.bind e (Ev.iteT (by omega) ?_))
    rw [show wrap64 (((n + 1 : Nat) : Int) - 1) = (n : Int) by rw [wrap64_id (by omega) (by omega)]; omega]
    exact e'
theorem conf2_ev {b : List Int} (h : Bytes b) (a0 a1 : Int) (l2 : IOps) (l3 l4 l5 l6 : List Int) (a9 : Int) (h2l : l2.length ≤ 3) : ∀ (n : Nat) (p : Int) (l7 : List Int), l7.length + n ≤ 4 → 0 ≤ p → p + n ≤ 800000 →
    ∃ l7' l8' p', Ev (fun k => spec_l15Conf.l2 k (n : Int) b p a0 a1 l2 l3 l4 l5 l6 l7 a9) (a0, a1, l2, l3, l4, l5, l6, l7', l8', a9, p') ∧ l7'.length ≤ 4 ∧ l8'.length ≤ 12 ∧ 0 ≤ p' ∧ p' ≤ 900000 := by
  intro n
  induction n with
  | zero =>
    intro p l7 hl hp hp2
    obtain ⟨v1, e1, _, _⟩ := pick_ev h hp (by omega) 2
    obtain ⟨v2, e2, q0, q1⟩ := pick_ev h (show 0 ≤ p + 1 by omega) (by omega) 4
    have q2 := q1 (by omega)
    obtain ⟨m, rfl⟩ := Int.eq_ofNat_of_zero_le q0
    obtain ⟨l8', p', e', h1, h2, h3⟩ := conf3_ev h a0 a1 l2 l3 l4 l5 l6 l7 a9 m (p + 1 + 1) [(⟨1, 0, 8, 1, true, true⟩ : S78), (⟨1, 0, 8, 2, false, true⟩ : S78), (⟨1, 0, 11, 4, true, (v1 == 0)⟩ : S78), (⟨1, 1, 8, 1, true, false⟩ : S78), (⟨2, 7, 8, 1, true, true⟩ : S78), (⟨1, 0, 17, 1, true, true⟩ : S78)] (by simp; omega) (by omega) (by omega)
    refine ⟨l7, l8', p', ?_, by omega, h1, h2, h3⟩
    refine Ev.step (fun k => by rw [spec_l15Conf.l2]) ?_
    exact Ev.iteF (by omega) (Ev.bind e1 (Ev.bind e2 e'))
  | succ n ih =>
    intro p l7 hl hp hp2
    obtain ⟨v, e, _, _⟩ := pick_ev h hp (by omega) (wrap64 ((l2.length : Int) + 1))
    obtain ⟨l7', l8', p', e', h1, h2, h3, h4⟩ := ih (p + 1) (l7 ++ [v]) (by simp; omega) (by omega) (by omega)
    refine ⟨l7', l8', p', ?_, h1, h2, h3, h4⟩
    refine Ev.step (fun k => by rw [spec_l15Conf.l2]) ?_
    refine Ev.iteT (by omega) (Ev.bind e (Ev.iteT (by omega) ?_))
    rw [show wrap64 (((n + 1 : Nat) : Int) - 1) = (n : Int) by rw [wrap64_id (by omega) (by omega)]; omega]
    exact e'
theorem conf1_ev {b : List Int} (h : Bytes b) (a0 a1 : Int) (l2 : IOps) (l3 l4 : List Int) (a9 : Int) (h2l : l2.length ≤ 3) : ∀ (n : Nat) (p : Int) (l5 l6 : List Int), 1 ≤ l5.length + n → l5.length + n ≤ 4 → l6.length = l5.length → 0 ≤ p → p + 2 * n ≤ 700000 →
    ∃ l5' l6' l7' l8' p', Ev (fun k => spec_l15Conf.l1 k (n : Int) b p a0 a1 l2 l3 l4 l5 l6 a9) (a0, a1, l2, l3, l4, l5', l6', l7', l8', a9, p') ∧ Len5 l5' l6' ∧ l7'.length ≤ 4 ∧ l8'.length ≤ 12 ∧ 0 ≤ p' ∧ p' ≤ 900000 := by
  intro n
  induction n with
  | zero =>
    intro p l5 l6 hl0 hl h6 hp hp2
    obtain ⟨v1, e1, q0, q1⟩ := pick_ev h hp (by omega) 4
    have q2 := q1 (by omega)
    obtain ⟨m, rfl⟩ := Int.eq_ofNat_of_zero_le q0
    obtain ⟨l7', l8', p', e', h1, h2, h3, h4⟩ := conf2_ev h a0 a1 l2 l3 l4 l5 l6 a9 h2l (m + 1) (p + 1) [] (by simp; omega) (by omega) (by omega)
    refine ⟨l5, l6, l7', l8', p', ?_, ⟨⟨by omega, by omega⟩, by omega, by omega⟩, h1, h2, h3, h4⟩
    refine Ev.step (fun k => by rw [spec_l15Conf.l1]) ?_
    refine Ev.iteF (by omega) (Ev.bind e1 ?_)
    rw [show wrap64 (1 + (m : Int)) = ((m + 1 : Nat) : Int) by rw [wrap64_id (by omega) (by omega)]; omega]
    exact e'
  | succ n ih =>
    intro p l5 l6 hl0 hl h6 hp hp2
    obtain ⟨v, e, _, _⟩ := pick_ev h hp (by omega) (wrap64 ((l2.length : Int) + 1))
    obtain ⟨u, e2, _, _⟩ := pick_ev h (show 0 ≤ p + 1 by omega) (by omega) 2
    obtain ⟨l5', l6', l7', l8', p', e', h1, h2, h3, h4⟩ := ih (p + 1 + 1) (l5 ++ [wrap64 (v - 1)]) (l6 ++ [wrap64 (u - 1)]) (by simp; omega) (by simp; omega) (by simp; omega) (by omega) (by omega)
    refine ⟨l5', l6', l7', l8', p', ?_, h1, h2, h3, h4⟩
    refine Ev.step (fun k => by rw [spec_l15Conf.l1]) ?_
    refine Ev.iteT (by omega) (Ev.bind e (Ev.iteT (by omega) (Ev.bind e2 (Ev.iteT (by omega) ?_))))
    rw [show wrap64 (((n + 1 : Nat) : Int) - 1) = (n : Int) by rw [wrap64_id (by omega) (by omega)]; omega]
    exact e'
theorem conf0_ev {b : List Int} (h : Bytes b) (a0 a1 : Int) (a9 : Int) : ∀ (n : Nat) (p : Int) (l2 : IOps) (l3 l4 : List Int), 1 ≤ l2.length + n → l2.length + n ≤ 3 → (∀ x ∈ l2, x.length ≤ 16) → l3.length = l2.length → l4.length = l2.length → 0 ≤ p → p + 200 * n ≤ 600000 →
    ∃ l2' l3' l4' l5' l6' l7' l8' p', Ev (fun k => spec_l15Conf.l0 k (n : Int) b p a0 a1 l2 l3 l4 a9) (a0, a1, l2', l3', l4', l5', l6', l7', l8', a9, p') ∧ Len2 l2' l3' l4' ∧ Len5 l5' l6' ∧ l7'.length ≤ 4 ∧ l8'.length ≤ 12 ∧ 0 ≤ p' ∧ p' ≤ 900000 := by
  intro n
  induction n with
  | zero =>
    intro p l2 l3 l4 hl0 hl hx h3 h4 hp hp2
    obtain ⟨v1, e1, q0, q1⟩ := pick_ev h hp (by omega) 4
    have q2 := q1 (by omega)
    obtain ⟨m, rfl⟩ := Int.eq_ofNat_of_zero_le q0
    obtain ⟨l5', l6', l7', l8', p', e', g1, g2, g3, g4⟩ := conf1_ev h a0 a1 l2 l3 l4 a9 (by omega) (m + 1) (p + 1) [] [] (by simp) (by simp; omega) rfl (by omega) (by omega)
    refine ⟨l2, l3, l4, l5', l6', l7', l8', p', ?_, ⟨⟨by omega, by omega, hx⟩, ⟨by omega, by omega⟩, by omega, by omega⟩, g1, g2, g3, g4⟩
    refine Ev.step (fun k => by rw [spec_l15Conf.l0]) ?_
    refine Ev.iteF (by omega) (Ev.bind e1 ?_)
    rw [show wrap64 (1 + (m : Int)) = ((m + 1 : Nat) : Int) by rw [wrap64_id (by omega) (by omega)]; omega]
    exact e'
  | succ n ih =>
    intro p l2 l3 l4 hl0 hl hx h3 h4 hp hp2
    obtain ⟨R, q, e, _, r16, q0, q1, _⟩ := prog_ev h hp (by omega)
    obtain ⟨v, e2, _, _⟩ := pick_ev h (show 0 ≤ q by omega) (by omega) 10
    obtain ⟨u, e3, _⟩ := one_ev h (show 0 ≤ q + 1 by omega) (by omega) [wrap64 (1 + v), 40] (by simp)
    obtain ⟨l2', l3', l4', l5', l6', l7', l8', p', e', g1, g2, g3, g4, g5⟩ := ih (q + 1 + 1) (l2 ++ [R]) (l3 ++ [rd [1, 7, 9] (l3.length : Int)]) (l4 ++ [u]) (by simp; omega) (by simp; omega) (by
      intro x hxm
      rcases List.mem_append.1 hxm with h1 | h1
      · exact hx x h1
      · rw [List.mem_singleton.1 h1]; exact r16) (by simp; omega) (by simp; omega) (by omega) (by omega)
    refine ⟨l2', l3', l4', l5', l6', l7', l8', p', ?_, g1, g2, g3, g4, g5⟩
    refine Ev.step (fun k => by rw [spec_l15Conf.l0]) ?_
    refine Ev.iteT (by omega) (Ev.bind e (Ev.iteT (by omega) (Ev.bindc (x := [1, 7, 9]) rfl (Ev.iteT (by omega) (Ev.iteT (by show (l3.length : Int) < 3; omega) (Ev.iteT (by omega) (Ev.bind e2 (Ev.bind e3 (Ev.iteT (by omega) ?_)))))))))
    rw [show wrap64 (((n + 1 : Nat) : Int) - 1) = (n : Int) by rw [wrap64_id (by omega) (by omega)]; omega]
    exact e'
theorem conf_ev {b : List Int} (h : Bytes b) {p : Int} (hp : 0 ≤ p) (hp2 : p ≤ 1000) :
    ∃ a0 a1 l2' l3' l4' l5' l6' l7' l8' a9 p', Ev (fun k => spec_l15Conf.f k b p) (a0, a1, l2', l3', l4', l5', l6', l7', l8', a9, p') ∧ Len2 l2' l3' l4' ∧ Len5 l5' l6' ∧ l7'.length ≤ 4 ∧ l8'.length ≤ 12 ∧ 0 ≤ p' ∧ p' ≤ 900000 := by
  unfold spec_l15Conf.f
  obtain ⟨v, e1, _⟩ := one_ev h hp (by omega) [9999, 50, 5, 0, 1, 2] (by simp)
  obtain ⟨u, e2, q0, q1⟩ := pick_ev h (show 0 ≤ p + 1 by omega) (by omega) 3
  have q2 := q1 (by omega)
  obtain ⟨m, rfl⟩ := Int.eq_ofNat_of_zero_le q0
  obtain ⟨l2', l3', l4', l5', l6', l7', l8', p', e', g1, g2, g3, g4, g5⟩ := conf0_ev h 5 3 v (m + 1) (p + 1 + 1) [] [] [] (by simp) (by simp; omega) (by simp) rfl rfl (by omega) (by omega)
  refine ⟨5, 3, l2', l3', l4', l5', l6', l7', l8', v, p', Ev.bind e1 (Ev.bind e2 ?_), g1, g2, g3, g4, g5⟩
  rw [show wrap64 (1 + (m : Int)) = ((m + 1 : Nat) : Int) by rw [wrap64_id (by omega) (by omega)]; omega]
  exact e'
theorem oneOf_ev {b : List Int} {p : Int} (h : Bytes b) (hp : 0 ≤ p) (hp2 : p < 1099511627776) (l : List (List Int)) (hl : 1 ≤ l.length) :
    ∃ v, Ev (fun k => spec_l1Rd_oneOf.f k b p l) (v, p + 1) ∧ v ∈ l := by
  obtain ⟨v, e, h0, h1⟩ := pick_ev h hp hp2 (l.length : Int)
  have h2 := h1 (by omega)
  unfold spec_l1Rd_oneOf.f
  refine ⟨l.getD v.toNat [], Ev.bind e (Ev.iteT h0 (Ev.iteT h2 (Ev.now _))), ?_⟩
  rw [List.getD_eq_getElem?_getD, List.getElem?_eq_getElem (by omega)]
  exact List.getElem_mem _
theorem anyConf_ev {b : List Int} (h : Bytes b) {p : Int} (hp : 0 ≤ p) (hp2 : p ≤ 1000) :
    ∃ a0 a1 l2 l3 l4 l5 l6 l7 l8 a9 p', Ev (fun k => spec_l15AnyConf.f k b p) (a0, a1, l2, l3, l4, l5, l6, l7, l8, a9, p') ∧ Small l2 l3 l4 l5 l6 l7 l8 ∧ 0 ≤ p' ∧ p' ≤ 1000000 := by
  obtain ⟨a0, a1, l2, l3, l4, l5, l6, l7, l8, a9, p1, e, ⟨⟨m20, m21, m22⟩, ⟨m30, m31⟩, m40, m41⟩, ⟨⟨m50, m51⟩, m60, m61⟩, m7, m8, p10, p11⟩ := conf_ev h hp hp2
  obtain ⟨u, e2, _, _⟩ := pick_ev h p10 (by omega) 24
  have s0 : ∀ (x3 x4 x5 x6 x7 : List Int) (x8 : List S78), x3.length ≤ 100 → x4.length ≤ 100 → x5.length ≤ 100 → x6.length ≤ 100 → x7.length ≤ 100 → x8.length ≤ 100 → Small l2 x3 x4 x5 x6 x7 x8 := fun x3 x4 x5 x6 x7 x8 h3 h4 h5 h6 h7 h8 =>
    ⟨⟨by omega, fun x hx => by have := m22 x hx; omega⟩, by omega, by omega, by omega, by omega, by omega, by omega⟩
  have q1 : 0 ≤ p1 + 1 + 1 ∧ p1 + 1 + 1 ≤ 1000000 := by omega
  have q0 : 0 ≤ p1 + 1 ∧ p1 + 1 ≤ 1000000 := by omega
  have one := fun l hl => one_ev h q0.1 (show p1 + 1 < 1099511627776 by omega) l hl
  unfold spec_l15AnyConf.f
  by_cases c0 : u = 0
  · obtain ⟨v, e3, _⟩ := one [(-1), 1024] (by simp)
    refine ⟨_, _, _, _, _, _, _, _, _, _, _, Ev.bind e (Ev.bind e2 (Ev.iteT c0 (Ev.bind e3 (Ev.now _)))), ?_, q1⟩
    try dsimp only
    exact s0 _ _ _ _ _ _ (by omega) (by omega) (by omega) (by omega) (by omega) (by omega)
  by_cases c1 : u = 1
  · refine ⟨_, _, _, _, _, _, _, _, _, _, _, Ev.bind e (Ev.bind e2 (Ev.iteF c0 (Ev.iteT c1 (Ev.iteT (show (0 : Int) < (l2.length : Int) by omega) (Ev.now _))))), ?_, q0⟩
    try dsimp only
    refine ⟨⟨by rw [List.length_set]; omega, fun x hx => ?_⟩, by omega, by omega, by omega, by omega, by omega, by omega⟩
    rcases List.mem_or_eq_of_mem_set hx with h1 | rfl
    · have := m22 x h1; omega
    · simp
  by_cases c2 : u = 2
  · obtain ⟨v, e3, _⟩ := one [0, 2047, 7] (by simp)
    refine ⟨_, _, _, _, _, _, _, _, _, _, _, Ev.bind e (Ev.bind e2 (Ev.iteF c0 (Ev.iteF c1 (Ev.iteT c2 (Ev.bind e3 (Ev.iteT (show (0 : Int) < (l3.length : Int) by omega) (Ev.now _))))))), ?_, q1⟩
    try dsimp only
    exact s0 _ _ _ _ _ _ (by rw [List.length_set]; omega) (by omega) (by omega) (by omega) (by omega) (by omega)
  by_cases c3 : u = 3
  · obtain ⟨v, e3, _⟩ := one [0, 41] (by simp)
    refine ⟨_, _, _, _, _, _, _, _, _, _, _, Ev.bind e (Ev.bind e2 (Ev.iteF c0 (Ev.iteF c1 (Ev.iteF c2 (Ev.iteT c3 (Ev.bind e3 (Ev.iteT (show (0 : Int) < (l4.length : Int) by omega) (Ev.now _)))))))), ?_, q1⟩
    try dsimp only
    exact s0 _ _ _ _ _ _ (by omega) (by rw [List.length_set]; omega) (by omega) (by omega) (by omega) (by omega)
  by_cases c4 : u = 4
  · refine ⟨_, _, _, _, _, _, _, _, _, _, _, Ev.bind e (Ev.bind e2 (Ev.iteF c0 (Ev.iteF c1 (Ev.iteF c2 (Ev.iteF c3 (Ev.iteT c4 (Ev.iteT (show l5.length < 17592186044416 by omega) (Ev.now _)))))))), ?_, q0⟩
    try dsimp only
    exact s0 _ _ _ _ _ _ (by omega) (by omega) (by simp; omega) (by omega) (by omega) (by omega)
  by_cases c5 : u = 5
  · obtain ⟨v, e3, _⟩ := one [(-2), 3] (by simp)
    refine ⟨_, _, _, _, _, _, _, _, _, _, _, Ev.bind e (Ev.bind e2 (Ev.iteF c0 (Ev.iteF c1 (Ev.iteF c2 (Ev.iteF c3 (Ev.iteF c4 (Ev.iteT c5 (Ev.bind e3 (Ev.iteT (show (0 : Int) < (l6.length : Int) by omega) (Ev.now _)))))))))), ?_, q1⟩
    try dsimp only
    exact s0 _ _ _ _ _ _ (by omega) (by omega) (by omega) (by rw [List.length_set]; omega) (by omega) (by omega)
  by_cases c6 : u = 6
  · obtain ⟨v, e3, hv⟩ := oneOf_ev h q0.1 (by omega) [[], [4], [(-1)]] (by simp)
    have hv2 : v.length ≤ 1 := by
      simp only [List.mem_cons, List.mem_nil_iff, or_false] at hv
      rcases hv with rfl | rfl | rfl <;> simp
    refine ⟨_, _, _, _, _, _, _, _, _, _, _, Ev.bind e (Ev.bind e2 (Ev.iteF c0 (Ev.iteF c1 (Ev.iteF c2 (Ev.iteF c3 (Ev.iteF c4 (Ev.iteF c5 (Ev.iteT c6 (Ev.bind e3 (Ev.now _)))))))))), ?_, q1⟩
    try dsimp only
    exact s0 _ _ _ _ _ _ (by omega) (by omega) (by omega) (by omega) (by omega) (by omega)
  by_cases c7 : u = 7
  · refine ⟨_, _, _, _, _, _, _, _, _, _, _, Ev.bind e (Ev.bind e2 (Ev.iteF c0 (Ev.iteF c1 (Ev.iteF c2 (Ev.iteF c3 (Ev.iteF c4 (Ev.iteF c5 (Ev.iteF c6 (Ev.iteT c7 (Ev.iteT (show l8.length < 3518437208883 by omega) (Ev.now _))))))))))), ?_, q0⟩
    try dsimp only
    exact s0 _ _ _ _ _ _ (by omega) (by omega) (by omega) (by omega) (by omega) (by simp; omega)
  by_cases c8 : u = 8
  · obtain ⟨v, e3, _⟩ := one [(-1), 10000] (by simp)
    refine ⟨_, _, _, _, _, _, _, _, _, _, _, Ev.bind e (Ev.bind e2 (Ev.iteF c0 (Ev.iteF c1 (Ev.iteF c2 (Ev.iteF c3 (Ev.iteF c4 (Ev.iteF c5 (Ev.iteF c6 (Ev.iteF c7 (Ev.iteT c8 (Ev.bind e3 (Ev.now _)))))))))))), ?_, q1⟩
    try dsimp only
    exact s0 _ _ _ _ _ _ (by omega) (by omega) (by omega) (by omega) (by omega) (by omega)
  refine ⟨_, _, _, _, _, _, _, _, _, _, _, Ev.bind e (Ev.bind e2 (Ev.iteF c0 (Ev.iteF c1 (Ev.iteF c2 (Ev.iteF c3 (Ev.iteF c4 (Ev.iteF c5 (Ev.iteF c6 (Ev.iteF c7 (Ev.iteF c8 (Ev.now _))))))))))), ?_, q0⟩
  try dsimp only
  exact s0 _ _ _ _ _ _ (by omega) (by omega) (by omega) (by omega) (by omega) (by omega)
end Go.Proofs.YtcenmlpfbpogoaaDoor.Draw
