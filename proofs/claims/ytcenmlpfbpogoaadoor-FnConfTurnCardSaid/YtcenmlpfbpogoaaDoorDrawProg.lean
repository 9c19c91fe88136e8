/- The drawn programs, in plain Lean: each draw answers; a drawn program is not long. No conditions. -/
import Derived.Test.YtcenmlpfbpogoaaDoorPx6
import Derived.Test.YtcenmlpfbpogoaaDoorPx7
import Derived.Test.YtcenmlpfbpogoaaDoorDraw
import Derived.Test.YtcenmlpfbpogoaaDoorOpsOk
namespace Go.Proofs.YtcenmlpfbpogoaaDoor.Draw
open Go.RowKit Go.Proofs.YtcenmlpfbpogoaaDoor.P Go.Proofs.YtcenmlpfbpogoaaDoor.E Go.Proofs.YtcenmlpfbpogoaaDoor.OpsOk Go.Proofs.YtcenmlpfbpogoaaDoorW.PrintWords
set_option linter.unusedSimpArgs false
set_option linter.unusedVariables false
theorem inB_of {x lo hi : Int} (h0 : lo ≤ x) (h1 : x ≤ hi) : inB x lo hi = true := by unfold inB; simp [h0, h1]
theorem opB_13 {a b c n : Int} (h : a = 1 ∨ a = 3) (hb : 0 ≤ b ∧ b ≤ 7) (hc : 0 ≤ c ∧ c ≤ 9999) : opB a b c n = true := by
  unfold opB
  rw [if_pos h, inB_of hb.1 hb.2, inB_of hc.1 hc.2]
  rfl
theorem opB_213 {a b c n : Int} (h : a = 2 ∨ a = 13) (hb : 0 ≤ b ∧ b ≤ 7) (hc : 0 ≤ c ∧ c ≤ 7) : opB a b c n = true := by
  unfold opB
  rw [if_neg (by omega), if_pos h, inB_of hb.1 hb.2, inB_of hc.1 hc.2]
  rfl
theorem opB_5 {b c n : Int} (hb : 0 ≤ b ∧ b ≤ 7) (hc : 0 ≤ c ∧ c ≤ n - 1) : opB 5 b c n = true := by
  unfold opB
  rw [if_neg (by omega), if_neg (by omega), if_pos rfl, inB_of hb.1 hb.2, inB_of hc.1 hc.2]
  rfl
theorem opB_910 {a b c n : Int} (h : a = 9 ∨ a = 10) (hb : 0 ≤ b ∧ b ≤ 7) (hc : 0 ≤ c ∧ c ≤ 3) : opB a b c n = true := by
  unfold opB
  rw [if_neg (by omega), if_neg (by omega), if_neg (by omega), if_pos h, inB_of hb.1 hb.2, inB_of hc.1 hc.2]
  rfl
theorem opB_11 {n : Int} : opB 11 0 0 n = true := by unfold opB; simp
theorem opB_else {a b n : Int} (h : a = 4 ∨ a = 6 ∨ a = 7 ∨ a = 8 ∨ a = 12) (hb : 0 ≤ b ∧ b ≤ 7) : opB a b 0 n = true := by
  unfold opB
  rw [if_neg (by omega), if_neg (by omega), if_neg (by omega), if_neg (by omega), if_pos h, inB_of hb.1 hb.2]
  rfl
theorem op_ev {b : List Int} {p : Int} (h : Bytes b) (hp : 0 ≤ p) (hp2 : p < 1099511600000) {n : Int} (hn : 1 ≤ n) :
    ∃ d a c q, Ev (fun k => spec_l15Op.f k b p n) (d, a, c, q) ∧ p ≤ q ∧ q ≤ p + 4 ∧ opB d a c n = true := by
  unfold spec_l15Op.f
  obtain ⟨x, ex, x0, x1⟩ := pick_ev h hp (by omega) 13
  obtain ⟨y, ey, y0, y1⟩ := pick_ev h (p := p + 1) (by omega) (by omega) 8
  have hx := x1 (by omega)
  have hy : 0 ≤ y ∧ y ≤ 7 := by have := y1 (by omega); omega
  have e1 : wrap64 (1 + x) = 1 + x := wrap64_id (by omega) (by omega)
  obtain ⟨X, hX⟩ : ∃ X, X = 1 + x := ⟨_, rfl⟩
  rw [← hX] at e1
  have k2 : ∀ (t : Bool), (t = true → X = 9 ∨ X = 10) → (t = false → X = 11 ∨ X = 4 ∨ X = 6 ∨ X = 7 ∨ X = 8 ∨ X = 12) → ∃ d a c q, Ev (fun k => spec_l15Op.j2 k X t b (p + 1 + 1) X y 0) (d, a, c, q) ∧ p ≤ q ∧ q ≤ p + 4 ∧ opB d a c n = true := by
    intro t ht hf
    obtain ⟨z, ez, z0, z1⟩ := pick_ev h (p := p + 1 + 1) (by omega) (by omega) 4
    have hz := z1 (by omega)
    cases t with
    | true =>
      refine ⟨X, y, z, p + 1 + 1 + 1, Ev.step (fun k => by rw [spec_l15Op.j2]) (Ev.iteT rfl ?_), by omega, by omega, opB_910 (ht rfl) hy (by omega)⟩
      exact Ev.bind ez (Ev.now _)
    | false =>
      have hf := hf rfl
      by_cases hc : X = 11
      · exact ⟨X, 0, 0, p + 1 + 1, Ev.step (fun k => by rw [spec_l15Op.j2]) (Ev.iteF (by simp) (Ev.iteT hc (Ev.now _))), by omega, by omega, by rw [hc]; exact opB_11⟩
      · exact ⟨X, y, 0, p + 1 + 1, Ev.step (fun k => by rw [spec_l15Op.j2]) (Ev.iteF (by simp) (Ev.iteF hc (Ev.now _))), by omega, by omega, opB_else (by omega) hy⟩
  have k1 : ∀ (t : Bool), (t = true → X = 2 ∨ X = 13) → (t = false → X ≠ 2 ∧ X ≠ 13 ∧ X ≠ 1 ∧ X ≠ 3) → ∃ d a c q, Ev (fun k => spec_l15Op.j1 k n X t b (p + 1 + 1) X y 0) (d, a, c, q) ∧ p ≤ q ∧ q ≤ p + 4 ∧ opB d a c n = true := by
    intro t ht hf
    obtain ⟨z, ez, z0, z1⟩ := pick_ev h (p := p + 1 + 1) (by omega) (by omega) 8
    obtain ⟨u, eu, u0, u1⟩ := pick_ev h (p := p + 1 + 1) (by omega) (by omega) n
    have hz := z1 (by omega)
    have hu := u1 hn
    cases t with
    | true =>
      refine ⟨X, y, z, p + 1 + 1 + 1, Ev.step (fun k => by rw [spec_l15Op.j1]) (Ev.iteT rfl ?_), by omega, by omega, opB_213 (ht rfl) hy (by omega)⟩
      exact Ev.bind ez (Ev.now _)
    | false =>
      have hf := hf rfl
      by_cases hc : X = 5
      · refine ⟨X, y, u, p + 1 + 1 + 1, Ev.step (fun k => by rw [spec_l15Op.j1]) (Ev.iteF (by simp) (Ev.iteT hc ?_)), by omega, by omega, by rw [hc]; exact opB_5 hy (by omega)⟩
        exact Ev.bind eu (Ev.now _)
      · by_cases hd : X = 9
        · obtain ⟨d, a, c, m, e, h0, h1, h2⟩ := k2 (X == 9) (fun h => Or.inl hd) (fun h => by simp [hd] at h)
          exact ⟨d, a, c, m, Ev.step (fun k => by rw [spec_l15Op.j1]) (Ev.iteF (by simp) (Ev.iteF hc (Ev.iteT hd e))), h0, h1, h2⟩
        · obtain ⟨d, a, c, m, e, h0, h1, h2⟩ := k2 (X == 10) (fun h => Or.inr (by simpa using h)) (fun h => by simp at h; omega)
          exact ⟨d, a, c, m, Ev.step (fun k => by rw [spec_l15Op.j1]) (Ev.iteF (by simp) (Ev.iteF hc (Ev.iteF hd e))), h0, h1, h2⟩
  have key : ∀ (t : Bool), (t = true → X = 1 ∨ X = 3) → (t = false → X ≠ 1 ∧ X ≠ 3) → ∃ d a c q, Ev (fun k => spec_l15Op.j0 k n X t b (p + 1 + 1) X y 0) (d, a, c, q) ∧ p ≤ q ∧ q ≤ p + 4 ∧ opB d a c n = true := by
    intro t ht hf
    cases t with
    | true =>
      obtain ⟨z, ez, z0, z1⟩ := pick_ev h (p := p + 1 + 1) (by omega) (by omega) 20
      have hz := z1 (by omega)
      obtain ⟨u, eu, u0⟩ := one_ev h (p := p + 1 + 1 + 1) (by omega) (by omega) [z, 9999, 1] (by simp)
      have hu : 0 ≤ u ∧ u ≤ 9999 := by
        simp at u0
        omega
      refine ⟨X, y, u, p + 1 + 1 + 1 + 1, Ev.step (fun k => by rw [spec_l15Op.j0]) (Ev.iteT rfl ?_), by omega, by omega, opB_13 (ht rfl) hy hu⟩
      refine Ev.bind ez ?_
      exact Ev.bind eu (Ev.now _)
    | false =>
      have hf := hf rfl
      by_cases hc : X = 2
      · obtain ⟨d, a, c, m, e, h0, h1, h2⟩ := k1 (X == 2) (fun h => Or.inl hc) (fun h => by simp [hc] at h)
        exact ⟨d, a, c, m, Ev.step (fun k => by rw [spec_l15Op.j0]) (Ev.iteF (by simp) (Ev.iteT hc e)), h0, h1, h2⟩
      · obtain ⟨d, a, c, m, e, h0, h1, h2⟩ := k1 (X == 13) (fun h => Or.inr (by simpa using h)) (fun h => ⟨hc, by simpa using h, hf.1, hf.2⟩)
        exact ⟨d, a, c, m, Ev.step (fun k => by rw [spec_l15Op.j0]) (Ev.iteF (by simp) (Ev.iteF hc e)), h0, h1, h2⟩
  by_cases hc : X = 1
  · obtain ⟨d, a, c, m, e, h0, h1, h2⟩ := key (X == 1) (fun h => Or.inl hc) (fun h => by simp [hc] at h)
    refine ⟨d, a, c, m, Ev.bind ex (Ev.bind ey ?_), h0, h1, h2⟩
    simp only [← hX, e1]
    exact Ev.iteT hc e
  · obtain ⟨d, a, c, m, e, h0, h1, h2⟩ := key (X == 3) (fun h => Or.inr (by simpa using h)) (fun h => ⟨hc, by simpa using h⟩)
    refine ⟨d, a, c, m, Ev.bind ex (Ev.bind ey ?_), h0, h1, h2⟩
    simp only [← hX, e1]
    exact Ev.iteF hc e
theorem ops_ev {b : List Int} (h : Bytes b) {n : Int} (h1 : 1 ≤ n) (hn : n ≤ 16) : ∀ (d : Nat) (i : Int) (p : Int) (L : List S107), 0 ≤ i → i + d = n → 0 ≤ p → p + 4 * d < 1099511600000 → L.length + d ≤ 1000 → (L.all (fun o => opB o.f0 o.f1 o.f2 n)) = true →
    ∃ R q, Ev (fun k => spec_l15Prog.l0 k n L i b p) (R, q) ∧ R.length = L.length + d ∧ p ≤ q ∧ q ≤ p + 4 * d ∧ (R.all (fun o => opB o.f0 o.f1 o.f2 n)) = true := by
  intro d
  induction d with
  | zero =>
    intro i p L hi hd hp hp2 hL ha
    exact ⟨L, p, Ev.step (fun k => by rw [spec_l15Prog.l0]) (Ev.iteF (by omega) (Ev.now _)), by simp, by omega, by omega, ha⟩
  | succ d ih =>
    intro i p L hi hd hp hp2 hL ha
    obtain ⟨o, a, c, q, e, m0, m1, hB⟩ := op_ev h hp (by omega) h1
    obtain ⟨R, q', e', hR, m0', m1', hA⟩ := ih (i + 1) q (L ++ [⟨o, a, c⟩]) (by omega) (by omega) (by omega) (by omega) (by simp; omega) (by rw [List.all_append, ha]; simp [hB])
    refine ⟨R, q', Ev.step (fun k => by rw [spec_l15Prog.l0]) (Ev.iteT (by omega) ?_), by simp at hR; omega, by omega, by omega, hA⟩
    refine Ev.bind e ?_
    refine Ev.iteT (by omega) ?_
    rw [wrap64_id (by omega) (by omega)]
    exact e'
theorem prog_ev {b : List Int} {p : Int} (h : Bytes b) (hp : 0 ≤ p) (hp2 : p < 1000000000) :
    ∃ R q, Ev (fun k => spec_l15Prog.f k b p) (R, q) ∧ 1 ≤ R.length ∧ R.length ≤ 16 ∧ p ≤ q ∧ q ≤ p + 100 ∧ progB R = true := by
  unfold spec_l15Prog.f
  obtain ⟨x, ex, x0, x1⟩ := pick_ev h hp (by omega) 8
  obtain ⟨y, ey, y0, y1⟩ := pick_ev h (p := p + 1) (by omega) (by omega) 10
  have hx := x1 (by omega)
  by_cases hy : y = 0
  · obtain ⟨R, q, e, hR, m0, m1, hA⟩ := ops_ev h (n := 16) (by omega) (by omega) 16 0 (p + 1 + 1) [] (by omega) (by omega) (by omega) (by omega) (by simp) rfl
    have hl : (R.length : Int) = 16 := by simp at hR; omega
    refine ⟨R, q, Ev.bind ex (Ev.bind ey (Ev.iteT hy ?_)), by omega, by omega, by omega, by omega, by unfold progB; rw [hl, hA]; rfl⟩
    exact Ev.step (fun k => by rw [spec_l15Prog.j0]) e
  · obtain ⟨d, hd⟩ := Int.eq_ofNat_of_zero_le (show 0 ≤ 1 + x by omega)
    obtain ⟨R, q, e, hR, m0, m1, hA⟩ := ops_ev h (n := 1 + x) (by omega) (by omega) d 0 (p + 1 + 1) [] (by omega) (by omega) (by omega) (by omega) (by simp; omega) rfl
    have hl : (R.length : Int) = 1 + x := by simp at hR; omega
    refine ⟨R, q, Ev.bind ex (Ev.bind ey (Ev.iteF hy ?_)), by omega, by omega, by omega, by omega, by unfold progB; rw [hl, hA, inB_of (by omega) (by omega)]; rfl⟩
    simp only [wrap64_id (x := 1 + x) (by omega) (by omega)]
    exact Ev.step (fun k => by rw [spec_l15Prog.j0]) e
end Go.Proofs.YtcenmlpfbpogoaaDoor.Draw
