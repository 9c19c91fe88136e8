/- Drawn texts, in plain Lean: each draw answers, and what it answers lies in bounds. No conditions. -/
import Derived.Test.YtpehnincnpnggaaDoorPx2
import Derived.Test.YtpehnincnpnggaaDoorDraw
import Derived.Test.YtpehnincnpnggaaDoorText
namespace Go.Proofs.YtpehnincnpnggaaDoor.Draw
open Go.RowKit Go.Proofs.YtpehnincnpnggaaDoor.P Go.Proofs.YtpehnincnpnggaaDoor.E Go.Proofs.YtpehnincnpnggaaDoor.Num Go.Proofs.YtpehnincnpnggaaDoorW.PrintWords
set_option linter.unusedSimpArgs false
set_option linter.unusedVariables false
theorem many_loop : ∀ (n : Nat) (x out : ByteArray), n ≤ 100000 → n * x.size + out.size ≤ 100000 → x.size ≤ 100000 → ∃ y, Ev (fun k => spec_l1Many.l0 k x (n : Int) out) y ∧ y.size = n * x.size + out.size := by
  intro n
  induction n using Nat.strongRecOn with
  | ind n ih =>
    intro x out hn1 h hx
    by_cases h0 : n = 0
    · subst h0
      refine ⟨out, Ev.step (fun k => by rw [spec_l1Many.l0]) ?_, by omega⟩
      exact Ev.iteF (by omega) (Ev.now _)
    · have e1 : wrap64 (Int.tdiv (n : Int) 2) = ((n / 2 : Nat) : Int) := by rw [Int.tdiv_eq_ediv_of_nonneg (by omega), wrap64_id (by omega) (by omega)]; rfl
      have e2 : Int.tmod (n : Int) 2 = ((n % 2 : Nat) : Int) := by rw [Int.tmod_eq_emod_of_nonneg (by omega)]; rfl
      have hn : n = 2 * (n / 2) + n % 2 := by omega
      have hz : (x ++ x).size = x.size + x.size := ByteArray.size_append
      have hm : n * x.size = (n / 2) * (x.size + x.size) + (n % 2) * x.size := by
        conv => lhs; rw [hn]
        rw [Nat.add_mul, Nat.mul_comm 2 (n / 2), Nat.mul_assoc]
        congr 2
        omega
      have hxn : x.size ≤ n * x.size := Nat.le_mul_of_pos_left _ (by omega)
      rcases Nat.mod_two_eq_zero_or_one n with h2 | h2
      · by_cases h3 : n / 2 = 0
        · omega
        · rw [h2] at hm
          obtain ⟨y, ey, hy⟩ := ih (n / 2) (by omega) (x ++ x) out (by omega) (by rw [hz]; omega) (by
            have : (x.size + x.size) ≤ (n / 2) * (x.size + x.size) := Nat.le_mul_of_pos_left _ (by omega)
            rw [hz]; omega)
          refine ⟨y, Ev.step (fun k => by rw [spec_l1Many.l0]) (Ev.iteT (by omega) ?_), by rw [hy, hz]; omega⟩
          rw [e1, e2, h2]
          exact Ev.iteF (by omega) (Ev.iteT (by omega) ey)
      · rw [h2] at hm
        have hz2 : (out ++ x).size = out.size + x.size := ByteArray.size_append
        by_cases h3 : n / 2 = 0
        · have hx2 : n = 1 := by omega
          subst hx2
          refine ⟨out ++ x, Ev.step (fun k => by rw [spec_l1Many.l0]) (Ev.iteT (by omega) ?_), by rw [hz2]; omega⟩
          refine Ev.iteT (by decide) (Ev.iteT (by omega) (Ev.iteT (by omega) (Ev.step (fun k => by rw [spec_l1Many.l0]) ?_)))
          exact Ev.iteF (by rw [e1]; decide) (Ev.now _)
        · obtain ⟨y, ey, hy⟩ := ih (n / 2) (by omega) (x ++ x) (out ++ x) (by omega) (by rw [hz, hz2]; omega) (by
            have : (x.size + x.size) ≤ (n / 2) * (x.size + x.size) := Nat.le_mul_of_pos_left _ (by omega)
            rw [hz]; omega)
          refine ⟨y, Ev.step (fun k => by rw [spec_l1Many.l0]) (Ev.iteT (by omega) ?_), by rw [hy, hz, hz2]; omega⟩
          rw [e1, e2, h2]
          exact Ev.iteT (by omega) (Ev.iteT (by omega) (Ev.iteT (by omega) ey))
theorem many_ev (n : Nat) (hn : n ≤ 200) : ∃ y, Ev (fun k => spec_l1Many.f k ⟨#[122]⟩ (n : Int)) y ∧ y.size = n := by
  have h1 : (⟨#[122]⟩ : ByteArray).size = 1 := rfl
  have h0 : (⟨#[]⟩ : ByteArray).size = 0 := rfl
  obtain ⟨y, ey, hy⟩ := many_loop n ⟨#[122]⟩ ⟨#[]⟩ (by omega) (by rw [h1, h0]; omega) (by omega)
  exact ⟨y, ey, by rw [hy, h1, h0]; omega⟩
theorem text_loop {b : List Int} (h : Bytes b) : ∀ (d : Nat) (p : Int) (l : List Int), l.length + d ≤ 1000 → 0 ≤ p → p + 3 * d < 1099511600000 →
    ∃ l', Ev (fun k => spec_l15Text.l0 k l (d : Int) b p) (strOfNums l', p + 3 * d) ∧ l'.length = l.length + d := by
  intro d
  induction d with
  | zero =>
    intro p l hl hp hp2
    refine ⟨l, Ev.step (fun k => by rw [spec_l15Text.l0]) ?_, by omega⟩
    refine Ev.iteF (by omega) (Ev.eq (Ev.now _) ?_)
    congr 1
    omega
  | succ d ih =>
    intro p l hl hp hp2
    obtain ⟨v1, e1, _, _⟩ := pick_ev h hp (by omega) 256
    obtain ⟨v2, e2, _, _⟩ := pick_ev h (show 0 ≤ p + 1 by omega) (by omega) 4
    obtain ⟨v3, e3, g0, g1⟩ := pick_ev h (show 0 ≤ p + 1 + 1 by omega) (by omega) 5
    have g2 := g1 (by omega)
    obtain ⟨l', e', hl'⟩ := ih (p + 1 + 1 + 1) (l ++ [(rd [v1, v2, 85, 235, 144] v3) % 256]) (by simp; omega) (by omega) (by omega)
    have ew : wrap64 (((d + 1 : Nat) : Int) - 1) = (d : Int) := by rw [wrap64_id (by omega) (by omega)]; omega
    refine ⟨l', Ev.step (fun k => by rw [spec_l15Text.l0]) (Ev.iteT (by omega) (Ev.bind e1 (Ev.bind e2 (Ev.bindc (x := [v1, v2, 85, 235, 144]) rfl (Ev.bind e3 ?_))))), by rw [hl']; simp; omega⟩
    show Ev (fun k => if 0 ≤ v3 then (if v3 < 5 then (if l.length < 140737488355328 then spec_l15Text.l0 k (l ++ [(rd [v1, v2, 85, 235, 144] v3) % 256]) (wrap64 (((d + 1 : Nat) : Int) - 1)) b (p + 1 + 1 + 1) else none) else none) else none) _
    refine Ev.iteT g0 (Ev.iteT g2 (Ev.iteT (by omega) ?_))
    rw [ew]
    refine Ev.eq e' ?_
    congr 1
    omega
theorem text_ev {b : List Int} {p : Int} (h : Bytes b) (hp : 0 ≤ p) (hp2 : p < 1099511000000) (n : Nat) (hn : n ≤ 100) :
    ∃ t p', Ev (fun k => spec_l15Text.f k b p n) (t, p') ∧ t.size ≤ n ∧ p ≤ p' ∧ p' ≤ p + 400 := by
  unfold spec_l15Text.f
  have ew : wrap64 ((n : Int) + 1) = (n : Int) + 1 := wrap64_id (by omega) (by omega)
  rw [ew]
  obtain ⟨v, e, h0, h1⟩ := pick_ev h hp (by omega) ((n : Int) + 1)
  have h2 := h1 (by omega)
  obtain ⟨m, rfl⟩ := Int.eq_ofNat_of_zero_le h0
  obtain ⟨l', e', hl'⟩ := text_loop h m (p + 1) [] (by simp; omega) (by omega) (by omega)
  exact ⟨_, _, Ev.bind e e', by rw [strOfNums_size, hl']; simp; omega, by omega, by omega⟩
theorem rdOf_mem (l : List ByteArray) (v : Int) (h0 : 0 ≤ v) (h2 : v < l.length) : rdOf ByteArray.empty l v ∈ l := by
  unfold rdOf
  rw [List.getD_eq_getElem?_getD, List.getElem?_eq_getElem (by omega)]
  exact List.getElem_mem _
end Go.Proofs.YtpehnincnpnggaaDoor.Draw
