/- Drawn frames down, in plain Lean: each draw answers, and what it answers is one. No conditions. -/
import Derived.Test.YtaolcmhgbanacaaPx2
import Derived.Test.YtaolcmhgbanacaaPx3
import Derived.Test.YtaolcmhgbanacaaPx4
import Derived.Test.YtaolcmhgbanacaaDrawFarm
import Derived.Test.YtaolcmhgbanacaaDrawTxt
import Derived.Test.YtaolcmhgbanacaaDownGetI
namespace Go.Proofs.Ytaolcmhgbanacaa.Draw
open Go.RowKit Go.Proofs.Ytaolcmhgbanacaa.P Go.Proofs.Ytaolcmhgbanacaa.E Go.Proofs.Ytaolcmhgbanacaa.Num Go.Proofs.Ytaolcmhgbanacaa.Get Go.Proofs.Ytaolcmhgbanacaa.Farm Go.Proofs.Ytaolcmhgbanacaa.CrcEv Go.Proofs.Ytaolcmhgbanacaa.Down Go.Proofs.YtaolcmhgbanacaaW.PrintWords
set_option linter.unusedSimpArgs false
set_option linter.unusedVariables false
theorem bit_of {x m : Int} {b : Bool} (h : x / m % 2 = b2i b) : bit x m = b := by
  unfold bit
  rw [h]
  cases b <;> rfl
theorem farm_fine {s w a : Bool} {c n : Int} (h : farmB w a c n = true) : (farmGet (farmS s w a c n)).2.2.2.2.2 = true := by
  obtain ⟨c0, c1, n0, n1⟩ := farmB_range h
  have bs0 := b2i_range s
  have bw := b2i_range w
  have ba := b2i_range a
  have hS : farmS s w a c n = (⟨#[1, 0]⟩ : ByteArray) ++ bs (farmHead s w a c).toNat 1 ++ bs n.toNat 1 := by unfold farmS; rw [if_pos h]
  have hh : 0 ≤ farmHead s w a c ∧ farmHead s w a c ≤ 62 := by unfold farmHead; omega
  have hz : (farmS s w a c n).size = 4 := by
    rw [hS]
    simp only [ByteArray.size_append, bs_size, size2]
  have e1 := num_at (s := (⟨#[1, 0]⟩ : ByteArray)) 1 (farmHead s w a c).toNat (show (farmHead s w a c).toNat < 256 ^ 1 by simp; omega) hS
  have e2 := num_at (s := (⟨#[1, 0]⟩ : ByteArray) ++ bs (farmHead s w a c).toNat 1) (u := ⟨#[]⟩) (t := farmS s w a c n) 1 n.toNat (show n.toNat < 256 ^ 1 by simp; omega) (by rw [hS]; exact (ByteArray.append_empty).symm)
  simp only [ByteArray.size_append, bs_size, size2] at e1 e2
  have b2 : bt (farmS s w a c n) 2 = farmHead s w a c := by
    have this : num (farmS s w a c n) 2 1 = bt (farmS s w a c n) 2 := num_one (farmS s w a c n) 2 (by omega)
    rw [e1] at this
    omega
  have b3 : bt (farmS s w a c n) 3 = n := by
    have this : num (farmS s w a c n) 3 1 = bt (farmS s w a c n) 3 := num_one (farmS s w a c n) 3 (by omega)
    rw [e2] at this
    omega
  have hd : farmHead s w a c = b2i s * 32 + b2i w * 16 + b2i a * 8 + c * 2 := rfl
  rw [farmGet_yes (by omega)]
  rw [b2, b3, bit_of (b := s) (by omega), bit_of (b := w) (by omega), bit_of (b := a) (by omega), show farmHead s w a c / 2 % 4 = c by omega]
theorem down_ev {b : List Int} {p : Int} (h : Bytes b) (hp : 0 ≤ p) (hp2 : p < 500000) :
    ∃ c w a o f d fm p', Ev (fun k => spec_l15Down.f k b p) (c, w, a, o, f, d, fm, p') ∧ downB c w a o f d fm = true ∧ p ≤ p' ∧ p' ≤ p + 1000 := by
  obtain ⟨v1, e1, a0, a1⟩ := pick_ev h hp (by omega) 4
  have a2 := a1 (by omega)
  obtain ⟨v2, e2, b0, b1⟩ := pick_ev h (show 0 ≤ p + 1 by omega) (by omega) 256
  have b2 := b1 (by omega)
  obtain ⟨v3, e3, c0, c1⟩ := pick_ev h (show 0 ≤ p + 1 + 1 by omega) (by omega) 6
  have c2 := c1 (by omega)
  obtain ⟨v4, e4, m4⟩ := one_ev h (show 0 ≤ p + 1 + 1 + 1 by omega) (by omega) [v3, 255] (by simp)
  obtain ⟨v5, e5, d0, d1⟩ := pick_ev h (show 0 ≤ p + 1 + 1 + 1 + 1 by omega) (by omega) 28
  have d2 := d1 (by omega)
  obtain ⟨v6, e6, m6⟩ := one_ev h (show 0 ≤ p + 1 + 1 + 1 + 1 + 1 by omega) (by omega) [0, v5, 2047, 2046] (by simp)
  obtain ⟨t, p7, e7, ht, q0, q1⟩ := text_ev h (show 0 ≤ p + 1 + 1 + 1 + 1 + 1 + 1 by omega) (by omega) 28 (by omega)
  have e7 : Ev (fun k => spec_l15Text.f k b (p + 1 + 1 + 1 + 1 + 1 + 1) 28) (t, p7) := e7
  obtain ⟨y, ey, hy⟩ := many_ev 28 (by omega)
  have ey : Ev (fun k => spec_l1Many.f k (⟨#[122]⟩ : ByteArray) 28) y := ey
  obtain ⟨s, w, a, c, n, p8, e8, ⟨r0, r1⟩, hw, hc, hn⟩ := farm_ev h (show 0 ≤ p7 by omega) (by omega)
  have e9 := Farm.specPut_ev s w a c n
  have hF : farmB w a c n = true := by
    unfold farmB
    simp only [Bool.and_eq_true, inB_true, Bool.or_eq_true, Bool.not_eq_true']
    refine ⟨hc, hn, ?_⟩
    cases w with
    | false => exact Or.inr rfl
    | true => exact Or.inl (hw rfl)
  have hfine := farm_fine (s := s) hF
  have hsz : (t ++ y).size = t.size + y.size := ByteArray.size_append
  have hx : ((t ++ y).extract 0 28).size = 28 := by rw [ByteArray.size_extract]; omega
  refine ⟨5, v1, v2, v4, v6, (t ++ y).extract 0 28, farmS s w a c n, p8, ?_, ?_, by omega, by omega⟩
  · unfold spec_l15Down.f
    refine Ev.bind e1 ?_
    refine Ev.bind e2 ?_
    refine Ev.bind e3 ?_
    refine Ev.bind e4 ?_
    refine Ev.bind e5 ?_
    refine Ev.bind e6 ?_
    refine Ev.bind e7 ?_
    refine Ev.bind ey ?_
    refine Ev.iteT (show t.size + y.size ≤ 9223372036854775807 by omega) ?_
    refine Ev.iteT (by omega) ?_
    refine Ev.iteT (show (28 : Int) ≤ ((t ++ y).size : Int) by omega) ?_
    refine Ev.bind e8 ?_
    refine Ev.bind e9 ?_
    exact Ev.now _
  · unfold downB firstB
    simp only [List.mem_cons, List.not_mem_nil, or_false] at m4 m6
    simp only [Bool.and_eq_true, Bool.or_eq_true, inB_true, decide_eq_true_eq]
    exact ⟨hfine, ⟨by omega, by omega⟩, ⟨by omega, by omega⟩, ⟨by omega, by omega⟩, ⟨by omega, by omega⟩, by omega, by omega⟩
theorem drawPut {l : List Int} (h : ∀ x ∈ l, (Lit.int .u8 x).wf = true) : ∃ c w a o f d fm, Ev (fun k => spec_DrawDownPut.f k l) (c, w, a, o, f, d, fm) := by
  obtain ⟨b, eo, hb⟩ := open_at h
  obtain ⟨c, w, a, o, f, d, fm, p1, e1, hB, q0, q1⟩ := down_ev hb (show (0 : Int) ≤ 0 by omega) (by omega)
  obtain ⟨_, _, _, _, _, hd, _⟩ := downB_range hB
  obtain ⟨u, e2, _, _⟩ := pick_ev hb (show 0 ≤ p1 by omega) (by omega) 14
  obtain ⟨x, e3, _⟩ := one_ev hb (show 0 ≤ p1 + 1 by omega) (by omega) [(-1), 8] (by simp)
  obtain ⟨z, e4, _⟩ := one_ev hb (show 0 ≤ p1 + 1 by omega) (by omega) [28, (-1), 2045] (by simp)
  unfold spec_DrawDownPut.f
  by_cases h0 : u = 0
  · exact ⟨_, _, _, _, _, _, _, Ev.bindc eo (Ev.bind e1 (Ev.bind e2 (Ev.iteT h0 (Ev.bind e3 (Ev.now _)))))⟩
  · by_cases h1 : u = 1
    · exact ⟨_, _, _, _, _, _, _, Ev.bindc eo (Ev.bind e1 (Ev.bind e2 (Ev.iteF h0 (Ev.iteT h1 (Ev.bind e4 (Ev.now _))))))⟩
    · by_cases h2 : u = 2
      · exact ⟨_, _, _, _, _, _, _, Ev.bindc eo (Ev.bind e1 (Ev.bind e2 (Ev.iteF h0 (Ev.iteF h1 (Ev.iteT h2 (Ev.iteT (show (1 : Int) ≤ (d.size : Int) by omega) (Ev.now _)))))))⟩
      · by_cases h3 : u = 3
        · exact ⟨_, _, _, _, _, _, _, Ev.bindc eo (Ev.bind e1 (Ev.bind e2 (Ev.iteF h0 (Ev.iteF h1 (Ev.iteF h2 (Ev.iteT h3 (Ev.now _)))))))⟩
        · by_cases h4 : u = 4
          · exact ⟨_, _, _, _, _, _, _, Ev.bindc eo (Ev.bind e1 (Ev.bind e2 (Ev.iteF h0 (Ev.iteF h1 (Ev.iteF h2 (Ev.iteF h3 (Ev.iteT h4 (Ev.now _))))))))⟩
          · exact ⟨_, _, _, _, _, _, _, Ev.bindc eo (Ev.bind e1 (Ev.bind e2 (Ev.iteF h0 (Ev.iteF h1 (Ev.iteF h2 (Ev.iteF h3 (Ev.iteF h4 (Ev.now _))))))))⟩
end Go.Proofs.Ytaolcmhgbanacaa.Draw
