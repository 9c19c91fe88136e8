/- The drawn values, in plain Lean: each draw answers, and the places go up by what was read. No conditions. -/
import Derived.Test.YtcenmlpfbpogoaaDoorPx6
import Derived.Test.YtcenmlpfbpogoaaDoorPx11
import Derived.Test.YtcenmlpfbpogoaaDoorEv
namespace Go.Proofs.YtcenmlpfbpogoaaDoor.Draw
open Go.RowKit Go.Proofs.YtcenmlpfbpogoaaDoor.P Go.Proofs.YtcenmlpfbpogoaaDoor.E Go.Proofs.YtcenmlpfbpogoaaDoorW.PrintWords
set_option linter.unusedSimpArgs false
set_option linter.unusedVariables false
def Bytes (b : List Int) : Prop := b.length ≤ 2000 ∧ ∀ x ∈ b, 0 ≤ x ∧ x ≤ 255
theorem rd_byte {b : List Int} (h : Bytes b) (i : Int) : 0 ≤ rd b i ∧ rd b i ≤ 255 := by
  unfold rd
  rw [List.getD_eq_getElem?_getD]
  cases e : b[i.toNat]? with
  | none => simp
  | some x => exact h.2 x (List.mem_of_getElem? e)
theorem bytes_of {l : List Int} (h : ∀ x ∈ l, (Lit.int .u8 x).wf = true) (hl : l.length ≤ 2000) : Bytes l := by
  refine ⟨hl, fun x hx => ?_⟩
  have := h x hx
  simp [Lit.wf, IntKind.wrap, IntKind.bits, IntKind.signed] at this
  have h0 : IntKind.u8.min = 0 := by decide
  have h1 : IntKind.u8.max = 255 := by decide
  omega
theorem xor_nn {x y : Int} (hx : 0 ≤ x) (hx2 : x < 4611686018427387904) (hy : 0 ≤ y) (hy2 : y < 4611686018427387904) : 0 ≤ Go.bits .xor .i64 x y := by
  obtain ⟨a, rfl⟩ := Int.eq_ofNat_of_zero_le hx
  obtain ⟨c, rfl⟩ := Int.eq_ofNat_of_zero_le hy
  have hx : a ^^^ c < 2 ^ 62 := Nat.xor_lt_two_pow (by omega) (by omega)
  have h1 : (BitVec.ofInt 64 (a : Int)).toNat = a := by
    rw [BitVec.ofInt_natCast, BitVec.toNat_ofNat]; exact Nat.mod_eq_of_lt (by omega)
  have h2 : (BitVec.ofInt 64 (c : Int)).toNat = c := by
    rw [BitVec.ofInt_natCast, BitVec.toNat_ofNat]; exact Nat.mod_eq_of_lt (by omega)
  show 0 ≤ IntKind.i64.wrap ((BitVec.ofInt 64 (a : Int) ^^^ BitVec.ofInt 64 (c : Int)).toNat : Int)
  rw [BitVec.toNat_xor, h1, h2]
  simp only [IntKind.wrap, IntKind.bits, IntKind.signed]
  simp
  omega
def mix (b : List Int) (p q q2 : Int) : Int := wrap64 ((wrap64 ((wrap64 ((wrap64 ((wrap64 (rd b q)) * 131)) + (wrap64 ((wrap64 (rd b q2)) * 1117)))) + (wrap64 (p * 29)))) + (wrap64 ((wrap64 (Int.tdiv p (b.length : Int))) * 53)))
theorem mix_nn {b : List Int} {p : Int} (h : Bytes b) (hp : 0 ≤ p) (hp2 : p < 1099511627776) (q q2 : Int) : 0 ≤ mix b p q q2 ∧ mix b p q q2 < 4611686018427387904 := by
  obtain ⟨a1, a2⟩ := rd_byte h q
  obtain ⟨c1, c2⟩ := rd_byte h q2
  have d1 : 0 ≤ Int.tdiv p (b.length : Int) := Int.tdiv_nonneg hp (by omega)
  have d2 : Int.tdiv p (b.length : Int) ≤ p := Int.tdiv_le_self _ hp
  unfold mix
  generalize rd b q = r at *
  generalize rd b q2 = s at *
  generalize Int.tdiv p (b.length : Int) = d at *
  rw [wrap64_id (x := r) (by omega) (by omega), wrap64_id (x := s) (by omega) (by omega), wrap64_id (x := d) (by omega) (by omega), wrap64_id (x := r * 131) (by omega) (by omega),
    wrap64_id (x := s * 1117) (by omega) (by omega), wrap64_id (x := p * 29) (by omega) (by omega), wrap64_id (x := d * 53) (by omega) (by omega), wrap64_id (x := r * 131 + s * 1117) (by omega) (by omega),
    wrap64_id (x := r * 131 + s * 1117 + p * 29) (by omega) (by omega), wrap64_id (by omega) (by omega)]
  omega
theorem pick_ev {b : List Int} {p : Int} (h : Bytes b) (hp : 0 ≤ p) (hp2 : p < 1099511627776) (n : Int) :
    ∃ v, Ev (fun k => spec_l1Rd_pick.f k b p n) (v, p + 1) ∧ 0 ≤ v ∧ (1 ≤ n → v < n) := by
  unfold spec_l1Rd_pick.f
  rw [wrap64_id (x := p + 1) (by omega) (by omega)]
  by_cases hn : n < 1
  · exact ⟨0, Ev.iteT hn (Ev.step (fun k => by rw [spec_l1Rd_pick.j0]) (Ev.iteT rfl (Ev.now _))), by omega, fun h => by omega⟩
  · by_cases hl : b.length = 0
    · exact ⟨0, Ev.iteF hn (Ev.step (fun k => by rw [spec_l1Rd_pick.j0]) (Ev.iteT (by simp [hl]) (Ev.now _))), by omega, fun h => by omega⟩
    · have e1 : wrap64 (p + 1 - 1) = p := by unfold wrap64; omega
      have hz : ¬ n = 0 := by omega
      have hb : ¬ ((b.length : Int) == 0) = true := by simp; exact fun h => hl (by simp [h])
      have hl1 : ¬ (b.length : Int) = 0 := by omega
      obtain ⟨X, hX, e⟩ : ∃ X, 0 ≤ X ∧ ∀ k, spec_l1Rd_pick.j0 (k + 1) n ((b.length : Int) == 0) b (p + 1) = some (Int.tmod X n, p + 1) := by
        by_cases hs : p < (b.length : Int)
        · refine ⟨wrap64 (rd b p), ?_, fun k => ?_⟩
          · have := rd_byte h p
            rw [wrap64_id (by omega) (by omega)]
            exact this.1
          · rw [spec_l1Rd_pick.j0, if_neg hb, e1, if_pos hs, if_pos hp, if_neg hz]
        · have q0 := Int.tmod_nonneg (b.length : Int) hp
          have q1 := Int.tmod_lt_of_pos p (show 0 < (b.length : Int) by omega)
          have e2 : wrap64 (p * 7) = p * 7 := wrap64_id (by omega) (by omega)
          have e3 : wrap64 (p * 7 + 3) = p * 7 + 3 := wrap64_id (by omega) (by omega)
          have r0 := Int.tmod_nonneg (b.length : Int) (show 0 ≤ p * 7 + 3 by omega)
          have r1 := Int.tmod_lt_of_pos (p * 7 + 3) (show 0 < (b.length : Int) by omega)
          obtain ⟨m0, m1⟩ := mix_nn h hp hp2 (Int.tmod p (b.length : Int)) (Int.tmod (p * 7 + 3) (b.length : Int))
          refine ⟨Go.bits .xor .i64 (mix b p (Int.tmod p (b.length : Int)) (Int.tmod (p * 7 + 3) (b.length : Int))) (wrap64 (Int.tdiv (mix b p (Int.tmod p (b.length : Int)) (Int.tmod (p * 7 + 3) (b.length : Int))) 64)), ?_, fun k => ?_⟩
          · generalize mix b p (Int.tmod p (b.length : Int)) (Int.tmod (p * 7 + 3) (b.length : Int)) = M at *
            have t0 : 0 ≤ Int.tdiv M 64 := Int.tdiv_nonneg m0 (by omega)
            have t1 : Int.tdiv M 64 ≤ M := Int.tdiv_le_self _ m0
            rw [wrap64_id (by omega) (by omega)]
            exact xor_nn m0 m1 t0 (by omega)
          · rw [spec_l1Rd_pick.j0, if_neg hb, e1, if_neg hs, if_neg hl1, if_pos q0, if_pos q1, e2, e3, if_pos r0, if_pos r1, if_neg hz]
            rfl
      refine ⟨Int.tmod X n, Ev.iteF hn ⟨1, fun k hk => ?_⟩, Int.tmod_nonneg _ hX, fun _ => Int.tmod_lt_of_pos _ (by omega)⟩
      obtain ⟨k, rfl⟩ : ∃ m, k = m + 1 := ⟨k - 1, by omega⟩
      exact e k
theorem one_ev {b : List Int} {p : Int} (h : Bytes b) (hp : 0 ≤ p) (hp2 : p < 1099511627776) (l : List Int) (hl : 1 ≤ l.length) :
    ∃ v, Ev (fun k => spec_l1Rd_one.f k b p l) (v, p + 1) ∧ v ∈ l := by
  obtain ⟨v, e, h0, h1⟩ := pick_ev h hp hp2 (l.length : Int)
  have h2 := h1 (by omega)
  unfold spec_l1Rd_one.f
  refine ⟨rd l v, Ev.bind e (Ev.iteT h0 (Ev.iteT h2 (Ev.now _))), ?_⟩
  unfold rd
  rw [List.getD_eq_getElem?_getD, List.getElem?_eq_getElem (by omega)]
  exact List.getElem_mem _
theorem open_at {l : List Int} (h : ∀ x ∈ l, (Lit.int .u8 x).wf = true) : ∃ b, spec_l1Open.f l = some (b, 0) ∧ Bytes b := by
  unfold spec_l1Open.f
  by_cases hl : (l.length : Int) > 2000
  · rw [if_pos hl, if_pos (by omega)]
    exact ⟨_, rfl, bytes_of (fun x hx => h x (List.mem_of_mem_take hx)) (by simp; omega)⟩
  · rw [if_neg hl]
    exact ⟨_, rfl, bytes_of h (by omega)⟩
end Go.Proofs.YtcenmlpfbpogoaaDoor.Draw
