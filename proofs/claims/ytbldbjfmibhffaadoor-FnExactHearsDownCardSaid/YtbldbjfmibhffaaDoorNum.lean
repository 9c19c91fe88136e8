/- Numbers in bytes, in plain Lean: the program's and the reference's are one. No conditions. -/
import Derived.Test.YtbldbjfmibhffaaDoorPx2
import Derived.Test.YtbldbjfmibhffaaDoorPx6
import Derived.Test.YtbldbjfmibhffaaDoorText
namespace Go.Proofs.YtbldbjfmibhffaaDoor.Num
open Go.RowKit Go.Proofs.YtbldbjfmibhffaaDoor.P Go.Proofs.YtbldbjfmibhffaaDoor.E Go.Proofs.YtbldbjfmibhffaaDoorW.PrintWords
set_option linter.unusedSimpArgs false
set_option linter.unusedVariables false

/-! ### the reference's l1Put -/
theorem l1Put_loop : ∀ (d : Nat) (n s : Nat) (i : Nat) (out : ByteArray), n ≤ 9223372036854775807 → i + d = s → s ≤ 16 → out.size + d ≤ 1000 → ∀ k, d < k → spec_l1Put.l0 k (n : Int) (s : Int) out (i : Int) = some (bs n d ++ out) := by
  intro d
  induction d with
  | zero =>
    intro n s i out hn hi hs ho k hk
    obtain ⟨k, rfl⟩ : ∃ m, k = m + 1 := ⟨k - 1, by omega⟩
    rw [spec_l1Put.l0, if_neg (by omega)]
    show _ = some (strOfNums [] ++ out)
    rw [strOfNums_nil, empty_append]
  | succ d ih =>
    intro n s i out hn hi hs ho k hk
    obtain ⟨k, rfl⟩ : ∃ m, k = m + 1 := ⟨k - 1, by omega⟩
    rw [spec_l1Put.l0, if_pos (by omega)]
    have e1 : Int.tmod (n : Int) 256 % 256 = ((n % 256 : Nat) : Int) := by
      rw [Int.tmod_eq_emod_of_nonneg (by omega)]
      omega
    have e2 : wrap64 (Int.tdiv (n : Int) 256) = ((n / 256 : Nat) : Int) := by
      rw [Int.tdiv_eq_ediv_of_nonneg (by omega), wrap64_id (by omega) (by omega)]
      omega
    simp only [Option.bind_some]
    have hz : (strOfNums [Int.tmod (n : Int) 256 % 256]).size = 1 := by rw [strOfNums_size]; rfl
    rw [if_pos (show (strOfNums [Int.tmod (n : Int) 256 % 256]).size + out.size ≤ 9223372036854775807 by rw [hz]; omega), e2, wrap_succ (by omega), e1]
    have hz2 : (strOfNums [((n % 256 : Nat) : Int)]).size = 1 := by rw [strOfNums_size]; rfl
    rw [ih (n / 256) s (i + 1) _ (by omega) (by omega) hs (by rw [ByteArray.size_append, hz2]; omega) k (by omega)]
    unfold bs
    rw [nb, strOfNums_append, ByteArray.append_assoc]
/-- Only as many rounds as there are bytes. -/
theorem l1Put_at (n : Int) (s : Nat) (h0 : 0 ≤ n) (h1 : n ≤ 9223372036854775807) (hs : s ≤ 8) (ho : True) : Ev (fun k => spec_l1Put.f k n s) (bs n.toNat s) := by
  refine ⟨s + 1, fun k hk => ?_⟩
  unfold spec_l1Put.f
  have := l1Put_loop s n.toNat s 0 ⟨#[]⟩ (by omega) (by omega) (by omega) (by show (0 : Nat) + s ≤ 1000; omega) k (by omega)
  rw [append_empty] at this
  rw [show ((n.toNat : Nat) : Int) = n by omega] at this
  exact this

/-! ### the program's NumPut -/
theorem and255 (n : Nat) : Go.bits .and .i64 (n : Int) 255 % 256 = ((n % 256 : Nat) : Int) := by
  show IntKind.i64.wrap ((BitVec.ofInt 64 (n : Int) &&& BitVec.ofInt 64 255).toNat : Int) % 256 = _
  have e : (BitVec.ofInt 64 (n : Int) &&& BitVec.ofInt 64 255).toNat = n % 256 := by
    rw [BitVec.toNat_and, BitVec.ofInt_natCast, BitVec.toNat_ofNat]
    have : (BitVec.ofInt 64 255).toNat = 2 ^ 8 - 1 := by decide
    rw [this, Nat.and_two_pow_sub_one_eq_mod]
    omega
  rw [e]
  simp only [IntKind.wrap, IntKind.bits, IntKind.signed]
  simp
  omega
theorem NumPut_loop : ∀ (d : Nat) (n : Nat) (tail : List Int), n ≤ 9223372036854775807 → tail.length + d ≤ 100 → ∀ (junk : List Int), junk.length = d → ∀ k, d < k → impl_NumPut.l0 k (n : Int) (junk ++ tail) ((d : Int) - 1) = some (strOfNums (nb n d ++ tail)) := by
  intro d
  induction d with
  | zero =>
    intro n tail hn ht junk hj k hk
    obtain ⟨k, rfl⟩ : ∃ m, k = m + 1 := ⟨k - 1, by omega⟩
    obtain rfl := List.eq_nil_of_length_eq_zero hj
    rw [impl_NumPut.l0, if_neg (by omega)]
    rfl
  | succ d ih =>
    intro n tail hn ht junk hj k hk
    obtain ⟨k, rfl⟩ : ∃ m, k = m + 1 := ⟨k - 1, by omega⟩
    obtain ⟨m, x, rfl, hm⟩ := list_snoc hj
    have e0 : ((d + 1 : Nat) : Int) - 1 = (d : Int) := by omega
    rw [impl_NumPut.l0, e0, if_pos (by omega), if_pos (by omega), if_pos (by simp; omega)]
    have e1 : ((n : Int) / 256) = ((n / 256 : Nat) : Int) := by omega
    have e2 : wrap64 ((d : Int) - 1) = (d : Int) - 1 := wrap64_id (by omega) (by omega)
    rw [and255, e1, e2]
    have e3 : (m ++ [x] ++ tail).set ((d : Int)).toNat ((n % 256 : Nat) : Int) = m ++ (((n % 256 : Nat) : Int) :: tail) := by
      rw [Int.toNat_natCast, List.append_assoc, List.set_append_right _ _ (by omega), hm, Nat.sub_self]
      rfl
    rw [e3, ih (n / 256) (((n % 256 : Nat) : Int) :: tail) (by omega) (by simp; omega) m hm k (by omega), nb]
    simp
theorem shr_zero (n s : Nat) (hs : s ≤ 4) : (shr .i64 (n : Int) (8 * (s : Int)) != 0) = decide (256 ^ s ≤ n) := by
  unfold shr
  have e : min (8 * (s : Int)).toNat (IntKind.bits .i64) = 8 * s := by simp only [IntKind.bits]; omega
  rw [e]
  have e2 : (2 : Int) ^ (8 * s) = ((256 ^ s : Nat) : Int) := by rw [show (256 : Nat) = 2 ^ 8 from rfl, ← Nat.pow_mul, Int.natCast_pow]; rfl
  rw [e2, ← Int.natCast_ediv]
  have hp : 0 < 256 ^ s := Nat.pow_pos (by decide)
  by_cases h : 256 ^ s ≤ n
  · rw [decide_eq_true h, bne_iff_ne]
    have : 1 ≤ n / 256 ^ s := (Nat.one_le_div_iff hp).2 h
    omega
  · rw [decide_eq_false h]
    have : n / 256 ^ s = 0 := Nat.div_eq_of_lt (by omega)
    rw [this]
    rfl
theorem NumPut_in (n : Int) (s : Nat) (h0 : 0 ≤ n) (h1 : n < ((256 ^ s : Nat) : Int)) (hs1 : 1 ≤ s) (hs : s ≤ 4) : Ev (fun k => impl_NumPut.f k n s) (bs n.toNat s) := by
  have hp : 256 ^ s ≤ 256 ^ 4 := Nat.pow_le_pow_right (by decide) hs
  obtain ⟨m, rfl⟩ := Int.eq_ofNat_of_zero_le h0
  have hm : m < 256 ^ s := by omega
  refine ⟨s + 3, fun k hk => ?_⟩
  obtain ⟨k, rfl⟩ : ∃ m, k = m + 1 := ⟨k - 1, by omega⟩
  have ew : wrap64 (8 * (s : Int)) = 8 * (s : Int) := wrap64_id (by omega) (by omega)
  show impl_NumPut.f (k + 1) (m : Int) (s : Int) = _
  unfold impl_NumPut.f
  rw [if_neg (by omega), if_neg (by omega), if_neg (by omega), ew, if_pos (by omega), shr_zero m s hs, decide_eq_false (by omega), impl_NumPut.j0, if_neg (by simp), if_pos (by omega), if_pos (by omega), wrap64_id (by omega) (by omega)]
  have := NumPut_loop s m [] (by omega) (by simp; omega) (List.replicate s 0) (by simp) k (by omega)
  simp only [List.append_nil] at this
  rw [Int.toNat_natCast, this]
  rfl
end Go.Proofs.YtbldbjfmibhffaaDoor.Num
