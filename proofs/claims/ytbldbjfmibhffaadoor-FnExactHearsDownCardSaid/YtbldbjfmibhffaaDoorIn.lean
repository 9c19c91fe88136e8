/- What lies between two numbers; a yes as a number. Plain Lean, no conditions. -/
import Derived.Test.YtbldbjfmibhffaaDoorPx2
import Derived.Test.YtbldbjfmibhffaaDoorNum
import Derived.Test.YtbldbjfmibhffaaDoorInB
namespace Go.Proofs.YtbldbjfmibhffaaDoor.In
open Go.RowKit Go.Proofs.YtbldbjfmibhffaaDoor.P Go.Proofs.YtbldbjfmibhffaaDoor.E Go.Proofs.YtbldbjfmibhffaaDoor.Num Go.Proofs.YtbldbjfmibhffaaDoorW.PrintWords
set_option linter.unusedSimpArgs false
set_option linter.unusedVariables false
def b2i (b : Bool) : Int := if b = true then 1 else 0
theorem flag_at (b : Bool) : spec_l3Flag.f b = some (b2i b) := by cases b <;> rfl
theorem b2i_range (b : Bool) : 0 ≤ b2i b ∧ b2i b ≤ 1 := by cases b <;> decide
theorem bits_and (n m : Nat) (h : m < 65536) : Go.bits .and .i64 (n : Int) (m : Int) = (((n % 18446744073709551616) &&& m : Nat) : Int) := by
  show IntKind.i64.wrap ((BitVec.ofInt 64 (n : Int) &&& BitVec.ofInt 64 (m : Int)).toNat : Int) = _
  have e : (BitVec.ofInt 64 (n : Int) &&& BitVec.ofInt 64 (m : Int)).toNat = (n % 18446744073709551616) &&& m := by
    rw [BitVec.toNat_and, BitVec.ofInt_natCast, BitVec.ofInt_natCast, BitVec.toNat_ofNat, BitVec.toNat_ofNat]
    rw [Nat.mod_eq_of_lt (show m < 2 ^ 64 by omega)]
  have hle : (n % 18446744073709551616) &&& m ≤ m := Nat.and_le_right
  rw [e]
  simp only [IntKind.wrap, IntKind.bits, IntKind.signed]
  simp
  omega
theorem and_2047 (x : Int) (h0 : 0 ≤ x) (h1 : x ≤ 65535) : Go.bits .and .i64 x 2047 = x % 2048 := by
  obtain ⟨n, rfl⟩ := Int.eq_ofNat_of_zero_le h0
  have := bits_and n 2047 (by omega)
  rw [Nat.mod_eq_of_lt (by omega), show (2047 : Nat) = 2 ^ 11 - 1 by rfl, Nat.and_two_pow_sub_one_eq_mod] at this
  exact this
theorem and_pow (n k : Nat) : n &&& 2 ^ k = if n.testBit k = true then 2 ^ k else 0 := by
  apply Nat.eq_of_testBit_eq
  intro i
  rw [Nat.testBit_and, Nat.testBit_two_pow]
  by_cases h : k = i
  · subst h
    cases hb : n.testBit k <;> simp
  · cases hb : n.testBit k <;> simp [h, Nat.testBit_two_pow]
theorem and_4096 (x : Int) (h0 : 0 ≤ x) (h1 : x ≤ 65535) : (Go.bits .and .i64 x 4096 != 0) = (x / 4096 % 2 == 1) := by
  obtain ⟨n, rfl⟩ := Int.eq_ofNat_of_zero_le h0
  have := bits_and n 4096 (by omega)
  rw [Nat.mod_eq_of_lt (by omega), show (4096 : Nat) = 2 ^ 12 by rfl, and_pow, Nat.testBit_eq_decide_div_mod_eq] at this
  rw [show (4096 : Int) = ((2 ^ 12 : Nat) : Int) by rfl, this]
  by_cases h : n / 2 ^ 12 % 2 = 1
  · rw [decide_eq_true h]
    have e : ((n : Int) / ((2 ^ 12 : Nat) : Int) % 2 == 1) = true := by rw [beq_iff_eq]; omega
    rw [e]
    decide
  · rw [decide_eq_false h]
    have e : ((n : Int) / ((2 ^ 12 : Nat) : Int) % 2 == 1) = false := by rw [beq_eq_false_iff_ne]; omega
    rw [e]
    decide
end Go.Proofs.YtbldbjfmibhffaaDoor.In
