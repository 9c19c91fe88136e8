/- How it stands, in four bytes, in plain Lean: the program's and the reference's are one. No conditions. -/
import Derived.Test.YtbldbjfmibhffaaDoorPx2
import Derived.Test.YtbldbjfmibhffaaDoorPx5
import Derived.Test.YtbldbjfmibhffaaDoorPx6
import Derived.Test.YtbldbjfmibhffaaDoorNum
namespace Go.Proofs.YtbldbjfmibhffaaDoor.Farm
open Go.RowKit Go.Proofs.YtbldbjfmibhffaaDoor.P Go.Proofs.YtbldbjfmibhffaaDoor.E Go.Proofs.YtbldbjfmibhffaaDoor.Num Go.Proofs.YtbldbjfmibhffaaDoorW.PrintWords
set_option linter.unusedSimpArgs false
set_option linter.unusedVariables false
def inB (x lo hi : Int) : Bool := decide (lo ≤ x) && decide (x ≤ hi)
theorem l1In_at (x lo hi : Int) : spec_l1In.f x lo hi = some (inB x lo hi) := by
  unfold spec_l1In.f inB
  by_cases h : x ≥ lo
  · rw [if_pos h, decide_eq_true (show lo ≤ x from h), Bool.true_and]
  · rw [if_neg h, decide_eq_false (show ¬ lo ≤ x from h), Bool.false_and]
theorem within_at (x hi : Int) : impl_within.f x hi = some (inB x 0 hi) := by
  unfold impl_within.f inB
  by_cases h : x ≥ 0
  · rw [if_pos h, decide_eq_true (show 0 ≤ x from h), Bool.true_and]
  · rw [if_neg h, decide_eq_false (show ¬ 0 ≤ x from h), Bool.false_and]
theorem inB_true {x lo hi : Int} : inB x lo hi = true ↔ lo ≤ x ∧ x ≤ hi := by unfold inB; simp
def farmB (w a : Bool) (c n : Int) : Bool := inB c 0 3 && (inB n 0 255 && (a || !w))
theorem specOk_at (s w a : Bool) (c n : Int) : spec_FarmOk.f s w a c n = some (farmB w a c n) := by
  unfold spec_FarmOk.f farmB
  rw [l1In_at, l1In_at]
  cases inB c 0 3 <;> cases inB n 0 255 <;> cases w <;> cases a <;> rfl
theorem implOk_at (s w a : Bool) (c n : Int) : impl_FarmOk.f s w a c n = some (farmB w a c n) := by
  unfold impl_FarmOk.f farmB
  rw [within_at, within_at]
  cases inB c 0 3 <;> cases inB n 0 255 <;> cases w <;> cases a <;> rfl
def b2i (b : Bool) : Int := if b = true then 1 else 0
def farmHead (s w a : Bool) (c : Int) : Int := b2i s * 32 + b2i w * 16 + b2i a * 8 + c * 2
def farmS (s w a : Bool) (c n : Int) : ByteArray := if farmB w a c n = true then (⟨#[1, 0]⟩ : ByteArray) ++ bs (farmHead s w a c).toNat 1 ++ bs n.toNat 1 else ⟨#[]⟩
theorem flag_at (b : Bool) : spec_l3Flag.f b = some (b2i b) := by cases b <;> rfl
theorem b2i_range (b : Bool) : 0 ≤ b2i b ∧ b2i b ≤ 1 := by cases b <;> decide
theorem farmB_range {w a : Bool} {c n : Int} (h : farmB w a c n = true) : 0 ≤ c ∧ c ≤ 3 ∧ 0 ≤ n ∧ n ≤ 255 := by
  unfold farmB at h
  simp only [Bool.and_eq_true, inB_true] at h
  omega
theorem size2 : (⟨#[1, 0]⟩ : ByteArray).size = 2 := rfl
theorem specPut_ev (s w a : Bool) (c n : Int) : Ev (fun k => spec_FarmPut.f k s w a c n) (farmS s w a c n) := by
  unfold spec_FarmPut.f
  refine Ev.bindc (specOk_at s w a c n) ?_
  by_cases h : farmB w a c n = true
  · obtain ⟨c0, c1, n0, n1⟩ := farmB_range h
    obtain ⟨s0, s1⟩ := b2i_range s
    obtain ⟨w0, w1⟩ := b2i_range w
    obtain ⟨a0, a1⟩ := b2i_range a
    refine Ev.iteT h (Ev.bindc (flag_at s) (Ev.bindc (flag_at w) (Ev.bindc (flag_at a) ?_)))
    have e : wrap64 (wrap64 (wrap64 (wrap64 (b2i s * 32) + wrap64 (b2i w * 16)) + wrap64 (b2i a * 8)) + wrap64 (c * 2)) = farmHead s w a c := by
      unfold farmHead
      rw [wrap64_id (x := b2i s * 32) (by omega) (by omega), wrap64_id (x := b2i w * 16) (by omega) (by omega), wrap64_id (x := b2i a * 8) (by omega) (by omega), wrap64_id (x := c * 2) (by omega) (by omega), wrap64_id (x := b2i s * 32 + b2i w * 16) (by omega) (by omega), wrap64_id (x := b2i s * 32 + b2i w * 16 + b2i a * 8) (by omega) (by omega), wrap64_id (by omega) (by omega)]
    rw [e]
    have hh : 0 ≤ farmHead s w a c ∧ farmHead s w a c ≤ 255 := by unfold farmHead; omega
    refine Ev.bind (l1Put_at (farmHead s w a c) 1 hh.1 (by omega) (by omega) trivial) ?_
    refine Ev.iteT (by rw [bs_size]; omega) ?_
    refine Ev.bind (l1Put_at n 1 n0 (by omega) (by omega) trivial) ?_
    refine Ev.iteT (by rw [bs_size, bs_size]; omega) ?_
    unfold farmS
    rw [if_pos h]
    exact Ev.now _
  · refine Ev.iteF h ?_
    unfold farmS
    rw [if_neg h]
    exact Ev.now _
theorem implPut_ev (s w a : Bool) (c n : Int) : Ev (fun k => impl_FarmPut.f k s w a c n) (farmS s w a c n) := by
  unfold impl_FarmPut.f
  refine Ev.bindc (implOk_at s w a c n) ?_
  by_cases h : farmB w a c n = true
  · obtain ⟨c0, c1, n0, n1⟩ := farmB_range h
    refine Ev.iteT h ?_
    have hput : ∀ x y : Int, x = y → 0 ≤ y → y ≤ 255 → Ev (fun k => impl_NumPut.f k x 1) (bs y.toNat 1) := fun x y e h0 h1 => e ▸ NumPut_in y 1 h0 (by simp; omega) (by omega) (by omega)
    have hh : 0 ≤ farmHead s w a c ∧ farmHead s w a c ≤ 255 := by
      obtain ⟨s0, s1⟩ := b2i_range s
      obtain ⟨w0, w1⟩ := b2i_range w
      obtain ⟨a0, a1⟩ := b2i_range a
      unfold farmHead
      omega
    unfold farmS
    rw [if_pos h]
    have fin : ∀ x : Int, x = farmHead s w a c → Ev (fun k => (impl_NumPut.f k x 1).bind fun t1 => if 2 + t1.size ≤ 9223372036854775807 then (impl_NumPut.f k n 1).bind fun t2 => if 2 + t1.size + t2.size ≤ 9223372036854775807 then some ((⟨#[1, 0]⟩ : ByteArray) ++ t1 ++ t2) else none else none) ((⟨#[1, 0]⟩ : ByteArray) ++ bs (farmHead s w a c).toNat 1 ++ bs n.toNat 1) := fun x e =>
      Ev.bind (hput x _ e hh.1 hh.2) (Ev.iteT (by rw [bs_size]; omega) (Ev.bind (hput n n rfl n0 n1) (Ev.iteT (by rw [bs_size, bs_size]; omega) (Ev.now _))))
    cases s <;> cases w <;> cases a <;>
    · first | refine Ev.iteT rfl ?_ | refine Ev.iteF (by decide) ?_
      refine Ev.step (fun k => by rw [impl_FarmPut.j0]) ?_
      first | refine Ev.iteT rfl ?_ | refine Ev.iteF (by decide) ?_
      refine Ev.step (fun k => by rw [impl_FarmPut.j1]) ?_
      first | refine Ev.iteT rfl ?_ | refine Ev.iteF (by decide) ?_
      exact fin _ (by simp only [b2i, farmHead]; unfold wrap64; simp; omega)
  · refine Ev.iteF h ?_
    unfold farmS
    rw [if_neg h]
    exact Ev.now _
abbrev FarmR := Bool × Bool × Bool × Int × Int × Bool
def noFarm : FarmR := (false, false, false, 0, 0, false)
def bit (x m : Int) : Bool := x / m % 2 == 1
def farmGet (t : ByteArray) : FarmR :=
  if (t.size : Int) = 4 then
    if farmS (bit (bt t 2) 32) (bit (bt t 2) 16) (bit (bt t 2) 8) (bt t 2 / 2 % 4) (bt t 3) = t then (bit (bt t 2) 32, bit (bt t 2) 16, bit (bt t 2) 8, bt t 2 / 2 % 4, bt t 3, true) else noFarm
  else noFarm
theorem farmGet_yes {t : ByteArray} (h4 : (t.size : Int) = 4) (h : farmS (bit (bt t 2) 32) (bit (bt t 2) 16) (bit (bt t 2) 8) (bt t 2 / 2 % 4) (bt t 3) = t) : farmGet t = (bit (bt t 2) 32, bit (bt t 2) 16, bit (bt t 2) 8, bt t 2 / 2 % 4, bt t 3, true) := by unfold farmGet; rw [if_pos h4, if_pos h]
theorem farmGet_no {t : ByteArray} (h4 : (t.size : Int) = 4) (h : ¬ farmS (bit (bt t 2) 32) (bit (bt t 2) 16) (bit (bt t 2) 8) (bt t 2 / 2 % 4) (bt t 3) = t) : farmGet t = noFarm := by unfold farmGet; rw [if_pos h4, if_neg h]
theorem farmGet_len {t : ByteArray} (h4 : ¬ (t.size : Int) = 4) : farmGet t = noFarm := by unfold farmGet; rw [if_neg h4]
theorem farmGet_size {t : ByteArray} (h : (farmGet t).2.2.2.2.2 = true) : t.size = 4 := by
  by_cases h4 : (t.size : Int) = 4
  · omega
  · rw [farmGet_len h4] at h
    simp [noFarm] at h
theorem spec_bit (x : Int) (m : Int) (hx : Byte x) (hm : m = 32 ∨ m = 16 ∨ m = 8) : (Int.tmod (wrap64 (Int.tdiv (wrap64 x) m)) 2 == 1) = bit x m := by
  unfold Byte at hx
  unfold bit
  rw [wrap64_id (x := x) (by omega) (by omega)]
  rcases hm with rfl | rfl | rfl <;> (rw [Int.tdiv_eq_ediv_of_nonneg (by omega), wrap64_id (by omega) (by omega), Int.tmod_eq_emod_of_nonneg (by omega)])
theorem impl_bit (x : Int) (m : Int) (hx : Byte x) (hm : m = 32 ∨ m = 16 ∨ m = 8) : (Go.bits .and .i64 (wrap64 x) m != 0) = bit x m := by
  unfold Byte at hx
  rw [wrap64_id (x := x) (by omega) (by omega)]
  unfold bit
  have key : ∀ x : Fin 256, (Go.bits .and .i64 (x.val : Int) 32 != 0) = ((x.val : Int) / 32 % 2 == 1) ∧ (Go.bits .and .i64 (x.val : Int) 16 != 0) = ((x.val : Int) / 16 % 2 == 1) ∧ (Go.bits .and .i64 (x.val : Int) 8 != 0) = ((x.val : Int) / 8 % 2 == 1) := by decide +kernel
  have := key ⟨x.toNat, by omega⟩
  simp only [show ((x.toNat : Nat) : Int) = x by omega] at this
  rcases hm with rfl | rfl | rfl
  · exact this.1
  · exact this.2.1
  · exact this.2.2
theorem two_four (x : Int) (hx : Byte x) : Int.tmod (wrap64 (Int.tdiv (wrap64 x) 2)) 4 = x / 2 % 4 := by
  unfold Byte at hx
  rw [wrap64_id (x := x) (by omega) (by omega), Int.tdiv_eq_ediv_of_nonneg (by omega), wrap64_id (by omega) (by omega), Int.tmod_eq_emod_of_nonneg (by omega)]
theorem wrap_byte {x : Int} (hx : Byte x) : wrap64 x = x := by unfold Byte at hx; exact wrap64_id (by omega) (by omega)
theorem specGet_ev (t : ByteArray) : Ev (fun k => spec_FarmGet.f k t) (farmGet t) := by
  unfold spec_FarmGet.f
  by_cases h4 : (t.size : Int) = 4
  · have b2 := bt_byte t 2
    have b3 := bt_byte t 3
    refine Ev.iteT h4 (Ev.iteT (by omega) (Ev.iteT (by omega) ?_))
    rw [spec_bit _ 32 b2 (by simp), spec_bit _ 16 b2 (by simp), spec_bit _ 8 b2 (by simp), two_four _ b2, wrap_byte b3]
    refine Ev.bind (specPut_ev _ _ _ _ _) ?_
    by_cases h : farmS (bit (bt t 2) 32) (bit (bt t 2) 16) (bit (bt t 2) 8) (bt t 2 / 2 % 4) (bt t 3) = t
    · rw [farmGet_yes h4 h]
      exact Ev.iteT (str_eq.2 h) (Ev.now _)
    · rw [farmGet_no h4 h]
      exact Ev.iteF (fun e => h (str_eq.1 e)) (Ev.now _)
  · rw [farmGet_len h4]
    exact Ev.iteF h4 (Ev.now _)
theorem implGet_ev (t : ByteArray) : Ev (fun k => impl_FarmGet.f k t) (farmGet t) := by
  unfold impl_FarmGet.f
  by_cases h4 : (t.size : Int) = 4
  · have b2 := bt_byte t 2
    have b3 := bt_byte t 3
    refine Ev.iteT h4 (Ev.iteT (by omega) (Ev.iteT (by omega) ?_))
    rw [impl_bit _ 32 b2 (by simp), impl_bit _ 16 b2 (by simp), impl_bit _ 8 b2 (by simp), two_four _ b2, wrap_byte b3]
    refine Ev.bind (implPut_ev _ _ _ _ _) ?_
    by_cases h : farmS (bit (bt t 2) 32) (bit (bt t 2) 16) (bit (bt t 2) 8) (bt t 2 / 2 % 4) (bt t 3) = t
    · rw [farmGet_yes h4 h]
      exact Ev.iteT (str_eq.2 h) (Ev.now _)
    · rw [farmGet_no h4 h]
      exact Ev.iteF (fun e => h (str_eq.1 e)) (Ev.now _)
  · rw [farmGet_len h4]
    exact Ev.iteF h4 (Ev.now _)
end Go.Proofs.YtbldbjfmibhffaaDoor.Farm
