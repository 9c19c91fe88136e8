/- Numbers read out of bytes, in plain Lean: the program's and the reference's are one. No conditions. -/
import Derived.Test.YtbldbjfmibhffaaDoorPx3
import Derived.Test.YtbldbjfmibhffaaDoorPx7
import Derived.Test.YtbldbjfmibhffaaDoorNum
namespace Go.Proofs.YtbldbjfmibhffaaDoor.Get
open Go.RowKit Go.Proofs.YtbldbjfmibhffaaDoor.P Go.Proofs.YtbldbjfmibhffaaDoor.E Go.Proofs.YtbldbjfmibhffaaDoor.Num Go.Proofs.YtbldbjfmibhffaaDoorW.PrintWords
set_option linter.unusedSimpArgs false
set_option linter.unusedVariables false
/-- The number in so many bytes at a place. -/
def num (t : ByteArray) (at_ n : Nat) : Int := gv (((bytesOf t).drop at_).take n)
theorem num_zero (t : ByteArray) (a : Nat) : num t a 0 = 0 := by simp [num, gv]
theorem num_succ (t : ByteArray) (a n : Nat) (h : a + n < t.size) : num t a (n + 1) = num t a n * 256 + bt t ((a + n : Nat) : Int) := by
  have hl : n < ((bytesOf t).drop a).length := by rw [List.length_drop, bytesOf_length]; omega
  unfold num
  rw [List.take_succ_eq_append_getElem hl, gv_snoc]
  congr 1
  rw [bt_nat (by omega) (by omega)]
  simp [List.getD_eq_getElem?_getD]
  rw [List.getElem?_eq_getElem (by rw [bytesOf_length]; omega)]
  rfl
theorem num_range (t : ByteArray) (a n : Nat) (h : a + n ≤ t.size) : 0 ≤ num t a n ∧ num t a n < ((256 ^ n : Nat) : Int) := by
  refine gv_range n _ ?_ (fun x hx => bytesOf_byte t x (List.mem_of_mem_drop (List.mem_of_mem_take hx)))
  rw [List.length_take, List.length_drop, bytesOf_length]
  omega
theorem pow4 {n : Nat} (h : n ≤ 4) : 256 ^ n ≤ 4294967296 := Nat.le_trans (Nat.pow_le_pow_right (by decide) h) (by decide)
theorem l1Get_loop : ∀ (d : Nat) (t : ByteArray) (a n i : Nat), i + d = n → n ≤ 4 → a + n ≤ t.size → t.size ≤ 4611686018427387904 → ∀ k, d < k → spec_l1Get.l0 k t (a : Int) (n : Int) (num t a i) (i : Int) = some (num t a n) := by
  intro d
  induction d with
  | zero =>
    intro t a n i hi hn ha hs k hk
    obtain ⟨k, rfl⟩ : ∃ m, k = m + 1 := ⟨k - 1, by omega⟩
    obtain rfl : i = n := by omega
    rw [spec_l1Get.l0, if_neg (by omega)]
  | succ d ih =>
    intro t a n i hi hn ha hs k hk
    obtain ⟨k, rfl⟩ : ∃ m, k = m + 1 := ⟨k - 1, by omega⟩
    obtain ⟨r0, r1⟩ := num_range t a i (by omega)
    have hp := pow4 (show i ≤ 4 by omega)
    have hb := bt_byte t ((a + i : Nat) : Int)
    unfold Byte at hb
    have e : wrap64 ((a : Int) + (i : Int)) = ((a + i : Nat) : Int) := by rw [wrap64_id (by omega) (by omega)]; omega
    rw [spec_l1Get.l0, if_pos (by omega), e, if_pos (by omega), if_pos (by omega), wrap64_id (x := num t a i * 256) (by omega) (by omega), wrap64_id (x := bt t ((a + i : Nat) : Int)) (by omega) (by omega), wrap64_id (by omega) (by omega), ← num_succ t a i (by omega), wrap_succ (by omega)]
    exact ih t a n (i + 1) (by omega) hn ha hs k (by omega)
theorem l1Get_ev (t : ByteArray) (a n : Nat) (hn : n ≤ 4) (ha : a + n ≤ t.size) (hs : t.size ≤ 4611686018427387904) : Ev (fun k => spec_l1Get.f k t a n) (num t a n) := by
  refine ⟨n + 1, fun k hk => ?_⟩
  have := l1Get_loop n t a n 0 (by omega) hn ha hs k (by omega)
  rw [num_zero] at this
  exact this
theorem or_byte (n : Nat) (b : Int) (hn : n < 1099511627776) (hb : Byte b) : Go.bits .or .i64 ((n : Int) * 256) b = (n : Int) * 256 + b := by
  unfold Byte at hb
  obtain ⟨c, rfl⟩ := Int.eq_ofNat_of_zero_le hb.1
  show IntKind.i64.wrap ((BitVec.ofInt 64 ((n : Int) * 256) ||| BitVec.ofInt 64 (c : Int)).toNat : Int) = _
  have h1 : (BitVec.ofInt 64 ((n : Int) * 256)).toNat = n * 256 := by
    rw [show (n : Int) * 256 = ((n * 256 : Nat) : Int) by omega, BitVec.ofInt_natCast, BitVec.toNat_ofNat]; exact Nat.mod_eq_of_lt (by omega)
  have h2 : (BitVec.ofInt 64 (c : Int)).toNat = c := by
    rw [BitVec.ofInt_natCast, BitVec.toNat_ofNat]; exact Nat.mod_eq_of_lt (by omega)
  rw [BitVec.toNat_or, h1, h2]
  have h3 : n * 256 ||| c = n * 256 + c := by
    have := Nat.shiftLeft_add_eq_or_of_lt (show c < 2 ^ 8 by omega) n
    rw [Nat.shiftLeft_eq] at this
    exact this.symm
  rw [h3]
  simp only [IntKind.wrap, IntKind.bits, IntKind.signed]
  simp
  omega
theorem NumGet_loop : ∀ (d : Nat) (t : ByteArray) (a n i : Nat), i + d = n → n ≤ 4 → a + n ≤ t.size → t.size ≤ 4611686018427387904 → ∀ k, d < k → impl_NumGet.l0 k t (a : Int) (num t a i) (n : Int) (i : Int) = some (num t a n, true) := by
  intro d
  induction d with
  | zero =>
    intro t a n i hi hn ha hs k hk
    obtain ⟨k, rfl⟩ : ∃ m, k = m + 1 := ⟨k - 1, by omega⟩
    obtain rfl : i = n := by omega
    rw [impl_NumGet.l0, if_neg (by omega)]
  | succ d ih =>
    intro t a n i hi hn ha hs k hk
    obtain ⟨k, rfl⟩ : ∃ m, k = m + 1 := ⟨k - 1, by omega⟩
    obtain ⟨r0, r1⟩ := num_range t a i (by omega)
    have hp := pow4 (show i ≤ 4 by omega)
    have hb := bt_byte t ((a + i : Nat) : Int)
    have hb2 := hb
    unfold Byte at hb2
    have e : wrap64 ((a : Int) + (i : Int)) = ((a + i : Nat) : Int) := by rw [wrap64_id (by omega) (by omega)]; omega
    have eo : Go.bits .or .i64 (num t a i * 256) (bt t ((a + i : Nat) : Int)) = num t a (i + 1) := by
      rw [num_succ t a i (by omega)]
      have := or_byte (num t a i).toNat (bt t ((a + i : Nat) : Int)) (by omega) hb
      rw [show (((num t a i).toNat : Nat) : Int) = num t a i by omega] at this
      exact this
    rw [impl_NumGet.l0, if_pos (by omega), e, if_pos (by omega), if_pos (by omega), wrap64_id (x := num t a i * 256) (by omega) (by omega), wrap64_id (x := bt t ((a + i : Nat) : Int)) (by omega) (by omega), eo, wrap_succ (by omega)]
    exact ih t a n (i + 1) (by omega) hn ha hs k (by omega)
theorem NumGet_in (t : ByteArray) (a n : Nat) (h1 : 1 ≤ n) (hn : n ≤ 4) (ha : a + n ≤ t.size) (hs : t.size ≤ 4611686018427387904) : Ev (fun k => impl_NumGet.f k t a n) (num t a n, true) := by
  refine ⟨n + 2, fun k hk => ?_⟩
  obtain ⟨k, rfl⟩ : ∃ m, k = m + 1 := ⟨k - 1, by omega⟩
  show impl_NumGet.f (k + 1) t (a : Int) (n : Int) = _
  unfold impl_NumGet.f
  rw [if_neg (by omega), if_neg (by omega), if_neg (by omega), wrap64_id (by omega) (by omega), decide_eq_false (by omega), impl_NumGet.j0, if_neg (by simp)]
  have := NumGet_loop n t a n 0 (by omega) hn ha hs k (by omega)
  rw [num_zero] at this
  exact this
theorem NumGet_out (t : ByteArray) (a : Int) (n : Nat) (h1 : 1 ≤ n) (hn : n ≤ 4) (ha : a < 0 ∨ a + n > t.size) (hs : t.size ≤ 4611686018427387904) : Ev (fun k => impl_NumGet.f k t a n) (0, false) := by
  refine ⟨1, fun k hk => ?_⟩
  obtain ⟨k, rfl⟩ : ∃ m, k = m + 1 := ⟨k - 1, by omega⟩
  show impl_NumGet.f (k + 1) t a (n : Int) = _
  unfold impl_NumGet.f
  rw [if_neg (by omega), if_neg (by omega)]
  by_cases h : a < 0
  · rw [if_pos h, impl_NumGet.j0, if_pos rfl]
  · rw [if_neg h, wrap64_id (by omega) (by omega), decide_eq_true (by omega), impl_NumGet.j0, if_pos rfl]
/-! ### what stands where in a text that is put together -/
theorem bytesOf_extract (s : ByteArray) (a b : Nat) : bytesOf (s.extract a b) = ((bytesOf s).drop a).take (b - a) := by
  unfold bytesOf
  rw [ByteArray.data_extract, Array.toList_extract]
  simp [List.extract_eq_take_drop, List.map_take, List.map_drop]
theorem num_bytes (t : ByteArray) (a n : Nat) {l : List Int} (h : ((bytesOf t).drop a).take n = l) : num t a n = gv l := by unfold num; rw [h]
theorem num_at {s t u : ByteArray} (n : Nat) (m : Nat) (hm : m < 256 ^ n) (h : t = s ++ bs m n ++ u) : num t s.size n = (m : Int) := by
  subst h
  unfold num
  rw [bytesOf_append, bytesOf_append, bytesOf_bs, List.append_assoc, List.drop_append_of_le_length (by rw [bytesOf_length]; exact Nat.le_refl _), List.drop_of_length_le (by rw [bytesOf_length]; exact Nat.le_refl _), List.nil_append, List.take_append_of_le_length (by rw [nb_length]; exact Nat.le_refl _), List.take_of_length_le (by rw [nb_length]; exact Nat.le_refl _), gv_nb, Nat.mod_eq_of_lt hm]
theorem extract_at {s d u t : ByteArray} (h : t = s ++ d ++ u) : t.extract s.size (s.size + d.size) = d := by
  subst h
  apply bytes_inj
  rw [bytesOf_extract, bytesOf_append, bytesOf_append, List.append_assoc, List.drop_append_of_le_length (by rw [bytesOf_length]; exact Nat.le_refl _), List.drop_of_length_le (by rw [bytesOf_length]; exact Nat.le_refl _), List.nil_append, Nat.add_sub_cancel_left, List.take_append_of_le_length (by rw [bytesOf_length]; exact Nat.le_refl _), List.take_of_length_le (by rw [bytesOf_length]; exact Nat.le_refl _)]
end Go.Proofs.YtbldbjfmibhffaaDoor.Get
