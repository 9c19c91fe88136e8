/- Texts and numbers in bytes, in plain Lean. No conditions. -/
import Derived.Test.YtbldbjfmibhffaaDoorEv
namespace Go.Proofs.YtbldbjfmibhffaaDoor.Num
open Go.RowKit Go.Proofs.YtbldbjfmibhffaaDoor.E Go.Proofs.YtbldbjfmibhffaaDoorW.PrintWords
set_option linter.unusedSimpArgs false
set_option linter.unusedVariables false

/-! ### texts -/
theorem str_inj {a b : ByteArray} (h : a.toList = b.toList) : a = b := by
  rw [ByteArray.toList_eq, ByteArray.toList_eq] at h
  exact ByteArray.ext (Array.toList_inj.1 h)
theorem str_eq {a b : ByteArray} : a.toList = b.toList ↔ a = b := ⟨str_inj, fun h => by rw [h]⟩
theorem strOfNums_append (a b : List Int) : strOfNums (a ++ b) = strOfNums a ++ strOfNums b := by
  apply ByteArray.ext
  rw [ByteArray.data_append]
  simp [strOfNums]
theorem strOfNums_nil : strOfNums [] = (⟨#[]⟩ : ByteArray) := rfl
theorem empty_append (s : ByteArray) : (⟨#[]⟩ : ByteArray) ++ s = s := by
  apply ByteArray.ext
  rw [ByteArray.data_append]
  simp
theorem append_empty (s : ByteArray) : s ++ (⟨#[]⟩ : ByteArray) = s := by
  apply ByteArray.ext
  rw [ByteArray.data_append]
  simp
theorem bytesOf_append (a b : ByteArray) : bytesOf (a ++ b) = bytesOf a ++ bytesOf b := by
  unfold bytesOf
  rw [ByteArray.data_append]
  simp
def Byte (x : Int) : Prop := 0 ≤ x ∧ x ≤ 255
theorem bytesOf_byte (s : ByteArray) : ∀ x ∈ bytesOf s, Byte x := by
  intro x hx
  simp only [bytesOf, List.mem_map] at hx
  obtain ⟨b, _, rfl⟩ := hx
  have := b.toNat_lt
  unfold Byte
  omega
theorem bytesOf_strOf {l : List Int} (h : ∀ x ∈ l, Byte x) : bytesOf (strOfNums l) = l := by
  unfold bytesOf
  rw [strOfNums_data, List.map_map]
  conv => rhs; rw [← List.map_id l]
  apply List.map_congr_left
  intro x hx
  have := h x hx
  unfold Byte at this
  simp only [Function.comp, id]
  rw [UInt8.toNat_ofNat']
  omega
theorem strOf_bytesOf (s : ByteArray) : strOfNums (bytesOf s) = s := by
  apply ByteArray.ext
  unfold strOfNums bytesOf
  apply Array.toList_inj.1
  rw [List.map_map]
  simp only [List.toList_toArray]
  conv => rhs; rw [← List.map_id s.data.toList]
  apply List.map_congr_left
  intro x _
  simp
theorem bytes_inj {a b : ByteArray} (h : bytesOf a = bytesOf b) : a = b := by rw [← strOf_bytesOf a, h, strOf_bytesOf]
theorem bt_nat {s : ByteArray} {i : Int} (h0 : 0 ≤ i) (h : i < s.size) : bt s i = (bytesOf s).getD i.toNat 0 := by
  unfold bt bytesOf
  have h' : i.toNat < s.size := by omega
  rw [dif_pos h']
  have h2 : i.toNat < s.data.toList.length := by simpa using h'
  simp [List.getD_eq_getElem?_getD, List.getElem?_eq_getElem h2]
  rfl
theorem bt_byte (s : ByteArray) (i : Int) : Byte (bt s i) := by
  unfold bt
  split
  · have := (s[i.toNat]).toNat_lt
    unfold Byte
    omega
  · exact ⟨by omega, by omega⟩

/-! ### a number's bytes, the highest first -/
def nb (n : Nat) : Nat → List Int
  | 0 => []
  | s + 1 => nb (n / 256) s ++ [((n % 256 : Nat) : Int)]
def bs (n s : Nat) : ByteArray := strOfNums (nb n s)
theorem nb_length (n s : Nat) : (nb n s).length = s := by
  induction s generalizing n with
  | zero => rfl
  | succ s ih => simp [nb, ih]
theorem nb_byte (n s : Nat) : ∀ x ∈ nb n s, Byte x := by
  induction s generalizing n with
  | zero => intro x hx; simp [nb] at hx
  | succ s ih =>
    intro x hx
    simp only [nb, List.mem_append, List.mem_singleton] at hx
    rcases hx with hx | rfl
    · exact ih _ x hx
    · unfold Byte; omega
theorem bs_size (n s : Nat) : (bs n s).size = s := by unfold bs; rw [strOfNums_size, nb_length]
theorem bytesOf_bs (n s : Nat) : bytesOf (bs n s) = nb n s := bytesOf_strOf (nb_byte n s)
def gv (l : List Int) : Int := l.foldl (fun x b => x * 256 + b) 0
theorem gv_snoc (l : List Int) (b : Int) : gv (l ++ [b]) = gv l * 256 + b := by unfold gv; rw [List.foldl_append]; rfl
theorem gv_nb (n s : Nat) : gv (nb n s) = ((n % 256 ^ s : Nat) : Int) := by
  induction s generalizing n with
  | zero => simp [nb, gv, Nat.mod_one]
  | succ s ih =>
    rw [nb, gv_snoc, ih, Nat.pow_succ, Nat.mul_comm (256 ^ s) 256, Nat.mod_mul]
    omega
theorem list_snoc {α : Type} {l : List α} {n : Nat} (h : l.length = n + 1) : ∃ m x, l = m ++ [x] ∧ m.length = n := by
  refine ⟨l.dropLast, l.getLast (by intro e; simp [e] at h), (List.dropLast_concat_getLast _).symm, by simp [h]⟩
theorem gv_range : ∀ (n : Nat) (l : List Int), l.length = n → (∀ x ∈ l, Byte x) → 0 ≤ gv l ∧ gv l < ((256 ^ n : Nat) : Int) := by
  intro n
  induction n with
  | zero =>
    intro l hl h
    obtain rfl := List.eq_nil_of_length_eq_zero hl
    simp [gv]
  | succ n ih =>
    intro l hl h
    obtain ⟨m, x, rfl, hm⟩ := list_snoc hl
    obtain ⟨a, b⟩ := ih m hm (fun y hy => h y (by simp [hy]))
    have hx := h x (by simp)
    unfold Byte at hx
    rw [gv_snoc, Nat.pow_succ]
    constructor
    · omega
    · have : ((256 ^ n * 256 : Nat) : Int) = ((256 ^ n : Nat) : Int) * 256 := by rw [Int.natCast_mul]; rfl
      omega
theorem nb_gv : ∀ (n : Nat) (l : List Int), l.length = n → (∀ x ∈ l, Byte x) → nb (gv l).toNat n = l := by
  intro n
  induction n with
  | zero =>
    intro l hl h
    obtain rfl := List.eq_nil_of_length_eq_zero hl
    rfl
  | succ n ih =>
    intro l hl h
    obtain ⟨m, x, rfl, hm⟩ := list_snoc hl
    have hb : ∀ y ∈ m, Byte y := fun y hy => h y (by simp [hy])
    obtain ⟨a, b⟩ := gv_range n m hm hb
    have hx := h x (by simp)
    unfold Byte at hx
    rw [gv_snoc, nb]
    have e1 : (gv m * 256 + x).toNat / 256 = (gv m).toNat := by omega
    have e2 : (((gv m * 256 + x).toNat % 256 : Nat) : Int) = x := by omega
    rw [e1, e2, ih m hm hb]

end Go.Proofs.YtbldbjfmibhffaaDoor.Num
