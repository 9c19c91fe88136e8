/- The sum of a text: the program's table and the reference's bits come to one plain function. No conditions. -/
import Derived.Test.YtpehnincnpnggaaDoorPx4
import Derived.Test.YtpehnincnpnggaaDoorPx5
import Derived.Test.YtpehnincnpnggaaDoorCrc
import Derived.Test.YtpehnincnpnggaaDoorNum
namespace Go.Proofs.YtpehnincnpnggaaDoor.CrcEv
open Go.RowKit Go.Proofs.YtpehnincnpnggaaDoor.P Go.Proofs.YtpehnincnpnggaaDoor.E Go.Proofs.YtpehnincnpnggaaDoor.Num Go.Proofs.YtpehnincnpnggaaDoorW.PrintWords
set_option linter.unusedSimpArgs false
set_option linter.unusedVariables false
open Crc in
/-- The sum of a text. -/
def crcN (s : ByteArray) : Nat := Crc.crc s.data.toList
theorem crcN_lt (s : ByteArray) : crcN s < 65536 := Crc.crc_lt _
/-! ### the program's -/
theorem sumT_at (j : Nat) (hj : j < 16) : sumT.getD j 0 = ((Crc.sh4 (BitVec.ofNat 16 j <<< 12)).toNat : Int) := by
  have : ∀ j : Fin 16, sumT.getD j.val 0 = ((Crc.sh4 (BitVec.ofNat 16 j.val <<< 12)).toNat : Int) := by decide +kernel
  exact this ⟨j, hj⟩
theorem ofInt16 (v : BitVec 16) : BitVec.ofInt 16 (v.toNat : Int) = v := by
  rw [BitVec.ofInt_natCast]
  simp
theorem half_eq (v : BitVec 16) (n : Nat) (hn : n < 16) : halfI (v.toNat : Int) (n : Int) = ((Crc.half v (BitVec.ofNat 16 n)).toNat : Int) := by
  have hv := v.isLt
  have hx : halfX (v.toNat : Int) (n : Int) = (((v >>> 12) ^^^ BitVec.ofNat 16 n).toNat) := by
    unfold halfX
    have key : ∀ p q : Fin 16, (Go.bits .xor .u8 (p.val : Int) (q.val : Int)).toNat = (BitVec.ofNat 16 p.val ^^^ BitVec.ofNat 16 q.val).toNat := by decide +kernel
    have := key ⟨v.toNat / 4096, by omega⟩ ⟨n, hn⟩
    simp only at this
    have e1 : ((v.toNat : Int) / 4096) = ((v.toNat / 4096 : Nat) : Int) := by omega
    rw [e1, this]
    congr 2
    apply BitVec.eq_of_toNat_eq
    rw [BitVec.toNat_ofNat, BitVec.toNat_ushiftRight, Nat.shiftRight_eq_div_pow]
    omega
  have hlt : ((v >>> 12) ^^^ BitVec.ofNat 16 n).toNat < 16 := by
    have h1 : (v >>> 12).toNat < 2 ^ 4 := by rw [BitVec.toNat_ushiftRight, Nat.shiftRight_eq_div_pow]; omega
    have h2 : (BitVec.ofNat 16 n).toNat < 2 ^ 4 := by rw [BitVec.toNat_ofNat]; omega
    rw [BitVec.toNat_xor]
    exact Nat.xor_lt_two_pow h1 h2
  unfold halfI
  rw [xor16, hx, sumT_at _ hlt]
  have e2 : BitVec.ofInt 16 (IntKind.u16.wrap ((v.toNat : Int) * 16)) = v <<< 4 := by
    apply BitVec.eq_of_toNat_eq
    rw [BitVec.toNat_ofInt, BitVec.toNat_shiftLeft, Nat.shiftLeft_eq]
    simp only [IntKind.wrap, IntKind.bits, IntKind.signed]
    simp
    omega
  rw [e2, ofInt16]
  unfold Crc.half
  rw [BitVec.ofNat_toNat, BitVec.setWidth_eq]
theorem byte_eq (v : BitVec 16) (c : UInt8) : byteI (v.toNat : Int) c = ((Crc.byte v (Crc.ofByte c)).toNat : Int) := by
  have hc := c.toNat_lt
  unfold byteI
  have e1 : ((c.toNat : Int) / 16) = ((c.toNat / 16 : Nat) : Int) := by omega
  have e2 : ((c.toNat : Int) % 16) = ((c.toNat % 16 : Nat) : Int) := by omega
  rw [e1, e2, half_eq v _ (by omega), half_eq _ _ (by omega), Crc.byte_halves]
theorem over_eq (l : List UInt8) : ∀ v : BitVec 16, overI (v.toNat : Int) l = ((Crc.over v l).toNat : Int) := by
  induction l with
  | nil => intro v; rfl
  | cons c l ih =>
    intro v
    show overI (byteI (v.toNat : Int) c) l = _
    rw [byte_eq, ih]
    rfl
theorem implCrc_at (s : ByteArray) (h : s.size ≤ 9223372036854775807) : impl_Crc16.f s = some (crcN s : Int) := by
  have hl := crcN_lt s
  unfold impl_Crc16.f impl_sum_over.f
  rw [if_pos ⟨by decide, by decide, h⟩]
  simp only [Option.bind_some]
  have e := over_eq s.data.toList 0xffff#16
  have e2 : ((0xffff#16 : BitVec 16).toNat : Int) = 65535 := by decide
  rw [e2] at e
  rw [e]
  show some (wrap64 ((crcN s : Nat) : Int)) = _
  rw [wrap64_id (by omega) (by omega)]
/-! ### the reference's -/
theorem sh_at (v : BitVec 16) : (if (v.toNat * 2 : Nat) ≥ 65536 then ((BitVec.ofNat 16 (v.toNat * 2 - 65536)) ^^^ 0x1021#16) else BitVec.ofNat 16 (v.toNat * 2)) = Crc.sh v := by
  have hv := v.isLt
  unfold Crc.sh
  have hm : v.msb = decide (v.toNat * 2 ≥ 65536) := by
    rw [BitVec.msb_eq_decide]
    simp
    omega
  have hs : v <<< 1 = BitVec.ofNat 16 (v.toNat * 2) := by
    apply BitVec.eq_of_toNat_eq
    rw [BitVec.toNat_shiftLeft, Nat.shiftLeft_eq, BitVec.toNat_ofNat]
  by_cases h : v.toNat * 2 ≥ 65536
  · have e : BitVec.ofNat 16 (v.toNat * 2 - 65536) = BitVec.ofNat 16 (v.toNat * 2) := by
      apply BitVec.eq_of_toNat_eq
      rw [BitVec.toNat_ofNat, BitVec.toNat_ofNat]
      omega
    rw [if_pos h, hm, decide_eq_true h, if_pos rfl, hs, e]
  · rw [if_neg h, hm, decide_eq_false h, hs]
    rfl
theorem xor64 (a b : BitVec 16) : Go.bits .xor .i64 (a.toNat : Int) (b.toNat : Int) = ((a ^^^ b).toNat : Int) := by
  show IntKind.i64.wrap ((BitVec.ofInt 64 (a.toNat : Int) ^^^ BitVec.ofInt 64 (b.toNat : Int)).toNat : Int) = _
  have ha := a.isLt
  have hb := b.isLt
  have h1 : (BitVec.ofInt 64 (a.toNat : Int)).toNat = a.toNat := by
    rw [BitVec.ofInt_natCast, BitVec.toNat_ofNat]; exact Nat.mod_eq_of_lt (by omega)
  have h2 : (BitVec.ofInt 64 (b.toNat : Int)).toNat = b.toNat := by
    rw [BitVec.ofInt_natCast, BitVec.toNat_ofNat]; exact Nat.mod_eq_of_lt (by omega)
  rw [BitVec.toNat_xor, h1, h2, BitVec.toNat_xor]
  have h3 : a.toNat ^^^ b.toNat < 2 ^ 16 := Nat.xor_lt_two_pow ha hb
  simp only [IntKind.wrap, IntKind.bits, IntKind.signed]
  simp
  omega
theorem bit_step (k : Nat) (s : ByteArray) (v : BitVec 16) (i j : Nat) (hj : j < 8) : spec_Crc16.l1 (k + 1) s (v.toNat : Int) (i : Int) (j : Int) = spec_Crc16.l1 k s ((Crc.sh v).toNat : Int) (i : Int) ((j + 1 : Nat) : Int) := by
  have hv := v.isLt
  rw [spec_Crc16.l1, if_pos (by omega), wrap64_id (x := (v.toNat : Int) * 2) (by omega) (by omega), wrap_succ (by omega), ← sh_at]
  by_cases h : v.toNat * 2 ≥ 65536
  · have e1 : (v.toNat : Int) * 2 - 65536 = ((BitVec.ofNat 16 (v.toNat * 2 - 65536)).toNat : Int) := by
      rw [BitVec.toNat_ofNat]
      omega
    have e2 : (4129 : Int) = ((0x1021#16 : BitVec 16).toNat : Int) := by decide
    rw [if_pos (by omega), if_pos h, wrap64_id (by omega) (by omega), e1, e2, xor64]
  · have e1 : (v.toNat : Int) * 2 = ((BitVec.ofNat 16 (v.toNat * 2)).toNat : Int) := by
      rw [BitVec.toNat_ofNat]
      omega
    rw [if_neg (by omega), if_neg h, e1]
def shk : Nat → BitVec 16 → BitVec 16
  | 0, v => v
  | n + 1, v => shk n (Crc.sh v)
theorem bits_go : ∀ (d : Nat) (k : Nat) (s : ByteArray) (v : BitVec 16) (i j : Nat), j + d = 8 → spec_Crc16.l1 (k + d) s (v.toNat : Int) (i : Int) (j : Int) = spec_Crc16.l1 k s ((shk d v).toNat : Int) (i : Int) 8 := by
  intro d
  induction d with
  | zero =>
    intro k s v i j h
    obtain rfl : j = 8 := by omega
    rfl
  | succ d ih =>
    intro k s v i j h
    rw [show k + (d + 1) = (k + d) + 1 by omega, bit_step (k + d) s v i j (by omega), ih k s (Crc.sh v) i (j + 1) (by omega)]
    rfl
theorem byte_go (k : Nat) (s : ByteArray) (v : BitVec 16) (i : Nat) (hi : i < s.size) (hs : s.size ≤ 9223372036854775806) : spec_Crc16.l0 (k + 10) s (v.toNat : Int) (i : Int) = spec_Crc16.l0 k s ((Crc.byte v (Crc.ofByte s[i])).toNat : Int) ((i + 1 : Nat) : Int) := by
  have hb := s[i].toNat_lt
  rw [show k + 10 = (k + 9) + 1 by omega, spec_Crc16.l0, if_pos (by omega), if_pos (by omega)]
  have e0 : bt s (i : Int) = (s[i].toNat : Int) := by
    unfold bt
    rw [dif_pos (by simpa using hi)]
    simp
  have e1 : wrap64 (wrap64 (bt s (i : Int)) * 256) = ((Crc.ofByte s[i] <<< 8).toNat : Int) := by
    rw [e0, wrap64_id (x := (s[i].toNat : Int)) (by omega) (by omega), wrap64_id (by omega) (by omega)]
    unfold Crc.ofByte
    rw [BitVec.toNat_shiftLeft, Nat.shiftLeft_eq, BitVec.toNat_ofNat]
    omega
  rw [e1, xor64, show k + 9 = (k + 1) + 8 by omega]
  have := bits_go 8 (k + 1) s (v ^^^ (Crc.ofByte s[i] <<< 8)) i 0 rfl
  rw [show ((0 : Nat) : Int) = 0 from rfl] at this
  rw [this, spec_Crc16.l1, if_neg (by omega), wrap_succ (by omega)]
  rfl
theorem crc_go : ∀ (d : Nat) (s : ByteArray) (v : BitVec 16) (i : Nat), i + d = s.size → s.size ≤ 9223372036854775806 → ∀ k, d * 10 < k → spec_Crc16.l0 k s (v.toNat : Int) (i : Int) = some ((Crc.over v (s.data.toList.drop i)).toNat : Int) := by
  intro d
  induction d with
  | zero =>
    intro s v i hi hs k hk
    obtain ⟨k, rfl⟩ : ∃ m, k = m + 1 := ⟨k - 1, by omega⟩
    rw [spec_Crc16.l0, if_neg (by omega), List.drop_of_length_le (by simp; omega)]
    rfl
  | succ d ih =>
    intro s v i hi hs k hk
    obtain ⟨k, rfl⟩ : ∃ m, k = m + 10 := ⟨k - 10, by omega⟩
    have hlt : i < s.data.toList.length := by simp; omega
    rw [byte_go k s v i (by omega) hs, ih s _ (i + 1) (by omega) hs k (by omega), List.drop_eq_getElem_cons hlt]
    rfl
theorem specCrc_at (s : ByteArray) (h : s.size ≤ 100000) : Ev (fun k => spec_Crc16.f k s) (crcN s : Int) := by
  refine ⟨s.size * 10 + 1, fun k hk => ?_⟩
  show spec_Crc16.f k s = _
  unfold spec_Crc16.f
  have := crc_go s.size s 0xffff#16 0 (by omega) (by omega) k (by omega)
  rw [show ((0xffff#16 : BitVec 16).toNat : Int) = 65535 by decide, List.drop_zero] at this
  exact this
end Go.Proofs.YtpehnincnpnggaaDoor.CrcEv
