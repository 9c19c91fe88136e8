/- A text of which one byte is turned keeps its check no more. No conditions. -/
import Derived.Test.YtpehnincnpnggaaDoorPx0
import Derived.Test.YtpehnincnpnggaaDoorCrcEv
namespace Go.Proofs.YtpehnincnpnggaaDoor.Turned
open Go.RowKit Go.Proofs.YtpehnincnpnggaaDoor.P Go.Proofs.YtpehnincnpnggaaDoor.E Go.Proofs.YtpehnincnpnggaaDoor.Num Go.Proofs.YtpehnincnpnggaaDoor.CrcEv Go.Proofs.YtpehnincnpnggaaDoorW.PrintWords
set_option linter.unusedSimpArgs false
set_option linter.unusedVariables false
theorem set_of_map {L L' : List UInt8} {k : Nat} {v : Int} (hk : k < L.length) (h : (L'.map fun b => (b.toNat : Int)) = (L.map fun b => (b.toNat : Int)).set k v) :
    ∃ d : UInt8, (d.toNat : Int) = v ∧ L' = L.take k ++ d :: L.drop (k + 1) := by
  have hl : L'.length = L.length := by simpa using congrArg List.length h
  have hk' : k < L'.length := by omega
  refine ⟨L'[k], ?_, ?_⟩
  · have := congrArg (fun l => l[k]?) h
    simpa [hk, hk'] using this
  · have e0 : L.set k L'[k] = L.take k ++ L'[k] :: L.drop (k + 1) := by rw [List.set_eq_take_append_cons_drop, if_pos hk]
    rw [← e0]
    apply List.ext_getElem (by simpa using hl)
    intro i h1 h2
    rw [List.getElem_set]
    by_cases e : k = i
    · subst e; rw [if_pos rfl]
    · rw [if_neg e]
      have := congrArg (fun l => l[i]?) h
      have h3 : i < L.length := by omega
      simp [e, h1, h3] at this
      exact UInt8.toNat_inj.1 (by omega)
theorem nb2_inj {c d : Nat} (hc : c < 65536) (hd : d < 65536) (h : nb c 2 = nb d 2) : c = d := by
  have h1 := gv_nb c 2
  have h2 := gv_nb d 2
  rw [h, h2] at h1
  have e : (256 : Nat) ^ 2 = 65536 := by decide
  rw [e, Nat.mod_eq_of_lt hc, Nat.mod_eq_of_lt hd] at h1
  omega
theorem turned_check {S S' T T' : ByteArray} {k : Nat} {v : Int} (e : S = T ++ bs (crcN T) 2) (e' : S' = T' ++ bs (crcN T') 2) (hs : T.size = T'.size)
    (hset : bytesOf S' = (bytesOf S).set k v) (hk : k < S.size) (hv : (bytesOf S).getD k 0 ≠ v) : False := by
  subst e
  subst e'
  rw [bytesOf_append, bytesOf_append, bytesOf_bs, bytesOf_bs] at hset
  rw [bytesOf_append, bytesOf_bs] at hv
  have hl : (bytesOf T).length = (bytesOf T').length := by rw [bytesOf_length, bytesOf_length, hs]
  by_cases h : k < (bytesOf T).length
  · rw [List.set_append_left _ _ h] at hset
    obtain ⟨h1, h2⟩ := List.append_inj hset (by rw [List.length_set, hl])
    have hc := nb2_inj (crcN_lt T') (crcN_lt T) h2
    have hT : k < T.data.toList.length := by rw [data_length]; rw [bytesOf_length] at h; exact h
    obtain ⟨d, hd, hL⟩ := set_of_map hT h1
    have hL0 : T.data.toList = T.data.toList.take k ++ T.data.toList[k] :: T.data.toList.drop (k + 1) := by
      rw [← List.drop_eq_getElem_cons hT, List.take_append_drop]
    have hcc : Crc.crc T'.data.toList = Crc.crc T.data.toList := hc
    rw [hL] at hcc
    have h3 : Crc.crc T.data.toList = Crc.crc (T.data.toList.take k ++ T.data.toList[k] :: T.data.toList.drop (k + 1)) := congrArg _ hL0
    rw [h3] at hcc
    have h4 := Crc.crc_turned _ _ _ _ hcc
    apply hv
    rw [List.getD_eq_getElem?_getD, List.getElem?_append_left h]
    show ((T.data.toList.map fun b => (b.toNat : Int))[k]?).getD 0 = v
    rw [List.getElem?_map, List.getElem?_eq_getElem hT, ← h4]
    exact hd
  · rw [List.set_append_right _ _ (by omega)] at hset
    obtain ⟨h1, h2⟩ := List.append_inj hset hl.symm
    have hT := bytes_inj h1
    rw [hT] at h2
    apply hv
    have hk2 : k - (bytesOf T).length < (nb (crcN T) 2).length := by
      rw [nb_length]
      rw [ByteArray.size_append, bs_size] at hk
      rw [bytesOf_length] at h ⊢
      omega
    rw [List.getD_eq_getElem?_getD, List.getElem?_append_right (by omega)]
    have h3 := congrArg (fun l => (l[k - (bytesOf T).length]?).getD 0) h2
    simp only [List.getElem?_set_self hk2, Option.getD_some] at h3
    rw [← h3]
theorem xor8 (a b : BitVec 8) : Go.bits .xor .u8 (a.toNat : Int) (b.toNat : Int) = ((a ^^^ b).toNat : Int) := by
  show IntKind.u8.wrap ((BitVec.ofInt 8 (a.toNat : Int) ^^^ BitVec.ofInt 8 (b.toNat : Int)).toNat : Int) = _
  have h1 : BitVec.ofInt 8 (a.toNat : Int) = a := by rw [BitVec.ofInt_natCast, BitVec.ofNat_toNat, BitVec.setWidth_eq]
  have h2 : BitVec.ofInt 8 (b.toNat : Int) = b := by rw [BitVec.ofInt_natCast, BitVec.ofNat_toNat, BitVec.setWidth_eq]
  rw [h1, h2, BitVec.toNat_xor]
  have h3 : a.toNat ^^^ b.toNat < 2 ^ 8 := Nat.xor_lt_two_pow a.isLt b.isLt
  simp only [IntKind.wrap, IntKind.bits, IntKind.signed]
  simp
  omega
/-- A byte turned is another byte. -/
theorem xor_byte {b x : Int} (hb : Byte b) (h1 : 1 ≤ x) (h2 : x ≤ 255) : Byte (Go.bits .xor .u8 b x) ∧ b ≠ Go.bits .xor .u8 b x := by
  obtain ⟨n, rfl⟩ := Int.eq_ofNat_of_zero_le hb.1
  obtain ⟨m, rfl⟩ := Int.eq_ofNat_of_zero_le (show 0 ≤ x by omega)
  have hn : n < 256 := by have := hb.2; omega
  have hm : m < 256 := by omega
  have e := xor8 (BitVec.ofNat 8 n) (BitVec.ofNat 8 m)
  have en : (BitVec.ofNat 8 n).toNat = n := by rw [BitVec.toNat_ofNat]; exact Nat.mod_eq_of_lt hn
  have em : (BitVec.ofNat 8 m).toNat = m := by rw [BitVec.toNat_ofNat]; exact Nat.mod_eq_of_lt hm
  rw [en, em] at e
  rw [e]
  have hlt := (BitVec.ofNat 8 n ^^^ BitVec.ofNat 8 m).isLt
  refine ⟨⟨by omega, by omega⟩, fun h => ?_⟩
  have h3 : (BitVec.ofNat 8 n) = BitVec.ofNat 8 n ^^^ BitVec.ofNat 8 m := by
    apply BitVec.eq_of_toNat_eq
    rw [en]
    omega
  have h4 : BitVec.ofNat 8 m = 0 := by
    have := congrArg (fun y => BitVec.ofNat 8 n ^^^ y) h3
    simpa [← BitVec.xor_assoc] using this.symm
  have h5 := congrArg BitVec.toNat h4
  rw [em] at h5
  simp at h5
  omega
end Go.Proofs.YtpehnincnpnggaaDoor.Turned
