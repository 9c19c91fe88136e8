/- A packet that was put comes back; a packet that was read was put so. Plain Lean, no conditions. -/
import Derived.Test.YtpehnincnpnggaaDoorPx0
import Derived.Test.YtpehnincnpnggaaDoorPacketSizeI
namespace Go.Proofs.YtpehnincnpnggaaDoor.Packet
open Go.RowKit Go.Proofs.YtpehnincnpnggaaDoor.P Go.Proofs.YtpehnincnpnggaaDoor.E Go.Proofs.YtpehnincnpnggaaDoor.Num Go.Proofs.YtpehnincnpnggaaDoor.Get Go.Proofs.YtpehnincnpnggaaDoor.In Go.Proofs.YtpehnincnpnggaaDoorW.PrintWords
set_option linter.unusedSimpArgs false
set_option linter.unusedVariables false
theorem packetGet_back (u : Bool) (x c : Int) (d p q t : ByteArray) (hB : packetB x c d = true) (e : t = p ++ packetT u x c d ++ q) : packetGet t (p.size : Int) = (u, x, c, d, ((packetT u x c d).size : Int)) := by
  obtain ⟨hx, hc, hd⟩ := packetB_range hB
  obtain ⟨u0, u1⟩ := b2i_range u
  have hsz := packetT_size u x c d
  have e0 : t.extract p.size (p.size + (packetT u x c d).size) = packetT u x c d := extract_at e
  have hts : t.size = p.size + (6 + d.size) + q.size := by rw [e, ByteArray.size_append, ByteArray.size_append, hsz]
  rw [packetGet_nat]
  have e' := e
  unfold packetT at e'
  have e1 : t = p ++ bs (b2i u * 4096 + 2048 + x).toNat 2 ++ (bs (49152 + c).toNat 2 ++ bs ((d.size : Int) - 1).toNat 2 ++ d ++ q) := by rw [e']; simp only [ByteArray.append_assoc]
  have e2 : t = (p ++ bs (b2i u * 4096 + 2048 + x).toNat 2) ++ bs (49152 + c).toNat 2 ++ (bs ((d.size : Int) - 1).toNat 2 ++ d ++ q) := by rw [e']; simp only [ByteArray.append_assoc]
  have e3 : t = (p ++ bs (b2i u * 4096 + 2048 + x).toNat 2 ++ bs (49152 + c).toNat 2) ++ bs ((d.size : Int) - 1).toNat 2 ++ (d ++ q) := by rw [e']; simp only [ByteArray.append_assoc]
  have e4 : t = (p ++ bs (b2i u * 4096 + 2048 + x).toNat 2 ++ bs (49152 + c).toNat 2 ++ bs ((d.size : Int) - 1).toNat 2) ++ d ++ q := by rw [e']; simp only [ByteArray.append_assoc]
  have m1 := num_at 2 _ (show (b2i u * 4096 + 2048 + x).toNat < 256 ^ 2 by simp; omega) e1
  have m2 := num_at 2 _ (show (49152 + c).toNat < 256 ^ 2 by simp; omega) e2
  have m3 := num_at 2 _ (show ((d.size : Int) - 1).toNat < 256 ^ 2 by simp; omega) e3
  have m4 := extract_at e4
  simp only [ByteArray.size_append, bs_size] at m1 m2 m3 m4
  have hu : pU t p.size = u := by
    unfold pU
    rw [m1]
    cases u with
    | false => rw [beq_eq_false_iff_ne]; simp [b2i]; omega
    | true => rw [beq_iff_eq]; simp [b2i]; omega
  have hA : pA t p.size = x := by unfold pA; rw [m1]; omega
  have hC : pC t p.size = c := by unfold pC; rw [m2]; omega
  have hZ : pZ t p.size = 6 + d.size := by unfold pZ; rw [m3]; omega
  have hD : pD t p.size = d := by
    unfold pD
    rw [hZ, show p.size + (6 + d.size) = p.size + 2 + 2 + 2 + d.size by omega]
    exact m4
  have hS : pS t p.size = t.extract p.size (p.size + pZ t p.size) := by
    unfold pS
    rw [hu, hA, hC, hD, hZ, ← hsz, e0]
    unfold packetS
    rw [if_pos hB]
  rw [packetAt_yes (by omega) (by omega) hS, hu, hA, hC, hD, hZ, hsz]
theorem packetGet_tells (t : ByteArray) (a : Int) (h : (packetGet t a).2.2.2.2 ≠ 0) : 0 ≤ a ∧ 0 ≤ (packetGet t a).2.2.2.2 ∧ a + (packetGet t a).2.2.2.2 ≤ t.size ∧ packetS (packetGet t a).1 (packetGet t a).2.1 (packetGet t a).2.2.1 (packetGet t a).2.2.2.1 = t.extract a.toNat (a + (packetGet t a).2.2.2.2).toNat := by
  unfold packetGet at h ⊢
  by_cases h0 : 0 ≤ a
  · rw [if_pos h0] at h ⊢
    obtain ⟨b, rfl⟩ := Int.eq_ofNat_of_zero_le h0
    rw [Int.toNat_natCast] at h ⊢
    by_cases h2 : b + 7 ≤ t.size ∧ b + pZ t b ≤ t.size ∧ pS t b = t.extract b (b + pZ t b)
    · rw [packetAt_yes h2.1 h2.2.1 h2.2.2]
      refine ⟨h0, Int.natCast_nonneg _, ?_, ?_⟩
      · show (b : Int) + (pZ t b : Int) ≤ t.size
        omega
      · show pS t b = t.extract b ((b : Int) + (pZ t b : Int)).toNat
        rw [show ((b : Int) + (pZ t b : Int)).toNat = b + pZ t b by omega]
        exact h2.2.2
    · rw [packetAt_no h2] at h
      exact absurd rfl h
  · rw [if_neg h0] at h
    exact absurd rfl h
end Go.Proofs.YtpehnincnpnggaaDoor.Packet
