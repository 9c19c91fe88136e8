/- Two small facts on packets. Plain Lean, no conditions. -/
import Derived.Test.YtllchgipnfdneaaDoorPx5
import Derived.Test.YtllchgipnfdneaaDoorPx8
import Derived.Test.YtllchgipnfdneaaDoorPacketGet
namespace Go.Proofs.YtllchgipnfdneaaDoor.Rep
open Go.RowKit Go.Proofs.YtllchgipnfdneaaDoor.P Go.Proofs.YtllchgipnfdneaaDoor.E Go.Proofs.YtllchgipnfdneaaDoor.Num Go.Proofs.YtllchgipnfdneaaDoor.Get Go.Proofs.YtllchgipnfdneaaDoor.In Go.Proofs.YtllchgipnfdneaaDoor.Packet Go.Proofs.YtllchgipnfdneaaDoorW.PrintWords
set_option linter.unusedSimpArgs false
set_option linter.unusedVariables false
theorem packetGet_size (t : ByteArray) (a : Int) : (packetGet t a).2.2.2.1.size ≤ t.size := by
  unfold packetGet
  by_cases h : 0 ≤ a
  · rw [if_pos h]
    unfold packetAt
    by_cases h2 : a.toNat + 7 ≤ t.size ∧ a.toNat + pZ t a.toNat ≤ t.size ∧ pS t a.toNat = t.extract a.toNat (a.toNat + pZ t a.toNat)
    · rw [if_pos h2]
      show (pD t a.toNat).size ≤ t.size
      unfold pD
      rw [ByteArray.size_extract]
      omega
    · rw [if_neg h2]
      exact Nat.zero_le _
  · rw [if_neg h]
    exact Nat.zero_le _
theorem specPut6_ev (u : Bool) (a c : Int) (d : ByteArray) (h : packetB a c d = true) : Ev (fun k => spec_l6Put.f k u a c d) (packetS u a c d) := by
  obtain ⟨k0, hk⟩ := specPut_ev u a c d
  refine ⟨k0, fun k g => ?_⟩
  have this : spec_PacketPut.f k u a c d = some (packetS u a c d) := hk k g
  show spec_l6Put.f k u a c d = some (packetS u a c d)
  unfold spec_PacketPut.f at this
  rw [Packet.specOk_at, Option.bind_some, if_pos h] at this
  cases hq : spec_l6Put.f k u a c d with
  | none => rw [hq] at this; exact absurd this (by simp)
  | some y => rw [hq] at this; simpa using this
end Go.Proofs.YtllchgipnfdneaaDoor.Rep
