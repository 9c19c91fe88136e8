/- Two small facts on packets. Plain Lean, no conditions. -/
import Derived.Test.YtpehnincnpnggaaDoorPx4
import Derived.Test.YtpehnincnpnggaaDoorPacketGetI
namespace Go.Proofs.YtpehnincnpnggaaDoor.Rep
open Go.RowKit Go.Proofs.YtpehnincnpnggaaDoor.P Go.Proofs.YtpehnincnpnggaaDoor.E Go.Proofs.YtpehnincnpnggaaDoor.Num Go.Proofs.YtpehnincnpnggaaDoor.Get Go.Proofs.YtpehnincnpnggaaDoor.In Go.Proofs.YtpehnincnpnggaaDoor.Packet Go.Proofs.YtpehnincnpnggaaDoorW.PrintWords
set_option linter.unusedSimpArgs false
set_option linter.unusedVariables false
theorem packetGet_size (t : ByteArray) (a : Int) : (packetGet t a).2.2.2.1.size ≤ t.size := by
  unfold packetGet
  by_cases h : 0 ≤ a
  · rw [if_pos h]
    unfold packetAt
    by_cases h2 : a.toNat + 7 ≤ t.size ∧ a.toNat + pZ t a.toNat ≤ t.size ∧ pS t a.toNat = t.extract a.toNat (a.toNat + pZ t a.toNat)
    · rw [if_pos h2]
      show (pD t a.toNat).size ≤ t.size
      unfold pD
      rw [ByteArray.size_extract]
      omega
    · rw [if_neg h2]
      exact Nat.zero_le _
  · rw [if_neg h]
    exact Nat.zero_le _
theorem specPut6_ev (u : Bool) (a c : Int) (d : ByteArray) (h : packetB a c d = true) : Ev (fun k => spec_l6Put.f k u a c d) (packetS u a c d) := by
  unfold packetS
  rw [if_pos h]
  obtain ⟨ha, hc, hd⟩ := packetB_range h
  obtain ⟨u0, u1⟩ := b2i_range u
  unfold spec_l6Put.f
  refine Ev.bindc (flag_at u) ?_
  have e1 : wrap64 (wrap64 (wrap64 (b2i u * 4096) + 2048) + a) = b2i u * 4096 + 2048 + a := by
    rw [wrap64_id (x := b2i u * 4096) (by omega) (by omega), wrap64_id (x := b2i u * 4096 + 2048) (by omega) (by omega), wrap64_id (by omega) (by omega)]
  have e2 : wrap64 (49152 + c) = 49152 + c := wrap64_id (by omega) (by omega)
  have e3 : wrap64 ((d.size : Int) - 1) = (d.size : Int) - 1 := wrap64_id (by omega) (by omega)
  rw [e1, e2, e3]
  refine Ev.bind (l1Put_at _ 2 (by omega) (by omega) (by omega) trivial) ?_
  refine Ev.bind (l1Put_at _ 2 (by omega) (by omega) (by omega) trivial) ?_
  refine Ev.iteT (by rw [bs_size, bs_size]; omega) ?_
  refine Ev.bind (l1Put_at _ 2 (by omega) (by omega) (by omega) trivial) ?_
  refine Ev.iteT (by rw [bs_size, bs_size, bs_size]; omega) ?_
  refine Ev.iteT (by rw [bs_size, bs_size, bs_size]; omega) ?_
  exact Ev.now _
end Go.Proofs.YtpehnincnpnggaaDoor.Rep
