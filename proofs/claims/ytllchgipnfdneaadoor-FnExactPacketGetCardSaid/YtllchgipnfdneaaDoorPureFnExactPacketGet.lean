/- FnExactPacketGet, behind the machine: the program's PacketGet and the reference's are one. No conditions. -/
import Derived.Test.YtllchgipnfdneaaDoorPx23
import Derived.Test.YtllchgipnfdneaaDoorPacketGet
namespace Go.Proofs.YtllchgipnfdneaaDoor.Pure
open Go.RowKit Go.Proofs.YtllchgipnfdneaaDoor.P Go.Proofs.YtllchgipnfdneaaDoor.E Go.Proofs.YtllchgipnfdneaaDoor.Num Go.Proofs.YtllchgipnfdneaaDoor.Packet Go.Proofs.YtllchgipnfdneaaDoorW.PrintWords
set_option linter.unusedVariables false
theorem eqPacket_at (u : Bool) (a c : Int) (d : ByteArray) : laws_eqPacket.f u a c d u a c d = some true := by
  unfold laws_eqPacket.f
  simp
theorem int64 {a : Int} (h : (Lit.int .i64 a).wf = true) : -9223372036854775808 ≤ a ∧ a ≤ 9223372036854775807 := by
  simp [Lit.wf, IntKind.min, IntKind.max, IntKind.bits, IntKind.signed] at h
  omega
theorem FnExactPacketGet : laws_FnExactPacketGet.Pure := by
  intro t a ht ha
  obtain ⟨a0, a1⟩ := int64 ha
  refine Ev.rnd ?_
  unfold laws_FnExactPacketGet.f
  by_cases h : (t.size : Int) > 1048576
  · exact Ev.iteT h (Ev.now true)
  · refine Ev.iteF h (Ev.bind (specGet_ev t a a1 a0 (by omega)) (Ev.bind (implGet_ev t a (by omega)) (Ev.bindc (eqPacket_at _ _ _ _) ?_)))
    exact Ev.iteT rfl (Ev.iteT rfl (Ev.now true))
end Go.Proofs.YtllchgipnfdneaaDoor.Pure
