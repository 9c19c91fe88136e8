/- A command out of bytes, in plain Lean: the program's and the reference's are one. No conditions. -/
import Derived.Test.YtllchgipnfdneaaDoorPx20
import Derived.Test.YtllchgipnfdneaaDoorCmdImpl
namespace Go.Proofs.YtllchgipnfdneaaDoor.Cmd
open Go.RowKit Go.Proofs.YtllchgipnfdneaaDoor.P Go.Proofs.YtllchgipnfdneaaDoor.E Go.Proofs.YtllchgipnfdneaaDoor.Num Go.Proofs.YtllchgipnfdneaaDoor.Get Go.Proofs.YtllchgipnfdneaaDoor.In Go.Proofs.YtllchgipnfdneaaDoor.Packet Go.Proofs.YtllchgipnfdneaaDoor.CrcEv Go.Proofs.YtllchgipnfdneaaDoorW.PrintWords
set_option linter.unusedSimpArgs false
set_option linter.unusedVariables false
theorem specJ1_ev (bad u : Bool) (a c : Int) (d : ByteArray) (hs : d.size ≤ 4611686018427387904) : Ev (fun k => spec_CmdGet.j1 k bad u a c d) (cmdJ bad a c d) := by
  refine Ev.step (fun k => by rw [spec_CmdGet.j1]) ?_
  cases bad with
  | true => exact Ev.iteT rfl (Ev.now _)
  | false =>
    refine Ev.iteF (by simp) ?_
    by_cases h6 : d.size < 6
    · rw [cmdJ_small _ _ _ h6]
      exact Ev.iteT (by omega) (Ev.now _)
    · refine Ev.iteF (by omega) (Ev.iteT (by omega) ?_)
      by_cases h0 : bt d 0 = 47
      · rw [wrap64_id (x := (d.size : Int) - 6) (by omega) (by omega), wrap64_id (x := (d.size : Int) - 2) (by omega) (by omega)]
        refine Ev.iteT h0 ?_
        by_cases h66 : d.size > 66
        · rw [cmdJ_long _ _ _ h6 h0 h66]
          exact Ev.iteT (by omega) (Ev.now _)
        · rw [cmdJ_fine _ _ _ h6 h0 h66]
          refine Ev.iteF (by omega) (Ev.iteT (by omega) (Ev.iteT (by omega) (Ev.iteT (by omega) (Ev.iteT (by omega) (Ev.iteT (by omega) (Ev.eq (Ev.now _) ?_))))))
          have b1 := bt_byte d 1
          have b2 := bt_byte d 2
          have b3 := bt_byte d 3
          unfold Byte at b1 b2 b3
          rw [wrap64_id (x := bt d 1) (by omega) (by omega), wrap64_id (x := bt d 2) (by omega) (by omega), wrap64_id (x := bt d 3) (by omega) (by omega), show ((d.size : Int) - 2).toNat = d.size - 2 by omega]
      · rw [cmdJ_other _ _ _ h6 h0]
        exact Ev.iteF h0 (Ev.now _)
theorem specJ0_ev (t d : ByteArray) (u : Bool) (a c : Int) (ht : 7 ≤ t.size) (ht2 : t.size ≤ 65542) (hs : d.size ≤ t.size) : Ev (fun k => spec_CmdGet.j0 k t (t.size : Int) (!u) u a c d) (cmdK t u a c d) := by
  refine Ev.step (fun k => by rw [spec_CmdGet.j0]) ?_
  unfold cmdK
  cases u with
  | false => exact Ev.iteT rfl (Ev.now _)
  | true =>
    rw [if_pos rfl]
    refine Ev.iteF (by simp) ?_
    by_cases h2 : d.size < 2
    · rw [if_pos h2]
      exact Ev.iteT (by omega) (specJ1_ev true _ _ _ _ (by omega))
    · rw [if_neg h2, wrap64_id (x := (t.size : Int) - 2) (by omega) (by omega)]
      have e : (t.size : Int) - 2 = ((t.size - 2 : Nat) : Int) := by omega
      rw [e]
      refine Ev.iteF (by omega) (Ev.iteT (by omega) (Ev.iteT (by omega) ?_))
      rw [Int.toNat_natCast]
      have hz : (t.extract 0 (t.size - 2)).size = t.size - 2 := by rw [ByteArray.size_extract]; omega
      exact Ev.bind (specCrc_at _ (by omega)) (Ev.bind (l1Get_ev t (t.size - 2) 2 (by omega) (by omega) (by omega)) (specJ1_ev _ _ _ _ _ (by omega)))
theorem specGet_ev (t : ByteArray) (hs : t.size ≤ 4611686018427387904) : Ev (fun k => spec_CmdGet.f k t) (cmdGet t) := by
  unfold spec_CmdGet.f
  refine Ev.bind (Packet.specGet_ev t 0 (by omega) (by omega) hs) ?_
  have hz := Rep.packetGet_size t 0
  have hn := packetGet_n t
  unfold cmdGet
  generalize packetGet t 0 = p at hz hn ⊢
  have bad : ∀ (n : Int) (u : Bool) (a c : Int) (d : ByteArray), Ev (fun k => spec_CmdGet.j0 k t n true u a c d) (noCmd 1) := fun n u a c d => by
    refine Ev.step (fun k => by rw [spec_CmdGet.j0]) ?_
    exact Ev.iteT rfl (Ev.now _)
  unfold cmdOf
  by_cases h0 : p.2.2.2.2 = 0
  · rw [if_neg (fun x => x.1 h0)]
    exact Ev.iteT h0 (bad _ _ _ _ _)
  · refine Ev.iteF h0 ?_
    by_cases h1 : p.2.2.2.2 = (t.size : Int)
    · rw [if_pos ⟨h0, h1⟩]
      refine Ev.iteT h1 ?_
      rw [h1]
      exact specJ0_ev t _ _ _ _ (by have := hn.2 h0; omega) (by omega) hz
    · rw [if_neg (fun x => h1 x.2)]
      exact Ev.iteF h1 (bad _ _ _ _ _)
end Go.Proofs.YtllchgipnfdneaaDoor.Cmd
