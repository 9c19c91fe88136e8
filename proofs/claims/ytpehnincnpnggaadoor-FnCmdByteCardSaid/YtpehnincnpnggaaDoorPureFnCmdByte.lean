/- FnCmdByte, behind the machine: a command of which one byte is turned is none. No conditions. -/
import Derived.Test.YtpehnincnpnggaaDoorPx8
import Derived.Test.YtpehnincnpnggaaDoorTurned
import Derived.Test.YtpehnincnpnggaaDoorDrawCmd
import Derived.Test.YtpehnincnpnggaaDoorQFnCmdByte
namespace Go.Proofs.YtpehnincnpnggaaDoor.Pure
open Go.RowKit Go.Proofs.YtpehnincnpnggaaDoor.P Go.Proofs.YtpehnincnpnggaaDoor.E Go.Proofs.YtpehnincnpnggaaDoor.Num Go.Proofs.YtpehnincnpnggaaDoor.Get Go.Proofs.YtpehnincnpnggaaDoor.In Go.Proofs.YtpehnincnpnggaaDoor.Packet Go.Proofs.YtpehnincnpnggaaDoor.CrcEv Go.Proofs.YtpehnincnpnggaaDoor.Turned Go.Proofs.YtpehnincnpnggaaDoor.Cmd Go.Proofs.YtpehnincnpnggaaDoor.Draw Go.Proofs.YtpehnincnpnggaaDoor.Open Go.Proofs.YtpehnincnpnggaaDoorW.PrintWords
set_option linter.unusedVariables false
set_option linter.unusedSimpArgs false
theorem nil_list : (⟨#[]⟩ : ByteArray).toList = ([] : List UInt8) := by
  unfold ByteArray.toList
  unfold ByteArray.toList.loop
  rfl
theorem wf_of_u8 {l : List Int} (h : GList GU8 l) : ∀ x ∈ l, (Lit.int .u8 x).wf = true := by
  intro x hx
  obtain ⟨h0, h1⟩ := h x hx
  simp [Lit.wf, IntKind.min, IntKind.max, IntKind.signed, IntKind.bits]
  omega
theorem turnK_lt {s : ByteArray} (m : Nat) (h : 0 < s.size) : turnK s m < s.size := Nat.mod_lt _ h
theorem turn_byte {s : ByteArray} (n m : Nat) : Byte (turnV s n m) ∧ (bytesOf s).getD (turnK s m) 0 ≠ turnV s n m := by
  have hb := bytes_range s (turnK s m)
  exact xor_byte hb (by omega) (by omega)
theorem turn_bytes (s : ByteArray) (n m : Nat) : bytesOf (turnS s n m) = (bytesOf s).set (turnK s m) (turnV s n m) := by
  unfold turnS
  refine bytesOf_strOf (fun x hx => ?_)
  rcases List.mem_or_eq_of_mem_set hx with h | rfl
  · exact bytesOf_byte s x h
  · exact (turn_byte n m).1
theorem turn_size (s : ByteArray) (n m : Nat) : (turnS s n m).size = s.size := by
  rw [← bytesOf_length, turn_bytes, List.length_set, bytesOf_length]
theorem cmdJ_none (bad : Bool) (a c : Int) (d : ByteArray) (h : (cmdJ bad a c d).2.2.2.2.2.2 ≠ 0) : ∃ e, e ≠ 0 ∧ cmdJ bad a c d = noCmd e := by
  unfold cmdJ at h ⊢
  split
  · exact ⟨2, by decide, rfl⟩
  · rename_i hb
    rw [if_neg hb] at h
    split
    · exact ⟨3, by decide, rfl⟩
    · rename_i h1
      rw [if_neg h1] at h
      split
      · rename_i h2
        rw [if_pos h2] at h
        split
        · exact ⟨3, by decide, rfl⟩
        · rename_i h3
          rw [if_neg h3] at h
          exact absurd rfl h
      · exact ⟨3, by decide, rfl⟩
theorem cmd_none (t : ByteArray) (h : (cmdGet t).2.2.2.2.2.2 ≠ 0) : ∃ e, e ≠ 0 ∧ cmdGet t = noCmd e := by
  unfold cmdGet cmdOf at h ⊢
  split
  · rename_i h1
    rw [if_pos h1] at h
    unfold cmdK at h ⊢
    split
    · rename_i h2
      rw [if_pos h2] at h
      split
      · exact ⟨2, by decide, rfl⟩
      · rename_i h3
        rw [if_neg h3] at h
        exact cmdJ_none _ _ _ _ h
    · exact ⟨1, by decide, rfl⟩
  · exact ⟨1, by decide, rfl⟩
theorem cmd_turned {a c o s u : Int} {d : ByteArray} (h : cmdB a c o s u d = true) (n m : Nat) : ∃ e, e ≠ 0 ∧ cmdGet (turnS (cmdS a c o s u d) n m) = noCmd e := by
  have e : cmdS a c o s u d = cmdA a c o s u d ++ bs (crcN (cmdA a c o s u d)) 2 := by unfold cmdS; rw [if_pos h]
  have hz := cmdS_size h
  have hs := turn_size (cmdS a c o s u d) n m
  have hset := turn_bytes (cmdS a c o s u d) n m
  have hv := (turn_byte (s := cmdS a c o s u d) n m).2
  have hk := turnK_lt (s := cmdS a c o s u d) m (by omega)
  generalize turnS (cmdS a c o s u d) n m = S' at hs hset ⊢
  apply cmd_none
  intro h0
  have ht := cmdGet_tells S' h0
  generalize (cmdGet S').1 = a', (cmdGet S').2.1 = c', (cmdGet S').2.2.1 = o', (cmdGet S').2.2.2.1 = s', (cmdGet S').2.2.2.2.1 = u', (cmdGet S').2.2.2.2.2.1 = d' at ht
  by_cases hB : cmdB a' c' o' s' u' d' = true
  · have hz' := cmdS_size hB
    have e' : S' = cmdA a' c' o' s' u' d' ++ bs (crcN (cmdA a' c' o' s' u' d')) 2 := by
      rw [cmdS, if_pos hB] at ht
      exact ht.symm
    refine turned_check e e' ?_ hset hk hv
    rw [cmdA_size, cmdA_size]
    rw [ht] at hz'
    omega
  · rw [cmdS, if_neg hB] at ht
    rw [← ht] at hs
    have : (⟨#[]⟩ : ByteArray).size = 0 := rfl
    omega
theorem FnCmdByte : Go.Proofs.YtpehnincnpnggaaDoor.QFnCmdByte.Pure := by
  intro l m hl hlb hm hmb
  refine Ev.rnd ?_
  unfold laws_FnCmdByte.f
  by_cases h0 : (l.length : Int) > 1048576
  · exact Ev.iteT h0 (Ev.now _)
  refine Ev.iteF h0 ?_
  by_cases h1 : (m.length : Int) > 1048576
  · exact Ev.iteT h1 (Ev.now _)
  refine Ev.iteF h1 ?_
  obtain ⟨a, c, o, s, u, d, ed⟩ := cmdDrawPut (wf_of_u8 hlb)
  refine Ev.bind ed (Ev.bind (implPut_ev a c o s u d) (Ev.bind (specPut_ev a c o s u d) (Ev.iteT rfl ?_)))
  by_cases hB : cmdB a c o s u d = true
  · have hz := cmdS_size hB
    have hd := (cmdB_range hB).2.2.2.2.2
    have eg := implGet_ev (turnS (cmdS a c o s u d) l.length m.length) (by rw [turn_size]; omega)
    obtain ⟨e, he, hg⟩ := cmd_turned hB l.length m.length
    rw [hg] at eg
    exact Ev.iteF (by omega) (Ev.iteT (by omega) (Ev.bind eg (Ev.iteT ⟨he, rfl, rfl, rfl, rfl, rfl, rfl⟩ (Ev.now _))))
  · have hS : cmdS a c o s u d = ⟨#[]⟩ := by unfold cmdS; rw [if_neg hB]
    rw [hS]
    exact Ev.iteT rfl (Ev.now _)
end Go.Proofs.YtpehnincnpnggaaDoor.Pure
