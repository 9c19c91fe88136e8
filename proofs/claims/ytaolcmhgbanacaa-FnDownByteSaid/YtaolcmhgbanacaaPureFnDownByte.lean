/- FnDownByte, behind the machine: a frame down of which one byte is turned is none. No conditions. -/
import Derived.Test.YtaolcmhgbanacaaPx9
import Derived.Test.YtaolcmhgbanacaaTurned
import Derived.Test.YtaolcmhgbanacaaDownGetI
import Derived.Test.YtaolcmhgbanacaaDrawDownP
import Derived.Test.YtaolcmhgbanacaaQFnDownByte
namespace Go.Proofs.Ytaolcmhgbanacaa.Pure
open Go.RowKit Go.Proofs.Ytaolcmhgbanacaa.P Go.Proofs.Ytaolcmhgbanacaa.E Go.Proofs.Ytaolcmhgbanacaa.Num Go.Proofs.Ytaolcmhgbanacaa.Get Go.Proofs.Ytaolcmhgbanacaa.CrcEv Go.Proofs.Ytaolcmhgbanacaa.Turned Go.Proofs.Ytaolcmhgbanacaa.Down Go.Proofs.Ytaolcmhgbanacaa.Draw Go.Proofs.Ytaolcmhgbanacaa.Open Go.Proofs.YtaolcmhgbanacaaW.PrintWords
set_option linter.unusedVariables false
set_option linter.unusedSimpArgs false
theorem nil_list : (⟨#[]⟩ : ByteArray).toList = ([] : List UInt8) := by
  unfold ByteArray.toList
  unfold ByteArray.toList.loop
  rfl
theorem wf_of_u8 {l : List Int} (h : GList GU8 l) : ∀ x ∈ l, (Lit.int .u8 x).wf = true := by
  intro x hx
  obtain ⟨h0, h1⟩ := h x hx
  simp [Lit.wf, IntKind.min, IntKind.max, IntKind.signed, IntKind.bits]
  omega
theorem turnK_lt {s : ByteArray} (m : Nat) (h : 0 < s.size) : turnK s m < s.size := Nat.mod_lt _ h
theorem turn_byte {s : ByteArray} (n m : Nat) : Byte (turnV s n m) ∧ (bytesOf s).getD (turnK s m) 0 ≠ turnV s n m := by
  have hb := bytes_range s (turnK s m)
  exact xor_byte hb (by omega) (by omega)
theorem turn_bytes (s : ByteArray) (n m : Nat) : bytesOf (turnS s n m) = (bytesOf s).set (turnK s m) (turnV s n m) := by
  unfold turnS
  refine bytesOf_strOf (fun x hx => ?_)
  rcases List.mem_or_eq_of_mem_set hx with h | rfl
  · exact bytesOf_byte s x h
  · exact (turn_byte n m).1
theorem turn_size (s : ByteArray) (n m : Nat) : (turnS s n m).size = s.size := by
  rw [← bytesOf_length, turn_bytes, List.length_set, bytesOf_length]
theorem down_turned {c w a o f : Int} {d fm : ByteArray} (h : downB c w a o f d fm = true) (n m : Nat) : downGet (turnS (downS c w a o f d fm) n m) = noDown := by
  obtain ⟨hc, hw, ha, ho, hf, hd, hm⟩ := downB_range h
  have e : downS c w a o f d fm = downT c w a o f d fm ++ bs (crcN (downT c w a o f d fm)) 2 := by unfold downS; rw [if_pos h]
  have hT := downT_size (c := c) (w := w) (a := a) (o := o) (f := f) hd hm
  have hz : (downS c w a o f d fm).size = 40 := by rw [e, ByteArray.size_append, bs_size, hT]
  have hs : (turnS (downS c w a o f d fm) n m).size = 40 := by rw [turn_size, hz]
  have hset := turn_bytes (downS c w a o f d fm) n m
  have hv := (turn_byte (s := downS c w a o f d fm) n m).2
  have hk := turnK_lt (s := downS c w a o f d fm) m (by omega)
  generalize turnS (downS c w a o f d fm) n m = S' at hs hset ⊢
  by_cases h2 : dS S' = S'
  · have h2' := h2
    unfold dS at h2'
    have hB := (downS_tells h2' (by omega)).1
    obtain ⟨_, _, _, _, _, hd', hm'⟩ := downB_range hB
    have e' : S' = downT (dC S') (dW S') (bt S' 2) (bt S' 3) (dF S') (S'.extract 6 34) (S'.extract 34 38) ++ bs (crcN (downT (dC S') (dW S') (bt S' 2) (bt S' 3) (dF S') (S'.extract 6 34) (S'.extract 34 38))) 2 := by
      rw [downS, if_pos hB] at h2'
      exact h2'.symm
    exact (turned_check e e' (by rw [hT, downT_size hd' hm']) hset hk hv).elim
  · exact downGet_no (by omega) h2
theorem FnDownByte : Go.Proofs.Ytaolcmhgbanacaa.QFnDownByte.Pure := by
  intro l m hl hlb hm hmb
  refine Ev.rnd ?_
  unfold laws_FnDownByte.f
  by_cases h0 : (l.length : Int) > 1048576
  · exact Ev.iteT h0 (Ev.now _)
  refine Ev.iteF h0 ?_
  by_cases h1 : (m.length : Int) > 1048576
  · exact Ev.iteT h1 (Ev.now _)
  refine Ev.iteF h1 ?_
  obtain ⟨c, w, a, o, f, d, fm, ed⟩ := drawPut (wf_of_u8 hlb)
  refine Ev.bind ed (Ev.bind (implPut_ev c w a o f d fm) (Ev.bind (specPut_ev c w a o f d fm) (Ev.iteT rfl ?_)))
  by_cases hB : downB c w a o f d fm = true
  · obtain ⟨hc, hw, ha, ho, hf, hd, hm⟩ := downB_range hB
    have hz : (downS c w a o f d fm).size = 40 := by unfold downS; rw [if_pos hB, ByteArray.size_append, bs_size, downT_size hd hm]
    have eg := implGet_ev (turnS (downS c w a o f d fm) l.length m.length) (by rw [turn_size]; omega)
    rw [down_turned hB] at eg
    refine Ev.iteF (by omega) (Ev.iteT (by omega) (Ev.bind eg (Ev.iteT ⟨rfl, rfl, rfl, rfl, rfl, rfl, rfl, rfl⟩ (Ev.now _))))
  · have hS : downS c w a o f d fm = ⟨#[]⟩ := by unfold downS; rw [if_neg hB]
    rw [hS]
    exact Ev.iteT rfl (Ev.now _)
end Go.Proofs.Ytaolcmhgbanacaa.Pure
