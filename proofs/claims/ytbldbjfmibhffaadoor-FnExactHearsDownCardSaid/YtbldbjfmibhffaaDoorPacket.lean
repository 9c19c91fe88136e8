/- A packet in bytes and out of bytes, in plain Lean: the program's and the reference's are one. No conditions. -/
import Derived.Test.YtbldbjfmibhffaaDoorPx3
import Derived.Test.YtbldbjfmibhffaaDoorPx4
import Derived.Test.YtbldbjfmibhffaaDoorPx8
import Derived.Test.YtbldbjfmibhffaaDoorIn
import Derived.Test.YtbldbjfmibhffaaDoorGet
namespace Go.Proofs.YtbldbjfmibhffaaDoor.Packet
open Go.RowKit Go.Proofs.YtbldbjfmibhffaaDoor.P Go.Proofs.YtbldbjfmibhffaaDoor.E Go.Proofs.YtbldbjfmibhffaaDoor.Num Go.Proofs.YtbldbjfmibhffaaDoor.Get Go.Proofs.YtbldbjfmibhffaaDoor.In Go.Proofs.YtbldbjfmibhffaaDoorW.PrintWords
set_option linter.unusedSimpArgs false
set_option linter.unusedVariables false
def packetB (a c : Int) (d : ByteArray) : Bool := inB a 0 2047 && (inB c 0 16383 && inB (d.size : Int) 1 100)
def packetT (u : Bool) (a c : Int) (d : ByteArray) : ByteArray := bs (b2i u * 4096 + 2048 + a).toNat 2 ++ bs (49152 + c).toNat 2 ++ bs ((d.size : Int) - 1).toNat 2 ++ d
def packetS (u : Bool) (a c : Int) (d : ByteArray) : ByteArray := if packetB a c d = true then packetT u a c d else ⟨#[]⟩
theorem packetB_range {a c : Int} {d : ByteArray} (h : packetB a c d = true) : (0 ≤ a ∧ a ≤ 2047) ∧ (0 ≤ c ∧ c ≤ 16383) ∧ 1 ≤ d.size ∧ d.size ≤ 100 := by
  unfold packetB at h
  simp only [Bool.and_eq_true, inB_true] at h
  omega
theorem specOk_at (u : Bool) (a c : Int) (d : ByteArray) : spec_l6Ok.f u a c d = some (packetB a c d) := by
  unfold spec_l6Ok.f packetB
  rw [l1In_at, l1In_at, l1In_at]
  cases inB a 0 2047 <;> cases inB c 0 16383 <;> cases inB (d.size : Int) 1 100 <;> rfl
theorem implOk_at (u : Bool) (a c : Int) (d : ByteArray) : impl_packetOk.f u a c d = some (packetB a c d) := by
  unfold impl_packetOk.f packetB
  rw [within_at, within_at]
  cases inB a 0 2047 with
  | false => rfl
  | true =>
    cases inB c 0 16383 with
    | false => rfl
    | true =>
      unfold inB
      show (if (d.size : Int) ≥ 1 then some (decide ((d.size : Int) ≤ 100)) else some false) = _
      by_cases h : (d.size : Int) ≥ 1
      · rw [if_pos h, decide_eq_true (show (1 : Int) ≤ d.size from h)]; simp
      · rw [if_neg h, decide_eq_false (show ¬ (1 : Int) ≤ d.size from h)]; simp
theorem packetT_size (u : Bool) (a c : Int) (d : ByteArray) : (packetT u a c d).size = 6 + d.size := by
  unfold packetT
  simp only [ByteArray.size_append, bs_size]
theorem specPut_ev (u : Bool) (a c : Int) (d : ByteArray) : Ev (fun k => spec_PacketPut.f k u a c d) (packetS u a c d) := by
  unfold spec_PacketPut.f
  refine Ev.bindc (specOk_at u a c d) ?_
  unfold packetS
  by_cases h : packetB a c d = true
  · rw [if_pos h]
    obtain ⟨ha, hc, hd⟩ := packetB_range h
    obtain ⟨u0, u1⟩ := b2i_range u
    refine Ev.iteT h (Ev.bind ?_ (Ev.now _))
    unfold spec_l6Put.f
    refine Ev.bindc (flag_at u) ?_
    have e1 : wrap64 (wrap64 (wrap64 (b2i u * 4096) + 2048) + a) = b2i u * 4096 + 2048 + a := by
      rw [wrap64_id (x := b2i u * 4096) (by omega) (by omega), wrap64_id (x := b2i u * 4096 + 2048) (by omega) (by omega), wrap64_id (by omega) (by omega)]
    have e2 : wrap64 (49152 + c) = 49152 + c := wrap64_id (by omega) (by omega)
    have e3 : wrap64 ((d.size : Int) - 1) = (d.size : Int) - 1 := wrap64_id (by omega) (by omega)
    rw [e1, e2, e3]
    refine Ev.bind (l1Put_at _ 2 (by omega) (by omega) (by omega) trivial) ?_
    refine Ev.bind (l1Put_at _ 2 (by omega) (by omega) (by omega) trivial) ?_
    refine Ev.iteT (by rw [bs_size, bs_size]; omega) ?_
    refine Ev.bind (l1Put_at _ 2 (by omega) (by omega) (by omega) trivial) ?_
    refine Ev.iteT (by rw [bs_size, bs_size, bs_size]; omega) ?_
    refine Ev.iteT (by rw [bs_size, bs_size, bs_size]; omega) ?_
    exact Ev.now _
  · rw [if_neg h]
    exact Ev.iteF h (Ev.now _)
theorem implG_ev (u : Bool) (a c : Int) (d : ByteArray) (h : packetB a c d = true) : Ev (fun k => impl_PacketPut.g k u a c d) (packetT u a c d) := by
  obtain ⟨ha, hc, hd⟩ := packetB_range h
  unfold impl_PacketPut.g
  have e1 : (if u = true then 2048 + a + 4096 else 2048 + a) = b2i u * 4096 + 2048 + a := by cases u <;> simp [b2i] <;> omega
  obtain ⟨u0, u1⟩ := b2i_range u
  rw [e1]
  refine Ev.bind (NumPut_in _ 2 (by omega) (by show _ < (65536 : Int); omega) (by omega) (by omega)) ?_
  refine Ev.bind (NumPut_in _ 2 (by omega) (by show _ < (65536 : Int); omega) (by omega) (by omega)) ?_
  refine Ev.bind (NumPut_in _ 2 (by omega) (by show _ < (65536 : Int); omega) (by omega) (by omega)) ?_
  refine Ev.iteT (by rw [bs_size, bs_size, bs_size]; omega) (Ev.eq (Ev.now _) ?_)
  unfold packetT
  simp only [strOfNums_append, strOf_bytesOf, ByteArray.append_assoc]
theorem implPut_ev (u : Bool) (a c : Int) (d : ByteArray) : Ev (fun k => impl_PacketPut.f k u a c d) (packetS u a c d) := by
  unfold impl_PacketPut.f packetS
  by_cases h : packetB a c d = true
  · obtain ⟨ha, hc, hd⟩ := packetB_range h
    rw [if_pos h]
    exact Ev.iteT (by omega) (Ev.bindc (implOk_at u a c d) (Ev.iteT h (implG_ev u a c d h)))
  · rw [if_neg h]
    refine Ev.ite (fun _ => ?_) (fun _ => ?_)
    · exact Ev.bindc (implOk_at u a c d) (Ev.iteF h (Ev.now _))
    · exact Ev.bindc (implOk_at u a c d) (Ev.iteF h (Ev.now _))
/-! ### out of bytes -/
abbrev PacketR := Bool × Int × Int × ByteArray × Int
def noPacket : PacketR := (false, 0, 0, ⟨#[]⟩, 0)
def pU (t : ByteArray) (a : Nat) : Bool := num t a 2 / 4096 % 2 == 1
def pA (t : ByteArray) (a : Nat) : Int := num t a 2 % 2048
def pC (t : ByteArray) (a : Nat) : Int := num t (a + 2) 2 % 16384
def pZ (t : ByteArray) (a : Nat) : Nat := (num t (a + 4) 2 + 7).toNat
def pD (t : ByteArray) (a : Nat) : ByteArray := t.extract (a + 6) (a + pZ t a)
def pS (t : ByteArray) (a : Nat) : ByteArray := packetS (pU t a) (pA t a) (pC t a) (pD t a)
def packetAt (t : ByteArray) (a : Nat) : PacketR :=
  if a + 7 ≤ t.size ∧ a + pZ t a ≤ t.size ∧ pS t a = t.extract a (a + pZ t a) then (pU t a, pA t a, pC t a, pD t a, (pZ t a : Int)) else noPacket
def packetGet (t : ByteArray) (a : Int) : PacketR := if 0 ≤ a then packetAt t a.toNat else noPacket
theorem n2 (s : ByteArray) (a : Nat) (h : a + 2 ≤ s.size) : 0 ≤ num s a 2 ∧ num s a 2 ≤ 65535 := by
  have := num_range s a 2 h
  have e : ((256 ^ 2 : Nat) : Int) = 65536 := by decide
  omega
theorem packetAt_yes {t : ByteArray} {a : Nat} (h1 : a + 7 ≤ t.size) (h2 : a + pZ t a ≤ t.size) (h3 : pS t a = t.extract a (a + pZ t a)) : packetAt t a = (pU t a, pA t a, pC t a, pD t a, (pZ t a : Int)) := by unfold packetAt; rw [if_pos ⟨h1, h2, h3⟩]
theorem packetAt_no {t : ByteArray} {a : Nat} (h : ¬ (a + 7 ≤ t.size ∧ a + pZ t a ≤ t.size ∧ pS t a = t.extract a (a + pZ t a))) : packetAt t a = noPacket := by unfold packetAt; rw [if_neg h]
theorem packetGet_nat (t : ByteArray) (b : Nat) : packetGet t (b : Int) = packetAt t b := by unfold packetGet; rw [if_pos (by omega), Int.toNat_natCast]
theorem specFin (t : ByteArray) (b : Nat) (hb : b + 7 ≤ t.size) (hz : 6 ≤ pZ t b) (h : b + pZ t b ≤ t.size) : Ev (fun k => if (0 : Int) ≤ ((b + 6 : Nat) : Int) then (if ((b + 6 : Nat) : Int) ≤ ((b + pZ t b : Nat) : Int) then (if ((b + pZ t b : Nat) : Int) ≤ (t.size : Int) then ((spec_PacketPut.f k (pU t b) (pA t b) (pC t b) (pD t b)).bind fun s => (if (0 : Int) ≤ (b : Int) then (if (b : Int) ≤ ((b + pZ t b : Nat) : Int) then (if s.toList = (t.extract (b : Int).toNat ((b + pZ t b : Nat) : Int).toNat).toList then (some (pU t b, pA t b, pC t b, pD t b, (pZ t b : Int))) else some noPacket) else none) else none)) else none) else none) else none) (packetAt t b) := by
  refine Ev.iteT (Int.natCast_nonneg _) (Ev.iteT (Int.ofNat_le.2 (by omega)) (Ev.iteT (Int.ofNat_le.2 h) (Ev.bind (specPut_ev _ _ _ _) (Ev.iteT (Int.natCast_nonneg _) (Ev.iteT (Int.ofNat_le.2 (by omega)) ?_)))))
  rw [Int.toNat_natCast, Int.toNat_natCast]
  by_cases h3 : pS t b = t.extract b (b + pZ t b)
  · rw [packetAt_yes hb h h3]
    exact Ev.iteT (str_eq.2 h3) (Ev.now _)
  · rw [packetAt_no (fun x => h3 x.2.2)]
    exact Ev.iteF (fun e => h3 (str_eq.1 e)) (Ev.now _)
theorem specGet_ev (t : ByteArray) (a : Int) (hg : a ≤ 9223372036854775807) (hg0 : -9223372036854775808 ≤ a) (hs : t.size ≤ 4611686018427387904) : Ev (fun k => spec_PacketGet.f k t a) (packetGet t a) := by
  unfold spec_PacketGet.f
  have e0 : wrap64 ((t.size : Int) - 7) = (t.size : Int) - 7 := wrap64_id (by omega) (by omega)
  rw [e0]
  refine Ev.bindc (l1In_at _ _ _) ?_
  by_cases h : inB a 0 ((t.size : Int) - 7) = true
  · obtain ⟨h0, h1⟩ := inB_true.1 h
    obtain ⟨b, rfl⟩ := Int.eq_ofNat_of_zero_le h0
    have hb : b + 7 ≤ t.size := by omega
    have e1 : wrap64 ((b : Int) + 4) = ((b + 4 : Nat) : Int) := wrap64_id (by omega) (by omega)
    have e2 : wrap64 ((b : Int) + 2) = ((b + 2 : Nat) : Int) := wrap64_id (by omega) (by omega)
    have e6 : wrap64 ((b : Int) + 6) = ((b + 6 : Nat) : Int) := wrap64_id (by omega) (by omega)
    obtain ⟨r0, r1⟩ := n2 t b (by omega)
    obtain ⟨c0, c1⟩ := n2 t (b + 2) (by omega)
    obtain ⟨z0, z1⟩ := n2 t (b + 4) (by omega)
    have hz : (pZ t b : Int) = num t (b + 4) 2 + 7 := by unfold pZ; omega
    have ez : wrap64 (num t (b + 4) 2 + 7) = (pZ t b : Int) := by rw [wrap64_id (by omega) (by omega)]; exact hz.symm
    have es : wrap64 ((t.size : Int) - (b : Int)) = (t.size : Int) - (b : Int) := wrap64_id (by omega) (by omega)
    rw [packetGet_nat]
    rw [e1, e2, e6, es]
    refine Ev.iteT h (Ev.bind (l1Get_ev t b 2 (by omega) (by omega) hs) (Ev.bind (l1Get_ev t (b + 4) 2 (by omega) (by omega) hs) ?_))
    rw [ez]
    by_cases hf : (pZ t b : Int) > (t.size : Int) - (b : Int)
    · rw [packetAt_no (by omega)]
      exact Ev.iteT hf (Ev.now _)
    · refine Ev.iteF hf (Ev.bind (l1Get_ev t (b + 2) 2 (by omega) (by omega) hs) ?_)
      have e7 : wrap64 ((b : Int) + (pZ t b : Int)) = ((b + pZ t b : Nat) : Int) := by rw [wrap64_id (by omega) (by omega)]; omega
      have hu : (Int.tmod (wrap64 (Int.tdiv (num t b 2) 4096)) 2 == 1) = pU t b := by
        unfold pU
        rw [Int.tdiv_eq_ediv_of_nonneg r0, wrap64_id (by omega) (by omega), Int.tmod_eq_emod_of_nonneg (by omega)]
      have ha : Int.tmod (num t b 2) 2048 = pA t b := by unfold pA; rw [Int.tmod_eq_emod_of_nonneg r0]
      have hc : Int.tmod (num t (b + 2) 2) 16384 = pC t b := by unfold pC; rw [Int.tmod_eq_emod_of_nonneg c0]
      have hd : t.extract ((b + 6 : Nat) : Int).toNat ((b + pZ t b : Nat) : Int).toNat = pD t b := by unfold pD; rw [Int.toNat_natCast, Int.toNat_natCast]
      rw [e7, hu, ha, hc, hd]
      exact specFin t b hb (by omega) (by omega)
  · refine Ev.iteF h ?_
    have h' : ¬ (0 ≤ a ∧ a ≤ (t.size : Int) - 7) := fun x => h (inB_true.2 x)
    unfold packetGet
    by_cases h0 : 0 ≤ a
    · rw [if_pos h0, packetAt_no (by omega)]
      exact Ev.now _
    · rw [if_neg h0]
      exact Ev.now _
theorem extract_all (t : ByteArray) (a b : Nat) (h : a ≤ b) (hb : b ≤ t.size) : t = t.extract 0 a ++ t.extract a b ++ t.extract b t.size := by
  apply bytes_inj
  rw [bytesOf_append, bytesOf_append, bytesOf_extract, bytesOf_extract, bytesOf_extract]
  have hl := bytesOf_length t
  generalize bytesOf t = l at hl
  rw [← hl, List.drop_zero, Nat.sub_zero, List.append_assoc]
  have e : List.take (b - a) (List.drop a l) ++ List.take (l.length - b) (List.drop b l) = List.drop a l := by
    have : List.drop b l = List.drop (b - a) (List.drop a l) := by rw [List.drop_drop]; congr 1; omega
    rw [List.take_of_length_le (l := List.drop b l) (by rw [List.length_drop]; omega), this, List.take_append_drop]
  rw [e, List.take_append_drop]
/-- What a packet's bytes, as they stand at a place, tell. -/
theorem packet_tells {u : Bool} {x c : Int} {d t : ByteArray} {a b : Nat} (h : packetS u x c d = t.extract a b) (hab : a < b) (hb : b ≤ t.size) : packetB x c d = true ∧ num t a 2 = b2i u * 4096 + 2048 + x ∧ num t (a + 2) 2 = 49152 + c ∧ num t (a + 4) 2 = (d.size : Int) - 1 ∧ b = a + (6 + d.size) := by
  have hz : (t.extract a b).size = b - a := by rw [ByteArray.size_extract]; omega
  unfold packetS at h
  by_cases hB : packetB x c d = true
  · rw [if_pos hB] at h
    obtain ⟨hx, hc, hd⟩ := packetB_range hB
    obtain ⟨u0, u1⟩ := b2i_range u
    have e := extract_all t a b (by omega) hb
    rw [← h] at e hz
    rw [packetT_size] at hz
    have hs : (t.extract 0 a).size = a := by rw [ByteArray.size_extract]; omega
    generalize t.extract 0 a = p at e hs
    generalize t.extract b t.size = q at e
    unfold packetT at e
    have e1 : t = p ++ bs (b2i u * 4096 + 2048 + x).toNat 2 ++ (bs (49152 + c).toNat 2 ++ bs ((d.size : Int) - 1).toNat 2 ++ d ++ q) := by rw [e]; simp only [ByteArray.append_assoc]
    have e2 : t = (p ++ bs (b2i u * 4096 + 2048 + x).toNat 2) ++ bs (49152 + c).toNat 2 ++ (bs ((d.size : Int) - 1).toNat 2 ++ d ++ q) := by rw [e]; simp only [ByteArray.append_assoc]
    have e3 : t = (p ++ bs (b2i u * 4096 + 2048 + x).toNat 2 ++ bs (49152 + c).toNat 2) ++ bs ((d.size : Int) - 1).toNat 2 ++ (d ++ q) := by rw [e]; simp only [ByteArray.append_assoc]
    have m1 := num_at 2 _ (show (b2i u * 4096 + 2048 + x).toNat < 256 ^ 2 by simp; omega) e1
    have m2 := num_at 2 _ (show (49152 + c).toNat < 256 ^ 2 by simp; omega) e2
    have m3 := num_at 2 _ (show ((d.size : Int) - 1).toNat < 256 ^ 2 by simp; omega) e3
    simp only [ByteArray.size_append, bs_size, hs] at m1 m2 m3
    refine ⟨hB, ?_, ?_, ?_, by omega⟩
    · rw [m1]; omega
    · rw [m2]; omega
    · rw [m3]; omega
  · rw [if_neg hB] at h
    rw [← h] at hz
    have : (⟨#[]⟩ : ByteArray).size = 0 := rfl
    omega
end Go.Proofs.YtbldbjfmibhffaaDoor.Packet
