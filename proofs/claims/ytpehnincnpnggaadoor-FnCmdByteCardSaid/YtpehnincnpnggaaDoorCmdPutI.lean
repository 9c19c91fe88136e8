/- A command in bytes, in plain Lean: the program's and the reference's are one; what was put is read back, what is read was put so. No conditions. -/
import Derived.Test.YtpehnincnpnggaaDoorPx3
import Derived.Test.YtpehnincnpnggaaDoorPx4
import Derived.Test.YtpehnincnpnggaaDoorPx5
import Derived.Test.YtpehnincnpnggaaDoorCmdImplI
import Derived.Test.YtpehnincnpnggaaDoorPacketBackI
namespace Go.Proofs.YtpehnincnpnggaaDoor.Cmd
open Go.RowKit Go.Proofs.YtpehnincnpnggaaDoor.P Go.Proofs.YtpehnincnpnggaaDoor.E Go.Proofs.YtpehnincnpnggaaDoor.Num Go.Proofs.YtpehnincnpnggaaDoor.Get Go.Proofs.YtpehnincnpnggaaDoor.In Go.Proofs.YtpehnincnpnggaaDoor.Packet Go.Proofs.YtpehnincnpnggaaDoor.CrcEv Go.Proofs.YtpehnincnpnggaaDoorW.PrintWords
set_option linter.unusedSimpArgs false
set_option linter.unusedVariables false
def cmdB (a c o s u : Int) (d : ByteArray) : Bool := inB a 0 2047 && (inB c 0 16383 && (inB o 0 255 && (inB s 0 255 && (inB u 0 255 && decide ((d.size : Int) ≤ 60)))))
def cmdH (o s u : Int) (d : ByteArray) : ByteArray := (⟨#[47]⟩ : ByteArray) ++ bs s.toNat 1 ++ bs u.toNat 1 ++ bs o.toNat 1 ++ d
def headT (a c : Int) (n : Nat) : ByteArray := bs (b2i true * 4096 + 2048 + a).toNat 2 ++ bs (49152 + c).toNat 2 ++ bs ((n : Int) - 1).toNat 2
def cmdA (a c o s u : Int) (d : ByteArray) : ByteArray := headT a c (6 + d.size) ++ cmdH o s u d
def cmdS (a c o s u : Int) (d : ByteArray) : ByteArray := if cmdB a c o s u d = true then cmdA a c o s u d ++ bs (crcN (cmdA a c o s u d)) 2 else ⟨#[]⟩
theorem one47 : (⟨#[47]⟩ : ByteArray).size = 1 := rfl
theorem cmdB_range {a c o s u : Int} {d : ByteArray} (h : cmdB a c o s u d = true) : (0 ≤ a ∧ a ≤ 2047) ∧ (0 ≤ c ∧ c ≤ 16383) ∧ (0 ≤ o ∧ o ≤ 255) ∧ (0 ≤ s ∧ s ≤ 255) ∧ (0 ≤ u ∧ u ≤ 255) ∧ d.size ≤ 60 := by
  unfold cmdB at h
  simp only [Bool.and_eq_true, inB_true, decide_eq_true_eq] at h
  omega
theorem cmdH_size (o s u : Int) (d : ByteArray) : (cmdH o s u d).size = 4 + d.size := by
  unfold cmdH
  simp only [ByteArray.size_append, bs_size, one47]
theorem cmdA_size (a c o s u : Int) (d : ByteArray) : (cmdA a c o s u d).size = 10 + d.size := by
  unfold cmdA headT
  simp only [ByteArray.size_append, bs_size, cmdH_size]
  omega
theorem cmdS_size {a c o s u : Int} {d : ByteArray} (h : cmdB a c o s u d = true) : (cmdS a c o s u d).size = 12 + d.size := by
  unfold cmdS
  rw [if_pos h, ByteArray.size_append, cmdA_size, bs_size]
  omega
/-- A packet whose data ends with two more bytes. -/
theorem packetT_two (a c o s u : Int) (d y : ByteArray) (hy : y.size = 2) : packetT true a c (cmdH o s u d ++ y) = cmdA a c o s u d ++ y := by
  unfold packetT cmdA headT
  rw [ByteArray.size_append, cmdH_size, hy, show 4 + d.size + 2 = 6 + d.size by omega]
  simp only [ByteArray.append_assoc]
theorem cmd_packet {a c o s u : Int} {d y : ByteArray} (h : cmdB a c o s u d = true) (hy : y.size = 2) : packetB a c (cmdH o s u d ++ y) = true := by
  obtain ⟨ha, hc, ho, hs, hu, hd⟩ := cmdB_range h
  unfold packetB
  simp only [Bool.and_eq_true, inB_true, ByteArray.size_append, cmdH_size, hy]
  omega
theorem specOk_at (a c o s u : Int) (d : ByteArray) : spec_l6CmdOk.f a c o s u d = some (cmdB a c o s u d) := by
  unfold spec_l6CmdOk.f cmdB
  simp only [l1In_at]
  cases inB a 0 2047 <;> cases inB c 0 16383 <;> cases inB o 0 255 <;> cases inB s 0 255 <;> cases inB u 0 255 <;> rfl
theorem implOk_at (a c o s u : Int) (d : ByteArray) : impl_cmdOk.f a c o s u d = some (cmdB a c o s u d) := by
  unfold impl_cmdOk.f cmdB
  simp only [within_at]
  cases inB a 0 2047 <;> cases inB c 0 16383 <;> cases inB o 0 255 <;> cases inB s 0 255 <;> cases inB u 0 255 <;> rfl
theorem cut_two (x y : ByteArray) (hy : y.size = 2) : (x ++ y).extract 0 ((x ++ y).size - 2) = x := by
  have := extract_at (s := ⟨#[]⟩) (d := x) (u := y) (t := x ++ y) (by rw [empty_append])
  have e : (⟨#[]⟩ : ByteArray).size = 0 := rfl
  rw [e, Nat.zero_add] at this
  rw [ByteArray.size_append, hy, Nat.add_sub_cancel]
  exact this
theorem l6Cmd_ev {a c o s u : Int} {d : ByteArray} (h : cmdB a c o s u d = true) : Ev (fun k => spec_l6Cmd.f k a c o s u d) (cmdS a c o s u d) := by
  obtain ⟨ha, hc, ho, hs, hu, hd⟩ := cmdB_range h
  have h2 : (⟨#[0, 0]⟩ : ByteArray).size = 2 := rfl
  unfold spec_l6Cmd.f
  refine Ev.bind (l1Put_at s 1 (by omega) (by omega) (by omega) trivial) (Ev.iteT (by rw [bs_size]; omega) ?_)
  refine Ev.bind (l1Put_at u 1 (by omega) (by omega) (by omega) trivial) (Ev.iteT (by rw [bs_size, bs_size]; omega) ?_)
  refine Ev.bind (l1Put_at o 1 (by omega) (by omega) (by omega) trivial) (Ev.iteT (by rw [bs_size, bs_size, bs_size]; omega) (Ev.iteT (by rw [bs_size, bs_size, bs_size]; omega) (Ev.iteT (by rw [bs_size, bs_size, bs_size]; omega) ?_)))
  show Ev (fun k => (spec_l6Put.f k true a c (cmdH o s u d ++ ⟨#[0, 0]⟩)).bind fun t651 => (if 0 ≤ (wrap64 ((t651.size : Int) - 2)) then (if (wrap64 ((t651.size : Int) - 2)) ≤ (t651.size : Int) then ((spec_Crc16.f k (t651.extract 0 ((wrap64 ((t651.size : Int) - 2)) : Int).toNat)).bind fun t652 => ((spec_l1Put.f k t652 2).bind fun t653 => (if (t651.extract 0 ((wrap64 ((t651.size : Int) - 2)) : Int).toNat).size + t653.size ≤ 9223372036854775807 then (some ((t651.extract 0 ((wrap64 ((t651.size : Int) - 2)) : Int).toNat) ++ t653)) else (none)))) else (none)) else (none))) _
  have e0 : packetS true a c (cmdH o s u d ++ ⟨#[0, 0]⟩) = cmdA a c o s u d ++ ⟨#[0, 0]⟩ := by unfold packetS; rw [if_pos (cmd_packet h h2), packetT_two _ _ _ _ _ _ _ h2]
  have ep := Rep.specPut6_ev true a c (cmdH o s u d ++ ⟨#[0, 0]⟩) (cmd_packet h h2)
  rw [e0] at ep
  refine Ev.bind ep ?_
  have hz := cmdA_size a c o s u d
  have hw : (cmdA a c o s u d ++ ⟨#[0, 0]⟩ : ByteArray).size = 12 + d.size := by rw [ByteArray.size_append, hz, h2]; omega
  have ew : wrap64 (((cmdA a c o s u d ++ ⟨#[0, 0]⟩ : ByteArray).size : Int) - 2) = (((cmdA a c o s u d ++ ⟨#[0, 0]⟩ : ByteArray).size - 2 : Nat) : Int) := by rw [wrap64_id (by omega) (by omega)]; omega
  rw [ew, Int.toNat_natCast, cut_two _ _ h2]
  refine Ev.iteT (by omega) (Ev.iteT (by omega) ?_)
  have hl := crcN_lt (cmdA a c o s u d)
  refine Ev.bind (specCrc_at _ (by omega)) (Ev.bind (l1Put_at _ 2 (by omega) (by omega) (by omega) trivial) ?_)
  rw [Int.toNat_natCast]
  refine Ev.iteT (by rw [bs_size]; omega) (Ev.eq (Ev.now _) ?_)
  unfold cmdS
  rw [if_pos h]
theorem specPut_ev (a c o s u : Int) (d : ByteArray) : Ev (fun k => spec_CmdPut.f k a c o s u d) (cmdS a c o s u d) := by
  unfold spec_CmdPut.f
  refine Ev.bindc (specOk_at a c o s u d) ?_
  by_cases h : cmdB a c o s u d = true
  · exact Ev.iteT h (Ev.bind (l6Cmd_ev h) (Ev.now _))
  · have e : cmdS a c o s u d = ⟨#[]⟩ := by unfold cmdS; rw [if_neg h]
    rw [e]
    exact Ev.iteF h (Ev.now _)
theorem implPut_ev (a c o s u : Int) (d : ByteArray) : Ev (fun k => impl_CmdPut.f k a c o s u d) (cmdS a c o s u d) := by
  unfold impl_CmdPut.f
  refine Ev.bindc (implOk_at a c o s u d) ?_
  by_cases h : cmdB a c o s u d = true
  · obtain ⟨ha, hc, ho, hs, hu, hd⟩ := cmdB_range h
    refine Ev.iteT h (Ev.iteT (by omega) ?_)
    refine Ev.bind (NumPut_in s 1 (by omega) (by show _ < (256 : Int); omega) (by omega) (by omega)) ?_
    refine Ev.bind (NumPut_in u 1 (by omega) (by show _ < (256 : Int); omega) (by omega) (by omega)) ?_
    refine Ev.bind (NumPut_in o 1 (by omega) (by show _ < (256 : Int); omega) (by omega) (by omega)) ?_
    refine Ev.bind (NumPut_in 0 2 (by omega) (by show _ < (65536 : Int); omega) (by omega) (by omega)) ?_
    refine Ev.iteT (by rw [bs_size, bs_size, bs_size, bs_size]; omega) ?_
    generalize hy : bs (0 : Int).toNat 2 = y
    have h2 : y.size = 2 := by rw [← hy, bs_size]
    have e : strOfNums (bytesOf ⟨#[47]⟩ ++ (bytesOf (bs s.toNat 1) ++ (bytesOf (bs u.toNat 1) ++ (bytesOf (bs o.toNat 1) ++ (bytesOf d ++ bytesOf y))))) = cmdH o s u d ++ y := by
      unfold cmdH
      simp only [strOfNums_append, strOf_bytesOf, ByteArray.append_assoc]
    rw [e]
    have e0 : packetS true a c (cmdH o s u d ++ y) = cmdA a c o s u d ++ y := by unfold packetS; rw [if_pos (cmd_packet h h2), packetT_two _ _ _ _ _ _ _ h2]
    have ep := Packet.implPut_ev true a c (cmdH o s u d ++ y)
    rw [e0] at ep
    refine Ev.bind ep ?_
    have hz := cmdA_size a c o s u d
    have hw : (cmdA a c o s u d ++ y).size = 12 + d.size := by rw [ByteArray.size_append, hz, h2]; omega
    have hl := crcN_lt (cmdA a c o s u d)
    unfold impl_CmdPut.g
    rw [cut_two _ _ h2]
    refine Ev.iteT (by omega) (Ev.bindc (implCrc_at _ (by omega)) (Ev.bind (NumPut_in _ 2 (by omega) (by show _ < (65536 : Int); omega) (by omega) (by omega)) ?_))
    rw [Int.toNat_natCast]
    refine Ev.iteT (by rw [bs_size]; omega) (Ev.eq (Ev.now _) ?_)
    unfold cmdS
    rw [if_pos h]
  · have e : cmdS a c o s u d = ⟨#[]⟩ := by unfold cmdS; rw [if_neg h]
    rw [e]
    exact Ev.iteF h (Ev.now _)
theorem one_byte (t : ByteArray) (a : Nat) (h : a < t.size) : num t a 1 = bt t (a : Int) := by
  rw [num_succ t a 0 (by omega), num_zero]
  simp
theorem cmd_back {a c o s u : Int} {d : ByteArray} (h : cmdB a c o s u d = true) : cmdGet (cmdS a c o s u d) = (a, c, o, s, u, d, 0) := by
  obtain ⟨ha, hc, ho, hs, hu, hd⟩ := cmdB_range h
  have hz := cmdS_size h
  have hl := crcN_lt (cmdA a c o s u d)
  have hA := cmdA_size a c o s u d
  have hS : cmdS a c o s u d = cmdA a c o s u d ++ bs (crcN (cmdA a c o s u d)) 2 := by unfold cmdS; rw [if_pos h]
  generalize hy : bs (crcN (cmdA a c o s u d)) 2 = y at hS
  have h2 : y.size = 2 := by rw [← hy, bs_size]
  have hT : cmdS a c o s u d = packetT true a c (cmdH o s u d ++ y) := by rw [hS, packetT_two _ _ _ _ _ _ _ h2]
  have hp := packetGet_back true a c (cmdH o s u d ++ y) ⟨#[]⟩ ⟨#[]⟩ (cmdS a c o s u d) (cmd_packet h h2) (by rw [hT, empty_append, append_empty])
  rw [← hT] at hp
  have hp' : packetGet (cmdS a c o s u d) 0 = (true, a, c, cmdH o s u d ++ y, ((cmdS a c o s u d).size : Int)) := hp
  have hX : (cmdH o s u d ++ y).size = 6 + d.size := by rw [ByteArray.size_append, cmdH_size, h2]; omega
  unfold cmdGet
  rw [hp']
  unfold cmdOf
  rw [if_pos ⟨by show ((cmdS a c o s u d).size : Int) ≠ 0; omega, rfl⟩]
  show cmdK (cmdS a c o s u d) true a c (cmdH o s u d ++ y) = _
  unfold cmdK
  rw [if_pos rfl, if_neg (by omega)]
  have e1 : (cmdS a c o s u d).extract 0 ((cmdS a c o s u d).size - 2) = cmdA a c o s u d := by rw [hS]; exact cut_two _ _ h2
  have e2 : num (cmdS a c o s u d) ((cmdS a c o s u d).size - 2) 2 = (crcN (cmdA a c o s u d) : Int) := by
    have := num_at (s := cmdA a c o s u d) (u := ⟨#[]⟩) (t := cmdS a c o s u d) 2 (crcN (cmdA a c o s u d)) (by simpa using hl) (by rw [append_empty, hS, hy])
    rw [show (cmdS a c o s u d).size - 2 = (cmdA a c o s u d).size by omega]
    exact this
  rw [e1, e2]
  have eb : ((crcN (cmdA a c o s u d) : Int) != (crcN (cmdA a c o s u d) : Int)) = false := by simp
  rw [eb]
  have x0 : cmdH o s u d ++ y = (⟨#[]⟩ : ByteArray) ++ bs 47 1 ++ (bs s.toNat 1 ++ bs u.toNat 1 ++ bs o.toNat 1 ++ d ++ y) := by
    have : bs 47 1 = (⟨#[47]⟩ : ByteArray) := by decide
    rw [this, empty_append]
    unfold cmdH
    simp only [ByteArray.append_assoc]
  have x1 : cmdH o s u d ++ y = (⟨#[47]⟩ : ByteArray) ++ bs s.toNat 1 ++ (bs u.toNat 1 ++ bs o.toNat 1 ++ d ++ y) := by unfold cmdH; simp only [ByteArray.append_assoc]
  have x2 : cmdH o s u d ++ y = ((⟨#[47]⟩ : ByteArray) ++ bs s.toNat 1) ++ bs u.toNat 1 ++ (bs o.toNat 1 ++ d ++ y) := by unfold cmdH; simp only [ByteArray.append_assoc]
  have x3 : cmdH o s u d ++ y = ((⟨#[47]⟩ : ByteArray) ++ bs s.toNat 1 ++ bs u.toNat 1) ++ bs o.toNat 1 ++ (d ++ y) := by unfold cmdH; simp only [ByteArray.append_assoc]
  have x4 : cmdH o s u d ++ y = ((⟨#[47]⟩ : ByteArray) ++ bs s.toNat 1 ++ bs u.toNat 1 ++ bs o.toNat 1) ++ d ++ y := by unfold cmdH; simp only [ByteArray.append_assoc]
  have m0 := num_at 1 _ (show 47 < 256 ^ 1 by decide) x0
  have m1 := num_at 1 _ (show s.toNat < 256 ^ 1 by simp; omega) x1
  have m2 := num_at 1 _ (show u.toNat < 256 ^ 1 by simp; omega) x2
  have m3 := num_at 1 _ (show o.toNat < 256 ^ 1 by simp; omega) x3
  have m4 := extract_at x4
  simp only [ByteArray.size_append, bs_size, one47] at m1 m2 m3 m4
  have em : (⟨#[]⟩ : ByteArray).size = 0 := rfl
  rw [em, one_byte _ _ (by omega)] at m0
  rw [one_byte _ _ (by omega)] at m1 m2 m3
  have b0 : bt (cmdH o s u d ++ y) 0 = 47 := m0
  have b1 : bt (cmdH o s u d ++ y) 1 = s := by have : bt (cmdH o s u d ++ y) 1 = (s.toNat : Int) := m1; omega
  have b2 : bt (cmdH o s u d ++ y) 2 = u := by have : bt (cmdH o s u d ++ y) 2 = (u.toNat : Int) := m2; omega
  have b3 : bt (cmdH o s u d ++ y) 3 = o := by have : bt (cmdH o s u d ++ y) 3 = (o.toNat : Int) := m3; omega
  rw [cmdJ_fine _ _ _ (by omega) b0 (by omega), b1, b2, b3, hX, show 6 + d.size - 2 = 4 + d.size by omega]
  have m5 : (cmdH o s u d ++ y).extract 4 (4 + d.size) = d := m4
  rw [m5]
/-- Two bytes at the end of a packet's data lie at the packet's end. -/
theorem cmd_parts (x : ByteArray) (h : 6 ≤ x.size) (h0 : bt x 0 = 47) : x = cmdH (bt x 3) (bt x 1) (bt x 2) (x.extract 4 (x.size - 2)) ++ x.extract (x.size - 2) x.size := by
  have hb : ∀ i : Nat, i < x.size → bs (bt x (i : Int)).toNat 1 = x.extract i (i + 1) := fun i hi => by rw [← one_byte x i hi]; exact bs_num x i 1 (by omega)
  have z0 : (⟨#[47]⟩ : ByteArray) = x.extract 0 1 := by
    have := hb 0 (by omega)
    rw [show ((0 : Nat) : Int) = 0 from rfl, h0] at this
    rw [← this]
    decide
  have z1 := hb 1 (by omega)
  have z2 := hb 2 (by omega)
  have z3 := hb 3 (by omega)
  unfold cmdH
  rw [show ((1 : Nat) : Int) = 1 from rfl] at z1
  rw [show ((2 : Nat) : Int) = 2 from rfl] at z2
  rw [show ((3 : Nat) : Int) = 3 from rfl] at z3
  rw [z0, z1, z2, z3]
  apply bytes_inj
  simp only [bytesOf_append, bytesOf_extract]
  have hl := bytesOf_length x
  generalize bytesOf x = l at hl
  rw [← hl] at h ⊢
  match l, h with
  | v0 :: v1 :: v2 :: v3 :: l, h =>
    simp only [List.length_cons, List.drop_succ_cons, List.drop_zero, List.take_succ_cons, List.take_zero, List.append_assoc, List.cons_append, List.nil_append, Nat.sub_zero]
    have hL : l.length + 1 + 1 + 1 + 1 - 2 = (l.length - 2) + 4 := by simp at h; omega
    rw [hL]
    simp only [Nat.add_sub_cancel]
    have e1 : List.drop (l.length - 2 + 4) (v0 :: v1 :: v2 :: v3 :: l) = List.drop (l.length - 2) l := rfl
    rw [e1, List.take_of_length_le (l := List.drop (l.length - 2) l) (by rw [List.length_drop]; omega), List.take_append_drop]
theorem cmdGet_tells (t : ByteArray) (h : (cmdGet t).2.2.2.2.2.2 = 0) : cmdS (cmdGet t).1 (cmdGet t).2.1 (cmdGet t).2.2.1 (cmdGet t).2.2.2.1 (cmdGet t).2.2.2.2.1 (cmdGet t).2.2.2.2.2.1 = t := by
  have hn := packetGet_tells t 0
  unfold cmdGet at h ⊢
  generalize packetGet t 0 = p at h hn ⊢
  obtain ⟨v, a, c, x, n⟩ := p
  unfold cmdOf at h ⊢
  by_cases h1 : n ≠ 0 ∧ n = (t.size : Int)
  · have e1 : (if n ≠ 0 ∧ n = (t.size : Int) then cmdK t v a c x else noCmd 1) = cmdK t v a c x := if_pos h1
    simp only at h ⊢
    rw [e1] at h ⊢
    obtain ⟨_, _, _, hS⟩ := hn h1.1
    simp only at hS
    unfold cmdK at h ⊢
    cases v with
    | false => exact absurd h (by simp [noCmd])
    | true =>
      rw [if_pos rfl] at h ⊢
      by_cases h2 : x.size < 2
      · rw [if_pos h2] at h; exact absurd h (by simp [noCmd])
      · rw [if_neg h2] at h ⊢
        by_cases hq : (crcN (t.extract 0 (t.size - 2)) : Int) = num t (t.size - 2) 2
        · rw [bne_eq_false_iff_eq.2 hq] at h ⊢
          by_cases h6 : x.size < 6
          · rw [cmdJ_small _ _ _ h6] at h; exact absurd h (by simp [noCmd])
          · by_cases h0 : bt x 0 = 47
            · by_cases h66 : x.size > 66
              · rw [cmdJ_long _ _ _ h6 h0 h66] at h; exact absurd h (by simp [noCmd])
              · rw [cmdJ_fine _ _ _ h6 h0 h66]
                show cmdS a c (bt x 3) (bt x 1) (bt x 2) (x.extract 4 (x.size - 2)) = t
                have hT : packetS true a c x = t := by
                  rw [hS, h1.2]
                  have e2 : (0 + (t.size : Int)).toNat = t.size := by omega
                  rw [e2]
                  apply bytes_inj
                  rw [bytesOf_extract]
                  have := bytesOf_length t
                  simp [← this]
                have hP : packetB a c x = true := by
                  by_cases hP : packetB a c x = true
                  · exact hP
                  · unfold packetS at hT
                    rw [if_neg hP] at hT
                    have : (⟨#[]⟩ : ByteArray).size = 0 := rfl
                    rw [hT] at this
                    exact absurd h1.2 (fun e => h1.1 (by omega))
                obtain ⟨ra, rc, rx⟩ := packetB_range hP
                have hT2 : packetT true a c x = t := by unfold packetS at hT; rw [if_pos hP] at hT; exact hT
                have hx := cmd_parts x (by omega) h0
                have hd : (x.extract 4 (x.size - 2)).size = x.size - 6 := by rw [ByteArray.size_extract]; omega
                have hy : (x.extract (x.size - 2) x.size).size = 2 := by rw [ByteArray.size_extract]; omega
                have c1 := bt_byte x 1
                have c2 := bt_byte x 2
                have c3 := bt_byte x 3
                unfold Byte at c1 c2 c3
                generalize bt x 1 = s at *
                generalize bt x 2 = u at *
                generalize bt x 3 = o at *
                generalize x.extract 4 (x.size - 2) = d at *
                generalize x.extract (x.size - 2) x.size = y at *
                have hB : cmdB a c o s u d = true := by
                  unfold cmdB
                  simp only [Bool.and_eq_true, inB_true, decide_eq_true_eq]
                  omega
                have hT3 : cmdA a c o s u d ++ y = t := by rw [← packetT_two _ _ _ _ _ _ _ hy, ← hx, hT2]
                have hA : t.extract 0 (t.size - 2) = cmdA a c o s u d := by rw [← hT3]; exact cut_two _ _ hy
                have hlast : bs (crcN (cmdA a c o s u d)) 2 = y := by
                  have hts : t.size = (cmdA a c o s u d).size + 2 := by rw [← hT3, ByteArray.size_append, hy]
                  have := (sum_is t (t.size - 2) _ (crcN_lt _) (by omega)).2 hq
                  rw [hA] at this
                  rw [this]
                  have e3 := extract_at (s := cmdA a c o s u d) (d := y) (u := ⟨#[]⟩) (t := t) (by rw [append_empty, hT3])
                  rw [show t.size - 2 = (cmdA a c o s u d).size by omega, hts, ← hy]
                  exact e3
                unfold cmdS
                rw [if_pos hB, hlast, hT3]
            · rw [cmdJ_other _ _ _ h6 h0] at h; exact absurd h (by simp [noCmd])
        · rw [bne_iff_ne.2 hq] at h; exact absurd h (by simp [cmdJ_bad, noCmd])
  · have e1 : (if n ≠ 0 ∧ n = (t.size : Int) then cmdK t v a c x else noCmd 1) = noCmd 1 := if_neg h1
    simp only at h
    rw [e1] at h
    exact absurd h (by simp [noCmd])
end Go.Proofs.YtpehnincnpnggaaDoor.Cmd
