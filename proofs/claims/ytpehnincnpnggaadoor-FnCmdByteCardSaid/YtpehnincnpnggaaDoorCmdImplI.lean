/- A command out of bytes, in plain Lean: the program's and the reference's are one. No conditions. -/
import Derived.Test.YtpehnincnpnggaaDoorPx6
import Derived.Test.YtpehnincnpnggaaDoorPx7
import Derived.Test.YtpehnincnpnggaaDoorPacketSizeI
import Derived.Test.YtpehnincnpnggaaDoorCrcEv
namespace Go.Proofs.YtpehnincnpnggaaDoor.Cmd
open Go.RowKit Go.Proofs.YtpehnincnpnggaaDoor.P Go.Proofs.YtpehnincnpnggaaDoor.E Go.Proofs.YtpehnincnpnggaaDoor.Num Go.Proofs.YtpehnincnpnggaaDoor.Get Go.Proofs.YtpehnincnpnggaaDoor.In Go.Proofs.YtpehnincnpnggaaDoor.Packet Go.Proofs.YtpehnincnpnggaaDoor.CrcEv Go.Proofs.YtpehnincnpnggaaDoorW.PrintWords
set_option linter.unusedSimpArgs false
set_option linter.unusedVariables false
abbrev CmdR := Int × Int × Int × Int × Int × ByteArray × Int
def noCmd (e : Int) : CmdR := (0, 0, 0, 0, 0, ⟨#[]⟩, e)
def cmdJ (bad : Bool) (a c : Int) (d : ByteArray) : CmdR :=
  if bad = true then noCmd 2 else if d.size < 6 then noCmd 3 else if bt d 0 = 47 then (if d.size > 66 then noCmd 3 else (a, c, bt d 3, bt d 1, bt d 2, d.extract 4 (d.size - 2), 0)) else noCmd 3
theorem cmdJ_bad (a c : Int) (d : ByteArray) : cmdJ true a c d = noCmd 2 := rfl
theorem cmdJ_small (a c : Int) (d : ByteArray) (h : d.size < 6) : cmdJ false a c d = noCmd 3 := by unfold cmdJ; rw [if_neg (show ¬ (false = true) by simp), if_pos h]
theorem cmdJ_other (a c : Int) (d : ByteArray) (h : ¬ d.size < 6) (h0 : ¬ bt d 0 = 47) : cmdJ false a c d = noCmd 3 := by unfold cmdJ; rw [if_neg (show ¬ (false = true) by simp), if_neg h, if_neg h0]
theorem cmdJ_long (a c : Int) (d : ByteArray) (h : ¬ d.size < 6) (h0 : bt d 0 = 47) (h6 : d.size > 66) : cmdJ false a c d = noCmd 3 := by unfold cmdJ; rw [if_neg (show ¬ (false = true) by simp), if_neg h, if_pos h0, if_pos h6]
theorem cmdJ_fine (a c : Int) (d : ByteArray) (h : ¬ d.size < 6) (h0 : bt d 0 = 47) (h6 : ¬ d.size > 66) : cmdJ false a c d = (a, c, bt d 3, bt d 1, bt d 2, d.extract 4 (d.size - 2), 0) := by unfold cmdJ; rw [if_neg (show ¬ (false = true) by simp), if_neg h, if_pos h0, if_neg h6]
theorem first_is (d : ByteArray) (h : 1 ≤ d.size) : (d.extract 0 1).toList = ([47] : List UInt8) ↔ bt d 0 = 47 := by
  have e1 : ([47] : List UInt8) = (⟨#[47]⟩ : ByteArray).toList := by rw [ByteArray.toList_eq]
  rw [e1, str_eq, bt_nat (by omega) (by omega)]
  have e2 : bytesOf (⟨#[47]⟩ : ByteArray) = [47] := by decide
  have e3 : bytesOf (d.extract 0 1) = [(bytesOf d).getD 0 0] := by
    have hl := bytesOf_length d
    rw [bytesOf_extract]
    generalize bytesOf d = l at hl
    cases l with
    | nil => simp at hl; omega
    | cons x l => simp
  constructor
  · intro hx
    rw [hx, e2] at e3
    have := List.cons.inj e3
    exact this.1.symm
  · intro hx
    apply bytes_inj
    rw [e3, e2]
    have : (bytesOf d).getD 0 0 = 47 := hx
    rw [this]
theorem implJ1_ev (bad u : Bool) (a c : Int) (d : ByteArray) (hs : d.size ≤ 4611686018427387904) : Ev (fun k => impl_CmdGet.j1 k bad u a c d) (cmdJ bad a c d) := by
  refine Ev.step (fun k => by rw [impl_CmdGet.j1]) ?_
  cases bad with
  | true => exact Ev.iteT rfl (Ev.now _)
  | false =>
    refine Ev.iteF (by simp) ?_
    rw [wrap64_id (x := (d.size : Int) - 6) (by omega) (by omega)]
    by_cases h6 : d.size < 6
    · rw [cmdJ_small _ _ _ h6]
      exact Ev.iteT (by omega) (Ev.now _)
    · refine Ev.iteF (by omega) (Ev.iteT (by omega) (Ev.iteT (by omega) ?_))
      by_cases h0 : bt d 0 = 47
      · refine Ev.iteT ((first_is d (by omega)).2 h0) ?_
        by_cases h66 : d.size > 66
        · rw [cmdJ_long _ _ _ h6 h0 h66]
          exact Ev.iteT (by omega) (Ev.now _)
        · rw [cmdJ_fine _ _ _ h6 h0 h66, wrap64_id (x := 4 + ((d.size : Int) - 6)) (by omega) (by omega)]
          refine Ev.iteF (by omega) (Ev.iteT (by omega) (Ev.iteT (by omega) (Ev.iteT (by omega) (Ev.iteT (by omega) (Ev.iteT (by omega) (Ev.eq (Ev.now _) ?_))))))
          have b1 := bt_byte d 1
          have b2 := bt_byte d 2
          have b3 := bt_byte d 3
          unfold Byte at b1 b2 b3
          rw [wrap64_id (x := bt d 1) (by omega) (by omega), wrap64_id (x := bt d 2) (by omega) (by omega), wrap64_id (x := bt d 3) (by omega) (by omega), show (4 + ((d.size : Int) - 6)).toNat = d.size - 2 by omega]
      · rw [cmdJ_other _ _ _ h6 h0]
        exact Ev.iteF (fun e => h0 ((first_is d (by omega)).1 e)) (Ev.now _)
theorem bs_num (t : ByteArray) (p n : Nat) (h : p + n ≤ t.size) : bs (num t p n).toNat n = t.extract p (p + n) := by
  apply bytes_inj
  rw [bytesOf_bs, bytesOf_extract, Nat.add_sub_cancel_left]
  exact nb_gv n _ (by rw [List.length_take, List.length_drop, bytesOf_length]; omega) (fun x hx => bytesOf_byte t x (List.mem_of_mem_drop (List.mem_of_mem_take hx)))
theorem num_bs (m n : Nat) (hm : m < 256 ^ n) : num (bs m n) 0 n = (m : Int) := by
  have := num_at (s := ⟨#[]⟩) (u := ⟨#[]⟩) (t := bs m n) n m hm (by rw [empty_append, append_empty])
  exact this
theorem sum_is (t : ByteArray) (p q : Nat) (hq : q < 65536) (h : p + 2 = t.size) : bs q 2 = t.extract p t.size ↔ (q : Int) = num t p 2 := by
  rw [← h]
  constructor
  · intro e
    have h1 := num_bs q 2 (by simpa using hq)
    rw [e, num_extract t p (p + 2) 0 2 (by omega) (by omega)] at h1
    exact h1.symm
  · intro e
    rw [← bs_num t p 2 (by omega), ← e]
    rfl
def cmdK (t : ByteArray) (u : Bool) (a c : Int) (d : ByteArray) : CmdR :=
  if u = true then (if d.size < 2 then noCmd 2 else cmdJ ((crcN (t.extract 0 (t.size - 2)) : Int) != num t (t.size - 2) 2) a c d) else noCmd 1
def cmdOf (t : ByteArray) (p : PacketR) : CmdR := if p.2.2.2.2 ≠ 0 ∧ p.2.2.2.2 = (t.size : Int) then cmdK t p.1 p.2.1 p.2.2.1 p.2.2.2.1 else noCmd 1
def cmdGet (t : ByteArray) : CmdR := cmdOf t (packetGet t 0)
theorem packetGet_n (t : ByteArray) : (packetGet t 0).2.2.2.2 ≤ 65542 ∧ ((packetGet t 0).2.2.2.2 ≠ 0 → 7 ≤ (packetGet t 0).2.2.2.2) := by
  show (packetAt t 0).2.2.2.2 ≤ 65542 ∧ ((packetAt t 0).2.2.2.2 ≠ 0 → 7 ≤ (packetAt t 0).2.2.2.2)
  unfold packetAt
  by_cases h2 : 0 + 7 ≤ t.size ∧ 0 + pZ t 0 ≤ t.size ∧ pS t 0 = t.extract 0 (0 + pZ t 0)
  · rw [if_pos h2]
    obtain ⟨z0, z1⟩ := n2 t (0 + 4) (by omega)
    show (pZ t 0 : Int) ≤ 65542 ∧ ((pZ t 0 : Int) ≠ 0 → 7 ≤ (pZ t 0 : Int))
    unfold pZ
    omega
  · rw [if_neg h2]
    exact ⟨by decide, fun e => absurd rfl e⟩
theorem implJ0_ev (t d : ByteArray) (u : Bool) (a c : Int) (ht : 7 ≤ t.size) (ht2 : t.size ≤ 65542) (hs : d.size ≤ t.size) : Ev (fun k => impl_CmdGet.j0 k t (!u) u a c d) (cmdK t u a c d) := by
  refine Ev.step (fun k => by rw [impl_CmdGet.j0]) ?_
  unfold cmdK
  cases u with
  | false => exact Ev.iteT rfl (Ev.now _)
  | true =>
    rw [if_pos rfl]
    refine Ev.iteF (by simp) ?_
    by_cases h2 : d.size < 2
    · rw [if_pos h2]
      exact Ev.iteT (by omega) (implJ1_ev true _ _ _ _ (by omega))
    · rw [if_neg h2, wrap64_id (x := (t.size : Int) - 2) (by omega) (by omega)]
      have e : (t.size : Int) - 2 = ((t.size - 2 : Nat) : Int) := by omega
      rw [e]
      refine Ev.iteF (by omega) (Ev.iteT (by omega) (Ev.iteT (by omega) ?_))
      rw [Int.toNat_natCast]
      have hz : (t.extract 0 (t.size - 2)).size = t.size - 2 := by rw [ByteArray.size_extract]; omega
      have hl := crcN_lt (t.extract 0 (t.size - 2))
      refine Ev.bindc (implCrc_at _ (by omega)) (Ev.bind (NumPut_in _ 2 (by omega) (by show _ < (65536 : Int); omega) (by omega) (by omega)) ?_)
      rw [Int.toNat_natCast]
      have eb : ((bs (crcN (t.extract 0 (t.size - 2))) 2).toList != (t.extract (t.size - 2) t.size).toList) = ((crcN (t.extract 0 (t.size - 2)) : Int) != num t (t.size - 2) 2) := by
        have := sum_is t (t.size - 2) _ hl (by omega)
        by_cases hq : (crcN (t.extract 0 (t.size - 2)) : Int) = num t (t.size - 2) 2
        · rw [bne_eq_false_iff_eq.2 hq, bne_eq_false_iff_eq.2 (str_eq.2 (this.2 hq))]
        · rw [bne_iff_ne.2 hq, bne_iff_ne.2 (fun x => hq (this.1 (str_eq.1 x)))]
      rw [eb]
      exact implJ1_ev _ _ _ _ _ (by omega)
theorem implGet_ev (t : ByteArray) (hs : t.size ≤ 140737488355328) : Ev (fun k => impl_CmdGet.f k t) (cmdGet t) := by
  have hz := Rep.packetGet_size t 0
  have hn := packetGet_n t
  have hp := Packet.implGet_ev t 0 hs
  unfold cmdGet
  generalize packetGet t 0 = p at hz hn hp ⊢
  have bad : ∀ (u : Bool) (a c : Int) (d : ByteArray), Ev (fun k => impl_CmdGet.j0 k t true u a c d) (noCmd 1) := fun u a c d => by
    refine Ev.step (fun k => by rw [impl_CmdGet.j0]) ?_
    exact Ev.iteT rfl (Ev.now _)
  unfold impl_CmdGet.f impl_packetOnly.f cmdOf
  by_cases h0 : p.2.2.2.2 = 0
  · rw [if_neg (fun x => x.1 h0)]
    exact Ev.bind (Ev.bind hp (Ev.iteT h0 (Ev.now _))) (Ev.iteF (by simp) (bad _ _ _ _))
  · by_cases h1 : p.2.2.2.2 = (t.size : Int)
    · rw [if_pos ⟨h0, h1⟩]
      refine Ev.bind (Ev.bind hp (Ev.iteF h0 (Ev.iteT h1 (Ev.now _)))) (Ev.iteT rfl ?_)
      exact implJ0_ev t _ _ _ _ (by have := hn.2 h0; omega) (by omega) hz
    · rw [if_neg (fun x => h1 x.2)]
      exact Ev.bind (Ev.bind hp (Ev.iteF h0 (Ev.iteF h1 (Ev.now _)))) (Ev.iteF (by simp) (bad _ _ _ _))
end Go.Proofs.YtpehnincnpnggaaDoor.Cmd
