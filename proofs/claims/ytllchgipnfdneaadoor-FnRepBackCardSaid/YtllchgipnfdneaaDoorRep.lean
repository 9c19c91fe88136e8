/- What is told, in bytes and out of bytes, in plain Lean: the program's and the reference's are one. No conditions. -/
import Derived.Test.YtllchgipnfdneaaDoorPx5
import Derived.Test.YtllchgipnfdneaaDoorPx6
import Derived.Test.YtllchgipnfdneaaDoorPx8
import Derived.Test.YtllchgipnfdneaaDoorPx9
import Derived.Test.YtllchgipnfdneaaDoorPx16
import Derived.Test.YtllchgipnfdneaaDoorPx17
import Derived.Test.YtllchgipnfdneaaDoorPx18
import Derived.Test.YtllchgipnfdneaaDoorPx19
import Derived.Test.YtllchgipnfdneaaDoorPacketGet
namespace Go.Proofs.YtllchgipnfdneaaDoor.Rep
open Go.RowKit Go.Proofs.YtllchgipnfdneaaDoor.P Go.Proofs.YtllchgipnfdneaaDoor.E Go.Proofs.YtllchgipnfdneaaDoor.Num Go.Proofs.YtllchgipnfdneaaDoor.Get Go.Proofs.YtllchgipnfdneaaDoor.In Go.Proofs.YtllchgipnfdneaaDoor.Packet Go.Proofs.YtllchgipnfdneaaDoorW.PrintWords
set_option linter.unusedSimpArgs false
set_option linter.unusedVariables false
def repB (a c s u m : Int) (d : ByteArray) : Bool := inB a 0 2046 && (inB c 0 16383 && (inB s 0 255 && (inB u 0 255 && (inB m 0 99999 && decide ((d.size : Int) ≤ 60)))))
def repD (s u m : Int) (d : ByteArray) : ByteArray := (⟨#[32]⟩ : ByteArray) ++ bs s.toNat 1 ++ bs u.toNat 1 ++ bs m.toNat 4 ++ d
def repS (a c s u m : Int) (d : ByteArray) : ByteArray := if repB a c s u m d = true then packetS false a c (repD s u m d) else ⟨#[]⟩
theorem repB_range {a c s u m : Int} {d : ByteArray} (h : repB a c s u m d = true) : (0 ≤ a ∧ a ≤ 2046) ∧ (0 ≤ c ∧ c ≤ 16383) ∧ (0 ≤ s ∧ s ≤ 255) ∧ (0 ≤ u ∧ u ≤ 255) ∧ (0 ≤ m ∧ m ≤ 99999) ∧ d.size ≤ 60 := by
  unfold repB at h
  simp only [Bool.and_eq_true, inB_true, decide_eq_true_eq] at h
  omega
theorem one_size : (⟨#[32]⟩ : ByteArray).size = 1 := rfl
theorem repD_size (s u m : Int) (d : ByteArray) : (repD s u m d).size = 7 + d.size := by
  unfold repD
  simp only [ByteArray.size_append, bs_size, one_size]
theorem repB_packet {a c s u m : Int} {d : ByteArray} (h : repB a c s u m d = true) : packetB a c (repD s u m d) = true := by
  obtain ⟨ha, hc, hs, hu, hm, hd⟩ := repB_range h
  unfold packetB
  simp only [Bool.and_eq_true, inB_true, repD_size]
  omega
theorem specOk_at (a c s u m : Int) (d : ByteArray) : spec_l6RepOk.f a c s u m d = some (repB a c s u m d) := by
  unfold spec_l6RepOk.f repB
  simp only [l1In_at]
  cases inB a 0 2046 <;> cases inB c 0 16383 <;> cases inB s 0 255 <;> cases inB u 0 255 <;> cases inB m 0 99999 <;> rfl
theorem implOk_at (a c s u m : Int) (d : ByteArray) : impl_repOk.f a c s u m d = some (repB a c s u m d) := by
  unfold impl_repOk.f repB
  simp only [within_at]
  cases inB a 0 2046 <;> cases inB c 0 16383 <;> cases inB s 0 255 <;> cases inB u 0 255 <;> cases inB m 0 99999 <;> rfl
theorem specPut6_ev (u : Bool) (a c : Int) (d : ByteArray) (h : packetB a c d = true) : Ev (fun k => spec_l6Put.f k u a c d) (packetS u a c d) := by
  obtain ⟨k0, hk⟩ := specPut_ev u a c d
  refine ⟨k0, fun k g => ?_⟩
  have this : spec_PacketPut.f k u a c d = some (packetS u a c d) := hk k g
  show spec_l6Put.f k u a c d = some (packetS u a c d)
  unfold spec_PacketPut.f at this
  rw [Packet.specOk_at, Option.bind_some, if_pos h] at this
  cases hq : spec_l6Put.f k u a c d with
  | none => rw [hq] at this; exact absurd this (by simp)
  | some y => rw [hq] at this; simpa using this
theorem specPut_ev (a c s u m : Int) (d : ByteArray) : Ev (fun k => spec_RepPut.f k a c s u m d) (repS a c s u m d) := by
  unfold spec_RepPut.f
  refine Ev.bindc (specOk_at a c s u m d) ?_
  unfold repS
  by_cases h : repB a c s u m d = true
  · rw [if_pos h]
    obtain ⟨ha, hc, hs, hu, hm, hd⟩ := repB_range h
    refine Ev.iteT h (Ev.bind ?_ (Ev.now _))
    unfold spec_l6Rep.f
    refine Ev.bind (l1Put_at s 1 (by omega) (by omega) (by omega) trivial) (Ev.iteT (by rw [bs_size]; omega) ?_)
    refine Ev.bind (l1Put_at u 1 (by omega) (by omega) (by omega) trivial) (Ev.iteT (by rw [bs_size, bs_size]; omega) ?_)
    refine Ev.bind (l1Put_at m 4 (by omega) (by omega) (by omega) trivial) (Ev.iteT (by rw [bs_size, bs_size, bs_size]; omega) (Ev.iteT (by rw [bs_size, bs_size, bs_size]; omega) ?_))
    exact Ev.bind (specPut6_ev false a c (repD s u m d) (repB_packet h)) (Ev.now _)
  · rw [if_neg h]
    exact Ev.iteF h (Ev.now _)
theorem implPut_ev (a c s u m : Int) (d : ByteArray) : Ev (fun k => impl_RepPut.f k a c s u m d) (repS a c s u m d) := by
  unfold impl_RepPut.f
  refine Ev.bindc (implOk_at a c s u m d) ?_
  unfold repS
  by_cases h : repB a c s u m d = true
  · rw [if_pos h]
    obtain ⟨ha, hc, hs, hu, hm, hd⟩ := repB_range h
    refine Ev.iteT h (Ev.iteT (by omega) ?_)
    refine Ev.bind (NumPut_in s 1 (by omega) (by show _ < (256 : Int); omega) (by omega) (by omega)) ?_
    refine Ev.bind (NumPut_in u 1 (by omega) (by show _ < (256 : Int); omega) (by omega) (by omega)) ?_
    refine Ev.bind (NumPut_in m 4 (by omega) (by show _ < (4294967296 : Int); omega) (by omega) (by omega)) ?_
    refine Ev.iteT (by rw [bs_size, bs_size, bs_size]; omega) ?_
    have e : strOfNums (bytesOf ⟨#[32]⟩ ++ (bytesOf (bs s.toNat 1) ++ (bytesOf (bs u.toNat 1) ++ (bytesOf (bs m.toNat 4) ++ bytesOf d)))) = repD s u m d := by
      unfold repD
      simp only [strOfNums_append, strOf_bytesOf, ByteArray.append_assoc]
    rw [e]
    exact Packet.implPut_ev false a c (repD s u m d)
  · rw [if_neg h]
    exact Ev.iteF h (Ev.now _)
abbrev RepR := Int × Int × Int × Int × Int × ByteArray × Bool
def noRep : RepR := (0, 0, 0, 0, 0, ⟨#[]⟩, false)
def repP (a c : Int) (d : ByteArray) : ByteArray := repS a c (bt d 1) (bt d 2) (num d 3 4) (d.extract 7 d.size)
def repOf (t : ByteArray) (p : PacketR) : RepR :=
  if p.2.2.2.2 ≠ 0 ∧ p.2.2.2.2 = (t.size : Int) ∧ 7 ≤ p.2.2.2.1.size then
    if repP p.2.1 p.2.2.1 p.2.2.2.1 = t then (p.2.1, p.2.2.1, bt p.2.2.2.1 1, bt p.2.2.2.1 2, num p.2.2.2.1 3 4, p.2.2.2.1.extract 7 p.2.2.2.1.size, true) else noRep
  else noRep
def repGet (t : ByteArray) : RepR := repOf t (packetGet t 0)
theorem packetGet_size (t : ByteArray) (a : Int) : (packetGet t a).2.2.2.1.size ≤ t.size := by
  unfold packetGet
  by_cases h : 0 ≤ a
  · rw [if_pos h]
    unfold packetAt
    by_cases h2 : a.toNat + 7 ≤ t.size ∧ a.toNat + pZ t a.toNat ≤ t.size ∧ pS t a.toNat = t.extract a.toNat (a.toNat + pZ t a.toNat)
    · rw [if_pos h2]
      show (pD t a.toNat).size ≤ t.size
      unfold pD
      rw [ByteArray.size_extract]
      omega
    · rw [if_neg h2]
      exact Nat.zero_le _
  · rw [if_neg h]
    exact Nat.zero_le _
theorem num_one (t : ByteArray) (a : Nat) (h : a < t.size) : num t a 1 = bt t (a : Int) := by
  rw [num_succ t a 0 (by omega), num_zero]
  simp
theorem specJ_ev (t d : ByteArray) (u : Bool) (a c : Int) (hd : 7 ≤ d.size) (hs : d.size ≤ 4611686018427387904) : Ev (fun k => spec_RepGet.j0 k t false u a c d) (if repP a c d = t then (a, c, bt d 1, bt d 2, num d 3 4, d.extract 7 d.size, true) else noRep) := by
  refine Ev.step (fun k => by rw [spec_RepGet.j0]) ?_
  have b1 := bt_byte d 1
  have b2 := bt_byte d 2
  unfold Byte at b1 b2
  rw [wrap64_id (x := bt d 1) (by omega) (by omega), wrap64_id (x := bt d 2) (by omega) (by omega)]
  refine Ev.iteF (by simp) (Ev.iteT (by omega) (Ev.iteT (by omega) (Ev.bind (l1Get_ev d 3 4 (by omega) (by omega) hs) (Ev.iteT (by omega) (Ev.bind (specPut_ev _ _ _ _ _ _) ?_)))))
  by_cases h : repP a c d = t
  · rw [if_pos h]
    exact Ev.iteT (str_eq.2 h) (Ev.now _)
  · rw [if_neg h]
    exact Ev.iteF (fun e => h (str_eq.1 e)) (Ev.now _)
theorem number1_in (x : ByteArray) (i : Nat) (p : Int) (h : i + 1 ≤ x.size) (hs : x.size ≤ 140737488355328) : Ev (fun k => impl_reader_number.f k x i p false 1) (num x i 1, x, ((i + 1 : Nat) : Int), prevOf 1 p, false) := by
  unfold impl_reader_number.f
  refine Ev.bindc (take_in x i p 1 (by omega) (by omega) hs) ?_
  have hz : (x.extract i (i + 1)).size = 1 := by rw [ByteArray.size_extract]; omega
  refine Ev.bind (NumGet_in (x.extract i (i + 1)) 0 1 (by omega) (by omega) (by omega) (by omega)) (Ev.iteT rfl (Ev.eq (Ev.now _) ?_))
  rw [num_extract x i (i + 1) 0 1 (by omega) (by omega)]
  rfl
theorem number4_in (x : ByteArray) (i : Nat) (p : Int) (h : i + 4 ≤ x.size) (hs : x.size ≤ 140737488355328) : Ev (fun k => impl_reader_number.f k x i p false 4) (num x i 4, x, ((i + 4 : Nat) : Int), prevOf 4 p, false) := by
  unfold impl_reader_number.f
  refine Ev.bindc (take_in x i p 4 (by omega) (by omega) hs) ?_
  have hz : (x.extract i (i + 4)).size = 4 := by rw [ByteArray.size_extract]; omega
  refine Ev.bind (NumGet_in (x.extract i (i + 4)) 0 4 (by omega) (by omega) (by omega) (by omega)) (Ev.iteT rfl (Ev.eq (Ev.now _) ?_))
  rw [num_extract x i (i + 4) 0 4 (by omega) (by omega)]
  rfl
theorem implJ_ev (t d : ByteArray) (u : Bool) (a c : Int) (hd : 7 ≤ d.size) (hs : d.size ≤ 140737488355328) : Ev (fun k => impl_RepGet.j0 k t false u a c d) (if repP a c d = t then (a, c, bt d 1, bt d 2, num d 3 4, d.extract 7 d.size, true) else noRep) := by
  refine Ev.step (fun k => by rw [impl_RepGet.j0]) ?_
  have hx : (d.extract 1 d.size).size = d.size - 1 := by rw [ByteArray.size_extract]; omega
  refine Ev.iteF (by simp) (Ev.iteT (by omega) (Ev.bindc (show impl_readerOf.f (d.extract 1 d.size) = some (d.extract 1 d.size, 0, -1, false) from rfl) ?_))
  refine Ev.bind (number1_in (d.extract 1 d.size) 0 _ (by omega) (by omega)) (Ev.bind (number1_in (d.extract 1 d.size) 1 _ (by omega) (by omega)) (Ev.bind (number4_in (d.extract 1 d.size) 2 _ (by omega) (by omega)) (Ev.iteT (by omega) ?_)))
  have e1 : num (d.extract 1 d.size) 0 1 = bt d 1 := by rw [num_extract d 1 d.size 0 1 (by omega) (Nat.le_refl _), num_one d _ (by omega)]; rfl
  have e2 : num (d.extract 1 d.size) 1 1 = bt d 2 := by rw [num_extract d 1 d.size 1 1 (by omega) (Nat.le_refl _), num_one d _ (by omega)]; rfl
  have e3 : num (d.extract 1 d.size) 2 4 = num d 3 4 := by rw [num_extract d 1 d.size 2 4 (by omega) (Nat.le_refl _)]
  rw [e1, e2, e3]
  refine Ev.bind (implPut_ev _ _ _ _ _ _) ?_
  by_cases h : repP a c d = t
  · rw [if_pos h]
    exact Ev.iteT (str_eq.2 h) (Ev.now _)
  · rw [if_neg h]
    exact Ev.iteF (fun e => h (str_eq.1 e)) (Ev.now _)
theorem repOf_no {t : ByteArray} {p : PacketR} (h : ¬ (p.2.2.2.2 ≠ 0 ∧ p.2.2.2.2 = (t.size : Int) ∧ 7 ≤ p.2.2.2.1.size)) : repOf t p = noRep := by unfold repOf; rw [if_neg h]
theorem repOf_yes {t : ByteArray} {p : PacketR} (h : p.2.2.2.2 ≠ 0 ∧ p.2.2.2.2 = (t.size : Int) ∧ 7 ≤ p.2.2.2.1.size) : repOf t p = if repP p.2.1 p.2.2.1 p.2.2.2.1 = t then (p.2.1, p.2.2.1, bt p.2.2.2.1 1, bt p.2.2.2.1 2, num p.2.2.2.1 3 4, p.2.2.2.1.extract 7 p.2.2.2.1.size, true) else noRep := by unfold repOf; rw [if_pos h]
theorem specGet_ev (t : ByteArray) (hs : t.size ≤ 4611686018427387904) : Ev (fun k => spec_RepGet.f k t) (repGet t) := by
  unfold spec_RepGet.f
  refine Ev.bind (Packet.specGet_ev t 0 (by omega) (by omega) hs) ?_
  have hz := packetGet_size t 0
  unfold repGet
  generalize packetGet t 0 = p at hz ⊢
  have bad : ∀ (u : Bool) (a c : Int) (d : ByteArray), Ev (fun k => spec_RepGet.j0 k t true u a c d) noRep := fun u a c d => by
    refine Ev.step (fun k => by rw [spec_RepGet.j0]) ?_
    exact Ev.iteT rfl (Ev.now _)
  by_cases h0 : p.2.2.2.2 = 0
  · rw [repOf_no (fun x => x.1 h0)]
    exact Ev.iteT h0 (bad _ _ _ _)
  · refine Ev.iteF h0 ?_
    by_cases h1 : p.2.2.2.2 = (t.size : Int)
    · refine Ev.iteT h1 ?_
      by_cases h2 : 7 ≤ p.2.2.2.1.size
      · rw [repOf_yes ⟨h0, h1, h2⟩, decide_eq_false (by omega)]
        exact specJ_ev t _ _ _ _ h2 (by omega)
      · rw [repOf_no (fun x => h2 x.2.2), decide_eq_true (by omega)]
        exact bad _ _ _ _
    · rw [repOf_no (fun x => h1 x.2.1)]
      exact Ev.iteF h1 (bad _ _ _ _)
theorem implGet_ev (t : ByteArray) (hs : t.size ≤ 140737488355328) : Ev (fun k => impl_RepGet.f k t) (repGet t) := by
  have hz := packetGet_size t 0
  have hp := Packet.implGet_ev t 0 hs
  unfold repGet
  generalize packetGet t 0 = p at hz hp ⊢
  have bad : ∀ (u : Bool) (a c : Int) (d : ByteArray), Ev (fun k => impl_RepGet.j0 k t true u a c d) noRep := fun u a c d => by
    refine Ev.step (fun k => by rw [impl_RepGet.j0]) ?_
    exact Ev.iteT rfl (Ev.now _)
  unfold impl_RepGet.f impl_packetOnly.f
  by_cases h0 : p.2.2.2.2 = 0
  · rw [repOf_no (fun x => x.1 h0)]
    exact Ev.bind (Ev.bind hp (Ev.iteT h0 (Ev.now _))) (Ev.iteF (by simp) (bad _ _ _ _))
  · by_cases h1 : p.2.2.2.2 = (t.size : Int)
    · refine Ev.bind (Ev.bind hp (Ev.iteF h0 (Ev.iteT h1 (Ev.now _)))) (Ev.iteT rfl ?_)
      by_cases h2 : 7 ≤ p.2.2.2.1.size
      · rw [repOf_yes ⟨h0, h1, h2⟩]
        show Ev (fun k => impl_RepGet.j0 k t (decide ((p.2.2.2.1.size : Int) < 7)) p.1 p.2.1 p.2.2.1 p.2.2.2.1) _
        rw [decide_eq_false (by omega)]
        exact implJ_ev t _ _ _ _ h2 (by omega)
      · rw [repOf_no (fun x => h2 x.2.2)]
        show Ev (fun k => impl_RepGet.j0 k t (decide ((p.2.2.2.1.size : Int) < 7)) p.1 p.2.1 p.2.2.1 p.2.2.2.1) _
        rw [decide_eq_true (by omega)]
        exact bad _ _ _ _
    · rw [repOf_no (fun x => h1 x.2.1)]
      exact Ev.bind (Ev.bind hp (Ev.iteF h0 (Ev.iteF h1 (Ev.now _)))) (Ev.iteF (by simp) (bad _ _ _ _))
end Go.Proofs.YtllchgipnfdneaaDoor.Rep
