/- A packet read out of bytes by the program is what the reference reads. Plain Lean, no conditions. -/
import Derived.Test.YtbldbjfmibhffaaDoorPx7
import Derived.Test.YtbldbjfmibhffaaDoorPx8
import Derived.Test.YtbldbjfmibhffaaDoorPx9
import Derived.Test.YtbldbjfmibhffaaDoorPacket
namespace Go.Proofs.YtbldbjfmibhffaaDoor.Packet
open Go.RowKit Go.Proofs.YtbldbjfmibhffaaDoor.P Go.Proofs.YtbldbjfmibhffaaDoor.E Go.Proofs.YtbldbjfmibhffaaDoor.Num Go.Proofs.YtbldbjfmibhffaaDoor.Get Go.Proofs.YtbldbjfmibhffaaDoor.In Go.Proofs.YtbldbjfmibhffaaDoorW.PrintWords
set_option linter.unusedSimpArgs false
set_option linter.unusedVariables false
theorem nil_list : (⟨#[]⟩ : ByteArray).toList = ([] : List UInt8) := by
  unfold ByteArray.toList
  unfold ByteArray.toList.loop
  rfl
theorem num_extract (t : ByteArray) (a b p n : Nat) (h : a + p + n ≤ b) (hb : b ≤ t.size) : num (t.extract a b) p n = num t (a + p) n := by
  unfold num
  rw [bytesOf_extract, List.drop_take, List.take_take, List.drop_drop]
  congr 2
  omega
theorem extract_extract_ (t : ByteArray) (a b p q : Nat) (h : a + q ≤ b) (hb : b ≤ t.size) : (t.extract a b).extract p q = t.extract (a + p) (a + q) := by
  apply bytes_inj
  rw [bytesOf_extract, bytesOf_extract, bytesOf_extract, List.drop_take, List.take_take, List.drop_drop]
  congr 1
  omega
theorem take_in (x : ByteArray) (i : Nat) (p n : Int) (h0 : 0 ≤ n) (h : (i : Int) + n ≤ x.size) (hs : x.size ≤ 140737488355328) : impl_reader_take.f x i p false n = some (x.extract i (i + n.toNat), x, i + n, prevOf n.toNat p, false) := by
  unfold impl_reader_take.f
  rw [if_pos (by omega), if_neg (by simp; omega), Int.toNat_natCast]
theorem take_bad (x : ByteArray) (i p n : Int) (b : Bool) (h0 : 0 ≤ i) (hi : i ≤ x.size) (h : b = true ∨ (x.size : Int) - i < n) (hs : x.size ≤ 140737488355328) : impl_reader_take.f x i p b n = some (⟨#[]⟩, x, i, p, true) := by
  unfold impl_reader_take.f
  rw [if_pos (by omega), if_pos (by rcases h with h | h; exact Or.inl h; exact Or.inr (Or.inr h))]
theorem number_in (x : ByteArray) (i : Nat) (p : Int) (h : i + 2 ≤ x.size) (hs : x.size ≤ 140737488355328) : Ev (fun k => impl_reader_number.f k x i p false 2) (num x i 2, x, ((i + 2 : Nat) : Int), prevOf 2 p, false) := by
  unfold impl_reader_number.f
  refine Ev.bindc (take_in x i p 2 (by omega) (by omega) hs) ?_
  have hz : (x.extract i (i + 2)).size = 2 := by rw [ByteArray.size_extract]; omega
  refine Ev.bind (NumGet_in (x.extract i (i + 2)) 0 2 (by omega) (by omega) (by omega) (by omega)) (Ev.iteT rfl (Ev.eq (Ev.now _) ?_))
  rw [num_extract x i (i + 2) 0 2 (by omega) (by omega)]
  rfl
theorem number_bad (x : ByteArray) (i p : Int) (b : Bool) (h0 : 0 ≤ i) (hi : i ≤ x.size) (h : b = true ∨ (x.size : Int) - i < 2) (hs : x.size ≤ 140737488355328) : Ev (fun k => impl_reader_number.f k x i p b 2) (0, x, i, p, true) := by
  unfold impl_reader_number.f
  refine Ev.bindc (take_bad x i p 2 b h0 hi h hs) ?_
  have hz : (⟨#[]⟩ : ByteArray).size = 0 := rfl
  exact Ev.bind (NumGet_out ⟨#[]⟩ 0 2 (by omega) (by omega) (by rw [hz]; omega) (by rw [hz]; omega)) (Ev.iteF (by simp) (Ev.now _))
theorem prefix_at (x p : ByteArray) (h : p.size ≤ x.size) : strings_HasPrefix.f x p = some ((x.extract 0 p.size).toList == p.toList) := by
  unfold strings_HasPrefix.f stringslite_HasPrefix.f
  rw [if_pos (by omega), if_pos (by omega), if_pos (by omega), Int.toNat_natCast]
  rfl
theorem same_packet (t : ByteArray) (b : Nat) (h6 : b + 6 ≤ t.size) (h : b + pZ t b ≤ t.size) : (packetS (pU t b) (pA t b) (num t (b + 2) 2 - 49152) (pD t b) = t.extract b (b + pZ t b) ↔ pS t b = t.extract b (b + pZ t b)) ∧ (pS t b = t.extract b (b + pZ t b) → num t (b + 2) 2 - 49152 = pC t b) := by
  obtain ⟨z0, z1⟩ := n2 t (b + 4) (by omega)
  have hz : 7 ≤ pZ t b := by unfold pZ; omega
  have k1 : pS t b = t.extract b (b + pZ t b) → num t (b + 2) 2 - 49152 = pC t b := fun e => by
    obtain ⟨_, _, m, _⟩ := packet_tells (show packetS (pU t b) (pA t b) (pC t b) (pD t b) = _ from e) (by omega) h
    omega
  refine ⟨⟨fun e => ?_, fun e => ?_⟩, k1⟩
  · obtain ⟨hB, _, m, _⟩ := packet_tells e (by omega) h
    obtain ⟨_, hc, _⟩ := packetB_range hB
    have : num t (b + 2) 2 - 49152 = pC t b := by unfold pC; omega
    rw [this] at e
    exact e
  · rw [k1 e]
    exact e
theorem implTail (t : ByteArray) (b : Nat) (h6 : b + 6 ≤ t.size) (h : b + pZ t b ≤ t.size) (hs : t.size ≤ 140737488355328) : Ev (fun k => (impl_PacketPut.f k (pU t b) (pA t b) (num t (b + 2) 2 - 49152) (pD t b)).bind fun s => if s.toList = ([] : List UInt8) then some noPacket else (strings_HasPrefix.f (t.extract b t.size) s).bind fun y => if y = true then some (pU t b, pA t b, num t (b + 2) 2 - 49152, pD t b, (s.size : Int)) else some noPacket) (packetAt t b) := by
  obtain ⟨z0, z1⟩ := n2 t (b + 4) (by omega)
  have hz : 7 ≤ pZ t b := by unfold pZ; omega
  obtain ⟨hiff, hc⟩ := same_packet t b h6 h
  have hE : (t.extract b (b + pZ t b)).size = pZ t b := by rw [ByteArray.size_extract]; omega
  have hx : (t.extract b t.size).size = t.size - b := by rw [ByteArray.size_extract]; omega
  have hxe : (t.extract b t.size).extract 0 (pZ t b) = t.extract b (b + pZ t b) := extract_extract_ t b t.size 0 (pZ t b) (by omega) (Nat.le_refl _)
  have hnil : ∀ s : ByteArray, s.toList = ([] : List UInt8) → s.size = 0 := fun s e => by
    have : s = (⟨#[]⟩ : ByteArray) := str_inj (by rw [e, nil_list])
    rw [this]; rfl
  refine Ev.bind (implPut_ev _ _ _ _) ?_
  by_cases h3 : pS t b = t.extract b (b + pZ t b)
  · rw [packetAt_yes (by omega) h h3, hiff.2 h3]
    refine Ev.iteF (fun e => by have := hnil _ e; omega) ?_
    refine Ev.bindc (prefix_at _ _ (by omega)) ?_
    rw [hE, hxe, hc h3]
    exact Ev.iteT (by simp) (Ev.now _)
  · rw [packetAt_no (fun x => h3 x.2.2)]
    have h4 := fun e => h3 (hiff.1 e)
    refine Ev.ite (fun _ => Ev.now _) (fun hne => ?_)
    have hz2 : (packetS (pU t b) (pA t b) (num t (b + 2) 2 - 49152) (pD t b)).size = pZ t b := by
      unfold packetS at hne ⊢
      by_cases hB : packetB (pA t b) (num t (b + 2) 2 - 49152) (pD t b) = true
      · rw [if_pos hB, packetT_size]
        unfold pD
        rw [ByteArray.size_extract]
        omega
      · rw [if_neg hB] at hne
        exact absurd nil_list hne
    refine Ev.bindc (prefix_at _ _ (by omega)) ?_
    rw [hz2, hxe]
    exact Ev.iteF (fun e => h4 (str_inj (beq_iff_eq.1 e)).symm) (Ev.now _)
theorem implGet_ev (t : ByteArray) (a : Int) (hs : t.size ≤ 140737488355328) : Ev (fun k => impl_PacketGet.f k t a) (packetGet t a) := by
  unfold impl_PacketGet.f
  by_cases h0 : a < 0
  · have : packetGet t a = noPacket := by unfold packetGet; rw [if_neg (by omega)]
    rw [this]
    refine Ev.iteT h0 (Ev.step (fun k => by rw [impl_PacketGet.j0]) ?_)
    exact Ev.iteT rfl (Ev.now _)
  · obtain ⟨b, rfl⟩ := Int.eq_ofNat_of_zero_le (show 0 ≤ a by omega)
    rw [packetGet_nat]
    refine Ev.iteF h0 (Ev.step (fun k => by rw [impl_PacketGet.j0]) ?_)
    by_cases hb : (b : Int) > (t.size : Int)
    · rw [packetAt_no (by omega)]
      exact Ev.iteT (by simpa using hb) (Ev.now _)
    · refine Ev.iteF (by simpa using hb) (Ev.iteT (by omega) (Ev.iteT (by omega) ?_))
      rw [Int.toNat_natCast]
      have hx : (t.extract b t.size).size = t.size - b := by rw [ByteArray.size_extract]; omega
      have hsx : (t.extract b t.size).size ≤ 140737488355328 := by omega
      refine Ev.bindc (show impl_readerOf.f (t.extract b t.size) = some (t.extract b t.size, 0, -1, false) from rfl) ?_
      have bad : ∀ (i p n : Int), 0 ≤ i → i ≤ (t.extract b t.size).size → ∀ F : Nat → (ByteArray × ByteArray × Int × Int × Bool) → Option PacketR, Ev (fun k => (impl_reader_take.f (t.extract b t.size) i p true n).bind fun y => if y.2.2.2.2 = true then some noPacket else F k y) noPacket := fun i p n g0 g1 F =>
        Ev.bindc (take_bad _ i p n true g0 g1 (Or.inl rfl) hsx) (Ev.iteT rfl (Ev.now _))
      by_cases h6 : b + 6 ≤ t.size
      · obtain ⟨z0, z1⟩ := n2 t (b + 4) (by omega)
        obtain ⟨c0, c1⟩ := n2 t (b + 2) (by omega)
        obtain ⟨r0, r1⟩ := n2 t b (by omega)
        have hz : (pZ t b : Int) = num t (b + 4) 2 + 7 := by unfold pZ; omega
        refine Ev.bind (number_in (t.extract b t.size) 0 (-1) (by omega) hsx) (Ev.bind (number_in (t.extract b t.size) 2 _ (by omega) hsx) (Ev.bind (number_in (t.extract b t.size) 4 _ (by omega) hsx) ?_))
        have e1 : num (t.extract b t.size) 0 2 = num t b 2 := num_extract t b t.size 0 2 (by omega) (Nat.le_refl _)
        have e2 : num (t.extract b t.size) 2 2 = num t (b + 2) 2 := num_extract t b t.size 2 2 (by omega) (Nat.le_refl _)
        have e3 : num (t.extract b t.size) 4 2 = num t (b + 4) 2 := num_extract t b t.size 4 2 (by omega) (Nat.le_refl _)
        rw [e1, e2, e3]
        have ew : wrap64 (num t (b + 4) 2 + 1) = num t (b + 4) 2 + 1 := wrap64_id (by omega) (by omega)
        have ec : wrap64 (num t (b + 2) 2 - 49152) = num t (b + 2) 2 - 49152 := wrap64_id (by omega) (by omega)
        rw [ew, ec, and_4096 _ r0 r1, and_2047 _ r0 r1]
        by_cases hf : b + pZ t b ≤ t.size
        · refine Ev.bindc (take_in (t.extract b t.size) 6 _ _ (by omega) (by rw [hx]; omega) hsx) (Ev.iteF (by simp) ?_)
          have ed : (t.extract b t.size).extract 6 (6 + (num t (b + 4) 2 + 1).toNat) = pD t b := by
            rw [extract_extract_ t b t.size 6 _ (by omega) (Nat.le_refl _)]
            unfold pD
            congr 1
            omega
          rw [ed]
          exact implTail t b h6 hf hs
        · rw [packetAt_no (fun x => hf x.2.1)]
          exact Ev.bindc (take_bad (t.extract b t.size) 6 _ _ false (by omega) (by rw [hx]; omega) (Or.inr (by rw [hx]; omega)) hsx) (Ev.iteT rfl (Ev.now _))
      · rw [packetAt_no (by omega)]
        by_cases h2 : b + 2 ≤ t.size
        · refine Ev.bind (number_in (t.extract b t.size) 0 (-1) (by omega) hsx) ?_
          by_cases h4 : b + 4 ≤ t.size
          · refine Ev.bind (number_in (t.extract b t.size) 2 _ (by omega) hsx) (Ev.bind (number_bad (t.extract b t.size) 4 _ false (by omega) (by rw [hx]; omega) (Or.inr (by rw [hx]; omega)) hsx) ?_)
            exact bad 4 _ _ (by omega) (by rw [hx]; omega) _
          · refine Ev.bind (number_bad (t.extract b t.size) 2 _ false (by omega) (by rw [hx]; omega) (Or.inr (by rw [hx]; omega)) hsx) (Ev.bind (number_bad (t.extract b t.size) 2 _ true (by omega) (by rw [hx]; omega) (Or.inl rfl) hsx) ?_)
            exact bad 2 _ _ (by omega) (by rw [hx]; omega) _
        · refine Ev.bind (number_bad (t.extract b t.size) 0 _ false (by omega) (by rw [hx]; omega) (Or.inr (by rw [hx]; omega)) hsx) (Ev.bind (number_bad (t.extract b t.size) 0 _ true (by omega) (by rw [hx]; omega) (Or.inl rfl) hsx) (Ev.bind (number_bad (t.extract b t.size) 0 _ true (by omega) (by rw [hx]; omega) (Or.inl rfl) hsx) ?_))
          exact bad 0 _ _ (by omega) (by rw [hx]; omega) _
end Go.Proofs.YtbldbjfmibhffaaDoor.Packet
