/- What is heard of frames down, in plain Lean: the program's and the reference's are one. No conditions. -/
import Derived.Test.YtbldbjfmibhffaaDoorPx2
import Derived.Test.YtbldbjfmibhffaaDoorPx4
import Derived.Test.YtbldbjfmibhffaaDoorPx5
import Derived.Test.YtbldbjfmibhffaaDoorPx7
import Derived.Test.YtbldbjfmibhffaaDoorPx9
import Derived.Test.YtbldbjfmibhffaaDoorPx10
import Derived.Test.YtbldbjfmibhffaaDoorPacketGet
import Derived.Test.YtbldbjfmibhffaaDoorDownI
namespace Go.Proofs.YtbldbjfmibhffaaDoor.Hears
open Go.RowKit Go.Proofs.YtbldbjfmibhffaaDoor.P Go.Proofs.YtbldbjfmibhffaaDoor.E Go.Proofs.YtbldbjfmibhffaaDoor.Num Go.Proofs.YtbldbjfmibhffaaDoor.Get Go.Proofs.YtbldbjfmibhffaaDoor.In Go.Proofs.YtbldbjfmibhffaaDoor.Packet Go.Proofs.YtbldbjfmibhffaaDoor.Down Go.Proofs.YtbldbjfmibhffaaDoorW.PrintWords
set_option linter.unusedSimpArgs false
set_option linter.unusedVariables false
theorem whole (t : ByteArray) (z : Nat) (h7 : 7 ≤ z) (hz : z ≤ t.size) (hn : num t 4 2 + 7 = (z : Int)) : packetGet (t.extract 0 z) 0 = noPacket ∨ (packetGet (t.extract 0 z) 0).2.2.2.2 = (z : Int) := by
  have e : packetGet (t.extract 0 z) 0 = packetAt (t.extract 0 z) 0 := packetGet_nat _ 0
  rw [e]
  unfold packetAt
  split
  · right
    show ((pZ (t.extract 0 z) 0 : Nat) : Int) = z
    unfold pZ
    have h := num_extract t 0 z 4 2 (by omega) hz
    have h2 : num (t.extract 0 z) (0 + 4) 2 = num t 4 2 := by simpa using h
    rw [h2, hn, Int.toNat_natCast]
  · exact Or.inl rfl
theorem only_no (s : ByteArray) (hs : s.size ≤ 140737488355328) (h : packetGet s 0 = noPacket) : Ev (fun k => impl_packetOnly.f k s) (false, 0, 0, (⟨#[]⟩ : ByteArray), false) := by
  have hp := Packet.implGet_ev s 0 hs
  unfold impl_packetOnly.f
  rw [h] at hp
  exact Ev.bind hp (Ev.iteT rfl (Ev.now _))
theorem only_yes (s : ByteArray) (hs : s.size ≤ 140737488355328) (h0 : s.size ≠ 0) (h : (packetGet s 0).2.2.2.2 = (s.size : Int)) : Ev (fun k => impl_packetOnly.f k s) ((packetGet s 0).1, (packetGet s 0).2.1, (packetGet s 0).2.2.1, (packetGet s 0).2.2.2.1, true) := by
  have hp := Packet.implGet_ev s 0 hs
  unfold impl_packetOnly.f
  refine Ev.bind hp (Ev.iteF ?_ (Ev.iteT h (Ev.now _)))
  rw [h]
  omega
abbrev HeardR := ByteArray × List ByteArray × Bool
theorem cut_both : ∀ (d : Nat) (t : ByteArray) (l : List ByteArray), t.size ≤ d → l.length + d ≤ 1000 → ∃ r : HeardR, Ev (fun k => spec_l12Cut.l0 k t l) r ∧ Ev (fun k => impl_packsOf.l0 k t l) (r.2.1, r.1, r.2.2) ∧ r.2.1.length ≤ 1000 := by
  intro d
  induction d with
  | zero =>
    intro t l ht hl
    exact ⟨(t, l, true), Ev.step (fun k => by rw [spec_l12Cut.l0]) (Ev.iteF (by omega) (Ev.now _)), Ev.step (fun k => by rw [impl_packsOf.l0]) (Ev.iteF (by omega) (Ev.now _)), by show l.length ≤ 1000; omega⟩
  | succ d ih =>
    intro t l ht hl
    by_cases h7 : (t.size : Int) ≥ 7
    case neg => exact ⟨(t, l, true), Ev.step (fun k => by rw [spec_l12Cut.l0]) (Ev.iteF h7 (Ev.now _)), Ev.step (fun k => by rw [impl_packsOf.l0]) (Ev.iteF h7 (Ev.now _)), by show l.length ≤ 1000; omega⟩
    have n := n2 t 4 (by omega)
    obtain ⟨z, hz⟩ : ∃ z : Nat, num t 4 2 + 7 = (z : Int) := ⟨(num t 4 2 + 7).toNat, by omega⟩
    have hw : wrap64 (num t 4 2 + 7) = (z : Int) := by rw [wrap64_id (by omega) (by omega), hz]
    have es := l1Get_ev t 4 2 (by omega) (by omega) (by omega)
    have ei := NumGet_in t 4 2 (by omega) (by omega) (by omega) (by omega)
    have s1 : ∀ {r : HeardR}, Ev (fun k => if (z : Int) > 106 then some ((⟨#[]⟩ : ByteArray), l, false) else if (z : Int) > (t.size : Int) then some (t, l, true) else if 0 ≤ (z : Int) then (if (z : Int) ≤ (t.size : Int) then (spec_PacketGet.f k (t.extract 0 z) 0).bind fun b => (if b.2.2.2.2 = 0 then (some ((⟨#[]⟩ : ByteArray), l, false)) else (if b.2.1 = 2047 then (spec_l12Cut.l0 k (t.extract z t.size) l) else (if l.length < 8796093022208 then (spec_l12Cut.l0 k (t.extract z t.size) (l ++ [t.extract 0 z])) else none))) else none) else none) r → Ev (fun k => spec_l12Cut.l0 k t l) r := by
      intro r h
      refine Ev.step (fun k => by rw [spec_l12Cut.l0]) ?_
      refine Ev.iteT h7 ?_
      refine Ev.bind es ?_
      try dsimp only
      rw [hw, Int.toNat_natCast]
      exact h
    have s2 : ∀ {r : List ByteArray × ByteArray × Bool}, Ev (fun k => if (z : Int) > 106 then some (l, (⟨#[]⟩ : ByteArray), false) else if (t.size : Int) < (z : Int) then some (l, t, true) else if 0 ≤ (z : Int) then (if (z : Int) ≤ (t.size : Int) then (impl_packetOnly.f k (t.extract 0 z)).bind fun b => (if b.2.2.2.2 = true then (if b.2.1 = 2047 then (impl_packsOf.l0 k (t.extract z t.size) l) else (if l.length < 8796093022208 then (impl_packsOf.l0 k (t.extract z t.size) (l ++ [t.extract 0 z])) else none)) else (some (l, (⟨#[]⟩ : ByteArray), false))) else none) else none) r → Ev (fun k => impl_packsOf.l0 k t l) r := by
      intro r h
      refine Ev.step (fun k => by rw [impl_packsOf.l0]) ?_
      refine Ev.iteT h7 ?_
      refine Ev.bind ei ?_
      try dsimp only
      rw [hw, Int.toNat_natCast]
      exact h
    by_cases h1 : (z : Int) > 106
    · exact ⟨((⟨#[]⟩ : ByteArray), l, false), s1 (Ev.iteT h1 (Ev.now _)), s2 (Ev.iteT h1 (Ev.now _)), by show l.length ≤ 1000; omega⟩
    by_cases h2 : (z : Int) > (t.size : Int)
    · exact ⟨(t, l, true), s1 (Ev.iteF h1 (Ev.iteT h2 (Ev.now _))), s2 (Ev.iteF h1 (Ev.iteT h2 (Ev.now _))), by show l.length ≤ 1000; omega⟩
    have hx : (t.extract 0 z).size = z := by rw [ByteArray.size_extract]; omega
    have eg := Packet.specGet_ev (t.extract 0 z) 0 (by omega) (by omega) (by omega)
    rcases whole t z (by omega) (by omega) hz with hno | hyes
    · rw [hno] at eg
      exact ⟨((⟨#[]⟩ : ByteArray), l, false), s1 (Ev.iteF h1 (Ev.iteF h2 (Ev.iteT (by omega) (Ev.iteT (by omega) (Ev.bind eg (Ev.iteT rfl (Ev.now _))))))),
        s2 (Ev.iteF h1 (Ev.iteF h2 (Ev.iteT (by omega) (Ev.iteT (by omega) (Ev.bind (only_no _ (by omega) hno) (Ev.iteF (by simp) (Ev.now _))))))), by show l.length ≤ 1000; omega⟩
    · have eo := only_yes (t.extract 0 z) (by omega) (by omega) (by rw [hx]; exact hyes)
      have hr : (t.extract z t.size).size ≤ d := by rw [ByteArray.size_extract]; omega
      have h0 : ¬ (packetGet (t.extract 0 z) 0).2.2.2.2 = 0 := by rw [hyes]; omega
      by_cases ha : (packetGet (t.extract 0 z) 0).2.1 = 2047
      · obtain ⟨r, e1, e2, e3⟩ := ih (t.extract z t.size) l hr (by omega)
        exact ⟨r, s1 (Ev.iteF h1 (Ev.iteF h2 (Ev.iteT (by omega) (Ev.iteT (by omega) (Ev.bind eg (Ev.iteF h0 (Ev.iteT ha e1))))))),
          s2 (Ev.iteF h1 (Ev.iteF h2 (Ev.iteT (by omega) (Ev.iteT (by omega) (Ev.bind eo (Ev.iteT rfl (Ev.iteT ha e2))))))), e3⟩
      · obtain ⟨r, e1, e2, e3⟩ := ih (t.extract z t.size) (l ++ [t.extract 0 z]) hr (by rw [List.length_append]; simp; omega)
        exact ⟨r, s1 (Ev.iteF h1 (Ev.iteF h2 (Ev.iteT (by omega) (Ev.iteT (by omega) (Ev.bind eg (Ev.iteF h0 (Ev.iteF ha (Ev.iteT (by omega) e1)))))))),
          s2 (Ev.iteF h1 (Ev.iteF h2 (Ev.iteT (by omega) (Ev.iteT (by omega) (Ev.bind eo (Ev.iteT rfl (Ev.iteF ha (Ev.iteT (by omega) e2)))))))), e3⟩
theorem packs_both (t : ByteArray) (h : t.size ≤ 900) : ∃ r : HeardR, Ev (fun k => spec_l12Cut.f k t) r ∧ Ev (fun k => impl_packsOf.f k t) (r.2.1, r.1, r.2.2) ∧ r.2.1.length ≤ 1000 := by
  unfold spec_l12Cut.f impl_packsOf.f
  exact cut_both 900 t [] h (by simp)
def hearsB (n : Int) (o : Bool) (t : ByteArray) : Bool := inB n 0 255 && (decide (t.size ≤ 106) && (o || t.toList == ([] : List UInt8)))
theorem implHears_at (n : Int) (o : Bool) (t : ByteArray) : impl_hearsOk.f n o t = some (hearsB n o t) := by
  unfold impl_hearsOk.f hearsB
  rw [within_at, Option.bind_some]
  cases inB n 0 255
  · rfl
  · by_cases h : t.size ≤ 106
    · rw [if_pos rfl, if_pos (by omega), decide_eq_true h]
      cases o <;> rfl
    · rw [if_pos rfl, if_neg (by omega), decide_eq_false h]
      rfl
theorem specHears_at (n : Int) (o : Bool) (t : ByteArray) : spec_l12Hears.f n o t = some (hearsB n o t) := by
  unfold spec_l12Hears.f hearsB
  rw [l1In_at, Option.bind_some]
  cases inB n 0 255
  · rfl
  · by_cases h : t.size ≤ 106
    · rw [if_pos rfl, if_pos (by omega), decide_eq_true h]
      cases o <;> rfl
    · rw [if_pos rfl, if_neg (by omega), decide_eq_false h]
      rfl
theorem hearsB_size {n : Int} {o : Bool} {t : ByteArray} (h : hearsB n o t = true) : t.size ≤ 106 := by
  unfold hearsB at h
  rw [Bool.and_eq_true, Bool.and_eq_true, decide_eq_true_eq] at h
  exact h.2.1
theorem firstB_of {c w a o f : Int} {d fm : ByteArray} (h : downB c w a o f d fm = true) : firstB f = true := by
  unfold downB at h
  simp only [Bool.and_eq_true] at h
  exact h.2.2.2.2.2.1
abbrev DownHeard := Int × Bool × ByteArray × List ByteArray
theorem j_both (b : Bool) (n : Int) (o : Bool) (t : ByteArray) (c w a x f : Int) (d fm : ByteArray) (m : Int) (p : Bool) (q : ByteArray) (ht : t.size ≤ 106) (hd : d.size = 28) (hf : firstB f = true) (hf2 : ¬ f = 2046) :
    ∃ r : DownHeard, Ev (fun k => spec_HearsDown.j0 k b n o t c w a x f d fm m p q) r ∧ Ev (fun k => impl_HearsDown.j0 k b n o t c w a x f d fm m p q) r ∧ r.2.2.2.length ≤ 1000 := by
  cases b with
  | true =>
    obtain ⟨r, e1, e2, e3⟩ := packs_both (t ++ d) (by rw [ByteArray.size_append]; omega)
    exact ⟨(m, r.2.2, r.1, r.2.1), Ev.step (fun k => by rw [spec_HearsDown.j0]) (Ev.iteT rfl (Ev.iteT (by omega) (Ev.bind e1 (Ev.now _)))), Ev.step (fun k => by rw [impl_HearsDown.j0]) (Ev.iteT rfl (Ev.iteT (by omega) (Ev.bind e2 (Ev.now _)))), e3⟩
  | false =>
    by_cases h1 : f = 2047
    · exact ⟨(m, p, q, []), Ev.step (fun k => by rw [spec_HearsDown.j0]) (Ev.iteF (by simp) (Ev.iteT h1 (Ev.now _))), Ev.step (fun k => by rw [impl_HearsDown.j0]) (Ev.iteF (by simp) (Ev.iteT h1 (Ev.now _))), Nat.zero_le _⟩
    · have hr : 0 ≤ f ∧ f ≤ 27 := by
        unfold firstB at hf
        rw [Bool.or_eq_true, Bool.or_eq_true, decide_eq_true_eq, decide_eq_true_eq] at hf
        rcases hf with hf | hf | hf
        · exact inB_true.1 hf
        · exact absurd hf h1
        · exact absurd hf hf2
      obtain ⟨r, e1, e2, e3⟩ := packs_both (d.extract f.toNat d.size) (by rw [ByteArray.size_extract]; omega)
      exact ⟨(m, r.2.2, r.1, r.2.1), Ev.step (fun k => by rw [spec_HearsDown.j0]) (Ev.iteF (by simp) (Ev.iteF h1 (Ev.iteT hr.1 (Ev.iteT (by omega) (Ev.bind e1 (Ev.now _)))))), Ev.step (fun k => by rw [impl_HearsDown.j0]) (Ev.iteF (by simp) (Ev.iteF h1 (Ev.iteT hr.1 (Ev.iteT (by omega) (Ev.bind e2 (Ev.now _)))))), e3⟩
theorem hears_both (n : Int) (o : Bool) (t : ByteArray) (c w a x f : Int) (d fm : ByteArray) :
    ∃ r : DownHeard, Ev (fun k => spec_HearsDown.f k n o t c w a x f d fm) r ∧ Ev (fun k => impl_HearsDown.f k n o t c w a x f d fm) r ∧ r.2.2.2.length ≤ 1000 := by
  unfold spec_HearsDown.f impl_HearsDown.f
  by_cases h : hearsB n o t = true
  case neg => exact ⟨(0, false, (⟨#[]⟩ : ByteArray), []), Ev.bindc (specHears_at n o t) (Ev.iteF h (Ev.now _)), Ev.bindc (implHears_at n o t) (Ev.iteF h (Ev.now _)), Nat.zero_le _⟩
  by_cases h2 : downB c w a x f d fm = true
  case neg => exact ⟨(n, o, t, []), Ev.bindc (specHears_at n o t) (Ev.iteT h (Ev.bind (Down.specOk_ev c w a x f d fm) (Ev.iteF h2 (Ev.now _)))), Ev.bindc (implHears_at n o t) (Ev.iteT h (Ev.bind (Down.implOk_ev c w a x f d fm) (Ev.iteF h2 (Ev.now _)))), Nat.zero_le _⟩
  have s1 : ∀ {r : DownHeard} {g : Nat → Option DownHeard}, Ev g r → Ev (fun k => (spec_l12Hears.f n o t).bind fun t169 => if t169 = true then ((spec_l12Ok.f k c w a x f d fm).bind fun t173 => if t173 = true then g k else some (n, o, t, ([] : List ByteArray))) else some (0, false, (⟨#[]⟩ : ByteArray), ([] : List ByteArray))) r :=
    fun e => Ev.bindc (specHears_at n o t) (Ev.iteT h (Ev.bind (Down.specOk_ev c w a x f d fm) (Ev.iteT h2 e)))
  have s2 : ∀ {r : DownHeard} {g : Nat → Option DownHeard}, Ev g r → Ev (fun k => (impl_hearsOk.f n o t).bind fun t169 => if t169 = true then ((impl_downOk.f k c w a x f d fm).bind fun t173 => if t173 = true then g k else some (n, o, t, ([] : List ByteArray))) else some (0, false, (⟨#[]⟩ : ByteArray), ([] : List ByteArray))) r :=
    fun e => Ev.bindc (implHears_at n o t) (Ev.iteT h (Ev.bind (Down.implOk_ev c w a x f d fm) (Ev.iteT h2 e)))
  by_cases h3 : f = 2046
  · exact ⟨_, s1 (Ev.iteT h3 (Ev.now _)), s2 (Ev.iteT h3 (Ev.now _)), Nat.zero_le _⟩
  have hd := (downB_range h2).2.2.2.2.2.1
  by_cases h4 : o = true
  · obtain ⟨r, e1, e2, e3⟩ := j_both (x == n) n o t c w a x f d fm (Int.tmod (wrap64 (x + 1)) 256) false ⟨#[]⟩ (hearsB_size h) hd (firstB_of h2) h3
    exact ⟨r, s1 (Ev.iteF h3 (Ev.iteT h4 e1)), s2 (Ev.iteF h3 (Ev.iteT h4 e2)), e3⟩
  · obtain ⟨r, e1, e2, e3⟩ := j_both false n o t c w a x f d fm (Int.tmod (wrap64 (x + 1)) 256) false ⟨#[]⟩ (hearsB_size h) hd (firstB_of h2) h3
    exact ⟨r, s1 (Ev.iteF h3 (Ev.iteF h4 e1)), s2 (Ev.iteF h3 (Ev.iteF h4 e2)), e3⟩
end Go.Proofs.YtbldbjfmibhffaaDoor.Hears
