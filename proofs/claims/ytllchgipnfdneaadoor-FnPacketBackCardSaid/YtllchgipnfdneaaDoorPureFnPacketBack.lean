/- FnPacketBack, behind the machine. No conditions. -/
import Derived.Test.YtllchgipnfdneaaDoorPx5
import Derived.Test.YtllchgipnfdneaaDoorPx10
import Derived.Test.YtllchgipnfdneaaDoorPx13
import Derived.Test.YtllchgipnfdneaaDoorPx24
import Derived.Test.YtllchgipnfdneaaDoorPx25
import Derived.Test.YtllchgipnfdneaaDoorPacketBack
namespace Go.Proofs.YtllchgipnfdneaaDoor.Pure
open Go.RowKit Go.Proofs.YtllchgipnfdneaaDoor.P Go.Proofs.YtllchgipnfdneaaDoor.E Go.Proofs.YtllchgipnfdneaaDoor.Num Go.Proofs.YtllchgipnfdneaaDoor.In Go.Proofs.YtllchgipnfdneaaDoor.Packet Go.Proofs.YtllchgipnfdneaaDoor.Draw Go.Proofs.YtllchgipnfdneaaDoorW.PrintWords
set_option linter.unusedVariables false
set_option linter.unusedSimpArgs false
theorem l6put_ev (u : Bool) (a c : Int) (d : ByteArray) (h : packetB a c d = true) : Ev (fun k => spec_l6Put.f k u a c d) (packetT u a c d) := by
  have := Rep.specPut6_ev u a c d h
  unfold packetS at this
  rw [if_pos h] at this
  exact this
def restGet (k : Nat) (b : List Int) (p v : Int) (T : ByteArray) (z : Int) : Option (ByteArray × Int) :=
  if v = 0 then ((spec_l15Turn.f k b p T).bind fun x => some (x.1, z)) else (if v = 1 then ((spec_l1Rd_pick.f k b p (wrap64 ((T.size : Int) + 2))).bind fun x => some (T, wrap64 (x.1 - 1))) else (if v = 2 then ((spec_l1Rd_pick.f k b p (wrap64 ((T.size : Int) + 1))).bind fun x => (if 0 ≤ x.1 then (if x.1 ≤ (T.size : Int) then some (T.extract 0 (x.1 : Int).toNat, z) else none) else none)) else some (T, z)))
theorem rest_ev {b : List Int} (hb : Bytes b) (p v : Int) (T : ByteArray) (z : Int) (hp : 0 ≤ p) (hp2 : p < 1000000) (hT : T.size ≤ 1000) (hz : 0 ≤ z) (hz2 : z ≤ 1000) : ∃ t a, Ev (fun k => restGet k b p v T z) (t, a) ∧ t.size ≤ 1000 ∧ -10 ≤ a ∧ a ≤ 2000 := by
  unfold restGet
  by_cases h0 : v = 0
  · obtain ⟨t', p', e', s', _, _⟩ := turn_ev hb hp (by omega) T (by omega)
    exact ⟨t', z, Ev.iteT h0 (Ev.bind e' (Ev.now _)), by omega, by omega, by omega⟩
  · by_cases h1 : v = 1
    · have hw : wrap64 ((T.size : Int) + 2) = (T.size : Int) + 2 := wrap64_id (by omega) (by omega)
      obtain ⟨v5, e5, g5, k5⟩ := pick_ev hb hp (by omega) (wrap64 ((T.size : Int) + 2))
      rw [hw] at k5
      have k6 := k5 (by omega)
      have hw2 : wrap64 (v5 - 1) = v5 - 1 := wrap64_id (by omega) (by omega)
      exact ⟨T, wrap64 (v5 - 1), Ev.iteF h0 (Ev.iteT h1 (Ev.bind e5 (Ev.now _))), hT, by omega, by omega⟩
    · by_cases h2 : v = 2
      · have hw : wrap64 ((T.size : Int) + 1) = (T.size : Int) + 1 := wrap64_id (by omega) (by omega)
        obtain ⟨v5, e5, g5, k5⟩ := pick_ev hb hp (by omega) (wrap64 ((T.size : Int) + 1))
        rw [hw] at k5
        have k6 := k5 (by omega)
        exact ⟨T.extract 0 v5.toNat, z, Ev.iteF h0 (Ev.iteF h1 (Ev.iteT h2 (Ev.bind e5 (Ev.iteT g5 (Ev.iteT (show v5 ≤ (T.size : Int) by omega) (Ev.now _)))))), by rw [ByteArray.size_extract]; omega, by omega, by omega⟩
      · exact ⟨T, z, Ev.iteF h0 (Ev.iteF h1 (Ev.iteF h2 (Ev.now _))), hT, by omega, by omega⟩
theorem drawGet {l : List Int} (h : ∀ x ∈ l, (Lit.int .u8 x).wf = true) : ∃ t a, Ev (fun k => spec_DrawPacketGet.f k l) (t, a) ∧ t.size ≤ 1000 ∧ -10 ≤ a ∧ a ≤ 2000 := by
  obtain ⟨b, eo, hb⟩ := open_at h
  obtain ⟨t1, p1, e1, s1, q1, r1⟩ := text_ev hb (show (0 : Int) ≤ 0 by omega) (by omega) 5 (by omega)
  obtain ⟨u, a, c, d, p2, e2, hB, q2, r2⟩ := packet_ev hb (show 0 ≤ p1 by omega) (by omega)
  obtain ⟨_, _, _, hd⟩ := packetB_range hB
  have sz := packetT_size u a c d
  have e2b := l6put_ev u a c d hB
  obtain ⟨t3, p3, e3, s3, q3, r3⟩ := text_ev hb (show 0 ≤ p2 by omega) (by omega) 5 (by omega)
  obtain ⟨v4, e4, g4, _⟩ := pick_ev hb (show 0 ≤ p3 by omega) (by omega) 6
  generalize packetT u a c d = P at sz e2b
  have hz : (t1 ++ P ++ t3).size = t1.size + P.size + t3.size := by rw [ByteArray.size_append, ByteArray.size_append]
  obtain ⟨t, x, er, ht, hx, hx2⟩ := rest_ev hb (p3 + 1) v4 (t1 ++ P ++ t3) (t1.size : Int) (by omega) (by omega) (by omega) (by omega) (by omega)
  have hs1 : t1.size + P.size ≤ 9223372036854775807 := by omega
  have hs2 : t1.size + P.size + t3.size ≤ 9223372036854775807 := by omega
  clear hz g4 s1 s3 sz
  refine ⟨t, x, ?_, ht, hx, hx2⟩
  unfold spec_DrawPacketGet.f
  refine Ev.bindc eo ?_
  refine Ev.bind e1 ?_
  refine Ev.bind e2 ?_
  refine Ev.bind e2b ?_
  refine Ev.iteT hs1 ?_
  refine Ev.bind e3 ?_
  refine Ev.iteT hs2 ?_
  refine Ev.bind e4 ?_
  unfold restGet at er
  exact er
theorem j1_ev {l : List Int} (h : ∀ x ∈ l, (Lit.int .u8 x).wf = true) : Ev (fun k => laws_FnPacketBack.j1 k l) true := by
  obtain ⟨t, a, ed, hs, a0, a1⟩ := drawGet h
  refine Ev.step (fun k => by rw [laws_FnPacketBack.j1]) (Ev.bind ed (Ev.bind (implGet_ev t a (by omega)) (Ev.bind (Packet.specGet_ev t a (by omega) (by omega) (by omega)) ?_)))
  refine Ev.iteT (by simp) ?_
  refine Ev.iteT rfl ?_
  have tells := packetGet_tells t a
  generalize packetGet t a = p at tells ⊢
  by_cases h0 : p.2.2.2.2 = 0
  · exact Ev.iteT h0 (Ev.now _)
  · obtain ⟨b0, b1, b2, b3⟩ := tells h0
    have hw : wrap64 (a + p.2.2.2.2) = a + p.2.2.2.2 := wrap64_id (by omega) (by omega)
    refine Ev.iteF h0 (Ev.bind (Packet.implPut_ev _ _ _ _) (Ev.iteT b0 (Ev.iteT (by show a ≤ wrap64 (a + p.2.2.2.2); omega) (Ev.iteT (by show wrap64 (a + p.2.2.2.2) ≤ t.size; omega) (Ev.eq (Ev.now _) ?_)))))
    show ((packetS p.1 p.2.1 p.2.2.1 p.2.2.2.1).toList == (t.extract a.toNat (wrap64 (a + p.2.2.2.2)).toNat).toList) = true
    rw [hw, b3]
    simp
theorem FnPacketBack : laws_FnPacketBack.Pure := by
  intro l m hl hl2 hlb hm hm2 hmb
  refine Ev.rnd ?_
  unfold laws_FnPacketBack.f
  have no : Ev (fun k => laws_FnPacketBack.j0 k l m true) true := by
    refine Ev.step (fun k => by rw [laws_FnPacketBack.j0]) ?_
    exact Ev.iteT rfl (Ev.now _)
  by_cases h : (l.length : Int) > 1048576
  · exact Ev.iteT h no
  · refine Ev.iteF h ?_
    by_cases h2 : (m.length : Int) > 1048576
    · rw [decide_eq_true h2]
      exact no
    · rw [decide_eq_false h2]
      refine Ev.step (fun k => by rw [laws_FnPacketBack.j0]) (Ev.iteF (by simp) ?_)
      obtain ⟨b, eo, hb⟩ := open_at hlb
      obtain ⟨u, a, c, d, p', e1, _, _⟩ := anyPacket_ev hb (show (0 : Int) ≤ 0 by omega) (by omega)
      have ed : Ev (fun k => spec_DrawPacketPut.f k l) (u, a, c, d) := by
        unfold spec_DrawPacketPut.f
        exact Ev.bindc eo (Ev.bind e1 (Ev.now _))
      refine Ev.bind ed (Ev.bind (Packet.implPut_ev u a c d) (Ev.bind (Packet.specPut_ev u a c d) (Ev.iteT rfl ?_)))
      by_cases hB : packetB a c d = true
      · have hS : packetS u a c d = packetT u a c d := by unfold packetS; rw [if_pos hB]
        obtain ⟨_, _, hd0, hd⟩ := packetB_range hB
        have sz := packetT_size u a c d
        rw [hS]
        have hab : (⟨#[97, 98]⟩ : ByteArray).size = 2 := rfl
        have hcd : (⟨#[99, 100]⟩ : ByteArray).size = 2 := rfl
        refine Ev.iteF (fun e => by have : packetT u a c d = (⟨#[]⟩ : ByteArray) := str_inj (by rw [e, nil_list]); rw [this] at sz; have : (⟨#[]⟩ : ByteArray).size = 0 := rfl; omega) (Ev.iteT (by omega) (Ev.iteT (by omega) ?_))
        have back := packetGet_back u a c d ⟨#[97, 98]⟩ ⟨#[99, 100]⟩ _ hB rfl
        rw [hab] at back
        have hz : ((⟨#[97, 98]⟩ : ByteArray) ++ packetT u a c d ++ ⟨#[99, 100]⟩).size ≤ 140737488355328 := by rw [ByteArray.size_append, ByteArray.size_append]; omega
        have eg := implGet_ev ((⟨#[97, 98]⟩ : ByteArray) ++ packetT u a c d ++ ⟨#[99, 100]⟩) 2 hz
        rw [show packetGet ((⟨#[97, 98]⟩ : ByteArray) ++ packetT u a c d ++ ⟨#[99, 100]⟩) 2 = _ from back] at eg
        exact Ev.bind eg (Ev.iteF (by simp) (Ev.iteT rfl (j1_ev hmb)))
      · have hS : packetS u a c d = ⟨#[]⟩ := by unfold packetS; rw [if_neg hB]
        rw [hS]
        exact Ev.iteT nil_list (j1_ev hmb)
end Go.Proofs.YtllchgipnfdneaaDoor.Pure
