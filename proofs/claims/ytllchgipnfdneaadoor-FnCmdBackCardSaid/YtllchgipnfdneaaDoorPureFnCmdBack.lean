/- FnCmdBack, behind the machine. No conditions. -/
import Derived.Test.YtllchgipnfdneaaDoorPx5
import Derived.Test.YtllchgipnfdneaaDoorPx8
import Derived.Test.YtllchgipnfdneaaDoorPx10
import Derived.Test.YtllchgipnfdneaaDoorPx13
import Derived.Test.YtllchgipnfdneaaDoorPx14
import Derived.Test.YtllchgipnfdneaaDoorPx15
import Derived.Test.YtllchgipnfdneaaDoorPx21
import Derived.Test.YtllchgipnfdneaaDoorPx30
import Derived.Test.YtllchgipnfdneaaDoorCmdPut
import Derived.Test.YtllchgipnfdneaaDoorCmd
namespace Go.Proofs.YtllchgipnfdneaaDoor.Pure
open Go.RowKit Go.Proofs.YtllchgipnfdneaaDoor.P Go.Proofs.YtllchgipnfdneaaDoor.E Go.Proofs.YtllchgipnfdneaaDoor.Num Go.Proofs.YtllchgipnfdneaaDoor.Get Go.Proofs.YtllchgipnfdneaaDoor.In Go.Proofs.YtllchgipnfdneaaDoor.Packet Go.Proofs.YtllchgipnfdneaaDoor.CrcEv Go.Proofs.YtllchgipnfdneaaDoor.Cmd Go.Proofs.YtllchgipnfdneaaDoor.Draw Go.Proofs.YtllchgipnfdneaaDoorW.PrintWords
set_option linter.unusedVariables false
set_option linter.unusedSimpArgs false
theorem cmd_ev {b : List Int} {p : Int} (h : Bytes b) (hp : 0 ≤ p) (hp2 : p < 1000000) :
    ∃ a c o s u d p', Ev (fun k => spec_l15Cmd.f k b p) (a, c, o, s, u, d, p') ∧ cmdB a c o s u d = true ∧ p ≤ p' ∧ p' ≤ p + 1000 := by
  obtain ⟨v1, e1, m1⟩ := one_ev h hp (by omega) [0, 1, 7] (by simp)
  obtain ⟨v2, e2, g20, g21⟩ := pick_ev h (show 0 ≤ p + 1 by omega) (by omega) 256
  have g22 := g21 (by omega)
  obtain ⟨v3, e3, m3⟩ := one_ev h (show 0 ≤ p + 1 + 1 by omega) (by omega) [v2, 16383] (by simp)
  obtain ⟨v4, e4, m4⟩ := one_ev h (show 0 ≤ p + 1 + 1 + 1 by omega) (by omega) [1, 2, 255] (by simp)
  obtain ⟨v5, e5, m5⟩ := one_ev h (show 0 ≤ p + 1 + 1 + 1 + 1 by omega) (by omega) [8, 11, 17, 0, 255] (by simp)
  obtain ⟨v6, e6, g60, g61⟩ := pick_ev h (show 0 ≤ p + 1 + 1 + 1 + 1 + 1 by omega) (by omega) 6
  have g62 := g61 (by omega)
  obtain ⟨t, p7, e7, ht, q0, q1⟩ := text_ev h (show 0 ≤ p + 1 + 1 + 1 + 1 + 1 + 1 by omega) (by omega) 12 (by omega)
  obtain ⟨y, ey, hy⟩ := many_ev 60 (by omega)
  obtain ⟨v8, e8, g80, g81⟩ := pick_ev h (show 0 ≤ p7 by omega) (by omega) 3
  have g82 := g81 (by omega)
  have i1 : v8 < (([t, y, ⟨#[0, 7]⟩] : List ByteArray).length : Int) := by simp; omega
  have hd := rdOf_mem [t, y, ⟨#[0, 7]⟩] v8 g80 i1
  refine ⟨v1, v3, v4, v5, v6, rdOf ByteArray.empty [t, y, ⟨#[0, 7]⟩] v8, p7 + 1, ?_, ?_, by omega, by omega⟩
  · unfold spec_l15Cmd.f
    refine Ev.bind e1 ?_
    refine Ev.bind e2 ?_
    refine Ev.bind e3 ?_
    refine Ev.bind e4 ?_
    refine Ev.bind e5 ?_
    refine Ev.bind e6 ?_
    refine Ev.bind e7 ?_
    refine Ev.bind ey ?_
    refine Ev.bindc (x := [t, y, ⟨#[0, 7]⟩]) rfl ?_
    refine Ev.bind e8 ?_
    exact Ev.iteT g80 (Ev.iteT i1 (Ev.now _))
  · generalize rdOf ByteArray.empty [t, y, ⟨#[0, 7]⟩] v8 = d at hd
    have h2 : (⟨#[0, 7]⟩ : ByteArray).size = 2 := rfl
    have hs : d.size ≤ 60 := by
      simp only [List.mem_cons, List.not_mem_nil, or_false] at hd
      rcases hd with rfl | rfl | rfl <;> omega
    unfold cmdB
    simp only [Bool.and_eq_true, inB_true, decide_eq_true_eq]
    simp only [List.mem_cons, List.not_mem_nil, or_false] at m1 m3 m4 m5
    omega
theorem anyCmd_ev {b : List Int} {p : Int} (h : Bytes b) (hp : 0 ≤ p) (hp2 : p < 1000000) : ∃ r, Ev (fun k => spec_l15AnyCmd.f k b p) r := by
  obtain ⟨a, c, o, s, u, d, p1, e1, _, q0, q1⟩ := cmd_ev h hp hp2
  obtain ⟨v, e2, _, _⟩ := pick_ev h (show 0 ≤ p1 by omega) (by omega) 20
  obtain ⟨w0, f0, _⟩ := one_ev h (show 0 ≤ p1 + 1 by omega) (by omega) [(-1), 2048] (by simp)
  obtain ⟨w1, f1, _⟩ := one_ev h (show 0 ≤ p1 + 1 by omega) (by omega) [(-1), 256] (by simp)
  obtain ⟨y, ey, _⟩ := many_ev 61 (by omega)
  suffices hs : ∃ r, Ev (fun k => if v = 0 then ((spec_l1Rd_one.f k b (p1 + 1) (([(-1), 2048] : List Int))).bind fun bt611 => (some (bt611.1, c, o, s, u, d, bt611.2))) else (if v = 1 then ((spec_l1Rd_one.f k b (p1 + 1) (([(-1), 256] : List Int))).bind fun bt616 => (some (a, c, bt616.1, s, u, d, bt616.2))) else (if v = 2 then ((spec_l1Rd_one.f k b (p1 + 1) (([(-1), 256] : List Int))).bind fun bt621 => (some (a, c, o, bt621.1, u, d, bt621.2))) else (if v = 3 then (some (a, c, o, s, 256, d, p1 + 1)) else (if v = 4 then ((spec_l1Many.f k (⟨#[122]⟩ : ByteArray) 61).bind fun t623 => (some (a, c, o, s, u, t623, p1 + 1))) else (if v = 5 then (some (a, 16384, o, s, u, d, p1 + 1)) else (some (a, c, o, s, u, d, p1 + 1)))))))) r by
    obtain ⟨r, er⟩ := hs
    refine ⟨r, ?_⟩
    unfold spec_l15AnyCmd.f
    refine Ev.bind e1 ?_
    refine Ev.bind e2 ?_
    exact er
  by_cases h0 : v = 0
  · exact ⟨_, Ev.iteT h0 (Ev.bind f0 (Ev.now _))⟩
  · by_cases h1 : v = 1
    · exact ⟨_, Ev.iteF h0 (Ev.iteT h1 (Ev.bind f1 (Ev.now _)))⟩
    · by_cases h2 : v = 2
      · exact ⟨_, Ev.iteF h0 (Ev.iteF h1 (Ev.iteT h2 (Ev.bind f1 (Ev.now _))))⟩
      · by_cases h3 : v = 3
        · exact ⟨_, Ev.iteF h0 (Ev.iteF h1 (Ev.iteF h2 (Ev.iteT h3 (Ev.now _))))⟩
        · by_cases h4 : v = 4
          · exact ⟨_, Ev.iteF h0 (Ev.iteF h1 (Ev.iteF h2 (Ev.iteF h3 (Ev.iteT h4 (Ev.bind ey (Ev.now _))))))⟩
          · by_cases h5 : v = 5
            · exact ⟨_, Ev.iteF h0 (Ev.iteF h1 (Ev.iteF h2 (Ev.iteF h3 (Ev.iteF h4 (Ev.iteT h5 (Ev.now _))))))⟩
            · exact ⟨_, Ev.iteF h0 (Ev.iteF h1 (Ev.iteF h2 (Ev.iteF h3 (Ev.iteF h4 (Ev.iteF h5 (Ev.now _))))))⟩
theorem cmdDrawPut {l : List Int} (h : ∀ x ∈ l, (Lit.int .u8 x).wf = true) : ∃ a c o s u d, Ev (fun k => spec_DrawCmdPut.f k l) (a, c, o, s, u, d) := by
  obtain ⟨b, eo, hb⟩ := open_at h
  obtain ⟨⟨a, c, o, s, u, d, p⟩, er⟩ := anyCmd_ev hb (show (0 : Int) ≤ 0 by omega) (by omega)
  unfold spec_DrawCmdPut.f
  exact ⟨a, c, o, s, u, d, Ev.bindc eo (Ev.bind er (Ev.now _))⟩
theorem packetS_short (u : Bool) (a c : Int) (d : ByteArray) : (packetS u a c d).size ≤ 106 := by
  unfold packetS
  by_cases h : packetB a c d = true
  · rw [if_pos h, packetT_size]
    have := packetB_range h
    omega
  · rw [if_neg h]
    exact Nat.zero_le _
theorem cmdDrawGet {l : List Int} (h : ∀ x ∈ l, (Lit.int .u8 x).wf = true) : ∃ t, Ev (fun k => spec_DrawCmdGet.f k l) t ∧ t.size ≤ 1000 := by
  obtain ⟨b, eo, hb⟩ := open_at h
  obtain ⟨a, c, o, s, u, d, p1, e1, hB, q1, r1⟩ := cmd_ev hb (show (0 : Int) ≤ 0 by omega) (by omega)
  have e2 := l6Cmd_ev hB
  have sz := cmdS_size hB
  obtain ⟨_, _, _, _, _, hd⟩ := cmdB_range hB
  generalize cmdS a c o s u d = T at e2 sz
  obtain ⟨v, e3, g3, _⟩ := pick_ev hb (show 0 ≤ p1 by omega) (by omega) 6
  suffices hs : ∃ t, Ev (fun k => if v = 0 then ((spec_l15Turn.f k b (p1 + 1) T).bind fun bt680 => (some bt680.1)) else (if v = 1 then ((spec_l1Rd_pick.f k b (p1 + 1) (wrap64 ((T.size : Int) + 1))).bind fun bt682 => (if 0 ≤ bt682.1 then (if bt682.1 ≤ (T.size : Int) then (some (T.extract 0 (bt682.1 : Int).toNat)) else (none)) else (none))) else (if v = 2 then ((spec_l15AnyPacket.f k b (p1 + 1)).bind fun bt684 => ((spec_PacketPut.f k bt684.1 bt684.2.1 bt684.2.2.1 bt684.2.2.2.1).bind fun t689 => (some t689))) else (if v = 3 then ((spec_l1Rd_of.f k b (p1 + 1) (([(⟨#[]⟩ : ByteArray), (⟨#[97]⟩ : ByteArray), (⟨#[46, 49, 50, 51]⟩ : ByteArray), (⟨#[47, 49, 50]⟩ : ByteArray)] : List ByteArray))).bind fun bt693 => (if bt693.1.size + 2 ≤ 9223372036854775807 then ((spec_l6Put.f k true 1 0 (bt693.1 ++ (⟨#[0, 0]⟩ : ByteArray))).bind fun t695 => (if 0 ≤ (wrap64 ((t695.size : Int) - 2)) then (if (wrap64 ((t695.size : Int) - 2)) ≤ (t695.size : Int) then ((spec_Crc16.f k (t695.extract 0 ((wrap64 ((t695.size : Int) - 2)) : Int).toNat)).bind fun t696 => ((spec_l1Put.f k t696 2).bind fun t697 => (if (t695.extract 0 ((wrap64 ((t695.size : Int) - 2)) : Int).toNat).size + t697.size ≤ 9223372036854775807 then (some ((t695.extract 0 ((wrap64 ((t695.size : Int) - 2)) : Int).toNat) ++ t697)) else (none)))) else (none)) else (none))) else (none))) else (some T))))) t ∧ t.size ≤ 1000 by
    obtain ⟨t, et, ht⟩ := hs
    refine ⟨t, ?_, ht⟩
    unfold spec_DrawCmdGet.f
    refine Ev.bindc eo ?_
    refine Ev.bind e1 ?_
    refine Ev.bind e2 ?_
    refine Ev.bind e3 ?_
    exact et
  by_cases h0 : v = 0
  · obtain ⟨t', p', e', s', _, _⟩ := turn_ev hb (show 0 ≤ p1 + 1 by omega) (by omega) T (by omega)
    exact ⟨t', Ev.iteT h0 (Ev.bind e' (Ev.now _)), by omega⟩
  · by_cases h1 : v = 1
    · have hw : wrap64 ((T.size : Int) + 1) = (T.size : Int) + 1 := wrap64_id (by omega) (by omega)
      obtain ⟨v5, e5, g5, k5⟩ := pick_ev hb (show 0 ≤ p1 + 1 by omega) (by omega) (wrap64 ((T.size : Int) + 1))
      rw [hw] at k5
      have k6 := k5 (by omega)
      exact ⟨T.extract 0 v5.toNat, Ev.iteF h0 (Ev.iteT h1 (Ev.bind e5 (Ev.iteT g5 (Ev.iteT (show v5 ≤ (T.size : Int) by omega) (Ev.now _))))), by rw [ByteArray.size_extract]; omega⟩
    · by_cases h2 : v = 2
      · obtain ⟨pu, pa, pc, pd, p', e5, _, _⟩ := anyPacket_ev hb (show 0 ≤ p1 + 1 by omega) (by omega)
        have := packetS_short pu pa pc pd
        exact ⟨packetS pu pa pc pd, Ev.iteF h0 (Ev.iteF h1 (Ev.iteT h2 (Ev.bind e5 (Ev.bind (Packet.specPut_ev pu pa pc pd) (Ev.now _))))), by omega⟩
      · by_cases h3 : v = 3
        · obtain ⟨w, e5, hw⟩ := of_ev hb (show 0 ≤ p1 + 1 by omega) (by omega) [(⟨#[]⟩ : ByteArray), (⟨#[97]⟩ : ByteArray), (⟨#[46, 49, 50, 51]⟩ : ByteArray), (⟨#[47, 49, 50]⟩ : ByteArray)] (by simp)
          have hws : w.size ≤ 4 := by
            simp only [List.mem_cons, List.not_mem_nil, or_false] at hw
            rcases hw with rfl | rfl | rfl | rfl <;> decide
          have z2 : (⟨#[0, 0]⟩ : ByteArray).size = 2 := rfl
          have hX : (w ++ ⟨#[0, 0]⟩ : ByteArray).size = w.size + 2 := by rw [ByteArray.size_append, z2]
          have hP : packetB 1 0 (w ++ ⟨#[0, 0]⟩) = true := by
            unfold packetB
            simp only [Bool.and_eq_true, inB_true]
            omega
          have e6 := Rep.specPut6_ev true 1 0 (w ++ ⟨#[0, 0]⟩) hP
          have sp : (packetS true 1 0 (w ++ ⟨#[0, 0]⟩)).size = 8 + w.size := by unfold packetS; rw [if_pos hP, packetT_size, hX]; omega
          generalize packetS true 1 0 (w ++ ⟨#[0, 0]⟩) = P at e6 sp
          have ew : wrap64 ((P.size : Int) - 2) = ((P.size - 2 : Nat) : Int) := by rw [wrap64_id (by omega) (by omega)]; omega
          have hz : (P.extract 0 (P.size - 2)).size = P.size - 2 := by rw [ByteArray.size_extract]; omega
          have hl := crcN_lt (P.extract 0 (P.size - 2))
          refine ⟨P.extract 0 (P.size - 2) ++ bs (crcN (P.extract 0 (P.size - 2))) 2, Ev.iteF h0 (Ev.iteF h1 (Ev.iteF h2 (Ev.iteT h3 (Ev.bind e5 (Ev.iteT (show w.size + 2 ≤ _ by omega) (Ev.bind e6 ?_)))))), by rw [ByteArray.size_append, bs_size]; omega⟩
          rw [ew, Int.toNat_natCast]
          refine Ev.iteT (by omega) (Ev.iteT (by omega) (Ev.bind (specCrc_at _ (by omega)) (Ev.bind (l1Put_at _ 2 (by omega) (by omega) (by omega) trivial) ?_)))
          rw [Int.toNat_natCast]
          exact Ev.iteT (by rw [bs_size]; omega) (Ev.now _)
        · exact ⟨T, Ev.iteF h0 (Ev.iteF h1 (Ev.iteF h2 (Ev.iteF h3 (Ev.now _)))), by omega⟩
theorem cmd_j1 {l : List Int} (h : ∀ x ∈ l, (Lit.int .u8 x).wf = true) : Ev (fun k => laws_FnCmdBack.j1 k l) true := by
  obtain ⟨t, ed, hs⟩ := cmdDrawGet h
  refine Ev.step (fun k => by rw [laws_FnCmdBack.j1]) ?_
  refine Ev.bind ed ?_
  refine Ev.bind (Cmd.implGet_ev t (by omega)) ?_
  refine Ev.bind (Cmd.specGet_ev t (by omega)) ?_
  refine Ev.iteT (by simp) ?_
  refine Ev.iteT rfl ?_
  have tells := cmdGet_tells t
  generalize cmdGet t = r at tells ⊢
  by_cases h0 : r.2.2.2.2.2.2 = 0
  · refine Ev.iteT h0 ?_
    refine Ev.bind (Cmd.implPut_ev _ _ _ _ _ _) ?_
    rw [tells h0]
    exact Ev.eq (Ev.now _) (by simp)
  · exact Ev.iteF h0 (Ev.now _)
theorem FnCmdBack : laws_FnCmdBack.Pure := by
  intro l m hl hl2 hlb hm hm2 hmb
  refine Ev.rnd ?_
  unfold laws_FnCmdBack.f
  have no : Ev (fun k => laws_FnCmdBack.j0 k l m true) true := by
    refine Ev.step (fun k => by rw [laws_FnCmdBack.j0]) ?_
    exact Ev.iteT rfl (Ev.now _)
  by_cases h : (l.length : Int) > 1048576
  · exact Ev.iteT h no
  · refine Ev.iteF h ?_
    by_cases h2 : (m.length : Int) > 1048576
    · rw [decide_eq_true h2]
      exact no
    · rw [decide_eq_false h2]
      refine Ev.step (fun k => by rw [laws_FnCmdBack.j0]) (Ev.iteF (by simp) ?_)
      obtain ⟨a, c, o, s, u, d, ed⟩ := cmdDrawPut hlb
      refine Ev.bind ed ?_
      refine Ev.bind (Cmd.implPut_ev a c o s u d) ?_
      refine Ev.bind (Cmd.specPut_ev a c o s u d) ?_
      refine Ev.iteT rfl ?_
      by_cases hB : cmdB a c o s u d = true
      · have hz := cmdS_size hB
        obtain ⟨_, _, _, _, _, hd⟩ := cmdB_range hB
        have g1 := Cmd.implGet_ev (cmdS a c o s u d) (by omega)
        rw [cmd_back hB] at g1
        refine Ev.iteF (fun e => by have : cmdS a c o s u d = (⟨#[]⟩ : ByteArray) := str_inj (by rw [e, nil_list]); rw [this] at hz; have : (⟨#[]⟩ : ByteArray).size = 0 := rfl; omega) ?_
        refine Ev.bind g1 ?_
        refine Ev.iteF (by simp) ?_
        exact Ev.iteT rfl (cmd_j1 hmb)
      · have hS : cmdS a c o s u d = ⟨#[]⟩ := by unfold cmdS; rw [if_neg hB]
        rw [hS]
        exact Ev.iteT nil_list (cmd_j1 hmb)
end Go.Proofs.YtllchgipnfdneaaDoor.Pure
