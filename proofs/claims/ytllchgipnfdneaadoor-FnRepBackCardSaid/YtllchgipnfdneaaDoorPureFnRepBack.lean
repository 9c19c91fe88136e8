/- FnRepBack, behind the machine. No conditions. -/
import Derived.Test.YtllchgipnfdneaaDoorPx10
import Derived.Test.YtllchgipnfdneaaDoorPx13
import Derived.Test.YtllchgipnfdneaaDoorPx16
import Derived.Test.YtllchgipnfdneaaDoorPx27
import Derived.Test.YtllchgipnfdneaaDoorPx28
import Derived.Test.YtllchgipnfdneaaDoorPacketBack
import Derived.Test.YtllchgipnfdneaaDoorCmdImpl
namespace Go.Proofs.YtllchgipnfdneaaDoor.Pure
open Go.RowKit Go.Proofs.YtllchgipnfdneaaDoor.P Go.Proofs.YtllchgipnfdneaaDoor.E Go.Proofs.YtllchgipnfdneaaDoor.Num Go.Proofs.YtllchgipnfdneaaDoor.Get Go.Proofs.YtllchgipnfdneaaDoor.In Go.Proofs.YtllchgipnfdneaaDoor.Packet Go.Proofs.YtllchgipnfdneaaDoor.Rep Go.Proofs.YtllchgipnfdneaaDoor.Draw Go.Proofs.YtllchgipnfdneaaDoorW.PrintWords
set_option linter.unusedVariables false
set_option linter.unusedSimpArgs false
theorem l6rep_ev (a c s u m : Int) (d : ByteArray) (h : repB a c s u m d = true) : Ev (fun k => spec_l6Rep.f k a c s u m d) (repS a c s u m d) := by
  obtain ⟨k0, hk⟩ := Rep.specPut_ev a c s u m d
  refine ⟨k0, fun k g => ?_⟩
  have this : spec_RepPut.f k a c s u m d = some (repS a c s u m d) := hk k g
  show spec_l6Rep.f k a c s u m d = some (repS a c s u m d)
  unfold spec_RepPut.f at this
  rw [Rep.specOk_at, Option.bind_some, if_pos h] at this
  cases hq : spec_l6Rep.f k a c s u m d with
  | none => rw [hq] at this; exact absurd this (by simp)
  | some y => rw [hq] at this; simpa using this
theorem repS_is {a c s u m : Int} {d : ByteArray} (h : repB a c s u m d = true) : repS a c s u m d = packetT false a c (repD s u m d) := by
  unfold repS packetS
  rw [if_pos h, if_pos (repB_packet h)]
theorem rep_packet {a c s u m : Int} {d : ByteArray} (h : repB a c s u m d = true) : packetGet (repS a c s u m d) 0 = (false, a, c, repD s u m d, ((repS a c s u m d).size : Int)) := by
  have := packetGet_back false a c (repD s u m d) ⟨#[]⟩ ⟨#[]⟩ (repS a c s u m d) (repB_packet h) (by rw [repS_is h, empty_append, append_empty])
  rw [← repS_is h] at this
  exact this
theorem repS_size {a c s u m : Int} {d : ByteArray} (h : repB a c s u m d = true) : (repS a c s u m d).size = 13 + d.size := by
  rw [repS_is h, packetT_size, repD_size]
  omega
theorem rep_back {a c s u m : Int} {d : ByteArray} (h : repB a c s u m d = true) : repGet (repS a c s u m d) = (a, c, s, u, m, d, true) := by
  obtain ⟨ha, hc, hs, hu, hm, hd⟩ := repB_range h
  have hz := repS_size h
  have hD := repD_size s u m d
  unfold repGet
  rw [rep_packet h, repOf_yes ⟨by show ((repS a c s u m d).size : Int) ≠ 0; omega, rfl, by show 7 ≤ (repD s u m d).size; omega⟩]
  have e0 : repD s u m d = (⟨#[32]⟩ : ByteArray) ++ bs s.toNat 1 ++ (bs u.toNat 1 ++ bs m.toNat 4 ++ d) := by unfold repD; simp only [ByteArray.append_assoc]
  have e1 : repD s u m d = ((⟨#[32]⟩ : ByteArray) ++ bs s.toNat 1) ++ bs u.toNat 1 ++ (bs m.toNat 4 ++ d) := by unfold repD; simp only [ByteArray.append_assoc]
  have e2 : repD s u m d = ((⟨#[32]⟩ : ByteArray) ++ bs s.toNat 1 ++ bs u.toNat 1) ++ bs m.toNat 4 ++ d := by unfold repD; rfl
  have e3 : repD s u m d = ((⟨#[32]⟩ : ByteArray) ++ bs s.toNat 1 ++ bs u.toNat 1 ++ bs m.toNat 4) ++ d ++ ⟨#[]⟩ := by rw [append_empty]; unfold repD; rfl
  have m0 := num_at 1 _ (show s.toNat < 256 ^ 1 by simp; omega) e0
  have m1 := num_at 1 _ (show u.toNat < 256 ^ 1 by simp; omega) e1
  have m2 := num_at 4 _ (show m.toNat < 256 ^ 4 by simp; omega) e2
  have m3 := extract_at e3
  simp only [ByteArray.size_append, bs_size, one_size] at m0 m1 m2 m3
  have b1 : bt (repD s u m d) 1 = s := by
    have := num_one (repD s u m d) 1 (by omega)
    rw [m0] at this
    have e : ((1 : Nat) : Int) = 1 := rfl
    rw [e] at this
    omega
  have b2 : bt (repD s u m d) 2 = u := by
    have := num_one (repD s u m d) 2 (by omega)
    have m1' : num (repD s u m d) 2 1 = (u.toNat : Int) := m1
    rw [m1'] at this
    have e : ((2 : Nat) : Int) = 2 := rfl
    rw [e] at this
    omega
  have b3 : num (repD s u m d) 3 4 = m := by
    have m2' : num (repD s u m d) 3 4 = (m.toNat : Int) := m2
    rw [m2']; omega
  have b4 : (repD s u m d).extract 7 (repD s u m d).size = d := by
    rw [hD]
    exact m3
  show (if repP a c (repD s u m d) = repS a c s u m d then (a, c, bt (repD s u m d) 1, bt (repD s u m d) 2, num (repD s u m d) 3 4, (repD s u m d).extract 7 (repD s u m d).size, true) else noRep) = _
  unfold repP
  rw [b1, b2, b3, b4, if_pos rfl]
theorem rep_nocmd {a c s u m : Int} {d : ByteArray} (h : repB a c s u m d = true) : Cmd.cmdGet (repS a c s u m d) = Cmd.noCmd 1 := by
  have hz := repS_size h
  unfold Cmd.cmdGet
  rw [rep_packet h]
  unfold Cmd.cmdOf
  rw [if_pos ⟨by show ((repS a c s u m d).size : Int) ≠ 0; omega, rfl⟩]
  rfl
theorem repGet_tells (t : ByteArray) (h : (repGet t).2.2.2.2.2.2 = true) : repS (repGet t).1 (repGet t).2.1 (repGet t).2.2.1 (repGet t).2.2.2.1 (repGet t).2.2.2.2.1 (repGet t).2.2.2.2.2.1 = t := by
  unfold repGet at h ⊢
  generalize packetGet t 0 = p at h ⊢
  by_cases h1 : p.2.2.2.2 ≠ 0 ∧ p.2.2.2.2 = (t.size : Int) ∧ 7 ≤ p.2.2.2.1.size
  · rw [repOf_yes h1] at h ⊢
    by_cases h2 : repP p.2.1 p.2.2.1 p.2.2.2.1 = t
    · rw [if_pos h2]
      exact h2
    · rw [if_neg h2] at h
      exact absurd h (by simp [noRep])
  · rw [repOf_no h1] at h
    exact absurd h (by simp [noRep])
theorem rep_ev {b : List Int} {p : Int} (h : Bytes b) (hp : 0 ≤ p) (hp2 : p < 1000000) :
    ∃ a c s u m d p', Ev (fun k => spec_l15Rep.f k b p) (a, c, s, u, m, d, p') ∧ repB a c s u m d = true ∧ p ≤ p' ∧ p' ≤ p + 1000 := by
  obtain ⟨v1, e1, m1⟩ := one_ev h hp (by omega) [0, 1, 7, 2046] (by simp)
  obtain ⟨v2, e2, g20, g21⟩ := pick_ev h (show 0 ≤ p + 1 by omega) (by omega) 256
  have g22 := g21 (by omega)
  obtain ⟨v3, e3, g30, g31⟩ := pick_ev h (show 0 ≤ p + 1 + 1 by omega) (by omega) 256
  have g32 := g31 (by omega)
  obtain ⟨v4, e4, g40, g41⟩ := pick_ev h (show 0 ≤ p + 1 + 1 + 1 by omega) (by omega) 30
  have g42 := g41 (by omega)
  obtain ⟨v5, e5, g50, g51⟩ := pick_ev h (show 0 ≤ p + 1 + 1 + 1 + 1 by omega) (by omega) 256
  have g52 := g51 (by omega)
  obtain ⟨v6, e6, m6⟩ := one_ev h (show 0 ≤ p + 1 + 1 + 1 + 1 + 1 by omega) (by omega) [v5, 99999, 0] (by simp)
  obtain ⟨t, p7, e7, ht, q0, q1⟩ := text_ev h (show 0 ≤ p + 1 + 1 + 1 + 1 + 1 + 1 by omega) (by omega) 12 (by omega)
  obtain ⟨y, ey, hy⟩ := many_ev 60 (by omega)
  obtain ⟨v8, e8, g80, g81⟩ := pick_ev h (show 0 ≤ p7 by omega) (by omega) 6
  have g82 := g81 (by omega)
  have hw : wrap64 (Int.tdiv v8 5) = v8 / 5 := by rw [Int.tdiv_eq_ediv_of_nonneg g80, wrap64_id (by omega) (by omega)]
  have i0 : 0 ≤ wrap64 (Int.tdiv v8 5) := by rw [hw]; omega
  have i1 : wrap64 (Int.tdiv v8 5) < (([t, y] : List ByteArray).length : Int) := by rw [hw]; simp; omega
  have hd := rdOf_mem [t, y] (wrap64 (Int.tdiv v8 5)) i0 i1
  refine ⟨v1, v2, v3, v4, v6, rdOf ByteArray.empty [t, y] (wrap64 (Int.tdiv v8 5)), p7 + 1, ?_, ?_, by omega, by omega⟩
  · unfold spec_l15Rep.f
    refine Ev.bind e1 ?_
    refine Ev.bind e2 ?_
    refine Ev.bind e3 ?_
    refine Ev.bind e4 ?_
    refine Ev.bind e5 ?_
    refine Ev.bind e6 ?_
    refine Ev.bind e7 ?_
    refine Ev.bind ey ?_
    refine Ev.bindc (x := [t, y]) rfl ?_
    refine Ev.bind e8 ?_
    exact Ev.iteT i0 (Ev.iteT i1 (Ev.now _))
  · generalize rdOf ByteArray.empty [t, y] (wrap64 (Int.tdiv v8 5)) = d at hd
    have hs : d.size ≤ 60 := by
      simp only [List.mem_cons, List.not_mem_nil, or_false] at hd
      rcases hd with rfl | rfl <;> omega
    unfold repB
    simp only [Bool.and_eq_true, inB_true, decide_eq_true_eq]
    simp only [List.mem_cons, List.not_mem_nil, or_false] at m1 m6
    omega
theorem repDrawGet {l : List Int} (h : ∀ x ∈ l, (Lit.int .u8 x).wf = true) : ∃ t, Ev (fun k => spec_DrawRepGet.f k l) t ∧ t.size ≤ 1000 := by
  obtain ⟨b, eo, hb⟩ := open_at h
  obtain ⟨a, c, s, u, m, d, p1, e1, hB, q1, r1⟩ := rep_ev hb (show (0 : Int) ≤ 0 by omega) (by omega)
  have e2 := l6rep_ev a c s u m d hB
  have sz := repS_size hB
  obtain ⟨_, _, _, _, _, hd⟩ := repB_range hB
  generalize repS a c s u m d = T at e2 sz
  obtain ⟨v, e3, g3, _⟩ := pick_ev hb (show 0 ≤ p1 by omega) (by omega) 4
  suffices hs : ∃ t, Ev (fun k => if v = 0 then ((spec_l15Turn.f k b (p1 + 1) T).bind fun x => some x.1) else (if v = 1 then ((spec_l1Rd_pick.f k b (p1 + 1) (wrap64 ((T.size : Int) + 1))).bind fun x => (if 0 ≤ x.1 then (if x.1 ≤ (T.size : Int) then some (T.extract 0 (x.1 : Int).toNat) else none) else none)) else some T)) t ∧ t.size ≤ 1000 by
    obtain ⟨t, et, ht⟩ := hs
    refine ⟨t, ?_, ht⟩
    unfold spec_DrawRepGet.f
    refine Ev.bindc eo ?_
    refine Ev.bind e1 ?_
    refine Ev.bind e2 ?_
    refine Ev.bind e3 ?_
    exact et
  by_cases h0 : v = 0
  · obtain ⟨t', p', e', s', _, _⟩ := turn_ev hb (show 0 ≤ p1 + 1 by omega) (by omega) T (by omega)
    exact ⟨t', Ev.iteT h0 (Ev.bind e' (Ev.now _)), by omega⟩
  · by_cases h1 : v = 1
    · have hw : wrap64 ((T.size : Int) + 1) = (T.size : Int) + 1 := wrap64_id (by omega) (by omega)
      obtain ⟨v5, e5, g5, k5⟩ := pick_ev hb (show 0 ≤ p1 + 1 by omega) (by omega) (wrap64 ((T.size : Int) + 1))
      rw [hw] at k5
      have k6 := k5 (by omega)
      exact ⟨T.extract 0 v5.toNat, Ev.iteF h0 (Ev.iteT h1 (Ev.bind e5 (Ev.iteT g5 (Ev.iteT (show v5 ≤ (T.size : Int) by omega) (Ev.now _))))), by rw [ByteArray.size_extract]; omega⟩
    · exact ⟨T, Ev.iteF h0 (Ev.iteF h1 (Ev.now _)), by omega⟩
theorem repDrawPut {l : List Int} (h : ∀ x ∈ l, (Lit.int .u8 x).wf = true) : ∃ a c s u m d, Ev (fun k => spec_DrawRepPut.f k l) (a, c, s, u, m, d) := by
  obtain ⟨b, eo, hb⟩ := open_at h
  obtain ⟨a, c, s, u, m, d, p1, e1, hB, q1, r1⟩ := rep_ev hb (show (0 : Int) ≤ 0 by omega) (by omega)
  obtain ⟨v, e3, g3, _⟩ := pick_ev hb (show 0 ≤ p1 by omega) (by omega) 12
  unfold spec_DrawRepPut.f
  by_cases h0 : v = 0
  · obtain ⟨w, e4, _⟩ := one_ev hb (show 0 ≤ p1 + 1 by omega) (by omega) [(-1), 100000] (by simp)
    exact ⟨a, c, s, u, w, d, Ev.bindc eo (Ev.bind e1 (Ev.bind e3 (Ev.iteT h0 (Ev.bind e4 (Ev.now _)))))⟩
  · by_cases h1 : v = 1
    · obtain ⟨w, e4, _⟩ := one_ev hb (show 0 ≤ p1 + 1 by omega) (by omega) [(-1), 2047] (by simp)
      exact ⟨w, c, s, u, m, d, Ev.bindc eo (Ev.bind e1 (Ev.bind e3 (Ev.iteF h0 (Ev.iteT h1 (Ev.bind e4 (Ev.now _))))))⟩
    · by_cases h2 : v = 2
      · obtain ⟨y, ey, _⟩ := many_ev 61 (by omega)
        exact ⟨a, c, s, u, m, y, Ev.bindc eo (Ev.bind e1 (Ev.bind e3 (Ev.iteF h0 (Ev.iteF h1 (Ev.iteT h2 (Ev.bind ey (Ev.now _)))))))⟩
      · exact ⟨a, c, s, u, m, d, Ev.bindc eo (Ev.bind e1 (Ev.bind e3 (Ev.iteF h0 (Ev.iteF h1 (Ev.iteF h2 (Ev.now _))))))⟩
theorem rep_j1 {l : List Int} (h : ∀ x ∈ l, (Lit.int .u8 x).wf = true) : Ev (fun k => laws_FnRepBack.j1 k l) true := by
  obtain ⟨t, ed, hs⟩ := repDrawGet h
  refine Ev.step (fun k => by rw [laws_FnRepBack.j1]) ?_
  refine Ev.bind ed ?_
  refine Ev.bind (Rep.implGet_ev t (by omega)) ?_
  refine Ev.bind (Rep.specGet_ev t (by omega)) ?_
  refine Ev.iteT (by simp) ?_
  refine Ev.iteT (by simp) ?_
  have tells := repGet_tells t
  generalize repGet t = r at tells ⊢
  by_cases h0 : r.2.2.2.2.2.2 = true
  · refine Ev.iteT h0 ?_
    refine Ev.bind (Rep.implPut_ev _ _ _ _ _ _) ?_
    rw [tells h0]
    exact Ev.eq (Ev.now _) (by simp)
  · exact Ev.iteF h0 (Ev.now _)
theorem FnRepBack : laws_FnRepBack.Pure := by
  intro l m hl hl2 hlb hm hm2 hmb
  refine Ev.rnd ?_
  unfold laws_FnRepBack.f
  have no : Ev (fun k => laws_FnRepBack.j0 k l m true) true := by
    refine Ev.step (fun k => by rw [laws_FnRepBack.j0]) ?_
    exact Ev.iteT rfl (Ev.now _)
  by_cases h : (l.length : Int) > 1048576
  · exact Ev.iteT h no
  · refine Ev.iteF h ?_
    by_cases h2 : (m.length : Int) > 1048576
    · rw [decide_eq_true h2]
      exact no
    · rw [decide_eq_false h2]
      refine Ev.step (fun k => by rw [laws_FnRepBack.j0]) (Ev.iteF (by simp) ?_)
      obtain ⟨a, c, s, u, x, d, ed⟩ := repDrawPut hlb
      refine Ev.bind ed ?_
      refine Ev.bind (Rep.implPut_ev a c s u x d) ?_
      refine Ev.bind (Rep.specPut_ev a c s u x d) ?_
      refine Ev.iteT rfl ?_
      by_cases hB : repB a c s u x d = true
      · have hz := repS_size hB
        obtain ⟨_, _, _, _, _, hd⟩ := repB_range hB
        have g1 := Rep.implGet_ev (repS a c s u x d) (by omega)
        have g2 := Cmd.implGet_ev (repS a c s u x d) (by omega)
        rw [rep_back hB] at g1
        rw [rep_nocmd hB] at g2
        refine Ev.iteF (fun e => by have : repS a c s u x d = (⟨#[]⟩ : ByteArray) := str_inj (by rw [e, nil_list]); rw [this] at hz; have : (⟨#[]⟩ : ByteArray).size = 0 := rfl; omega) ?_
        refine Ev.bind g1 ?_
        refine Ev.bind g2 ?_
        refine Ev.iteF (by simp) ?_
        refine Ev.iteT rfl ?_
        exact Ev.iteT rfl (rep_j1 hmb)
      · have hS : repS a c s u x d = ⟨#[]⟩ := by unfold repS; rw [if_neg hB]
        rw [hS]
        exact Ev.iteT nil_list (rep_j1 hmb)
end Go.Proofs.YtllchgipnfdneaaDoor.Pure
