/- A drawn command, in plain Lean: the draw answers. No conditions. -/
import Derived.Test.YtpehnincnpnggaaDoorPx2
import Derived.Test.YtpehnincnpnggaaDoorPx3
import Derived.Test.YtpehnincnpnggaaDoorCmdPutI
import Derived.Test.YtpehnincnpnggaaDoorDrawTxI
namespace Go.Proofs.YtpehnincnpnggaaDoor.Draw
open Go.RowKit Go.Proofs.YtpehnincnpnggaaDoor.P Go.Proofs.YtpehnincnpnggaaDoor.E Go.Proofs.YtpehnincnpnggaaDoor.Num Go.Proofs.YtpehnincnpnggaaDoor.Get Go.Proofs.YtpehnincnpnggaaDoor.In Go.Proofs.YtpehnincnpnggaaDoor.Packet Go.Proofs.YtpehnincnpnggaaDoor.CrcEv Go.Proofs.YtpehnincnpnggaaDoor.Cmd Go.Proofs.YtpehnincnpnggaaDoorW.PrintWords
set_option linter.unusedVariables false
set_option linter.unusedSimpArgs false
theorem cmd_ev {b : List Int} {p : Int} (h : Bytes b) (hp : 0 ≤ p) (hp2 : p < 1000000) :
    ∃ a c o s u d p', Ev (fun k => spec_l15Cmd.f k b p) (a, c, o, s, u, d, p') ∧ cmdB a c o s u d = true ∧ p ≤ p' ∧ p' ≤ p + 1000 := by
  obtain ⟨v1, e1, m1⟩ := one_ev h hp (by omega) [0, 1, 7] (by simp)
  obtain ⟨v2, e2, g20, g21⟩ := pick_ev h (show 0 ≤ p + 1 by omega) (by omega) 256
  have g22 := g21 (by omega)
  obtain ⟨v3, e3, m3⟩ := one_ev h (show 0 ≤ p + 1 + 1 by omega) (by omega) [v2, 16383] (by simp)
  obtain ⟨v4, e4, m4⟩ := one_ev h (show 0 ≤ p + 1 + 1 + 1 by omega) (by omega) [1, 2, 255] (by simp)
  obtain ⟨v5, e5, m5⟩ := one_ev h (show 0 ≤ p + 1 + 1 + 1 + 1 by omega) (by omega) [8, 11, 17, 0, 255] (by simp)
  obtain ⟨v6, e6, g60, g61⟩ := pick_ev h (show 0 ≤ p + 1 + 1 + 1 + 1 + 1 by omega) (by omega) 6
  have g62 := g61 (by omega)
  obtain ⟨t, p7, e7, ht, q0, q1⟩ := text_ev h (show 0 ≤ p + 1 + 1 + 1 + 1 + 1 + 1 by omega) (by omega) 12 (by omega)
  obtain ⟨y, ey, hy⟩ := many_ev 60 (by omega)
  obtain ⟨v8, e8, g80, g81⟩ := pick_ev h (show 0 ≤ p7 by omega) (by omega) 3
  have g82 := g81 (by omega)
  have i1 : v8 < (([t, y, ⟨#[0, 7]⟩] : List ByteArray).length : Int) := by simp; omega
  have hd := rdOf_mem [t, y, ⟨#[0, 7]⟩] v8 g80 i1
  refine ⟨v1, v3, v4, v5, v6, rdOf ByteArray.empty [t, y, ⟨#[0, 7]⟩] v8, p7 + 1, ?_, ?_, by omega, by omega⟩
  · unfold spec_l15Cmd.f
    refine Ev.bind e1 ?_
    refine Ev.bind e2 ?_
    refine Ev.bind e3 ?_
    refine Ev.bind e4 ?_
    refine Ev.bind e5 ?_
    refine Ev.bind e6 ?_
    refine Ev.bind e7 ?_
    refine Ev.bind ey ?_
    refine Ev.bindc (x := [t, y, ⟨#[0, 7]⟩]) rfl ?_
    refine Ev.bind e8 ?_
    exact Ev.iteT g80 (Ev.iteT i1 (Ev.now _))
  · generalize rdOf ByteArray.empty [t, y, ⟨#[0, 7]⟩] v8 = d at hd
    have h2 : (⟨#[0, 7]⟩ : ByteArray).size = 2 := rfl
    have hs : d.size ≤ 60 := by
      simp only [List.mem_cons, List.not_mem_nil, or_false] at hd
      rcases hd with rfl | rfl | rfl <;> omega
    unfold cmdB
    simp only [Bool.and_eq_true, inB_true, decide_eq_true_eq]
    simp only [List.mem_cons, List.not_mem_nil, or_false] at m1 m3 m4 m5
    omega
theorem anyCmd_ev {b : List Int} {p : Int} (h : Bytes b) (hp : 0 ≤ p) (hp2 : p < 1000000) : ∃ r, Ev (fun k => spec_l15AnyCmd.f k b p) r := by
  obtain ⟨a, c, o, s, u, d, p1, e1, _, q0, q1⟩ := cmd_ev h hp hp2
  obtain ⟨v, e2, _, _⟩ := pick_ev h (show 0 ≤ p1 by omega) (by omega) 20
  obtain ⟨w0, f0, _⟩ := one_ev h (show 0 ≤ p1 + 1 by omega) (by omega) [(-1), 2048] (by simp)
  obtain ⟨w1, f1, _⟩ := one_ev h (show 0 ≤ p1 + 1 by omega) (by omega) [(-1), 256] (by simp)
  obtain ⟨y, ey, _⟩ := many_ev 61 (by omega)
  suffices hs : ∃ r, Ev (fun k => if v = 0 then ((spec_l1Rd_one.f k b (p1 + 1) (([(-1), 2048] : List Int))).bind fun bt611 => (some (bt611.1, c, o, s, u, d, bt611.2))) else (if v = 1 then ((spec_l1Rd_one.f k b (p1 + 1) (([(-1), 256] : List Int))).bind fun bt616 => (some (a, c, bt616.1, s, u, d, bt616.2))) else (if v = 2 then ((spec_l1Rd_one.f k b (p1 + 1) (([(-1), 256] : List Int))).bind fun bt621 => (some (a, c, o, bt621.1, u, d, bt621.2))) else (if v = 3 then (some (a, c, o, s, 256, d, p1 + 1)) else (if v = 4 then ((spec_l1Many.f k (⟨#[122]⟩ : ByteArray) 61).bind fun t623 => (some (a, c, o, s, u, t623, p1 + 1))) else (if v = 5 then (some (a, 16384, o, s, u, d, p1 + 1)) else (some (a, c, o, s, u, d, p1 + 1)))))))) r by
    obtain ⟨r, er⟩ := hs
    refine ⟨r, ?_⟩
    unfold spec_l15AnyCmd.f
    refine Ev.bind e1 ?_
    refine Ev.bind e2 ?_
    exact er
  by_cases h0 : v = 0
  · exact ⟨_, Ev.iteT h0 (Ev.bind f0 (Ev.now _))⟩
  · by_cases h1 : v = 1
    · exact ⟨_, Ev.iteF h0 (Ev.iteT h1 (Ev.bind f1 (Ev.now _)))⟩
    · by_cases h2 : v = 2
      · exact ⟨_, Ev.iteF h0 (Ev.iteF h1 (Ev.iteT h2 (Ev.bind f1 (Ev.now _))))⟩
      · by_cases h3 : v = 3
        · exact ⟨_, Ev.iteF h0 (Ev.iteF h1 (Ev.iteF h2 (Ev.iteT h3 (Ev.now _))))⟩
        · by_cases h4 : v = 4
          · exact ⟨_, Ev.iteF h0 (Ev.iteF h1 (Ev.iteF h2 (Ev.iteF h3 (Ev.iteT h4 (Ev.bind ey (Ev.now _))))))⟩
          · by_cases h5 : v = 5
            · exact ⟨_, Ev.iteF h0 (Ev.iteF h1 (Ev.iteF h2 (Ev.iteF h3 (Ev.iteF h4 (Ev.iteT h5 (Ev.now _))))))⟩
            · exact ⟨_, Ev.iteF h0 (Ev.iteF h1 (Ev.iteF h2 (Ev.iteF h3 (Ev.iteF h4 (Ev.iteF h5 (Ev.now _))))))⟩
theorem cmdDrawPut {l : List Int} (h : ∀ x ∈ l, (Lit.int .u8 x).wf = true) : ∃ a c o s u d, Ev (fun k => spec_DrawCmdPut.f k l) (a, c, o, s, u, d) := by
  obtain ⟨b, eo, hb⟩ := open_at h
  obtain ⟨⟨a, c, o, s, u, d, p⟩, er⟩ := anyCmd_ev hb (show (0 : Int) ≤ 0 by omega) (by omega)
  unfold spec_DrawCmdPut.f
  exact ⟨a, c, o, s, u, d, Ev.bindc eo (Ev.bind er (Ev.now _))⟩
end Go.Proofs.YtpehnincnpnggaaDoor.Draw
