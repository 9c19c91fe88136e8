/- FnPartNew, behind the machine: of a drawn program the program's PartNew and the reference's are one, and it is ok if the program is. No conditions. -/
import Derived.Test.YtmhdphohhheoaaaPx8
import Derived.Test.YtmhdphohhheoaaaPx10
import Derived.Test.YtmhdphohhheoaaaPx15
import Derived.Test.YtmhdphohhheoaaaPx22
import Derived.Test.YtmhdphohhheoaaaPx23
import Derived.Test.YtmhdphohhheoaaaOpsOk
import Derived.Test.YtmhdphohhheoaaaParts
import Derived.Test.YtmhdphohhheoaaaDrawProg
import Derived.Test.YtmhdphohhheoaaaSk
namespace Go.Proofs.Ytmhdphohhheoaaa.Pure
open Go.RowKit Go.Proofs.Ytmhdphohhheoaaa.P Go.Proofs.Ytmhdphohhheoaaa.E Go.Proofs.Ytmhdphohhheoaaa.OpsOk Go.Proofs.Ytmhdphohhheoaaa.Parts Go.Proofs.Ytmhdphohhheoaaa.Draw Go.Proofs.Ytmhdphohhheoaaa.Sk Go.Proofs.YtmhdphohhheoaaaW.PrintWords
set_option linter.unusedSimpArgs false
set_option linter.unusedVariables false
theorem fillProg_ev : ∀ (d : Nat) (L : List S53), L.length + d = 17 → ∃ R, Ev (fun k => spec_DrawProgOk.l0 k L) R ∧ R.length = 17 := by
  intro d
  induction d with
  | zero => exact fun L hL => ⟨L, Ev.step (fun k => by rw [spec_DrawProgOk.l0]) (Ev.iteF (by omega) (Ev.now _)), by omega⟩
  | succ d ih =>
    intro L hL
    obtain ⟨R, e, hR⟩ := ih (L ++ [⟨11, 0, 0⟩]) (by simp; omega)
    exact ⟨R, Ev.step (fun k => by rw [spec_DrawProgOk.l0]) (Ev.iteT (by omega) (Ev.iteT (by omega) e)), hR⟩
theorem drawProgOk_ev {l0 : List Int} (hw : ∀ x ∈ l0, (Lit.int .u8 x).wf = true) : ∃ L, Ev (fun k => spec_DrawProgOk.f k l0) L ∧ L.length ≤ 17 := by
  unfold spec_DrawProgOk.f
  obtain ⟨b, hb, h⟩ := open_at hw
  obtain ⟨R, q, e, hR, hR2, q0, q1, _⟩ := prog_ev h (p := 0) (by omega) (by omega)
  obtain ⟨x, ex, x0, x1⟩ := pick_ev h (p := q) (by omega) (by omega) (R.length : Int)
  have hx := x1 (by omega)
  obtain ⟨y, ey, y0, y1⟩ := pick_ev h (p := q + 1) (by omega) (by omega) 10
  obtain ⟨u, eu, _⟩ := one_ev h (p := q + 1 + 1) (by omega) (by omega) [0, 14] (by simp)
  obtain ⟨v, ev, _⟩ := one_ev h (p := q + 1 + 1) (by omega) (by omega) [-1, 8] (by simp)
  obtain ⟨w, ew, _⟩ := one_ev h (p := q + 1 + 1) (by omega) (by omega) [-1, 10000, 9] (by simp)
  by_cases h0 : y = 0
  · refine ⟨R.set x.toNat ⟨u, (rd_T53 R x).f1, (rd_T53 R x).f2⟩, Ev.bindc hb (Ev.bind e (Ev.bind ex (Ev.bind ey (Ev.iteT h0 ?_)))), by simp; omega⟩
    refine Ev.bind eu ?_
    exact Ev.iteT x0 (Ev.iteT hx (Ev.now _))
  · by_cases h1 : y = 1
    · refine ⟨R.set x.toNat ⟨(rd_T53 R x).f0, v, (rd_T53 R x).f2⟩, Ev.bindc hb (Ev.bind e (Ev.bind ex (Ev.bind ey (Ev.iteF h0 (Ev.iteT h1 ?_))))), by simp; omega⟩
      refine Ev.bind ev ?_
      exact Ev.iteT x0 (Ev.iteT hx (Ev.now _))
    · by_cases h2 : y = 2
      · refine ⟨R.set x.toNat ⟨(rd_T53 R x).f0, (rd_T53 R x).f1, w⟩, Ev.bindc hb (Ev.bind e (Ev.bind ex (Ev.bind ey (Ev.iteF h0 (Ev.iteF h1 (Ev.iteT h2 ?_)))))), by simp; omega⟩
        refine Ev.bind ew ?_
        exact Ev.iteT x0 (Ev.iteT hx (Ev.now _))
      · by_cases h3 : y = 3
        · obtain ⟨S, eS, hS⟩ := fillProg_ev (17 - R.length) R (by omega)
          exact ⟨S, Ev.bindc hb (Ev.bind e (Ev.bind ex (Ev.bind ey (Ev.iteF h0 (Ev.iteF h1 (Ev.iteF h2 (Ev.iteT h3 eS))))))), by omega⟩
        · by_cases h4 : y = 4
          · exact ⟨[], Ev.bindc hb (Ev.bind e (Ev.bind ex (Ev.bind ey (Ev.iteF h0 (Ev.iteF h1 (Ev.iteF h2 (Ev.iteF h3 (Ev.iteT h4 (Ev.now _))))))))), by simp⟩
          · exact ⟨R, Ev.bindc hb (Ev.bind e (Ev.bind ex (Ev.bind ey (Ev.iteF h0 (Ev.iteF h1 (Ev.iteF h2 (Ev.iteF h3 (Ev.iteF h4 (Ev.now _))))))))), by omega⟩
def newP (l : List S53) : List S53 := if progB l = true then l else []
def newC (l : List S53) : List Int := if progB l = true then List.replicate 8 0 else []
theorem specNew_ev (l : List S53) (h : l.length ≤ 1048576) : Ev (fun k => spec_PartNew.f k l) (newP l, newC l, 0, false, []) := by
  unfold spec_PartNew.f newP newC
  refine Ev.bind (specProg_ev l (by omega)) ?_
  cases progB l with
  | false => exact Ev.iteF (by simp) (Ev.now _)
  | true => exact Ev.iteT rfl (Ev.bindc rfl (Ev.iteT (by simp; omega) (Ev.iteT (by omega) (Ev.now _))))
theorem implNew_ev (l : List S53) (h : l.length ≤ 1048576) : Ev (fun k => impl_PartNew.f k l) (newP l, newC l, 0, false, []) := by
  unfold impl_PartNew.f newP newC
  refine Ev.bind (implProg_ev l (by omega)) ?_
  cases progB l with
  | false => exact Ev.iteF (by simp) (Ev.now _)
  | true =>
    refine Ev.iteT rfl (Ev.bindc (x := l) ?_ (Ev.iteT (by omega) (Ev.now _)))
    unfold impl_Op.f
    simp only [Option.bind_some, List.length_nil, List.nil_append]
    rw [if_pos (by omega)]
theorem new_part (l : List S53) : partB (newP l) (newC l) 0 [] = progB l := by
  unfold newP newC
  cases h : progB l with
  | false => simp [partB, progB]
  | true =>
    simp only [if_pos rfl]
    unfold partB
    simp [h, valuesB, inB]
    have : 1 ≤ l.length := by
      cases l with
      | nil => simp [progB, inB] at h
      | cons x l => simp
    omega
theorem FnPartNew : laws_FnPartNew.Pure := by
  intro l0 _ _ hw
  refine Ev.rounds ?_
  unfold laws_FnPartNew.f
  by_cases h : (l0.length : Int) > 1048576
  · exact Ev.iteT h (Ev.now _)
  · obtain ⟨L, eL, hL⟩ := drawProgOk_ev hw
    have eL2 : Ev (fun k => spec_DrawPartNew.f k l0) L := by
      unfold spec_DrawPartNew.f
      exact Ev.bind eL (Ev.now _)
    have l1 : (newP L).length ≤ 1048577 := by
      unfold newP
      split
      · omega
      · simp
    have l2 : (newC L).length ≤ 1048577 := by unfold newC; split <;> simp
    refine Ev.iteF h (Ev.bind eL2 (Ev.bind (implNew_ev L (by omega)) (Ev.bind (specNew_ev L (by omega)) ?_)))
    refine Ev.bind (skPart_ev _ _ _ _ _ l1 l2 (by simp)) (Ev.iteT rfl ?_)
    refine Ev.bind (implProg_ev L (by omega)) (Ev.bind (specProg_ev L (by omega)) ?_)
    refine Ev.step (fun k => by rw [laws_FnPartNew.j0]) (Ev.iteF (by simp) ?_)
    refine Ev.bind (implPart_ev (newP L) (newC L) 0 false [] (by omega) (by omega) (by simp)) (Ev.bind (specProg_ev L (by omega)) ?_)
    rw [new_part]
    exact Ev.iteT (by simp) (Ev.iteT rfl (Ev.iteF (by simp) (Ev.now _)))
end Go.Proofs.Ytmhdphohhheoaaa.Pure
