/- FnDownBack, behind the machine. No conditions. -/
import Derived.Test.YtlfhbpofboicbaaPx8
import Derived.Test.YtlfhbpofboicbaaPx11
import Derived.Test.YtlfhbpofboicbaaDrawDown
namespace Go.Proofs.Ytlfhbpofboicbaa.Pure
open Go.RowKit Go.Proofs.Ytlfhbpofboicbaa.P Go.Proofs.Ytlfhbpofboicbaa.E Go.Proofs.Ytlfhbpofboicbaa.Num Go.Proofs.Ytlfhbpofboicbaa.Get Go.Proofs.Ytlfhbpofboicbaa.Down Go.Proofs.Ytlfhbpofboicbaa.Draw Go.Proofs.YtlfhbpofboicbaaW.PrintWords
set_option linter.unusedVariables false
set_option linter.unusedSimpArgs false
theorem nil_list : (⟨#[]⟩ : ByteArray).toList = ([] : List UInt8) := by
  unfold ByteArray.toList
  unfold ByteArray.toList.loop
  rfl
theorem down_back {c w a o f : Int} {d m : ByteArray} (h : downB c w a o f d m = true) : downGet (downS c w a o f d m) = (c, w, a, o, f, d, m, true) ∧ (downS c w a o f d m).size = 40 := by
  obtain ⟨hc, hw, ha, ho, hf, hd, hm⟩ := downB_range h
  have hz : 0 < (downS c w a o f d m).size := by
    unfold downS
    rw [if_pos h, ByteArray.size_append, bs_size]
    omega
  obtain ⟨_, n0, n4, n2, n3, x0, x1, hs⟩ := downS_tells rfl hz
  have b2 := num_one (downS c w a o f d m) 2 (by omega)
  have b3 := num_one (downS c w a o f d m) 3 (by omega)
  have g2 : bt (downS c w a o f d m) 2 = a := by rw [n2] at b2; exact b2.symm
  have g3 : bt (downS c w a o f d m) 3 = o := by rw [n3] at b3; exact b3.symm
  have kc : dC (downS c w a o f d m) = c := by unfold dC; omega
  have kw : dW (downS c w a o f d m) = w := by unfold dW; omega
  have kf : dF (downS c w a o f d m) = f := by unfold dF; omega
  have ks : dS (downS c w a o f d m) = downS c w a o f d m := by unfold dS; rw [kc, kw, g2, g3, kf, x0, x1]
  refine ⟨?_, hs⟩
  rw [downGet_yes (by omega) ks, kc, kw, g2, g3, kf, x0, x1]
theorem j1_ev {l : List Int} (h : ∀ x ∈ l, (Lit.int .u8 x).wf = true) : Ev (fun k => laws_FnDownBack.j1 k l false) true := by
  obtain ⟨t, ed, hs⟩ := drawGet h
  refine Ev.step (fun k => by rw [laws_FnDownBack.j1]) (Ev.iteF (by simp) ?_)
  refine Ev.bind ed ?_
  refine Ev.bind (implGet_ev t (by omega)) ?_
  refine Ev.bind (specGet_ev t (by omega)) ?_
  refine Ev.iteT (by simp) ?_
  refine Ev.iteT (by simp) ?_
  by_cases h4 : (t.size : Int) = 40
  · by_cases h2 : dS t = t
    · rw [downGet_yes h4 h2]
      refine Ev.iteT rfl ?_
      refine Ev.bind (implPut_ev _ _ _ _ _ _ _) (Ev.eq (Ev.now _) ?_)
      show ((dS t).toList == t.toList) = true
      rw [h2]
      simp
    · rw [downGet_no h4 h2]
      exact Ev.iteF (by simp [noDown]) (Ev.now _)
  · rw [downGet_len h4]
    exact Ev.iteF (by simp [noDown]) (Ev.now _)
theorem FnDownBack : laws_FnDownBack.Pure := by
  intro l m hl hl2 hlb hm hm2 hmb
  refine Ev.rnd ?_
  unfold laws_FnDownBack.f
  have no : Ev (fun k => laws_FnDownBack.j0 k l m true) true := by
    refine Ev.step (fun k => by rw [laws_FnDownBack.j0]) ?_
    exact Ev.iteT rfl (Ev.now _)
  by_cases h : (l.length : Int) > 1048576
  · exact Ev.iteT h no
  · refine Ev.iteF h ?_
    by_cases h2 : (m.length : Int) > 1048576
    · rw [decide_eq_true h2]
      exact no
    · rw [decide_eq_false h2]
      refine Ev.step (fun k => by rw [laws_FnDownBack.j0]) (Ev.iteF (by simp) ?_)
      obtain ⟨c, w, a, o, f, d, fm, ed⟩ := drawPut hlb
      refine Ev.bind ed ?_
      refine Ev.bind (implPut_ev c w a o f d fm) ?_
      by_cases hB : downB c w a o f d fm = true
      · obtain ⟨hk, hz⟩ := down_back hB
        have eg := implGet_ev (downS c w a o f d fm) (by omega)
        rw [hk] at eg
        refine Ev.bind eg ?_
        refine Ev.bind (specPut_ev c w a o f d fm) ?_
        refine Ev.iteT rfl ?_
        have hne : ((downS c w a o f d fm).toList != ([] : List UInt8)) = true := by
          rw [bne_iff_ne]
          intro e
          have : downS c w a o f d fm = (⟨#[]⟩ : ByteArray) := str_inj (by rw [e, nil_list])
          rw [this] at hz
          exact absurd hz (by decide)
        dsimp only
        rw [hne]
        refine Ev.iteF (by simp) (Ev.iteT rfl (Ev.iteF (by simp) ?_))
        rw [show (((downS c w a o f d fm).size : Int) != 40) = false by rw [bne_eq_false_iff_eq]; omega]
        exact j1_ev hmb
      · have hS : downS c w a o f d fm = ⟨#[]⟩ := by unfold downS; rw [if_neg hB]
        rw [hS]
        have e0 : downGet (⟨#[]⟩ : ByteArray) = noDown := downGet_len (by decide)
        have eg := implGet_ev (⟨#[]⟩ : ByteArray) (by decide)
        rw [e0] at eg
        refine Ev.bind eg ?_
        have es := specPut_ev c w a o f d fm
        rw [hS] at es
        refine Ev.bind es ?_
        refine Ev.iteT rfl ?_
        rw [nil_list]
        exact Ev.iteF (by simp [noDown]) (Ev.iteF (by simp [noDown]) (j1_ev hmb))
end Go.Proofs.Ytlfhbpofboicbaa.Pure
