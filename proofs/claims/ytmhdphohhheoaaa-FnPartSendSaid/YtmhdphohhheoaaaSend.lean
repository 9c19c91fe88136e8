/- PartSend in plain Lean: what it answers, the program's and the reference's. No conditions. -/
import Derived.Test.YtmhdphohhheoaaaPx12
import Derived.Test.YtmhdphohhheoaaaPx13
import Derived.Test.YtmhdphohhheoaaaPx14
import Derived.Test.YtmhdphohhheoaaaParts
namespace Go.Proofs.Ytmhdphohhheoaaa.Send
open Go.RowKit Go.Proofs.Ytmhdphohhheoaaa.P Go.Proofs.Ytmhdphohhheoaaa.E Go.Proofs.Ytmhdphohhheoaaa.OpsOk Go.Proofs.Ytmhdphohhheoaaa.Parts Go.Proofs.YtmhdphohhheoaaaW.PrintWords
set_option linter.unusedSimpArgs false
set_option linter.unusedVariables false
abbrev PartT := List S53 × List Int × Int × Bool × List Int × Bool
def sendR (p : List S53) (c : List Int) (a : Int) (f : Bool) (b : List Int) (v : Int) : PartT :=
  if partB p c a b = true then (if inB v 0 9999 = true then (if b.length ≥ 4 then (p, c, a, f, b, false) else (p, c, a, f, b ++ [v], true)) else (p, c, a, f, b, false)) else ([], [], 0, false, [], false)
theorem clone_ints (l : List Int) (h : l.length ≤ 1048577) : slices_Clone_int_int.f l = some l := by
  unfold slices_Clone_int_int.f
  simp only [Option.bind_some, List.length_nil, List.nil_append]
  rw [if_pos (by omega)]
theorem clone_ops (l : List S53) (h : l.length ≤ 1048577) : impl_Op.f l = some l := by
  unfold impl_Op.f
  simp only [Option.bind_some, List.length_nil, List.nil_append]
  rw [if_pos (by omega)]
theorem implCopy_at (p : List S53) (c : List Int) (a : Int) (f : Bool) (b : List Int) (hp : p.length ≤ 1048577) (hc : c.length ≤ 1048577) (hb : b.length ≤ 1048577) : impl_partCopy.f p c a f b = some (p, c, a, f, b) := by
  unfold impl_partCopy.f
  rw [clone_ops p hp, clone_ints c hc, clone_ints b hb]
  rfl
theorem specCopy_at (p : List S53) (c : List Int) (a : Int) (f : Bool) (b : List Int) (hp : p.length ≤ 1048577) (hc : c.length ≤ 1048577) (hb : b.length ≤ 1048577) : spec_l10Copy.f p c a f b = some (p, c, a, f, b) := by
  unfold spec_l10Copy.f
  simp only [Option.bind_some, List.length_nil, List.nil_append, Nat.zero_add]
  rw [if_pos (by omega), if_pos (by omega), if_pos (by omega)]
theorem sendR_no {p : List S53} {c : List Int} {a : Int} {f : Bool} {b : List Int} {v : Int} (h : ¬ partB p c a b = true) : sendR p c a f b v = ([], [], 0, false, [], false) := by unfold sendR; rw [if_neg h]
theorem sendR_full {p : List S53} {c : List Int} {a : Int} {f : Bool} {b : List Int} {v : Int} (h : partB p c a b = true) (h2 : inB v 0 9999 = true) (h3 : b.length ≥ 4) : sendR p c a f b v = (p, c, a, f, b, false) := by unfold sendR; rw [if_pos h, if_pos h2, if_pos h3]
theorem sendR_put {p : List S53} {c : List Int} {a : Int} {f : Bool} {b : List Int} {v : Int} (h : partB p c a b = true) (h2 : inB v 0 9999 = true) (h3 : ¬ b.length ≥ 4) : sendR p c a f b v = (p, c, a, f, b ++ [v], true) := by unfold sendR; rw [if_pos h, if_pos h2, if_neg h3]
theorem sendR_out {p : List S53} {c : List Int} {a : Int} {f : Bool} {b : List Int} {v : Int} (h : partB p c a b = true) (h2 : ¬ inB v 0 9999 = true) : sendR p c a f b v = (p, c, a, f, b, false) := by unfold sendR; rw [if_pos h, if_neg h2]
theorem box_le {p : List S53} {c : List Int} {a : Int} {b : List Int} (h : partB p c a b = true) : b.length ≤ 4 := by
  unfold partB at h
  simp only [Bool.and_eq_true, decide_eq_true_eq] at h
  exact h.2.2.2.2.1
theorem implSend_ev (p : List S53) (c : List Int) (a : Int) (f : Bool) (b : List Int) (v : Int) (hp : p.length ≤ 1048576) (hc : c.length ≤ 1048576) (hb : b.length ≤ 1048576) : Ev (fun k => impl_PartSend.f k p c a f b v) (sendR p c a f b v) := by
  unfold impl_PartSend.f
  refine Ev.bind (implPart_ev p c a f b (by omega) (by omega) (by omega)) ?_
  by_cases h : partB p c a b = true
  · have h4 := box_le h
    refine Ev.iteT h ?_
    refine Ev.bindc (implCopy_at p c a f b (by omega) (by omega) (by omega)) ?_
    refine Ev.bindc (within_at _ _) ?_
    by_cases h2 : inB v 0 9999 = true
    · refine Ev.iteT h2 ?_
      by_cases h3 : b.length ≥ 4
      · rw [sendR_full h h2 h3]
        exact Ev.iteT (by omega) (Ev.now _)
      · rw [sendR_put h h2 h3]
        exact Ev.iteF (by omega) (Ev.iteT (by show b.length < _; omega) (Ev.now _))
    · rw [sendR_out h h2]
      exact Ev.iteF h2 (Ev.now _)
  · rw [sendR_no h]
    exact Ev.iteF h (Ev.now _)
theorem specSend_ev (p : List S53) (c : List Int) (a : Int) (f : Bool) (b : List Int) (v : Int) (hp : p.length ≤ 1048576) (hc : c.length ≤ 1048576) (hb : b.length ≤ 1048576) : Ev (fun k => spec_PartSend.f k p c a f b v) (sendR p c a f b v) := by
  unfold spec_PartSend.f
  refine Ev.bind (specPart_ev p c a f b (by omega) (by omega) (by omega)) ?_
  by_cases h : partB p c a b = true
  · have h4 := box_le h
    refine Ev.iteT h ?_
    refine Ev.bindc (specCopy_at p c a f b (by omega) (by omega) (by omega)) ?_
    refine Ev.bindc (l1In_at _ _ _) ?_
    by_cases h2 : inB v 0 9999 = true
    · refine Ev.iteT h2 ?_
      by_cases h3 : b.length ≥ 4
      · rw [sendR_full h h2 h3]
        exact Ev.iteT (by omega) (Ev.now _)
      · rw [sendR_put h h2 h3]
        exact Ev.iteF (by omega) (Ev.iteT (by show b.length < _; omega) (Ev.now _))
    · rw [sendR_out h h2]
      exact Ev.iteF h2 (Ev.now _)
  · rw [sendR_no h]
    exact Ev.iteF h (Ev.now _)
theorem sendR_short (p : List S53) (c : List Int) (a : Int) (f : Bool) (b : List Int) (v : Int) (hp : p.length ≤ 1048576) (hc : c.length ≤ 1048576) (hb : b.length ≤ 1048576) :
    (sendR p c a f b v).1.length ≤ 1048576 ∧ (sendR p c a f b v).2.1.length ≤ 1048576 ∧ (sendR p c a f b v).2.2.2.2.1.length ≤ 1048576 := by
  unfold sendR
  by_cases h : partB p c a b = true
  · rw [if_pos h]
    have h4 : b.length ≤ 4 := by
      unfold partB at h
      simp only [Bool.and_eq_true, decide_eq_true_eq] at h
      exact h.2.2.2.2.1
    split
    · split
      · exact ⟨hp, hc, hb⟩
      · exact ⟨hp, hc, by simp; omega⟩
    · exact ⟨hp, hc, hb⟩
  · rw [if_neg h]
    simp
end Go.Proofs.Ytmhdphohhheoaaa.Send
