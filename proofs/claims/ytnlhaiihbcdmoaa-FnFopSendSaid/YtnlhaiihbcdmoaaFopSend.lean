/- Who sends frames sends data, in plain Lean: the program's and the reference's are one. No conditions. -/
import Derived.Test.YtnlhaiihbcdmoaaPx10
import Derived.Test.YtnlhaiihbcdmoaaFop
namespace Go.Proofs.Ytnlhaiihbcdmoaa.Fop
open Go.RowKit Go.Proofs.Ytnlhaiihbcdmoaa.P Go.Proofs.Ytnlhaiihbcdmoaa.E Go.Proofs.Ytnlhaiihbcdmoaa.Num Go.Proofs.Ytnlhaiihbcdmoaa.In Go.Proofs.Ytnlhaiihbcdmoaa.Lists Go.Proofs.YtnlhaiihbcdmoaaW.PrintWords
set_option linter.unusedSimpArgs false
set_option linter.unusedVariables false
abbrev SendR := Int × Int × Int × List ByteArray × Bool × List S35
def mayB (l : List ByteArray) (s : Bool) (x : ByteArray) : Bool := !s && (decide (l.length < 4) && textB x)
def sendR (c v n : Int) (l : List ByteArray) (s : Bool) (x : ByteArray) : SendR :=
  if fopB c v n l = true then (if mayB l s x = true then (c, v, (n + 1) % 256, l ++ [x], s, [⟨false, false, c, v, n, x⟩]) else (c, v, n, l, s, [])) else (0, 0, 0, [], false, [])
theorem sendR_no {c v n : Int} {l : List ByteArray} {s : Bool} {x : ByteArray} (h : ¬ fopB c v n l = true) : sendR c v n l s x = (0, 0, 0, [], false, []) := by unfold sendR; rw [if_neg h]
theorem sendR_yes {c v n : Int} {l : List ByteArray} {s : Bool} {x : ByteArray} (h : fopB c v n l = true) (h2 : mayB l s x = true) : sendR c v n l s x = (c, v, (n + 1) % 256, l ++ [x], s, [⟨false, false, c, v, n, x⟩]) := by unfold sendR; rw [if_pos h, if_pos h2]
theorem sendR_keep {c v n : Int} {l : List ByteArray} {s : Bool} {x : ByteArray} (h : fopB c v n l = true) (h2 : mayB l s x = false) : sendR c v n l s x = (c, v, n, l, s, []) := by unfold sendR; rw [if_pos h, if_neg (by rw [h2]; simp)]
theorem implSend_ev (c v n : Int) (l : List ByteArray) (s : Bool) (x : ByteArray) (hl : l.length ≤ 1048577) : Ev (fun k => impl_FopSend.f k c v n l s x) (sendR c v n l s x) := by
  unfold impl_FopSend.f
  refine Ev.bind (implOk_ev c v n l s hl) ?_
  have cp : impl_FopSend.c c v n l s = some (c, v, n, l, s, []) := by unfold impl_FopSend.c; rw [implCopy_at c v n l s hl]; rfl
  by_cases h : fopB c v n l = true
  · obtain ⟨⟨n0, n1⟩, h4⟩ := fopB_range h
    refine Ev.iteT h (Ev.iteT h4 ?_)
    cases s with
    | true =>
      rw [sendR_keep h rfl]
      exact Ev.iteT rfl (Ev.const cp)
    | false =>
      refine Ev.iteF (by simp) (Ev.bindc (dataOk_at x) ?_)
      by_cases hx : textB x = true
      · refine Ev.iteT hx ?_
        by_cases h5 : l.length = 4
        · rw [sendR_keep h (by unfold mayB; rw [decide_eq_false (by omega)]; rfl)]
          exact Ev.iteT h5 (Ev.const cp)
        · rw [sendR_yes h (by unfold mayB; rw [decide_eq_true (by omega), hx]; rfl)]
          refine Ev.iteF h5 (Ev.bindc (plus_at n 1 n0 n1 (by omega) (by omega)) (Ev.eq (Ev.now _) ?_))
          rw [show (n + 1 + 256) % 256 = (n + 1) % 256 by omega]
      · rw [sendR_keep h (by unfold mayB; rw [Bool.not_eq_true] at hx; rw [hx, Bool.and_false, Bool.and_false])]
        exact Ev.iteF hx (Ev.const cp)
  · rw [sendR_no h]
    exact Ev.iteF h (Ev.now _)
theorem specSend_ev (c v n : Int) (l : List ByteArray) (s : Bool) (x : ByteArray) (hl : l.length ≤ 1048577) : Ev (fun k => spec_FopSend.f k c v n l s x) (sendR c v n l s x) := by
  unfold spec_FopSend.f
  refine Ev.bind (specOk_ev c v n l s hl) ?_
  have keep : ∀ a b d e f, Ev (fun k => spec_FopSend.j0 k x true a b d e f c v n l s) (c, v, n, l, s, []) := fun a b d e f => by
    refine Ev.step (fun k => by rw [spec_FopSend.j0]) ?_
    exact Ev.iteT rfl (Ev.now _)
  by_cases h : fopB c v n l = true
  · obtain ⟨⟨n0, n1⟩, h4⟩ := fopB_range h
    refine Ev.iteT h (Ev.bindc (specCopy_at c v n l s hl) ?_)
    cases s with
    | true =>
      rw [sendR_keep h rfl]
      exact Ev.iteT rfl (keep _ _ _ _ _)
    | false =>
      refine Ev.iteF (by simp) ?_
      by_cases h5 : (l.length : Int) ≥ 4
      · rw [sendR_keep h (by unfold mayB; rw [decide_eq_false (by omega)]; rfl)]
        exact Ev.iteT h5 (keep _ _ _ _ _)
      · refine Ev.iteF h5 (Ev.bindc (l1In_at _ _ _) ?_)
        by_cases hx : textB x = true
        · rw [sendR_yes h (by unfold mayB; rw [decide_eq_true (by omega), hx]; rfl), show (!inB (x.size : Int) 1 53) = false by rw [show inB (x.size : Int) 1 53 = true from hx]; rfl]
          refine Ev.step (fun k => by rw [spec_FopSend.j0]) ?_
          refine Ev.iteF (by simp) (Ev.iteT (show l.length < 8796093022208 by omega) ?_)
          rw [wrap64_id (by omega) (by omega)]
          refine Ev.bindc (mod_at _ (by omega) (by omega)) (Ev.bindc (show spec_l5Frame.f c v n l false n x = some (false, false, c, v, n, x) from rfl) (Ev.eq (Ev.now _) ?_))
          rw [show (n + 1 + 512) % 256 = (n + 1) % 256 by omega]
        · have hx' := hx
          rw [Bool.not_eq_true] at hx
          rw [sendR_keep h (by unfold mayB; rw [hx, Bool.and_false, Bool.and_false]), show (!inB (x.size : Int) 1 53) = true by rw [show inB (x.size : Int) 1 53 = false from hx]; rfl]
          exact keep _ _ _ _ _
  · rw [sendR_no h]
    exact Ev.iteF h (Ev.now _)
theorem sendR_short (c v n : Int) (l : List ByteArray) (s : Bool) (x : ByteArray) : (sendR c v n l s x).2.2.2.1.length ≤ l.length + 1 ∧ ((sendR c v n l s x).2.2.2.2.2 = [] ∨ (sendR c v n l s x).2.2.2.2.2 = [⟨false, false, c, v, n, x⟩]) := by
  unfold sendR
  split
  · split
    · exact ⟨by simp, Or.inr rfl⟩
    · exact ⟨by simp, Or.inl rfl⟩
  · exact ⟨by simp, Or.inl rfl⟩
end Go.Proofs.Ytnlhaiihbcdmoaa.Fop
