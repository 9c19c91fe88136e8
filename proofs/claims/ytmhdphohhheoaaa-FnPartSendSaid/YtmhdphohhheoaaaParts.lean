/- Plain facts on programs that run: when one is right. No conditions. -/
import Derived.Test.YtmhdphohhheoaaaPx5
import Derived.Test.YtmhdphohhheoaaaPx7
import Derived.Test.YtmhdphohhheoaaaOpsOk
import Derived.Test.YtmhdphohhheoaaaEv
namespace Go.Proofs.Ytmhdphohhheoaaa.Parts
open Go.RowKit Go.Proofs.Ytmhdphohhheoaaa.P Go.Proofs.Ytmhdphohhheoaaa.E Go.Proofs.Ytmhdphohhheoaaa.OpsOk Go.Proofs.YtmhdphohhheoaaaW.PrintWords
set_option linter.unusedSimpArgs false
set_option linter.unusedVariables false

def valuesB (l : List Int) : Bool := l.all fun x => inB x 0 9999
theorem implValues_ev (l : List Int) (hl : l.length ≤ 9223372036854775806) : Ev (fun k => impl_valuesOk.f k l) (valuesB l) := by
  unfold impl_valuesOk.f valuesB
  rw [← Bool.and_true (l.all _), ← all_range l 0 (fun x => inB x 0 9999)]
  refine Ev.all (L := fun k i => impl_valuesOk.l0 k l l.length i) l.length 0 _ (fun i hi k hk => ?_) (fun k hk => ?_)
  · show impl_valuesOk.l0 (k + 1) l l.length i = _
    rw [impl_valuesOk.l0, if_pos (by omega), if_pos (by omega), if_pos (by omega), within_at, wrap_succ (by omega)]
    simp [rd]
  · show impl_valuesOk.l0 (k + 1) l l.length l.length = _
    rw [impl_valuesOk.l0, if_neg (by omega)]
theorem specValues_ev (l : List Int) (hl : l.length ≤ 9223372036854775806) : Ev (fun k => spec_l10Values.f k l) (valuesB l) := by
  unfold spec_l10Values.f valuesB
  rw [← Bool.and_true (l.all _), ← all_range l 0 (fun x => inB x 0 9999)]
  refine Ev.all (L := fun k i => spec_l10Values.l0 k l i) l.length 0 _ (fun i hi k hk => ?_) (fun k hk => ?_)
  · show spec_l10Values.l0 (k + 1) l i = _
    rw [spec_l10Values.l0, if_pos (by omega), if_pos (by omega), l1In_at, wrap_succ (by omega)]
    simp [rd]
  · show spec_l10Values.l0 (k + 1) l l.length = _
    rw [spec_l10Values.l0, if_neg (by omega)]

def partB (p : List S53) (c : List Int) (a : Int) (b : List Int) : Bool := progB p && (decide (c.length = 8) && (valuesB c && (inB a 0 ((p.length : Int) - 1) && (decide (b.length ≤ 4) && valuesB b))))

theorem chain_true {α : Type} {g : Nat → Option α} {r : α} : True := trivial

theorem implPart_ev (p : List S53) (c : List Int) (a : Int) (f : Bool) (b : List Int) (hp : p.length ≤ 9223372036854775806) (hc : c.length ≤ 9223372036854775806) (hb : b.length ≤ 9223372036854775806) : Ev (fun k => impl_PartOk.f k p c a f b) (partB p c a b) := by
  unfold impl_PartOk.f partB
  refine Ev.bind (implProg_ev p hp) ?_
  cases h1 : progB p with
  | false => exact Ev.iteF (by simp) (Ev.now false)
  | true =>
    refine Ev.iteT rfl ?_
    by_cases h2 : (c.length : Int) = 8
    · refine Ev.iteT h2 ?_
      rw [decide_eq_true (show c.length = 8 by omega)]
      refine Ev.bind (implValues_ev c hc) ?_
      cases h3 : valuesB c with
      | false => exact Ev.iteF (by simp) (Ev.now false)
      | true =>
        refine Ev.iteT rfl (Ev.bindc (within_at _ _) ?_)
        rw [wrap_pred (by omega) (by omega)]
        cases h4 : inB a 0 ((p.length : Int) - 1) with
        | false => exact Ev.iteF (by simp) (Ev.now false)
        | true =>
          refine Ev.iteT rfl ?_
          by_cases h5 : (b.length : Int) ≤ 4
          · rw [decide_eq_true (show b.length ≤ 4 by omega)]
            exact Ev.iteT h5 (Ev.bind (implValues_ev b hb) (Ev.now _))
          · rw [decide_eq_false (show ¬ b.length ≤ 4 by omega)]
            exact Ev.iteF h5 (Ev.now false)
    · rw [decide_eq_false (show ¬ c.length = 8 by omega)]
      exact Ev.iteF h2 (Ev.now false)
theorem specPart_ev (p : List S53) (c : List Int) (a : Int) (f : Bool) (b : List Int) (hp : p.length ≤ 9223372036854775806) (hc : c.length ≤ 9223372036854775806) (hb : b.length ≤ 9223372036854775806) : Ev (fun k => spec_PartOk.f k p c a f b) (partB p c a b) := by
  unfold spec_PartOk.f partB
  refine Ev.bind (specProg_ev p hp) ?_
  cases h1 : progB p with
  | false => exact Ev.iteF (by simp) (Ev.now false)
  | true =>
    refine Ev.iteT rfl ?_
    by_cases h2 : (c.length : Int) = 8
    · refine Ev.iteT h2 ?_
      rw [decide_eq_true (show c.length = 8 by omega)]
      refine Ev.bind (specValues_ev c hc) ?_
      cases h3 : valuesB c with
      | false => exact Ev.iteF (by simp) (Ev.now false)
      | true =>
        refine Ev.iteT rfl (Ev.bindc (l1In_at _ _ _) ?_)
        rw [wrap_pred (by omega) (by omega)]
        cases h4 : inB a 0 ((p.length : Int) - 1) with
        | false => exact Ev.iteF (by simp) (Ev.now false)
        | true =>
          refine Ev.iteT rfl ?_
          by_cases h5 : (b.length : Int) ≤ 4
          · rw [decide_eq_true (show b.length ≤ 4 by omega)]
            exact Ev.iteT h5 (Ev.bind (specValues_ev b hb) (Ev.now _))
          · rw [decide_eq_false (show ¬ b.length ≤ 4 by omega)]
            exact Ev.iteF h5 (Ev.now false)
    · rw [decide_eq_false (show ¬ c.length = 8 by omega)]
      exact Ev.iteF h2 (Ev.now false)
end Go.Proofs.Ytmhdphohhheoaaa.Parts
