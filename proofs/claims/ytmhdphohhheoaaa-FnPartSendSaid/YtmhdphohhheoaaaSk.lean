/- The statements' own equalities, in plain Lean: of one and the same they say yes. No conditions. -/
import Derived.Test.YtmhdphohhheoaaaPx3
import Derived.Test.YtmhdphohhheoaaaEv
namespace Go.Proofs.Ytmhdphohhheoaaa.Sk
open Go.RowKit Go.Proofs.Ytmhdphohhheoaaa.P Go.Proofs.Ytmhdphohhheoaaa.E Go.Proofs.YtmhdphohhheoaaaW.PrintWords
set_option linter.unusedSimpArgs false
set_option linter.unusedVariables false
theorem skInts_ev (l : List Int) (hl : l.length ≤ 1048577) : Ev (fun k => laws_skInts.f k l l) true := by
  unfold laws_skInts.f
  refine Ev.iteT rfl ?_
  refine Ev.loop (L := fun k (i : Int) => laws_skInts.l0 k l l i) (fun i => (i : Int)) l.length 0 (fun i hi k _ => ?_) (fun k _ => ?_)
  · show laws_skInts.l0 (k + 1) l l (i : Int) = _
    rw [laws_skInts.l0, if_pos (by omega), if_pos (by omega), if_pos (by omega), if_pos rfl, wrap64_id (by omega) (by omega)]
    rfl
  · show laws_skInts.l0 (k + 1) l l (l.length : Int) = _
    rw [laws_skInts.l0, if_neg (by omega)]
theorem skProg_ev (l : List S53) (hl : l.length ≤ 1048577) : Ev (fun k => laws_skProg.f k l l) true := by
  unfold laws_skProg.f
  refine Ev.iteT rfl ?_
  refine Ev.loop (L := fun k (i : Int) => laws_skProg.l0 k l l i) (fun i => (i : Int)) l.length 0 (fun i hi k _ => ?_) (fun k _ => ?_)
  · show laws_skProg.l0 (k + 1) l l (i : Int) = _
    rw [laws_skProg.l0, if_pos (by omega), if_pos (by omega), if_pos (by omega), if_neg (by simp), wrap64_id (by omega) (by omega)]
    rfl
  · show laws_skProg.l0 (k + 1) l l (l.length : Int) = _
    rw [laws_skProg.l0, if_neg (by omega)]
theorem skPart_ev (p : List S53) (c : List Int) (a : Int) (f : Bool) (b : List Int) (hp : p.length ≤ 1048577) (hc : c.length ≤ 1048577) (hb : b.length ≤ 1048577) : Ev (fun k => laws_skPart.f k p c a f b p c a f b) true := by
  unfold laws_skPart.f
  refine Ev.bind (skProg_ev p hp) (Ev.iteT rfl ?_)
  refine Ev.bind (skInts_ev c hc) (Ev.iteT rfl (Ev.iteT rfl (Ev.iteT (by simp) ?_)))
  exact Ev.bind (skInts_ev b hb) (Ev.now _)
end Go.Proofs.Ytmhdphohhheoaaa.Sk
