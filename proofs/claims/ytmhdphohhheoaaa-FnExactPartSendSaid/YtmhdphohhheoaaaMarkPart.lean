/- What the laws mark in a program that runs is held. No conditions. -/
import Derived.Test.YtmhdphohhheoaaaPx17
import Derived.Test.YtmhdphohhheoaaaMarkInt
import Derived.Test.YtmhdphohhheoaaaMarkOp
namespace Go.Proofs.Ytmhdphohhheoaaa.Lists
open Go.RowKit Go.Proofs.Ytmhdphohhheoaaa.P Go.Proofs.Ytmhdphohhheoaaa.E Go.Proofs.YtmhdphohhheoaaaW.PrintWords
set_option linter.unusedSimpArgs false
set_option linter.unusedVariables false

theorem markPart_ev (p : List S53) (c : List Int) (a : Int) (f : Bool) (b : List Int) (hp : p.length ≤ 1048576) (hc : c.length ≤ 1048576) (hb : b.length ≤ 1048576) :
    ∃ (m : Int) (p' : List S53) (c' b' : List Int), 0 ≤ m ∧ Ev (fun k => laws_markPart.f k p c a f b 1) (m, p', c', b') ∧ Ev (fun k => laws_heldPart.f k p' c' a f b' 1) m := by
  refine ⟨1 + 3 * p.length + c.length + b.length, mkOp 1 p.length, mkInt (1 + 3 * p.length) c.length, mkInt (1 + 3 * p.length + c.length) b.length, by omega, ?_, ?_⟩
  · unfold laws_markPart.f
    exact Ev.bind (markOpS_ev p 1 (by omega) (by omega) hp) (Ev.bind (markIntS_ev c _ (by omega) (by omega) hc) (Ev.bind (markIntS_ev b _ (by omega) (by omega) hb) (Ev.now _)))
  · unfold laws_heldPart.f
    refine Ev.bind (heldOpS_ev p.length 1 (by omega) (by omega) hp) (Ev.iteF (by omega) ?_)
    refine Ev.bind (heldIntS_ev c.length _ (by omega) (by omega) hc) (Ev.iteF (by omega) ?_)
    exact Ev.bind (heldIntS_ev b.length _ (by omega) (by omega) hb) (Ev.iteF (by omega) (Ev.now _))
end Go.Proofs.Ytmhdphohhheoaaa.Lists
