/- FnExactFopSend, behind the machine: the program's FopSend and the reference's are one. No conditions. -/
import Derived.Test.YtnlhaiihbcdmoaaPx12
import Derived.Test.YtnlhaiihbcdmoaaPx13
import Derived.Test.YtnlhaiihbcdmoaaPx22
import Derived.Test.YtnlhaiihbcdmoaaFopSend
import Derived.Test.YtnlhaiihbcdmoaaMarkFrame
import Derived.Test.YtnlhaiihbcdmoaaQFnExactFopSend
namespace Go.Proofs.Ytnlhaiihbcdmoaa.Pure
open Go.RowKit Go.Proofs.Ytnlhaiihbcdmoaa.P Go.Proofs.Ytnlhaiihbcdmoaa.E Go.Proofs.Ytnlhaiihbcdmoaa.Lists Go.Proofs.Ytnlhaiihbcdmoaa.Fop Go.Proofs.YtnlhaiihbcdmoaaW.PrintWords
set_option linter.unusedSimpArgs false
set_option linter.unusedVariables false
theorem markFop_ev (c v n : Int) (l : List ByteArray) (s : Bool) (m : Int) (h0 : 0 ≤ m) (h1 : m ≤ 1000000000000) (hl : l.length ≤ 1048577) : Ev (fun k => laws_markFop.f k c v n l s m) (m + l.length, mkStr m l.length) := by
  unfold laws_markFop.f
  exact Ev.bind (markStringS_ev l m h0 h1 hl) (Ev.now _)
theorem heldFop_ev (c v n : Int) (j : Nat) (s : Bool) (m : Int) (h0 : 0 ≤ m) (h1 : m ≤ 1000000000000) (hl : j ≤ 1048577) : Ev (fun k => laws_heldFop.f k c v n (mkStr m j) s m) (m + j) := by
  unfold laws_heldFop.f
  exact Ev.bind (heldStringS_ev j m h0 h1 hl) (Ev.iteF (by omega) (Ev.now _))
theorem FnExactFopSend : Go.Proofs.Ytnlhaiihbcdmoaa.QFnExactFopSend.Pure := by
  intro c v n l s x _ _ _ hl hs _
  refine Ev.rounds ?_
  unfold laws_FnExactFopSend.f
  by_cases hx : (x.size : Int) > 1048576
  · exact Ev.iteT hx (Ev.now true)
  refine Ev.iteF hx ?_
  obtain ⟨r, er, hr⟩ := szFop_ev c v n l s hs hl
  refine Ev.bind er ?_
  by_cases h : r < 0
  · exact Ev.iteT h (Ev.now true)
  · have hS := (hr (by omega)).1
    obtain ⟨hT, hF⟩ := sendR_short c v n l s x
    have hF2 : (sendR c v n l s x).2.2.2.2.2 = [] ∨ ∃ y, (sendR c v n l s x).2.2.2.2.2 = [y] := by
      rcases hF with h | h
      · exact Or.inl h
      · exact Or.inr ⟨_, h⟩
    clear hF
    refine Ev.iteF h ?_
    refine Ev.bind (toFop_ev c v n l s hS) ?_
    refine Ev.bind (specSend_ev c v n l s x (by omega)) ?_
    refine Ev.bind (toFop_ev c v n l s hS) ?_
    have im := implSend_ev c v n l s x (by omega)
    refine Ev.bind im ?_
    generalize sendR c v n l s x = g at hT hF2 im ⊢
    obtain ⟨gc, gv, gn, gl, gs, gf⟩ := g
    simp only at hT hF2
    refine Ev.bind (eqFop_ev gc gv gn gl gs (by omega)) ?_
    refine Ev.iteT rfl (Ev.bind (eqFrameS_ev gf hF2) ?_)
    show Ev (fun k => laws_FnExactFopSend.j0 k x gf gf false c v n l s gc gv gn gl gs c v n l s gc gv gn gl gs) true
    refine Ev.step (fun k => by rw [laws_FnExactFopSend.j0]) ?_
    refine Ev.iteF (by simp) ?_
    refine Ev.bind (toFop_ev c v n l s hS) ?_
    refine Ev.bind (eqFop_ev c v n l s (by omega)) ?_
    refine Ev.iteT rfl ?_
    refine Ev.bind (markFop_ev c v n l s 1 (by omega) (by omega) (by omega)) ?_
    refine Ev.iteF (show ¬ ((1 : Int) + (l.length : Int) < 0) by omega) ?_
    refine Ev.bind (eqFop_ev gc gv gn gl gs (by omega)) ?_
    refine Ev.iteT rfl (Ev.bind (eqFrameS_ev gf hF2) ?_)
    show Ev (fun k => laws_FnExactFopSend.j1 k x gf gf false c v n l s gc gv gn gl gs gc gv gn gl gs) true
    obtain ⟨gf', m', em, hm, eh⟩ := markFrame_ev gf (1 + (gl.length : Int)) (by omega) (by omega) hF2
    refine Ev.step (fun k => by rw [laws_FnExactFopSend.j1]) ?_
    refine Ev.iteF (by simp) ?_
    refine Ev.bind (markFop_ev gc gv gn gl gs 1 (by omega) (by omega) (by omega)) ?_
    refine Ev.bind em ?_
    refine Ev.bind (heldFop_ev gc gv gn gl.length gs 1 (by omega) (by omega) (by omega)) ?_
    refine Ev.iteF (by omega) (Ev.bind eh (Ev.iteF (by omega) (Ev.iteT rfl ?_)))
    refine Ev.bind (toFop_ev c v n l s hS) ?_
    refine Ev.bind im ?_
    refine Ev.bind (eqFop_ev gc gv gn gl gs (by omega)) ?_
    refine Ev.iteT rfl (Ev.bind (eqFrameS_ev gf hF2) ?_)
    show Ev (fun k => laws_FnExactFopSend.j2 k gf' m' false gc gv gn (mkStr 1 gl.length) gs) true
    refine Ev.step (fun k => by rw [laws_FnExactFopSend.j2]) ?_
    refine Ev.iteF (by simp) ?_
    refine Ev.bind (heldFop_ev gc gv gn gl.length gs 1 (by omega) (by omega) (by omega)) ?_
    exact Ev.iteF (by omega) (Ev.bind eh (Ev.iteF (by omega) (Ev.iteT rfl (Ev.now true))))
end Go.Proofs.Ytnlhaiihbcdmoaa.Pure
