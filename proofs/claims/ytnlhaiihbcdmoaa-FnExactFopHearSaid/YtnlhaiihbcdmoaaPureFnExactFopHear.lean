/- FnExactFopHear, behind the machine: the program's FopHear and the reference's are one. No conditions. -/
import Derived.Test.YtnlhaiihbcdmoaaPx12
import Derived.Test.YtnlhaiihbcdmoaaPx13
import Derived.Test.YtnlhaiihbcdmoaaPx18
import Derived.Test.YtnlhaiihbcdmoaaPx19
import Derived.Test.YtnlhaiihbcdmoaaFopHear
import Derived.Test.YtnlhaiihbcdmoaaMarkStr
import Derived.Test.YtnlhaiihbcdmoaaQFnExactFopHear
namespace Go.Proofs.Ytnlhaiihbcdmoaa.Pure
open Go.RowKit Go.Proofs.Ytnlhaiihbcdmoaa.P Go.Proofs.Ytnlhaiihbcdmoaa.E Go.Proofs.Ytnlhaiihbcdmoaa.Lists Go.Proofs.Ytnlhaiihbcdmoaa.Fop Go.Proofs.YtnlhaiihbcdmoaaW.PrintWords
set_option linter.unusedSimpArgs false
set_option linter.unusedVariables false
theorem markFop_ev (c v n : Int) (l : List ByteArray) (s : Bool) (m : Int) (h0 : 0 ≤ m) (h1 : m ≤ 1000000000000) (hl : l.length ≤ 1048577) : Ev (fun k => laws_markFop.f k c v n l s m) (m + l.length, mkStr m l.length) := by
  unfold laws_markFop.f
  exact Ev.bind (markStringS_ev l m h0 h1 hl) (Ev.now _)
theorem heldFop_ev (c v n : Int) (j : Nat) (s : Bool) (m : Int) (h0 : 0 ≤ m) (h1 : m ≤ 1000000000000) (hl : j ≤ 1048577) : Ev (fun k => laws_heldFop.f k c v n (mkStr m j) s m) (m + j) := by
  unfold laws_heldFop.f
  exact Ev.bind (heldStringS_ev j m h0 h1 hl) (Ev.iteF (by omega) (Ev.now _))
theorem FnExactFopHear : Go.Proofs.Ytnlhaiihbcdmoaa.QFnExactFopHear.Pure := by
  intro c v n l s xs xw xa xc xn _ _ _ hl hs _ _
  refine Ev.rounds ?_
  unfold laws_FnExactFopHear.f
  obtain ⟨r, er, hr⟩ := szFop_ev c v n l s hs hl
  refine Ev.bind er ?_
  by_cases h : r < 0
  · exact Ev.iteT h (Ev.now true)
  · have hS := (hr (by omega)).1
    have hT := hearR_short c v n l s xs xw xa xc xn
    have farm : laws_toFarm.f xs xw xa xc xn = some (xs, xw, xa, xc, xn) := rfl
    refine Ev.iteF h ?_
    refine Ev.bind (toFop_ev c v n l s hS) ?_
    refine Ev.bindc farm ?_
    refine Ev.bind (specHear_ev c v n l s xs xw xa xc xn (by omega)) ?_
    refine Ev.bind (toFop_ev c v n l s hS) ?_
    refine Ev.bindc farm ?_
    have im := implHear_ev c v n l s xs xw xa xc xn (by omega)
    refine Ev.bind im ?_
    generalize hearR c v n l s xs xw xa xc xn = g at hT im ⊢
    obtain ⟨gc, gv, gn, gl, gs, go⟩ := g
    simp only at hT
    refine Ev.bind (eqFop_ev gc gv gn gl gs (by omega)) ?_
    refine Ev.iteT rfl ?_
    have e0 : (go != go) = false := by simp
    show Ev (fun k => laws_FnExactFopHear.j0 k go go (go != go) c v n l s xs xw xa xc xn gc gv gn gl gs c v n l s gc gv gn gl gs) true
    rw [e0]
    refine Ev.step (fun k => by rw [laws_FnExactFopHear.j0]) (Ev.iteF (by simp) ?_)
    refine Ev.bind (toFop_ev c v n l s hS) ?_
    refine Ev.bind (eqFop_ev c v n l s (by omega)) ?_
    refine Ev.iteT rfl ?_
    refine Ev.bind (markFop_ev c v n l s 1 (by omega) (by omega) (by omega)) ?_
    refine Ev.iteF (show ¬ ((1 : Int) + (l.length : Int) < 0) by omega) ?_
    refine Ev.bind (eqFop_ev gc gv gn gl gs (by omega)) ?_
    refine Ev.iteT rfl ?_
    rw [e0]
    refine Ev.step (fun k => by rw [laws_FnExactFopHear.j1]) (Ev.iteF (by simp) ?_)
    refine Ev.bind (markFop_ev gc gv gn gl gs 1 (by omega) (by omega) (by omega)) ?_
    refine Ev.bind (heldFop_ev gc gv gn gl.length gs 1 (by omega) (by omega) (by omega)) ?_
    refine Ev.iteF (by omega) (Ev.iteT rfl ?_)
    refine Ev.bind (toFop_ev c v n l s hS) ?_
    refine Ev.bindc farm ?_
    refine Ev.bind im ?_
    refine Ev.bind (eqFop_ev gc gv gn gl gs (by omega)) ?_
    refine Ev.iteT rfl ?_
    show Ev (fun k => laws_FnExactFopHear.j2 k ((1 : Int) + (gl.length : Int)) (go != go) gc gv gn (mkStr 1 gl.length) gs) true
    rw [e0]
    refine Ev.step (fun k => by rw [laws_FnExactFopHear.j2]) (Ev.iteF (by simp) ?_)
    refine Ev.bind (heldFop_ev gc gv gn gl.length gs 1 (by omega) (by omega) (by omega)) ?_
    exact Ev.iteF (by omega) (Ev.iteT rfl (Ev.now true))
end Go.Proofs.Ytnlhaiihbcdmoaa.Pure
