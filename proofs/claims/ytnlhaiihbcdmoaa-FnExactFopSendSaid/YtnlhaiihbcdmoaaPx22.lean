/- The machine side of these statements, function by function: what each Go function answers (as a Lean function), and that it does. Written by a program (mp.py) for this claim. -/
import Derived.Test.YtnlhaiihbcdmoaaPx0
import Derived.Test.YtnlhaiihbcdmoaaPx10
import Derived.Test.YtnlhaiihbcdmoaaPx12
import Derived.Test.YtnlhaiihbcdmoaaPx13
import Derived.Test.YtnlhaiihbcdmoaaPx20
import Derived.Test.YtnlhaiihbcdmoaaPx21
namespace Go.Proofs.Ytnlhaiihbcdmoaa.P
open Go.RowKit Go.Proofs.YtnlhaiihbcdmoaaW.PrintWords Go.Proofs.YtnlhaiihbcdmoaaW.PrintLast Go.Proofs.YtnlhaiihbcdmoaaW.PrintMore
attribute [local go_sem] max2_int min2_int max_two min_two max_three min_three max_four min_four   -- for this text's walks alone
set_option linter.unusedVariables false
set_option linter.unusedSimpArgs false

/-! ### laws_FnExactFopSend: function 6 -/
mutual
def laws_FnExactFopSend.j0 : Nat → ByteArray → List (S35) → List (S35) → Bool → Int → Int → Int → List ByteArray → Bool → Int → Int → Int → List ByteArray → Bool → Int → Int → Int → List ByteArray → Bool → Int → Int → Int → List ByteArray → Bool → Option (Bool)
 | 0, _, _, _, _, _, _, _, _, _, _, _, _, _, _, _, _, _, _, _, _, _, _, _, _ => none
 | k + 1, x1, x7, x10, x48, x592000, x592001, x592002, x592003, x592004, x611000, x611001, x611002, x611003, x611004, x619000, x619001, x619002, x619003, x619004, x630000, x630001, x630002, x630003, x630004 => if x48 = true then (some false) else ((laws_toFop.f k x592000 x592001 x592002 x592003 x592004).bind fun bt632 => ((laws_eqFop.f k x619000 x619001 x619002 x619003 x619004 bt632.1 bt632.2.1 bt632.2.2.1 bt632.2.2.2.1 bt632.2.2.2.2).bind fun t639 => (if t639 = true then ((laws_markFop.f k x619000 x619001 x619002 x619003 x619004 1).bind fun bt640 => (if bt640.1 < 0 then (laws_FnExactFopSend.j1 k x1 x7 x10 true x592000 x592001 x592002 x592003 x592004 x611000 x611001 x611002 x611003 x611004 x630000 x630001 x630002 x630003 x630004) else ((laws_eqFop.f k x630000 x630001 x630002 x630003 x630004 x611000 x611001 x611002 x611003 x611004).bind fun t642 => (if t642 = true then ((laws_eqFrameS.f k x10 x7).bind fun t643 => (laws_FnExactFopSend.j1 k x1 x7 x10 (!t643) x592000 x592001 x592002 x592003 x592004 x611000 x611001 x611002 x611003 x611004 x630000 x630001 x630002 x630003 x630004)) else (laws_FnExactFopSend.j1 k x1 x7 x10 true x592000 x592001 x592002 x592003 x592004 x611000 x611001 x611002 x611003 x611004 x630000 x630001 x630002 x630003 x630004))))) else (some false))))
def laws_FnExactFopSend.j1 : Nat → ByteArray → List (S35) → List (S35) → Bool → Int → Int → Int → List ByteArray → Bool → Int → Int → Int → List ByteArray → Bool → Int → Int → Int → List ByteArray → Bool → Option (Bool)
 | 0, _, _, _, _, _, _, _, _, _, _, _, _, _, _, _, _, _, _, _ => none
 | k + 1, x1, x7, x10, x70, x592000, x592001, x592002, x592003, x592004, x611000, x611001, x611002, x611003, x611004, x630000, x630001, x630002, x630003, x630004 => if x70 = true then (some false) else ((laws_markFop.f k x630000 x630001 x630002 x630003 x630004 1).bind fun bt644 => ((laws_markFrameS.f k x10 bt644.1).bind fun bt646 => ((laws_heldFop.f k x630000 x630001 x630002 bt644.2 x630004 1).bind fun t648 => (if t648 < 0 then (some false) else ((laws_heldFrameS.f k bt646.2 t648).bind fun t649 => (if t649 < 0 then (some false) else (if t649 = bt646.1 then ((laws_toFop.f k x592000 x592001 x592002 x592003 x592004).bind fun bt650 => ((impl_FopSend.f k bt650.1 bt650.2.1 bt650.2.2.1 bt650.2.2.2.1 bt650.2.2.2.2 x1).bind fun bt657 => ((laws_eqFop.f k bt657.1 bt657.2.1 bt657.2.2.1 bt657.2.2.2.1 bt657.2.2.2.2.1 x611000 x611001 x611002 x611003 x611004).bind fun t668 => (if t668 = true then ((laws_eqFrameS.f k bt657.2.2.2.2.2 x7).bind fun t669 => (laws_FnExactFopSend.j2 k bt646.2 bt646.1 (!t669) x630000 x630001 x630002 bt644.2 x630004)) else (laws_FnExactFopSend.j2 k bt646.2 bt646.1 true x630000 x630001 x630002 bt644.2 x630004))))) else (some false))))))))
def laws_FnExactFopSend.j2 : Nat → List (S35) → Int → Bool → Int → Int → Int → List ByteArray → Bool → Option (Bool)
 | 0, _, _, _, _, _, _, _, _ => none
 | k + 1, x10, x12, x106, x630000, x630001, x630002, x630003, x630004 => if x106 = true then (some false) else ((laws_heldFop.f k x630000 x630001 x630002 x630003 x630004 1).bind fun t670 => (if t670 < 0 then (some false) else ((laws_heldFrameS.f k x10 t670).bind fun t671 => (if t671 < 0 then (some false) else (if t671 = x12 then (some true) else (some false))))))
end
def laws_FnExactFopSend.f (k : Nat) (a0_0 : Int) (a0_1 : Int) (a0_2 : Int) (l0_3 : List ByteArray) (a0_4 : Bool) (a1 : ByteArray) : Option (Bool) := if (a1.size : Int) > 1048576 then (some true) else ((laws_szFop.f k a0_0 a0_1 a0_2 l0_3 a0_4 1048576).bind fun t592 => (if t592 < 0 then (some true) else ((laws_toFop.f k a0_0 a0_1 a0_2 l0_3 a0_4).bind fun bt593 => ((spec_FopSend.f k bt593.1 bt593.2.1 bt593.2.2.1 bt593.2.2.2.1 bt593.2.2.2.2 a1).bind fun bt600 => ((laws_toFop.f k a0_0 a0_1 a0_2 l0_3 a0_4).bind fun bt611 => ((impl_FopSend.f k bt611.1 bt611.2.1 bt611.2.2.1 bt611.2.2.2.1 bt611.2.2.2.2 a1).bind fun bt619 => ((laws_eqFop.f k bt619.1 bt619.2.1 bt619.2.2.1 bt619.2.2.2.1 bt619.2.2.2.2.1 bt600.1 bt600.2.1 bt600.2.2.1 bt600.2.2.2.1 bt600.2.2.2.2.1).bind fun t630 => (if t630 = true then ((laws_eqFrameS.f k bt619.2.2.2.2.2 bt600.2.2.2.2.2).bind fun t631 => (laws_FnExactFopSend.j0 k a1 bt600.2.2.2.2.2 bt619.2.2.2.2.2 (!t631) a0_0 a0_1 a0_2 l0_3 a0_4 bt600.1 bt600.2.1 bt600.2.2.1 bt600.2.2.2.1 bt600.2.2.2.2.1 bt611.1 bt611.2.1 bt611.2.2.1 bt611.2.2.2.1 bt611.2.2.2.2 bt619.1 bt619.2.1 bt619.2.2.1 bt619.2.2.2.1 bt619.2.2.2.2.1)) else (laws_FnExactFopSend.j0 k a1 bt600.2.2.2.2.2 bt619.2.2.2.2.2 true a0_0 a0_1 a0_2 l0_3 a0_4 bt600.1 bt600.2.1 bt600.2.2.1 bt600.2.2.2.1 bt600.2.2.2.2.1 bt611.1 bt611.2.1 bt611.2.2.1 bt611.2.2.2.1 bt611.2.2.2.2 bt619.1 bt619.2.1 bt619.2.2.1 bt619.2.2.2.1 bt619.2.2.2.2.1)))))))))
theorem laws_FnExactFopSend.mono_l : ∀ k, (∀ y0 y1 y2 y3 y4 y5 y6 y7 y8 y9 y10 y11 y12 y13 y14 y15 y16 y17 y18 y19 y20 y21 y22 y23, LeO (laws_FnExactFopSend.j0 k y0 y1 y2 y3 y4 y5 y6 y7 y8 y9 y10 y11 y12 y13 y14 y15 y16 y17 y18 y19 y20 y21 y22 y23) (laws_FnExactFopSend.j0 (k + 1) y0 y1 y2 y3 y4 y5 y6 y7 y8 y9 y10 y11 y12 y13 y14 y15 y16 y17 y18 y19 y20 y21 y22 y23)) ∧ (∀ y0 y1 y2 y3 y4 y5 y6 y7 y8 y9 y10 y11 y12 y13 y14 y15 y16 y17 y18, LeO (laws_FnExactFopSend.j1 k y0 y1 y2 y3 y4 y5 y6 y7 y8 y9 y10 y11 y12 y13 y14 y15 y16 y17 y18) (laws_FnExactFopSend.j1 (k + 1) y0 y1 y2 y3 y4 y5 y6 y7 y8 y9 y10 y11 y12 y13 y14 y15 y16 y17 y18)) ∧ (∀ y0 y1 y2 y3 y4 y5 y6 y7, LeO (laws_FnExactFopSend.j2 k y0 y1 y2 y3 y4 y5 y6 y7) (laws_FnExactFopSend.j2 (k + 1) y0 y1 y2 y3 y4 y5 y6 y7))
 | 0 => ⟨fun _ _ _ _ _ _ _ _ _ _ _ _ _ _ _ _ _ _ _ _ _ _ _ _ r h => by simp [laws_FnExactFopSend.j0] at h, fun _ _ _ _ _ _ _ _ _ _ _ _ _ _ _ _ _ _ _ r h => by simp [laws_FnExactFopSend.j1] at h, fun _ _ _ _ _ _ _ _ r h => by simp [laws_FnExactFopSend.j2] at h⟩
 | k + 1 => by
  obtain ⟨ih0, ih1, ih2⟩ := laws_FnExactFopSend.mono_l k
  refine ⟨?_, ?_, ?_⟩
  ·intro y0 y1 y2 y3 y4 y5 y6 y7 y8 y9 y10 y11 y12 y13 y14 y15 y16 y17 y18 y19 y20 y21 y22 y23
   unfold laws_FnExactFopSend.j0
   repeat' first
   | (with_reducible exact ih0 _ _ _ _ _ _ _ _ _ _ _ _ _ _ _ _ _ _ _ _ _ _ _ _)
   | (with_reducible exact ih1 _ _ _ _ _ _ _ _ _ _ _ _ _ _ _ _ _ _ _)
   | (with_reducible exact ih2 _ _ _ _ _ _ _ _)
   | (with_reducible exact impl_FopSend.mono _ _ _ _ _ _ _)
   | (with_reducible exact laws_eqFop.mono _ _ _ _ _ _ _ _ _ _ _)
   | (with_reducible exact laws_eqFrameS.mono _ _ _)
   | (with_reducible exact laws_heldFop.mono _ _ _ _ _ _ _)
   | (with_reducible exact laws_heldFrameS.mono _ _ _)
   | (with_reducible exact laws_markFop.mono _ _ _ _ _ _ _)
   | (with_reducible exact laws_markFrameS.mono _ _ _)
   | (with_reducible exact laws_szFop.mono _ _ _ _ _ _ _)
   | (with_reducible exact laws_toFop.mono _ _ _ _ _ _)
   | (with_reducible exact spec_FopSend.mono _ _ _ _ _ _ _)
   | (with_reducible exact LeO.refl _)
   | (with_reducible exact LeO.none _)
   | (with_reducible refine LeO.ite ?_ ?_)
   | (with_reducible refine LeO.bind ?_ (fun _ => ?_))
   | exact ih0 _ _ _ _ _ _ _ _ _ _ _ _ _ _ _ _ _ _ _ _ _ _ _ _
   | exact ih1 _ _ _ _ _ _ _ _ _ _ _ _ _ _ _ _ _ _ _
   | exact ih2 _ _ _ _ _ _ _ _
   | exact impl_FopSend.mono _ _ _ _ _ _ _
   | exact laws_eqFop.mono _ _ _ _ _ _ _ _ _ _ _
   | exact laws_eqFrameS.mono _ _ _
   | exact laws_heldFop.mono _ _ _ _ _ _ _
   | exact laws_heldFrameS.mono _ _ _
   | exact laws_markFop.mono _ _ _ _ _ _ _
   | exact laws_markFrameS.mono _ _ _
   | exact laws_szFop.mono _ _ _ _ _ _ _
   | exact laws_toFop.mono _ _ _ _ _ _
   | exact spec_FopSend.mono _ _ _ _ _ _ _
   | exact LeO.none _
   | refine LeO.ite ?_ ?_
   | refine LeO.bind ?_ (fun _ => ?_)
  ·intro y0 y1 y2 y3 y4 y5 y6 y7 y8 y9 y10 y11 y12 y13 y14 y15 y16 y17 y18
   unfold laws_FnExactFopSend.j1
   repeat' first
   | (with_reducible exact ih0 _ _ _ _ _ _ _ _ _ _ _ _ _ _ _ _ _ _ _ _ _ _ _ _)
   | (with_reducible exact ih1 _ _ _ _ _ _ _ _ _ _ _ _ _ _ _ _ _ _ _)
   | (with_reducible exact ih2 _ _ _ _ _ _ _ _)
   | (with_reducible exact impl_FopSend.mono _ _ _ _ _ _ _)
   | (with_reducible exact laws_eqFop.mono _ _ _ _ _ _ _ _ _ _ _)
   | (with_reducible exact laws_eqFrameS.mono _ _ _)
   | (with_reducible exact laws_heldFop.mono _ _ _ _ _ _ _)
   | (with_reducible exact laws_heldFrameS.mono _ _ _)
   | (with_reducible exact laws_markFop.mono _ _ _ _ _ _ _)
   | (with_reducible exact laws_markFrameS.mono _ _ _)
   | (with_reducible exact laws_szFop.mono _ _ _ _ _ _ _)
   | (with_reducible exact laws_toFop.mono _ _ _ _ _ _)
   | (with_reducible exact spec_FopSend.mono _ _ _ _ _ _ _)
   | (with_reducible exact LeO.refl _)
   | (with_reducible exact LeO.none _)
   | (with_reducible refine LeO.ite ?_ ?_)
   | (with_reducible refine LeO.bind ?_ (fun _ => ?_))
   | exact ih0 _ _ _ _ _ _ _ _ _ _ _ _ _ _ _ _ _ _ _ _ _ _ _ _
   | exact ih1 _ _ _ _ _ _ _ _ _ _ _ _ _ _ _ _ _ _ _
   | exact ih2 _ _ _ _ _ _ _ _
   | exact impl_FopSend.mono _ _ _ _ _ _ _
   | exact laws_eqFop.mono _ _ _ _ _ _ _ _ _ _ _
   | exact laws_eqFrameS.mono _ _ _
   | exact laws_heldFop.mono _ _ _ _ _ _ _
   | exact laws_heldFrameS.mono _ _ _
   | exact laws_markFop.mono _ _ _ _ _ _ _
   | exact laws_markFrameS.mono _ _ _
   | exact laws_szFop.mono _ _ _ _ _ _ _
   | exact laws_toFop.mono _ _ _ _ _ _
   | exact spec_FopSend.mono _ _ _ _ _ _ _
   | exact LeO.none _
   | refine LeO.ite ?_ ?_
   | refine LeO.bind ?_ (fun _ => ?_)
  ·intro y0 y1 y2 y3 y4 y5 y6 y7
   unfold laws_FnExactFopSend.j2
   repeat' first
   | (with_reducible exact ih0 _ _ _ _ _ _ _ _ _ _ _ _ _ _ _ _ _ _ _ _ _ _ _ _)
   | (with_reducible exact ih1 _ _ _ _ _ _ _ _ _ _ _ _ _ _ _ _ _ _ _)
   | (with_reducible exact ih2 _ _ _ _ _ _ _ _)
   | (with_reducible exact impl_FopSend.mono _ _ _ _ _ _ _)
   | (with_reducible exact laws_eqFop.mono _ _ _ _ _ _ _ _ _ _ _)
   | (with_reducible exact laws_eqFrameS.mono _ _ _)
   | (with_reducible exact laws_heldFop.mono _ _ _ _ _ _ _)
   | (with_reducible exact laws_heldFrameS.mono _ _ _)
   | (with_reducible exact laws_markFop.mono _ _ _ _ _ _ _)
   | (with_reducible exact laws_markFrameS.mono _ _ _)
   | (with_reducible exact laws_szFop.mono _ _ _ _ _ _ _)
   | (with_reducible exact laws_toFop.mono _ _ _ _ _ _)
   | (with_reducible exact spec_FopSend.mono _ _ _ _ _ _ _)
   | (with_reducible exact LeO.refl _)
   | (with_reducible exact LeO.none _)
   | (with_reducible refine LeO.ite ?_ ?_)
   | (with_reducible refine LeO.bind ?_ (fun _ => ?_))
   | exact ih0 _ _ _ _ _ _ _ _ _ _ _ _ _ _ _ _ _ _ _ _ _ _ _ _
   | exact ih1 _ _ _ _ _ _ _ _ _ _ _ _ _ _ _ _ _ _ _
   | exact ih2 _ _ _ _ _ _ _ _
   | exact impl_FopSend.mono _ _ _ _ _ _ _
   | exact laws_eqFop.mono _ _ _ _ _ _ _ _ _ _ _
   | exact laws_eqFrameS.mono _ _ _
   | exact laws_heldFop.mono _ _ _ _ _ _ _
   | exact laws_heldFrameS.mono _ _ _
   | exact laws_markFop.mono _ _ _ _ _ _ _
   | exact laws_markFrameS.mono _ _ _
   | exact laws_szFop.mono _ _ _ _ _ _ _
   | exact laws_toFop.mono _ _ _ _ _ _
   | exact spec_FopSend.mono _ _ _ _ _ _ _
   | exact LeO.none _
   | refine LeO.ite ?_ ?_
   | refine LeO.bind ?_ (fun _ => ?_)
theorem laws_FnExactFopSend.mono : ∀ a0 a1 a2 a3 a4 a5 k, LeO (laws_FnExactFopSend.f k a0 a1 a2 a3 a4 a5) (laws_FnExactFopSend.f (k + 1) a0 a1 a2 a3 a4 a5) := by
 intro a0 a1 a2 a3 a4 a5 k
 obtain ⟨ih0, ih1, ih2⟩ := laws_FnExactFopSend.mono_l k
 unfold laws_FnExactFopSend.f
 repeat' first
   | (with_reducible exact ih0 _ _ _ _ _ _ _ _ _ _ _ _ _ _ _ _ _ _ _ _ _ _ _ _)
   | (with_reducible exact ih1 _ _ _ _ _ _ _ _ _ _ _ _ _ _ _ _ _ _ _)
   | (with_reducible exact ih2 _ _ _ _ _ _ _ _)
   | (with_reducible exact impl_FopSend.mono _ _ _ _ _ _ _)
   | (with_reducible exact laws_eqFop.mono _ _ _ _ _ _ _ _ _ _ _)
   | (with_reducible exact laws_eqFrameS.mono _ _ _)
   | (with_reducible exact laws_heldFop.mono _ _ _ _ _ _ _)
   | (with_reducible exact laws_heldFrameS.mono _ _ _)
   | (with_reducible exact laws_markFop.mono _ _ _ _ _ _ _)
   | (with_reducible exact laws_markFrameS.mono _ _ _)
   | (with_reducible exact laws_szFop.mono _ _ _ _ _ _ _)
   | (with_reducible exact laws_toFop.mono _ _ _ _ _ _)
   | (with_reducible exact spec_FopSend.mono _ _ _ _ _ _ _)
   | (with_reducible exact LeO.refl _)
   | (with_reducible exact LeO.none _)
   | (with_reducible refine LeO.ite ?_ ?_)
   | (with_reducible refine LeO.bind ?_ (fun _ => ?_))
   | exact ih0 _ _ _ _ _ _ _ _ _ _ _ _ _ _ _ _ _ _ _ _ _ _ _ _
   | exact ih1 _ _ _ _ _ _ _ _ _ _ _ _ _ _ _ _ _ _ _
   | exact ih2 _ _ _ _ _ _ _ _
   | exact impl_FopSend.mono _ _ _ _ _ _ _
   | exact laws_eqFop.mono _ _ _ _ _ _ _ _ _ _ _
   | exact laws_eqFrameS.mono _ _ _
   | exact laws_heldFop.mono _ _ _ _ _ _ _
   | exact laws_heldFrameS.mono _ _ _
   | exact laws_markFop.mono _ _ _ _ _ _ _
   | exact laws_markFrameS.mono _ _ _
   | exact laws_szFop.mono _ _ _ _ _ _ _
   | exact laws_toFop.mono _ _ _ _ _ _
   | exact spec_FopSend.mono _ _ _ _ _ _ _
   | exact LeO.none _
   | refine LeO.ite ?_ ?_
   | refine LeO.bind ?_ (fun _ => ?_)
set_option maxHeartbeats 8000000 in
set_option maxRecDepth 100000 in
theorem laws_FnExactFopSend.calls (k : Nat) (a0_0 : Int) (a0_1 : Int) (a0_2 : Int) (A0_3 : Option Addr) (c0_3 : Nat) (l0_3 : List ByteArray) (a0_4 : Bool) (a1 : ByteArray) (r : Bool) (w : World) (hr0_3 : Kd.C Kd.string w A0_3 l0_3.length l0_3) (hc0_3 : l0_3.length ≤ c0_3) (h : laws_FnExactFopSend.f k a0_0 a0_1 a0_2 l0_3 a0_4 a1 = some r) :
  Calls Try.prog 6 #[.agg #[.int .i64 a0_0, .int .i64 a0_1, .int .i64 a0_2, .slice A0_3 l0_3.length c0_3, .bool a0_4], .string a1] w fun e w' => e = .returned (.bool r) ∧ Below w.heap.size w w' := by
 have hu45 := Try.underlying45
 have hu25 := Try.underlying25
 have HR0_3 := Aside0.mk hr0_3
 have HC0_3 := Aside0.mk hc0_3
 clear hr0_3 hc0_3
 have HB := m_ (Below.refl w.heap.size w)
 have H : (if (a1.size : Int) > 1048576 then (some true) else ((laws_szFop.f k a0_0 a0_1 a0_2 l0_3 a0_4 1048576).bind fun t592 => (if t592 < 0 then (some true) else ((laws_toFop.f k a0_0 a0_1 a0_2 l0_3 a0_4).bind fun bt593 => ((spec_FopSend.f k bt593.1 bt593.2.1 bt593.2.2.1 bt593.2.2.2.1 bt593.2.2.2.2 a1).bind fun bt600 => ((laws_toFop.f k a0_0 a0_1 a0_2 l0_3 a0_4).bind fun bt611 => ((impl_FopSend.f k bt611.1 bt611.2.1 bt611.2.2.1 bt611.2.2.2.1 bt611.2.2.2.2 a1).bind fun bt619 => ((laws_eqFop.f k bt619.1 bt619.2.1 bt619.2.2.1 bt619.2.2.2.1 bt619.2.2.2.2.1 bt600.1 bt600.2.1 bt600.2.2.1 bt600.2.2.2.1 bt600.2.2.2.2.1).bind fun t630 => (if t630 = true then ((laws_eqFrameS.f k bt619.2.2.2.2.2 bt600.2.2.2.2.2).bind fun t631 => (laws_FnExactFopSend.j0 k a1 bt600.2.2.2.2.2 bt619.2.2.2.2.2 (!t631) a0_0 a0_1 a0_2 l0_3 a0_4 bt600.1 bt600.2.1 bt600.2.2.1 bt600.2.2.2.1 bt600.2.2.2.2.1 bt611.1 bt611.2.1 bt611.2.2.1 bt611.2.2.2.1 bt611.2.2.2.2 bt619.1 bt619.2.1 bt619.2.2.1 bt619.2.2.2.1 bt619.2.2.2.2.1)) else (laws_FnExactFopSend.j0 k a1 bt600.2.2.2.2.2 bt619.2.2.2.2.2 true a0_0 a0_1 a0_2 l0_3 a0_4 bt600.1 bt600.2.1 bt600.2.2.1 bt600.2.2.2.1 bt600.2.2.2.2.1 bt611.1 bt611.2.1 bt611.2.2.1 bt611.2.2.2.1 bt611.2.2.2.2 bt619.1 bt619.2.1 bt619.2.2.1 bt619.2.2.2.1 bt619.2.2.2.2.1)))))))))) = some r := h
 clear h
 by_cases c3 : (a1.size : Int) > 1048576
 ·rw [if_pos c3] at H
  have c3b0 : decide (1048576 < (a1.size : Int)) = true := decide_eq_true c3
  have c3b1 : decide (1048576 < a1.size) = true := decide_eq_true (by omega)
  clear c3
  obtain rfl := Option.some.inj H
  go_enter Try.func6, Try.ntmps6
  go_wp2_with (first | ((with_reducible refine gate_dst (N := 2) rfl ?_); refine box_event ?hg (N := 2) ?hd (cs := #[.int .i64 a0_0, .int .i64 a0_1, .int .i64 a0_2, .slice A0_3 l0_3.length c0_3, .bool a0_4]) (t := 45) ?hr ?_; (case hd => rfl); (case hg => rfl); (case hr => first | (go_simp; done) | (go_simp; rfl)); intro gb591 hg w4 hbox hb; have n0_ := m_ (below_step (bN HB.out) hb); have n1_ := m_ (hbox); have n2_ := m_ ((by rw [hg]; exact (below_size (bN HB.out)) : w.heap.size ≤ gb591)); have n3_ := m_ ((by rw [hg]; exact (below_size (bN HB.out)) : w.heap.size ≤ gb591)); clear HB; have HB := n0_; have BK591 := n1_; have GW591 := n2_; have GE591 := n3_; clear n0_ n1_ n2_ n3_; clear hb hbox hg))
  go_ret
  exact ⟨by first | rfl | (simp [errW_none, errW_some] <;> rfl) | (simp [*, errW_none, errW_some] <;> rfl), by repeat (first | (with_reducible first | exact HB.out | apply below_alloc | apply pw_below_drewN | apply below_drew1 | refine below_set ?_ GE591.out) | exact HB.out)⟩
 ·rw [if_neg c3] at H
  have c3b0 : decide (1048576 < (a1.size : Int)) = false := decide_eq_false c3
  have c3b1 : decide (1048576 < a1.size) = false := decide_eq_false (by omega)
  clear c3
  replace H := Option.bind_eq_some_iff.mp H
  obtain ⟨t592, A50, H⟩ := H
  replace H : (if t592 < 0 then (some true) else ((laws_toFop.f k a0_0 a0_1 a0_2 l0_3 a0_4).bind fun bt593 => ((spec_FopSend.f k bt593.1 bt593.2.1 bt593.2.2.1 bt593.2.2.2.1 bt593.2.2.2.2 a1).bind fun bt600 => ((laws_toFop.f k a0_0 a0_1 a0_2 l0_3 a0_4).bind fun bt611 => ((impl_FopSend.f k bt611.1 bt611.2.1 bt611.2.2.1 bt611.2.2.2.1 bt611.2.2.2.2 a1).bind fun bt619 => ((laws_eqFop.f k bt619.1 bt619.2.1 bt619.2.2.1 bt619.2.2.2.1 bt619.2.2.2.2.1 bt600.1 bt600.2.1 bt600.2.2.1 bt600.2.2.2.1 bt600.2.2.2.2.1).bind fun t630 => (if t630 = true then ((laws_eqFrameS.f k bt619.2.2.2.2.2 bt600.2.2.2.2.2).bind fun t631 => (laws_FnExactFopSend.j0 k a1 bt600.2.2.2.2.2 bt619.2.2.2.2.2 (!t631) a0_0 a0_1 a0_2 l0_3 a0_4 bt600.1 bt600.2.1 bt600.2.2.1 bt600.2.2.2.1 bt600.2.2.2.2.1 bt611.1 bt611.2.1 bt611.2.2.1 bt611.2.2.2.1 bt611.2.2.2.2 bt619.1 bt619.2.1 bt619.2.2.1 bt619.2.2.2.1 bt619.2.2.2.2.1)) else (laws_FnExactFopSend.j0 k a1 bt600.2.2.2.2.2 bt619.2.2.2.2.2 true a0_0 a0_1 a0_2 l0_3 a0_4 bt600.1 bt600.2.1 bt600.2.2.1 bt600.2.2.2.1 bt600.2.2.2.2.1 bt611.1 bt611.2.1 bt611.2.2.1 bt611.2.2.2.1 bt611.2.2.2.2 bt619.1 bt619.2.1 bt619.2.2.1 bt619.2.2.2.1 bt619.2.2.2.2.1)))))))) = some r := H
  have A5 := Aside0.mk A50
  clear A50
  by_cases c6 : t592 < 0
  ·rw [if_pos c6] at H
   have c6b0 : decide (t592 < 0) = true := decide_eq_true c6
   clear c6
   obtain rfl := Option.some.inj H
   go_enter Try.func6, Try.ntmps6
   go_wp2_with (first | ((with_reducible refine gate_dst (N := 2) rfl ?_); refine box_event ?hg (N := 2) ?hd (cs := #[.int .i64 a0_0, .int .i64 a0_1, .int .i64 a0_2, .slice A0_3 l0_3.length c0_3, .bool a0_4]) (t := 45) ?hr ?_; (case hd => rfl); (case hg => rfl); (case hr => first | (go_simp; done) | (go_simp; rfl)); intro gb591 hg w7 hbox hb; have n0_ := m_ (below_step (bN HB.out) hb); have n1_ := m_ (hbox); have n2_ := m_ ((by rw [hg]; exact (below_size (bN HB.out)) : w.heap.size ≤ gb591)); have n3_ := m_ ((by rw [hg]; exact (below_size (bN HB.out)) : w.heap.size ≤ gb591)); clear HB; have HB := n0_; have BK591 := n1_; have GW591 := n2_; have GE591 := n3_; clear n0_ n1_ n2_ n3_; clear hb hbox hg; have hcz8_0 : w7.cell? ⟨gb591, 0, none⟩ = some (.int .i64 a0_0) := bc BK591 0; have hcz8_1 : w7.cell? ⟨gb591, 1, none⟩ = some (.int .i64 a0_1) := bc BK591 1; have hcz8_2 : w7.cell? ⟨gb591, 2, none⟩ = some (.int .i64 a0_2) := bc BK591 2; have hcz8_3 : w7.cell? ⟨gb591, 3, none⟩ = some (.slice A0_3 l0_3.length c0_3) := bc BK591 3; have hcz8_4 : w7.cell? ⟨gb591, 4, none⟩ = some (.bool a0_4) := bc BK591 4; have hfz8_0 := blk_frozen BK591.out 0; have hfz8_1 := blk_frozen BK591.out 1; have hfz8_2 := blk_frozen BK591.out 2; have hfz8_3 := blk_frozen BK591.out 3; have hfz8_4 := blk_frozen BK591.out 4) | ((with_reducible refine gate_callee (f := 19) rfl ?_); refine goesL_ (some 21) rfl rfl Try.func19 (by kernel_rfl) rfl #[.agg #[.int .i64 a0_0, .int .i64 a0_1, .int .i64 a0_2, .slice A0_3 l0_3.length c0_3, .bool a0_4], .int .i64 1048576] rfl gl_ ?_; (with_reducible refine (laws_szFop.calls k a0_0 a0_1 a0_2 _ _ l0_3 a0_4 1048576 t592 _ ?side1 ?side2 A5.out).mono ?_); (case side1 => exact cN (Kd.C_below HR0_3.out HB.out)); (case side2 => exact HC0_3.out); rintro e w9 ⟨rfl, hb⟩; refine ⟨_, rfl, ?_⟩; have n0_ := m_ (blk_below (kN BK591.out) hb); have n1_ := m_ (below_step (bN HB.out) hb); clear BK591; clear HB; have BK591 := n0_; have HB := n1_; clear n0_ n1_; (try clear hb); (try clear hb2); (try clear hk); (try clear hi)))
   go_ret
   exact ⟨by first | rfl | (simp [errW_none, errW_some] <;> rfl) | (simp [*, errW_none, errW_some] <;> rfl), by repeat (first | (with_reducible first | exact HB.out | apply below_alloc | apply pw_below_drewN | apply below_drew1 | refine below_set ?_ GE591.out) | exact HB.out)⟩
  ·rw [if_neg c6] at H
   have c6b0 : decide (t592 < 0) = false := decide_eq_false c6
   clear c6
   replace H := Option.bind_eq_some_iff.mp H
   obtain ⟨⟨t593, t594, t595, t596, t599⟩, A100, H⟩ := H
   replace H : ((spec_FopSend.f k t593 t594 t595 t596 t599 a1).bind fun bt600 => ((laws_toFop.f k a0_0 a0_1 a0_2 l0_3 a0_4).bind fun bt611 => ((impl_FopSend.f k bt611.1 bt611.2.1 bt611.2.2.1 bt611.2.2.2.1 bt611.2.2.2.2 a1).bind fun bt619 => ((laws_eqFop.f k bt619.1 bt619.2.1 bt619.2.2.1 bt619.2.2.2.1 bt619.2.2.2.2.1 bt600.1 bt600.2.1 bt600.2.2.1 bt600.2.2.2.1 bt600.2.2.2.2.1).bind fun t630 => (if t630 = true then ((laws_eqFrameS.f k bt619.2.2.2.2.2 bt600.2.2.2.2.2).bind fun t631 => (laws_FnExactFopSend.j0 k a1 bt600.2.2.2.2.2 bt619.2.2.2.2.2 (!t631) a0_0 a0_1 a0_2 l0_3 a0_4 bt600.1 bt600.2.1 bt600.2.2.1 bt600.2.2.2.1 bt600.2.2.2.2.1 bt611.1 bt611.2.1 bt611.2.2.1 bt611.2.2.2.1 bt611.2.2.2.2 bt619.1 bt619.2.1 bt619.2.2.1 bt619.2.2.2.1 bt619.2.2.2.2.1)) else (laws_FnExactFopSend.j0 k a1 bt600.2.2.2.2.2 bt619.2.2.2.2.2 true a0_0 a0_1 a0_2 l0_3 a0_4 bt600.1 bt600.2.1 bt600.2.2.1 bt600.2.2.2.1 bt600.2.2.2.2.1 bt611.1 bt611.2.1 bt611.2.2.1 bt611.2.2.2.1 bt611.2.2.2.2 bt619.1 bt619.2.1 bt619.2.2.1 bt619.2.2.2.1 bt619.2.2.2.2.1)))))) = some r := H
   have A10 := Aside0.mk A100
   clear A100
   replace H := Option.bind_eq_some_iff.mp H
   obtain ⟨⟨t600, t601, t602, t603, t606, t607⟩, A110, H⟩ := H
   replace H : ((laws_toFop.f k a0_0 a0_1 a0_2 l0_3 a0_4).bind fun bt611 => ((impl_FopSend.f k bt611.1 bt611.2.1 bt611.2.2.1 bt611.2.2.2.1 bt611.2.2.2.2 a1).bind fun bt619 => ((laws_eqFop.f k bt619.1 bt619.2.1 bt619.2.2.1 bt619.2.2.2.1 bt619.2.2.2.2.1 t600 t601 t602 t603 t606).bind fun t630 => (if t630 = true then ((laws_eqFrameS.f k bt619.2.2.2.2.2 t607).bind fun t631 => (laws_FnExactFopSend.j0 k a1 t607 bt619.2.2.2.2.2 (!t631) a0_0 a0_1 a0_2 l0_3 a0_4 t600 t601 t602 t603 t606 bt611.1 bt611.2.1 bt611.2.2.1 bt611.2.2.2.1 bt611.2.2.2.2 bt619.1 bt619.2.1 bt619.2.2.1 bt619.2.2.2.1 bt619.2.2.2.2.1)) else (laws_FnExactFopSend.j0 k a1 t607 bt619.2.2.2.2.2 true a0_0 a0_1 a0_2 l0_3 a0_4 t600 t601 t602 t603 t606 bt611.1 bt611.2.1 bt611.2.2.1 bt611.2.2.2.1 bt611.2.2.2.2 bt619.1 bt619.2.1 bt619.2.2.1 bt619.2.2.2.1 bt619.2.2.2.2.1))))) = some r := H
   have A11 := Aside0.mk A110
   clear A110
   replace H := Option.bind_eq_some_iff.mp H
   obtain ⟨⟨t611, t612, t613, t614, t617⟩, A120, H⟩ := H
   replace H : ((impl_FopSend.f k t611 t612 t613 t614 t617 a1).bind fun bt619 => ((laws_eqFop.f k bt619.1 bt619.2.1 bt619.2.2.1 bt619.2.2.2.1 bt619.2.2.2.2.1 t600 t601 t602 t603 t606).bind fun t630 => (if t630 = true then ((laws_eqFrameS.f k bt619.2.2.2.2.2 t607).bind fun t631 => (laws_FnExactFopSend.j0 k a1 t607 bt619.2.2.2.2.2 (!t631) a0_0 a0_1 a0_2 l0_3 a0_4 t600 t601 t602 t603 t606 t611 t612 t613 t614 t617 bt619.1 bt619.2.1 bt619.2.2.1 bt619.2.2.2.1 bt619.2.2.2.2.1)) else (laws_FnExactFopSend.j0 k a1 t607 bt619.2.2.2.2.2 true a0_0 a0_1 a0_2 l0_3 a0_4 t600 t601 t602 t603 t606 t611 t612 t613 t614 t617 bt619.1 bt619.2.1 bt619.2.2.1 bt619.2.2.2.1 bt619.2.2.2.2.1)))) = some r := H
   have A12 := Aside0.mk A120
   clear A120
   replace H := Option.bind_eq_some_iff.mp H
   obtain ⟨⟨t619, t620, t621, t622, t625, t626⟩, A130, H⟩ := H
   replace H : ((laws_eqFop.f k t619 t620 t621 t622 t625 t600 t601 t602 t603 t606).bind fun t630 => (if t630 = true then ((laws_eqFrameS.f k t626 t607).bind fun t631 => (laws_FnExactFopSend.j0 k a1 t607 t626 (!t631) a0_0 a0_1 a0_2 l0_3 a0_4 t600 t601 t602 t603 t606 t611 t612 t613 t614 t617 t619 t620 t621 t622 t625)) else (laws_FnExactFopSend.j0 k a1 t607 t626 true a0_0 a0_1 a0_2 l0_3 a0_4 t600 t601 t602 t603 t606 t611 t612 t613 t614 t617 t619 t620 t621 t622 t625))) = some r := H
   have A13 := Aside0.mk A130
   clear A130
   have HC14 := Aside0.mk H
   clear H
   go_enter Try.func6, Try.ntmps6
   go_upto_region 10 with (first | ((with_reducible refine gate_dst (N := 2) rfl ?_); refine box_event ?hg (N := 2) ?hd (cs := #[.int .i64 a0_0, .int .i64 a0_1, .int .i64 a0_2, .slice A0_3 l0_3.length c0_3, .bool a0_4]) (t := 45) ?hr ?_; (case hd => rfl); (case hg => rfl); (case hr => first | (go_simp; done) | (go_simp; rfl)); intro gb591 hg w15 hbox hb; have n0_ := m_ (below_step (bN HB.out) hb); have n1_ := m_ (hbox); have n2_ := m_ ((by rw [hg]; exact (below_size (bN HB.out)) : w.heap.size ≤ gb591)); have n3_ := m_ ((by rw [hg]; exact (below_size (bN HB.out)) : w.heap.size ≤ gb591)); clear HB; have HB := n0_; have BK591 := n1_; have GW591 := n2_; have GE591 := n3_; clear n0_ n1_ n2_ n3_; clear hb hbox hg; have hcz16_0 : w15.cell? ⟨gb591, 0, none⟩ = some (.int .i64 a0_0) := bc BK591 0; have hcz16_1 : w15.cell? ⟨gb591, 1, none⟩ = some (.int .i64 a0_1) := bc BK591 1; have hcz16_2 : w15.cell? ⟨gb591, 2, none⟩ = some (.int .i64 a0_2) := bc BK591 2; have hcz16_3 : w15.cell? ⟨gb591, 3, none⟩ = some (.slice A0_3 l0_3.length c0_3) := bc BK591 3; have hcz16_4 : w15.cell? ⟨gb591, 4, none⟩ = some (.bool a0_4) := bc BK591 4; have hfz16_0 := blk_frozen BK591.out 0; have hfz16_1 := blk_frozen BK591.out 1; have hfz16_2 := blk_frozen BK591.out 2; have hfz16_3 := blk_frozen BK591.out 3; have hfz16_4 := blk_frozen BK591.out 4) | ((with_reducible refine gate_callee (f := 19) rfl ?_); refine goesL_ (some 21) rfl rfl Try.func19 (by kernel_rfl) rfl #[.agg #[.int .i64 a0_0, .int .i64 a0_1, .int .i64 a0_2, .slice A0_3 l0_3.length c0_3, .bool a0_4], .int .i64 1048576] rfl gl_ ?_; (with_reducible refine (laws_szFop.calls k a0_0 a0_1 a0_2 _ _ l0_3 a0_4 1048576 t592 _ ?side1 ?side2 A5.out).mono ?_); (case side1 => exact cN (Kd.C_below HR0_3.out HB.out)); (case side2 => exact HC0_3.out); rintro e w17 ⟨rfl, hb⟩; refine ⟨_, rfl, ?_⟩; have n0_ := m_ (blk_below (kN BK591.out) hb); have n1_ := m_ (below_step (bN HB.out) hb); clear BK591; clear HB; have BK591 := n0_; have HB := n1_; clear n0_ n1_; (try clear hb); (try clear hb2); (try clear hk); (try clear hi); have hcz18_0 : w17.cell? ⟨gb591, 0, none⟩ = some (.int .i64 a0_0) := bc BK591 0; have hcz18_1 : w17.cell? ⟨gb591, 1, none⟩ = some (.int .i64 a0_1) := bc BK591 1; have hcz18_2 : w17.cell? ⟨gb591, 2, none⟩ = some (.int .i64 a0_2) := bc BK591 2; have hcz18_3 : w17.cell? ⟨gb591, 3, none⟩ = some (.slice A0_3 l0_3.length c0_3) := bc BK591 3; have hcz18_4 : w17.cell? ⟨gb591, 4, none⟩ = some (.bool a0_4) := bc BK591 4; have hfz18_0 := blk_frozen BK591.out 0; have hfz18_1 := blk_frozen BK591.out 1; have hfz18_2 := blk_frozen BK591.out 2; have hfz18_3 := blk_frozen BK591.out 3; have hfz18_4 := blk_frozen BK591.out 4) | ((with_reducible refine gate_callee (f := 20) rfl ?_); refine goesL_ (some 26) rfl rfl Try.func20 (by kernel_rfl) rfl #[.agg #[.int .i64 a0_0, .int .i64 a0_1, .int .i64 a0_2, .slice A0_3 l0_3.length c0_3, .bool a0_4]] rfl gl_ ?_; (with_reducible refine (laws_toFop.calls k a0_0 a0_1 a0_2 _ _ l0_3 a0_4 t593 t594 t595 t596 t599 _ ?side1 ?side2 A10.out).mono ?_); (case side1 => exact cN (Kd.C_below HR0_3.out HB.out)); (case side2 => exact HC0_3.out); rintro e w19 ⟨v597, rfl, ho0, hb⟩; refine ⟨_, rfl, ?_⟩; have n0_ := m_ (Kd.R_lower ho0 (below_size (bN HB.out))); have n1_ := m_ (blk_below (kN BK591.out) hb); have n2_ := m_ (below_step (bN HB.out) hb); clear BK591; clear HB; have HO598 := n0_; have BK591 := n1_; have HB := n2_; clear n0_ n1_ n2_; (try clear hb); (try clear hb2); (try clear hk); (try clear hi); (try clear ho0); obtain ⟨Ao20, co20, eo20⟩ := Kd.R_slice HO598.out; subst eo20) | ((with_reducible refine gate_callee (f := 9) rfl ?_); refine goesL_ (some 28) rfl rfl Try.func9 (by kernel_rfl) rfl #[.agg #[.int .i64 t593, .int .i64 t594, .int .i64 t595, .slice Ao20 t596.length co20, .bool t599], .string a1] rfl gl_ ?_; (with_reducible refine (spec_FopSend.calls k t593 t594 t595 _ _ t596 t599 a1 t600 t601 t602 t603 t606 t607 _ ?side1 ?side2 A11.out).mono ?_); (case side1 => exact cN (Kd.R_reads' HO598.out).2.2); (case side2 => exact (Kd.R_reads' HO598.out).2.1); rintro e w21 ⟨v604, v608, rfl, ho0, ho1, hb⟩; refine ⟨_, rfl, ?_⟩; have n0_ := m_ (Kd.R_elder' (rN HO598.out) (Kd.R_base ho0) hb); have n1_ := m_ (Kd.R_lower (Kd.R_new' ho0 (Kd.R_lt (rN HO598.out))) (below_size (bN HB.out))); have n2_ := m_ (Kd.R_lower ho1 (below_size (bN HB.out))); have n3_ := m_ (blk_below (kN BK591.out) hb); have n4_ := m_ (below_step (bN HB.out) hb); clear HO598; clear BK591; clear HB; have HO598 := n0_; have HO605 := n1_; have HO609 := n2_; have BK591 := n3_; have HB := n4_; clear n0_ n1_ n2_ n3_ n4_; (try clear hb); (try clear hb2); (try clear hk); (try clear hi); (try clear ho0); (try clear ho1)) | ((with_reducible refine gate_dst (N := 6) rfl ?_); refine box_event ?hg (N := 6) ?hd (cs := #[.int .i64 0, .int .i64 0, .int .i64 0, .slice none 0 0, .bool false]) (t := 25) ?hr ?_; (case hd => rfl); (case hg => rfl); (case hr => first | (go_simp; done) | (go_simp; rfl)); intro gb610 hg w22 hbox hb; have n0_ := m_ (Kd.R_below (rN HO598.out) hb); have n1_ := m_ (Kd.R_below (rN HO605.out) hb); have n2_ := m_ (Kd.R_below (rN HO609.out) hb); have n3_ := m_ (blk_below (kN BK591.out) hb); have n4_ := m_ (below_step (bN HB.out) hb); have n5_ := m_ (hbox); have n6_ := m_ ((by rw [hg]; exact (below_size (bN HB.out)) : w.heap.size ≤ gb610)); have n7_ := m_ ((by rw [hg]; exact (below_size (bN HB.out)) : w.heap.size ≤ gb610)); have n8_ := m_ (nL hg BK591.out); have n9_ := m_ (nG hg BK591.out); clear HO598; clear HO605; clear HO609; clear BK591; clear HB; have HO598 := n0_; have HO605 := n1_; have HO609 := n2_; have BK591 := n3_; have HB := n4_; have BK610 := n5_; have GW610 := n6_; have GE610 := n7_; have NB591_610 := n8_; have NB610_591 := n9_; clear n0_ n1_ n2_ n3_ n4_ n5_ n6_ n7_ n8_ n9_; clear hb hbox hg; have hnb23 := NB610_591.out; have hnc23 := NB591_610.out; have hcz24_0 : w22.cell? ⟨gb610, 0, none⟩ = some (.int .i64 0) := bc BK610 0; have hcz24_1 : w22.cell? ⟨gb610, 1, none⟩ = some (.int .i64 0) := bc BK610 1; have hcz24_2 : w22.cell? ⟨gb610, 2, none⟩ = some (.int .i64 0) := bc BK610 2; have hcz24_3 : w22.cell? ⟨gb610, 3, none⟩ = some (.slice none 0 0) := bc BK610 3; have hcz24_4 : w22.cell? ⟨gb610, 4, none⟩ = some (.bool false) := bc BK610 4; have hfz24_0 := blk_frozen BK610.out 0; have hfz24_1 := blk_frozen BK610.out 1; have hfz24_2 := blk_frozen BK610.out 2; have hfz24_3 := blk_frozen BK610.out 3; have hfz24_4 := blk_frozen BK610.out 4; obtain ⟨Ao25, co25, eo25⟩ := Kd.R_slice HO605.out; subst eo25; have hcz26_0 : w22.cell? ⟨gb591, 0, none⟩ = some (.int .i64 a0_0) := bc BK591 0; have hcz26_1 : w22.cell? ⟨gb591, 1, none⟩ = some (.int .i64 a0_1) := bc BK591 1; have hcz26_2 : w22.cell? ⟨gb591, 2, none⟩ = some (.int .i64 a0_2) := bc BK591 2; have hcz26_3 : w22.cell? ⟨gb591, 3, none⟩ = some (.slice A0_3 l0_3.length c0_3) := bc BK591 3; have hcz26_4 : w22.cell? ⟨gb591, 4, none⟩ = some (.bool a0_4) := bc BK591 4; have hfz26_0 := blk_frozen BK591.out 0; have hfz26_1 := blk_frozen BK591.out 1; have hfz26_2 := blk_frozen BK591.out 2; have hfz26_3 := blk_frozen BK591.out 3; have hfz26_4 := blk_frozen BK591.out 4) | ((with_reducible refine gate_callee (f := 20) rfl ?_); refine goesL_ (some 32) rfl rfl Try.func20 (by kernel_rfl) rfl #[.agg #[.int .i64 a0_0, .int .i64 a0_1, .int .i64 a0_2, .slice A0_3 l0_3.length c0_3, .bool a0_4]] rfl gl_ ?_; (with_reducible refine (laws_toFop.calls k a0_0 a0_1 a0_2 _ _ l0_3 a0_4 t611 t612 t613 t614 t617 _ ?side1 ?side2 A12.out).mono ?_); (case side1 => exact Kd.C_below HR0_3.out (bN HB.out)); (case side2 => exact HC0_3.out); rintro e w27 ⟨v615, rfl, ho0, hb⟩; refine ⟨_, rfl, ?_⟩; have n0_ := m_ (Kd.R_elder' (frN (Kd.R_types HO598.out BK610.out (by decide))) (Kd.R_base ho0) hb); have n1_ := m_ (Kd.R_elder' (frN (Kd.R_types HO605.out BK610.out (by decide))) (Kd.R_base ho0) hb); have n2_ := m_ (Kd.R_below (frN (Kd.R_types HO609.out BK610.out (by decide))) hb); have n3_ := m_ (Kd.R_lower (Kd.R_new' (Kd.R_new' ho0 (Kd.R_lt (frN (Kd.R_types HO598.out BK610.out (by decide))))) (Kd.R_lt (frN (Kd.R_types HO605.out BK610.out (by decide))))) (below_size (bN HB.out))); have n4_ := m_ (blk_below (g := gb591) (o := .cells #[.int .i64 a0_0, .int .i64 a0_1, .int .i64 a0_2, .slice A0_3 l0_3.length c0_3, .bool a0_4] 45 (0, 0)) (kF BK591.out NB591_610.out) hb); have n5_ := m_ (blk_below (g := gb610) (o := .cells #[.int .i64 t600, .int .i64 t601, .int .i64 t602, .slice Ao25 t603.length co25, .bool t606] 25 (0, 0)) (kP BK610.out) hb); have n6_ := m_ (below_step (bN HB.out) hb); clear HO598; clear HO605; clear HO609; clear BK591; clear BK610; clear HB; have HO598 := n0_; have HO605 := n1_; have HO609 := n2_; have HO616 := n3_; have BK591 := n4_; have BK610 := n5_; have HB := n6_; clear n0_ n1_ n2_ n3_ n4_ n5_ n6_; (try clear hb); (try clear hb2); (try clear hk); (try clear hi); (try clear ho0)) | ((with_reducible refine gate_dst (N := 8) rfl ?_); refine box_event ?hg (N := 8) ?hd (cs := #[.int .i64 0, .int .i64 0, .int .i64 0, .slice none 0 0, .bool false]) (t := 25) ?hr ?_; (case hd => rfl); (case hg => rfl); (case hr => first | (go_simp; done) | (go_simp; rfl)); intro gb618 hg w28 hbox hb; have n0_ := m_ (Kd.R_below (rN HO598.out) hb); have n1_ := m_ (Kd.R_below (rN HO605.out) hb); have n2_ := m_ (Kd.R_below (rN HO609.out) hb); have n3_ := m_ (Kd.R_below (rN HO616.out) hb); have n4_ := m_ (blk_below (kN BK591.out) hb); have n5_ := m_ (blk_below (kN BK610.out) hb); have n6_ := m_ (below_step (bN HB.out) hb); have n7_ := m_ (hbox); have n8_ := m_ ((by rw [hg]; exact (below_size (bN HB.out)) : w.heap.size ≤ gb618)); have n9_ := m_ ((by rw [hg]; exact (below_size (bN HB.out)) : w.heap.size ≤ gb618)); have n10_ := m_ (nL hg BK591.out); have n11_ := m_ (nG hg BK591.out); have n12_ := m_ (nL hg BK610.out); have n13_ := m_ (nG hg BK610.out); clear HO598; clear HO605; clear HO609; clear HO616; clear BK591; clear BK610; clear HB; have HO598 := n0_; have HO605 := n1_; have HO609 := n2_; have HO616 := n3_; have BK591 := n4_; have BK610 := n5_; have HB := n6_; have BK618 := n7_; have GW618 := n8_; have GE618 := n9_; have NB591_618 := n10_; have NB618_591 := n11_; have NB610_618 := n12_; have NB618_610 := n13_; clear n0_ n1_ n2_ n3_ n4_ n5_ n6_ n7_ n8_ n9_ n10_ n11_ n12_ n13_; clear hb hbox hg; have hnb29 := NB618_591.out; have hnc29 := NB591_618.out; have hnb30 := NB618_610.out; have hnc30 := NB610_618.out; have hcz31_0 : w28.cell? ⟨gb618, 0, none⟩ = some (.int .i64 0) := bc BK618 0; have hcz31_1 : w28.cell? ⟨gb618, 1, none⟩ = some (.int .i64 0) := bc BK618 1; have hcz31_2 : w28.cell? ⟨gb618, 2, none⟩ = some (.int .i64 0) := bc BK618 2; have hcz31_3 : w28.cell? ⟨gb618, 3, none⟩ = some (.slice none 0 0) := bc BK618 3; have hcz31_4 : w28.cell? ⟨gb618, 4, none⟩ = some (.bool false) := bc BK618 4; have hfz31_0 := blk_frozen BK618.out 0; have hfz31_1 := blk_frozen BK618.out 1; have hfz31_2 := blk_frozen BK618.out 2; have hfz31_3 := blk_frozen BK618.out 3; have hfz31_4 := blk_frozen BK618.out 4; obtain ⟨Ao32, co32, eo32⟩ := Kd.R_slice HO616.out; subst eo32) | ((with_reducible refine gate_callee (f := 8) rfl ?_); refine goesL_ (some 36) rfl rfl Try.func8 (by kernel_rfl) rfl #[.agg #[.int .i64 t611, .int .i64 t612, .int .i64 t613, .slice Ao32 t614.length co32, .bool t617], .string a1] rfl gl_ ?_; (with_reducible refine (impl_FopSend.calls k t611 t612 t613 _ _ t614 t617 a1 t619 t620 t621 t622 t625 t626 _ ?side1 ?side2 A13.out).mono ?_); (case side1 => refine (Kd.R_reads' (e := 9) (base := w.heap.size) (ok := fun k_ => ((True ∧ nb Ao20 t596.length co20 k_) ∧ nb Ao25 t603.length co25 k_)) (n := t614.length) (c := co32) ?_).2.2; exact (frN (Kd.R_types HO616.out BK618.out (by decide)))); (case side2 => exact (Kd.R_reads' HO616.out).2.1); rintro e w33 ⟨v623, v627, rfl, ho0, ho1, hb⟩; refine ⟨_, rfl, ?_⟩; have n0_ := m_ (Kd.R_elder' (frN (Kd.R_types HO598.out BK618.out (by decide))) (Kd.R_base ho0) hb); have n1_ := m_ (Kd.R_elder' (frN (Kd.R_types HO605.out BK618.out (by decide))) (Kd.R_base ho0) hb); have n2_ := m_ (Kd.R_elder' (frN (Kd.R_types HO609.out BK618.out (by decide))) (Kd.R_base ho1) hb); have n3_ := m_ (Kd.R_elder' (frN (Kd.R_types HO616.out BK618.out (by decide))) (Kd.R_base ho0) hb); have n4_ := m_ (Kd.R_lower (Kd.R_new' (Kd.R_new' (Kd.R_new' ho0 (Kd.R_lt (frN (Kd.R_types HO598.out BK618.out (by decide))))) (Kd.R_lt (frN (Kd.R_types HO605.out BK618.out (by decide))))) (Kd.R_lt (frN (Kd.R_types HO616.out BK618.out (by decide))))) (below_size (bN HB.out))); have n5_ := m_ (Kd.R_lower (Kd.R_new' ho1 (Kd.R_lt (frN (Kd.R_types HO609.out BK618.out (by decide))))) (below_size (bN HB.out))); have n6_ := m_ (blk_below (g := gb591) (o := .cells #[.int .i64 a0_0, .int .i64 a0_1, .int .i64 a0_2, .slice A0_3 l0_3.length c0_3, .bool a0_4] 45 (0, 0)) (kF BK591.out NB591_618.out) hb); have n7_ := m_ (blk_below (g := gb610) (o := .cells #[.int .i64 t600, .int .i64 t601, .int .i64 t602, .slice Ao25 t603.length co25, .bool t606] 25 (0, 0)) (kF BK610.out NB610_618.out) hb); have n8_ := m_ (blk_below (g := gb618) (o := .cells #[.int .i64 t611, .int .i64 t612, .int .i64 t613, .slice Ao32 t614.length co32, .bool t617] 25 (0, 0)) (kP BK618.out) hb); have n9_ := m_ (below_step (bN HB.out) hb); clear HO598; clear HO605; clear HO609; clear HO616; clear BK591; clear BK610; clear BK618; clear HB; have HO598 := n0_; have HO605 := n1_; have HO609 := n2_; have HO616 := n3_; have HO624 := n4_; have HO628 := n5_; have BK591 := n6_; have BK610 := n7_; have BK618 := n8_; have HB := n9_; clear n0_ n1_ n2_ n3_ n4_ n5_ n6_ n7_ n8_ n9_; (try clear hb); (try clear hb2); (try clear hk); (try clear hi); (try clear ho0); (try clear ho1)) | ((with_reducible refine gate_dst (N := 9) rfl ?_); refine box_event ?hg (N := 9) ?hd (cs := #[.int .i64 0, .int .i64 0, .int .i64 0, .slice none 0 0, .bool false]) (t := 25) ?hr ?_; (case hd => rfl); (case hg => rfl); (case hr => first | (go_simp; done) | (go_simp; rfl)); intro gb629 hg w34 hbox hb; have n0_ := m_ (Kd.R_below (rN HO598.out) hb); have n1_ := m_ (Kd.R_below (rN HO605.out) hb); have n2_ := m_ (Kd.R_below (rN HO609.out) hb); have n3_ := m_ (Kd.R_below (rN HO616.out) hb); have n4_ := m_ (Kd.R_below (rN HO624.out) hb); have n5_ := m_ (Kd.R_below (rN HO628.out) hb); have n6_ := m_ (blk_below (kN BK591.out) hb); have n7_ := m_ (blk_below (kN BK610.out) hb); have n8_ := m_ (blk_below (kN BK618.out) hb); have n9_ := m_ (below_step (bN HB.out) hb); have n10_ := m_ (hbox); have n11_ := m_ ((by rw [hg]; exact (below_size (bN HB.out)) : w.heap.size ≤ gb629)); have n12_ := m_ ((by rw [hg]; exact (below_size (bN HB.out)) : w.heap.size ≤ gb629)); have n13_ := m_ (nL hg BK591.out); have n14_ := m_ (nG hg BK591.out); have n15_ := m_ (nL hg BK610.out); have n16_ := m_ (nG hg BK610.out); have n17_ := m_ (nL hg BK618.out); have n18_ := m_ (nG hg BK618.out); clear HO598; clear HO605; clear HO609; clear HO616; clear HO624; clear HO628; clear BK591; clear BK610; clear BK618; clear HB; have HO598 := n0_; have HO605 := n1_; have HO609 := n2_; have HO616 := n3_; have HO624 := n4_; have HO628 := n5_; have BK591 := n6_; have BK610 := n7_; have BK618 := n8_; have HB := n9_; have BK629 := n10_; have GW629 := n11_; have GE629 := n12_; have NB591_629 := n13_; have NB629_591 := n14_; have NB610_629 := n15_; have NB629_610 := n16_; have NB618_629 := n17_; have NB629_618 := n18_; clear n0_ n1_ n2_ n3_ n4_ n5_ n6_ n7_ n8_ n9_ n10_ n11_ n12_ n13_ n14_ n15_ n16_ n17_ n18_; clear hb hbox hg; have hnb35 := NB629_591.out; have hnc35 := NB591_629.out; have hnb36 := NB629_610.out; have hnc36 := NB610_629.out; have hnb37 := NB629_618.out; have hnc37 := NB618_629.out; have hcz38_0 : w34.cell? ⟨gb629, 0, none⟩ = some (.int .i64 0) := bc BK629 0; have hcz38_1 : w34.cell? ⟨gb629, 1, none⟩ = some (.int .i64 0) := bc BK629 1; have hcz38_2 : w34.cell? ⟨gb629, 2, none⟩ = some (.int .i64 0) := bc BK629 2; have hcz38_3 : w34.cell? ⟨gb629, 3, none⟩ = some (.slice none 0 0) := bc BK629 3; have hcz38_4 : w34.cell? ⟨gb629, 4, none⟩ = some (.bool false) := bc BK629 4; have hfz38_0 := blk_frozen BK629.out 0; have hfz38_1 := blk_frozen BK629.out 1; have hfz38_2 := blk_frozen BK629.out 2; have hfz38_3 := blk_frozen BK629.out 3; have hfz38_4 := blk_frozen BK629.out 4; obtain ⟨Ao39, co39, eo39⟩ := Kd.R_slice HO624.out; subst eo39))
   (try simp only [Act.put, List.setIfInBounds_toArray, List.set_cons_zero, List.set_cons_succ])
   go_cut [48] (fun v48 wc => ∃ (kq : Nat) (x48_13 : Bool), v48 = .bool x48_13 ∧ Aside0 (laws_FnExactFopSend.j0 kq a1 t607 t626 x48_13 a0_0 a0_1 a0_2 l0_3 a0_4 t600 t601 t602 t603 t606 t611 t612 t613 t614 t617 t619 t620 t621 t622 t625 = some r) ∧ Aside0 (kq ≤ k) ∧ Aside0 (Kd.R k35 35 wc w.heap.size (fun k_ => some k_ ≠ (v627 : Value).ownBlock) v608 t607) ∧ Aside0 (Kd.R k35 35 wc w.heap.size (fun k_ => some k_ ≠ (v608 : Value).ownBlock) v627 t626) ∧ Aside0 (Kd.R Kd.string 9 wc w.heap.size (fun k_ => some k_ ≠ ((.slice Ao32 t614.length co32) : Value).ownBlock ∧ some k_ ≠ ((.slice Ao39 t622.length co39) : Value).ownBlock) (.slice Ao25 t603.length co25) t603) ∧ Aside0 (Kd.R Kd.string 9 wc w.heap.size (fun k_ => some k_ ≠ ((.slice Ao25 t603.length co25) : Value).ownBlock ∧ some k_ ≠ ((.slice Ao39 t622.length co39) : Value).ownBlock) (.slice Ao32 t614.length co32) t614) ∧ Aside0 (Kd.R Kd.string 9 wc w.heap.size (fun k_ => some k_ ≠ ((.slice Ao25 t603.length co25) : Value).ownBlock ∧ some k_ ≠ ((.slice Ao32 t614.length co32) : Value).ownBlock) (.slice Ao39 t622.length co39) t622) ∧ Aside0 (wc.heap[gb591]? = some (.cells #[.int .i64 a0_0, .int .i64 a0_1, .int .i64 a0_2, (.slice A0_3 l0_3.length c0_3), .bool a0_4] 45 (0, 0))) ∧ Aside0 (wc.heap[gb610]? = some (.cells #[.int .i64 t600, .int .i64 t601, .int .i64 t602, (.slice Ao25 t603.length co25), .bool t606] 25 (0, 0))) ∧ Aside0 (wc.heap[gb618]? = some (.cells #[.int .i64 t611, .int .i64 t612, .int .i64 t613, (.slice Ao32 t614.length co32), .bool t617] 25 (0, 0))) ∧ Aside0 (wc.heap[gb629]? = some (.cells #[.int .i64 t619, .int .i64 t620, .int .i64 t621, (.slice Ao39 t622.length co39), .bool t625] 25 (0, 0))) ∧ Aside0 (Below w.heap.size w wc))
   case first =>
    have H := HC14.out
    clear HC14
    replace H := Option.bind_eq_some_iff.mp H
    obtain ⟨t630, A400, H⟩ := H
    replace H : (if t630 = true then ((laws_eqFrameS.f k t626 t607).bind fun t631 => (laws_FnExactFopSend.j0 k a1 t607 t626 (!t631) a0_0 a0_1 a0_2 l0_3 a0_4 t600 t601 t602 t603 t606 t611 t612 t613 t614 t617 t619 t620 t621 t622 t625)) else (laws_FnExactFopSend.j0 k a1 t607 t626 true a0_0 a0_1 a0_2 l0_3 a0_4 t600 t601 t602 t603 t606 t611 t612 t613 t614 t617 t619 t620 t621 t622 t625)) = some r := H
    have A40 := Aside0.mk A400
    clear A400
    by_cases c41 : t630 = true
    ·subst c41
     have H1 : ((laws_eqFrameS.f k t626 t607).bind fun t631 => (laws_FnExactFopSend.j0 k a1 t607 t626 (!t631) a0_0 a0_1 a0_2 l0_3 a0_4 t600 t601 t602 t603 t606 t611 t612 t613 t614 t617 t619 t620 t621 t622 t625)) = some r := by rw [if_pos rfl] at H; exact H
     clear H
     have H := H1
     clear H1
     replace H := Option.bind_eq_some_iff.mp H
     obtain ⟨t631, A420, H⟩ := H
     replace H : (laws_FnExactFopSend.j0 k a1 t607 t626 (!t631) a0_0 a0_1 a0_2 l0_3 a0_4 t600 t601 t602 t603 t606 t611 t612 t613 t614 t617 t619 t620 t621 t622 t625) = some r := H
     have A42 := Aside0.mk A420
     clear A420
     have H' := Aside0.mk H
     clear H
     have hnb43 := NB629_591.out
     have hnc43 := NB591_629.out
     have hnb44 := NB629_610.out
     have hnc44 := NB610_629.out
     have hnb45 := NB629_618.out
     have hnc45 := NB618_629.out
     have hcz46_0 : w34.cell? ⟨gb629, 0, none⟩ = some (.int .i64 0) := bc BK629 0
     have hcz46_1 : w34.cell? ⟨gb629, 1, none⟩ = some (.int .i64 0) := bc BK629 1
     have hcz46_2 : w34.cell? ⟨gb629, 2, none⟩ = some (.int .i64 0) := bc BK629 2
     have hcz46_3 : w34.cell? ⟨gb629, 3, none⟩ = some (.slice none 0 0) := bc BK629 3
     have hcz46_4 : w34.cell? ⟨gb629, 4, none⟩ = some (.bool false) := bc BK629 4
     have hfz46_0 := blk_frozen BK629.out 0
     have hfz46_1 := blk_frozen BK629.out 1
     have hfz46_2 := blk_frozen BK629.out 2
     have hfz46_3 := blk_frozen BK629.out 3
     have hfz46_4 := blk_frozen BK629.out 4
     have hnb47 := NB610_591.out
     have hnc47 := NB591_610.out
     have hnb48 := NB610_618.out
     have hnc48 := NB618_610.out
     have hcz49_0 : w34.cell? ⟨gb610, 0, none⟩ = some (.int .i64 t600) := bc BK610 0
     have hcz49_1 : w34.cell? ⟨gb610, 1, none⟩ = some (.int .i64 t601) := bc BK610 1
     have hcz49_2 : w34.cell? ⟨gb610, 2, none⟩ = some (.int .i64 t602) := bc BK610 2
     have hcz49_3 : w34.cell? ⟨gb610, 3, none⟩ = some (.slice Ao25 t603.length co25) := bc BK610 3
     have hcz49_4 : w34.cell? ⟨gb610, 4, none⟩ = some (.bool t606) := bc BK610 4
     have hfz49_0 := blk_frozen BK610.out 0
     have hfz49_1 := blk_frozen BK610.out 1
     have hfz49_2 := blk_frozen BK610.out 2
     have hfz49_3 := blk_frozen BK610.out 3
     have hfz49_4 := blk_frozen BK610.out 4
     go_wp2_with (first | ((with_reducible refine gate_callee (f := 22) rfl ?_); refine goesL_ (some 41) rfl rfl Try.func22 (by kernel_rfl) rfl #[.agg #[.int .i64 t619, .int .i64 t620, .int .i64 t621, .slice Ao39 t622.length co39, .bool t625], .agg #[.int .i64 t600, .int .i64 t601, .int .i64 t602, .slice Ao25 t603.length co25, .bool t606]] rfl gl_ ?_; (with_reducible refine (laws_eqFop.calls k t619 t620 t621 _ _ t622 t625 t600 t601 t602 _ _ t603 t606 true _ ?side1 ?side2 ?side3 ?side4 A40.out).mono ?_); (case side1 => refine (Kd.R_reads' (e := 9) (base := w.heap.size) (ok := fun k_ => (((True ∧ nb Ao20 t596.length co20 k_) ∧ nb Ao25 t603.length co25 k_) ∧ nb Ao32 t614.length co32 k_)) (n := t622.length) (c := co39) ?_).2.2; exact (frN (Kd.R_types HO624.out BK629.out (by decide)))); (case side2 => exact (Kd.R_reads' HO624.out).2.1); (case side3 => refine (Kd.R_reads' (e := 9) (base := w.heap.size) (ok := fun k_ => (((True ∧ nb Ao20 t596.length co20 k_) ∧ nb Ao32 t614.length co32 k_) ∧ nb Ao39 t622.length co39 k_)) (n := t603.length) (c := co25) ?_).2.2; exact (frN (Kd.R_types HO605.out BK629.out (by decide)))); (case side4 => exact (Kd.R_reads' HO605.out).2.1); rintro e w50 ⟨rfl, hb⟩; refine ⟨_, rfl, ?_⟩; have n0_ := m_ (Kd.R_below (frN (Kd.R_types HO598.out BK629.out (by decide))) hb); have n1_ := m_ (Kd.R_below (frN (Kd.R_types HO605.out BK629.out (by decide))) hb); have n2_ := m_ (Kd.R_below (frN (Kd.R_types HO609.out BK629.out (by decide))) hb); have n3_ := m_ (Kd.R_below (frN (Kd.R_types HO616.out BK629.out (by decide))) hb); have n4_ := m_ (Kd.R_below (frN (Kd.R_types HO624.out BK629.out (by decide))) hb); have n5_ := m_ (Kd.R_below (frN (Kd.R_types HO628.out BK629.out (by decide))) hb); have n6_ := m_ (blk_below (g := gb591) (o := .cells #[.int .i64 a0_0, .int .i64 a0_1, .int .i64 a0_2, .slice A0_3 l0_3.length c0_3, .bool a0_4] 45 (0, 0)) (kF BK591.out NB591_629.out) hb); have n7_ := m_ (blk_below (g := gb610) (o := .cells #[.int .i64 t600, .int .i64 t601, .int .i64 t602, .slice Ao25 t603.length co25, .bool t606] 25 (0, 0)) (kF BK610.out NB610_629.out) hb); have n8_ := m_ (blk_below (g := gb618) (o := .cells #[.int .i64 t611, .int .i64 t612, .int .i64 t613, .slice Ao32 t614.length co32, .bool t617] 25 (0, 0)) (kF BK618.out NB618_629.out) hb); have n9_ := m_ (blk_below (g := gb629) (o := .cells #[.int .i64 t619, .int .i64 t620, .int .i64 t621, .slice Ao39 t622.length co39, .bool t625] 25 (0, 0)) (kP BK629.out) hb); have n10_ := m_ (below_step (bN HB.out) hb); clear HO598; clear HO605; clear HO609; clear HO616; clear HO624; clear HO628; clear BK591; clear BK610; clear BK618; clear BK629; clear HB; have HO598 := n0_; have HO605 := n1_; have HO609 := n2_; have HO616 := n3_; have HO624 := n4_; have HO628 := n5_; have BK591 := n6_; have BK610 := n7_; have BK618 := n8_; have BK629 := n9_; have HB := n10_; clear n0_ n1_ n2_ n3_ n4_ n5_ n6_ n7_ n8_ n9_ n10_; (try clear hb); (try clear hb2); (try clear hk); (try clear hi); obtain ⟨Ao51, co51, eo51⟩ := Kd.R_slice HO628.out; subst eo51; obtain ⟨Ao52, co52, eo52⟩ := Kd.R_slice HO609.out; subst eo52) | (go_at_call 25; (with_reducible refine (laws_eqFrameS.calls k _ _ t626 _ _ t607 t631 _ ?side1 ?side2 ?side3 ?side4 A42.out).mono ?_); (case side1 => exact cN (Kd.R_reads' HO628.out).2.2); (case side2 => exact (Kd.R_reads' HO628.out).2.1); (case side3 => exact cN (Kd.R_reads' HO609.out).2.2); (case side4 => exact (Kd.R_reads' HO609.out).2.1); rintro e w53 ⟨rfl, hb⟩; have n0_ := m_ (Kd.R_below (rN HO598.out) hb); have n1_ := m_ (Kd.R_below (rN HO605.out) hb); have n2_ := m_ (Kd.R_below (rN HO609.out) hb); have n3_ := m_ (Kd.R_below (rN HO616.out) hb); have n4_ := m_ (Kd.R_below (rN HO624.out) hb); have n5_ := m_ (Kd.R_below (rN HO628.out) hb); have n6_ := m_ (blk_below (kN BK591.out) hb); have n7_ := m_ (blk_below (kN BK610.out) hb); have n8_ := m_ (blk_below (kN BK618.out) hb); have n9_ := m_ (blk_below (kN BK629.out) hb); have n10_ := m_ (below_step (bN HB.out) hb); clear HO598; clear HO605; clear HO609; clear HO616; clear HO624; clear HO628; clear BK591; clear BK610; clear BK618; clear BK629; clear HB; have HO598 := n0_; have HO605 := n1_; have HO609 := n2_; have HO616 := n3_; have HO624 := n4_; have HO628 := n5_; have BK591 := n6_; have BK610 := n7_; have BK618 := n8_; have BK629 := n9_; have HB := n10_; clear n0_ n1_ n2_ n3_ n4_ n5_ n6_ n7_ n8_ n9_ n10_; (try clear hb); (try clear hb2); (try clear hk); (try clear hi)))
     go_meet
     case rel => exact ⟨_, (!t631), (by first | rfl | (simp; done) | (simp [*]; done)), H', ⟨by first | omega | exact Nat.le_refl _⟩, ⟨by (with_reducible repeat (first | apply Kd.R_alloc | apply Kd.R_drewN | apply Kd.R_drew)); exact Kd.R_mono HO609.out (fun _ hk => hk.2)⟩, ⟨by (with_reducible repeat (first | apply Kd.R_alloc | apply Kd.R_drewN | apply Kd.R_drew)); exact Kd.R_mono HO628.out (fun _ hk => hk.2)⟩, ⟨by (with_reducible repeat (first | apply Kd.R_alloc | apply Kd.R_drewN | apply Kd.R_drew)); exact Kd.R_mono HO605.out (fun _ hk => ⟨hk.1.2, hk.2⟩)⟩, ⟨by (with_reducible repeat (first | apply Kd.R_alloc | apply Kd.R_drewN | apply Kd.R_drew)); exact Kd.R_mono HO616.out (fun _ hk => ⟨hk.1.2, hk.2⟩)⟩, ⟨by (with_reducible repeat (first | apply Kd.R_alloc | apply Kd.R_drewN | apply Kd.R_drew)); exact Kd.R_mono HO624.out (fun _ hk => ⟨hk.1.2, hk.2⟩)⟩, ⟨kN BK591.out⟩, ⟨kN BK610.out⟩, ⟨kN BK618.out⟩, ⟨kN BK629.out⟩, ⟨by repeat (first | (with_reducible first | exact HB.out | apply below_alloc | apply pw_below_drewN | apply below_drew1 | refine below_set ?_ GE591.out | refine below_set ?_ GE610.out | refine below_set ?_ GE618.out | refine below_set ?_ GE629.out) | exact HB.out)⟩⟩
    ·replace c41 := Bool.eq_false_iff.mpr c41
     subst c41
     have H1 : (laws_FnExactFopSend.j0 k a1 t607 t626 true a0_0 a0_1 a0_2 l0_3 a0_4 t600 t601 t602 t603 t606 t611 t612 t613 t614 t617 t619 t620 t621 t622 t625) = some r := by rw [if_neg (show ¬ (false = true) by decide)] at H; exact H
     clear H
     have H := H1
     clear H1
     have H' := Aside0.mk H
     clear H
     have hnb54 := NB629_591.out
     have hnc54 := NB591_629.out
     have hnb55 := NB629_610.out
     have hnc55 := NB610_629.out
     have hnb56 := NB629_618.out
     have hnc56 := NB618_629.out
     have hcz57_0 : w34.cell? ⟨gb629, 0, none⟩ = some (.int .i64 0) := bc BK629 0
     have hcz57_1 : w34.cell? ⟨gb629, 1, none⟩ = some (.int .i64 0) := bc BK629 1
     have hcz57_2 : w34.cell? ⟨gb629, 2, none⟩ = some (.int .i64 0) := bc BK629 2
     have hcz57_3 : w34.cell? ⟨gb629, 3, none⟩ = some (.slice none 0 0) := bc BK629 3
     have hcz57_4 : w34.cell? ⟨gb629, 4, none⟩ = some (.bool false) := bc BK629 4
     have hfz57_0 := blk_frozen BK629.out 0
     have hfz57_1 := blk_frozen BK629.out 1
     have hfz57_2 := blk_frozen BK629.out 2
     have hfz57_3 := blk_frozen BK629.out 3
     have hfz57_4 := blk_frozen BK629.out 4
     have hnb58 := NB610_591.out
     have hnc58 := NB591_610.out
     have hnb59 := NB610_618.out
     have hnc59 := NB618_610.out
     have hcz60_0 : w34.cell? ⟨gb610, 0, none⟩ = some (.int .i64 t600) := bc BK610 0
     have hcz60_1 : w34.cell? ⟨gb610, 1, none⟩ = some (.int .i64 t601) := bc BK610 1
     have hcz60_2 : w34.cell? ⟨gb610, 2, none⟩ = some (.int .i64 t602) := bc BK610 2
     have hcz60_3 : w34.cell? ⟨gb610, 3, none⟩ = some (.slice Ao25 t603.length co25) := bc BK610 3
     have hcz60_4 : w34.cell? ⟨gb610, 4, none⟩ = some (.bool t606) := bc BK610 4
     have hfz60_0 := blk_frozen BK610.out 0
     have hfz60_1 := blk_frozen BK610.out 1
     have hfz60_2 := blk_frozen BK610.out 2
     have hfz60_3 := blk_frozen BK610.out 3
     have hfz60_4 := blk_frozen BK610.out 4
     go_wp2_with (first | ((with_reducible refine gate_callee (f := 22) rfl ?_); refine goesL_ (some 41) rfl rfl Try.func22 (by kernel_rfl) rfl #[.agg #[.int .i64 t619, .int .i64 t620, .int .i64 t621, .slice Ao39 t622.length co39, .bool t625], .agg #[.int .i64 t600, .int .i64 t601, .int .i64 t602, .slice Ao25 t603.length co25, .bool t606]] rfl gl_ ?_; (with_reducible refine (laws_eqFop.calls k t619 t620 t621 _ _ t622 t625 t600 t601 t602 _ _ t603 t606 false _ ?side1 ?side2 ?side3 ?side4 A40.out).mono ?_); (case side1 => refine (Kd.R_reads' (e := 9) (base := w.heap.size) (ok := fun k_ => (((True ∧ nb Ao20 t596.length co20 k_) ∧ nb Ao25 t603.length co25 k_) ∧ nb Ao32 t614.length co32 k_)) (n := t622.length) (c := co39) ?_).2.2; exact (frN (Kd.R_types HO624.out BK629.out (by decide)))); (case side2 => exact (Kd.R_reads' HO624.out).2.1); (case side3 => refine (Kd.R_reads' (e := 9) (base := w.heap.size) (ok := fun k_ => (((True ∧ nb Ao20 t596.length co20 k_) ∧ nb Ao32 t614.length co32 k_) ∧ nb Ao39 t622.length co39 k_)) (n := t603.length) (c := co25) ?_).2.2; exact (frN (Kd.R_types HO605.out BK629.out (by decide)))); (case side4 => exact (Kd.R_reads' HO605.out).2.1); rintro e w61 ⟨rfl, hb⟩; refine ⟨_, rfl, ?_⟩; have n0_ := m_ (Kd.R_below (frN (Kd.R_types HO598.out BK629.out (by decide))) hb); have n1_ := m_ (Kd.R_below (frN (Kd.R_types HO605.out BK629.out (by decide))) hb); have n2_ := m_ (Kd.R_below (frN (Kd.R_types HO609.out BK629.out (by decide))) hb); have n3_ := m_ (Kd.R_below (frN (Kd.R_types HO616.out BK629.out (by decide))) hb); have n4_ := m_ (Kd.R_below (frN (Kd.R_types HO624.out BK629.out (by decide))) hb); have n5_ := m_ (Kd.R_below (frN (Kd.R_types HO628.out BK629.out (by decide))) hb); have n6_ := m_ (blk_below (g := gb591) (o := .cells #[.int .i64 a0_0, .int .i64 a0_1, .int .i64 a0_2, .slice A0_3 l0_3.length c0_3, .bool a0_4] 45 (0, 0)) (kF BK591.out NB591_629.out) hb); have n7_ := m_ (blk_below (g := gb610) (o := .cells #[.int .i64 t600, .int .i64 t601, .int .i64 t602, .slice Ao25 t603.length co25, .bool t606] 25 (0, 0)) (kF BK610.out NB610_629.out) hb); have n8_ := m_ (blk_below (g := gb618) (o := .cells #[.int .i64 t611, .int .i64 t612, .int .i64 t613, .slice Ao32 t614.length co32, .bool t617] 25 (0, 0)) (kF BK618.out NB618_629.out) hb); have n9_ := m_ (blk_below (g := gb629) (o := .cells #[.int .i64 t619, .int .i64 t620, .int .i64 t621, .slice Ao39 t622.length co39, .bool t625] 25 (0, 0)) (kP BK629.out) hb); have n10_ := m_ (below_step (bN HB.out) hb); clear HO598; clear HO605; clear HO609; clear HO616; clear HO624; clear HO628; clear BK591; clear BK610; clear BK618; clear BK629; clear HB; have HO598 := n0_; have HO605 := n1_; have HO609 := n2_; have HO616 := n3_; have HO624 := n4_; have HO628 := n5_; have BK591 := n6_; have BK610 := n7_; have BK618 := n8_; have BK629 := n9_; have HB := n10_; clear n0_ n1_ n2_ n3_ n4_ n5_ n6_ n7_ n8_ n9_ n10_; (try clear hb); (try clear hb2); (try clear hk); (try clear hi)))
     go_meet
     case rel => exact ⟨_, (true), (by first | rfl | (simp; done) | (simp [*]; done)), H', ⟨by first | omega | exact Nat.le_refl _⟩, ⟨by (with_reducible repeat (first | apply Kd.R_alloc | apply Kd.R_drewN | apply Kd.R_drew)); exact Kd.R_mono HO609.out (fun _ hk => hk.2)⟩, ⟨by (with_reducible repeat (first | apply Kd.R_alloc | apply Kd.R_drewN | apply Kd.R_drew)); exact Kd.R_mono HO628.out (fun _ hk => hk.2)⟩, ⟨by (with_reducible repeat (first | apply Kd.R_alloc | apply Kd.R_drewN | apply Kd.R_drew)); exact Kd.R_mono HO605.out (fun _ hk => ⟨hk.1.2, hk.2⟩)⟩, ⟨by (with_reducible repeat (first | apply Kd.R_alloc | apply Kd.R_drewN | apply Kd.R_drew)); exact Kd.R_mono HO616.out (fun _ hk => ⟨hk.1.2, hk.2⟩)⟩, ⟨by (with_reducible repeat (first | apply Kd.R_alloc | apply Kd.R_drewN | apply Kd.R_drew)); exact Kd.R_mono HO624.out (fun _ hk => ⟨hk.1.2, hk.2⟩)⟩, ⟨kN BK591.out⟩, ⟨kN BK610.out⟩, ⟨kN BK618.out⟩, ⟨kN BK629.out⟩, ⟨by repeat (first | (with_reducible first | exact HB.out | apply below_alloc | apply pw_below_drewN | apply below_drew1 | refine below_set ?_ GE591.out | refine below_set ?_ GE610.out | refine below_set ?_ GE618.out | refine below_set ?_ GE629.out) | exact HB.out)⟩⟩
   case rest =>
    clear HC14
    try clear c1
    try clear c2
    try clear p2
    try clear c3
    try clear c3b0
    try clear c3b1
    try clear c4
    try clear c5
    try clear c6
    try clear c6b0
    try clear c8
    try clear c9
    try clear c19
    try clear c20
    try clear c22
    try clear c23
    try clear c29
    try clear c30
    try clear c35
    try clear c36
    try clear c37
    try clear c41
    try clear c43
    try clear c44
    try clear c45
    try clear c47
    try clear c48
    try clear c54
    try clear c55
    try clear c56
    try clear c58
    try clear c59
    try clear hcz16_0
    try clear hcz16_1
    try clear hcz16_2
    try clear hcz16_3
    try clear hcz16_4
    try clear hcz18_0
    try clear hcz18_1
    try clear hcz18_2
    try clear hcz18_3
    try clear hcz18_4
    try clear hcz24_0
    try clear hcz24_1
    try clear hcz24_2
    try clear hcz24_3
    try clear hcz24_4
    try clear hcz26_0
    try clear hcz26_1
    try clear hcz26_2
    try clear hcz26_3
    try clear hcz26_4
    try clear hcz31_0
    try clear hcz31_1
    try clear hcz31_2
    try clear hcz31_3
    try clear hcz31_4
    try clear hcz38_0
    try clear hcz38_1
    try clear hcz38_2
    try clear hcz38_3
    try clear hcz38_4
    try clear hcz46_0
    try clear hcz46_1
    try clear hcz46_2
    try clear hcz46_3
    try clear hcz46_4
    try clear hcz49_0
    try clear hcz49_1
    try clear hcz49_2
    try clear hcz49_3
    try clear hcz49_4
    try clear hcz57_0
    try clear hcz57_1
    try clear hcz57_2
    try clear hcz57_3
    try clear hcz57_4
    try clear hcz60_0
    try clear hcz60_1
    try clear hcz60_2
    try clear hcz60_3
    try clear hcz60_4
    try clear hcz8_0
    try clear hcz8_1
    try clear hcz8_2
    try clear hcz8_3
    try clear hcz8_4
    try clear hfz16_0
    try clear hfz16_1
    try clear hfz16_2
    try clear hfz16_3
    try clear hfz16_4
    try clear hfz18_0
    try clear hfz18_1
    try clear hfz18_2
    try clear hfz18_3
    try clear hfz18_4
    try clear hfz24_0
    try clear hfz24_1
    try clear hfz24_2
    try clear hfz24_3
    try clear hfz24_4
    try clear hfz26_0
    try clear hfz26_1
    try clear hfz26_2
    try clear hfz26_3
    try clear hfz26_4
    try clear hfz31_0
    try clear hfz31_1
    try clear hfz31_2
    try clear hfz31_3
    try clear hfz31_4
    try clear hfz38_0
    try clear hfz38_1
    try clear hfz38_2
    try clear hfz38_3
    try clear hfz38_4
    try clear hfz46_0
    try clear hfz46_1
    try clear hfz46_2
    try clear hfz46_3
    try clear hfz46_4
    try clear hfz49_0
    try clear hfz49_1
    try clear hfz49_2
    try clear hfz49_3
    try clear hfz49_4
    try clear hfz57_0
    try clear hfz57_1
    try clear hfz57_2
    try clear hfz57_3
    try clear hfz57_4
    try clear hfz60_0
    try clear hfz60_1
    try clear hfz60_2
    try clear hfz60_3
    try clear hfz60_4
    try clear hfz8_0
    try clear hfz8_1
    try clear hfz8_2
    try clear hfz8_3
    try clear hfz8_4
    obtain ⟨kq, x48_13, rfl, HA, HJ13, HO_7, HO_10, HO_611003, HO_619003, HO_630003, BK591, BK610, BK618, BK629, HB⟩ := hcut
    cases kq with
    | zero => exact absurd HA.out (by simp [laws_FnExactFopSend.j0])
    | succ kj13 =>
     have H := HA.out
     clear HA
     simp only [laws_FnExactFopSend.j0] at H
     by_cases c62 : x48_13 = true
     ·subst c62
      have H1 : (some false) = some r := by rw [if_pos rfl] at H; exact H
      clear H
      have H := H1
      clear H1
      obtain rfl := Option.some.inj H
      go_wp2
      go_ret
      exact ⟨by first | rfl | (simp [errW_none, errW_some] <;> rfl) | (simp [*, errW_none, errW_some] <;> rfl), by repeat (first | (with_reducible first | exact HB.out | apply below_alloc | apply pw_below_drewN | apply below_drew1 | refine below_set ?_ GE591.out | refine below_set ?_ GE610.out | refine below_set ?_ GE618.out | refine below_set ?_ GE629.out) | exact HB.out)⟩
     ·replace c62 := Bool.eq_false_iff.mpr c62
      subst c62
      have H1 : ((laws_toFop.f kj13 a0_0 a0_1 a0_2 l0_3 a0_4).bind fun bt632 => ((laws_eqFop.f kj13 t611 t612 t613 t614 t617 bt632.1 bt632.2.1 bt632.2.2.1 bt632.2.2.2.1 bt632.2.2.2.2).bind fun t639 => (if t639 = true then ((laws_markFop.f kj13 t611 t612 t613 t614 t617 1).bind fun bt640 => (if bt640.1 < 0 then (laws_FnExactFopSend.j1 kj13 a1 t607 t626 true a0_0 a0_1 a0_2 l0_3 a0_4 t600 t601 t602 t603 t606 t619 t620 t621 t622 t625) else ((laws_eqFop.f kj13 t619 t620 t621 t622 t625 t600 t601 t602 t603 t606).bind fun t642 => (if t642 = true then ((laws_eqFrameS.f kj13 t626 t607).bind fun t643 => (laws_FnExactFopSend.j1 kj13 a1 t607 t626 (!t643) a0_0 a0_1 a0_2 l0_3 a0_4 t600 t601 t602 t603 t606 t619 t620 t621 t622 t625)) else (laws_FnExactFopSend.j1 kj13 a1 t607 t626 true a0_0 a0_1 a0_2 l0_3 a0_4 t600 t601 t602 t603 t606 t619 t620 t621 t622 t625))))) else (some false)))) = some r := by rw [if_neg (show ¬ (false = true) by decide)] at H; exact H
      clear H
      have H := H1
      clear H1
      replace H := Option.bind_eq_some_iff.mp H
      obtain ⟨⟨t632, t633, t634, t635, t638⟩, A630, H⟩ := H
      replace H : ((laws_eqFop.f kj13 t611 t612 t613 t614 t617 t632 t633 t634 t635 t638).bind fun t639 => (if t639 = true then ((laws_markFop.f kj13 t611 t612 t613 t614 t617 1).bind fun bt640 => (if bt640.1 < 0 then (laws_FnExactFopSend.j1 kj13 a1 t607 t626 true a0_0 a0_1 a0_2 l0_3 a0_4 t600 t601 t602 t603 t606 t619 t620 t621 t622 t625) else ((laws_eqFop.f kj13 t619 t620 t621 t622 t625 t600 t601 t602 t603 t606).bind fun t642 => (if t642 = true then ((laws_eqFrameS.f kj13 t626 t607).bind fun t643 => (laws_FnExactFopSend.j1 kj13 a1 t607 t626 (!t643) a0_0 a0_1 a0_2 l0_3 a0_4 t600 t601 t602 t603 t606 t619 t620 t621 t622 t625)) else (laws_FnExactFopSend.j1 kj13 a1 t607 t626 true a0_0 a0_1 a0_2 l0_3 a0_4 t600 t601 t602 t603 t606 t619 t620 t621 t622 t625))))) else (some false))) = some r := H
      have A63 := Aside0.mk A630
      clear A630
      replace H := Option.bind_eq_some_iff.mp H
      obtain ⟨t639, A640, H⟩ := H
      replace H : (if t639 = true then ((laws_markFop.f kj13 t611 t612 t613 t614 t617 1).bind fun bt640 => (if bt640.1 < 0 then (laws_FnExactFopSend.j1 kj13 a1 t607 t626 true a0_0 a0_1 a0_2 l0_3 a0_4 t600 t601 t602 t603 t606 t619 t620 t621 t622 t625) else ((laws_eqFop.f kj13 t619 t620 t621 t622 t625 t600 t601 t602 t603 t606).bind fun t642 => (if t642 = true then ((laws_eqFrameS.f kj13 t626 t607).bind fun t643 => (laws_FnExactFopSend.j1 kj13 a1 t607 t626 (!t643) a0_0 a0_1 a0_2 l0_3 a0_4 t600 t601 t602 t603 t606 t619 t620 t621 t622 t625)) else (laws_FnExactFopSend.j1 kj13 a1 t607 t626 true a0_0 a0_1 a0_2 l0_3 a0_4 t600 t601 t602 t603 t606 t619 t620 t621 t622 t625))))) else (some false)) = some r := H
      have A64 := Aside0.mk A640
      clear A640
      by_cases c65 : t639 = true
      ·subst c65
       have H1 : ((laws_markFop.f kj13 t611 t612 t613 t614 t617 1).bind fun bt640 => (if bt640.1 < 0 then (laws_FnExactFopSend.j1 kj13 a1 t607 t626 true a0_0 a0_1 a0_2 l0_3 a0_4 t600 t601 t602 t603 t606 t619 t620 t621 t622 t625) else ((laws_eqFop.f kj13 t619 t620 t621 t622 t625 t600 t601 t602 t603 t606).bind fun t642 => (if t642 = true then ((laws_eqFrameS.f kj13 t626 t607).bind fun t643 => (laws_FnExactFopSend.j1 kj13 a1 t607 t626 (!t643) a0_0 a0_1 a0_2 l0_3 a0_4 t600 t601 t602 t603 t606 t619 t620 t621 t622 t625)) else (laws_FnExactFopSend.j1 kj13 a1 t607 t626 true a0_0 a0_1 a0_2 l0_3 a0_4 t600 t601 t602 t603 t606 t619 t620 t621 t622 t625))))) = some r := by rw [if_pos rfl] at H; exact H
       clear H
       have H := H1
       clear H1
       replace H := Option.bind_eq_some_iff.mp H
       obtain ⟨⟨t640, t641⟩, A660, H⟩ := H
       replace H : (if t640 < 0 then (laws_FnExactFopSend.j1 kj13 a1 t607 t626 true a0_0 a0_1 a0_2 l0_3 a0_4 t600 t601 t602 t603 t606 t619 t620 t621 t622 t625) else ((laws_eqFop.f kj13 t619 t620 t621 t622 t625 t600 t601 t602 t603 t606).bind fun t642 => (if t642 = true then ((laws_eqFrameS.f kj13 t626 t607).bind fun t643 => (laws_FnExactFopSend.j1 kj13 a1 t607 t626 (!t643) a0_0 a0_1 a0_2 l0_3 a0_4 t600 t601 t602 t603 t606 t619 t620 t621 t622 t625)) else (laws_FnExactFopSend.j1 kj13 a1 t607 t626 true a0_0 a0_1 a0_2 l0_3 a0_4 t600 t601 t602 t603 t606 t619 t620 t621 t622 t625)))) = some r := H
       have A66 := Aside0.mk A660
       clear A660
       have HC67 := Aside0.mk H
       clear H
       try go_wp2
       have n0_ := m_ (Kd.R_drew HO_7.out)
       have n1_ := m_ (Kd.R_drew HO_10.out)
       have n2_ := m_ (Kd.R_drew HO_611003.out)
       have n3_ := m_ (Kd.R_drew HO_619003.out)
       have n4_ := m_ (Kd.R_drew HO_630003.out)
       have n5_ := m_ (blk_drew BK591.out)
       have n6_ := m_ (blk_drew BK610.out)
       have n7_ := m_ (blk_drew BK618.out)
       have n8_ := m_ (blk_drew BK629.out)
       have n9_ := m_ (below_drew1 HB.out)
       clear HO_7
       clear HO_10
       clear HO_611003
       clear HO_619003
       clear HO_630003
       clear BK591
       clear BK610
       clear BK618
       clear BK629
       clear HB
       have HO_7 := n0_
       have HO_10 := n1_
       have HO_611003 := n2_
       have HO_619003 := n3_
       have HO_630003 := n4_
       have BK591 := n5_
       have BK610 := n6_
       have BK618 := n7_
       have BK629 := n8_
       have HB := n9_
       clear n0_ n1_ n2_ n3_ n4_ n5_ n6_ n7_ n8_ n9_
       refine start_ (n := 5) (S := fun w' => w'.cell? ⟨gb618, 0, none⟩ = some (.int .i64 t611) ∧ w'.cell? ⟨gb618, 1, none⟩ = some (.int .i64 t612) ∧ w'.cell? ⟨gb618, 2, none⟩ = some (.int .i64 t613) ∧ w'.cell? ⟨gb618, 3, none⟩ = some (.slice Ao32 t614.length co32) ∧ w'.cell? ⟨gb618, 4, none⟩ = some (.bool t617) ∧ w'.cell? ⟨gb591, 0, none⟩ = some (.int .i64 a0_0) ∧ w'.cell? ⟨gb591, 1, none⟩ = some (.int .i64 a0_1) ∧ w'.cell? ⟨gb591, 2, none⟩ = some (.int .i64 a0_2) ∧ w'.cell? ⟨gb591, 3, none⟩ = some (.slice A0_3 l0_3.length c0_3) ∧ w'.cell? ⟨gb591, 4, none⟩ = some (.bool a0_4)) (ds := []) #[false, false, false, false, false] (by kernel_rfl) rfl rfl ⟨bc BK618 0, bc BK618 1, bc BK618 2, bc BK618 3, bc BK618 4, bc BK591 0, bc BK591 1, bc BK591 2, bc BK591 3, bc BK591 4⟩ (fun hHeld => ?_)
       generalize wc.drew = w68 at HO_7 HO_10 HO_611003 HO_619003 HO_630003 BK591 BK610 BK618 BK629 HB hHeld ⊢
       refine take_ (i := 0) (N := some 49) (v := ?_) (a' := ?_) #[true, false, false, false, false] rfl rfl (by kernel_rfl) (fun _ _ _ h => h) (Or.inl ⟨by rfl, ?_⟩) hHeld ?_ ?_
       rotate_left
       ·rintro w' ⟨s0, s1, s2, s3, s4, s5, s6, s7, s8, s9⟩
        go_simp
        with_reducible rfl
       rotate_left
       ·simp only [Act.put, List.setIfInBounds_toArray, List.set_cons_zero, List.set_cons_succ, i64_w, i32_w]
        rfl
       refine take_ (i := 1) (N := some 50) (v := ?_) (a' := ?_) #[true, true, false, false, false] rfl rfl (by kernel_rfl) (fun _ _ _ h => h) (Or.inl ⟨by rfl, ?_⟩) hHeld ?_ ?_
       rotate_left
       ·rintro w' ⟨s0, s1, s2, s3, s4, s5, s6, s7, s8, s9⟩
        go_simp
        with_reducible rfl
       rotate_left
       ·simp only [Act.put, List.setIfInBounds_toArray, List.set_cons_zero, List.set_cons_succ, i64_w, i32_w]
        rfl
       refine one_ (i := 2) (N := some 51) #[true, true, true, false, false] rfl rfl (by kernel_rfl) (by decide) (fun K hK => ?_)
       refine goes_ Try.func20 (by kernel_rfl) rfl #[.agg #[.int .i64 a0_0, .int .i64 a0_1, .int .i64 a0_2, .slice A0_3 l0_3.length c0_3, .bool a0_4]] (by rfl) rfl rfl gl_ ?_
       with_reducible refine (laws_toFop.calls kj13 a0_0 a0_1 a0_2 _ _ l0_3 a0_4 t632 t633 t634 t635 t638 _ ?side1 ?side2 A63.out).mono ?_
       (case side1 => exact cN (Kd.C_below HR0_3.out HB.out))
       (case side2 => exact HC0_3.out)
       rintro e w69 ⟨v636, rfl, ho0, hb⟩
       refine ⟨_, rfl, ?_⟩
       have n0_ := m_ (Kd.R_below (rN HO_7.out) hb)
       have n1_ := m_ (Kd.R_below (rN HO_10.out) hb)
       have n2_ := m_ (Kd.R_elder' (rN HO_611003.out) (Kd.R_base ho0) hb)
       have n3_ := m_ (Kd.R_elder' (rN HO_619003.out) (Kd.R_base ho0) hb)
       have n4_ := m_ (Kd.R_elder' (rN HO_630003.out) (Kd.R_base ho0) hb)
       have n5_ := m_ (Kd.R_lower (Kd.R_new' (Kd.R_new' (Kd.R_new' ho0 (Kd.R_lt (rN HO_611003.out))) (Kd.R_lt (rN HO_619003.out))) (Kd.R_lt (rN HO_630003.out))) (below_size (bN HB.out)))
       have n6_ := m_ (blk_below (kN BK591.out) hb)
       have n7_ := m_ (blk_below (kN BK610.out) hb)
       have n8_ := m_ (blk_below (kN BK618.out) hb)
       have n9_ := m_ (blk_below (kN BK629.out) hb)
       have n10_ := m_ (below_step (bN HB.out) hb)
       clear HO_7
       clear HO_10
       clear HO_611003
       clear HO_619003
       clear HO_630003
       clear BK591
       clear BK610
       clear BK618
       clear BK629
       clear HB
       have HO_7 := n0_
       have HO_10 := n1_
       have HO_611003 := n2_
       have HO_619003 := n3_
       have HO_630003 := n4_
       have HO637 := n5_
       have BK591 := n6_
       have BK610 := n7_
       have BK618 := n8_
       have BK629 := n9_
       have HB := n10_
       clear n0_ n1_ n2_ n3_ n4_ n5_ n6_ n7_ n8_ n9_ n10_
       (try clear hb)
       (try clear hb2)
       (try clear hk)
       (try clear hi)
       (try clear ho0)
       obtain ⟨Ao70, co70, eo70⟩ := Kd.R_slice HO637.out
       (first | subst eo70 | (injection eo70 with f1_ f2_ f3_; have f4_ := f1_.symm; have f5_ := f3_.symm; clear f1_ f2_ f3_; subst f4_; subst f5_))
       refine hK.out _ _ ⟨bc BK618 0, bc BK618 1, bc BK618 2, bc BK618 3, bc BK618 4, bc BK591 0, bc BK591 1, bc BK591 2, bc BK591 3, bc BK591 4⟩ (fun hHeld => ?_)
       clear hK K
       refine np (h := ?_)
       refine one_ (i := 3) (N := some 52) #[true, true, true, true, false] rfl rfl (by kernel_rfl) (by decide) (fun K hK => ?_)
       refine goes_ Try.func22 (by kernel_rfl) rfl #[.agg #[.int .i64 t611, .int .i64 t612, .int .i64 t613, .slice Ao32 t614.length co32, .bool t617], .agg #[.int .i64 t632, .int .i64 t633, .int .i64 t634, .slice Ao70 t635.length co70, .bool t638]] (by rfl) rfl rfl gl_ ?_
       with_reducible refine (laws_eqFop.calls kj13 t611 t612 t613 _ _ t614 t617 t632 t633 t634 _ _ t635 t638 true _ ?side1 ?side2 ?side3 ?side4 A64.out).mono ?_
       (case side1 => exact cN (Kd.R_reads' HO_619003.out).2.2)
       (case side2 => exact (Kd.R_reads' HO_619003.out).2.1)
       (case side3 => exact cN (Kd.R_reads' HO637.out).2.2)
       (case side4 => exact (Kd.R_reads' HO637.out).2.1)
       rintro e w71 ⟨rfl, hb⟩
       refine ⟨_, rfl, ?_⟩
       have n0_ := m_ (Kd.R_below (rN HO_7.out) hb)
       have n1_ := m_ (Kd.R_below (rN HO_10.out) hb)
       have n2_ := m_ (Kd.R_below (rN HO_611003.out) hb)
       have n3_ := m_ (Kd.R_below (rN HO_619003.out) hb)
       have n4_ := m_ (Kd.R_below (rN HO_630003.out) hb)
       have n5_ := m_ (Kd.R_below (rN HO637.out) hb)
       have n6_ := m_ (blk_below (kN BK591.out) hb)
       have n7_ := m_ (blk_below (kN BK610.out) hb)
       have n8_ := m_ (blk_below (kN BK618.out) hb)
       have n9_ := m_ (blk_below (kN BK629.out) hb)
       have n10_ := m_ (below_step (bN HB.out) hb)
       clear HO_7
       clear HO_10
       clear HO_611003
       clear HO_619003
       clear HO_630003
       clear HO637
       clear BK591
       clear BK610
       clear BK618
       clear BK629
       clear HB
       have HO_7 := n0_
       have HO_10 := n1_
       have HO_611003 := n2_
       have HO_619003 := n3_
       have HO_630003 := n4_
       have HO637 := n5_
       have BK591 := n6_
       have BK610 := n7_
       have BK618 := n8_
       have BK629 := n9_
       have HB := n10_
       clear n0_ n1_ n2_ n3_ n4_ n5_ n6_ n7_ n8_ n9_ n10_
       (try clear hb)
       (try clear hb2)
       (try clear hk)
       (try clear hi)
       refine hK.out _ _ ⟨bc BK618 0, bc BK618 1, bc BK618 2, bc BK618 3, bc BK618 4, bc BK591 0, bc BK591 1, bc BK591 2, bc BK591 3, bc BK591 4⟩ (fun hHeld => ?_)
       clear hK K
       refine np (h := ?_)
       refine pure_ (i := 4) (N := some 53) (v := ?_) (a' := ?_) #[true, true, true, true, true] rfl rfl (by kernel_rfl) (fun _ _ _ h => h) (Or.inl ⟨by rfl, ?_⟩) ?_ ?_
       rotate_left
       ·intro w'
        go_simp
        with_reducible rfl
       rotate_left
       ·simp only [Act.put, List.setIfInBounds_toArray, List.set_cons_zero, List.set_cons_succ, i64_w, i32_w]
        rfl
       refine done_ (by kernel_rfl) ?_
       have hnb72 := NB618_591.out
       have hnc72 := NB591_618.out
       have hnb73 := NB618_610.out
       have hnc73 := NB610_618.out
       have hnb74 := NB618_629.out
       have hnc74 := NB629_618.out
       have hcz75_0 : w71.cell? ⟨gb618, 0, none⟩ = some (.int .i64 t611) := bc BK618 0
       have hcz75_1 : w71.cell? ⟨gb618, 1, none⟩ = some (.int .i64 t612) := bc BK618 1
       have hcz75_2 : w71.cell? ⟨gb618, 2, none⟩ = some (.int .i64 t613) := bc BK618 2
       have hcz75_3 : w71.cell? ⟨gb618, 3, none⟩ = some (.slice Ao32 t614.length co32) := bc BK618 3
       have hcz75_4 : w71.cell? ⟨gb618, 4, none⟩ = some (.bool t617) := bc BK618 4
       have hfz75_0 := blk_frozen BK618.out 0
       have hfz75_1 := blk_frozen BK618.out 1
       have hfz75_2 := blk_frozen BK618.out 2
       have hfz75_3 := blk_frozen BK618.out 3
       have hfz75_4 := blk_frozen BK618.out 4
       go_upto_region 16 with (first | ((with_reducible refine gate_callee (f := 23) rfl ?_); refine goesL_ (some 56) rfl rfl Try.func23 (by kernel_rfl) rfl #[.agg #[.int .i64 t611, .int .i64 t612, .int .i64 t613, .slice Ao32 t614.length co32, .bool t617], .int .i64 1] rfl gl_ ?_; (with_reducible refine (laws_markFop.calls kj13 t611 t612 t613 (fun k_ => some k_ = (.slice Ao32 t614.length co32 : Value).ownBlock) (.slice Ao32 t614.length co32) t614 t617 1 t640 t641 w _ ?side1 ?side2 A66.out).mono ?_); (case side1 => repeat (first | (with_reducible first | exact HB.out | apply below_alloc | apply pw_below_drewN | apply below_drew1 | refine below_set ?_ GE591.out | refine below_set ?_ GE610.out | refine below_set ?_ GE618.out | refine below_set ?_ GE629.out) | exact HB.out)); (case side2 => exact Kd.R_tight rfl HO_619003.out); rintro e w76 ⟨rfl, hy0, hb, hkp⟩; refine ⟨_, rfl, ?_⟩; have n0_ := m_ (Kd.R_mono (ok' := fun k_ => some k_ ≠ (v627 : Value).ownBlock) (Kd.R_keptB ((Kd.R_apart' HO_7.out (Kd.R_typed HO_619003.out) (by decide))) hkp (fun k_ hk_ hs_ => (hk_.2) hs_)) (fun k_ hk_ => hk_.1.1)); have n1_ := m_ (Kd.R_mono (ok' := fun k_ => some k_ ≠ (v608 : Value).ownBlock) (Kd.R_keptB ((Kd.R_apart' HO_10.out (Kd.R_typed HO_619003.out) (by decide))) hkp (fun k_ hk_ hs_ => (hk_.2) hs_)) (fun k_ hk_ => hk_.1.1)); have n2_ := m_ (Kd.R_mono (ok' := fun k_ => nb Ao32 t614.length co32 k_ ∧ nb Ao39 t622.length co39 k_ ∧ nb Ao70 t635.length co70 k_) (Kd.R_keptB (HO_611003.out) hkp (fun k_ hk_ hs_ => (hk_.1.1) hs_)) (fun k_ hk_ => ⟨hk_.1.1.1, hk_.1.1.2, hk_.1.2⟩)); have n3_ := m_ (Kd.R_reok rfl hy0 (fun k_ e_ => HO_619003.out.1 k_ e_)); have n4_ := m_ (Kd.R_mono (ok' := fun k_ => nb Ao25 t603.length co25 k_ ∧ nb Ao32 t614.length co32 k_ ∧ nb Ao70 t635.length co70 k_) (Kd.R_keptB (HO_630003.out) hkp (fun k_ hk_ hs_ => (hk_.1.2) hs_)) (fun k_ hk_ => ⟨hk_.1.1.1, hk_.1.1.2, hk_.1.2⟩)); have n5_ := m_ (blk_kept (kN BK591.out) hkp (fun hs_ => (fun e_ => (Kd.R_ne HO_619003.out BK591.out (by decide)) e_) hs_)); have n6_ := m_ (blk_kept (kN BK610.out) hkp (fun hs_ => (fun e_ => (Kd.R_ne HO_619003.out BK610.out (by decide)) e_) hs_)); have n7_ := m_ (blk_kept (kN BK618.out) hkp (fun hs_ => (fun e_ => (Kd.R_ne HO_619003.out BK618.out (by decide)) e_) hs_)); have n8_ := m_ (blk_kept (kN BK629.out) hkp (fun hs_ => (fun e_ => (Kd.R_ne HO_619003.out BK629.out (by decide)) e_) hs_)); have n9_ := m_ (Kd.R_mono (ok' := fun k_ => nb Ao25 t603.length co25 k_ ∧ nb Ao32 t614.length co32 k_ ∧ nb Ao39 t622.length co39 k_) (Kd.R_keptB (HO637.out) hkp (fun k_ hk_ hs_ => (hk_.1.2) hs_)) (fun k_ hk_ => ⟨hk_.1.1.1.2, hk_.1.1.2, hk_.1.2⟩)); have n10_ := m_ (hb); clear HO_7; clear HO_10; clear HO_611003; clear HO_619003; clear HO_630003; clear BK591; clear BK610; clear BK618; clear BK629; clear HO637; clear HB; have HO_7 := n0_; have HO_10 := n1_; have HO_611003 := n2_; have HO_619003 := n3_; have HO_630003 := n4_; have BK591 := n5_; have BK610 := n6_; have BK618 := n7_; have BK629 := n8_; have HO637 := n9_; have HB := n10_; clear n0_ n1_ n2_ n3_ n4_ n5_ n6_ n7_ n8_ n9_ n10_; (try clear hb); (try clear hkp); (try clear hy0)))
       (try simp only [Act.put, List.setIfInBounds_toArray, List.set_cons_zero, List.set_cons_succ])
       go_cut [70] (fun v70 wc => ∃ (kq : Nat) (x70_66 : Bool), v70 = .bool x70_66 ∧ Aside0 (laws_FnExactFopSend.j1 kq a1 t607 t626 x70_66 a0_0 a0_1 a0_2 l0_3 a0_4 t600 t601 t602 t603 t606 t619 t620 t621 t622 t625 = some r) ∧ Aside0 (kq ≤ kj13) ∧ Aside0 (Kd.R k35 35 wc w.heap.size (fun k_ => some k_ ≠ (v627 : Value).ownBlock) v608 t607) ∧ Aside0 (Kd.R k35 35 wc w.heap.size (fun k_ => some k_ ≠ (v608 : Value).ownBlock) v627 t626) ∧ Aside0 (Kd.R Kd.string 9 wc w.heap.size (fun k_ => some k_ ≠ ((.slice Ao32 t614.length co32) : Value).ownBlock ∧ some k_ ≠ ((.slice Ao39 t622.length co39) : Value).ownBlock) (.slice Ao25 t603.length co25) t603) ∧ Aside0 (Kd.R Kd.string 9 wc w.heap.size (fun k_ => some k_ ≠ ((.slice Ao25 t603.length co25) : Value).ownBlock ∧ some k_ ≠ ((.slice Ao39 t622.length co39) : Value).ownBlock) (.slice Ao32 t614.length co32) t641) ∧ Aside0 (Kd.R Kd.string 9 wc w.heap.size (fun k_ => some k_ ≠ ((.slice Ao25 t603.length co25) : Value).ownBlock ∧ some k_ ≠ ((.slice Ao32 t614.length co32) : Value).ownBlock) (.slice Ao39 t622.length co39) t622) ∧ Aside0 (wc.heap[gb591]? = some (.cells #[.int .i64 a0_0, .int .i64 a0_1, .int .i64 a0_2, (.slice A0_3 l0_3.length c0_3), .bool a0_4] 45 (0, 0))) ∧ Aside0 (wc.heap[gb610]? = some (.cells #[.int .i64 t600, .int .i64 t601, .int .i64 t602, (.slice Ao25 t603.length co25), .bool t606] 25 (0, 0))) ∧ Aside0 (wc.heap[gb618]? = some (.cells #[.int .i64 t611, .int .i64 t612, .int .i64 t613, (.slice Ao32 t614.length co32), .bool t617] 25 (0, 0))) ∧ Aside0 (wc.heap[gb629]? = some (.cells #[.int .i64 t619, .int .i64 t620, .int .i64 t621, (.slice Ao39 t622.length co39), .bool t625] 25 (0, 0))) ∧ Aside0 (Below w.heap.size w wc))
       case first =>
        have H := HC67.out
        clear HC67
        by_cases c77 : t640 < 0
        ·rw [if_pos c77] at H
         have c77b0 : decide (t640 < 0) = true := decide_eq_true c77
         clear c77
         (first | rw [c77b0] | (simp only [i64_w, i32_w]; rw [c77b0]) | skip)
         have H' := Aside0.mk H
         clear H
         go_wp2
         go_meet
         case rel => exact ⟨_, (true), (by first | rfl | (simp; done) | (simp [*]; done)), H', ⟨by have := HJ13.out; first | omega | exact Nat.le_refl _⟩, ⟨by (with_reducible repeat (first | apply Kd.R_alloc | apply Kd.R_drewN | apply Kd.R_drew)); exact HO_7.out⟩, ⟨by (with_reducible repeat (first | apply Kd.R_alloc | apply Kd.R_drewN | apply Kd.R_drew)); exact HO_10.out⟩, ⟨by (with_reducible repeat (first | apply Kd.R_alloc | apply Kd.R_drewN | apply Kd.R_drew)); exact Kd.R_mono HO_611003.out (fun _ hk => ⟨hk.1, hk.2.1⟩)⟩, ⟨by (with_reducible repeat (first | apply Kd.R_alloc | apply Kd.R_drewN | apply Kd.R_drew)); exact Kd.R_mono HO_619003.out (fun _ hk => ⟨hk.1.1, hk.1.2⟩)⟩, ⟨by (with_reducible repeat (first | apply Kd.R_alloc | apply Kd.R_drewN | apply Kd.R_drew)); exact Kd.R_mono HO_630003.out (fun _ hk => ⟨hk.1, hk.2.1⟩)⟩, ⟨kN BK591.out⟩, ⟨kN BK610.out⟩, ⟨kN BK618.out⟩, ⟨kN BK629.out⟩, ⟨by repeat (first | (with_reducible first | exact HB.out | apply below_alloc | apply pw_below_drewN | apply below_drew1 | refine below_set ?_ GE591.out | refine below_set ?_ GE610.out | refine below_set ?_ GE618.out | refine below_set ?_ GE629.out) | exact HB.out)⟩⟩
        ·rw [if_neg c77] at H
         have c77b0 : decide (t640 < 0) = false := decide_eq_false c77
         clear c77
         (first | rw [c77b0] | (simp only [i64_w, i32_w]; rw [c77b0]) | skip)
         replace H := Option.bind_eq_some_iff.mp H
         obtain ⟨t642, A780, H⟩ := H
         replace H : (if t642 = true then ((laws_eqFrameS.f kj13 t626 t607).bind fun t643 => (laws_FnExactFopSend.j1 kj13 a1 t607 t626 (!t643) a0_0 a0_1 a0_2 l0_3 a0_4 t600 t601 t602 t603 t606 t619 t620 t621 t622 t625)) else (laws_FnExactFopSend.j1 kj13 a1 t607 t626 true a0_0 a0_1 a0_2 l0_3 a0_4 t600 t601 t602 t603 t606 t619 t620 t621 t622 t625)) = some r := H
         have A78 := Aside0.mk A780
         clear A780
         by_cases c79 : t642 = true
         ·subst c79
          have H1 : ((laws_eqFrameS.f kj13 t626 t607).bind fun t643 => (laws_FnExactFopSend.j1 kj13 a1 t607 t626 (!t643) a0_0 a0_1 a0_2 l0_3 a0_4 t600 t601 t602 t603 t606 t619 t620 t621 t622 t625)) = some r := by rw [if_pos rfl] at H; exact H
          clear H
          have H := H1
          clear H1
          replace H := Option.bind_eq_some_iff.mp H
          obtain ⟨t643, A800, H⟩ := H
          replace H : (laws_FnExactFopSend.j1 kj13 a1 t607 t626 (!t643) a0_0 a0_1 a0_2 l0_3 a0_4 t600 t601 t602 t603 t606 t619 t620 t621 t622 t625) = some r := H
          have A80 := Aside0.mk A800
          clear A800
          have H' := Aside0.mk H
          clear H
          have hnb81 := NB629_591.out
          have hnc81 := NB591_629.out
          have hnb82 := NB629_610.out
          have hnc82 := NB610_629.out
          have hnb83 := NB629_618.out
          have hnc83 := NB618_629.out
          have hcz84_0 : w76.cell? ⟨gb629, 0, none⟩ = some (.int .i64 t619) := bc BK629 0
          have hcz84_1 : w76.cell? ⟨gb629, 1, none⟩ = some (.int .i64 t620) := bc BK629 1
          have hcz84_2 : w76.cell? ⟨gb629, 2, none⟩ = some (.int .i64 t621) := bc BK629 2
          have hcz84_3 : w76.cell? ⟨gb629, 3, none⟩ = some (.slice Ao39 t622.length co39) := bc BK629 3
          have hcz84_4 : w76.cell? ⟨gb629, 4, none⟩ = some (.bool t625) := bc BK629 4
          have hfz84_0 := blk_frozen BK629.out 0
          have hfz84_1 := blk_frozen BK629.out 1
          have hfz84_2 := blk_frozen BK629.out 2
          have hfz84_3 := blk_frozen BK629.out 3
          have hfz84_4 := blk_frozen BK629.out 4
          have hnb85 := NB610_591.out
          have hnc85 := NB591_610.out
          have hnb86 := NB610_618.out
          have hnc86 := NB618_610.out
          have hcz87_0 : w76.cell? ⟨gb610, 0, none⟩ = some (.int .i64 t600) := bc BK610 0
          have hcz87_1 : w76.cell? ⟨gb610, 1, none⟩ = some (.int .i64 t601) := bc BK610 1
          have hcz87_2 : w76.cell? ⟨gb610, 2, none⟩ = some (.int .i64 t602) := bc BK610 2
          have hcz87_3 : w76.cell? ⟨gb610, 3, none⟩ = some (.slice Ao25 t603.length co25) := bc BK610 3
          have hcz87_4 : w76.cell? ⟨gb610, 4, none⟩ = some (.bool t606) := bc BK610 4
          have hfz87_0 := blk_frozen BK610.out 0
          have hfz87_1 := blk_frozen BK610.out 1
          have hfz87_2 := blk_frozen BK610.out 2
          have hfz87_3 := blk_frozen BK610.out 3
          have hfz87_4 := blk_frozen BK610.out 4
          go_wp2_with (first | (go_at_call 22; (with_reducible refine (laws_eqFop.calls kj13 t619 t620 t621 _ _ t622 t625 t600 t601 t602 _ _ t603 t606 true _ ?side1 ?side2 ?side3 ?side4 A78.out).mono ?_); (case side1 => exact cN (Kd.R_reads' HO_630003.out).2.2); (case side2 => exact (Kd.R_reads' HO_630003.out).2.1); (case side3 => exact cN (Kd.R_reads' HO_611003.out).2.2); (case side4 => exact (Kd.R_reads' HO_611003.out).2.1); rintro e w88 ⟨rfl, hb⟩; have n0_ := m_ (Kd.R_below (rN HO_7.out) hb); have n1_ := m_ (Kd.R_below (rN HO_10.out) hb); have n2_ := m_ (Kd.R_below (rN HO_611003.out) hb); have n3_ := m_ (Kd.R_below (rN HO_619003.out) hb); have n4_ := m_ (Kd.R_below (rN HO_630003.out) hb); have n5_ := m_ (Kd.R_below (rN HO637.out) hb); have n6_ := m_ (blk_below (kN BK591.out) hb); have n7_ := m_ (blk_below (kN BK610.out) hb); have n8_ := m_ (blk_below (kN BK618.out) hb); have n9_ := m_ (blk_below (kN BK629.out) hb); have n10_ := m_ (below_step (bN HB.out) hb); clear HO_7; clear HO_10; clear HO_611003; clear HO_619003; clear HO_630003; clear HO637; clear BK591; clear BK610; clear BK618; clear BK629; clear HB; have HO_7 := n0_; have HO_10 := n1_; have HO_611003 := n2_; have HO_619003 := n3_; have HO_630003 := n4_; have HO637 := n5_; have BK591 := n6_; have BK610 := n7_; have BK618 := n8_; have BK629 := n9_; have HB := n10_; clear n0_ n1_ n2_ n3_ n4_ n5_ n6_ n7_ n8_ n9_ n10_; (try clear hb); (try clear hb2); (try clear hk); (try clear hi); obtain ⟨Ao89, co89, eo89⟩ := Kd.R_slice HO_10.out; subst eo89; obtain ⟨Ao90, co90, eo90⟩ := Kd.R_slice HO_7.out; subst eo90) | (go_at_call 25; (with_reducible refine (laws_eqFrameS.calls kj13 _ _ t626 _ _ t607 t643 _ ?side1 ?side2 ?side3 ?side4 A80.out).mono ?_); (case side1 => exact cN (Kd.R_reads' HO_10.out).2.2); (case side2 => exact (Kd.R_reads' HO_10.out).2.1); (case side3 => exact cN (Kd.R_reads' HO_7.out).2.2); (case side4 => exact (Kd.R_reads' HO_7.out).2.1); rintro e w91 ⟨rfl, hb⟩; have n0_ := m_ (Kd.R_below (rN HO_7.out) hb); have n1_ := m_ (Kd.R_below (rN HO_10.out) hb); have n2_ := m_ (Kd.R_below (rN HO_611003.out) hb); have n3_ := m_ (Kd.R_below (rN HO_619003.out) hb); have n4_ := m_ (Kd.R_below (rN HO_630003.out) hb); have n5_ := m_ (Kd.R_below (rN HO637.out) hb); have n6_ := m_ (blk_below (kN BK591.out) hb); have n7_ := m_ (blk_below (kN BK610.out) hb); have n8_ := m_ (blk_below (kN BK618.out) hb); have n9_ := m_ (blk_below (kN BK629.out) hb); have n10_ := m_ (below_step (bN HB.out) hb); clear HO_7; clear HO_10; clear HO_611003; clear HO_619003; clear HO_630003; clear HO637; clear BK591; clear BK610; clear BK618; clear BK629; clear HB; have HO_7 := n0_; have HO_10 := n1_; have HO_611003 := n2_; have HO_619003 := n3_; have HO_630003 := n4_; have HO637 := n5_; have BK591 := n6_; have BK610 := n7_; have BK618 := n8_; have BK629 := n9_; have HB := n10_; clear n0_ n1_ n2_ n3_ n4_ n5_ n6_ n7_ n8_ n9_ n10_; (try clear hb); (try clear hb2); (try clear hk); (try clear hi)))
          go_meet
          case rel => exact ⟨_, (!t643), (by first | rfl | (simp; done) | (simp [*]; done)), H', ⟨by have := HJ13.out; first | omega | exact Nat.le_refl _⟩, ⟨by (with_reducible repeat (first | apply Kd.R_alloc | apply Kd.R_drewN | apply Kd.R_drew)); exact HO_7.out⟩, ⟨by (with_reducible repeat (first | apply Kd.R_alloc | apply Kd.R_drewN | apply Kd.R_drew)); exact HO_10.out⟩, ⟨by (with_reducible repeat (first | apply Kd.R_alloc | apply Kd.R_drewN | apply Kd.R_drew)); exact Kd.R_mono HO_611003.out (fun _ hk => ⟨hk.1, hk.2.1⟩)⟩, ⟨by (with_reducible repeat (first | apply Kd.R_alloc | apply Kd.R_drewN | apply Kd.R_drew)); exact Kd.R_mono HO_619003.out (fun _ hk => ⟨hk.1.1, hk.1.2⟩)⟩, ⟨by (with_reducible repeat (first | apply Kd.R_alloc | apply Kd.R_drewN | apply Kd.R_drew)); exact Kd.R_mono HO_630003.out (fun _ hk => ⟨hk.1, hk.2.1⟩)⟩, ⟨kN BK591.out⟩, ⟨kN BK610.out⟩, ⟨kN BK618.out⟩, ⟨kN BK629.out⟩, ⟨by repeat (first | (with_reducible first | exact HB.out | apply below_alloc | apply pw_below_drewN | apply below_drew1 | refine below_set ?_ GE591.out | refine below_set ?_ GE610.out | refine below_set ?_ GE618.out | refine below_set ?_ GE629.out) | exact HB.out)⟩⟩
         ·replace c79 := Bool.eq_false_iff.mpr c79
          subst c79
          have H1 : (laws_FnExactFopSend.j1 kj13 a1 t607 t626 true a0_0 a0_1 a0_2 l0_3 a0_4 t600 t601 t602 t603 t606 t619 t620 t621 t622 t625) = some r := by rw [if_neg (show ¬ (false = true) by decide)] at H; exact H
          clear H
          have H := H1
          clear H1
          have H' := Aside0.mk H
          clear H
          have hnb92 := NB629_591.out
          have hnc92 := NB591_629.out
          have hnb93 := NB629_610.out
          have hnc93 := NB610_629.out
          have hnb94 := NB629_618.out
          have hnc94 := NB618_629.out
          have hcz95_0 : w76.cell? ⟨gb629, 0, none⟩ = some (.int .i64 t619) := bc BK629 0
          have hcz95_1 : w76.cell? ⟨gb629, 1, none⟩ = some (.int .i64 t620) := bc BK629 1
          have hcz95_2 : w76.cell? ⟨gb629, 2, none⟩ = some (.int .i64 t621) := bc BK629 2
          have hcz95_3 : w76.cell? ⟨gb629, 3, none⟩ = some (.slice Ao39 t622.length co39) := bc BK629 3
          have hcz95_4 : w76.cell? ⟨gb629, 4, none⟩ = some (.bool t625) := bc BK629 4
          have hfz95_0 := blk_frozen BK629.out 0
          have hfz95_1 := blk_frozen BK629.out 1
          have hfz95_2 := blk_frozen BK629.out 2
          have hfz95_3 := blk_frozen BK629.out 3
          have hfz95_4 := blk_frozen BK629.out 4
          have hnb96 := NB610_591.out
          have hnc96 := NB591_610.out
          have hnb97 := NB610_618.out
          have hnc97 := NB618_610.out
          have hcz98_0 : w76.cell? ⟨gb610, 0, none⟩ = some (.int .i64 t600) := bc BK610 0
          have hcz98_1 : w76.cell? ⟨gb610, 1, none⟩ = some (.int .i64 t601) := bc BK610 1
          have hcz98_2 : w76.cell? ⟨gb610, 2, none⟩ = some (.int .i64 t602) := bc BK610 2
          have hcz98_3 : w76.cell? ⟨gb610, 3, none⟩ = some (.slice Ao25 t603.length co25) := bc BK610 3
          have hcz98_4 : w76.cell? ⟨gb610, 4, none⟩ = some (.bool t606) := bc BK610 4
          have hfz98_0 := blk_frozen BK610.out 0
          have hfz98_1 := blk_frozen BK610.out 1
          have hfz98_2 := blk_frozen BK610.out 2
          have hfz98_3 := blk_frozen BK610.out 3
          have hfz98_4 := blk_frozen BK610.out 4
          go_wp2_with (first | (go_at_call 22; (with_reducible refine (laws_eqFop.calls kj13 t619 t620 t621 _ _ t622 t625 t600 t601 t602 _ _ t603 t606 false _ ?side1 ?side2 ?side3 ?side4 A78.out).mono ?_); (case side1 => exact cN (Kd.R_reads' HO_630003.out).2.2); (case side2 => exact (Kd.R_reads' HO_630003.out).2.1); (case side3 => exact cN (Kd.R_reads' HO_611003.out).2.2); (case side4 => exact (Kd.R_reads' HO_611003.out).2.1); rintro e w99 ⟨rfl, hb⟩; have n0_ := m_ (Kd.R_below (rN HO_7.out) hb); have n1_ := m_ (Kd.R_below (rN HO_10.out) hb); have n2_ := m_ (Kd.R_below (rN HO_611003.out) hb); have n3_ := m_ (Kd.R_below (rN HO_619003.out) hb); have n4_ := m_ (Kd.R_below (rN HO_630003.out) hb); have n5_ := m_ (Kd.R_below (rN HO637.out) hb); have n6_ := m_ (blk_below (kN BK591.out) hb); have n7_ := m_ (blk_below (kN BK610.out) hb); have n8_ := m_ (blk_below (kN BK618.out) hb); have n9_ := m_ (blk_below (kN BK629.out) hb); have n10_ := m_ (below_step (bN HB.out) hb); clear HO_7; clear HO_10; clear HO_611003; clear HO_619003; clear HO_630003; clear HO637; clear BK591; clear BK610; clear BK618; clear BK629; clear HB; have HO_7 := n0_; have HO_10 := n1_; have HO_611003 := n2_; have HO_619003 := n3_; have HO_630003 := n4_; have HO637 := n5_; have BK591 := n6_; have BK610 := n7_; have BK618 := n8_; have BK629 := n9_; have HB := n10_; clear n0_ n1_ n2_ n3_ n4_ n5_ n6_ n7_ n8_ n9_ n10_; (try clear hb); (try clear hb2); (try clear hk); (try clear hi)))
          go_meet
          case rel => exact ⟨_, (true), (by first | rfl | (simp; done) | (simp [*]; done)), H', ⟨by have := HJ13.out; first | omega | exact Nat.le_refl _⟩, ⟨by (with_reducible repeat (first | apply Kd.R_alloc | apply Kd.R_drewN | apply Kd.R_drew)); exact HO_7.out⟩, ⟨by (with_reducible repeat (first | apply Kd.R_alloc | apply Kd.R_drewN | apply Kd.R_drew)); exact HO_10.out⟩, ⟨by (with_reducible repeat (first | apply Kd.R_alloc | apply Kd.R_drewN | apply Kd.R_drew)); exact Kd.R_mono HO_611003.out (fun _ hk => ⟨hk.1, hk.2.1⟩)⟩, ⟨by (with_reducible repeat (first | apply Kd.R_alloc | apply Kd.R_drewN | apply Kd.R_drew)); exact Kd.R_mono HO_619003.out (fun _ hk => ⟨hk.1.1, hk.1.2⟩)⟩, ⟨by (with_reducible repeat (first | apply Kd.R_alloc | apply Kd.R_drewN | apply Kd.R_drew)); exact Kd.R_mono HO_630003.out (fun _ hk => ⟨hk.1, hk.2.1⟩)⟩, ⟨kN BK591.out⟩, ⟨kN BK610.out⟩, ⟨kN BK618.out⟩, ⟨kN BK629.out⟩, ⟨by repeat (first | (with_reducible first | exact HB.out | apply below_alloc | apply pw_below_drewN | apply below_drew1 | refine below_set ?_ GE591.out | refine below_set ?_ GE610.out | refine below_set ?_ GE618.out | refine below_set ?_ GE629.out) | exact HB.out)⟩⟩
       case rest =>
        clear HC67
        try clear c1
        try clear c2
        try clear p2
        try clear c3
        try clear c3b0
        try clear c3b1
        try clear c4
        try clear c5
        try clear c6
        try clear c6b0
        try clear c7
        try clear c8
        try clear c9
        try clear c19
        try clear c20
        try clear c22
        try clear c23
        try clear c29
        try clear c30
        try clear c35
        try clear c36
        try clear c37
        try clear c41
        try clear c43
        try clear c44
        try clear c45
        try clear c47
        try clear c48
        try clear c54
        try clear c55
        try clear c56
        try clear c58
        try clear c59
        try clear c62
        try clear c65
        try clear c72
        try clear c73
        try clear c74
        try clear c77
        try clear c77b0
        try clear c79
        try clear c81
        try clear c82
        try clear c83
        try clear c85
        try clear c86
        try clear c92
        try clear c93
        try clear c94
        try clear c96
        try clear c97
        try clear hcz16_0
        try clear hcz16_1
        try clear hcz16_2
        try clear hcz16_3
        try clear hcz16_4
        try clear hcz18_0
        try clear hcz18_1
        try clear hcz18_2
        try clear hcz18_3
        try clear hcz18_4
        try clear hcz24_0
        try clear hcz24_1
        try clear hcz24_2
        try clear hcz24_3
        try clear hcz24_4
        try clear hcz26_0
        try clear hcz26_1
        try clear hcz26_2
        try clear hcz26_3
        try clear hcz26_4
        try clear hcz31_0
        try clear hcz31_1
        try clear hcz31_2
        try clear hcz31_3
        try clear hcz31_4
        try clear hcz38_0
        try clear hcz38_1
        try clear hcz38_2
        try clear hcz38_3
        try clear hcz38_4
        try clear hcz46_0
        try clear hcz46_1
        try clear hcz46_2
        try clear hcz46_3
        try clear hcz46_4
        try clear hcz49_0
        try clear hcz49_1
        try clear hcz49_2
        try clear hcz49_3
        try clear hcz49_4
        try clear hcz57_0
        try clear hcz57_1
        try clear hcz57_2
        try clear hcz57_3
        try clear hcz57_4
        try clear hcz60_0
        try clear hcz60_1
        try clear hcz60_2
        try clear hcz60_3
        try clear hcz60_4
        try clear hcz75_0
        try clear hcz75_1
        try clear hcz75_2
        try clear hcz75_3
        try clear hcz75_4
        try clear hcz84_0
        try clear hcz84_1
        try clear hcz84_2
        try clear hcz84_3
        try clear hcz84_4
        try clear hcz87_0
        try clear hcz87_1
        try clear hcz87_2
        try clear hcz87_3
        try clear hcz87_4
        try clear hcz8_0
        try clear hcz8_1
        try clear hcz8_2
        try clear hcz8_3
        try clear hcz8_4
        try clear hcz95_0
        try clear hcz95_1
        try clear hcz95_2
        try clear hcz95_3
        try clear hcz95_4
        try clear hcz98_0
        try clear hcz98_1
        try clear hcz98_2
        try clear hcz98_3
        try clear hcz98_4
        try clear hfz16_0
        try clear hfz16_1
        try clear hfz16_2
        try clear hfz16_3
        try clear hfz16_4
        try clear hfz18_0
        try clear hfz18_1
        try clear hfz18_2
        try clear hfz18_3
        try clear hfz18_4
        try clear hfz24_0
        try clear hfz24_1
        try clear hfz24_2
        try clear hfz24_3
        try clear hfz24_4
        try clear hfz26_0
        try clear hfz26_1
        try clear hfz26_2
        try clear hfz26_3
        try clear hfz26_4
        try clear hfz31_0
        try clear hfz31_1
        try clear hfz31_2
        try clear hfz31_3
        try clear hfz31_4
        try clear hfz38_0
        try clear hfz38_1
        try clear hfz38_2
        try clear hfz38_3
        try clear hfz38_4
        try clear hfz46_0
        try clear hfz46_1
        try clear hfz46_2
        try clear hfz46_3
        try clear hfz46_4
        try clear hfz49_0
        try clear hfz49_1
        try clear hfz49_2
        try clear hfz49_3
        try clear hfz49_4
        try clear hfz57_0
        try clear hfz57_1
        try clear hfz57_2
        try clear hfz57_3
        try clear hfz57_4
        try clear hfz60_0
        try clear hfz60_1
        try clear hfz60_2
        try clear hfz60_3
        try clear hfz60_4
        try clear hfz75_0
        try clear hfz75_1
        try clear hfz75_2
        try clear hfz75_3
        try clear hfz75_4
        try clear hfz84_0
        try clear hfz84_1
        try clear hfz84_2
        try clear hfz84_3
        try clear hfz84_4
        try clear hfz87_0
        try clear hfz87_1
        try clear hfz87_2
        try clear hfz87_3
        try clear hfz87_4
        try clear hfz8_0
        try clear hfz8_1
        try clear hfz8_2
        try clear hfz8_3
        try clear hfz8_4
        try clear hfz95_0
        try clear hfz95_1
        try clear hfz95_2
        try clear hfz95_3
        try clear hfz95_4
        try clear hfz98_0
        try clear hfz98_1
        try clear hfz98_2
        try clear hfz98_3
        try clear hfz98_4
        try clear p2
        obtain ⟨kq, x70_66, rfl, HA, HJ66, HO_7, HO_10, HO_611003, HO_619003, HO_630003, BK591, BK610, BK618, BK629, HB⟩ := hcut
        have hl619003_66 := (Kd.R_reads' HO_619003.out).1
        rw [hl619003_66] at HO_619003
        (try simp only [hl619003_66])
        (try simp only [hl619003_66] at BK591)
        (try simp only [hl619003_66] at BK610)
        (try simp only [hl619003_66] at BK618)
        (try simp only [hl619003_66] at BK629)
        (try simp only [hl619003_66] at HO_7)
        (try simp only [hl619003_66] at HO_10)
        (try simp only [hl619003_66] at HO_611003)
        (try simp only [hl619003_66] at HO_630003)
        cases kq with
        | zero => exact absurd HA.out (by simp [laws_FnExactFopSend.j1])
        | succ kj66 =>
         have H := HA.out
         clear HA
         simp only [laws_FnExactFopSend.j1] at H
         by_cases c100 : x70_66 = true
         ·subst c100
          have H1 : (some false) = some r := by rw [if_pos rfl] at H; exact H
          clear H
          have H := H1
          clear H1
          obtain rfl := Option.some.inj H
          go_wp2
          go_ret
          exact ⟨by first | rfl | (simp [errW_none, errW_some] <;> rfl) | (simp [*, errW_none, errW_some] <;> rfl), by repeat (first | (with_reducible first | exact HB.out | apply below_alloc | apply pw_below_drewN | apply below_drew1 | refine below_set ?_ GE591.out | refine below_set ?_ GE610.out | refine below_set ?_ GE618.out | refine below_set ?_ GE629.out) | exact HB.out)⟩
         ·replace c100 := Bool.eq_false_iff.mpr c100
          subst c100
          have H1 : ((laws_markFop.f kj66 t619 t620 t621 t622 t625 1).bind fun bt644 => ((laws_markFrameS.f kj66 t626 bt644.1).bind fun bt646 => ((laws_heldFop.f kj66 t619 t620 t621 bt644.2 t625 1).bind fun t648 => (if t648 < 0 then (some false) else ((laws_heldFrameS.f kj66 bt646.2 t648).bind fun t649 => (if t649 < 0 then (some false) else (if t649 = bt646.1 then ((laws_toFop.f kj66 a0_0 a0_1 a0_2 l0_3 a0_4).bind fun bt650 => ((impl_FopSend.f kj66 bt650.1 bt650.2.1 bt650.2.2.1 bt650.2.2.2.1 bt650.2.2.2.2 a1).bind fun bt657 => ((laws_eqFop.f kj66 bt657.1 bt657.2.1 bt657.2.2.1 bt657.2.2.2.1 bt657.2.2.2.2.1 t600 t601 t602 t603 t606).bind fun t668 => (if t668 = true then ((laws_eqFrameS.f kj66 bt657.2.2.2.2.2 t607).bind fun t669 => (laws_FnExactFopSend.j2 kj66 bt646.2 bt646.1 (!t669) t619 t620 t621 bt644.2 t625)) else (laws_FnExactFopSend.j2 kj66 bt646.2 bt646.1 true t619 t620 t621 bt644.2 t625))))) else (some false)))))))) = some r := by rw [if_neg (show ¬ (false = true) by decide)] at H; exact H
          clear H
          have H := H1
          clear H1
          replace H := Option.bind_eq_some_iff.mp H
          obtain ⟨⟨t644, t645⟩, A1010, H⟩ := H
          replace H : ((laws_markFrameS.f kj66 t626 t644).bind fun bt646 => ((laws_heldFop.f kj66 t619 t620 t621 t645 t625 1).bind fun t648 => (if t648 < 0 then (some false) else ((laws_heldFrameS.f kj66 bt646.2 t648).bind fun t649 => (if t649 < 0 then (some false) else (if t649 = bt646.1 then ((laws_toFop.f kj66 a0_0 a0_1 a0_2 l0_3 a0_4).bind fun bt650 => ((impl_FopSend.f kj66 bt650.1 bt650.2.1 bt650.2.2.1 bt650.2.2.2.1 bt650.2.2.2.2 a1).bind fun bt657 => ((laws_eqFop.f kj66 bt657.1 bt657.2.1 bt657.2.2.1 bt657.2.2.2.1 bt657.2.2.2.2.1 t600 t601 t602 t603 t606).bind fun t668 => (if t668 = true then ((laws_eqFrameS.f kj66 bt657.2.2.2.2.2 t607).bind fun t669 => (laws_FnExactFopSend.j2 kj66 bt646.2 bt646.1 (!t669) t619 t620 t621 t645 t625)) else (laws_FnExactFopSend.j2 kj66 bt646.2 bt646.1 true t619 t620 t621 t645 t625))))) else (some false))))))) = some r := H
          have A101 := Aside0.mk A1010
          clear A1010
          replace H := Option.bind_eq_some_iff.mp H
          obtain ⟨⟨t646, t647⟩, A1020, H⟩ := H
          replace H : ((laws_heldFop.f kj66 t619 t620 t621 t645 t625 1).bind fun t648 => (if t648 < 0 then (some false) else ((laws_heldFrameS.f kj66 t647 t648).bind fun t649 => (if t649 < 0 then (some false) else (if t649 = t646 then ((laws_toFop.f kj66 a0_0 a0_1 a0_2 l0_3 a0_4).bind fun bt650 => ((impl_FopSend.f kj66 bt650.1 bt650.2.1 bt650.2.2.1 bt650.2.2.2.1 bt650.2.2.2.2 a1).bind fun bt657 => ((laws_eqFop.f kj66 bt657.1 bt657.2.1 bt657.2.2.1 bt657.2.2.2.1 bt657.2.2.2.2.1 t600 t601 t602 t603 t606).bind fun t668 => (if t668 = true then ((laws_eqFrameS.f kj66 bt657.2.2.2.2.2 t607).bind fun t669 => (laws_FnExactFopSend.j2 kj66 t647 t646 (!t669) t619 t620 t621 t645 t625)) else (laws_FnExactFopSend.j2 kj66 t647 t646 true t619 t620 t621 t645 t625))))) else (some false)))))) = some r := H
          have A102 := Aside0.mk A1020
          clear A1020
          replace H := Option.bind_eq_some_iff.mp H
          obtain ⟨t648, A1030, H⟩ := H
          replace H : (if t648 < 0 then (some false) else ((laws_heldFrameS.f kj66 t647 t648).bind fun t649 => (if t649 < 0 then (some false) else (if t649 = t646 then ((laws_toFop.f kj66 a0_0 a0_1 a0_2 l0_3 a0_4).bind fun bt650 => ((impl_FopSend.f kj66 bt650.1 bt650.2.1 bt650.2.2.1 bt650.2.2.2.1 bt650.2.2.2.2 a1).bind fun bt657 => ((laws_eqFop.f kj66 bt657.1 bt657.2.1 bt657.2.2.1 bt657.2.2.2.1 bt657.2.2.2.2.1 t600 t601 t602 t603 t606).bind fun t668 => (if t668 = true then ((laws_eqFrameS.f kj66 bt657.2.2.2.2.2 t607).bind fun t669 => (laws_FnExactFopSend.j2 kj66 t647 t646 (!t669) t619 t620 t621 t645 t625)) else (laws_FnExactFopSend.j2 kj66 t647 t646 true t619 t620 t621 t645 t625))))) else (some false))))) = some r := H
          have A103 := Aside0.mk A1030
          clear A1030
          by_cases c104 : t648 < 0
          ·rw [if_pos c104] at H
           have c104b0 : decide (t648 < 0) = true := decide_eq_true c104
           clear c104
           obtain rfl := Option.some.inj H
           have hnb105 := NB629_591.out
           have hnc105 := NB591_629.out
           have hnb106 := NB629_610.out
           have hnc106 := NB610_629.out
           have hnb107 := NB629_618.out
           have hnc107 := NB618_629.out
           have hcz108_0 : wc.cell? ⟨gb629, 0, none⟩ = some (.int .i64 t619) := bc BK629 0
           have hcz108_1 : wc.cell? ⟨gb629, 1, none⟩ = some (.int .i64 t620) := bc BK629 1
           have hcz108_2 : wc.cell? ⟨gb629, 2, none⟩ = some (.int .i64 t621) := bc BK629 2
           have hcz108_3 : wc.cell? ⟨gb629, 3, none⟩ = some (.slice Ao39 t622.length co39) := bc BK629 3
           have hcz108_4 : wc.cell? ⟨gb629, 4, none⟩ = some (.bool t625) := bc BK629 4
           have hfz108_0 := blk_frozen BK629.out 0
           have hfz108_1 := blk_frozen BK629.out 1
           have hfz108_2 := blk_frozen BK629.out 2
           have hfz108_3 := blk_frozen BK629.out 3
           have hfz108_4 := blk_frozen BK629.out 4
           go_wp2_with (first | ((with_reducible refine gate_callee (f := 23) rfl ?_); refine goesL_ (some 73) rfl rfl Try.func23 (by kernel_rfl) rfl #[.agg #[.int .i64 t619, .int .i64 t620, .int .i64 t621, .slice Ao39 t622.length co39, .bool t625], .int .i64 1] rfl gl_ ?_; (with_reducible refine (laws_markFop.calls kj66 t619 t620 t621 (fun k_ => some k_ = (.slice Ao39 t622.length co39 : Value).ownBlock) (.slice Ao39 t622.length co39) t622 t625 1 t644 t645 w _ ?side1 ?side2 A101.out).mono ?_); (case side1 => repeat (first | (with_reducible first | exact HB.out | apply below_alloc | apply pw_below_drewN | apply below_drew1 | refine below_set ?_ GE591.out | refine below_set ?_ GE610.out | refine below_set ?_ GE618.out | refine below_set ?_ GE629.out) | exact HB.out)); (case side2 => exact Kd.R_tight rfl HO_630003.out); rintro e w109 ⟨rfl, hy0, hb, hkp⟩; refine ⟨_, rfl, ?_⟩; have n0_ := m_ (Kd.R_mono (ok' := fun k_ => some k_ ≠ (v627 : Value).ownBlock) (Kd.R_keptB ((Kd.R_apart' HO_7.out (Kd.R_typed HO_630003.out) (by decide))) hkp (fun k_ hk_ hs_ => (hk_.2) hs_)) (fun k_ hk_ => hk_.1.1)); have n1_ := m_ (Kd.R_mono (ok' := fun k_ => some k_ ≠ (v608 : Value).ownBlock) (Kd.R_keptB ((Kd.R_apart' HO_10.out (Kd.R_typed HO_630003.out) (by decide))) hkp (fun k_ hk_ hs_ => (hk_.2) hs_)) (fun k_ hk_ => hk_.1.1)); have n2_ := m_ (Kd.R_mono (ok' := fun k_ => nb Ao32 t641.length co32 k_ ∧ nb Ao39 t622.length co39 k_) (Kd.R_keptB (HO_611003.out) hkp (fun k_ hk_ hs_ => (hk_.2) hs_)) (fun k_ hk_ => ⟨hk_.1.1, hk_.1.2⟩)); have n3_ := m_ (Kd.R_mono (ok' := fun k_ => nb Ao25 t603.length co25 k_ ∧ nb Ao39 t622.length co39 k_) (Kd.R_keptB (HO_619003.out) hkp (fun k_ hk_ hs_ => (hk_.2) hs_)) (fun k_ hk_ => ⟨hk_.1.1, hk_.1.2⟩)); have n4_ := m_ (Kd.R_reok rfl hy0 (fun k_ e_ => HO_630003.out.1 k_ e_)); have n5_ := m_ (blk_kept (kN BK591.out) hkp (fun hs_ => (fun e_ => (Kd.R_ne HO_630003.out BK591.out (by decide)) e_) hs_)); have n6_ := m_ (blk_kept (kN BK610.out) hkp (fun hs_ => (fun e_ => (Kd.R_ne HO_630003.out BK610.out (by decide)) e_) hs_)); have n7_ := m_ (blk_kept (kN BK618.out) hkp (fun hs_ => (fun e_ => (Kd.R_ne HO_630003.out BK618.out (by decide)) e_) hs_)); have n8_ := m_ (blk_kept (kN BK629.out) hkp (fun hs_ => (fun e_ => (Kd.R_ne HO_630003.out BK629.out (by decide)) e_) hs_)); have n9_ := m_ (hb); clear HO_7; clear HO_10; clear HO_611003; clear HO_619003; clear HO_630003; clear BK591; clear BK610; clear BK618; clear BK629; clear HB; have HO_7 := n0_; have HO_10 := n1_; have HO_611003 := n2_; have HO_619003 := n3_; have HO_630003 := n4_; have BK591 := n5_; have BK610 := n6_; have BK618 := n7_; have BK629 := n8_; have HB := n9_; clear n0_ n1_ n2_ n3_ n4_ n5_ n6_ n7_ n8_ n9_; (try clear hb); (try clear hkp); (try clear hy0); obtain ⟨Ao110, co110, eo110⟩ := Kd.R_slice HO_10.out; subst eo110) | ((with_reducible refine gate_callee (f := 26) rfl ?_); refine goesL_ (some 76) rfl rfl Try.func26 (by kernel_rfl) rfl #[.slice Ao110 t626.length co110, .int .i64 t644] rfl gl_ ?_; (with_reducible refine (laws_markFrameS.calls kj66 (fun k_ => some k_ = (.slice Ao110 t626.length co110 : Value).ownBlock) (.slice Ao110 t626.length co110) t626 t644 t646 t647 w _ ?side1 ?side2 A102.out).mono ?_); (case side1 => repeat (first | (with_reducible first | exact HB.out | apply below_alloc | apply pw_below_drewN | apply below_drew1 | refine below_set ?_ GE591.out | refine below_set ?_ GE610.out | refine below_set ?_ GE618.out | refine below_set ?_ GE629.out) | exact HB.out)); (case side2 => exact Kd.R_tight rfl HO_10.out); rintro e w111 ⟨rfl, hy0, hb, hkp⟩; refine ⟨_, rfl, ?_⟩; have n0_ := m_ (Kd.R_mono (ok' := fun k_ => nb Ao110 t626.length co110 k_) (Kd.R_keptB (HO_7.out) hkp (fun k_ hk_ hs_ => (hk_) hs_)) (fun k_ hk_ => hk_.1)); have n1_ := m_ (Kd.R_reok rfl hy0 (fun k_ e_ => HO_10.out.1 k_ e_)); have n2_ := m_ (Kd.R_mono (ok' := fun k_ => nb Ao32 t641.length co32 k_ ∧ nb Ao39 t622.length co39 k_) (Kd.R_keptB ((Kd.R_apart' HO_611003.out (Kd.R_typed HO_10.out) (by decide))) hkp (fun k_ hk_ hs_ => (hk_.2) hs_)) (fun k_ hk_ => ⟨hk_.1.1.1, hk_.1.1.2⟩)); have n3_ := m_ (Kd.R_mono (ok' := fun k_ => nb Ao25 t603.length co25 k_ ∧ nb Ao39 t622.length co39 k_) (Kd.R_keptB ((Kd.R_apart' HO_619003.out (Kd.R_typed HO_10.out) (by decide))) hkp (fun k_ hk_ hs_ => (hk_.2) hs_)) (fun k_ hk_ => ⟨hk_.1.1.1, hk_.1.1.2⟩)); have n4_ := m_ (Kd.R_mono (ok' := fun k_ => nb Ao25 t603.length co25 k_ ∧ nb Ao32 t641.length co32 k_) (Kd.R_keptB ((Kd.R_apart' HO_630003.out (Kd.R_typed HO_10.out) (by decide))) hkp (fun k_ hk_ hs_ => (hk_.2) hs_)) (fun k_ hk_ => ⟨hk_.1.1.1, hk_.1.1.2⟩)); have n5_ := m_ (blk_kept (kN BK591.out) hkp (fun hs_ => (fun e_ => (Kd.R_ne HO_10.out BK591.out (by decide)) e_) hs_)); have n6_ := m_ (blk_kept (kN BK610.out) hkp (fun hs_ => (fun e_ => (Kd.R_ne HO_10.out BK610.out (by decide)) e_) hs_)); have n7_ := m_ (blk_kept (kN BK618.out) hkp (fun hs_ => (fun e_ => (Kd.R_ne HO_10.out BK618.out (by decide)) e_) hs_)); have n8_ := m_ (blk_kept (kN BK629.out) hkp (fun hs_ => (fun e_ => (Kd.R_ne HO_10.out BK629.out (by decide)) e_) hs_)); have n9_ := m_ (hb); clear HO_7; clear HO_10; clear HO_611003; clear HO_619003; clear HO_630003; clear BK591; clear BK610; clear BK618; clear BK629; clear HB; have HO_7 := n0_; have HO_10 := n1_; have HO_611003 := n2_; have HO_619003 := n3_; have HO_630003 := n4_; have BK591 := n5_; have BK610 := n6_; have BK618 := n7_; have BK629 := n8_; have HB := n9_; clear n0_ n1_ n2_ n3_ n4_ n5_ n6_ n7_ n8_ n9_; (try clear hb); (try clear hkp); (try clear hy0); have hcz112_0 : w111.cell? ⟨gb629, 0, none⟩ = some (.int .i64 t619) := bc BK629 0; have hcz112_1 : w111.cell? ⟨gb629, 1, none⟩ = some (.int .i64 t620) := bc BK629 1; have hcz112_2 : w111.cell? ⟨gb629, 2, none⟩ = some (.int .i64 t621) := bc BK629 2; have hcz112_3 : w111.cell? ⟨gb629, 3, none⟩ = some (.slice Ao39 t622.length co39) := bc BK629 3; have hcz112_4 : w111.cell? ⟨gb629, 4, none⟩ = some (.bool t625) := bc BK629 4; have hfz112_0 := blk_frozen BK629.out 0; have hfz112_1 := blk_frozen BK629.out 1; have hfz112_2 := blk_frozen BK629.out 2; have hfz112_3 := blk_frozen BK629.out 3; have hfz112_4 := blk_frozen BK629.out 4) | ((with_reducible refine gate_callee (f := 24) rfl ?_); refine goesL_ (some 79) rfl rfl Try.func24 (by kernel_rfl) rfl #[.agg #[.int .i64 t619, .int .i64 t620, .int .i64 t621, .slice Ao39 t645.length co39, .bool t625], .int .i64 1] rfl (by (try simp only [List.map_toArray, List.map_cons, List.map_nil]); first | done | (rw [show t645.length = t622.length from (Kd.R_reads' HO_630003.out).1.symm] <;> rfl) | rfl | (simp only [List.length_drop, List.length_take]; rfl)) ?_; (with_reducible refine (laws_heldFop.calls kj66 t619 t620 t621 _ _ t645 t625 1 t648 _ ?side1 ?side2 A103.out).mono ?_); (case side1 => exact cN (Kd.R_reads' HO_630003.out).2.2); (case side2 => rw [show t645.length = t622.length from (Kd.R_reads' HO_630003.out).1.symm]; exact (Kd.R_reads' HO_630003.out).2.1); rintro e w113 ⟨rfl, hb⟩; refine ⟨_, rfl, ?_⟩; have n0_ := m_ (Kd.R_below (rN HO_7.out) hb); have n1_ := m_ (Kd.R_below (rN HO_10.out) hb); have n2_ := m_ (Kd.R_below (rN HO_611003.out) hb); have n3_ := m_ (Kd.R_below (rN HO_619003.out) hb); have n4_ := m_ (Kd.R_below (rN HO_630003.out) hb); have n5_ := m_ (blk_below (kN BK591.out) hb); have n6_ := m_ (blk_below (kN BK610.out) hb); have n7_ := m_ (blk_below (kN BK618.out) hb); have n8_ := m_ (blk_below (kN BK629.out) hb); have n9_ := m_ (below_step (bN HB.out) hb); clear HO_7; clear HO_10; clear HO_611003; clear HO_619003; clear HO_630003; clear BK591; clear BK610; clear BK618; clear BK629; clear HB; have HO_7 := n0_; have HO_10 := n1_; have HO_611003 := n2_; have HO_619003 := n3_; have HO_630003 := n4_; have BK591 := n5_; have BK610 := n6_; have BK618 := n7_; have BK629 := n8_; have HB := n9_; clear n0_ n1_ n2_ n3_ n4_ n5_ n6_ n7_ n8_ n9_; (try clear hb); (try clear hb2); (try clear hk); (try clear hi)))
           go_ret
           exact ⟨by first | rfl | (simp [errW_none, errW_some] <;> rfl) | (simp [*, errW_none, errW_some] <;> rfl), by repeat (first | (with_reducible first | exact HB.out | apply below_alloc | apply pw_below_drewN | apply below_drew1 | refine below_set ?_ GE591.out | refine below_set ?_ GE610.out | refine below_set ?_ GE618.out | refine below_set ?_ GE629.out) | exact HB.out)⟩
          ·rw [if_neg c104] at H
           have c104b0 : decide (t648 < 0) = false := decide_eq_false c104
           clear c104
           replace H := Option.bind_eq_some_iff.mp H
           obtain ⟨t649, A1140, H⟩ := H
           replace H : (if t649 < 0 then (some false) else (if t649 = t646 then ((laws_toFop.f kj66 a0_0 a0_1 a0_2 l0_3 a0_4).bind fun bt650 => ((impl_FopSend.f kj66 bt650.1 bt650.2.1 bt650.2.2.1 bt650.2.2.2.1 bt650.2.2.2.2 a1).bind fun bt657 => ((laws_eqFop.f kj66 bt657.1 bt657.2.1 bt657.2.2.1 bt657.2.2.2.1 bt657.2.2.2.2.1 t600 t601 t602 t603 t606).bind fun t668 => (if t668 = true then ((laws_eqFrameS.f kj66 bt657.2.2.2.2.2 t607).bind fun t669 => (laws_FnExactFopSend.j2 kj66 t647 t646 (!t669) t619 t620 t621 t645 t625)) else (laws_FnExactFopSend.j2 kj66 t647 t646 true t619 t620 t621 t645 t625))))) else (some false))) = some r := H
           have A114 := Aside0.mk A1140
           clear A1140
           by_cases c115 : t649 < 0
           ·rw [if_pos c115] at H
            have c115b0 : decide (t649 < 0) = true := decide_eq_true c115
            clear c115
            obtain rfl := Option.some.inj H
            have hnb116 := NB629_591.out
            have hnc116 := NB591_629.out
            have hnb117 := NB629_610.out
            have hnc117 := NB610_629.out
            have hnb118 := NB629_618.out
            have hnc118 := NB618_629.out
            have hcz119_0 : wc.cell? ⟨gb629, 0, none⟩ = some (.int .i64 t619) := bc BK629 0
            have hcz119_1 : wc.cell? ⟨gb629, 1, none⟩ = some (.int .i64 t620) := bc BK629 1
            have hcz119_2 : wc.cell? ⟨gb629, 2, none⟩ = some (.int .i64 t621) := bc BK629 2
            have hcz119_3 : wc.cell? ⟨gb629, 3, none⟩ = some (.slice Ao39 t622.length co39) := bc BK629 3
            have hcz119_4 : wc.cell? ⟨gb629, 4, none⟩ = some (.bool t625) := bc BK629 4
            have hfz119_0 := blk_frozen BK629.out 0
            have hfz119_1 := blk_frozen BK629.out 1
            have hfz119_2 := blk_frozen BK629.out 2
            have hfz119_3 := blk_frozen BK629.out 3
            have hfz119_4 := blk_frozen BK629.out 4
            go_wp2_with (first | ((with_reducible refine gate_callee (f := 23) rfl ?_); refine goesL_ (some 73) rfl rfl Try.func23 (by kernel_rfl) rfl #[.agg #[.int .i64 t619, .int .i64 t620, .int .i64 t621, .slice Ao39 t622.length co39, .bool t625], .int .i64 1] rfl gl_ ?_; (with_reducible refine (laws_markFop.calls kj66 t619 t620 t621 (fun k_ => some k_ = (.slice Ao39 t622.length co39 : Value).ownBlock) (.slice Ao39 t622.length co39) t622 t625 1 t644 t645 w _ ?side1 ?side2 A101.out).mono ?_); (case side1 => repeat (first | (with_reducible first | exact HB.out | apply below_alloc | apply pw_below_drewN | apply below_drew1 | refine below_set ?_ GE591.out | refine below_set ?_ GE610.out | refine below_set ?_ GE618.out | refine below_set ?_ GE629.out) | exact HB.out)); (case side2 => exact Kd.R_tight rfl HO_630003.out); rintro e w120 ⟨rfl, hy0, hb, hkp⟩; refine ⟨_, rfl, ?_⟩; have n0_ := m_ (Kd.R_mono (ok' := fun k_ => some k_ ≠ (v627 : Value).ownBlock) (Kd.R_keptB ((Kd.R_apart' HO_7.out (Kd.R_typed HO_630003.out) (by decide))) hkp (fun k_ hk_ hs_ => (hk_.2) hs_)) (fun k_ hk_ => hk_.1.1)); have n1_ := m_ (Kd.R_mono (ok' := fun k_ => some k_ ≠ (v608 : Value).ownBlock) (Kd.R_keptB ((Kd.R_apart' HO_10.out (Kd.R_typed HO_630003.out) (by decide))) hkp (fun k_ hk_ hs_ => (hk_.2) hs_)) (fun k_ hk_ => hk_.1.1)); have n2_ := m_ (Kd.R_mono (ok' := fun k_ => nb Ao32 t641.length co32 k_ ∧ nb Ao39 t622.length co39 k_) (Kd.R_keptB (HO_611003.out) hkp (fun k_ hk_ hs_ => (hk_.2) hs_)) (fun k_ hk_ => ⟨hk_.1.1, hk_.1.2⟩)); have n3_ := m_ (Kd.R_mono (ok' := fun k_ => nb Ao25 t603.length co25 k_ ∧ nb Ao39 t622.length co39 k_) (Kd.R_keptB (HO_619003.out) hkp (fun k_ hk_ hs_ => (hk_.2) hs_)) (fun k_ hk_ => ⟨hk_.1.1, hk_.1.2⟩)); have n4_ := m_ (Kd.R_reok rfl hy0 (fun k_ e_ => HO_630003.out.1 k_ e_)); have n5_ := m_ (blk_kept (kN BK591.out) hkp (fun hs_ => (fun e_ => (Kd.R_ne HO_630003.out BK591.out (by decide)) e_) hs_)); have n6_ := m_ (blk_kept (kN BK610.out) hkp (fun hs_ => (fun e_ => (Kd.R_ne HO_630003.out BK610.out (by decide)) e_) hs_)); have n7_ := m_ (blk_kept (kN BK618.out) hkp (fun hs_ => (fun e_ => (Kd.R_ne HO_630003.out BK618.out (by decide)) e_) hs_)); have n8_ := m_ (blk_kept (kN BK629.out) hkp (fun hs_ => (fun e_ => (Kd.R_ne HO_630003.out BK629.out (by decide)) e_) hs_)); have n9_ := m_ (hb); clear HO_7; clear HO_10; clear HO_611003; clear HO_619003; clear HO_630003; clear BK591; clear BK610; clear BK618; clear BK629; clear HB; have HO_7 := n0_; have HO_10 := n1_; have HO_611003 := n2_; have HO_619003 := n3_; have HO_630003 := n4_; have BK591 := n5_; have BK610 := n6_; have BK618 := n7_; have BK629 := n8_; have HB := n9_; clear n0_ n1_ n2_ n3_ n4_ n5_ n6_ n7_ n8_ n9_; (try clear hb); (try clear hkp); (try clear hy0); obtain ⟨Ao121, co121, eo121⟩ := Kd.R_slice HO_10.out; subst eo121) | ((with_reducible refine gate_callee (f := 26) rfl ?_); refine goesL_ (some 76) rfl rfl Try.func26 (by kernel_rfl) rfl #[.slice Ao121 t626.length co121, .int .i64 t644] rfl gl_ ?_; (with_reducible refine (laws_markFrameS.calls kj66 (fun k_ => some k_ = (.slice Ao121 t626.length co121 : Value).ownBlock) (.slice Ao121 t626.length co121) t626 t644 t646 t647 w _ ?side1 ?side2 A102.out).mono ?_); (case side1 => repeat (first | (with_reducible first | exact HB.out | apply below_alloc | apply pw_below_drewN | apply below_drew1 | refine below_set ?_ GE591.out | refine below_set ?_ GE610.out | refine below_set ?_ GE618.out | refine below_set ?_ GE629.out) | exact HB.out)); (case side2 => exact Kd.R_tight rfl HO_10.out); rintro e w122 ⟨rfl, hy0, hb, hkp⟩; refine ⟨_, rfl, ?_⟩; have n0_ := m_ (Kd.R_mono (ok' := fun k_ => nb Ao121 t626.length co121 k_) (Kd.R_keptB (HO_7.out) hkp (fun k_ hk_ hs_ => (hk_) hs_)) (fun k_ hk_ => hk_.1)); have n1_ := m_ (Kd.R_reok rfl hy0 (fun k_ e_ => HO_10.out.1 k_ e_)); have n2_ := m_ (Kd.R_mono (ok' := fun k_ => nb Ao32 t641.length co32 k_ ∧ nb Ao39 t622.length co39 k_) (Kd.R_keptB ((Kd.R_apart' HO_611003.out (Kd.R_typed HO_10.out) (by decide))) hkp (fun k_ hk_ hs_ => (hk_.2) hs_)) (fun k_ hk_ => ⟨hk_.1.1.1, hk_.1.1.2⟩)); have n3_ := m_ (Kd.R_mono (ok' := fun k_ => nb Ao25 t603.length co25 k_ ∧ nb Ao39 t622.length co39 k_) (Kd.R_keptB ((Kd.R_apart' HO_619003.out (Kd.R_typed HO_10.out) (by decide))) hkp (fun k_ hk_ hs_ => (hk_.2) hs_)) (fun k_ hk_ => ⟨hk_.1.1.1, hk_.1.1.2⟩)); have n4_ := m_ (Kd.R_mono (ok' := fun k_ => nb Ao25 t603.length co25 k_ ∧ nb Ao32 t641.length co32 k_) (Kd.R_keptB ((Kd.R_apart' HO_630003.out (Kd.R_typed HO_10.out) (by decide))) hkp (fun k_ hk_ hs_ => (hk_.2) hs_)) (fun k_ hk_ => ⟨hk_.1.1.1, hk_.1.1.2⟩)); have n5_ := m_ (blk_kept (kN BK591.out) hkp (fun hs_ => (fun e_ => (Kd.R_ne HO_10.out BK591.out (by decide)) e_) hs_)); have n6_ := m_ (blk_kept (kN BK610.out) hkp (fun hs_ => (fun e_ => (Kd.R_ne HO_10.out BK610.out (by decide)) e_) hs_)); have n7_ := m_ (blk_kept (kN BK618.out) hkp (fun hs_ => (fun e_ => (Kd.R_ne HO_10.out BK618.out (by decide)) e_) hs_)); have n8_ := m_ (blk_kept (kN BK629.out) hkp (fun hs_ => (fun e_ => (Kd.R_ne HO_10.out BK629.out (by decide)) e_) hs_)); have n9_ := m_ (hb); clear HO_7; clear HO_10; clear HO_611003; clear HO_619003; clear HO_630003; clear BK591; clear BK610; clear BK618; clear BK629; clear HB; have HO_7 := n0_; have HO_10 := n1_; have HO_611003 := n2_; have HO_619003 := n3_; have HO_630003 := n4_; have BK591 := n5_; have BK610 := n6_; have BK618 := n7_; have BK629 := n8_; have HB := n9_; clear n0_ n1_ n2_ n3_ n4_ n5_ n6_ n7_ n8_ n9_; (try clear hb); (try clear hkp); (try clear hy0); have hcz123_0 : w122.cell? ⟨gb629, 0, none⟩ = some (.int .i64 t619) := bc BK629 0; have hcz123_1 : w122.cell? ⟨gb629, 1, none⟩ = some (.int .i64 t620) := bc BK629 1; have hcz123_2 : w122.cell? ⟨gb629, 2, none⟩ = some (.int .i64 t621) := bc BK629 2; have hcz123_3 : w122.cell? ⟨gb629, 3, none⟩ = some (.slice Ao39 t622.length co39) := bc BK629 3; have hcz123_4 : w122.cell? ⟨gb629, 4, none⟩ = some (.bool t625) := bc BK629 4; have hfz123_0 := blk_frozen BK629.out 0; have hfz123_1 := blk_frozen BK629.out 1; have hfz123_2 := blk_frozen BK629.out 2; have hfz123_3 := blk_frozen BK629.out 3; have hfz123_4 := blk_frozen BK629.out 4) | ((with_reducible refine gate_callee (f := 24) rfl ?_); refine goesL_ (some 79) rfl rfl Try.func24 (by kernel_rfl) rfl #[.agg #[.int .i64 t619, .int .i64 t620, .int .i64 t621, .slice Ao39 t645.length co39, .bool t625], .int .i64 1] rfl (by (try simp only [List.map_toArray, List.map_cons, List.map_nil]); first | done | (rw [show t645.length = t622.length from (Kd.R_reads' HO_630003.out).1.symm] <;> rfl) | rfl | (simp only [List.length_drop, List.length_take]; rfl)) ?_; (with_reducible refine (laws_heldFop.calls kj66 t619 t620 t621 _ _ t645 t625 1 t648 _ ?side1 ?side2 A103.out).mono ?_); (case side1 => exact cN (Kd.R_reads' HO_630003.out).2.2); (case side2 => rw [show t645.length = t622.length from (Kd.R_reads' HO_630003.out).1.symm]; exact (Kd.R_reads' HO_630003.out).2.1); rintro e w124 ⟨rfl, hb⟩; refine ⟨_, rfl, ?_⟩; have n0_ := m_ (Kd.R_below (rN HO_7.out) hb); have n1_ := m_ (Kd.R_below (rN HO_10.out) hb); have n2_ := m_ (Kd.R_below (rN HO_611003.out) hb); have n3_ := m_ (Kd.R_below (rN HO_619003.out) hb); have n4_ := m_ (Kd.R_below (rN HO_630003.out) hb); have n5_ := m_ (blk_below (kN BK591.out) hb); have n6_ := m_ (blk_below (kN BK610.out) hb); have n7_ := m_ (blk_below (kN BK618.out) hb); have n8_ := m_ (blk_below (kN BK629.out) hb); have n9_ := m_ (below_step (bN HB.out) hb); clear HO_7; clear HO_10; clear HO_611003; clear HO_619003; clear HO_630003; clear BK591; clear BK610; clear BK618; clear BK629; clear HB; have HO_7 := n0_; have HO_10 := n1_; have HO_611003 := n2_; have HO_619003 := n3_; have HO_630003 := n4_; have BK591 := n5_; have BK610 := n6_; have BK618 := n7_; have BK629 := n8_; have HB := n9_; clear n0_ n1_ n2_ n3_ n4_ n5_ n6_ n7_ n8_ n9_; (try clear hb); (try clear hb2); (try clear hk); (try clear hi)) | ((with_reducible refine gate_callee (f := 27) rfl ?_); refine goesL_ (some 84) rfl rfl Try.func27 (by kernel_rfl) rfl #[.slice Ao121 t647.length co121, .int .i64 t648] rfl (by (try simp only [List.map_toArray, List.map_cons, List.map_nil]); first | done | (rw [show t647.length = t626.length from (Kd.R_reads' HO_10.out).1.symm] <;> rfl) | rfl | (simp only [List.length_drop, List.length_take]; rfl)) ?_; (with_reducible refine (laws_heldFrameS.calls kj66 _ _ t647 t648 t649 _ ?side1 ?side2 A114.out).mono ?_); (case side1 => exact cN (Kd.R_reads' HO_10.out).2.2); (case side2 => rw [show t647.length = t626.length from (Kd.R_reads' HO_10.out).1.symm]; exact (Kd.R_reads' HO_10.out).2.1); rintro e w125 ⟨rfl, hb⟩; refine ⟨_, rfl, ?_⟩; have n0_ := m_ (Kd.R_below (rN HO_7.out) hb); have n1_ := m_ (Kd.R_below (rN HO_10.out) hb); have n2_ := m_ (Kd.R_below (rN HO_611003.out) hb); have n3_ := m_ (Kd.R_below (rN HO_619003.out) hb); have n4_ := m_ (Kd.R_below (rN HO_630003.out) hb); have n5_ := m_ (blk_below (kN BK591.out) hb); have n6_ := m_ (blk_below (kN BK610.out) hb); have n7_ := m_ (blk_below (kN BK618.out) hb); have n8_ := m_ (blk_below (kN BK629.out) hb); have n9_ := m_ (below_step (bN HB.out) hb); clear HO_7; clear HO_10; clear HO_611003; clear HO_619003; clear HO_630003; clear BK591; clear BK610; clear BK618; clear BK629; clear HB; have HO_7 := n0_; have HO_10 := n1_; have HO_611003 := n2_; have HO_619003 := n3_; have HO_630003 := n4_; have BK591 := n5_; have BK610 := n6_; have BK618 := n7_; have BK629 := n8_; have HB := n9_; clear n0_ n1_ n2_ n3_ n4_ n5_ n6_ n7_ n8_ n9_; (try clear hb); (try clear hb2); (try clear hk); (try clear hi)))
            go_ret
            exact ⟨by first | rfl | (simp [errW_none, errW_some] <;> rfl) | (simp [*, errW_none, errW_some] <;> rfl), by repeat (first | (with_reducible first | exact HB.out | apply below_alloc | apply pw_below_drewN | apply below_drew1 | refine below_set ?_ GE591.out | refine below_set ?_ GE610.out | refine below_set ?_ GE618.out | refine below_set ?_ GE629.out) | exact HB.out)⟩
           ·rw [if_neg c115] at H
            have c115b0 : decide (t649 < 0) = false := decide_eq_false c115
            clear c115
            by_cases c126 : t649 = t646
            ·rw [if_pos c126] at H
             have c126b0 : (t649 == t646) = true := beq_iff_eq.mpr c126
             have c126b1 : (t649 != t646) = false := bne_eq_false_iff_eq.mpr c126
             clear c126
             replace H := Option.bind_eq_some_iff.mp H
             obtain ⟨⟨t650, t651, t652, t653, t656⟩, A1270, H⟩ := H
             replace H : ((impl_FopSend.f kj66 t650 t651 t652 t653 t656 a1).bind fun bt657 => ((laws_eqFop.f kj66 bt657.1 bt657.2.1 bt657.2.2.1 bt657.2.2.2.1 bt657.2.2.2.2.1 t600 t601 t602 t603 t606).bind fun t668 => (if t668 = true then ((laws_eqFrameS.f kj66 bt657.2.2.2.2.2 t607).bind fun t669 => (laws_FnExactFopSend.j2 kj66 t647 t646 (!t669) t619 t620 t621 t645 t625)) else (laws_FnExactFopSend.j2 kj66 t647 t646 true t619 t620 t621 t645 t625)))) = some r := H
             have A127 := Aside0.mk A1270
             clear A1270
             replace H := Option.bind_eq_some_iff.mp H
             obtain ⟨⟨t657, t658, t659, t660, t663, t664⟩, A1280, H⟩ := H
             replace H : ((laws_eqFop.f kj66 t657 t658 t659 t660 t663 t600 t601 t602 t603 t606).bind fun t668 => (if t668 = true then ((laws_eqFrameS.f kj66 t664 t607).bind fun t669 => (laws_FnExactFopSend.j2 kj66 t647 t646 (!t669) t619 t620 t621 t645 t625)) else (laws_FnExactFopSend.j2 kj66 t647 t646 true t619 t620 t621 t645 t625))) = some r := H
             have A128 := Aside0.mk A1280
             clear A1280
             have HC129 := Aside0.mk H
             clear H
             have hnb130 := NB629_591.out
             have hnc130 := NB591_629.out
             have hnb131 := NB629_610.out
             have hnc131 := NB610_629.out
             have hnb132 := NB629_618.out
             have hnc132 := NB618_629.out
             have hcz133_0 : wc.cell? ⟨gb629, 0, none⟩ = some (.int .i64 t619) := bc BK629 0
             have hcz133_1 : wc.cell? ⟨gb629, 1, none⟩ = some (.int .i64 t620) := bc BK629 1
             have hcz133_2 : wc.cell? ⟨gb629, 2, none⟩ = some (.int .i64 t621) := bc BK629 2
             have hcz133_3 : wc.cell? ⟨gb629, 3, none⟩ = some (.slice Ao39 t622.length co39) := bc BK629 3
             have hcz133_4 : wc.cell? ⟨gb629, 4, none⟩ = some (.bool t625) := bc BK629 4
             have hfz133_0 := blk_frozen BK629.out 0
             have hfz133_1 := blk_frozen BK629.out 1
             have hfz133_2 := blk_frozen BK629.out 2
             have hfz133_3 := blk_frozen BK629.out 3
             have hfz133_4 := blk_frozen BK629.out 4
             go_upto_region 31 with (first | ((with_reducible refine gate_callee (f := 23) rfl ?_); refine goesL_ (some 73) rfl rfl Try.func23 (by kernel_rfl) rfl #[.agg #[.int .i64 t619, .int .i64 t620, .int .i64 t621, .slice Ao39 t622.length co39, .bool t625], .int .i64 1] rfl gl_ ?_; (with_reducible refine (laws_markFop.calls kj66 t619 t620 t621 (fun k_ => some k_ = (.slice Ao39 t622.length co39 : Value).ownBlock) (.slice Ao39 t622.length co39) t622 t625 1 t644 t645 w _ ?side1 ?side2 A101.out).mono ?_); (case side1 => repeat (first | (with_reducible first | exact HB.out | apply below_alloc | apply pw_below_drewN | apply below_drew1 | refine below_set ?_ GE591.out | refine below_set ?_ GE610.out | refine below_set ?_ GE618.out | refine below_set ?_ GE629.out) | exact HB.out)); (case side2 => exact Kd.R_tight rfl HO_630003.out); rintro e w134 ⟨rfl, hy0, hb, hkp⟩; refine ⟨_, rfl, ?_⟩; have n0_ := m_ (Kd.R_mono (ok' := fun k_ => some k_ ≠ (v627 : Value).ownBlock) (Kd.R_keptB ((Kd.R_apart' HO_7.out (Kd.R_typed HO_630003.out) (by decide))) hkp (fun k_ hk_ hs_ => (hk_.2) hs_)) (fun k_ hk_ => hk_.1.1)); have n1_ := m_ (Kd.R_mono (ok' := fun k_ => some k_ ≠ (v608 : Value).ownBlock) (Kd.R_keptB ((Kd.R_apart' HO_10.out (Kd.R_typed HO_630003.out) (by decide))) hkp (fun k_ hk_ hs_ => (hk_.2) hs_)) (fun k_ hk_ => hk_.1.1)); have n2_ := m_ (Kd.R_mono (ok' := fun k_ => nb Ao32 t641.length co32 k_ ∧ nb Ao39 t622.length co39 k_) (Kd.R_keptB (HO_611003.out) hkp (fun k_ hk_ hs_ => (hk_.2) hs_)) (fun k_ hk_ => ⟨hk_.1.1, hk_.1.2⟩)); have n3_ := m_ (Kd.R_mono (ok' := fun k_ => nb Ao25 t603.length co25 k_ ∧ nb Ao39 t622.length co39 k_) (Kd.R_keptB (HO_619003.out) hkp (fun k_ hk_ hs_ => (hk_.2) hs_)) (fun k_ hk_ => ⟨hk_.1.1, hk_.1.2⟩)); have n4_ := m_ (Kd.R_reok rfl hy0 (fun k_ e_ => HO_630003.out.1 k_ e_)); have n5_ := m_ (blk_kept (kN BK591.out) hkp (fun hs_ => (fun e_ => (Kd.R_ne HO_630003.out BK591.out (by decide)) e_) hs_)); have n6_ := m_ (blk_kept (kN BK610.out) hkp (fun hs_ => (fun e_ => (Kd.R_ne HO_630003.out BK610.out (by decide)) e_) hs_)); have n7_ := m_ (blk_kept (kN BK618.out) hkp (fun hs_ => (fun e_ => (Kd.R_ne HO_630003.out BK618.out (by decide)) e_) hs_)); have n8_ := m_ (blk_kept (kN BK629.out) hkp (fun hs_ => (fun e_ => (Kd.R_ne HO_630003.out BK629.out (by decide)) e_) hs_)); have n9_ := m_ (hb); clear HO_7; clear HO_10; clear HO_611003; clear HO_619003; clear HO_630003; clear BK591; clear BK610; clear BK618; clear BK629; clear HB; have HO_7 := n0_; have HO_10 := n1_; have HO_611003 := n2_; have HO_619003 := n3_; have HO_630003 := n4_; have BK591 := n5_; have BK610 := n6_; have BK618 := n7_; have BK629 := n8_; have HB := n9_; clear n0_ n1_ n2_ n3_ n4_ n5_ n6_ n7_ n8_ n9_; (try clear hb); (try clear hkp); (try clear hy0); obtain ⟨Ao135, co135, eo135⟩ := Kd.R_slice HO_10.out; subst eo135) | ((with_reducible refine gate_callee (f := 26) rfl ?_); refine goesL_ (some 76) rfl rfl Try.func26 (by kernel_rfl) rfl #[.slice Ao135 t626.length co135, .int .i64 t644] rfl gl_ ?_; (with_reducible refine (laws_markFrameS.calls kj66 (fun k_ => some k_ = (.slice Ao135 t626.length co135 : Value).ownBlock) (.slice Ao135 t626.length co135) t626 t644 t646 t647 w _ ?side1 ?side2 A102.out).mono ?_); (case side1 => repeat (first | (with_reducible first | exact HB.out | apply below_alloc | apply pw_below_drewN | apply below_drew1 | refine below_set ?_ GE591.out | refine below_set ?_ GE610.out | refine below_set ?_ GE618.out | refine below_set ?_ GE629.out) | exact HB.out)); (case side2 => exact Kd.R_tight rfl HO_10.out); rintro e w136 ⟨rfl, hy0, hb, hkp⟩; refine ⟨_, rfl, ?_⟩; have n0_ := m_ (Kd.R_mono (ok' := fun k_ => nb Ao135 t626.length co135 k_) (Kd.R_keptB (HO_7.out) hkp (fun k_ hk_ hs_ => (hk_) hs_)) (fun k_ hk_ => hk_.1)); have n1_ := m_ (Kd.R_reok rfl hy0 (fun k_ e_ => HO_10.out.1 k_ e_)); have n2_ := m_ (Kd.R_mono (ok' := fun k_ => nb Ao32 t641.length co32 k_ ∧ nb Ao39 t622.length co39 k_) (Kd.R_keptB ((Kd.R_apart' HO_611003.out (Kd.R_typed HO_10.out) (by decide))) hkp (fun k_ hk_ hs_ => (hk_.2) hs_)) (fun k_ hk_ => ⟨hk_.1.1.1, hk_.1.1.2⟩)); have n3_ := m_ (Kd.R_mono (ok' := fun k_ => nb Ao25 t603.length co25 k_ ∧ nb Ao39 t622.length co39 k_) (Kd.R_keptB ((Kd.R_apart' HO_619003.out (Kd.R_typed HO_10.out) (by decide))) hkp (fun k_ hk_ hs_ => (hk_.2) hs_)) (fun k_ hk_ => ⟨hk_.1.1.1, hk_.1.1.2⟩)); have n4_ := m_ (Kd.R_mono (ok' := fun k_ => nb Ao25 t603.length co25 k_ ∧ nb Ao32 t641.length co32 k_) (Kd.R_keptB ((Kd.R_apart' HO_630003.out (Kd.R_typed HO_10.out) (by decide))) hkp (fun k_ hk_ hs_ => (hk_.2) hs_)) (fun k_ hk_ => ⟨hk_.1.1.1, hk_.1.1.2⟩)); have n5_ := m_ (blk_kept (kN BK591.out) hkp (fun hs_ => (fun e_ => (Kd.R_ne HO_10.out BK591.out (by decide)) e_) hs_)); have n6_ := m_ (blk_kept (kN BK610.out) hkp (fun hs_ => (fun e_ => (Kd.R_ne HO_10.out BK610.out (by decide)) e_) hs_)); have n7_ := m_ (blk_kept (kN BK618.out) hkp (fun hs_ => (fun e_ => (Kd.R_ne HO_10.out BK618.out (by decide)) e_) hs_)); have n8_ := m_ (blk_kept (kN BK629.out) hkp (fun hs_ => (fun e_ => (Kd.R_ne HO_10.out BK629.out (by decide)) e_) hs_)); have n9_ := m_ (hb); clear HO_7; clear HO_10; clear HO_611003; clear HO_619003; clear HO_630003; clear BK591; clear BK610; clear BK618; clear BK629; clear HB; have HO_7 := n0_; have HO_10 := n1_; have HO_611003 := n2_; have HO_619003 := n3_; have HO_630003 := n4_; have BK591 := n5_; have BK610 := n6_; have BK618 := n7_; have BK629 := n8_; have HB := n9_; clear n0_ n1_ n2_ n3_ n4_ n5_ n6_ n7_ n8_ n9_; (try clear hb); (try clear hkp); (try clear hy0); have hcz137_0 : w136.cell? ⟨gb629, 0, none⟩ = some (.int .i64 t619) := bc BK629 0; have hcz137_1 : w136.cell? ⟨gb629, 1, none⟩ = some (.int .i64 t620) := bc BK629 1; have hcz137_2 : w136.cell? ⟨gb629, 2, none⟩ = some (.int .i64 t621) := bc BK629 2; have hcz137_3 : w136.cell? ⟨gb629, 3, none⟩ = some (.slice Ao39 t622.length co39) := bc BK629 3; have hcz137_4 : w136.cell? ⟨gb629, 4, none⟩ = some (.bool t625) := bc BK629 4; have hfz137_0 := blk_frozen BK629.out 0; have hfz137_1 := blk_frozen BK629.out 1; have hfz137_2 := blk_frozen BK629.out 2; have hfz137_3 := blk_frozen BK629.out 3; have hfz137_4 := blk_frozen BK629.out 4) | ((with_reducible refine gate_callee (f := 24) rfl ?_); refine goesL_ (some 79) rfl rfl Try.func24 (by kernel_rfl) rfl #[.agg #[.int .i64 t619, .int .i64 t620, .int .i64 t621, .slice Ao39 t645.length co39, .bool t625], .int .i64 1] rfl (by (try simp only [List.map_toArray, List.map_cons, List.map_nil]); first | done | (rw [show t645.length = t622.length from (Kd.R_reads' HO_630003.out).1.symm] <;> rfl) | rfl | (simp only [List.length_drop, List.length_take]; rfl)) ?_; (with_reducible refine (laws_heldFop.calls kj66 t619 t620 t621 _ _ t645 t625 1 t648 _ ?side1 ?side2 A103.out).mono ?_); (case side1 => exact cN (Kd.R_reads' HO_630003.out).2.2); (case side2 => rw [show t645.length = t622.length from (Kd.R_reads' HO_630003.out).1.symm]; exact (Kd.R_reads' HO_630003.out).2.1); rintro e w138 ⟨rfl, hb⟩; refine ⟨_, rfl, ?_⟩; have n0_ := m_ (Kd.R_below (rN HO_7.out) hb); have n1_ := m_ (Kd.R_below (rN HO_10.out) hb); have n2_ := m_ (Kd.R_below (rN HO_611003.out) hb); have n3_ := m_ (Kd.R_below (rN HO_619003.out) hb); have n4_ := m_ (Kd.R_below (rN HO_630003.out) hb); have n5_ := m_ (blk_below (kN BK591.out) hb); have n6_ := m_ (blk_below (kN BK610.out) hb); have n7_ := m_ (blk_below (kN BK618.out) hb); have n8_ := m_ (blk_below (kN BK629.out) hb); have n9_ := m_ (below_step (bN HB.out) hb); clear HO_7; clear HO_10; clear HO_611003; clear HO_619003; clear HO_630003; clear BK591; clear BK610; clear BK618; clear BK629; clear HB; have HO_7 := n0_; have HO_10 := n1_; have HO_611003 := n2_; have HO_619003 := n3_; have HO_630003 := n4_; have BK591 := n5_; have BK610 := n6_; have BK618 := n7_; have BK629 := n8_; have HB := n9_; clear n0_ n1_ n2_ n3_ n4_ n5_ n6_ n7_ n8_ n9_; (try clear hb); (try clear hb2); (try clear hk); (try clear hi)) | ((with_reducible refine gate_callee (f := 27) rfl ?_); refine goesL_ (some 84) rfl rfl Try.func27 (by kernel_rfl) rfl #[.slice Ao135 t647.length co135, .int .i64 t648] rfl (by (try simp only [List.map_toArray, List.map_cons, List.map_nil]); first | done | (rw [show t647.length = t626.length from (Kd.R_reads' HO_10.out).1.symm] <;> rfl) | rfl | (simp only [List.length_drop, List.length_take]; rfl)) ?_; (with_reducible refine (laws_heldFrameS.calls kj66 _ _ t647 t648 t649 _ ?side1 ?side2 A114.out).mono ?_); (case side1 => exact cN (Kd.R_reads' HO_10.out).2.2); (case side2 => rw [show t647.length = t626.length from (Kd.R_reads' HO_10.out).1.symm]; exact (Kd.R_reads' HO_10.out).2.1); rintro e w139 ⟨rfl, hb⟩; refine ⟨_, rfl, ?_⟩; have n0_ := m_ (Kd.R_below (rN HO_7.out) hb); have n1_ := m_ (Kd.R_below (rN HO_10.out) hb); have n2_ := m_ (Kd.R_below (rN HO_611003.out) hb); have n3_ := m_ (Kd.R_below (rN HO_619003.out) hb); have n4_ := m_ (Kd.R_below (rN HO_630003.out) hb); have n5_ := m_ (blk_below (kN BK591.out) hb); have n6_ := m_ (blk_below (kN BK610.out) hb); have n7_ := m_ (blk_below (kN BK618.out) hb); have n8_ := m_ (blk_below (kN BK629.out) hb); have n9_ := m_ (below_step (bN HB.out) hb); clear HO_7; clear HO_10; clear HO_611003; clear HO_619003; clear HO_630003; clear BK591; clear BK610; clear BK618; clear BK629; clear HB; have HO_7 := n0_; have HO_10 := n1_; have HO_611003 := n2_; have HO_619003 := n3_; have HO_630003 := n4_; have BK591 := n5_; have BK610 := n6_; have BK618 := n7_; have BK629 := n8_; have HB := n9_; clear n0_ n1_ n2_ n3_ n4_ n5_ n6_ n7_ n8_ n9_; (try clear hb); (try clear hb2); (try clear hk); (try clear hi); have hnb140 := NB591_610.out; have hnc140 := NB610_591.out; have hnb141 := NB591_618.out; have hnc141 := NB618_591.out; have hcz142_0 : w139.cell? ⟨gb591, 0, none⟩ = some (.int .i64 a0_0) := bc BK591 0; have hcz142_1 : w139.cell? ⟨gb591, 1, none⟩ = some (.int .i64 a0_1) := bc BK591 1; have hcz142_2 : w139.cell? ⟨gb591, 2, none⟩ = some (.int .i64 a0_2) := bc BK591 2; have hcz142_3 : w139.cell? ⟨gb591, 3, none⟩ = some (.slice A0_3 l0_3.length c0_3) := bc BK591 3; have hcz142_4 : w139.cell? ⟨gb591, 4, none⟩ = some (.bool a0_4) := bc BK591 4; have hfz142_0 := blk_frozen BK591.out 0; have hfz142_1 := blk_frozen BK591.out 1; have hfz142_2 := blk_frozen BK591.out 2; have hfz142_3 := blk_frozen BK591.out 3; have hfz142_4 := blk_frozen BK591.out 4) | ((with_reducible refine gate_callee (f := 20) rfl ?_); refine goesL_ (some 92) rfl rfl Try.func20 (by kernel_rfl) rfl #[.agg #[.int .i64 a0_0, .int .i64 a0_1, .int .i64 a0_2, .slice A0_3 l0_3.length c0_3, .bool a0_4]] rfl gl_ ?_; (with_reducible refine (laws_toFop.calls kj66 a0_0 a0_1 a0_2 _ _ l0_3 a0_4 t650 t651 t652 t653 t656 _ ?side1 ?side2 A127.out).mono ?_); (case side1 => exact cN (Kd.C_below HR0_3.out HB.out)); (case side2 => exact HC0_3.out); rintro e w143 ⟨v654, rfl, ho0, hb⟩; refine ⟨_, rfl, ?_⟩; have n0_ := m_ (Kd.R_below (rN HO_7.out) hb); have n1_ := m_ (Kd.R_below (rN HO_10.out) hb); have n2_ := m_ (Kd.R_elder' (rN HO_611003.out) (Kd.R_base ho0) hb); have n3_ := m_ (Kd.R_elder' (rN HO_619003.out) (Kd.R_base ho0) hb); have n4_ := m_ (Kd.R_elder' (rN HO_630003.out) (Kd.R_base ho0) hb); have n5_ := m_ (Kd.R_lower (Kd.R_new' (Kd.R_new' (Kd.R_new' ho0 (Kd.R_lt (rN HO_611003.out))) (Kd.R_lt (rN HO_619003.out))) (Kd.R_lt (rN HO_630003.out))) (below_size (bN HB.out))); have n6_ := m_ (blk_below (kN BK591.out) hb); have n7_ := m_ (blk_below (kN BK610.out) hb); have n8_ := m_ (blk_below (kN BK618.out) hb); have n9_ := m_ (blk_below (kN BK629.out) hb); have n10_ := m_ (below_step (bN HB.out) hb); clear HO_7; clear HO_10; clear HO_611003; clear HO_619003; clear HO_630003; clear BK591; clear BK610; clear BK618; clear BK629; clear HB; have HO_7 := n0_; have HO_10 := n1_; have HO_611003 := n2_; have HO_619003 := n3_; have HO_630003 := n4_; have HO655 := n5_; have BK591 := n6_; have BK610 := n7_; have BK618 := n8_; have BK629 := n9_; have HB := n10_; clear n0_ n1_ n2_ n3_ n4_ n5_ n6_ n7_ n8_ n9_ n10_; (try clear hb); (try clear hb2); (try clear hk); (try clear hi); (try clear ho0); obtain ⟨Ao144, co144, eo144⟩ := Kd.R_slice HO655.out; subst eo144) | ((with_reducible refine gate_callee (f := 8) rfl ?_); refine goesL_ (some 94) rfl rfl Try.func8 (by kernel_rfl) rfl #[.agg #[.int .i64 t650, .int .i64 t651, .int .i64 t652, .slice Ao144 t653.length co144, .bool t656], .string a1] rfl gl_ ?_; (with_reducible refine (impl_FopSend.calls kj66 t650 t651 t652 _ _ t653 t656 a1 t657 t658 t659 t660 t663 t664 _ ?side1 ?side2 A128.out).mono ?_); (case side1 => exact cN (Kd.R_reads' HO655.out).2.2); (case side2 => exact (Kd.R_reads' HO655.out).2.1); rintro e w145 ⟨v661, v665, rfl, ho0, ho1, hb⟩; refine ⟨_, rfl, ?_⟩; have n0_ := m_ (Kd.R_elder' (rN HO_7.out) (Kd.R_base ho1) hb); have n1_ := m_ (Kd.R_elder' (rN HO_10.out) (Kd.R_base ho1) hb); have n2_ := m_ (Kd.R_elder' (rN HO_611003.out) (Kd.R_base ho0) hb); have n3_ := m_ (Kd.R_elder' (rN HO_619003.out) (Kd.R_base ho0) hb); have n4_ := m_ (Kd.R_elder' (rN HO_630003.out) (Kd.R_base ho0) hb); have n5_ := m_ (Kd.R_elder' (rN HO655.out) (Kd.R_base ho0) hb); have n6_ := m_ (Kd.R_lower (Kd.R_new' (Kd.R_new' (Kd.R_new' (Kd.R_new' ho0 (Kd.R_lt (rN HO_611003.out))) (Kd.R_lt (rN HO_619003.out))) (Kd.R_lt (rN HO_630003.out))) (Kd.R_lt (rN HO655.out))) (below_size (bN HB.out))); have n7_ := m_ (Kd.R_lower (Kd.R_new' (Kd.R_new' ho1 (Kd.R_lt (rN HO_7.out))) (Kd.R_lt (rN HO_10.out))) (below_size (bN HB.out))); have n8_ := m_ (blk_below (kN BK591.out) hb); have n9_ := m_ (blk_below (kN BK610.out) hb); have n10_ := m_ (blk_below (kN BK618.out) hb); have n11_ := m_ (blk_below (kN BK629.out) hb); have n12_ := m_ (below_step (bN HB.out) hb); clear HO_7; clear HO_10; clear HO_611003; clear HO_619003; clear HO_630003; clear HO655; clear BK591; clear BK610; clear BK618; clear BK629; clear HB; have HO_7 := n0_; have HO_10 := n1_; have HO_611003 := n2_; have HO_619003 := n3_; have HO_630003 := n4_; have HO655 := n5_; have HO662 := n6_; have HO666 := n7_; have BK591 := n8_; have BK610 := n9_; have BK618 := n10_; have BK629 := n11_; have HB := n12_; clear n0_ n1_ n2_ n3_ n4_ n5_ n6_ n7_ n8_ n9_ n10_ n11_ n12_; (try clear hb); (try clear hb2); (try clear hk); (try clear hi); (try clear ho0); (try clear ho1)) | ((with_reducible refine gate_dst (N := 14) rfl ?_); refine box_event ?hg (N := 14) ?hd (cs := #[.int .i64 0, .int .i64 0, .int .i64 0, .slice none 0 0, .bool false]) (t := 25) ?hr ?_; (case hd => rfl); (case hg => rfl); (case hr => first | (go_simp; done) | (go_simp; rfl)); intro gb667 hg w146 hbox hb; have n0_ := m_ (Kd.R_below (rN HO_7.out) hb); have n1_ := m_ (Kd.R_below (rN HO_10.out) hb); have n2_ := m_ (Kd.R_below (rN HO_611003.out) hb); have n3_ := m_ (Kd.R_below (rN HO_619003.out) hb); have n4_ := m_ (Kd.R_below (rN HO_630003.out) hb); have n5_ := m_ (Kd.R_below (rN HO655.out) hb); have n6_ := m_ (Kd.R_below (rN HO662.out) hb); have n7_ := m_ (Kd.R_below (rN HO666.out) hb); have n8_ := m_ (blk_below (kN BK591.out) hb); have n9_ := m_ (blk_below (kN BK610.out) hb); have n10_ := m_ (blk_below (kN BK618.out) hb); have n11_ := m_ (blk_below (kN BK629.out) hb); have n12_ := m_ (below_step (bN HB.out) hb); have n13_ := m_ (hbox); have n14_ := m_ ((by rw [hg]; exact (below_size (bN HB.out)) : w.heap.size ≤ gb667)); have n15_ := m_ ((by rw [hg]; exact (below_size (bN HB.out)) : w.heap.size ≤ gb667)); have n16_ := m_ (nL hg BK591.out); have n17_ := m_ (nG hg BK591.out); have n18_ := m_ (nL hg BK610.out); have n19_ := m_ (nG hg BK610.out); have n20_ := m_ (nL hg BK618.out); have n21_ := m_ (nG hg BK618.out); have n22_ := m_ (nL hg BK629.out); have n23_ := m_ (nG hg BK629.out); clear HO_7; clear HO_10; clear HO_611003; clear HO_619003; clear HO_630003; clear HO655; clear HO662; clear HO666; clear BK591; clear BK610; clear BK618; clear BK629; clear HB; have HO_7 := n0_; have HO_10 := n1_; have HO_611003 := n2_; have HO_619003 := n3_; have HO_630003 := n4_; have HO655 := n5_; have HO662 := n6_; have HO666 := n7_; have BK591 := n8_; have BK610 := n9_; have BK618 := n10_; have BK629 := n11_; have HB := n12_; have BK667 := n13_; have GW667 := n14_; have GE667 := n15_; have NB591_667 := n16_; have NB667_591 := n17_; have NB610_667 := n18_; have NB667_610 := n19_; have NB618_667 := n20_; have NB667_618 := n21_; have NB629_667 := n22_; have NB667_629 := n23_; clear n0_ n1_ n2_ n3_ n4_ n5_ n6_ n7_ n8_ n9_ n10_ n11_ n12_ n13_ n14_ n15_ n16_ n17_ n18_ n19_ n20_ n21_ n22_ n23_; clear hb hbox hg; have hnb147 := NB667_591.out; have hnc147 := NB591_667.out; have hnb148 := NB667_610.out; have hnc148 := NB610_667.out; have hnb149 := NB667_618.out; have hnc149 := NB618_667.out; have hnb150 := NB667_629.out; have hnc150 := NB629_667.out; have hcz151_0 : w146.cell? ⟨gb667, 0, none⟩ = some (.int .i64 0) := bc BK667 0; have hcz151_1 : w146.cell? ⟨gb667, 1, none⟩ = some (.int .i64 0) := bc BK667 1; have hcz151_2 : w146.cell? ⟨gb667, 2, none⟩ = some (.int .i64 0) := bc BK667 2; have hcz151_3 : w146.cell? ⟨gb667, 3, none⟩ = some (.slice none 0 0) := bc BK667 3; have hcz151_4 : w146.cell? ⟨gb667, 4, none⟩ = some (.bool false) := bc BK667 4; have hfz151_0 := blk_frozen BK667.out 0; have hfz151_1 := blk_frozen BK667.out 1; have hfz151_2 := blk_frozen BK667.out 2; have hfz151_3 := blk_frozen BK667.out 3; have hfz151_4 := blk_frozen BK667.out 4; obtain ⟨Ao152, co152, eo152⟩ := Kd.R_slice HO662.out; subst eo152))
             (try simp only [Act.put, List.setIfInBounds_toArray, List.set_cons_zero, List.set_cons_succ])
             go_cut [106] (fun v106 wc => ∃ (kq : Nat) (x106_128 : Bool), v106 = .bool x106_128 ∧ Aside0 (laws_FnExactFopSend.j2 kq t647 t646 x106_128 t619 t620 t621 t645 t625 = some r) ∧ Aside0 (kq ≤ kj66) ∧ Aside0 (Kd.R k35 35 wc w.heap.size (fun _ => True) (.slice Ao135 t626.length co135) t647) ∧ Aside0 (Kd.R Kd.string 9 wc w.heap.size (fun k_ => some k_ ≠ ((.slice Ao32 t641.length co32) : Value).ownBlock ∧ some k_ ≠ ((.slice Ao39 t622.length co39) : Value).ownBlock ∧ some k_ ≠ ((.slice Ao152 t660.length co152) : Value).ownBlock) (.slice Ao25 t603.length co25) t603) ∧ Aside0 (Kd.R Kd.string 9 wc w.heap.size (fun k_ => some k_ ≠ ((.slice Ao25 t603.length co25) : Value).ownBlock ∧ some k_ ≠ ((.slice Ao39 t622.length co39) : Value).ownBlock ∧ some k_ ≠ ((.slice Ao152 t660.length co152) : Value).ownBlock) (.slice Ao32 t641.length co32) t641) ∧ Aside0 (Kd.R Kd.string 9 wc w.heap.size (fun k_ => some k_ ≠ ((.slice Ao25 t603.length co25) : Value).ownBlock ∧ some k_ ≠ ((.slice Ao32 t641.length co32) : Value).ownBlock ∧ some k_ ≠ ((.slice Ao152 t660.length co152) : Value).ownBlock) (.slice Ao39 t622.length co39) t645) ∧ Aside0 (Kd.R Kd.string 9 wc w.heap.size (fun k_ => some k_ ≠ ((.slice Ao25 t603.length co25) : Value).ownBlock ∧ some k_ ≠ ((.slice Ao32 t641.length co32) : Value).ownBlock ∧ some k_ ≠ ((.slice Ao39 t622.length co39) : Value).ownBlock) (.slice Ao152 t660.length co152) t660) ∧ Aside0 (wc.heap[gb591]? = some (.cells #[.int .i64 a0_0, .int .i64 a0_1, .int .i64 a0_2, (.slice A0_3 l0_3.length c0_3), .bool a0_4] 45 (0, 0))) ∧ Aside0 (wc.heap[gb610]? = some (.cells #[.int .i64 t600, .int .i64 t601, .int .i64 t602, (.slice Ao25 t603.length co25), .bool t606] 25 (0, 0))) ∧ Aside0 (wc.heap[gb618]? = some (.cells #[.int .i64 t611, .int .i64 t612, .int .i64 t613, (.slice Ao32 t641.length co32), .bool t617] 25 (0, 0))) ∧ Aside0 (wc.heap[gb629]? = some (.cells #[.int .i64 t619, .int .i64 t620, .int .i64 t621, (.slice Ao39 t622.length co39), .bool t625] 25 (0, 0))) ∧ Aside0 (wc.heap[gb667]? = some (.cells #[.int .i64 t657, .int .i64 t658, .int .i64 t659, (.slice Ao152 t660.length co152), .bool t663] 25 (0, 0))) ∧ Aside0 (Below w.heap.size w wc))
             case first =>
              have H := HC129.out
              clear HC129
              replace H := Option.bind_eq_some_iff.mp H
              obtain ⟨t668, A1530, H⟩ := H
              replace H : (if t668 = true then ((laws_eqFrameS.f kj66 t664 t607).bind fun t669 => (laws_FnExactFopSend.j2 kj66 t647 t646 (!t669) t619 t620 t621 t645 t625)) else (laws_FnExactFopSend.j2 kj66 t647 t646 true t619 t620 t621 t645 t625)) = some r := H
              have A153 := Aside0.mk A1530
              clear A1530
              by_cases c154 : t668 = true
              ·subst c154
               have H1 : ((laws_eqFrameS.f kj66 t664 t607).bind fun t669 => (laws_FnExactFopSend.j2 kj66 t647 t646 (!t669) t619 t620 t621 t645 t625)) = some r := by rw [if_pos rfl] at H; exact H
               clear H
               have H := H1
               clear H1
               replace H := Option.bind_eq_some_iff.mp H
               obtain ⟨t669, A1550, H⟩ := H
               replace H : (laws_FnExactFopSend.j2 kj66 t647 t646 (!t669) t619 t620 t621 t645 t625) = some r := H
               have A155 := Aside0.mk A1550
               clear A1550
               have H' := Aside0.mk H
               clear H
               have hnb156 := NB667_591.out
               have hnc156 := NB591_667.out
               have hnb157 := NB667_610.out
               have hnc157 := NB610_667.out
               have hnb158 := NB667_618.out
               have hnc158 := NB618_667.out
               have hnb159 := NB667_629.out
               have hnc159 := NB629_667.out
               have hcz160_0 : w146.cell? ⟨gb667, 0, none⟩ = some (.int .i64 0) := bc BK667 0
               have hcz160_1 : w146.cell? ⟨gb667, 1, none⟩ = some (.int .i64 0) := bc BK667 1
               have hcz160_2 : w146.cell? ⟨gb667, 2, none⟩ = some (.int .i64 0) := bc BK667 2
               have hcz160_3 : w146.cell? ⟨gb667, 3, none⟩ = some (.slice none 0 0) := bc BK667 3
               have hcz160_4 : w146.cell? ⟨gb667, 4, none⟩ = some (.bool false) := bc BK667 4
               have hfz160_0 := blk_frozen BK667.out 0
               have hfz160_1 := blk_frozen BK667.out 1
               have hfz160_2 := blk_frozen BK667.out 2
               have hfz160_3 := blk_frozen BK667.out 3
               have hfz160_4 := blk_frozen BK667.out 4
               have hnb161 := NB610_591.out
               have hnc161 := NB591_610.out
               have hnb162 := NB610_618.out
               have hnc162 := NB618_610.out
               have hnb163 := NB610_629.out
               have hnc163 := NB629_610.out
               have hcz164_0 : w146.cell? ⟨gb610, 0, none⟩ = some (.int .i64 t600) := bc BK610 0
               have hcz164_1 : w146.cell? ⟨gb610, 1, none⟩ = some (.int .i64 t601) := bc BK610 1
               have hcz164_2 : w146.cell? ⟨gb610, 2, none⟩ = some (.int .i64 t602) := bc BK610 2
               have hcz164_3 : w146.cell? ⟨gb610, 3, none⟩ = some (.slice Ao25 t603.length co25) := bc BK610 3
               have hcz164_4 : w146.cell? ⟨gb610, 4, none⟩ = some (.bool t606) := bc BK610 4
               have hfz164_0 := blk_frozen BK610.out 0
               have hfz164_1 := blk_frozen BK610.out 1
               have hfz164_2 := blk_frozen BK610.out 2
               have hfz164_3 := blk_frozen BK610.out 3
               have hfz164_4 := blk_frozen BK610.out 4
               go_wp2_with (first | ((with_reducible refine gate_callee (f := 22) rfl ?_); refine goesL_ (some 99) rfl rfl Try.func22 (by kernel_rfl) rfl #[.agg #[.int .i64 t657, .int .i64 t658, .int .i64 t659, .slice Ao152 t660.length co152, .bool t663], .agg #[.int .i64 t600, .int .i64 t601, .int .i64 t602, .slice Ao25 t603.length co25, .bool t606]] rfl gl_ ?_; (with_reducible refine (laws_eqFop.calls kj66 t657 t658 t659 _ _ t660 t663 t600 t601 t602 _ _ t603 t606 true _ ?side1 ?side2 ?side3 ?side4 A153.out).mono ?_); (case side1 => refine (Kd.R_reads' (e := 9) (base := w.heap.size) (ok := fun k_ => ((((True ∧ nb Ao25 t603.length co25 k_) ∧ nb Ao32 t641.length co32 k_) ∧ nb Ao39 t622.length co39 k_) ∧ nb Ao144 t653.length co144 k_)) (n := t660.length) (c := co152) ?_).2.2; exact (frN (Kd.R_types HO662.out BK667.out (by decide)))); (case side2 => exact (Kd.R_reads' HO662.out).2.1); (case side3 => refine (Kd.R_reads' (e := 9) (base := w.heap.size) (ok := fun k_ => (((nb Ao32 t641.length co32 k_ ∧ nb Ao39 t622.length co39 k_) ∧ nb Ao144 t653.length co144 k_) ∧ nb Ao152 t660.length co152 k_)) (n := t603.length) (c := co25) ?_).2.2; exact (frN (Kd.R_types HO_611003.out BK667.out (by decide)))); (case side4 => exact (Kd.R_reads' HO_611003.out).2.1); rintro e w165 ⟨rfl, hb⟩; refine ⟨_, rfl, ?_⟩; have n0_ := m_ (Kd.R_below (frN (Kd.R_types HO_7.out BK667.out (by decide))) hb); have n1_ := m_ (Kd.R_below (frN (Kd.R_types HO_10.out BK667.out (by decide))) hb); have n2_ := m_ (Kd.R_below (frN (Kd.R_types HO_611003.out BK667.out (by decide))) hb); have n3_ := m_ (Kd.R_below (frN (Kd.R_types HO_619003.out BK667.out (by decide))) hb); have n4_ := m_ (Kd.R_below (frN (Kd.R_types HO_630003.out BK667.out (by decide))) hb); have n5_ := m_ (Kd.R_below (frN (Kd.R_types HO655.out BK667.out (by decide))) hb); have n6_ := m_ (Kd.R_below (frN (Kd.R_types HO662.out BK667.out (by decide))) hb); have n7_ := m_ (Kd.R_below (frN (Kd.R_types HO666.out BK667.out (by decide))) hb); have n8_ := m_ (blk_below (g := gb591) (o := .cells #[.int .i64 a0_0, .int .i64 a0_1, .int .i64 a0_2, .slice A0_3 l0_3.length c0_3, .bool a0_4] 45 (0, 0)) (kF BK591.out NB591_667.out) hb); have n9_ := m_ (blk_below (g := gb610) (o := .cells #[.int .i64 t600, .int .i64 t601, .int .i64 t602, .slice Ao25 t603.length co25, .bool t606] 25 (0, 0)) (kF BK610.out NB610_667.out) hb); have n10_ := m_ (blk_below (g := gb618) (o := .cells #[.int .i64 t611, .int .i64 t612, .int .i64 t613, .slice Ao32 t641.length co32, .bool t617] 25 (0, 0)) (kF BK618.out NB618_667.out) hb); have n11_ := m_ (blk_below (g := gb629) (o := .cells #[.int .i64 t619, .int .i64 t620, .int .i64 t621, .slice Ao39 t622.length co39, .bool t625] 25 (0, 0)) (kF BK629.out NB629_667.out) hb); have n12_ := m_ (blk_below (g := gb667) (o := .cells #[.int .i64 t657, .int .i64 t658, .int .i64 t659, .slice Ao152 t660.length co152, .bool t663] 25 (0, 0)) (kP BK667.out) hb); have n13_ := m_ (below_step (bN HB.out) hb); clear HO_7; clear HO_10; clear HO_611003; clear HO_619003; clear HO_630003; clear HO655; clear HO662; clear HO666; clear BK591; clear BK610; clear BK618; clear BK629; clear BK667; clear HB; have HO_7 := n0_; have HO_10 := n1_; have HO_611003 := n2_; have HO_619003 := n3_; have HO_630003 := n4_; have HO655 := n5_; have HO662 := n6_; have HO666 := n7_; have BK591 := n8_; have BK610 := n9_; have BK618 := n10_; have BK629 := n11_; have BK667 := n12_; have HB := n13_; clear n0_ n1_ n2_ n3_ n4_ n5_ n6_ n7_ n8_ n9_ n10_ n11_ n12_ n13_; (try clear hb); (try clear hb2); (try clear hk); (try clear hi); obtain ⟨Ao166, co166, eo166⟩ := Kd.R_slice HO666.out; subst eo166; obtain ⟨Ao167, co167, eo167⟩ := Kd.R_slice HO_7.out; subst eo167) | (go_at_call 25; (with_reducible refine (laws_eqFrameS.calls kj66 _ _ t664 _ _ t607 t669 _ ?side1 ?side2 ?side3 ?side4 A155.out).mono ?_); (case side1 => exact cN (Kd.R_reads' HO666.out).2.2); (case side2 => exact (Kd.R_reads' HO666.out).2.1); (case side3 => exact cN (Kd.R_reads' HO_7.out).2.2); (case side4 => exact (Kd.R_reads' HO_7.out).2.1); rintro e w168 ⟨rfl, hb⟩; have n0_ := m_ (Kd.R_below (rN HO_7.out) hb); have n1_ := m_ (Kd.R_below (rN HO_10.out) hb); have n2_ := m_ (Kd.R_below (rN HO_611003.out) hb); have n3_ := m_ (Kd.R_below (rN HO_619003.out) hb); have n4_ := m_ (Kd.R_below (rN HO_630003.out) hb); have n5_ := m_ (Kd.R_below (rN HO655.out) hb); have n6_ := m_ (Kd.R_below (rN HO662.out) hb); have n7_ := m_ (Kd.R_below (rN HO666.out) hb); have n8_ := m_ (blk_below (kN BK591.out) hb); have n9_ := m_ (blk_below (kN BK610.out) hb); have n10_ := m_ (blk_below (kN BK618.out) hb); have n11_ := m_ (blk_below (kN BK629.out) hb); have n12_ := m_ (blk_below (kN BK667.out) hb); have n13_ := m_ (below_step (bN HB.out) hb); clear HO_7; clear HO_10; clear HO_611003; clear HO_619003; clear HO_630003; clear HO655; clear HO662; clear HO666; clear BK591; clear BK610; clear BK618; clear BK629; clear BK667; clear HB; have HO_7 := n0_; have HO_10 := n1_; have HO_611003 := n2_; have HO_619003 := n3_; have HO_630003 := n4_; have HO655 := n5_; have HO662 := n6_; have HO666 := n7_; have BK591 := n8_; have BK610 := n9_; have BK618 := n10_; have BK629 := n11_; have BK667 := n12_; have HB := n13_; clear n0_ n1_ n2_ n3_ n4_ n5_ n6_ n7_ n8_ n9_ n10_ n11_ n12_ n13_; (try clear hb); (try clear hb2); (try clear hk); (try clear hi)))
               go_meet
               case rel => exact ⟨_, (!t669), (by first | rfl | (simp; done) | (simp [*]; done)), H', ⟨by have := HJ13.out; have := HJ66.out; first | omega | exact Nat.le_refl _⟩, ⟨by (try simp only [hl619003_66]); (with_reducible repeat (first | apply Kd.R_alloc | apply Kd.R_drewN | apply Kd.R_drew)); exact Kd.R_mono HO_10.out (fun _ hk => trivial)⟩, ⟨by (try simp only [hl619003_66]); (with_reducible repeat (first | apply Kd.R_alloc | apply Kd.R_drewN | apply Kd.R_drew)); exact Kd.R_mono HO_611003.out (fun _ hk => ⟨hk.1.1.1, ⟨hk.1.1.2, hk.2⟩⟩)⟩, ⟨by (try simp only [hl619003_66]); (with_reducible repeat (first | apply Kd.R_alloc | apply Kd.R_drewN | apply Kd.R_drew)); exact Kd.R_mono HO_619003.out (fun _ hk => ⟨hk.1.1.1, ⟨hk.1.1.2, hk.2⟩⟩)⟩, ⟨by (try simp only [hl619003_66]); (with_reducible repeat (first | apply Kd.R_alloc | apply Kd.R_drewN | apply Kd.R_drew)); exact Kd.R_mono HO_630003.out (fun _ hk => ⟨hk.1.1.1, ⟨hk.1.1.2, hk.2⟩⟩)⟩, ⟨by (try simp only [hl619003_66]); (with_reducible repeat (first | apply Kd.R_alloc | apply Kd.R_drewN | apply Kd.R_drew)); exact Kd.R_mono HO662.out (fun _ hk => ⟨hk.1.1.1.2, ⟨hk.1.1.2, hk.1.2⟩⟩)⟩, ⟨by (try simp only [hl619003_66]); (with_reducible repeat (first | refine blk_drewN ?_ _ | refine blk_drew ?_ | refine blk_alloc ?_ _)); exact BK591.out⟩, ⟨by (try simp only [hl619003_66]); (with_reducible repeat (first | refine blk_drewN ?_ _ | refine blk_drew ?_ | refine blk_alloc ?_ _)); exact BK610.out⟩, ⟨by (try simp only [hl619003_66]); (with_reducible repeat (first | refine blk_drewN ?_ _ | refine blk_drew ?_ | refine blk_alloc ?_ _)); exact BK618.out⟩, ⟨by (try simp only [hl619003_66]); (with_reducible repeat (first | refine blk_drewN ?_ _ | refine blk_drew ?_ | refine blk_alloc ?_ _)); exact BK629.out⟩, ⟨by (try simp only [hl619003_66]); (with_reducible repeat (first | refine blk_drewN ?_ _ | refine blk_drew ?_ | refine blk_alloc ?_ _)); exact BK667.out⟩, ⟨by repeat (first | (with_reducible first | exact HB.out | apply below_alloc | apply pw_below_drewN | apply below_drew1 | refine below_set ?_ GE591.out | refine below_set ?_ GE610.out | refine below_set ?_ GE618.out | refine below_set ?_ GE629.out | refine below_set ?_ GE667.out) | exact HB.out)⟩⟩
              ·replace c154 := Bool.eq_false_iff.mpr c154
               subst c154
               have H1 : (laws_FnExactFopSend.j2 kj66 t647 t646 true t619 t620 t621 t645 t625) = some r := by rw [if_neg (show ¬ (false = true) by decide)] at H; exact H
               clear H
               have H := H1
               clear H1
               have H' := Aside0.mk H
               clear H
               have hnb169 := NB667_591.out
               have hnc169 := NB591_667.out
               have hnb170 := NB667_610.out
               have hnc170 := NB610_667.out
               have hnb171 := NB667_618.out
               have hnc171 := NB618_667.out
               have hnb172 := NB667_629.out
               have hnc172 := NB629_667.out
               have hcz173_0 : w146.cell? ⟨gb667, 0, none⟩ = some (.int .i64 0) := bc BK667 0
               have hcz173_1 : w146.cell? ⟨gb667, 1, none⟩ = some (.int .i64 0) := bc BK667 1
               have hcz173_2 : w146.cell? ⟨gb667, 2, none⟩ = some (.int .i64 0) := bc BK667 2
               have hcz173_3 : w146.cell? ⟨gb667, 3, none⟩ = some (.slice none 0 0) := bc BK667 3
               have hcz173_4 : w146.cell? ⟨gb667, 4, none⟩ = some (.bool false) := bc BK667 4
               have hfz173_0 := blk_frozen BK667.out 0
               have hfz173_1 := blk_frozen BK667.out 1
               have hfz173_2 := blk_frozen BK667.out 2
               have hfz173_3 := blk_frozen BK667.out 3
               have hfz173_4 := blk_frozen BK667.out 4
               have hnb174 := NB610_591.out
               have hnc174 := NB591_610.out
               have hnb175 := NB610_618.out
               have hnc175 := NB618_610.out
               have hnb176 := NB610_629.out
               have hnc176 := NB629_610.out
               have hcz177_0 : w146.cell? ⟨gb610, 0, none⟩ = some (.int .i64 t600) := bc BK610 0
               have hcz177_1 : w146.cell? ⟨gb610, 1, none⟩ = some (.int .i64 t601) := bc BK610 1
               have hcz177_2 : w146.cell? ⟨gb610, 2, none⟩ = some (.int .i64 t602) := bc BK610 2
               have hcz177_3 : w146.cell? ⟨gb610, 3, none⟩ = some (.slice Ao25 t603.length co25) := bc BK610 3
               have hcz177_4 : w146.cell? ⟨gb610, 4, none⟩ = some (.bool t606) := bc BK610 4
               have hfz177_0 := blk_frozen BK610.out 0
               have hfz177_1 := blk_frozen BK610.out 1
               have hfz177_2 := blk_frozen BK610.out 2
               have hfz177_3 := blk_frozen BK610.out 3
               have hfz177_4 := blk_frozen BK610.out 4
               go_wp2_with (first | ((with_reducible refine gate_callee (f := 22) rfl ?_); refine goesL_ (some 99) rfl rfl Try.func22 (by kernel_rfl) rfl #[.agg #[.int .i64 t657, .int .i64 t658, .int .i64 t659, .slice Ao152 t660.length co152, .bool t663], .agg #[.int .i64 t600, .int .i64 t601, .int .i64 t602, .slice Ao25 t603.length co25, .bool t606]] rfl gl_ ?_; (with_reducible refine (laws_eqFop.calls kj66 t657 t658 t659 _ _ t660 t663 t600 t601 t602 _ _ t603 t606 false _ ?side1 ?side2 ?side3 ?side4 A153.out).mono ?_); (case side1 => refine (Kd.R_reads' (e := 9) (base := w.heap.size) (ok := fun k_ => ((((True ∧ nb Ao25 t603.length co25 k_) ∧ nb Ao32 t641.length co32 k_) ∧ nb Ao39 t622.length co39 k_) ∧ nb Ao144 t653.length co144 k_)) (n := t660.length) (c := co152) ?_).2.2; exact (frN (Kd.R_types HO662.out BK667.out (by decide)))); (case side2 => exact (Kd.R_reads' HO662.out).2.1); (case side3 => refine (Kd.R_reads' (e := 9) (base := w.heap.size) (ok := fun k_ => (((nb Ao32 t641.length co32 k_ ∧ nb Ao39 t622.length co39 k_) ∧ nb Ao144 t653.length co144 k_) ∧ nb Ao152 t660.length co152 k_)) (n := t603.length) (c := co25) ?_).2.2; exact (frN (Kd.R_types HO_611003.out BK667.out (by decide)))); (case side4 => exact (Kd.R_reads' HO_611003.out).2.1); rintro e w178 ⟨rfl, hb⟩; refine ⟨_, rfl, ?_⟩; have n0_ := m_ (Kd.R_below (frN (Kd.R_types HO_7.out BK667.out (by decide))) hb); have n1_ := m_ (Kd.R_below (frN (Kd.R_types HO_10.out BK667.out (by decide))) hb); have n2_ := m_ (Kd.R_below (frN (Kd.R_types HO_611003.out BK667.out (by decide))) hb); have n3_ := m_ (Kd.R_below (frN (Kd.R_types HO_619003.out BK667.out (by decide))) hb); have n4_ := m_ (Kd.R_below (frN (Kd.R_types HO_630003.out BK667.out (by decide))) hb); have n5_ := m_ (Kd.R_below (frN (Kd.R_types HO655.out BK667.out (by decide))) hb); have n6_ := m_ (Kd.R_below (frN (Kd.R_types HO662.out BK667.out (by decide))) hb); have n7_ := m_ (Kd.R_below (frN (Kd.R_types HO666.out BK667.out (by decide))) hb); have n8_ := m_ (blk_below (g := gb591) (o := .cells #[.int .i64 a0_0, .int .i64 a0_1, .int .i64 a0_2, .slice A0_3 l0_3.length c0_3, .bool a0_4] 45 (0, 0)) (kF BK591.out NB591_667.out) hb); have n9_ := m_ (blk_below (g := gb610) (o := .cells #[.int .i64 t600, .int .i64 t601, .int .i64 t602, .slice Ao25 t603.length co25, .bool t606] 25 (0, 0)) (kF BK610.out NB610_667.out) hb); have n10_ := m_ (blk_below (g := gb618) (o := .cells #[.int .i64 t611, .int .i64 t612, .int .i64 t613, .slice Ao32 t641.length co32, .bool t617] 25 (0, 0)) (kF BK618.out NB618_667.out) hb); have n11_ := m_ (blk_below (g := gb629) (o := .cells #[.int .i64 t619, .int .i64 t620, .int .i64 t621, .slice Ao39 t622.length co39, .bool t625] 25 (0, 0)) (kF BK629.out NB629_667.out) hb); have n12_ := m_ (blk_below (g := gb667) (o := .cells #[.int .i64 t657, .int .i64 t658, .int .i64 t659, .slice Ao152 t660.length co152, .bool t663] 25 (0, 0)) (kP BK667.out) hb); have n13_ := m_ (below_step (bN HB.out) hb); clear HO_7; clear HO_10; clear HO_611003; clear HO_619003; clear HO_630003; clear HO655; clear HO662; clear HO666; clear BK591; clear BK610; clear BK618; clear BK629; clear BK667; clear HB; have HO_7 := n0_; have HO_10 := n1_; have HO_611003 := n2_; have HO_619003 := n3_; have HO_630003 := n4_; have HO655 := n5_; have HO662 := n6_; have HO666 := n7_; have BK591 := n8_; have BK610 := n9_; have BK618 := n10_; have BK629 := n11_; have BK667 := n12_; have HB := n13_; clear n0_ n1_ n2_ n3_ n4_ n5_ n6_ n7_ n8_ n9_ n10_ n11_ n12_ n13_; (try clear hb); (try clear hb2); (try clear hk); (try clear hi)))
               go_meet
               case rel => exact ⟨_, (true), (by first | rfl | (simp; done) | (simp [*]; done)), H', ⟨by have := HJ13.out; have := HJ66.out; first | omega | exact Nat.le_refl _⟩, ⟨by (try simp only [hl619003_66]); (with_reducible repeat (first | apply Kd.R_alloc | apply Kd.R_drewN | apply Kd.R_drew)); exact Kd.R_mono HO_10.out (fun _ hk => trivial)⟩, ⟨by (try simp only [hl619003_66]); (with_reducible repeat (first | apply Kd.R_alloc | apply Kd.R_drewN | apply Kd.R_drew)); exact Kd.R_mono HO_611003.out (fun _ hk => ⟨hk.1.1.1, ⟨hk.1.1.2, hk.2⟩⟩)⟩, ⟨by (try simp only [hl619003_66]); (with_reducible repeat (first | apply Kd.R_alloc | apply Kd.R_drewN | apply Kd.R_drew)); exact Kd.R_mono HO_619003.out (fun _ hk => ⟨hk.1.1.1, ⟨hk.1.1.2, hk.2⟩⟩)⟩, ⟨by (try simp only [hl619003_66]); (with_reducible repeat (first | apply Kd.R_alloc | apply Kd.R_drewN | apply Kd.R_drew)); exact Kd.R_mono HO_630003.out (fun _ hk => ⟨hk.1.1.1, ⟨hk.1.1.2, hk.2⟩⟩)⟩, ⟨by (try simp only [hl619003_66]); (with_reducible repeat (first | apply Kd.R_alloc | apply Kd.R_drewN | apply Kd.R_drew)); exact Kd.R_mono HO662.out (fun _ hk => ⟨hk.1.1.1.2, ⟨hk.1.1.2, hk.1.2⟩⟩)⟩, ⟨by (try simp only [hl619003_66]); (with_reducible repeat (first | refine blk_drewN ?_ _ | refine blk_drew ?_ | refine blk_alloc ?_ _)); exact BK591.out⟩, ⟨by (try simp only [hl619003_66]); (with_reducible repeat (first | refine blk_drewN ?_ _ | refine blk_drew ?_ | refine blk_alloc ?_ _)); exact BK610.out⟩, ⟨by (try simp only [hl619003_66]); (with_reducible repeat (first | refine blk_drewN ?_ _ | refine blk_drew ?_ | refine blk_alloc ?_ _)); exact BK618.out⟩, ⟨by (try simp only [hl619003_66]); (with_reducible repeat (first | refine blk_drewN ?_ _ | refine blk_drew ?_ | refine blk_alloc ?_ _)); exact BK629.out⟩, ⟨by (try simp only [hl619003_66]); (with_reducible repeat (first | refine blk_drewN ?_ _ | refine blk_drew ?_ | refine blk_alloc ?_ _)); exact BK667.out⟩, ⟨by repeat (first | (with_reducible first | exact HB.out | apply below_alloc | apply pw_below_drewN | apply below_drew1 | refine below_set ?_ GE591.out | refine below_set ?_ GE610.out | refine below_set ?_ GE618.out | refine below_set ?_ GE629.out | refine below_set ?_ GE667.out) | exact HB.out)⟩⟩
             case rest =>
              clear HC129
              try clear c1
              try clear c2
              try clear p2
              try clear c3
              try clear c3b0
              try clear c3b1
              try clear c4
              try clear c5
              try clear c6
              try clear c6b0
              try clear c7
              try clear c8
              try clear c9
              try clear c10
              try clear c11
              try clear c12
              try clear c13
              try clear c14
              try clear c15
              try clear c16
              try clear c17
              try clear c19
              try clear c20
              try clear c22
              try clear c23
              try clear c24
              try clear c26
              try clear c27
              try clear c29
              try clear c30
              try clear c35
              try clear c36
              try clear c37
              try clear c41
              try clear c43
              try clear c44
              try clear c45
              try clear c47
              try clear c48
              try clear c54
              try clear c55
              try clear c56
              try clear c58
              try clear c59
              try clear c62
              try clear c65
              try clear c72
              try clear c73
              try clear c74
              try clear c77
              try clear c77b0
              try clear c79
              try clear c81
              try clear c82
              try clear c83
              try clear c85
              try clear c86
              try clear c92
              try clear c93
              try clear c94
              try clear c96
              try clear c97
              try clear c100
              try clear c104
              try clear c104b0
              try clear c105
              try clear c106
              try clear c107
              try clear c115
              try clear c115b0
              try clear c116
              try clear c117
              try clear c118
              try clear c126
              try clear c126b0
              try clear c126b1
              try clear c130
              try clear c131
              try clear c132
              try clear c140
              try clear c141
              try clear c147
              try clear c148
              try clear c149
              try clear c150
              try clear c154
              try clear c156
              try clear c157
              try clear c158
              try clear c159
              try clear c161
              try clear c162
              try clear c163
              try clear c169
              try clear c170
              try clear c171
              try clear c172
              try clear c174
              try clear c175
              try clear c176
              try clear hcz108_0
              try clear hcz108_1
              try clear hcz108_2
              try clear hcz108_3
              try clear hcz108_4
              try clear hcz112_0
              try clear hcz112_1
              try clear hcz112_2
              try clear hcz112_3
              try clear hcz112_4
              try clear hcz119_0
              try clear hcz119_1
              try clear hcz119_2
              try clear hcz119_3
              try clear hcz119_4
              try clear hcz123_0
              try clear hcz123_1
              try clear hcz123_2
              try clear hcz123_3
              try clear hcz123_4
              try clear hcz133_0
              try clear hcz133_1
              try clear hcz133_2
              try clear hcz133_3
              try clear hcz133_4
              try clear hcz137_0
              try clear hcz137_1
              try clear hcz137_2
              try clear hcz137_3
              try clear hcz137_4
              try clear hcz142_0
              try clear hcz142_1
              try clear hcz142_2
              try clear hcz142_3
              try clear hcz142_4
              try clear hcz151_0
              try clear hcz151_1
              try clear hcz151_2
              try clear hcz151_3
              try clear hcz151_4
              try clear hcz160_0
              try clear hcz160_1
              try clear hcz160_2
              try clear hcz160_3
              try clear hcz160_4
              try clear hcz164_0
              try clear hcz164_1
              try clear hcz164_2
              try clear hcz164_3
              try clear hcz164_4
              try clear hcz16_0
              try clear hcz16_1
              try clear hcz16_2
              try clear hcz16_3
              try clear hcz16_4
              try clear hcz173_0
              try clear hcz173_1
              try clear hcz173_2
              try clear hcz173_3
              try clear hcz173_4
              try clear hcz177_0
              try clear hcz177_1
              try clear hcz177_2
              try clear hcz177_3
              try clear hcz177_4
              try clear hcz18_0
              try clear hcz18_1
              try clear hcz18_2
              try clear hcz18_3
              try clear hcz18_4
              try clear hcz24_0
              try clear hcz24_1
              try clear hcz24_2
              try clear hcz24_3
              try clear hcz24_4
              try clear hcz26_0
              try clear hcz26_1
              try clear hcz26_2
              try clear hcz26_3
              try clear hcz26_4
              try clear hcz31_0
              try clear hcz31_1
              try clear hcz31_2
              try clear hcz31_3
              try clear hcz31_4
              try clear hcz38_0
              try clear hcz38_1
              try clear hcz38_2
              try clear hcz38_3
              try clear hcz38_4
              try clear hcz46_0
              try clear hcz46_1
              try clear hcz46_2
              try clear hcz46_3
              try clear hcz46_4
              try clear hcz49_0
              try clear hcz49_1
              try clear hcz49_2
              try clear hcz49_3
              try clear hcz49_4
              try clear hcz57_0
              try clear hcz57_1
              try clear hcz57_2
              try clear hcz57_3
              try clear hcz57_4
              try clear hcz60_0
              try clear hcz60_1
              try clear hcz60_2
              try clear hcz60_3
              try clear hcz60_4
              try clear hcz75_0
              try clear hcz75_1
              try clear hcz75_2
              try clear hcz75_3
              try clear hcz75_4
              try clear hcz84_0
              try clear hcz84_1
              try clear hcz84_2
              try clear hcz84_3
              try clear hcz84_4
              try clear hcz87_0
              try clear hcz87_1
              try clear hcz87_2
              try clear hcz87_3
              try clear hcz87_4
              try clear hcz8_0
              try clear hcz8_1
              try clear hcz8_2
              try clear hcz8_3
              try clear hcz8_4
              try clear hcz95_0
              try clear hcz95_1
              try clear hcz95_2
              try clear hcz95_3
              try clear hcz95_4
              try clear hcz98_0
              try clear hcz98_1
              try clear hcz98_2
              try clear hcz98_3
              try clear hcz98_4
              try clear hfz108_0
              try clear hfz108_1
              try clear hfz108_2
              try clear hfz108_3
              try clear hfz108_4
              try clear hfz112_0
              try clear hfz112_1
              try clear hfz112_2
              try clear hfz112_3
              try clear hfz112_4
              try clear hfz119_0
              try clear hfz119_1
              try clear hfz119_2
              try clear hfz119_3
              try clear hfz119_4
              try clear hfz123_0
              try clear hfz123_1
              try clear hfz123_2
              try clear hfz123_3
              try clear hfz123_4
              try clear hfz133_0
              try clear hfz133_1
              try clear hfz133_2
              try clear hfz133_3
              try clear hfz133_4
              try clear hfz137_0
              try clear hfz137_1
              try clear hfz137_2
              try clear hfz137_3
              try clear hfz137_4
              try clear hfz142_0
              try clear hfz142_1
              try clear hfz142_2
              try clear hfz142_3
              try clear hfz142_4
              try clear hfz151_0
              try clear hfz151_1
              try clear hfz151_2
              try clear hfz151_3
              try clear hfz151_4
              try clear hfz160_0
              try clear hfz160_1
              try clear hfz160_2
              try clear hfz160_3
              try clear hfz160_4
              try clear hfz164_0
              try clear hfz164_1
              try clear hfz164_2
              try clear hfz164_3
              try clear hfz164_4
              try clear hfz16_0
              try clear hfz16_1
              try clear hfz16_2
              try clear hfz16_3
              try clear hfz16_4
              try clear hfz173_0
              try clear hfz173_1
              try clear hfz173_2
              try clear hfz173_3
              try clear hfz173_4
              try clear hfz177_0
              try clear hfz177_1
              try clear hfz177_2
              try clear hfz177_3
              try clear hfz177_4
              try clear hfz18_0
              try clear hfz18_1
              try clear hfz18_2
              try clear hfz18_3
              try clear hfz18_4
              try clear hfz24_0
              try clear hfz24_1
              try clear hfz24_2
              try clear hfz24_3
              try clear hfz24_4
              try clear hfz26_0
              try clear hfz26_1
              try clear hfz26_2
              try clear hfz26_3
              try clear hfz26_4
              try clear hfz31_0
              try clear hfz31_1
              try clear hfz31_2
              try clear hfz31_3
              try clear hfz31_4
              try clear hfz38_0
              try clear hfz38_1
              try clear hfz38_2
              try clear hfz38_3
              try clear hfz38_4
              try clear hfz46_0
              try clear hfz46_1
              try clear hfz46_2
              try clear hfz46_3
              try clear hfz46_4
              try clear hfz49_0
              try clear hfz49_1
              try clear hfz49_2
              try clear hfz49_3
              try clear hfz49_4
              try clear hfz57_0
              try clear hfz57_1
              try clear hfz57_2
              try clear hfz57_3
              try clear hfz57_4
              try clear hfz60_0
              try clear hfz60_1
              try clear hfz60_2
              try clear hfz60_3
              try clear hfz60_4
              try clear hfz75_0
              try clear hfz75_1
              try clear hfz75_2
              try clear hfz75_3
              try clear hfz75_4
              try clear hfz84_0
              try clear hfz84_1
              try clear hfz84_2
              try clear hfz84_3
              try clear hfz84_4
              try clear hfz87_0
              try clear hfz87_1
              try clear hfz87_2
              try clear hfz87_3
              try clear hfz87_4
              try clear hfz8_0
              try clear hfz8_1
              try clear hfz8_2
              try clear hfz8_3
              try clear hfz8_4
              try clear hfz95_0
              try clear hfz95_1
              try clear hfz95_2
              try clear hfz95_3
              try clear hfz95_4
              try clear hfz98_0
              try clear hfz98_1
              try clear hfz98_2
              try clear hfz98_3
              try clear hfz98_4
              try clear p2
              obtain ⟨kq, x106_128, rfl, HA, HJ128, HO_10, HO_611003, HO_619003, HO_630003, HO_668003, BK591, BK610, BK618, BK629, BK667, HB⟩ := hcut
              have hl10_128 := (Kd.R_reads' HO_10.out).1
              rw [hl10_128] at HO_10
              (try simp only [hl10_128])
              (try simp only [hl10_128] at BK591)
              (try simp only [hl10_128] at BK610)
              (try simp only [hl10_128] at BK618)
              (try simp only [hl10_128] at BK629)
              (try simp only [hl10_128] at BK667)
              (try simp only [hl10_128] at HO_611003)
              (try simp only [hl10_128] at HO_619003)
              (try simp only [hl10_128] at HO_630003)
              (try simp only [hl10_128] at HO_668003)
              have hl630003_128 := (Kd.R_reads' HO_630003.out).1
              rw [hl630003_128] at HO_630003
              (try simp only [hl630003_128])
              (try simp only [hl630003_128] at BK591)
              (try simp only [hl630003_128] at BK610)
              (try simp only [hl630003_128] at BK618)
              (try simp only [hl630003_128] at BK629)
              (try simp only [hl630003_128] at BK667)
              (try simp only [hl630003_128] at HO_10)
              (try simp only [hl630003_128] at HO_611003)
              (try simp only [hl630003_128] at HO_619003)
              (try simp only [hl630003_128] at HO_668003)
              cases kq with
              | zero => exact absurd HA.out (by simp [laws_FnExactFopSend.j2])
              | succ kj128 =>
               have H := HA.out
               clear HA
               simp only [laws_FnExactFopSend.j2] at H
               by_cases c179 : x106_128 = true
               ·subst c179
                have H1 : (some false) = some r := by rw [if_pos rfl] at H; exact H
                clear H
                have H := H1
                clear H1
                obtain rfl := Option.some.inj H
                go_wp2
                go_ret
                exact ⟨by first | rfl | (simp [errW_none, errW_some] <;> rfl) | (simp [*, errW_none, errW_some] <;> rfl), by repeat (first | (with_reducible first | exact HB.out | apply below_alloc | apply pw_below_drewN | apply below_drew1 | refine below_set ?_ GE591.out | refine below_set ?_ GE610.out | refine below_set ?_ GE618.out | refine below_set ?_ GE629.out | refine below_set ?_ GE667.out) | exact HB.out)⟩
               ·replace c179 := Bool.eq_false_iff.mpr c179
                subst c179
                have H1 : ((laws_heldFop.f kj128 t619 t620 t621 t645 t625 1).bind fun t670 => (if t670 < 0 then (some false) else ((laws_heldFrameS.f kj128 t647 t670).bind fun t671 => (if t671 < 0 then (some false) else (if t671 = t646 then (some true) else (some false)))))) = some r := by rw [if_neg (show ¬ (false = true) by decide)] at H; exact H
                clear H
                have H := H1
                clear H1
                replace H := Option.bind_eq_some_iff.mp H
                obtain ⟨t670, A1800, H⟩ := H
                replace H : (if t670 < 0 then (some false) else ((laws_heldFrameS.f kj128 t647 t670).bind fun t671 => (if t671 < 0 then (some false) else (if t671 = t646 then (some true) else (some false))))) = some r := H
                have A180 := Aside0.mk A1800
                clear A1800
                by_cases c181 : t670 < 0
                ·rw [if_pos c181] at H
                 have c181b0 : decide (t670 < 0) = true := decide_eq_true c181
                 clear c181
                 obtain rfl := Option.some.inj H
                 have hnb182 := NB629_591.out
                 have hnc182 := NB591_629.out
                 have hnb183 := NB629_610.out
                 have hnc183 := NB610_629.out
                 have hnb184 := NB629_618.out
                 have hnc184 := NB618_629.out
                 have hnb185 := NB629_667.out
                 have hnc185 := NB667_629.out
                 have hcz186_0 : wc.cell? ⟨gb629, 0, none⟩ = some (.int .i64 t619) := bc BK629 0
                 have hcz186_1 : wc.cell? ⟨gb629, 1, none⟩ = some (.int .i64 t620) := bc BK629 1
                 have hcz186_2 : wc.cell? ⟨gb629, 2, none⟩ = some (.int .i64 t621) := bc BK629 2
                 have hcz186_3 : wc.cell? ⟨gb629, 3, none⟩ = some (.slice Ao39 t645.length co39) := bc BK629 3
                 have hcz186_4 : wc.cell? ⟨gb629, 4, none⟩ = some (.bool t625) := bc BK629 4
                 have hfz186_0 := blk_frozen BK629.out 0
                 have hfz186_1 := blk_frozen BK629.out 1
                 have hfz186_2 := blk_frozen BK629.out 2
                 have hfz186_3 := blk_frozen BK629.out 3
                 have hfz186_4 := blk_frozen BK629.out 4
                 go_wp2_with (first | ((with_reducible refine gate_callee (f := 24) rfl ?_); refine goesL_ (some 109) rfl rfl Try.func24 (by kernel_rfl) rfl #[.agg #[.int .i64 t619, .int .i64 t620, .int .i64 t621, .slice Ao39 t645.length co39, .bool t625], .int .i64 1] rfl gl_ ?_; (with_reducible refine (laws_heldFop.calls kj128 t619 t620 t621 _ _ t645 t625 1 t670 _ ?side1 ?side2 A180.out).mono ?_); (case side1 => exact cN (Kd.R_reads' HO_630003.out).2.2); (case side2 => exact (Kd.R_reads' HO_630003.out).2.1); rintro e w187 ⟨rfl, hb⟩; refine ⟨_, rfl, ?_⟩; have n0_ := m_ (Kd.R_below (rN HO_10.out) hb); have n1_ := m_ (Kd.R_below (rN HO_611003.out) hb); have n2_ := m_ (Kd.R_below (rN HO_619003.out) hb); have n3_ := m_ (Kd.R_below (rN HO_630003.out) hb); have n4_ := m_ (Kd.R_below (rN HO_668003.out) hb); have n5_ := m_ (blk_below (kN BK591.out) hb); have n6_ := m_ (blk_below (kN BK610.out) hb); have n7_ := m_ (blk_below (kN BK618.out) hb); have n8_ := m_ (blk_below (kN BK629.out) hb); have n9_ := m_ (blk_below (kN BK667.out) hb); have n10_ := m_ (below_step (bN HB.out) hb); clear HO_10; clear HO_611003; clear HO_619003; clear HO_630003; clear HO_668003; clear BK591; clear BK610; clear BK618; clear BK629; clear BK667; clear HB; have HO_10 := n0_; have HO_611003 := n1_; have HO_619003 := n2_; have HO_630003 := n3_; have HO_668003 := n4_; have BK591 := n5_; have BK610 := n6_; have BK618 := n7_; have BK629 := n8_; have BK667 := n9_; have HB := n10_; clear n0_ n1_ n2_ n3_ n4_ n5_ n6_ n7_ n8_ n9_ n10_; (try clear hb); (try clear hb2); (try clear hk); (try clear hi)))
                 go_ret
                 exact ⟨by first | rfl | (simp [errW_none, errW_some] <;> rfl) | (simp [*, errW_none, errW_some] <;> rfl), by repeat (first | (with_reducible first | exact HB.out | apply below_alloc | apply pw_below_drewN | apply below_drew1 | refine below_set ?_ GE591.out | refine below_set ?_ GE610.out | refine below_set ?_ GE618.out | refine below_set ?_ GE629.out | refine below_set ?_ GE667.out) | exact HB.out)⟩
                ·rw [if_neg c181] at H
                 have c181b0 : decide (t670 < 0) = false := decide_eq_false c181
                 clear c181
                 replace H := Option.bind_eq_some_iff.mp H
                 obtain ⟨t671, A1880, H⟩ := H
                 replace H : (if t671 < 0 then (some false) else (if t671 = t646 then (some true) else (some false))) = some r := H
                 have A188 := Aside0.mk A1880
                 clear A1880
                 by_cases c189 : t671 < 0
                 ·rw [if_pos c189] at H
                  have c189b0 : decide (t671 < 0) = true := decide_eq_true c189
                  clear c189
                  obtain rfl := Option.some.inj H
                  have hnb190 := NB629_591.out
                  have hnc190 := NB591_629.out
                  have hnb191 := NB629_610.out
                  have hnc191 := NB610_629.out
                  have hnb192 := NB629_618.out
                  have hnc192 := NB618_629.out
                  have hnb193 := NB629_667.out
                  have hnc193 := NB667_629.out
                  have hcz194_0 : wc.cell? ⟨gb629, 0, none⟩ = some (.int .i64 t619) := bc BK629 0
                  have hcz194_1 : wc.cell? ⟨gb629, 1, none⟩ = some (.int .i64 t620) := bc BK629 1
                  have hcz194_2 : wc.cell? ⟨gb629, 2, none⟩ = some (.int .i64 t621) := bc BK629 2
                  have hcz194_3 : wc.cell? ⟨gb629, 3, none⟩ = some (.slice Ao39 t645.length co39) := bc BK629 3
                  have hcz194_4 : wc.cell? ⟨gb629, 4, none⟩ = some (.bool t625) := bc BK629 4
                  have hfz194_0 := blk_frozen BK629.out 0
                  have hfz194_1 := blk_frozen BK629.out 1
                  have hfz194_2 := blk_frozen BK629.out 2
                  have hfz194_3 := blk_frozen BK629.out 3
                  have hfz194_4 := blk_frozen BK629.out 4
                  go_wp2_with (first | ((with_reducible refine gate_callee (f := 24) rfl ?_); refine goesL_ (some 109) rfl rfl Try.func24 (by kernel_rfl) rfl #[.agg #[.int .i64 t619, .int .i64 t620, .int .i64 t621, .slice Ao39 t645.length co39, .bool t625], .int .i64 1] rfl gl_ ?_; (with_reducible refine (laws_heldFop.calls kj128 t619 t620 t621 _ _ t645 t625 1 t670 _ ?side1 ?side2 A180.out).mono ?_); (case side1 => exact cN (Kd.R_reads' HO_630003.out).2.2); (case side2 => exact (Kd.R_reads' HO_630003.out).2.1); rintro e w195 ⟨rfl, hb⟩; refine ⟨_, rfl, ?_⟩; have n0_ := m_ (Kd.R_below (rN HO_10.out) hb); have n1_ := m_ (Kd.R_below (rN HO_611003.out) hb); have n2_ := m_ (Kd.R_below (rN HO_619003.out) hb); have n3_ := m_ (Kd.R_below (rN HO_630003.out) hb); have n4_ := m_ (Kd.R_below (rN HO_668003.out) hb); have n5_ := m_ (blk_below (kN BK591.out) hb); have n6_ := m_ (blk_below (kN BK610.out) hb); have n7_ := m_ (blk_below (kN BK618.out) hb); have n8_ := m_ (blk_below (kN BK629.out) hb); have n9_ := m_ (blk_below (kN BK667.out) hb); have n10_ := m_ (below_step (bN HB.out) hb); clear HO_10; clear HO_611003; clear HO_619003; clear HO_630003; clear HO_668003; clear BK591; clear BK610; clear BK618; clear BK629; clear BK667; clear HB; have HO_10 := n0_; have HO_611003 := n1_; have HO_619003 := n2_; have HO_630003 := n3_; have HO_668003 := n4_; have BK591 := n5_; have BK610 := n6_; have BK618 := n7_; have BK629 := n8_; have BK667 := n9_; have HB := n10_; clear n0_ n1_ n2_ n3_ n4_ n5_ n6_ n7_ n8_ n9_ n10_; (try clear hb); (try clear hb2); (try clear hk); (try clear hi)) | ((with_reducible refine gate_callee (f := 27) rfl ?_); refine goesL_ (some 114) rfl rfl Try.func27 (by kernel_rfl) rfl #[.slice Ao135 t647.length co135, .int .i64 t670] rfl gl_ ?_; (with_reducible refine (laws_heldFrameS.calls kj128 _ _ t647 t670 t671 _ ?side1 ?side2 A188.out).mono ?_); (case side1 => exact cN (Kd.R_reads' HO_10.out).2.2); (case side2 => exact (Kd.R_reads' HO_10.out).2.1); rintro e w196 ⟨rfl, hb⟩; refine ⟨_, rfl, ?_⟩; have n0_ := m_ (Kd.R_below (rN HO_10.out) hb); have n1_ := m_ (Kd.R_below (rN HO_611003.out) hb); have n2_ := m_ (Kd.R_below (rN HO_619003.out) hb); have n3_ := m_ (Kd.R_below (rN HO_630003.out) hb); have n4_ := m_ (Kd.R_below (rN HO_668003.out) hb); have n5_ := m_ (blk_below (kN BK591.out) hb); have n6_ := m_ (blk_below (kN BK610.out) hb); have n7_ := m_ (blk_below (kN BK618.out) hb); have n8_ := m_ (blk_below (kN BK629.out) hb); have n9_ := m_ (blk_below (kN BK667.out) hb); have n10_ := m_ (below_step (bN HB.out) hb); clear HO_10; clear HO_611003; clear HO_619003; clear HO_630003; clear HO_668003; clear BK591; clear BK610; clear BK618; clear BK629; clear BK667; clear HB; have HO_10 := n0_; have HO_611003 := n1_; have HO_619003 := n2_; have HO_630003 := n3_; have HO_668003 := n4_; have BK591 := n5_; have BK610 := n6_; have BK618 := n7_; have BK629 := n8_; have BK667 := n9_; have HB := n10_; clear n0_ n1_ n2_ n3_ n4_ n5_ n6_ n7_ n8_ n9_ n10_; (try clear hb); (try clear hb2); (try clear hk); (try clear hi)))
                  go_ret
                  exact ⟨by first | rfl | (simp [errW_none, errW_some] <;> rfl) | (simp [*, errW_none, errW_some] <;> rfl), by repeat (first | (with_reducible first | exact HB.out | apply below_alloc | apply pw_below_drewN | apply below_drew1 | refine below_set ?_ GE591.out | refine below_set ?_ GE610.out | refine below_set ?_ GE618.out | refine below_set ?_ GE629.out | refine below_set ?_ GE667.out) | exact HB.out)⟩
                 ·rw [if_neg c189] at H
                  have c189b0 : decide (t671 < 0) = false := decide_eq_false c189
                  clear c189
                  by_cases c197 : t671 = t646
                  ·rw [if_pos c197] at H
                   have c197b0 : (t671 == t646) = true := beq_iff_eq.mpr c197
                   have c197b1 : (t671 != t646) = false := bne_eq_false_iff_eq.mpr c197
                   clear c197
                   obtain rfl := Option.some.inj H
                   have hnb198 := NB629_591.out
                   have hnc198 := NB591_629.out
                   have hnb199 := NB629_610.out
                   have hnc199 := NB610_629.out
                   have hnb200 := NB629_618.out
                   have hnc200 := NB618_629.out
                   have hnb201 := NB629_667.out
                   have hnc201 := NB667_629.out
                   have hcz202_0 : wc.cell? ⟨gb629, 0, none⟩ = some (.int .i64 t619) := bc BK629 0
                   have hcz202_1 : wc.cell? ⟨gb629, 1, none⟩ = some (.int .i64 t620) := bc BK629 1
                   have hcz202_2 : wc.cell? ⟨gb629, 2, none⟩ = some (.int .i64 t621) := bc BK629 2
                   have hcz202_3 : wc.cell? ⟨gb629, 3, none⟩ = some (.slice Ao39 t645.length co39) := bc BK629 3
                   have hcz202_4 : wc.cell? ⟨gb629, 4, none⟩ = some (.bool t625) := bc BK629 4
                   have hfz202_0 := blk_frozen BK629.out 0
                   have hfz202_1 := blk_frozen BK629.out 1
                   have hfz202_2 := blk_frozen BK629.out 2
                   have hfz202_3 := blk_frozen BK629.out 3
                   have hfz202_4 := blk_frozen BK629.out 4
                   go_wp2_with (first | ((with_reducible refine gate_callee (f := 24) rfl ?_); refine goesL_ (some 109) rfl rfl Try.func24 (by kernel_rfl) rfl #[.agg #[.int .i64 t619, .int .i64 t620, .int .i64 t621, .slice Ao39 t645.length co39, .bool t625], .int .i64 1] rfl gl_ ?_; (with_reducible refine (laws_heldFop.calls kj128 t619 t620 t621 _ _ t645 t625 1 t670 _ ?side1 ?side2 A180.out).mono ?_); (case side1 => exact cN (Kd.R_reads' HO_630003.out).2.2); (case side2 => exact (Kd.R_reads' HO_630003.out).2.1); rintro e w203 ⟨rfl, hb⟩; refine ⟨_, rfl, ?_⟩; have n0_ := m_ (Kd.R_below (rN HO_10.out) hb); have n1_ := m_ (Kd.R_below (rN HO_611003.out) hb); have n2_ := m_ (Kd.R_below (rN HO_619003.out) hb); have n3_ := m_ (Kd.R_below (rN HO_630003.out) hb); have n4_ := m_ (Kd.R_below (rN HO_668003.out) hb); have n5_ := m_ (blk_below (kN BK591.out) hb); have n6_ := m_ (blk_below (kN BK610.out) hb); have n7_ := m_ (blk_below (kN BK618.out) hb); have n8_ := m_ (blk_below (kN BK629.out) hb); have n9_ := m_ (blk_below (kN BK667.out) hb); have n10_ := m_ (below_step (bN HB.out) hb); clear HO_10; clear HO_611003; clear HO_619003; clear HO_630003; clear HO_668003; clear BK591; clear BK610; clear BK618; clear BK629; clear BK667; clear HB; have HO_10 := n0_; have HO_611003 := n1_; have HO_619003 := n2_; have HO_630003 := n3_; have HO_668003 := n4_; have BK591 := n5_; have BK610 := n6_; have BK618 := n7_; have BK629 := n8_; have BK667 := n9_; have HB := n10_; clear n0_ n1_ n2_ n3_ n4_ n5_ n6_ n7_ n8_ n9_ n10_; (try clear hb); (try clear hb2); (try clear hk); (try clear hi)) | ((with_reducible refine gate_callee (f := 27) rfl ?_); refine goesL_ (some 114) rfl rfl Try.func27 (by kernel_rfl) rfl #[.slice Ao135 t647.length co135, .int .i64 t670] rfl gl_ ?_; (with_reducible refine (laws_heldFrameS.calls kj128 _ _ t647 t670 t671 _ ?side1 ?side2 A188.out).mono ?_); (case side1 => exact cN (Kd.R_reads' HO_10.out).2.2); (case side2 => exact (Kd.R_reads' HO_10.out).2.1); rintro e w204 ⟨rfl, hb⟩; refine ⟨_, rfl, ?_⟩; have n0_ := m_ (Kd.R_below (rN HO_10.out) hb); have n1_ := m_ (Kd.R_below (rN HO_611003.out) hb); have n2_ := m_ (Kd.R_below (rN HO_619003.out) hb); have n3_ := m_ (Kd.R_below (rN HO_630003.out) hb); have n4_ := m_ (Kd.R_below (rN HO_668003.out) hb); have n5_ := m_ (blk_below (kN BK591.out) hb); have n6_ := m_ (blk_below (kN BK610.out) hb); have n7_ := m_ (blk_below (kN BK618.out) hb); have n8_ := m_ (blk_below (kN BK629.out) hb); have n9_ := m_ (blk_below (kN BK667.out) hb); have n10_ := m_ (below_step (bN HB.out) hb); clear HO_10; clear HO_611003; clear HO_619003; clear HO_630003; clear HO_668003; clear BK591; clear BK610; clear BK618; clear BK629; clear BK667; clear HB; have HO_10 := n0_; have HO_611003 := n1_; have HO_619003 := n2_; have HO_630003 := n3_; have HO_668003 := n4_; have BK591 := n5_; have BK610 := n6_; have BK618 := n7_; have BK629 := n8_; have BK667 := n9_; have HB := n10_; clear n0_ n1_ n2_ n3_ n4_ n5_ n6_ n7_ n8_ n9_ n10_; (try clear hb); (try clear hb2); (try clear hk); (try clear hi)))
                   go_ret
                   exact ⟨by first | rfl | (simp [errW_none, errW_some] <;> rfl) | (simp [*, errW_none, errW_some] <;> rfl), by repeat (first | (with_reducible first | exact HB.out | apply below_alloc | apply pw_below_drewN | apply below_drew1 | refine below_set ?_ GE591.out | refine below_set ?_ GE610.out | refine below_set ?_ GE618.out | refine below_set ?_ GE629.out | refine below_set ?_ GE667.out) | exact HB.out)⟩
                  ·rw [if_neg c197] at H
                   have c197b0 : (t671 == t646) = false := beq_eq_false_iff_ne.mpr c197
                   have c197b1 : (t671 != t646) = true := bne_iff_ne.mpr c197
                   obtain rfl := Option.some.inj H
                   have hnb205 := NB629_591.out
                   have hnc205 := NB591_629.out
                   have hnb206 := NB629_610.out
                   have hnc206 := NB610_629.out
                   have hnb207 := NB629_618.out
                   have hnc207 := NB618_629.out
                   have hnb208 := NB629_667.out
                   have hnc208 := NB667_629.out
                   have hcz209_0 : wc.cell? ⟨gb629, 0, none⟩ = some (.int .i64 t619) := bc BK629 0
                   have hcz209_1 : wc.cell? ⟨gb629, 1, none⟩ = some (.int .i64 t620) := bc BK629 1
                   have hcz209_2 : wc.cell? ⟨gb629, 2, none⟩ = some (.int .i64 t621) := bc BK629 2
                   have hcz209_3 : wc.cell? ⟨gb629, 3, none⟩ = some (.slice Ao39 t645.length co39) := bc BK629 3
                   have hcz209_4 : wc.cell? ⟨gb629, 4, none⟩ = some (.bool t625) := bc BK629 4
                   have hfz209_0 := blk_frozen BK629.out 0
                   have hfz209_1 := blk_frozen BK629.out 1
                   have hfz209_2 := blk_frozen BK629.out 2
                   have hfz209_3 := blk_frozen BK629.out 3
                   have hfz209_4 := blk_frozen BK629.out 4
                   go_wp2_with (first | ((with_reducible refine gate_callee (f := 24) rfl ?_); refine goesL_ (some 109) rfl rfl Try.func24 (by kernel_rfl) rfl #[.agg #[.int .i64 t619, .int .i64 t620, .int .i64 t621, .slice Ao39 t645.length co39, .bool t625], .int .i64 1] rfl gl_ ?_; (with_reducible refine (laws_heldFop.calls kj128 t619 t620 t621 _ _ t645 t625 1 t670 _ ?side1 ?side2 A180.out).mono ?_); (case side1 => exact cN (Kd.R_reads' HO_630003.out).2.2); (case side2 => exact (Kd.R_reads' HO_630003.out).2.1); rintro e w210 ⟨rfl, hb⟩; refine ⟨_, rfl, ?_⟩; have n0_ := m_ (Kd.R_below (rN HO_10.out) hb); have n1_ := m_ (Kd.R_below (rN HO_611003.out) hb); have n2_ := m_ (Kd.R_below (rN HO_619003.out) hb); have n3_ := m_ (Kd.R_below (rN HO_630003.out) hb); have n4_ := m_ (Kd.R_below (rN HO_668003.out) hb); have n5_ := m_ (blk_below (kN BK591.out) hb); have n6_ := m_ (blk_below (kN BK610.out) hb); have n7_ := m_ (blk_below (kN BK618.out) hb); have n8_ := m_ (blk_below (kN BK629.out) hb); have n9_ := m_ (blk_below (kN BK667.out) hb); have n10_ := m_ (below_step (bN HB.out) hb); clear HO_10; clear HO_611003; clear HO_619003; clear HO_630003; clear HO_668003; clear BK591; clear BK610; clear BK618; clear BK629; clear BK667; clear HB; have HO_10 := n0_; have HO_611003 := n1_; have HO_619003 := n2_; have HO_630003 := n3_; have HO_668003 := n4_; have BK591 := n5_; have BK610 := n6_; have BK618 := n7_; have BK629 := n8_; have BK667 := n9_; have HB := n10_; clear n0_ n1_ n2_ n3_ n4_ n5_ n6_ n7_ n8_ n9_ n10_; (try clear hb); (try clear hb2); (try clear hk); (try clear hi)) | ((with_reducible refine gate_callee (f := 27) rfl ?_); refine goesL_ (some 114) rfl rfl Try.func27 (by kernel_rfl) rfl #[.slice Ao135 t647.length co135, .int .i64 t670] rfl gl_ ?_; (with_reducible refine (laws_heldFrameS.calls kj128 _ _ t647 t670 t671 _ ?side1 ?side2 A188.out).mono ?_); (case side1 => exact cN (Kd.R_reads' HO_10.out).2.2); (case side2 => exact (Kd.R_reads' HO_10.out).2.1); rintro e w211 ⟨rfl, hb⟩; refine ⟨_, rfl, ?_⟩; have n0_ := m_ (Kd.R_below (rN HO_10.out) hb); have n1_ := m_ (Kd.R_below (rN HO_611003.out) hb); have n2_ := m_ (Kd.R_below (rN HO_619003.out) hb); have n3_ := m_ (Kd.R_below (rN HO_630003.out) hb); have n4_ := m_ (Kd.R_below (rN HO_668003.out) hb); have n5_ := m_ (blk_below (kN BK591.out) hb); have n6_ := m_ (blk_below (kN BK610.out) hb); have n7_ := m_ (blk_below (kN BK618.out) hb); have n8_ := m_ (blk_below (kN BK629.out) hb); have n9_ := m_ (blk_below (kN BK667.out) hb); have n10_ := m_ (below_step (bN HB.out) hb); clear HO_10; clear HO_611003; clear HO_619003; clear HO_630003; clear HO_668003; clear BK591; clear BK610; clear BK618; clear BK629; clear BK667; clear HB; have HO_10 := n0_; have HO_611003 := n1_; have HO_619003 := n2_; have HO_630003 := n3_; have HO_668003 := n4_; have BK591 := n5_; have BK610 := n6_; have BK618 := n7_; have BK629 := n8_; have BK667 := n9_; have HB := n10_; clear n0_ n1_ n2_ n3_ n4_ n5_ n6_ n7_ n8_ n9_ n10_; (try clear hb); (try clear hb2); (try clear hk); (try clear hi)))
                   go_ret
                   exact ⟨by first | rfl | (simp [errW_none, errW_some] <;> rfl) | (simp [*, errW_none, errW_some] <;> rfl), by repeat (first | (with_reducible first | exact HB.out | apply below_alloc | apply pw_below_drewN | apply below_drew1 | refine below_set ?_ GE591.out | refine below_set ?_ GE610.out | refine below_set ?_ GE618.out | refine below_set ?_ GE629.out | refine below_set ?_ GE667.out) | exact HB.out)⟩
            ·rw [if_neg c126] at H
             have c126b0 : (t649 == t646) = false := beq_eq_false_iff_ne.mpr c126
             have c126b1 : (t649 != t646) = true := bne_iff_ne.mpr c126
             obtain rfl := Option.some.inj H
             have hnb212 := NB629_591.out
             have hnc212 := NB591_629.out
             have hnb213 := NB629_610.out
             have hnc213 := NB610_629.out
             have hnb214 := NB629_618.out
             have hnc214 := NB618_629.out
             have hcz215_0 : wc.cell? ⟨gb629, 0, none⟩ = some (.int .i64 t619) := bc BK629 0
             have hcz215_1 : wc.cell? ⟨gb629, 1, none⟩ = some (.int .i64 t620) := bc BK629 1
             have hcz215_2 : wc.cell? ⟨gb629, 2, none⟩ = some (.int .i64 t621) := bc BK629 2
             have hcz215_3 : wc.cell? ⟨gb629, 3, none⟩ = some (.slice Ao39 t622.length co39) := bc BK629 3
             have hcz215_4 : wc.cell? ⟨gb629, 4, none⟩ = some (.bool t625) := bc BK629 4
             have hfz215_0 := blk_frozen BK629.out 0
             have hfz215_1 := blk_frozen BK629.out 1
             have hfz215_2 := blk_frozen BK629.out 2
             have hfz215_3 := blk_frozen BK629.out 3
             have hfz215_4 := blk_frozen BK629.out 4
             go_wp2_with (first | ((with_reducible refine gate_callee (f := 23) rfl ?_); refine goesL_ (some 73) rfl rfl Try.func23 (by kernel_rfl) rfl #[.agg #[.int .i64 t619, .int .i64 t620, .int .i64 t621, .slice Ao39 t622.length co39, .bool t625], .int .i64 1] rfl gl_ ?_; (with_reducible refine (laws_markFop.calls kj66 t619 t620 t621 (fun k_ => some k_ = (.slice Ao39 t622.length co39 : Value).ownBlock) (.slice Ao39 t622.length co39) t622 t625 1 t644 t645 w _ ?side1 ?side2 A101.out).mono ?_); (case side1 => repeat (first | (with_reducible first | exact HB.out | apply below_alloc | apply pw_below_drewN | apply below_drew1 | refine below_set ?_ GE591.out | refine below_set ?_ GE610.out | refine below_set ?_ GE618.out | refine below_set ?_ GE629.out) | exact HB.out)); (case side2 => exact Kd.R_tight rfl HO_630003.out); rintro e w216 ⟨rfl, hy0, hb, hkp⟩; refine ⟨_, rfl, ?_⟩; have n0_ := m_ (Kd.R_mono (ok' := fun k_ => some k_ ≠ (v627 : Value).ownBlock) (Kd.R_keptB ((Kd.R_apart' HO_7.out (Kd.R_typed HO_630003.out) (by decide))) hkp (fun k_ hk_ hs_ => (hk_.2) hs_)) (fun k_ hk_ => hk_.1.1)); have n1_ := m_ (Kd.R_mono (ok' := fun k_ => some k_ ≠ (v608 : Value).ownBlock) (Kd.R_keptB ((Kd.R_apart' HO_10.out (Kd.R_typed HO_630003.out) (by decide))) hkp (fun k_ hk_ hs_ => (hk_.2) hs_)) (fun k_ hk_ => hk_.1.1)); have n2_ := m_ (Kd.R_mono (ok' := fun k_ => nb Ao32 t641.length co32 k_ ∧ nb Ao39 t622.length co39 k_) (Kd.R_keptB (HO_611003.out) hkp (fun k_ hk_ hs_ => (hk_.2) hs_)) (fun k_ hk_ => ⟨hk_.1.1, hk_.1.2⟩)); have n3_ := m_ (Kd.R_mono (ok' := fun k_ => nb Ao25 t603.length co25 k_ ∧ nb Ao39 t622.length co39 k_) (Kd.R_keptB (HO_619003.out) hkp (fun k_ hk_ hs_ => (hk_.2) hs_)) (fun k_ hk_ => ⟨hk_.1.1, hk_.1.2⟩)); have n4_ := m_ (Kd.R_reok rfl hy0 (fun k_ e_ => HO_630003.out.1 k_ e_)); have n5_ := m_ (blk_kept (kN BK591.out) hkp (fun hs_ => (fun e_ => (Kd.R_ne HO_630003.out BK591.out (by decide)) e_) hs_)); have n6_ := m_ (blk_kept (kN BK610.out) hkp (fun hs_ => (fun e_ => (Kd.R_ne HO_630003.out BK610.out (by decide)) e_) hs_)); have n7_ := m_ (blk_kept (kN BK618.out) hkp (fun hs_ => (fun e_ => (Kd.R_ne HO_630003.out BK618.out (by decide)) e_) hs_)); have n8_ := m_ (blk_kept (kN BK629.out) hkp (fun hs_ => (fun e_ => (Kd.R_ne HO_630003.out BK629.out (by decide)) e_) hs_)); have n9_ := m_ (hb); clear HO_7; clear HO_10; clear HO_611003; clear HO_619003; clear HO_630003; clear BK591; clear BK610; clear BK618; clear BK629; clear HB; have HO_7 := n0_; have HO_10 := n1_; have HO_611003 := n2_; have HO_619003 := n3_; have HO_630003 := n4_; have BK591 := n5_; have BK610 := n6_; have BK618 := n7_; have BK629 := n8_; have HB := n9_; clear n0_ n1_ n2_ n3_ n4_ n5_ n6_ n7_ n8_ n9_; (try clear hb); (try clear hkp); (try clear hy0); obtain ⟨Ao217, co217, eo217⟩ := Kd.R_slice HO_10.out; subst eo217) | ((with_reducible refine gate_callee (f := 26) rfl ?_); refine goesL_ (some 76) rfl rfl Try.func26 (by kernel_rfl) rfl #[.slice Ao217 t626.length co217, .int .i64 t644] rfl gl_ ?_; (with_reducible refine (laws_markFrameS.calls kj66 (fun k_ => some k_ = (.slice Ao217 t626.length co217 : Value).ownBlock) (.slice Ao217 t626.length co217) t626 t644 t646 t647 w _ ?side1 ?side2 A102.out).mono ?_); (case side1 => repeat (first | (with_reducible first | exact HB.out | apply below_alloc | apply pw_below_drewN | apply below_drew1 | refine below_set ?_ GE591.out | refine below_set ?_ GE610.out | refine below_set ?_ GE618.out | refine below_set ?_ GE629.out) | exact HB.out)); (case side2 => exact Kd.R_tight rfl HO_10.out); rintro e w218 ⟨rfl, hy0, hb, hkp⟩; refine ⟨_, rfl, ?_⟩; have n0_ := m_ (Kd.R_mono (ok' := fun k_ => nb Ao217 t626.length co217 k_) (Kd.R_keptB (HO_7.out) hkp (fun k_ hk_ hs_ => (hk_) hs_)) (fun k_ hk_ => hk_.1)); have n1_ := m_ (Kd.R_reok rfl hy0 (fun k_ e_ => HO_10.out.1 k_ e_)); have n2_ := m_ (Kd.R_mono (ok' := fun k_ => nb Ao32 t641.length co32 k_ ∧ nb Ao39 t622.length co39 k_) (Kd.R_keptB ((Kd.R_apart' HO_611003.out (Kd.R_typed HO_10.out) (by decide))) hkp (fun k_ hk_ hs_ => (hk_.2) hs_)) (fun k_ hk_ => ⟨hk_.1.1.1, hk_.1.1.2⟩)); have n3_ := m_ (Kd.R_mono (ok' := fun k_ => nb Ao25 t603.length co25 k_ ∧ nb Ao39 t622.length co39 k_) (Kd.R_keptB ((Kd.R_apart' HO_619003.out (Kd.R_typed HO_10.out) (by decide))) hkp (fun k_ hk_ hs_ => (hk_.2) hs_)) (fun k_ hk_ => ⟨hk_.1.1.1, hk_.1.1.2⟩)); have n4_ := m_ (Kd.R_mono (ok' := fun k_ => nb Ao25 t603.length co25 k_ ∧ nb Ao32 t641.length co32 k_) (Kd.R_keptB ((Kd.R_apart' HO_630003.out (Kd.R_typed HO_10.out) (by decide))) hkp (fun k_ hk_ hs_ => (hk_.2) hs_)) (fun k_ hk_ => ⟨hk_.1.1.1, hk_.1.1.2⟩)); have n5_ := m_ (blk_kept (kN BK591.out) hkp (fun hs_ => (fun e_ => (Kd.R_ne HO_10.out BK591.out (by decide)) e_) hs_)); have n6_ := m_ (blk_kept (kN BK610.out) hkp (fun hs_ => (fun e_ => (Kd.R_ne HO_10.out BK610.out (by decide)) e_) hs_)); have n7_ := m_ (blk_kept (kN BK618.out) hkp (fun hs_ => (fun e_ => (Kd.R_ne HO_10.out BK618.out (by decide)) e_) hs_)); have n8_ := m_ (blk_kept (kN BK629.out) hkp (fun hs_ => (fun e_ => (Kd.R_ne HO_10.out BK629.out (by decide)) e_) hs_)); have n9_ := m_ (hb); clear HO_7; clear HO_10; clear HO_611003; clear HO_619003; clear HO_630003; clear BK591; clear BK610; clear BK618; clear BK629; clear HB; have HO_7 := n0_; have HO_10 := n1_; have HO_611003 := n2_; have HO_619003 := n3_; have HO_630003 := n4_; have BK591 := n5_; have BK610 := n6_; have BK618 := n7_; have BK629 := n8_; have HB := n9_; clear n0_ n1_ n2_ n3_ n4_ n5_ n6_ n7_ n8_ n9_; (try clear hb); (try clear hkp); (try clear hy0); have hcz219_0 : w218.cell? ⟨gb629, 0, none⟩ = some (.int .i64 t619) := bc BK629 0; have hcz219_1 : w218.cell? ⟨gb629, 1, none⟩ = some (.int .i64 t620) := bc BK629 1; have hcz219_2 : w218.cell? ⟨gb629, 2, none⟩ = some (.int .i64 t621) := bc BK629 2; have hcz219_3 : w218.cell? ⟨gb629, 3, none⟩ = some (.slice Ao39 t622.length co39) := bc BK629 3; have hcz219_4 : w218.cell? ⟨gb629, 4, none⟩ = some (.bool t625) := bc BK629 4; have hfz219_0 := blk_frozen BK629.out 0; have hfz219_1 := blk_frozen BK629.out 1; have hfz219_2 := blk_frozen BK629.out 2; have hfz219_3 := blk_frozen BK629.out 3; have hfz219_4 := blk_frozen BK629.out 4) | ((with_reducible refine gate_callee (f := 24) rfl ?_); refine goesL_ (some 79) rfl rfl Try.func24 (by kernel_rfl) rfl #[.agg #[.int .i64 t619, .int .i64 t620, .int .i64 t621, .slice Ao39 t645.length co39, .bool t625], .int .i64 1] rfl (by (try simp only [List.map_toArray, List.map_cons, List.map_nil]); first | done | (rw [show t645.length = t622.length from (Kd.R_reads' HO_630003.out).1.symm] <;> rfl) | rfl | (simp only [List.length_drop, List.length_take]; rfl)) ?_; (with_reducible refine (laws_heldFop.calls kj66 t619 t620 t621 _ _ t645 t625 1 t648 _ ?side1 ?side2 A103.out).mono ?_); (case side1 => exact cN (Kd.R_reads' HO_630003.out).2.2); (case side2 => rw [show t645.length = t622.length from (Kd.R_reads' HO_630003.out).1.symm]; exact (Kd.R_reads' HO_630003.out).2.1); rintro e w220 ⟨rfl, hb⟩; refine ⟨_, rfl, ?_⟩; have n0_ := m_ (Kd.R_below (rN HO_7.out) hb); have n1_ := m_ (Kd.R_below (rN HO_10.out) hb); have n2_ := m_ (Kd.R_below (rN HO_611003.out) hb); have n3_ := m_ (Kd.R_below (rN HO_619003.out) hb); have n4_ := m_ (Kd.R_below (rN HO_630003.out) hb); have n5_ := m_ (blk_below (kN BK591.out) hb); have n6_ := m_ (blk_below (kN BK610.out) hb); have n7_ := m_ (blk_below (kN BK618.out) hb); have n8_ := m_ (blk_below (kN BK629.out) hb); have n9_ := m_ (below_step (bN HB.out) hb); clear HO_7; clear HO_10; clear HO_611003; clear HO_619003; clear HO_630003; clear BK591; clear BK610; clear BK618; clear BK629; clear HB; have HO_7 := n0_; have HO_10 := n1_; have HO_611003 := n2_; have HO_619003 := n3_; have HO_630003 := n4_; have BK591 := n5_; have BK610 := n6_; have BK618 := n7_; have BK629 := n8_; have HB := n9_; clear n0_ n1_ n2_ n3_ n4_ n5_ n6_ n7_ n8_ n9_; (try clear hb); (try clear hb2); (try clear hk); (try clear hi)) | ((with_reducible refine gate_callee (f := 27) rfl ?_); refine goesL_ (some 84) rfl rfl Try.func27 (by kernel_rfl) rfl #[.slice Ao217 t647.length co217, .int .i64 t648] rfl (by (try simp only [List.map_toArray, List.map_cons, List.map_nil]); first | done | (rw [show t647.length = t626.length from (Kd.R_reads' HO_10.out).1.symm] <;> rfl) | rfl | (simp only [List.length_drop, List.length_take]; rfl)) ?_; (with_reducible refine (laws_heldFrameS.calls kj66 _ _ t647 t648 t649 _ ?side1 ?side2 A114.out).mono ?_); (case side1 => exact cN (Kd.R_reads' HO_10.out).2.2); (case side2 => rw [show t647.length = t626.length from (Kd.R_reads' HO_10.out).1.symm]; exact (Kd.R_reads' HO_10.out).2.1); rintro e w221 ⟨rfl, hb⟩; refine ⟨_, rfl, ?_⟩; have n0_ := m_ (Kd.R_below (rN HO_7.out) hb); have n1_ := m_ (Kd.R_below (rN HO_10.out) hb); have n2_ := m_ (Kd.R_below (rN HO_611003.out) hb); have n3_ := m_ (Kd.R_below (rN HO_619003.out) hb); have n4_ := m_ (Kd.R_below (rN HO_630003.out) hb); have n5_ := m_ (blk_below (kN BK591.out) hb); have n6_ := m_ (blk_below (kN BK610.out) hb); have n7_ := m_ (blk_below (kN BK618.out) hb); have n8_ := m_ (blk_below (kN BK629.out) hb); have n9_ := m_ (below_step (bN HB.out) hb); clear HO_7; clear HO_10; clear HO_611003; clear HO_619003; clear HO_630003; clear BK591; clear BK610; clear BK618; clear BK629; clear HB; have HO_7 := n0_; have HO_10 := n1_; have HO_611003 := n2_; have HO_619003 := n3_; have HO_630003 := n4_; have BK591 := n5_; have BK610 := n6_; have BK618 := n7_; have BK629 := n8_; have HB := n9_; clear n0_ n1_ n2_ n3_ n4_ n5_ n6_ n7_ n8_ n9_; (try clear hb); (try clear hb2); (try clear hk); (try clear hi)))
             go_ret
             exact ⟨by first | rfl | (simp [errW_none, errW_some] <;> rfl) | (simp [*, errW_none, errW_some] <;> rfl), by repeat (first | (with_reducible first | exact HB.out | apply below_alloc | apply pw_below_drewN | apply below_drew1 | refine below_set ?_ GE591.out | refine below_set ?_ GE610.out | refine below_set ?_ GE618.out | refine below_set ?_ GE629.out) | exact HB.out)⟩
      ·replace c65 := Bool.eq_false_iff.mpr c65
       subst c65
       have H1 : (some false) = some r := by rw [if_neg (show ¬ (false = true) by decide)] at H; exact H
       clear H
       have H := H1
       clear H1
       obtain rfl := Option.some.inj H
       try go_wp2
       have n0_ := m_ (Kd.R_drew HO_7.out)
       have n1_ := m_ (Kd.R_drew HO_10.out)
       have n2_ := m_ (Kd.R_drew HO_611003.out)
       have n3_ := m_ (Kd.R_drew HO_619003.out)
       have n4_ := m_ (Kd.R_drew HO_630003.out)
       have n5_ := m_ (blk_drew BK591.out)
       have n6_ := m_ (blk_drew BK610.out)
       have n7_ := m_ (blk_drew BK618.out)
       have n8_ := m_ (blk_drew BK629.out)
       have n9_ := m_ (below_drew1 HB.out)
       clear HO_7
       clear HO_10
       clear HO_611003
       clear HO_619003
       clear HO_630003
       clear BK591
       clear BK610
       clear BK618
       clear BK629
       clear HB
       have HO_7 := n0_
       have HO_10 := n1_
       have HO_611003 := n2_
       have HO_619003 := n3_
       have HO_630003 := n4_
       have BK591 := n5_
       have BK610 := n6_
       have BK618 := n7_
       have BK629 := n8_
       have HB := n9_
       clear n0_ n1_ n2_ n3_ n4_ n5_ n6_ n7_ n8_ n9_
       refine start_ (n := 5) (S := fun w' => w'.cell? ⟨gb618, 0, none⟩ = some (.int .i64 t611) ∧ w'.cell? ⟨gb618, 1, none⟩ = some (.int .i64 t612) ∧ w'.cell? ⟨gb618, 2, none⟩ = some (.int .i64 t613) ∧ w'.cell? ⟨gb618, 3, none⟩ = some (.slice Ao32 t614.length co32) ∧ w'.cell? ⟨gb618, 4, none⟩ = some (.bool t617) ∧ w'.cell? ⟨gb591, 0, none⟩ = some (.int .i64 a0_0) ∧ w'.cell? ⟨gb591, 1, none⟩ = some (.int .i64 a0_1) ∧ w'.cell? ⟨gb591, 2, none⟩ = some (.int .i64 a0_2) ∧ w'.cell? ⟨gb591, 3, none⟩ = some (.slice A0_3 l0_3.length c0_3) ∧ w'.cell? ⟨gb591, 4, none⟩ = some (.bool a0_4)) (ds := []) #[false, false, false, false, false] (by kernel_rfl) rfl rfl ⟨bc BK618 0, bc BK618 1, bc BK618 2, bc BK618 3, bc BK618 4, bc BK591 0, bc BK591 1, bc BK591 2, bc BK591 3, bc BK591 4⟩ (fun hHeld => ?_)
       generalize wc.drew = w222 at HO_7 HO_10 HO_611003 HO_619003 HO_630003 BK591 BK610 BK618 BK629 HB hHeld ⊢
       refine take_ (i := 0) (N := some 49) (v := ?_) (a' := ?_) #[true, false, false, false, false] rfl rfl (by kernel_rfl) (fun _ _ _ h => h) (Or.inl ⟨by rfl, ?_⟩) hHeld ?_ ?_
       rotate_left
       ·rintro w' ⟨s0, s1, s2, s3, s4, s5, s6, s7, s8, s9⟩
        go_simp
        with_reducible rfl
       rotate_left
       ·simp only [Act.put, List.setIfInBounds_toArray, List.set_cons_zero, List.set_cons_succ, i64_w, i32_w]
        rfl
       refine take_ (i := 1) (N := some 50) (v := ?_) (a' := ?_) #[true, true, false, false, false] rfl rfl (by kernel_rfl) (fun _ _ _ h => h) (Or.inl ⟨by rfl, ?_⟩) hHeld ?_ ?_
       rotate_left
       ·rintro w' ⟨s0, s1, s2, s3, s4, s5, s6, s7, s8, s9⟩
        go_simp
        with_reducible rfl
       rotate_left
       ·simp only [Act.put, List.setIfInBounds_toArray, List.set_cons_zero, List.set_cons_succ, i64_w, i32_w]
        rfl
       refine one_ (i := 2) (N := some 51) #[true, true, true, false, false] rfl rfl (by kernel_rfl) (by decide) (fun K hK => ?_)
       refine goes_ Try.func20 (by kernel_rfl) rfl #[.agg #[.int .i64 a0_0, .int .i64 a0_1, .int .i64 a0_2, .slice A0_3 l0_3.length c0_3, .bool a0_4]] (by rfl) rfl rfl gl_ ?_
       with_reducible refine (laws_toFop.calls kj13 a0_0 a0_1 a0_2 _ _ l0_3 a0_4 t632 t633 t634 t635 t638 _ ?side1 ?side2 A63.out).mono ?_
       (case side1 => exact cN (Kd.C_below HR0_3.out HB.out))
       (case side2 => exact HC0_3.out)
       rintro e w223 ⟨v636, rfl, ho0, hb⟩
       refine ⟨_, rfl, ?_⟩
       have n0_ := m_ (Kd.R_below (rN HO_7.out) hb)
       have n1_ := m_ (Kd.R_below (rN HO_10.out) hb)
       have n2_ := m_ (Kd.R_elder' (rN HO_611003.out) (Kd.R_base ho0) hb)
       have n3_ := m_ (Kd.R_elder' (rN HO_619003.out) (Kd.R_base ho0) hb)
       have n4_ := m_ (Kd.R_elder' (rN HO_630003.out) (Kd.R_base ho0) hb)
       have n5_ := m_ (Kd.R_lower (Kd.R_new' (Kd.R_new' (Kd.R_new' ho0 (Kd.R_lt (rN HO_611003.out))) (Kd.R_lt (rN HO_619003.out))) (Kd.R_lt (rN HO_630003.out))) (below_size (bN HB.out)))
       have n6_ := m_ (blk_below (kN BK591.out) hb)
       have n7_ := m_ (blk_below (kN BK610.out) hb)
       have n8_ := m_ (blk_below (kN BK618.out) hb)
       have n9_ := m_ (blk_below (kN BK629.out) hb)
       have n10_ := m_ (below_step (bN HB.out) hb)
       clear HO_7
       clear HO_10
       clear HO_611003
       clear HO_619003
       clear HO_630003
       clear BK591
       clear BK610
       clear BK618
       clear BK629
       clear HB
       have HO_7 := n0_
       have HO_10 := n1_
       have HO_611003 := n2_
       have HO_619003 := n3_
       have HO_630003 := n4_
       have HO637 := n5_
       have BK591 := n6_
       have BK610 := n7_
       have BK618 := n8_
       have BK629 := n9_
       have HB := n10_
       clear n0_ n1_ n2_ n3_ n4_ n5_ n6_ n7_ n8_ n9_ n10_
       (try clear hb)
       (try clear hb2)
       (try clear hk)
       (try clear hi)
       (try clear ho0)
       obtain ⟨Ao224, co224, eo224⟩ := Kd.R_slice HO637.out
       (first | subst eo224 | (injection eo224 with f1_ f2_ f3_; have f4_ := f1_.symm; have f5_ := f3_.symm; clear f1_ f2_ f3_; subst f4_; subst f5_))
       refine hK.out _ _ ⟨bc BK618 0, bc BK618 1, bc BK618 2, bc BK618 3, bc BK618 4, bc BK591 0, bc BK591 1, bc BK591 2, bc BK591 3, bc BK591 4⟩ (fun hHeld => ?_)
       clear hK K
       refine np (h := ?_)
       refine one_ (i := 3) (N := some 52) #[true, true, true, true, false] rfl rfl (by kernel_rfl) (by decide) (fun K hK => ?_)
       refine goes_ Try.func22 (by kernel_rfl) rfl #[.agg #[.int .i64 t611, .int .i64 t612, .int .i64 t613, .slice Ao32 t614.length co32, .bool t617], .agg #[.int .i64 t632, .int .i64 t633, .int .i64 t634, .slice Ao224 t635.length co224, .bool t638]] (by rfl) rfl rfl gl_ ?_
       with_reducible refine (laws_eqFop.calls kj13 t611 t612 t613 _ _ t614 t617 t632 t633 t634 _ _ t635 t638 false _ ?side1 ?side2 ?side3 ?side4 A64.out).mono ?_
       (case side1 => exact cN (Kd.R_reads' HO_619003.out).2.2)
       (case side2 => exact (Kd.R_reads' HO_619003.out).2.1)
       (case side3 => exact cN (Kd.R_reads' HO637.out).2.2)
       (case side4 => exact (Kd.R_reads' HO637.out).2.1)
       rintro e w225 ⟨rfl, hb⟩
       refine ⟨_, rfl, ?_⟩
       have n0_ := m_ (Kd.R_below (rN HO_7.out) hb)
       have n1_ := m_ (Kd.R_below (rN HO_10.out) hb)
       have n2_ := m_ (Kd.R_below (rN HO_611003.out) hb)
       have n3_ := m_ (Kd.R_below (rN HO_619003.out) hb)
       have n4_ := m_ (Kd.R_below (rN HO_630003.out) hb)
       have n5_ := m_ (Kd.R_below (rN HO637.out) hb)
       have n6_ := m_ (blk_below (kN BK591.out) hb)
       have n7_ := m_ (blk_below (kN BK610.out) hb)
       have n8_ := m_ (blk_below (kN BK618.out) hb)
       have n9_ := m_ (blk_below (kN BK629.out) hb)
       have n10_ := m_ (below_step (bN HB.out) hb)
       clear HO_7
       clear HO_10
       clear HO_611003
       clear HO_619003
       clear HO_630003
       clear HO637
       clear BK591
       clear BK610
       clear BK618
       clear BK629
       clear HB
       have HO_7 := n0_
       have HO_10 := n1_
       have HO_611003 := n2_
       have HO_619003 := n3_
       have HO_630003 := n4_
       have HO637 := n5_
       have BK591 := n6_
       have BK610 := n7_
       have BK618 := n8_
       have BK629 := n9_
       have HB := n10_
       clear n0_ n1_ n2_ n3_ n4_ n5_ n6_ n7_ n8_ n9_ n10_
       (try clear hb)
       (try clear hb2)
       (try clear hk)
       (try clear hi)
       refine hK.out _ _ ⟨bc BK618 0, bc BK618 1, bc BK618 2, bc BK618 3, bc BK618 4, bc BK591 0, bc BK591 1, bc BK591 2, bc BK591 3, bc BK591 4⟩ (fun hHeld => ?_)
       clear hK K
       refine np (h := ?_)
       refine pure_ (i := 4) (N := some 53) (v := ?_) (a' := ?_) #[true, true, true, true, true] rfl rfl (by kernel_rfl) (fun _ _ _ h => h) (Or.inl ⟨by rfl, ?_⟩) ?_ ?_
       rotate_left
       ·intro w'
        go_simp
        with_reducible rfl
       rotate_left
       ·simp only [Act.put, List.setIfInBounds_toArray, List.set_cons_zero, List.set_cons_succ, i64_w, i32_w]
        rfl
       refine done_ (by kernel_rfl) ?_
       try go_wp2
       go_ret
       exact ⟨by first | rfl | (simp [errW_none, errW_some] <;> rfl) | (simp [*, errW_none, errW_some] <;> rfl), by repeat (first | (with_reducible first | exact HB.out | apply below_alloc | apply pw_below_drewN | apply below_drew1 | refine below_set ?_ GE591.out | refine below_set ?_ GE610.out | refine below_set ?_ GE618.out | refine below_set ?_ GE629.out) | exact HB.out)⟩

end Go.Proofs.Ytnlhaiihbcdmoaa.P
