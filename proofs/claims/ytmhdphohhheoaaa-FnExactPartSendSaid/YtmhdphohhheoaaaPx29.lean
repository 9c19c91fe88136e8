/- The machine side of these statements, function by function: what each Go function answers (as a Lean function), and that it does. Written by a program (mp.py) for this claim. -/
import Derived.Test.YtmhdphohhheoaaaPx0
import Derived.Test.YtmhdphohhheoaaaPx12
import Derived.Test.YtmhdphohhheoaaaPx16
import Derived.Test.YtmhdphohhheoaaaPx17
import Derived.Test.YtmhdphohhheoaaaPx18
import Derived.Test.YtmhdphohhheoaaaPx20
namespace Go.Proofs.Ytmhdphohhheoaaa.P
open Go.RowKit Go.Proofs.YtmhdphohhheoaaaW.PrintWords Go.Proofs.YtmhdphohhheoaaaW.PrintLast Go.Proofs.YtmhdphohhheoaaaW.PrintMore
attribute [local go_sem] max2_int min2_int max_two min_two max_three min_three max_four min_four   -- for this text's walks alone
set_option linter.unusedVariables false
set_option linter.unusedSimpArgs false

/-! ### laws_FnExactPartSend: function 8 -/
mutual
def laws_FnExactPartSend.j0 : Nat → Int → Bool → Bool → Bool → List (S56) → List Int → Int → Bool → List Int → List (S53) → List Int → Int → Bool → List Int → List (S53) → List Int → Int → Bool → List Int → List (S53) → List Int → Int → Bool → List Int → Option (Bool)
 | 0, _, _, _, _, _, _, _, _, _, _, _, _, _, _, _, _, _, _, _, _, _, _, _, _ => none
 | k + 1, x1, x7, x10, x44, x694000, x694001, x694002, x694003, x694004, x719000, x719001, x719002, x719003, x719004, x731000, x731001, x731002, x731003, x731004, x744000, x744001, x744002, x744003, x744004 => if x44 = true then (some false) else ((laws_toPart.f k x694000 x694001 x694002 x694003 x694004).bind fun bt745 => ((laws_eqPart.f k x731000 x731001 x731002 x731003 x731004 bt745.1 bt745.2.1 bt745.2.2.1 bt745.2.2.2.1 bt745.2.2.2.2).bind fun t756 => (if t756 = true then ((laws_markPart.f k x731000 x731001 x731002 x731003 x731004 1).bind fun bt757 => (if bt757.1 < 0 then (laws_FnExactPartSend.j1 k x1 x7 true x694000 x694001 x694002 x694003 x694004 x719000 x719001 x719002 x719003 x719004 x744000 x744001 x744002 x744003 x744004) else ((laws_eqPart.f k x744000 x744001 x744002 x744003 x744004 x719000 x719001 x719002 x719003 x719004).bind fun t761 => (if t761 = true then (laws_FnExactPartSend.j1 k x1 x7 (x10 != x7) x694000 x694001 x694002 x694003 x694004 x719000 x719001 x719002 x719003 x719004 x744000 x744001 x744002 x744003 x744004) else (laws_FnExactPartSend.j1 k x1 x7 true x694000 x694001 x694002 x694003 x694004 x719000 x719001 x719002 x719003 x719004 x744000 x744001 x744002 x744003 x744004))))) else (some false))))
def laws_FnExactPartSend.j1 : Nat → Int → Bool → Bool → List (S56) → List Int → Int → Bool → List Int → List (S53) → List Int → Int → Bool → List Int → List (S53) → List Int → Int → Bool → List Int → Option (Bool)
 | 0, _, _, _, _, _, _, _, _, _, _, _, _, _, _, _, _, _, _ => none
 | k + 1, x1, x7, x65, x694000, x694001, x694002, x694003, x694004, x719000, x719001, x719002, x719003, x719004, x744000, x744001, x744002, x744003, x744004 => if x65 = true then (some false) else ((laws_markPart.f k x744000 x744001 x744002 x744003 x744004 1).bind fun bt762 => ((laws_heldPart.f k bt762.2.1 bt762.2.2.1 x744002 x744003 bt762.2.2.2 1).bind fun t766 => (if t766 < 0 then (some false) else (if t766 = bt762.1 then ((laws_toPart.f k x694000 x694001 x694002 x694003 x694004).bind fun bt767 => ((impl_PartSend.f k bt767.1 bt767.2.1 bt767.2.2.1 bt767.2.2.2.1 bt767.2.2.2.2 x1).bind fun bt778 => ((laws_eqPart.f k bt778.1 bt778.2.1 bt778.2.2.1 bt778.2.2.2.1 bt778.2.2.2.2.1 x719000 x719001 x719002 x719003 x719004).bind fun t791 => (if t791 = true then (laws_FnExactPartSend.j2 k bt762.1 (bt778.2.2.2.2.2 != x7) bt762.2.1 bt762.2.2.1 x744002 x744003 bt762.2.2.2) else (laws_FnExactPartSend.j2 k bt762.1 true bt762.2.1 bt762.2.2.1 x744002 x744003 bt762.2.2.2))))) else (some false)))))
def laws_FnExactPartSend.j2 : Nat → Int → Bool → List (S53) → List Int → Int → Bool → List Int → Option (Bool)
 | 0, _, _, _, _, _, _, _ => none
 | k + 1, x12, x92, x744000, x744001, x744002, x744003, x744004 => if x92 = true then (some false) else ((laws_heldPart.f k x744000 x744001 x744002 x744003 x744004 1).bind fun t792 => (if t792 < 0 then (some false) else (if t792 = x12 then (some true) else (some false))))
end
def laws_FnExactPartSend.f (k : Nat) (l0_0 : List (S56)) (l0_1 : List Int) (a0_2 : Int) (a0_3 : Bool) (l0_4 : List Int) (a1 : Int) : Option (Bool) := (laws_szPart.f l0_0 l0_1 a0_2 a0_3 l0_4 1048576).bind fun t694 => (if t694 < 0 then (some true) else ((laws_toPart.f k l0_0 l0_1 a0_2 a0_3 l0_4).bind fun bt695 => ((spec_PartSend.f k bt695.1 bt695.2.1 bt695.2.2.1 bt695.2.2.2.1 bt695.2.2.2.2 a1).bind fun bt706 => ((laws_toPart.f k l0_0 l0_1 a0_2 a0_3 l0_4).bind fun bt719 => ((impl_PartSend.f k bt719.1 bt719.2.1 bt719.2.2.1 bt719.2.2.2.1 bt719.2.2.2.2 a1).bind fun bt731 => ((laws_eqPart.f k bt731.1 bt731.2.1 bt731.2.2.1 bt731.2.2.2.1 bt731.2.2.2.2.1 bt706.1 bt706.2.1 bt706.2.2.1 bt706.2.2.2.1 bt706.2.2.2.2.1).bind fun t744 => (if t744 = true then (laws_FnExactPartSend.j0 k a1 bt706.2.2.2.2.2 bt731.2.2.2.2.2 (bt731.2.2.2.2.2 != bt706.2.2.2.2.2) l0_0 l0_1 a0_2 a0_3 l0_4 bt706.1 bt706.2.1 bt706.2.2.1 bt706.2.2.2.1 bt706.2.2.2.2.1 bt719.1 bt719.2.1 bt719.2.2.1 bt719.2.2.2.1 bt719.2.2.2.2 bt731.1 bt731.2.1 bt731.2.2.1 bt731.2.2.2.1 bt731.2.2.2.2.1) else (laws_FnExactPartSend.j0 k a1 bt706.2.2.2.2.2 bt731.2.2.2.2.2 true l0_0 l0_1 a0_2 a0_3 l0_4 bt706.1 bt706.2.1 bt706.2.2.1 bt706.2.2.2.1 bt706.2.2.2.2.1 bt719.1 bt719.2.1 bt719.2.2.1 bt719.2.2.2.1 bt719.2.2.2.2 bt731.1 bt731.2.1 bt731.2.2.1 bt731.2.2.2.1 bt731.2.2.2.2.1))))))))
theorem laws_FnExactPartSend.mono_l : ∀ k, (∀ y0 y1 y2 y3 y4 y5 y6 y7 y8 y9 y10 y11 y12 y13 y14 y15 y16 y17 y18 y19 y20 y21 y22 y23, LeO (laws_FnExactPartSend.j0 k y0 y1 y2 y3 y4 y5 y6 y7 y8 y9 y10 y11 y12 y13 y14 y15 y16 y17 y18 y19 y20 y21 y22 y23) (laws_FnExactPartSend.j0 (k + 1) y0 y1 y2 y3 y4 y5 y6 y7 y8 y9 y10 y11 y12 y13 y14 y15 y16 y17 y18 y19 y20 y21 y22 y23)) ∧ (∀ y0 y1 y2 y3 y4 y5 y6 y7 y8 y9 y10 y11 y12 y13 y14 y15 y16 y17, LeO (laws_FnExactPartSend.j1 k y0 y1 y2 y3 y4 y5 y6 y7 y8 y9 y10 y11 y12 y13 y14 y15 y16 y17) (laws_FnExactPartSend.j1 (k + 1) y0 y1 y2 y3 y4 y5 y6 y7 y8 y9 y10 y11 y12 y13 y14 y15 y16 y17)) ∧ (∀ y0 y1 y2 y3 y4 y5 y6, LeO (laws_FnExactPartSend.j2 k y0 y1 y2 y3 y4 y5 y6) (laws_FnExactPartSend.j2 (k + 1) y0 y1 y2 y3 y4 y5 y6))
 | 0 => ⟨fun _ _ _ _ _ _ _ _ _ _ _ _ _ _ _ _ _ _ _ _ _ _ _ _ r h => by simp [laws_FnExactPartSend.j0] at h, fun _ _ _ _ _ _ _ _ _ _ _ _ _ _ _ _ _ _ r h => by simp [laws_FnExactPartSend.j1] at h, fun _ _ _ _ _ _ _ r h => by simp [laws_FnExactPartSend.j2] at h⟩
 | k + 1 => by
  obtain ⟨ih0, ih1, ih2⟩ := laws_FnExactPartSend.mono_l k
  refine ⟨?_, ?_, ?_⟩
  ·intro y0 y1 y2 y3 y4 y5 y6 y7 y8 y9 y10 y11 y12 y13 y14 y15 y16 y17 y18 y19 y20 y21 y22 y23
   unfold laws_FnExactPartSend.j0
   repeat' first
   | (with_reducible exact ih0 _ _ _ _ _ _ _ _ _ _ _ _ _ _ _ _ _ _ _ _ _ _ _ _)
   | (with_reducible exact ih1 _ _ _ _ _ _ _ _ _ _ _ _ _ _ _ _ _ _)
   | (with_reducible exact ih2 _ _ _ _ _ _ _)
   | (with_reducible exact impl_PartSend.mono _ _ _ _ _ _ _)
   | (with_reducible exact laws_eqPart.mono _ _ _ _ _ _ _ _ _ _ _)
   | (with_reducible exact laws_heldPart.mono _ _ _ _ _ _ _)
   | (with_reducible exact laws_markPart.mono _ _ _ _ _ _ _)
   | (with_reducible exact laws_toPart.mono _ _ _ _ _ _)
   | (with_reducible exact spec_PartSend.mono _ _ _ _ _ _ _)
   | (with_reducible exact LeO.refl _)
   | (with_reducible exact LeO.none _)
   | (with_reducible refine LeO.ite ?_ ?_)
   | (with_reducible refine LeO.bind ?_ (fun _ => ?_))
   | exact ih0 _ _ _ _ _ _ _ _ _ _ _ _ _ _ _ _ _ _ _ _ _ _ _ _
   | exact ih1 _ _ _ _ _ _ _ _ _ _ _ _ _ _ _ _ _ _
   | exact ih2 _ _ _ _ _ _ _
   | exact impl_PartSend.mono _ _ _ _ _ _ _
   | exact laws_eqPart.mono _ _ _ _ _ _ _ _ _ _ _
   | exact laws_heldPart.mono _ _ _ _ _ _ _
   | exact laws_markPart.mono _ _ _ _ _ _ _
   | exact laws_toPart.mono _ _ _ _ _ _
   | exact spec_PartSend.mono _ _ _ _ _ _ _
   | exact LeO.none _
   | refine LeO.ite ?_ ?_
   | refine LeO.bind ?_ (fun _ => ?_)
  ·intro y0 y1 y2 y3 y4 y5 y6 y7 y8 y9 y10 y11 y12 y13 y14 y15 y16 y17
   unfold laws_FnExactPartSend.j1
   repeat' first
   | (with_reducible exact ih0 _ _ _ _ _ _ _ _ _ _ _ _ _ _ _ _ _ _ _ _ _ _ _ _)
   | (with_reducible exact ih1 _ _ _ _ _ _ _ _ _ _ _ _ _ _ _ _ _ _)
   | (with_reducible exact ih2 _ _ _ _ _ _ _)
   | (with_reducible exact impl_PartSend.mono _ _ _ _ _ _ _)
   | (with_reducible exact laws_eqPart.mono _ _ _ _ _ _ _ _ _ _ _)
   | (with_reducible exact laws_heldPart.mono _ _ _ _ _ _ _)
   | (with_reducible exact laws_markPart.mono _ _ _ _ _ _ _)
   | (with_reducible exact laws_toPart.mono _ _ _ _ _ _)
   | (with_reducible exact spec_PartSend.mono _ _ _ _ _ _ _)
   | (with_reducible exact LeO.refl _)
   | (with_reducible exact LeO.none _)
   | (with_reducible refine LeO.ite ?_ ?_)
   | (with_reducible refine LeO.bind ?_ (fun _ => ?_))
   | exact ih0 _ _ _ _ _ _ _ _ _ _ _ _ _ _ _ _ _ _ _ _ _ _ _ _
   | exact ih1 _ _ _ _ _ _ _ _ _ _ _ _ _ _ _ _ _ _
   | exact ih2 _ _ _ _ _ _ _
   | exact impl_PartSend.mono _ _ _ _ _ _ _
   | exact laws_eqPart.mono _ _ _ _ _ _ _ _ _ _ _
   | exact laws_heldPart.mono _ _ _ _ _ _ _
   | exact laws_markPart.mono _ _ _ _ _ _ _
   | exact laws_toPart.mono _ _ _ _ _ _
   | exact spec_PartSend.mono _ _ _ _ _ _ _
   | exact LeO.none _
   | refine LeO.ite ?_ ?_
   | refine LeO.bind ?_ (fun _ => ?_)
  ·intro y0 y1 y2 y3 y4 y5 y6
   unfold laws_FnExactPartSend.j2
   repeat' first
   | (with_reducible exact ih0 _ _ _ _ _ _ _ _ _ _ _ _ _ _ _ _ _ _ _ _ _ _ _ _)
   | (with_reducible exact ih1 _ _ _ _ _ _ _ _ _ _ _ _ _ _ _ _ _ _)
   | (with_reducible exact ih2 _ _ _ _ _ _ _)
   | (with_reducible exact impl_PartSend.mono _ _ _ _ _ _ _)
   | (with_reducible exact laws_eqPart.mono _ _ _ _ _ _ _ _ _ _ _)
   | (with_reducible exact laws_heldPart.mono _ _ _ _ _ _ _)
   | (with_reducible exact laws_markPart.mono _ _ _ _ _ _ _)
   | (with_reducible exact laws_toPart.mono _ _ _ _ _ _)
   | (with_reducible exact spec_PartSend.mono _ _ _ _ _ _ _)
   | (with_reducible exact LeO.refl _)
   | (with_reducible exact LeO.none _)
   | (with_reducible refine LeO.ite ?_ ?_)
   | (with_reducible refine LeO.bind ?_ (fun _ => ?_))
   | exact ih0 _ _ _ _ _ _ _ _ _ _ _ _ _ _ _ _ _ _ _ _ _ _ _ _
   | exact ih1 _ _ _ _ _ _ _ _ _ _ _ _ _ _ _ _ _ _
   | exact ih2 _ _ _ _ _ _ _
   | exact impl_PartSend.mono _ _ _ _ _ _ _
   | exact laws_eqPart.mono _ _ _ _ _ _ _ _ _ _ _
   | exact laws_heldPart.mono _ _ _ _ _ _ _
   | exact laws_markPart.mono _ _ _ _ _ _ _
   | exact laws_toPart.mono _ _ _ _ _ _
   | exact spec_PartSend.mono _ _ _ _ _ _ _
   | exact LeO.none _
   | refine LeO.ite ?_ ?_
   | refine LeO.bind ?_ (fun _ => ?_)
theorem laws_FnExactPartSend.mono : ∀ a0 a1 a2 a3 a4 a5 k, LeO (laws_FnExactPartSend.f k a0 a1 a2 a3 a4 a5) (laws_FnExactPartSend.f (k + 1) a0 a1 a2 a3 a4 a5) := by
 intro a0 a1 a2 a3 a4 a5 k
 obtain ⟨ih0, ih1, ih2⟩ := laws_FnExactPartSend.mono_l k
 unfold laws_FnExactPartSend.f
 repeat' first
   | (with_reducible exact ih0 _ _ _ _ _ _ _ _ _ _ _ _ _ _ _ _ _ _ _ _ _ _ _ _)
   | (with_reducible exact ih1 _ _ _ _ _ _ _ _ _ _ _ _ _ _ _ _ _ _)
   | (with_reducible exact ih2 _ _ _ _ _ _ _)
   | (with_reducible exact impl_PartSend.mono _ _ _ _ _ _ _)
   | (with_reducible exact laws_eqPart.mono _ _ _ _ _ _ _ _ _ _ _)
   | (with_reducible exact laws_heldPart.mono _ _ _ _ _ _ _)
   | (with_reducible exact laws_markPart.mono _ _ _ _ _ _ _)
   | (with_reducible exact laws_toPart.mono _ _ _ _ _ _)
   | (with_reducible exact spec_PartSend.mono _ _ _ _ _ _ _)
   | (with_reducible exact LeO.refl _)
   | (with_reducible exact LeO.none _)
   | (with_reducible refine LeO.ite ?_ ?_)
   | (with_reducible refine LeO.bind ?_ (fun _ => ?_))
   | exact ih0 _ _ _ _ _ _ _ _ _ _ _ _ _ _ _ _ _ _ _ _ _ _ _ _
   | exact ih1 _ _ _ _ _ _ _ _ _ _ _ _ _ _ _ _ _ _
   | exact ih2 _ _ _ _ _ _ _
   | exact impl_PartSend.mono _ _ _ _ _ _ _
   | exact laws_eqPart.mono _ _ _ _ _ _ _ _ _ _ _
   | exact laws_heldPart.mono _ _ _ _ _ _ _
   | exact laws_markPart.mono _ _ _ _ _ _ _
   | exact laws_toPart.mono _ _ _ _ _ _
   | exact spec_PartSend.mono _ _ _ _ _ _ _
   | exact LeO.none _
   | refine LeO.ite ?_ ?_
   | refine LeO.bind ?_ (fun _ => ?_)
set_option maxHeartbeats 8000000 in
set_option maxRecDepth 100000 in
theorem laws_FnExactPartSend.calls (k : Nat) (A0_0 : Option Addr) (c0_0 : Nat) (l0_0 : List (S56)) (A0_1 : Option Addr) (c0_1 : Nat) (l0_1 : List Int) (a0_2 : Int) (a0_3 : Bool) (A0_4 : Option Addr) (c0_4 : Nat) (l0_4 : List Int) (a1 : Int) (r : Bool) (w : World) (hr0_0 : Kd.C k56 w A0_0 l0_0.length l0_0) (hc0_0 : l0_0.length ≤ c0_0) (hr0_1 : Kd.C (Kd.int .i64) w A0_1 l0_1.length l0_1) (hc0_1 : l0_1.length ≤ c0_1) (hr0_4 : Kd.C (Kd.int .i64) w A0_4 l0_4.length l0_4) (hc0_4 : l0_4.length ≤ c0_4) (h : laws_FnExactPartSend.f k l0_0 l0_1 a0_2 a0_3 l0_4 a1 = some r) :
  Calls Try.prog 8 #[.agg #[.slice A0_0 l0_0.length c0_0, .slice A0_1 l0_1.length c0_1, .int .i64 a0_2, .bool a0_3, .slice A0_4 l0_4.length c0_4], .int .i64 a1] w fun e w' => e = .returned (.bool r) ∧ Below w.heap.size w w' := by
 have hu39 := Try.underlying39
 have hu33 := Try.underlying33
 have HR0_0 := Aside0.mk hr0_0
 have HC0_0 := Aside0.mk hc0_0
 clear hr0_0 hc0_0
 have HR0_1 := Aside0.mk hr0_1
 have HC0_1 := Aside0.mk hc0_1
 clear hr0_1 hc0_1
 have HR0_4 := Aside0.mk hr0_4
 have HC0_4 := Aside0.mk hc0_4
 clear hr0_4 hc0_4
 have HB := m_ (Below.refl w.heap.size w)
 have H : ((laws_szPart.f l0_0 l0_1 a0_2 a0_3 l0_4 1048576).bind fun t694 => (if t694 < 0 then (some true) else ((laws_toPart.f k l0_0 l0_1 a0_2 a0_3 l0_4).bind fun bt695 => ((spec_PartSend.f k bt695.1 bt695.2.1 bt695.2.2.1 bt695.2.2.2.1 bt695.2.2.2.2 a1).bind fun bt706 => ((laws_toPart.f k l0_0 l0_1 a0_2 a0_3 l0_4).bind fun bt719 => ((impl_PartSend.f k bt719.1 bt719.2.1 bt719.2.2.1 bt719.2.2.2.1 bt719.2.2.2.2 a1).bind fun bt731 => ((laws_eqPart.f k bt731.1 bt731.2.1 bt731.2.2.1 bt731.2.2.2.1 bt731.2.2.2.2.1 bt706.1 bt706.2.1 bt706.2.2.1 bt706.2.2.2.1 bt706.2.2.2.2.1).bind fun t744 => (if t744 = true then (laws_FnExactPartSend.j0 k a1 bt706.2.2.2.2.2 bt731.2.2.2.2.2 (bt731.2.2.2.2.2 != bt706.2.2.2.2.2) l0_0 l0_1 a0_2 a0_3 l0_4 bt706.1 bt706.2.1 bt706.2.2.1 bt706.2.2.2.1 bt706.2.2.2.2.1 bt719.1 bt719.2.1 bt719.2.2.1 bt719.2.2.2.1 bt719.2.2.2.2 bt731.1 bt731.2.1 bt731.2.2.1 bt731.2.2.2.1 bt731.2.2.2.2.1) else (laws_FnExactPartSend.j0 k a1 bt706.2.2.2.2.2 bt731.2.2.2.2.2 true l0_0 l0_1 a0_2 a0_3 l0_4 bt706.1 bt706.2.1 bt706.2.2.1 bt706.2.2.2.1 bt706.2.2.2.2.1 bt719.1 bt719.2.1 bt719.2.2.1 bt719.2.2.2.1 bt719.2.2.2.2 bt731.1 bt731.2.1 bt731.2.2.1 bt731.2.2.2.1 bt731.2.2.2.2.1))))))))) = some r := h
 clear h
 replace H := Option.bind_eq_some_iff.mp H
 obtain ⟨t694, A30, H⟩ := H
 replace H : (if t694 < 0 then (some true) else ((laws_toPart.f k l0_0 l0_1 a0_2 a0_3 l0_4).bind fun bt695 => ((spec_PartSend.f k bt695.1 bt695.2.1 bt695.2.2.1 bt695.2.2.2.1 bt695.2.2.2.2 a1).bind fun bt706 => ((laws_toPart.f k l0_0 l0_1 a0_2 a0_3 l0_4).bind fun bt719 => ((impl_PartSend.f k bt719.1 bt719.2.1 bt719.2.2.1 bt719.2.2.2.1 bt719.2.2.2.2 a1).bind fun bt731 => ((laws_eqPart.f k bt731.1 bt731.2.1 bt731.2.2.1 bt731.2.2.2.1 bt731.2.2.2.2.1 bt706.1 bt706.2.1 bt706.2.2.1 bt706.2.2.2.1 bt706.2.2.2.2.1).bind fun t744 => (if t744 = true then (laws_FnExactPartSend.j0 k a1 bt706.2.2.2.2.2 bt731.2.2.2.2.2 (bt731.2.2.2.2.2 != bt706.2.2.2.2.2) l0_0 l0_1 a0_2 a0_3 l0_4 bt706.1 bt706.2.1 bt706.2.2.1 bt706.2.2.2.1 bt706.2.2.2.2.1 bt719.1 bt719.2.1 bt719.2.2.1 bt719.2.2.2.1 bt719.2.2.2.2 bt731.1 bt731.2.1 bt731.2.2.1 bt731.2.2.2.1 bt731.2.2.2.2.1) else (laws_FnExactPartSend.j0 k a1 bt706.2.2.2.2.2 bt731.2.2.2.2.2 true l0_0 l0_1 a0_2 a0_3 l0_4 bt706.1 bt706.2.1 bt706.2.2.1 bt706.2.2.2.1 bt706.2.2.2.2.1 bt719.1 bt719.2.1 bt719.2.2.1 bt719.2.2.2.1 bt719.2.2.2.2 bt731.1 bt731.2.1 bt731.2.2.1 bt731.2.2.2.1 bt731.2.2.2.2.1)))))))) = some r := H
 have A3 := Aside0.mk A30
 clear A30
 by_cases c4 : t694 < 0
 ·rw [if_pos c4] at H
  have c4b0 : decide (t694 < 0) = true := decide_eq_true c4
  clear c4
  obtain rfl := Option.some.inj H
  go_enter Try.func8, Try.ntmps8
  go_wp2_with (first | ((with_reducible refine gate_dst (N := 2) rfl ?_); refine box_event ?hg (N := 2) ?hd (cs := #[.slice A0_0 l0_0.length c0_0, .slice A0_1 l0_1.length c0_1, .int .i64 a0_2, .bool a0_3, .slice A0_4 l0_4.length c0_4]) (t := 39) ?hr ?_; (case hd => rfl); (case hg => rfl); (case hr => first | (go_simp; done) | (go_simp; rfl)); intro gb693 hg w5 hbox hb; have n0_ := m_ (below_step (bN HB.out) hb); have n1_ := m_ (hbox); have n2_ := m_ ((by rw [hg]; exact (below_size (bN HB.out)) : w.heap.size ≤ gb693)); have n3_ := m_ ((by rw [hg]; exact (below_size (bN HB.out)) : w.heap.size ≤ gb693)); clear HB; have HB := n0_; have BK693 := n1_; have GW693 := n2_; have GE693 := n3_; clear n0_ n1_ n2_ n3_; clear hb hbox hg; have hcz6_0 : w5.cell? ⟨gb693, 0, none⟩ = some (.slice A0_0 l0_0.length c0_0) := (blk_cell BK693.out 0).trans rfl; have hcz6_1 : w5.cell? ⟨gb693, 1, none⟩ = some (.slice A0_1 l0_1.length c0_1) := (blk_cell BK693.out 1).trans rfl; have hcz6_2 : w5.cell? ⟨gb693, 2, none⟩ = some (.int .i64 a0_2) := (blk_cell BK693.out 2).trans rfl; have hcz6_3 : w5.cell? ⟨gb693, 3, none⟩ = some (.bool a0_3) := (blk_cell BK693.out 3).trans rfl; have hcz6_4 : w5.cell? ⟨gb693, 4, none⟩ = some (.slice A0_4 l0_4.length c0_4) := (blk_cell BK693.out 4).trans rfl; have hfz6_0 := blk_frozen BK693.out 0; have hfz6_1 := blk_frozen BK693.out 1; have hfz6_2 := blk_frozen BK693.out 2; have hfz6_3 := blk_frozen BK693.out 3; have hfz6_4 := blk_frozen BK693.out 4) | ((with_reducible refine gate_callee (f := 19) rfl ?_); refine goesL_ (some 18) rfl rfl Try.func19 (by kernel_rfl) rfl #[.agg #[.slice A0_0 l0_0.length c0_0, .slice A0_1 l0_1.length c0_1, .int .i64 a0_2, .bool a0_3, .slice A0_4 l0_4.length c0_4], .int .i64 1048576] rfl gl_ ?_; (with_reducible refine (laws_szPart.calls _ _ l0_0 _ _ l0_1 a0_2 a0_3 _ _ l0_4 1048576 t694 _ ?side1 ?side2 ?side3 ?side4 ?side5 ?side6 A3.out).mono ?_); (case side1 => exact cN (Kd.C_below HR0_0.out HB.out)); (case side2 => exact HC0_0.out); (case side3 => exact cN (Kd.C_below HR0_1.out HB.out)); (case side4 => exact HC0_1.out); (case side5 => exact cN (Kd.C_below HR0_4.out HB.out)); (case side6 => exact HC0_4.out); rintro e w7 ⟨rfl, hb⟩; refine ⟨_, rfl, ?_⟩; have n0_ := m_ (blk_below (kN BK693.out) hb); have n1_ := m_ (below_step (bN HB.out) hb); clear BK693; clear HB; have BK693 := n0_; have HB := n1_; clear n0_ n1_; (try clear hb); (try clear hb2); (try clear hk); (try clear hi)))
  go_ret
  exact ⟨by first | rfl | (simp [errW_none, errW_some] <;> rfl) | (simp [*, errW_none, errW_some] <;> rfl), by repeat (first | (with_reducible first | exact HB.out | apply below_alloc | apply pw_below_drewN | apply below_drew1 | refine below_set ?_ GE693.out) | exact HB.out)⟩
 ·rw [if_neg c4] at H
  have c4b0 : decide (t694 < 0) = false := decide_eq_false c4
  clear c4
  replace H := Option.bind_eq_some_iff.mp H
  obtain ⟨⟨t695, t698, t701, t702, t703⟩, A80, H⟩ := H
  replace H : ((spec_PartSend.f k t695 t698 t701 t702 t703 a1).bind fun bt706 => ((laws_toPart.f k l0_0 l0_1 a0_2 a0_3 l0_4).bind fun bt719 => ((impl_PartSend.f k bt719.1 bt719.2.1 bt719.2.2.1 bt719.2.2.2.1 bt719.2.2.2.2 a1).bind fun bt731 => ((laws_eqPart.f k bt731.1 bt731.2.1 bt731.2.2.1 bt731.2.2.2.1 bt731.2.2.2.2.1 bt706.1 bt706.2.1 bt706.2.2.1 bt706.2.2.2.1 bt706.2.2.2.2.1).bind fun t744 => (if t744 = true then (laws_FnExactPartSend.j0 k a1 bt706.2.2.2.2.2 bt731.2.2.2.2.2 (bt731.2.2.2.2.2 != bt706.2.2.2.2.2) l0_0 l0_1 a0_2 a0_3 l0_4 bt706.1 bt706.2.1 bt706.2.2.1 bt706.2.2.2.1 bt706.2.2.2.2.1 bt719.1 bt719.2.1 bt719.2.2.1 bt719.2.2.2.1 bt719.2.2.2.2 bt731.1 bt731.2.1 bt731.2.2.1 bt731.2.2.2.1 bt731.2.2.2.2.1) else (laws_FnExactPartSend.j0 k a1 bt706.2.2.2.2.2 bt731.2.2.2.2.2 true l0_0 l0_1 a0_2 a0_3 l0_4 bt706.1 bt706.2.1 bt706.2.2.1 bt706.2.2.2.1 bt706.2.2.2.2.1 bt719.1 bt719.2.1 bt719.2.2.1 bt719.2.2.2.1 bt719.2.2.2.2 bt731.1 bt731.2.1 bt731.2.2.1 bt731.2.2.2.1 bt731.2.2.2.2.1)))))) = some r := H
  have A8 := Aside0.mk A80
  clear A80
  replace H := Option.bind_eq_some_iff.mp H
  obtain ⟨⟨t706, t709, t712, t713, t714, t717⟩, A90, H⟩ := H
  replace H : ((laws_toPart.f k l0_0 l0_1 a0_2 a0_3 l0_4).bind fun bt719 => ((impl_PartSend.f k bt719.1 bt719.2.1 bt719.2.2.1 bt719.2.2.2.1 bt719.2.2.2.2 a1).bind fun bt731 => ((laws_eqPart.f k bt731.1 bt731.2.1 bt731.2.2.1 bt731.2.2.2.1 bt731.2.2.2.2.1 t706 t709 t712 t713 t714).bind fun t744 => (if t744 = true then (laws_FnExactPartSend.j0 k a1 t717 bt731.2.2.2.2.2 (bt731.2.2.2.2.2 != t717) l0_0 l0_1 a0_2 a0_3 l0_4 t706 t709 t712 t713 t714 bt719.1 bt719.2.1 bt719.2.2.1 bt719.2.2.2.1 bt719.2.2.2.2 bt731.1 bt731.2.1 bt731.2.2.1 bt731.2.2.2.1 bt731.2.2.2.2.1) else (laws_FnExactPartSend.j0 k a1 t717 bt731.2.2.2.2.2 true l0_0 l0_1 a0_2 a0_3 l0_4 t706 t709 t712 t713 t714 bt719.1 bt719.2.1 bt719.2.2.1 bt719.2.2.2.1 bt719.2.2.2.2 bt731.1 bt731.2.1 bt731.2.2.1 bt731.2.2.2.1 bt731.2.2.2.2.1))))) = some r := H
  have A9 := Aside0.mk A90
  clear A90
  replace H := Option.bind_eq_some_iff.mp H
  obtain ⟨⟨t719, t722, t725, t726, t727⟩, A100, H⟩ := H
  replace H : ((impl_PartSend.f k t719 t722 t725 t726 t727 a1).bind fun bt731 => ((laws_eqPart.f k bt731.1 bt731.2.1 bt731.2.2.1 bt731.2.2.2.1 bt731.2.2.2.2.1 t706 t709 t712 t713 t714).bind fun t744 => (if t744 = true then (laws_FnExactPartSend.j0 k a1 t717 bt731.2.2.2.2.2 (bt731.2.2.2.2.2 != t717) l0_0 l0_1 a0_2 a0_3 l0_4 t706 t709 t712 t713 t714 t719 t722 t725 t726 t727 bt731.1 bt731.2.1 bt731.2.2.1 bt731.2.2.2.1 bt731.2.2.2.2.1) else (laws_FnExactPartSend.j0 k a1 t717 bt731.2.2.2.2.2 true l0_0 l0_1 a0_2 a0_3 l0_4 t706 t709 t712 t713 t714 t719 t722 t725 t726 t727 bt731.1 bt731.2.1 bt731.2.2.1 bt731.2.2.2.1 bt731.2.2.2.2.1)))) = some r := H
  have A10 := Aside0.mk A100
  clear A100
  replace H := Option.bind_eq_some_iff.mp H
  obtain ⟨⟨t731, t734, t737, t738, t739, t742⟩, A110, H⟩ := H
  replace H : ((laws_eqPart.f k t731 t734 t737 t738 t739 t706 t709 t712 t713 t714).bind fun t744 => (if t744 = true then (laws_FnExactPartSend.j0 k a1 t717 t742 (t742 != t717) l0_0 l0_1 a0_2 a0_3 l0_4 t706 t709 t712 t713 t714 t719 t722 t725 t726 t727 t731 t734 t737 t738 t739) else (laws_FnExactPartSend.j0 k a1 t717 t742 true l0_0 l0_1 a0_2 a0_3 l0_4 t706 t709 t712 t713 t714 t719 t722 t725 t726 t727 t731 t734 t737 t738 t739))) = some r := H
  have A11 := Aside0.mk A110
  clear A110
  have HC12 := Aside0.mk H
  clear H
  go_enter Try.func8, Try.ntmps8
  go_upto_region 8 with (first | ((with_reducible refine gate_dst (N := 2) rfl ?_); refine box_event ?hg (N := 2) ?hd (cs := #[.slice A0_0 l0_0.length c0_0, .slice A0_1 l0_1.length c0_1, .int .i64 a0_2, .bool a0_3, .slice A0_4 l0_4.length c0_4]) (t := 39) ?hr ?_; (case hd => rfl); (case hg => rfl); (case hr => first | (go_simp; done) | (go_simp; rfl)); intro gb693 hg w13 hbox hb; have n0_ := m_ (below_step (bN HB.out) hb); have n1_ := m_ (hbox); have n2_ := m_ ((by rw [hg]; exact (below_size (bN HB.out)) : w.heap.size ≤ gb693)); have n3_ := m_ ((by rw [hg]; exact (below_size (bN HB.out)) : w.heap.size ≤ gb693)); clear HB; have HB := n0_; have BK693 := n1_; have GW693 := n2_; have GE693 := n3_; clear n0_ n1_ n2_ n3_; clear hb hbox hg; have hcz14_0 : w13.cell? ⟨gb693, 0, none⟩ = some (.slice A0_0 l0_0.length c0_0) := (blk_cell BK693.out 0).trans rfl; have hcz14_1 : w13.cell? ⟨gb693, 1, none⟩ = some (.slice A0_1 l0_1.length c0_1) := (blk_cell BK693.out 1).trans rfl; have hcz14_2 : w13.cell? ⟨gb693, 2, none⟩ = some (.int .i64 a0_2) := (blk_cell BK693.out 2).trans rfl; have hcz14_3 : w13.cell? ⟨gb693, 3, none⟩ = some (.bool a0_3) := (blk_cell BK693.out 3).trans rfl; have hcz14_4 : w13.cell? ⟨gb693, 4, none⟩ = some (.slice A0_4 l0_4.length c0_4) := (blk_cell BK693.out 4).trans rfl; have hfz14_0 := blk_frozen BK693.out 0; have hfz14_1 := blk_frozen BK693.out 1; have hfz14_2 := blk_frozen BK693.out 2; have hfz14_3 := blk_frozen BK693.out 3; have hfz14_4 := blk_frozen BK693.out 4) | ((with_reducible refine gate_callee (f := 19) rfl ?_); refine goesL_ (some 18) rfl rfl Try.func19 (by kernel_rfl) rfl #[.agg #[.slice A0_0 l0_0.length c0_0, .slice A0_1 l0_1.length c0_1, .int .i64 a0_2, .bool a0_3, .slice A0_4 l0_4.length c0_4], .int .i64 1048576] rfl gl_ ?_; (with_reducible refine (laws_szPart.calls _ _ l0_0 _ _ l0_1 a0_2 a0_3 _ _ l0_4 1048576 t694 _ ?side1 ?side2 ?side3 ?side4 ?side5 ?side6 A3.out).mono ?_); (case side1 => exact cN (Kd.C_below HR0_0.out HB.out)); (case side2 => exact HC0_0.out); (case side3 => exact cN (Kd.C_below HR0_1.out HB.out)); (case side4 => exact HC0_1.out); (case side5 => exact cN (Kd.C_below HR0_4.out HB.out)); (case side6 => exact HC0_4.out); rintro e w15 ⟨rfl, hb⟩; refine ⟨_, rfl, ?_⟩; have n0_ := m_ (blk_below (kN BK693.out) hb); have n1_ := m_ (below_step (bN HB.out) hb); clear BK693; clear HB; have BK693 := n0_; have HB := n1_; clear n0_ n1_; (try clear hb); (try clear hb2); (try clear hk); (try clear hi); have hcz16_0 : w15.cell? ⟨gb693, 0, none⟩ = some (.slice A0_0 l0_0.length c0_0) := (blk_cell BK693.out 0).trans rfl; have hcz16_1 : w15.cell? ⟨gb693, 1, none⟩ = some (.slice A0_1 l0_1.length c0_1) := (blk_cell BK693.out 1).trans rfl; have hcz16_2 : w15.cell? ⟨gb693, 2, none⟩ = some (.int .i64 a0_2) := (blk_cell BK693.out 2).trans rfl; have hcz16_3 : w15.cell? ⟨gb693, 3, none⟩ = some (.bool a0_3) := (blk_cell BK693.out 3).trans rfl; have hcz16_4 : w15.cell? ⟨gb693, 4, none⟩ = some (.slice A0_4 l0_4.length c0_4) := (blk_cell BK693.out 4).trans rfl; have hfz16_0 := blk_frozen BK693.out 0; have hfz16_1 := blk_frozen BK693.out 1; have hfz16_2 := blk_frozen BK693.out 2; have hfz16_3 := blk_frozen BK693.out 3; have hfz16_4 := blk_frozen BK693.out 4) | ((with_reducible refine gate_callee (f := 21) rfl ?_); refine goesL_ (some 23) rfl rfl Try.func21 (by kernel_rfl) rfl #[.agg #[.slice A0_0 l0_0.length c0_0, .slice A0_1 l0_1.length c0_1, .int .i64 a0_2, .bool a0_3, .slice A0_4 l0_4.length c0_4]] rfl gl_ ?_; (with_reducible refine (laws_toPart.calls k _ _ l0_0 _ _ l0_1 a0_2 a0_3 _ _ l0_4 t695 t698 t701 t702 t703 _ ?side1 ?side2 ?side3 ?side4 ?side5 ?side6 A8.out).mono ?_); (case side1 => exact cN (Kd.C_below HR0_0.out HB.out)); (case side2 => exact HC0_0.out); (case side3 => exact cN (Kd.C_below HR0_1.out HB.out)); (case side4 => exact HC0_1.out); (case side5 => exact cN (Kd.C_below HR0_4.out HB.out)); (case side6 => exact HC0_4.out); rintro e w17 ⟨v696, v699, v704, rfl, ho0, ho1, ho2, hb⟩; refine ⟨_, rfl, ?_⟩; have n0_ := m_ (Kd.R_lower ho0 (below_size (bN HB.out))); have n1_ := m_ (Kd.R_lower ho1 (below_size (bN HB.out))); have n2_ := m_ (Kd.R_lower ho2 (below_size (bN HB.out))); have n3_ := m_ (blk_below (kN BK693.out) hb); have n4_ := m_ (below_step (bN HB.out) hb); clear BK693; clear HB; have HO697 := n0_; have HO700 := n1_; have HO705 := n2_; have BK693 := n3_; have HB := n4_; clear n0_ n1_ n2_ n3_ n4_; (try clear hb); (try clear hb2); (try clear hk); (try clear hi); (try clear ho0); (try clear ho1); (try clear ho2); obtain ⟨Ao18, co18, eo18⟩ := Kd.R_slice HO697.out; subst eo18; obtain ⟨Ao19, co19, eo19⟩ := Kd.R_slice HO700.out; subst eo19; obtain ⟨Ao20, co20, eo20⟩ := Kd.R_slice HO705.out; subst eo20) | ((with_reducible refine gate_callee (f := 28) rfl ?_); refine goesL_ (some 25) rfl rfl Try.func28 (by kernel_rfl) rfl #[.agg #[.slice Ao18 t695.length co18, .slice Ao19 t698.length co19, .int .i64 t701, .bool t702, .slice Ao20 t703.length co20], .int .i64 a1] rfl gl_ ?_; (with_reducible refine (spec_PartSend.calls k _ _ t695 _ _ t698 t701 t702 _ _ t703 a1 t706 t709 t712 t713 t714 t717 _ ?side1 ?side2 ?side3 ?side4 ?side5 ?side6 A9.out).mono ?_); (case side1 => exact cN (Kd.R_reads' HO697.out).2.2); (case side2 => exact (Kd.R_reads' HO697.out).2.1); (case side3 => exact cN (Kd.R_reads' HO700.out).2.2); (case side4 => exact (Kd.R_reads' HO700.out).2.1); (case side5 => exact cN (Kd.R_reads' HO705.out).2.2); (case side6 => exact (Kd.R_reads' HO705.out).2.1); rintro e w21 ⟨v707, v710, v715, rfl, ho0, ho1, ho2, hb⟩; refine ⟨_, rfl, ?_⟩; have n0_ := m_ (Kd.R_elder' (rN HO697.out) (Kd.R_base ho0) hb); have n1_ := m_ (Kd.R_mono (Kd.R_told (Kd.R_told (Kd.R_old (rN HO700.out) hb) (Kd.R_base ho1)) (Kd.R_base ho2)) (fun _ h_ => h_.1)); have n2_ := m_ (Kd.R_mono (Kd.R_told (Kd.R_told (Kd.R_old (rN HO705.out) hb) (Kd.R_base ho1)) (Kd.R_base ho2)) (fun _ h_ => h_.1)); have n3_ := m_ (Kd.R_lower (Kd.R_new' ho0 (Kd.R_lt (rN HO697.out))) (below_size (bN HB.out))); have n4_ := m_ (Kd.R_lower (Kd.R_new' (Kd.R_new' ho1 (Kd.R_lt (rN HO700.out))) (Kd.R_lt (rN HO705.out))) (below_size (bN HB.out))); have n5_ := m_ (Kd.R_lower (Kd.R_new' (Kd.R_new' ho2 (Kd.R_lt (rN HO700.out))) (Kd.R_lt (rN HO705.out))) (below_size (bN HB.out))); have n6_ := m_ (blk_below (kN BK693.out) hb); have n7_ := m_ (below_step (bN HB.out) hb); clear HO697; clear HO700; clear HO705; clear BK693; clear HB; have HO697 := n0_; have HO700 := n1_; have HO705 := n2_; have HO708 := n3_; have HO711 := n4_; have HO716 := n5_; have BK693 := n6_; have HB := n7_; clear n0_ n1_ n2_ n3_ n4_ n5_ n6_ n7_; (try clear hb); (try clear hb2); (try clear hk); (try clear hi); (try clear ho0); (try clear ho1); (try clear ho2)) | ((with_reducible refine gate_dst (N := 6) rfl ?_); refine box_event ?hg (N := 6) ?hd (cs := #[.slice none 0 0, .slice none 0 0, .int .i64 0, .bool false, .slice none 0 0]) (t := 33) ?hr ?_; (case hd => rfl); (case hg => rfl); (case hr => first | (go_simp; done) | (go_simp; rfl)); intro gb718 hg w22 hbox hb; have n0_ := m_ (Kd.R_below (rN HO697.out) hb); have n1_ := m_ (Kd.R_below (rN HO700.out) hb); have n2_ := m_ (Kd.R_below (rN HO705.out) hb); have n3_ := m_ (Kd.R_below (rN HO708.out) hb); have n4_ := m_ (Kd.R_below (rN HO711.out) hb); have n5_ := m_ (Kd.R_below (rN HO716.out) hb); have n6_ := m_ (blk_below (kN BK693.out) hb); have n7_ := m_ (below_step (bN HB.out) hb); have n8_ := m_ (hbox); have n9_ := m_ ((by rw [hg]; exact (below_size (bN HB.out)) : w.heap.size ≤ gb718)); have n10_ := m_ ((by rw [hg]; exact (below_size (bN HB.out)) : w.heap.size ≤ gb718)); have n11_ := m_ ((by rw [hg]; exact Nat.ne_of_lt (blk_lt (g := gb693) (o := .cells #[.slice A0_0 l0_0.length c0_0, .slice A0_1 l0_1.length c0_1, .int .i64 a0_2, .bool a0_3, .slice A0_4 l0_4.length c0_4] 39 (0, 0)) (kN BK693.out)) : gb693 ≠ gb718)); have n12_ := m_ ((by rw [hg]; exact Nat.ne_of_gt (blk_lt (g := gb693) (o := .cells #[.slice A0_0 l0_0.length c0_0, .slice A0_1 l0_1.length c0_1, .int .i64 a0_2, .bool a0_3, .slice A0_4 l0_4.length c0_4] 39 (0, 0)) (kN BK693.out)) : gb718 ≠ gb693)); clear HO697; clear HO700; clear HO705; clear HO708; clear HO711; clear HO716; clear BK693; clear HB; have HO697 := n0_; have HO700 := n1_; have HO705 := n2_; have HO708 := n3_; have HO711 := n4_; have HO716 := n5_; have BK693 := n6_; have HB := n7_; have BK718 := n8_; have GW718 := n9_; have GE718 := n10_; have NB693_718 := n11_; have NB718_693 := n12_; clear n0_ n1_ n2_ n3_ n4_ n5_ n6_ n7_ n8_ n9_ n10_ n11_ n12_; clear hb hbox hg; obtain ⟨Ao23, co23, eo23⟩ := Kd.R_slice HO708.out; subst eo23; have hnb24 := NB718_693.out; have hnc24 := NB693_718.out; have hcz25_0 : w22.cell? ⟨gb718, 0, none⟩ = some (.slice none 0 0) := (blk_cell BK718.out 0).trans rfl; have hcz25_1 : w22.cell? ⟨gb718, 1, none⟩ = some (.slice none 0 0) := (blk_cell BK718.out 1).trans rfl; have hcz25_2 : w22.cell? ⟨gb718, 2, none⟩ = some (.int .i64 0) := (blk_cell BK718.out 2).trans rfl; have hcz25_3 : w22.cell? ⟨gb718, 3, none⟩ = some (.bool false) := (blk_cell BK718.out 3).trans rfl; have hcz25_4 : w22.cell? ⟨gb718, 4, none⟩ = some (.slice none 0 0) := (blk_cell BK718.out 4).trans rfl; have hfz25_0 := blk_frozen BK718.out 0; have hfz25_1 := blk_frozen BK718.out 1; have hfz25_2 := blk_frozen BK718.out 2; have hfz25_3 := blk_frozen BK718.out 3; have hfz25_4 := blk_frozen BK718.out 4; obtain ⟨Ao26, co26, eo26⟩ := Kd.R_slice HO711.out; subst eo26; obtain ⟨Ao27, co27, eo27⟩ := Kd.R_slice HO716.out; subst eo27; have hcz28_0 : w22.cell? ⟨gb693, 0, none⟩ = some (.slice A0_0 l0_0.length c0_0) := (blk_cell BK693.out 0).trans rfl; have hcz28_1 : w22.cell? ⟨gb693, 1, none⟩ = some (.slice A0_1 l0_1.length c0_1) := (blk_cell BK693.out 1).trans rfl; have hcz28_2 : w22.cell? ⟨gb693, 2, none⟩ = some (.int .i64 a0_2) := (blk_cell BK693.out 2).trans rfl; have hcz28_3 : w22.cell? ⟨gb693, 3, none⟩ = some (.bool a0_3) := (blk_cell BK693.out 3).trans rfl; have hcz28_4 : w22.cell? ⟨gb693, 4, none⟩ = some (.slice A0_4 l0_4.length c0_4) := (blk_cell BK693.out 4).trans rfl; have hfz28_0 := blk_frozen BK693.out 0; have hfz28_1 := blk_frozen BK693.out 1; have hfz28_2 := blk_frozen BK693.out 2; have hfz28_3 := blk_frozen BK693.out 3; have hfz28_4 := blk_frozen BK693.out 4) | ((with_reducible refine gate_callee (f := 21) rfl ?_); refine goesL_ (some 29) rfl rfl Try.func21 (by kernel_rfl) rfl #[.agg #[.slice A0_0 l0_0.length c0_0, .slice A0_1 l0_1.length c0_1, .int .i64 a0_2, .bool a0_3, .slice A0_4 l0_4.length c0_4]] rfl gl_ ?_; (with_reducible refine (laws_toPart.calls k _ _ l0_0 _ _ l0_1 a0_2 a0_3 _ _ l0_4 t719 t722 t725 t726 t727 _ ?side1 ?side2 ?side3 ?side4 ?side5 ?side6 A10.out).mono ?_); (case side1 => exact Kd.C_below HR0_0.out (bN HB.out)); (case side2 => exact HC0_0.out); (case side3 => exact Kd.C_below HR0_1.out (bN HB.out)); (case side4 => exact HC0_1.out); (case side5 => exact Kd.C_below HR0_4.out (bN HB.out)); (case side6 => exact HC0_4.out); rintro e w29 ⟨v720, v723, v728, rfl, ho0, ho1, ho2, hb⟩; refine ⟨_, rfl, ?_⟩; have n0_ := m_ (Kd.R_elder' (frN (Kd.R_types HO697.out BK718.out (by decide))) (Kd.R_base ho0) hb); have n1_ := m_ (Kd.R_mono (Kd.R_told (Kd.R_told (Kd.R_old (frN (Kd.R_types HO700.out BK718.out (by decide))) hb) (Kd.R_base ho1)) (Kd.R_base ho2)) (fun _ h_ => h_.1)); have n2_ := m_ (Kd.R_mono (Kd.R_told (Kd.R_told (Kd.R_old (frN (Kd.R_types HO705.out BK718.out (by decide))) hb) (Kd.R_base ho1)) (Kd.R_base ho2)) (fun _ h_ => h_.1)); have n3_ := m_ (Kd.R_elder' (frN (Kd.R_types HO708.out BK718.out (by decide))) (Kd.R_base ho0) hb); have n4_ := m_ (Kd.R_mono (Kd.R_told (Kd.R_told (Kd.R_old (frN (Kd.R_types HO711.out BK718.out (by decide))) hb) (Kd.R_base ho1)) (Kd.R_base ho2)) (fun _ h_ => h_.1)); have n5_ := m_ (Kd.R_mono (Kd.R_told (Kd.R_told (Kd.R_old (frN (Kd.R_types HO716.out BK718.out (by decide))) hb) (Kd.R_base ho1)) (Kd.R_base ho2)) (fun _ h_ => h_.1)); have n6_ := m_ (Kd.R_lower (Kd.R_new' (Kd.R_new' ho0 (Kd.R_lt (frN (Kd.R_types HO697.out BK718.out (by decide))))) (Kd.R_lt (frN (Kd.R_types HO708.out BK718.out (by decide))))) (below_size (bN HB.out))); have n7_ := m_ (Kd.R_lower (Kd.R_new' (Kd.R_new' (Kd.R_new' (Kd.R_new' ho1 (Kd.R_lt (frN (Kd.R_types HO700.out BK718.out (by decide))))) (Kd.R_lt (frN (Kd.R_types HO705.out BK718.out (by decide))))) (Kd.R_lt (frN (Kd.R_types HO711.out BK718.out (by decide))))) (Kd.R_lt (frN (Kd.R_types HO716.out BK718.out (by decide))))) (below_size (bN HB.out))); have n8_ := m_ (Kd.R_lower (Kd.R_new' (Kd.R_new' (Kd.R_new' (Kd.R_new' ho2 (Kd.R_lt (frN (Kd.R_types HO700.out BK718.out (by decide))))) (Kd.R_lt (frN (Kd.R_types HO705.out BK718.out (by decide))))) (Kd.R_lt (frN (Kd.R_types HO711.out BK718.out (by decide))))) (Kd.R_lt (frN (Kd.R_types HO716.out BK718.out (by decide))))) (below_size (bN HB.out))); have n9_ := m_ (blk_below (g := gb693) (o := .cells #[.slice A0_0 l0_0.length c0_0, .slice A0_1 l0_1.length c0_1, .int .i64 a0_2, .bool a0_3, .slice A0_4 l0_4.length c0_4] 39 (0, 0)) (kF BK693.out NB693_718.out) hb); have n10_ := m_ (blk_below (g := gb718) (o := .cells #[.slice Ao23 t706.length co23, .slice Ao26 t709.length co26, .int .i64 t712, .bool t713, .slice Ao27 t714.length co27] 33 (0, 0)) (by (with_reducible repeat (first | refine blk_drewN ?_ _ | refine blk_drew ?_ | refine blk_alloc ?_ _)); refine blk_put (cs := #[.slice Ao23 t706.length co23, .slice Ao26 t709.length co26, .int .i64 t712, .bool t713, .slice none 0 0]) ?_ 4 _ rfl; (with_reducible repeat (first | refine blk_drewN ?_ _ | refine blk_drew ?_ | refine blk_alloc ?_ _)); refine blk_put (cs := #[.slice Ao23 t706.length co23, .slice Ao26 t709.length co26, .int .i64 t712, .bool false, .slice none 0 0]) ?_ 3 _ rfl; (with_reducible repeat (first | refine blk_drewN ?_ _ | refine blk_drew ?_ | refine blk_alloc ?_ _)); refine blk_put (cs := #[.slice Ao23 t706.length co23, .slice Ao26 t709.length co26, .int .i64 0, .bool false, .slice none 0 0]) ?_ 2 _ rfl; (with_reducible repeat (first | refine blk_drewN ?_ _ | refine blk_drew ?_ | refine blk_alloc ?_ _)); refine blk_put (cs := #[.slice Ao23 t706.length co23, .slice none 0 0, .int .i64 0, .bool false, .slice none 0 0]) ?_ 1 _ rfl; (with_reducible repeat (first | refine blk_drewN ?_ _ | refine blk_drew ?_ | refine blk_alloc ?_ _)); refine blk_put (cs := #[.slice none 0 0, .slice none 0 0, .int .i64 0, .bool false, .slice none 0 0]) ?_ 0 _ rfl; (with_reducible repeat (first | refine blk_drewN ?_ _ | refine blk_drew ?_ | refine blk_alloc ?_ _)); exact BK718.out) hb); have n11_ := m_ (below_step (bN HB.out) hb); clear HO697; clear HO700; clear HO705; clear HO708; clear HO711; clear HO716; clear BK693; clear BK718; clear HB; have HO697 := n0_; have HO700 := n1_; have HO705 := n2_; have HO708 := n3_; have HO711 := n4_; have HO716 := n5_; have HO721 := n6_; have HO724 := n7_; have HO729 := n8_; have BK693 := n9_; have BK718 := n10_; have HB := n11_; clear n0_ n1_ n2_ n3_ n4_ n5_ n6_ n7_ n8_ n9_ n10_ n11_; (try clear hb); (try clear hb2); (try clear hk); (try clear hi); (try clear ho0); (try clear ho1); (try clear ho2)) | ((with_reducible refine gate_dst (N := 8) rfl ?_); refine box_event ?hg (N := 8) ?hd (cs := #[.slice none 0 0, .slice none 0 0, .int .i64 0, .bool false, .slice none 0 0]) (t := 33) ?hr ?_; (case hd => rfl); (case hg => rfl); (case hr => first | (go_simp; done) | (go_simp; rfl)); intro gb730 hg w30 hbox hb; have n0_ := m_ (Kd.R_below (rN HO697.out) hb); have n1_ := m_ (Kd.R_below (rN HO700.out) hb); have n2_ := m_ (Kd.R_below (rN HO705.out) hb); have n3_ := m_ (Kd.R_below (rN HO708.out) hb); have n4_ := m_ (Kd.R_below (rN HO711.out) hb); have n5_ := m_ (Kd.R_below (rN HO716.out) hb); have n6_ := m_ (Kd.R_below (rN HO721.out) hb); have n7_ := m_ (Kd.R_below (rN HO724.out) hb); have n8_ := m_ (Kd.R_below (rN HO729.out) hb); have n9_ := m_ (blk_below (kN BK693.out) hb); have n10_ := m_ (blk_below (kN BK718.out) hb); have n11_ := m_ (below_step (bN HB.out) hb); have n12_ := m_ (hbox); have n13_ := m_ ((by rw [hg]; exact (below_size (bN HB.out)) : w.heap.size ≤ gb730)); have n14_ := m_ ((by rw [hg]; exact (below_size (bN HB.out)) : w.heap.size ≤ gb730)); have n15_ := m_ ((by rw [hg]; exact Nat.ne_of_lt (blk_lt (g := gb693) (o := .cells #[.slice A0_0 l0_0.length c0_0, .slice A0_1 l0_1.length c0_1, .int .i64 a0_2, .bool a0_3, .slice A0_4 l0_4.length c0_4] 39 (0, 0)) (kN BK693.out)) : gb693 ≠ gb730)); have n16_ := m_ ((by rw [hg]; exact Nat.ne_of_gt (blk_lt (g := gb693) (o := .cells #[.slice A0_0 l0_0.length c0_0, .slice A0_1 l0_1.length c0_1, .int .i64 a0_2, .bool a0_3, .slice A0_4 l0_4.length c0_4] 39 (0, 0)) (kN BK693.out)) : gb730 ≠ gb693)); have n17_ := m_ ((by rw [hg]; exact Nat.ne_of_lt (blk_lt (g := gb718) (o := .cells #[.slice Ao23 t706.length co23, .slice Ao26 t709.length co26, .int .i64 t712, .bool t713, .slice Ao27 t714.length co27] 33 (0, 0)) (kN BK718.out)) : gb718 ≠ gb730)); have n18_ := m_ ((by rw [hg]; exact Nat.ne_of_gt (blk_lt (g := gb718) (o := .cells #[.slice Ao23 t706.length co23, .slice Ao26 t709.length co26, .int .i64 t712, .bool t713, .slice Ao27 t714.length co27] 33 (0, 0)) (kN BK718.out)) : gb730 ≠ gb718)); clear HO697; clear HO700; clear HO705; clear HO708; clear HO711; clear HO716; clear HO721; clear HO724; clear HO729; clear BK693; clear BK718; clear HB; have HO697 := n0_; have HO700 := n1_; have HO705 := n2_; have HO708 := n3_; have HO711 := n4_; have HO716 := n5_; have HO721 := n6_; have HO724 := n7_; have HO729 := n8_; have BK693 := n9_; have BK718 := n10_; have HB := n11_; have BK730 := n12_; have GW730 := n13_; have GE730 := n14_; have NB693_730 := n15_; have NB730_693 := n16_; have NB718_730 := n17_; have NB730_718 := n18_; clear n0_ n1_ n2_ n3_ n4_ n5_ n6_ n7_ n8_ n9_ n10_ n11_ n12_ n13_ n14_ n15_ n16_ n17_ n18_; clear hb hbox hg; obtain ⟨Ao31, co31, eo31⟩ := Kd.R_slice HO721.out; subst eo31; have hnb32 := NB730_693.out; have hnc32 := NB693_730.out; have hnb33 := NB730_718.out; have hnc33 := NB718_730.out; have hcz34_0 : w30.cell? ⟨gb730, 0, none⟩ = some (.slice none 0 0) := (blk_cell BK730.out 0).trans rfl; have hcz34_1 : w30.cell? ⟨gb730, 1, none⟩ = some (.slice none 0 0) := (blk_cell BK730.out 1).trans rfl; have hcz34_2 : w30.cell? ⟨gb730, 2, none⟩ = some (.int .i64 0) := (blk_cell BK730.out 2).trans rfl; have hcz34_3 : w30.cell? ⟨gb730, 3, none⟩ = some (.bool false) := (blk_cell BK730.out 3).trans rfl; have hcz34_4 : w30.cell? ⟨gb730, 4, none⟩ = some (.slice none 0 0) := (blk_cell BK730.out 4).trans rfl; have hfz34_0 := blk_frozen BK730.out 0; have hfz34_1 := blk_frozen BK730.out 1; have hfz34_2 := blk_frozen BK730.out 2; have hfz34_3 := blk_frozen BK730.out 3; have hfz34_4 := blk_frozen BK730.out 4; obtain ⟨Ao35, co35, eo35⟩ := Kd.R_slice HO724.out; subst eo35; obtain ⟨Ao36, co36, eo36⟩ := Kd.R_slice HO729.out; subst eo36) | ((with_reducible refine gate_callee (f := 27) rfl ?_); refine goesL_ (some 33) rfl rfl Try.func27 (by kernel_rfl) rfl #[.agg #[.slice Ao31 t719.length co31, .slice Ao35 t722.length co35, .int .i64 t725, .bool t726, .slice Ao36 t727.length co36], .int .i64 a1] rfl gl_ ?_; (with_reducible refine (impl_PartSend.calls k _ _ t719 _ _ t722 t725 t726 _ _ t727 a1 t731 t734 t737 t738 t739 t742 _ ?side1 ?side2 ?side3 ?side4 ?side5 ?side6 A11.out).mono ?_); (case side1 => refine (Kd.R_reads' (e := 53) (base := w.heap.size) (ok := fun k_ => ((True ∧ nb Ao18 t695.length co18 k_) ∧ nb Ao23 t706.length co23 k_)) (n := t719.length) (c := co31) ?_).2.2; exact (frN (Kd.R_types HO721.out BK730.out (by decide)))); (case side2 => exact (Kd.R_reads' HO721.out).2.1); (case side3 => refine (Kd.R_reads' (e := 3) (base := w.heap.size) (ok := fun k_ => ((((nb Ao36 t727.length co36 k_ ∧ nb Ao19 t698.length co19 k_) ∧ nb Ao20 t703.length co20 k_) ∧ nb Ao26 t709.length co26 k_) ∧ nb Ao27 t714.length co27 k_)) (n := t722.length) (c := co35) ?_).2.2; exact (frN (Kd.R_types HO724.out BK730.out (by decide)))); (case side4 => exact (Kd.R_reads' HO724.out).2.1); (case side5 => refine (Kd.R_reads' (e := 3) (base := w.heap.size) (ok := fun k_ => ((((nb Ao35 t722.length co35 k_ ∧ nb Ao19 t698.length co19 k_) ∧ nb Ao20 t703.length co20 k_) ∧ nb Ao26 t709.length co26 k_) ∧ nb Ao27 t714.length co27 k_)) (n := t727.length) (c := co36) ?_).2.2; exact (frN (Kd.R_types HO729.out BK730.out (by decide)))); (case side6 => exact (Kd.R_reads' HO729.out).2.1); rintro e w37 ⟨v732, v735, v740, rfl, ho0, ho1, ho2, hb⟩; refine ⟨_, rfl, ?_⟩; have n0_ := m_ (Kd.R_elder' (frN (Kd.R_types HO697.out BK730.out (by decide))) (Kd.R_base ho0) hb); have n1_ := m_ (Kd.R_mono (Kd.R_told (Kd.R_told (Kd.R_old (frN (Kd.R_types HO700.out BK730.out (by decide))) hb) (Kd.R_base ho1)) (Kd.R_base ho2)) (fun _ h_ => h_.1)); have n2_ := m_ (Kd.R_mono (Kd.R_told (Kd.R_told (Kd.R_old (frN (Kd.R_types HO705.out BK730.out (by decide))) hb) (Kd.R_base ho1)) (Kd.R_base ho2)) (fun _ h_ => h_.1)); have n3_ := m_ (Kd.R_elder' (frN (Kd.R_types HO708.out BK730.out (by decide))) (Kd.R_base ho0) hb); have n4_ := m_ (Kd.R_mono (Kd.R_told (Kd.R_told (Kd.R_old (frN (Kd.R_types HO711.out BK730.out (by decide))) hb) (Kd.R_base ho1)) (Kd.R_base ho2)) (fun _ h_ => h_.1)); have n5_ := m_ (Kd.R_mono (Kd.R_told (Kd.R_told (Kd.R_old (frN (Kd.R_types HO716.out BK730.out (by decide))) hb) (Kd.R_base ho1)) (Kd.R_base ho2)) (fun _ h_ => h_.1)); have n6_ := m_ (Kd.R_elder' (frN (Kd.R_types HO721.out BK730.out (by decide))) (Kd.R_base ho0) hb); have n7_ := m_ (Kd.R_mono (Kd.R_told (Kd.R_told (Kd.R_old (frN (Kd.R_types HO724.out BK730.out (by decide))) hb) (Kd.R_base ho1)) (Kd.R_base ho2)) (fun _ h_ => h_.1)); have n8_ := m_ (Kd.R_mono (Kd.R_told (Kd.R_told (Kd.R_old (frN (Kd.R_types HO729.out BK730.out (by decide))) hb) (Kd.R_base ho1)) (Kd.R_base ho2)) (fun _ h_ => h_.1)); have n9_ := m_ (Kd.R_lower (Kd.R_new' (Kd.R_new' (Kd.R_new' ho0 (Kd.R_lt (frN (Kd.R_types HO697.out BK730.out (by decide))))) (Kd.R_lt (frN (Kd.R_types HO708.out BK730.out (by decide))))) (Kd.R_lt (frN (Kd.R_types HO721.out BK730.out (by decide))))) (below_size (bN HB.out))); have n10_ := m_ (Kd.R_lower (Kd.R_new' (Kd.R_new' (Kd.R_new' (Kd.R_new' (Kd.R_new' (Kd.R_new' ho1 (Kd.R_lt (frN (Kd.R_types HO700.out BK730.out (by decide))))) (Kd.R_lt (frN (Kd.R_types HO705.out BK730.out (by decide))))) (Kd.R_lt (frN (Kd.R_types HO711.out BK730.out (by decide))))) (Kd.R_lt (frN (Kd.R_types HO716.out BK730.out (by decide))))) (Kd.R_lt (frN (Kd.R_types HO724.out BK730.out (by decide))))) (Kd.R_lt (frN (Kd.R_types HO729.out BK730.out (by decide))))) (below_size (bN HB.out))); have n11_ := m_ (Kd.R_lower (Kd.R_new' (Kd.R_new' (Kd.R_new' (Kd.R_new' (Kd.R_new' (Kd.R_new' ho2 (Kd.R_lt (frN (Kd.R_types HO700.out BK730.out (by decide))))) (Kd.R_lt (frN (Kd.R_types HO705.out BK730.out (by decide))))) (Kd.R_lt (frN (Kd.R_types HO711.out BK730.out (by decide))))) (Kd.R_lt (frN (Kd.R_types HO716.out BK730.out (by decide))))) (Kd.R_lt (frN (Kd.R_types HO724.out BK730.out (by decide))))) (Kd.R_lt (frN (Kd.R_types HO729.out BK730.out (by decide))))) (below_size (bN HB.out))); have n12_ := m_ (blk_below (g := gb693) (o := .cells #[.slice A0_0 l0_0.length c0_0, .slice A0_1 l0_1.length c0_1, .int .i64 a0_2, .bool a0_3, .slice A0_4 l0_4.length c0_4] 39 (0, 0)) (kF BK693.out NB693_730.out) hb); have n13_ := m_ (blk_below (g := gb718) (o := .cells #[.slice Ao23 t706.length co23, .slice Ao26 t709.length co26, .int .i64 t712, .bool t713, .slice Ao27 t714.length co27] 33 (0, 0)) (kF BK718.out NB718_730.out) hb); have n14_ := m_ (blk_below (g := gb730) (o := .cells #[.slice Ao31 t719.length co31, .slice Ao35 t722.length co35, .int .i64 t725, .bool t726, .slice Ao36 t727.length co36] 33 (0, 0)) (by (with_reducible repeat (first | refine blk_drewN ?_ _ | refine blk_drew ?_ | refine blk_alloc ?_ _)); refine blk_put (cs := #[.slice Ao31 t719.length co31, .slice Ao35 t722.length co35, .int .i64 t725, .bool t726, .slice none 0 0]) ?_ 4 _ rfl; (with_reducible repeat (first | refine blk_drewN ?_ _ | refine blk_drew ?_ | refine blk_alloc ?_ _)); refine blk_put (cs := #[.slice Ao31 t719.length co31, .slice Ao35 t722.length co35, .int .i64 t725, .bool false, .slice none 0 0]) ?_ 3 _ rfl; (with_reducible repeat (first | refine blk_drewN ?_ _ | refine blk_drew ?_ | refine blk_alloc ?_ _)); refine blk_put (cs := #[.slice Ao31 t719.length co31, .slice Ao35 t722.length co35, .int .i64 0, .bool false, .slice none 0 0]) ?_ 2 _ rfl; (with_reducible repeat (first | refine blk_drewN ?_ _ | refine blk_drew ?_ | refine blk_alloc ?_ _)); refine blk_put (cs := #[.slice Ao31 t719.length co31, .slice none 0 0, .int .i64 0, .bool false, .slice none 0 0]) ?_ 1 _ rfl; (with_reducible repeat (first | refine blk_drewN ?_ _ | refine blk_drew ?_ | refine blk_alloc ?_ _)); refine blk_put (cs := #[.slice none 0 0, .slice none 0 0, .int .i64 0, .bool false, .slice none 0 0]) ?_ 0 _ rfl; (with_reducible repeat (first | refine blk_drewN ?_ _ | refine blk_drew ?_ | refine blk_alloc ?_ _)); exact BK730.out) hb); have n15_ := m_ (below_step (bN HB.out) hb); clear HO697; clear HO700; clear HO705; clear HO708; clear HO711; clear HO716; clear HO721; clear HO724; clear HO729; clear BK693; clear BK718; clear BK730; clear HB; have HO697 := n0_; have HO700 := n1_; have HO705 := n2_; have HO708 := n3_; have HO711 := n4_; have HO716 := n5_; have HO721 := n6_; have HO724 := n7_; have HO729 := n8_; have HO733 := n9_; have HO736 := n10_; have HO741 := n11_; have BK693 := n12_; have BK718 := n13_; have BK730 := n14_; have HB := n15_; clear n0_ n1_ n2_ n3_ n4_ n5_ n6_ n7_ n8_ n9_ n10_ n11_ n12_ n13_ n14_ n15_; (try clear hb); (try clear hb2); (try clear hk); (try clear hi); (try clear ho0); (try clear ho1); (try clear ho2)) | ((with_reducible refine gate_dst (N := 9) rfl ?_); refine box_event ?hg (N := 9) ?hd (cs := #[.slice none 0 0, .slice none 0 0, .int .i64 0, .bool false, .slice none 0 0]) (t := 33) ?hr ?_; (case hd => rfl); (case hg => rfl); (case hr => first | (go_simp; done) | (go_simp; rfl)); intro gb743 hg w38 hbox hb; have n0_ := m_ (Kd.R_below (rN HO697.out) hb); have n1_ := m_ (Kd.R_below (rN HO700.out) hb); have n2_ := m_ (Kd.R_below (rN HO705.out) hb); have n3_ := m_ (Kd.R_below (rN HO708.out) hb); have n4_ := m_ (Kd.R_below (rN HO711.out) hb); have n5_ := m_ (Kd.R_below (rN HO716.out) hb); have n6_ := m_ (Kd.R_below (rN HO721.out) hb); have n7_ := m_ (Kd.R_below (rN HO724.out) hb); have n8_ := m_ (Kd.R_below (rN HO729.out) hb); have n9_ := m_ (Kd.R_below (rN HO733.out) hb); have n10_ := m_ (Kd.R_below (rN HO736.out) hb); have n11_ := m_ (Kd.R_below (rN HO741.out) hb); have n12_ := m_ (blk_below (kN BK693.out) hb); have n13_ := m_ (blk_below (kN BK718.out) hb); have n14_ := m_ (blk_below (kN BK730.out) hb); have n15_ := m_ (below_step (bN HB.out) hb); have n16_ := m_ (hbox); have n17_ := m_ ((by rw [hg]; exact (below_size (bN HB.out)) : w.heap.size ≤ gb743)); have n18_ := m_ ((by rw [hg]; exact (below_size (bN HB.out)) : w.heap.size ≤ gb743)); have n19_ := m_ ((by rw [hg]; exact Nat.ne_of_lt (blk_lt (g := gb693) (o := .cells #[.slice A0_0 l0_0.length c0_0, .slice A0_1 l0_1.length c0_1, .int .i64 a0_2, .bool a0_3, .slice A0_4 l0_4.length c0_4] 39 (0, 0)) (kN BK693.out)) : gb693 ≠ gb743)); have n20_ := m_ ((by rw [hg]; exact Nat.ne_of_gt (blk_lt (g := gb693) (o := .cells #[.slice A0_0 l0_0.length c0_0, .slice A0_1 l0_1.length c0_1, .int .i64 a0_2, .bool a0_3, .slice A0_4 l0_4.length c0_4] 39 (0, 0)) (kN BK693.out)) : gb743 ≠ gb693)); have n21_ := m_ ((by rw [hg]; exact Nat.ne_of_lt (blk_lt (g := gb718) (o := .cells #[.slice Ao23 t706.length co23, .slice Ao26 t709.length co26, .int .i64 t712, .bool t713, .slice Ao27 t714.length co27] 33 (0, 0)) (kN BK718.out)) : gb718 ≠ gb743)); have n22_ := m_ ((by rw [hg]; exact Nat.ne_of_gt (blk_lt (g := gb718) (o := .cells #[.slice Ao23 t706.length co23, .slice Ao26 t709.length co26, .int .i64 t712, .bool t713, .slice Ao27 t714.length co27] 33 (0, 0)) (kN BK718.out)) : gb743 ≠ gb718)); have n23_ := m_ ((by rw [hg]; exact Nat.ne_of_lt (blk_lt (g := gb730) (o := .cells #[.slice Ao31 t719.length co31, .slice Ao35 t722.length co35, .int .i64 t725, .bool t726, .slice Ao36 t727.length co36] 33 (0, 0)) (kN BK730.out)) : gb730 ≠ gb743)); have n24_ := m_ ((by rw [hg]; exact Nat.ne_of_gt (blk_lt (g := gb730) (o := .cells #[.slice Ao31 t719.length co31, .slice Ao35 t722.length co35, .int .i64 t725, .bool t726, .slice Ao36 t727.length co36] 33 (0, 0)) (kN BK730.out)) : gb743 ≠ gb730)); clear HO697; clear HO700; clear HO705; clear HO708; clear HO711; clear HO716; clear HO721; clear HO724; clear HO729; clear HO733; clear HO736; clear HO741; clear BK693; clear BK718; clear BK730; clear HB; have HO697 := n0_; have HO700 := n1_; have HO705 := n2_; have HO708 := n3_; have HO711 := n4_; have HO716 := n5_; have HO721 := n6_; have HO724 := n7_; have HO729 := n8_; have HO733 := n9_; have HO736 := n10_; have HO741 := n11_; have BK693 := n12_; have BK718 := n13_; have BK730 := n14_; have HB := n15_; have BK743 := n16_; have GW743 := n17_; have GE743 := n18_; have NB693_743 := n19_; have NB743_693 := n20_; have NB718_743 := n21_; have NB743_718 := n22_; have NB730_743 := n23_; have NB743_730 := n24_; clear n0_ n1_ n2_ n3_ n4_ n5_ n6_ n7_ n8_ n9_ n10_ n11_ n12_ n13_ n14_ n15_ n16_ n17_ n18_ n19_ n20_ n21_ n22_ n23_ n24_; clear hb hbox hg; obtain ⟨Ao39, co39, eo39⟩ := Kd.R_slice HO733.out; subst eo39; have hnb40 := NB743_693.out; have hnc40 := NB693_743.out; have hnb41 := NB743_718.out; have hnc41 := NB718_743.out; have hnb42 := NB743_730.out; have hnc42 := NB730_743.out; have hcz43_0 : w38.cell? ⟨gb743, 0, none⟩ = some (.slice none 0 0) := (blk_cell BK743.out 0).trans rfl; have hcz43_1 : w38.cell? ⟨gb743, 1, none⟩ = some (.slice none 0 0) := (blk_cell BK743.out 1).trans rfl; have hcz43_2 : w38.cell? ⟨gb743, 2, none⟩ = some (.int .i64 0) := (blk_cell BK743.out 2).trans rfl; have hcz43_3 : w38.cell? ⟨gb743, 3, none⟩ = some (.bool false) := (blk_cell BK743.out 3).trans rfl; have hcz43_4 : w38.cell? ⟨gb743, 4, none⟩ = some (.slice none 0 0) := (blk_cell BK743.out 4).trans rfl; have hfz43_0 := blk_frozen BK743.out 0; have hfz43_1 := blk_frozen BK743.out 1; have hfz43_2 := blk_frozen BK743.out 2; have hfz43_3 := blk_frozen BK743.out 3; have hfz43_4 := blk_frozen BK743.out 4; obtain ⟨Ao44, co44, eo44⟩ := Kd.R_slice HO736.out; subst eo44; obtain ⟨Ao45, co45, eo45⟩ := Kd.R_slice HO741.out; subst eo45))
  (try simp only [Act.put, List.setIfInBounds_toArray, List.set_cons_zero, List.set_cons_succ])
  go_cut [44] (fun v44 wc => ∃ (kq : Nat) (x44_11 : Bool), v44 = .bool x44_11 ∧ Aside0 (laws_FnExactPartSend.j0 kq a1 t717 t742 x44_11 l0_0 l0_1 a0_2 a0_3 l0_4 t706 t709 t712 t713 t714 t719 t722 t725 t726 t727 t731 t734 t737 t738 t739 = some r) ∧ Aside0 (kq ≤ k) ∧ Aside0 (Kd.R k53 53 wc w.heap.size (fun k_ => some k_ ≠ ((.slice Ao31 t719.length co31) : Value).ownBlock ∧ some k_ ≠ ((.slice Ao39 t731.length co39) : Value).ownBlock) (.slice Ao23 t706.length co23) t706) ∧ Aside0 (Kd.R (Kd.int .i64) 3 wc w.heap.size (fun k_ => some k_ ≠ ((.slice Ao27 t714.length co27) : Value).ownBlock ∧ some k_ ≠ ((.slice Ao35 t722.length co35) : Value).ownBlock ∧ some k_ ≠ ((.slice Ao36 t727.length co36) : Value).ownBlock ∧ some k_ ≠ ((.slice Ao44 t734.length co44) : Value).ownBlock ∧ some k_ ≠ ((.slice Ao45 t739.length co45) : Value).ownBlock) (.slice Ao26 t709.length co26) t709) ∧ Aside0 (Kd.R (Kd.int .i64) 3 wc w.heap.size (fun k_ => some k_ ≠ ((.slice Ao26 t709.length co26) : Value).ownBlock ∧ some k_ ≠ ((.slice Ao35 t722.length co35) : Value).ownBlock ∧ some k_ ≠ ((.slice Ao36 t727.length co36) : Value).ownBlock ∧ some k_ ≠ ((.slice Ao44 t734.length co44) : Value).ownBlock ∧ some k_ ≠ ((.slice Ao45 t739.length co45) : Value).ownBlock) (.slice Ao27 t714.length co27) t714) ∧ Aside0 (Kd.R k53 53 wc w.heap.size (fun k_ => some k_ ≠ ((.slice Ao23 t706.length co23) : Value).ownBlock ∧ some k_ ≠ ((.slice Ao39 t731.length co39) : Value).ownBlock) (.slice Ao31 t719.length co31) t719) ∧ Aside0 (Kd.R (Kd.int .i64) 3 wc w.heap.size (fun k_ => some k_ ≠ ((.slice Ao26 t709.length co26) : Value).ownBlock ∧ some k_ ≠ ((.slice Ao27 t714.length co27) : Value).ownBlock ∧ some k_ ≠ ((.slice Ao36 t727.length co36) : Value).ownBlock ∧ some k_ ≠ ((.slice Ao44 t734.length co44) : Value).ownBlock ∧ some k_ ≠ ((.slice Ao45 t739.length co45) : Value).ownBlock) (.slice Ao35 t722.length co35) t722) ∧ Aside0 (Kd.R (Kd.int .i64) 3 wc w.heap.size (fun k_ => some k_ ≠ ((.slice Ao26 t709.length co26) : Value).ownBlock ∧ some k_ ≠ ((.slice Ao27 t714.length co27) : Value).ownBlock ∧ some k_ ≠ ((.slice Ao35 t722.length co35) : Value).ownBlock ∧ some k_ ≠ ((.slice Ao44 t734.length co44) : Value).ownBlock ∧ some k_ ≠ ((.slice Ao45 t739.length co45) : Value).ownBlock) (.slice Ao36 t727.length co36) t727) ∧ Aside0 (Kd.R k53 53 wc w.heap.size (fun k_ => some k_ ≠ ((.slice Ao23 t706.length co23) : Value).ownBlock ∧ some k_ ≠ ((.slice Ao31 t719.length co31) : Value).ownBlock) (.slice Ao39 t731.length co39) t731) ∧ Aside0 (Kd.R (Kd.int .i64) 3 wc w.heap.size (fun k_ => some k_ ≠ ((.slice Ao26 t709.length co26) : Value).ownBlock ∧ some k_ ≠ ((.slice Ao27 t714.length co27) : Value).ownBlock ∧ some k_ ≠ ((.slice Ao35 t722.length co35) : Value).ownBlock ∧ some k_ ≠ ((.slice Ao36 t727.length co36) : Value).ownBlock ∧ some k_ ≠ ((.slice Ao45 t739.length co45) : Value).ownBlock) (.slice Ao44 t734.length co44) t734) ∧ Aside0 (Kd.R (Kd.int .i64) 3 wc w.heap.size (fun k_ => some k_ ≠ ((.slice Ao26 t709.length co26) : Value).ownBlock ∧ some k_ ≠ ((.slice Ao27 t714.length co27) : Value).ownBlock ∧ some k_ ≠ ((.slice Ao35 t722.length co35) : Value).ownBlock ∧ some k_ ≠ ((.slice Ao36 t727.length co36) : Value).ownBlock ∧ some k_ ≠ ((.slice Ao44 t734.length co44) : Value).ownBlock) (.slice Ao45 t739.length co45) t739) ∧ Aside0 (wc.heap[gb693]? = some (.cells #[(.slice A0_0 l0_0.length c0_0), (.slice A0_1 l0_1.length c0_1), .int .i64 a0_2, .bool a0_3, (.slice A0_4 l0_4.length c0_4)] 39 (0, 0))) ∧ Aside0 (wc.heap[gb718]? = some (.cells #[(.slice Ao23 t706.length co23), (.slice Ao26 t709.length co26), .int .i64 t712, .bool t713, (.slice Ao27 t714.length co27)] 33 (0, 0))) ∧ Aside0 (wc.heap[gb730]? = some (.cells #[(.slice Ao31 t719.length co31), (.slice Ao35 t722.length co35), .int .i64 t725, .bool t726, (.slice Ao36 t727.length co36)] 33 (0, 0))) ∧ Aside0 (wc.heap[gb743]? = some (.cells #[(.slice Ao39 t731.length co39), (.slice Ao44 t734.length co44), .int .i64 t737, .bool t738, (.slice Ao45 t739.length co45)] 33 (0, 0))) ∧ Aside0 (Below w.heap.size w wc))
  case first =>
   have H := HC12.out
   clear HC12
   replace H := Option.bind_eq_some_iff.mp H
   obtain ⟨t744, A460, H⟩ := H
   replace H : (if t744 = true then (laws_FnExactPartSend.j0 k a1 t717 t742 (t742 != t717) l0_0 l0_1 a0_2 a0_3 l0_4 t706 t709 t712 t713 t714 t719 t722 t725 t726 t727 t731 t734 t737 t738 t739) else (laws_FnExactPartSend.j0 k a1 t717 t742 true l0_0 l0_1 a0_2 a0_3 l0_4 t706 t709 t712 t713 t714 t719 t722 t725 t726 t727 t731 t734 t737 t738 t739)) = some r := H
   have A46 := Aside0.mk A460
   clear A460
   by_cases c47 : t744 = true
   ·subst c47
    have H1 : (laws_FnExactPartSend.j0 k a1 t717 t742 (t742 != t717) l0_0 l0_1 a0_2 a0_3 l0_4 t706 t709 t712 t713 t714 t719 t722 t725 t726 t727 t731 t734 t737 t738 t739) = some r := by rw [if_pos rfl] at H; exact H
    clear H
    have H := H1
    clear H1
    have H' := Aside0.mk H
    clear H
    have hnb48 := NB743_693.out
    have hnc48 := NB693_743.out
    have hnb49 := NB743_718.out
    have hnc49 := NB718_743.out
    have hnb50 := NB743_730.out
    have hnc50 := NB730_743.out
    have hcz51_0 : w38.cell? ⟨gb743, 0, none⟩ = some (.slice none 0 0) := (blk_cell BK743.out 0).trans rfl
    have hcz51_1 : w38.cell? ⟨gb743, 1, none⟩ = some (.slice none 0 0) := (blk_cell BK743.out 1).trans rfl
    have hcz51_2 : w38.cell? ⟨gb743, 2, none⟩ = some (.int .i64 0) := (blk_cell BK743.out 2).trans rfl
    have hcz51_3 : w38.cell? ⟨gb743, 3, none⟩ = some (.bool false) := (blk_cell BK743.out 3).trans rfl
    have hcz51_4 : w38.cell? ⟨gb743, 4, none⟩ = some (.slice none 0 0) := (blk_cell BK743.out 4).trans rfl
    have hfz51_0 := blk_frozen BK743.out 0
    have hfz51_1 := blk_frozen BK743.out 1
    have hfz51_2 := blk_frozen BK743.out 2
    have hfz51_3 := blk_frozen BK743.out 3
    have hfz51_4 := blk_frozen BK743.out 4
    have hnb52 := NB718_693.out
    have hnc52 := NB693_718.out
    have hnb53 := NB718_730.out
    have hnc53 := NB730_718.out
    have hcz54_0 : w38.cell? ⟨gb718, 0, none⟩ = some (.slice Ao23 t706.length co23) := (blk_cell BK718.out 0).trans rfl
    have hcz54_1 : w38.cell? ⟨gb718, 1, none⟩ = some (.slice Ao26 t709.length co26) := (blk_cell BK718.out 1).trans rfl
    have hcz54_2 : w38.cell? ⟨gb718, 2, none⟩ = some (.int .i64 t712) := (blk_cell BK718.out 2).trans rfl
    have hcz54_3 : w38.cell? ⟨gb718, 3, none⟩ = some (.bool t713) := (blk_cell BK718.out 3).trans rfl
    have hcz54_4 : w38.cell? ⟨gb718, 4, none⟩ = some (.slice Ao27 t714.length co27) := (blk_cell BK718.out 4).trans rfl
    have hfz54_0 := blk_frozen BK718.out 0
    have hfz54_1 := blk_frozen BK718.out 1
    have hfz54_2 := blk_frozen BK718.out 2
    have hfz54_3 := blk_frozen BK718.out 3
    have hfz54_4 := blk_frozen BK718.out 4
    go_wp2_with (first | ((with_reducible refine gate_callee (f := 22) rfl ?_); refine goesL_ (some 38) rfl rfl Try.func22 (by kernel_rfl) rfl #[.agg #[.slice Ao39 t731.length co39, .slice Ao44 t734.length co44, .int .i64 t737, .bool t738, .slice Ao45 t739.length co45], .agg #[.slice Ao23 t706.length co23, .slice Ao26 t709.length co26, .int .i64 t712, .bool t713, .slice Ao27 t714.length co27]] rfl gl_ ?_; (with_reducible refine (laws_eqPart.calls k _ _ t731 _ _ t734 t737 t738 _ _ t739 _ _ t706 _ _ t709 t712 t713 _ _ t714 true _ ?side1 ?side2 ?side3 ?side4 ?side5 ?side6 ?side7 ?side8 ?side9 ?side10 ?side11 ?side12 A46.out).mono ?_); (case side1 => refine (Kd.R_reads' (e := 53) (base := w.heap.size) (ok := fun k_ => (((True ∧ nb Ao18 t695.length co18 k_) ∧ nb Ao23 t706.length co23 k_) ∧ nb Ao31 t719.length co31 k_)) (n := t731.length) (c := co39) ?_).2.2; exact (frN (Kd.R_types HO733.out BK743.out (by decide)))); (case side2 => exact (Kd.R_reads' HO733.out).2.1); (case side3 => refine (Kd.R_reads' (e := 3) (base := w.heap.size) (ok := fun k_ => ((((((nb Ao45 t739.length co45 k_ ∧ nb Ao19 t698.length co19 k_) ∧ nb Ao20 t703.length co20 k_) ∧ nb Ao26 t709.length co26 k_) ∧ nb Ao27 t714.length co27 k_) ∧ nb Ao35 t722.length co35 k_) ∧ nb Ao36 t727.length co36 k_)) (n := t734.length) (c := co44) ?_).2.2; exact (frN (Kd.R_types HO736.out BK743.out (by decide)))); (case side4 => exact (Kd.R_reads' HO736.out).2.1); (case side5 => refine (Kd.R_reads' (e := 3) (base := w.heap.size) (ok := fun k_ => ((((((nb Ao44 t734.length co44 k_ ∧ nb Ao19 t698.length co19 k_) ∧ nb Ao20 t703.length co20 k_) ∧ nb Ao26 t709.length co26 k_) ∧ nb Ao27 t714.length co27 k_) ∧ nb Ao35 t722.length co35 k_) ∧ nb Ao36 t727.length co36 k_)) (n := t739.length) (c := co45) ?_).2.2; exact (frN (Kd.R_types HO741.out BK743.out (by decide)))); (case side6 => exact (Kd.R_reads' HO741.out).2.1); (case side7 => refine (Kd.R_reads' (e := 53) (base := w.heap.size) (ok := fun k_ => (((True ∧ nb Ao18 t695.length co18 k_) ∧ nb Ao31 t719.length co31 k_) ∧ nb Ao39 t731.length co39 k_)) (n := t706.length) (c := co23) ?_).2.2; exact (frN (Kd.R_types HO708.out BK743.out (by decide)))); (case side8 => exact (Kd.R_reads' HO708.out).2.1); (case side9 => refine (Kd.R_reads' (e := 3) (base := w.heap.size) (ok := fun k_ => ((((((nb Ao27 t714.length co27 k_ ∧ nb Ao19 t698.length co19 k_) ∧ nb Ao20 t703.length co20 k_) ∧ nb Ao35 t722.length co35 k_) ∧ nb Ao36 t727.length co36 k_) ∧ nb Ao44 t734.length co44 k_) ∧ nb Ao45 t739.length co45 k_)) (n := t709.length) (c := co26) ?_).2.2; exact (frN (Kd.R_types HO711.out BK743.out (by decide)))); (case side10 => exact (Kd.R_reads' HO711.out).2.1); (case side11 => refine (Kd.R_reads' (e := 3) (base := w.heap.size) (ok := fun k_ => ((((((nb Ao26 t709.length co26 k_ ∧ nb Ao19 t698.length co19 k_) ∧ nb Ao20 t703.length co20 k_) ∧ nb Ao35 t722.length co35 k_) ∧ nb Ao36 t727.length co36 k_) ∧ nb Ao44 t734.length co44 k_) ∧ nb Ao45 t739.length co45 k_)) (n := t714.length) (c := co27) ?_).2.2; exact (frN (Kd.R_types HO716.out BK743.out (by decide)))); (case side12 => exact (Kd.R_reads' HO716.out).2.1); rintro e w55 ⟨rfl, hb⟩; refine ⟨_, rfl, ?_⟩; have n0_ := m_ (Kd.R_below (frN (Kd.R_types HO697.out BK743.out (by decide))) hb); have n1_ := m_ (Kd.R_below (frN (Kd.R_types HO700.out BK743.out (by decide))) hb); have n2_ := m_ (Kd.R_below (frN (Kd.R_types HO705.out BK743.out (by decide))) hb); have n3_ := m_ (Kd.R_below (frN (Kd.R_types HO708.out BK743.out (by decide))) hb); have n4_ := m_ (Kd.R_below (frN (Kd.R_types HO711.out BK743.out (by decide))) hb); have n5_ := m_ (Kd.R_below (frN (Kd.R_types HO716.out BK743.out (by decide))) hb); have n6_ := m_ (Kd.R_below (frN (Kd.R_types HO721.out BK743.out (by decide))) hb); have n7_ := m_ (Kd.R_below (frN (Kd.R_types HO724.out BK743.out (by decide))) hb); have n8_ := m_ (Kd.R_below (frN (Kd.R_types HO729.out BK743.out (by decide))) hb); have n9_ := m_ (Kd.R_below (frN (Kd.R_types HO733.out BK743.out (by decide))) hb); have n10_ := m_ (Kd.R_below (frN (Kd.R_types HO736.out BK743.out (by decide))) hb); have n11_ := m_ (Kd.R_below (frN (Kd.R_types HO741.out BK743.out (by decide))) hb); have n12_ := m_ (blk_below (g := gb693) (o := .cells #[.slice A0_0 l0_0.length c0_0, .slice A0_1 l0_1.length c0_1, .int .i64 a0_2, .bool a0_3, .slice A0_4 l0_4.length c0_4] 39 (0, 0)) (kF BK693.out NB693_743.out) hb); have n13_ := m_ (blk_below (g := gb718) (o := .cells #[.slice Ao23 t706.length co23, .slice Ao26 t709.length co26, .int .i64 t712, .bool t713, .slice Ao27 t714.length co27] 33 (0, 0)) (kF BK718.out NB718_743.out) hb); have n14_ := m_ (blk_below (g := gb730) (o := .cells #[.slice Ao31 t719.length co31, .slice Ao35 t722.length co35, .int .i64 t725, .bool t726, .slice Ao36 t727.length co36] 33 (0, 0)) (kF BK730.out NB730_743.out) hb); have n15_ := m_ (blk_below (g := gb743) (o := .cells #[.slice Ao39 t731.length co39, .slice Ao44 t734.length co44, .int .i64 t737, .bool t738, .slice Ao45 t739.length co45] 33 (0, 0)) (by (with_reducible repeat (first | refine blk_drewN ?_ _ | refine blk_drew ?_ | refine blk_alloc ?_ _)); refine blk_put (cs := #[.slice Ao39 t731.length co39, .slice Ao44 t734.length co44, .int .i64 t737, .bool t738, .slice none 0 0]) ?_ 4 _ rfl; (with_reducible repeat (first | refine blk_drewN ?_ _ | refine blk_drew ?_ | refine blk_alloc ?_ _)); refine blk_put (cs := #[.slice Ao39 t731.length co39, .slice Ao44 t734.length co44, .int .i64 t737, .bool false, .slice none 0 0]) ?_ 3 _ rfl; (with_reducible repeat (first | refine blk_drewN ?_ _ | refine blk_drew ?_ | refine blk_alloc ?_ _)); refine blk_put (cs := #[.slice Ao39 t731.length co39, .slice Ao44 t734.length co44, .int .i64 0, .bool false, .slice none 0 0]) ?_ 2 _ rfl; (with_reducible repeat (first | refine blk_drewN ?_ _ | refine blk_drew ?_ | refine blk_alloc ?_ _)); refine blk_put (cs := #[.slice Ao39 t731.length co39, .slice none 0 0, .int .i64 0, .bool false, .slice none 0 0]) ?_ 1 _ rfl; (with_reducible repeat (first | refine blk_drewN ?_ _ | refine blk_drew ?_ | refine blk_alloc ?_ _)); refine blk_put (cs := #[.slice none 0 0, .slice none 0 0, .int .i64 0, .bool false, .slice none 0 0]) ?_ 0 _ rfl; (with_reducible repeat (first | refine blk_drewN ?_ _ | refine blk_drew ?_ | refine blk_alloc ?_ _)); exact BK743.out) hb); have n16_ := m_ (below_step (bN HB.out) hb); clear HO697; clear HO700; clear HO705; clear HO708; clear HO711; clear HO716; clear HO721; clear HO724; clear HO729; clear HO733; clear HO736; clear HO741; clear BK693; clear BK718; clear BK730; clear BK743; clear HB; have HO697 := n0_; have HO700 := n1_; have HO705 := n2_; have HO708 := n3_; have HO711 := n4_; have HO716 := n5_; have HO721 := n6_; have HO724 := n7_; have HO729 := n8_; have HO733 := n9_; have HO736 := n10_; have HO741 := n11_; have BK693 := n12_; have BK718 := n13_; have BK730 := n14_; have BK743 := n15_; have HB := n16_; clear n0_ n1_ n2_ n3_ n4_ n5_ n6_ n7_ n8_ n9_ n10_ n11_ n12_ n13_ n14_ n15_ n16_; (try clear hb); (try clear hb2); (try clear hk); (try clear hi)))
    go_meet
    case rel => exact ⟨_, ((t742 != t717)), (by first | rfl | (simp; done) | (simp [*]; done)), H', ⟨by first | omega | exact Nat.le_refl _⟩, ⟨by (with_reducible repeat (first | apply Kd.R_alloc | apply Kd.R_drewN | apply Kd.R_drew)); exact Kd.R_mono HO708.out (fun _ hk => ⟨hk.1.2, hk.2⟩)⟩, ⟨by (with_reducible repeat (first | apply Kd.R_alloc | apply Kd.R_drewN | apply Kd.R_drew)); exact Kd.R_mono HO711.out (fun _ hk => ⟨hk.1.1.1.1.1.1, ⟨hk.1.1.1.2, ⟨hk.1.1.2, ⟨hk.1.2, hk.2⟩⟩⟩⟩)⟩, ⟨by (with_reducible repeat (first | apply Kd.R_alloc | apply Kd.R_drewN | apply Kd.R_drew)); exact Kd.R_mono HO716.out (fun _ hk => ⟨hk.1.1.1.1.1.1, ⟨hk.1.1.1.2, ⟨hk.1.1.2, ⟨hk.1.2, hk.2⟩⟩⟩⟩)⟩, ⟨by (with_reducible repeat (first | apply Kd.R_alloc | apply Kd.R_drewN | apply Kd.R_drew)); exact Kd.R_mono HO721.out (fun _ hk => ⟨hk.1.2, hk.2⟩)⟩, ⟨by (with_reducible repeat (first | apply Kd.R_alloc | apply Kd.R_drewN | apply Kd.R_drew)); exact Kd.R_mono HO724.out (fun _ hk => ⟨hk.1.1.1.2, ⟨hk.1.1.2, ⟨hk.1.1.1.1.1.1, ⟨hk.1.2, hk.2⟩⟩⟩⟩)⟩, ⟨by (with_reducible repeat (first | apply Kd.R_alloc | apply Kd.R_drewN | apply Kd.R_drew)); exact Kd.R_mono HO729.out (fun _ hk => ⟨hk.1.1.1.2, ⟨hk.1.1.2, ⟨hk.1.1.1.1.1.1, ⟨hk.1.2, hk.2⟩⟩⟩⟩)⟩, ⟨by (with_reducible repeat (first | apply Kd.R_alloc | apply Kd.R_drewN | apply Kd.R_drew)); exact Kd.R_mono HO733.out (fun _ hk => ⟨hk.1.2, hk.2⟩)⟩, ⟨by (with_reducible repeat (first | apply Kd.R_alloc | apply Kd.R_drewN | apply Kd.R_drew)); exact Kd.R_mono HO736.out (fun _ hk => ⟨hk.1.1.1.2, ⟨hk.1.1.2, ⟨hk.1.2, ⟨hk.2, hk.1.1.1.1.1.1⟩⟩⟩⟩)⟩, ⟨by (with_reducible repeat (first | apply Kd.R_alloc | apply Kd.R_drewN | apply Kd.R_drew)); exact Kd.R_mono HO741.out (fun _ hk => ⟨hk.1.1.1.2, ⟨hk.1.1.2, ⟨hk.1.2, ⟨hk.2, hk.1.1.1.1.1.1⟩⟩⟩⟩)⟩, ⟨by (with_reducible repeat (first | refine blk_drewN ?_ _ | refine blk_drew ?_ | refine blk_alloc ?_ _)); exact BK693.out⟩, ⟨by (with_reducible repeat (first | refine blk_drewN ?_ _ | refine blk_drew ?_ | refine blk_alloc ?_ _)); exact BK718.out⟩, ⟨by (with_reducible repeat (first | refine blk_drewN ?_ _ | refine blk_drew ?_ | refine blk_alloc ?_ _)); exact BK730.out⟩, ⟨by (with_reducible repeat (first | refine blk_drewN ?_ _ | refine blk_drew ?_ | refine blk_alloc ?_ _)); exact BK743.out⟩, ⟨by repeat (first | (with_reducible first | exact HB.out | apply below_alloc | apply pw_below_drewN | apply below_drew1 | refine below_set ?_ GE693.out | refine below_set ?_ GE718.out | refine below_set ?_ GE730.out | refine below_set ?_ GE743.out) | exact HB.out)⟩⟩
   ·replace c47 := Bool.eq_false_iff.mpr c47
    subst c47
    have H1 : (laws_FnExactPartSend.j0 k a1 t717 t742 true l0_0 l0_1 a0_2 a0_3 l0_4 t706 t709 t712 t713 t714 t719 t722 t725 t726 t727 t731 t734 t737 t738 t739) = some r := by rw [if_neg (show ¬ (false = true) by decide)] at H; exact H
    clear H
    have H := H1
    clear H1
    have H' := Aside0.mk H
    clear H
    have hnb56 := NB743_693.out
    have hnc56 := NB693_743.out
    have hnb57 := NB743_718.out
    have hnc57 := NB718_743.out
    have hnb58 := NB743_730.out
    have hnc58 := NB730_743.out
    have hcz59_0 : w38.cell? ⟨gb743, 0, none⟩ = some (.slice none 0 0) := (blk_cell BK743.out 0).trans rfl
    have hcz59_1 : w38.cell? ⟨gb743, 1, none⟩ = some (.slice none 0 0) := (blk_cell BK743.out 1).trans rfl
    have hcz59_2 : w38.cell? ⟨gb743, 2, none⟩ = some (.int .i64 0) := (blk_cell BK743.out 2).trans rfl
    have hcz59_3 : w38.cell? ⟨gb743, 3, none⟩ = some (.bool false) := (blk_cell BK743.out 3).trans rfl
    have hcz59_4 : w38.cell? ⟨gb743, 4, none⟩ = some (.slice none 0 0) := (blk_cell BK743.out 4).trans rfl
    have hfz59_0 := blk_frozen BK743.out 0
    have hfz59_1 := blk_frozen BK743.out 1
    have hfz59_2 := blk_frozen BK743.out 2
    have hfz59_3 := blk_frozen BK743.out 3
    have hfz59_4 := blk_frozen BK743.out 4
    have hnb60 := NB718_693.out
    have hnc60 := NB693_718.out
    have hnb61 := NB718_730.out
    have hnc61 := NB730_718.out
    have hcz62_0 : w38.cell? ⟨gb718, 0, none⟩ = some (.slice Ao23 t706.length co23) := (blk_cell BK718.out 0).trans rfl
    have hcz62_1 : w38.cell? ⟨gb718, 1, none⟩ = some (.slice Ao26 t709.length co26) := (blk_cell BK718.out 1).trans rfl
    have hcz62_2 : w38.cell? ⟨gb718, 2, none⟩ = some (.int .i64 t712) := (blk_cell BK718.out 2).trans rfl
    have hcz62_3 : w38.cell? ⟨gb718, 3, none⟩ = some (.bool t713) := (blk_cell BK718.out 3).trans rfl
    have hcz62_4 : w38.cell? ⟨gb718, 4, none⟩ = some (.slice Ao27 t714.length co27) := (blk_cell BK718.out 4).trans rfl
    have hfz62_0 := blk_frozen BK718.out 0
    have hfz62_1 := blk_frozen BK718.out 1
    have hfz62_2 := blk_frozen BK718.out 2
    have hfz62_3 := blk_frozen BK718.out 3
    have hfz62_4 := blk_frozen BK718.out 4
    go_wp2_with (first | ((with_reducible refine gate_callee (f := 22) rfl ?_); refine goesL_ (some 38) rfl rfl Try.func22 (by kernel_rfl) rfl #[.agg #[.slice Ao39 t731.length co39, .slice Ao44 t734.length co44, .int .i64 t737, .bool t738, .slice Ao45 t739.length co45], .agg #[.slice Ao23 t706.length co23, .slice Ao26 t709.length co26, .int .i64 t712, .bool t713, .slice Ao27 t714.length co27]] rfl gl_ ?_; (with_reducible refine (laws_eqPart.calls k _ _ t731 _ _ t734 t737 t738 _ _ t739 _ _ t706 _ _ t709 t712 t713 _ _ t714 false _ ?side1 ?side2 ?side3 ?side4 ?side5 ?side6 ?side7 ?side8 ?side9 ?side10 ?side11 ?side12 A46.out).mono ?_); (case side1 => refine (Kd.R_reads' (e := 53) (base := w.heap.size) (ok := fun k_ => (((True ∧ nb Ao18 t695.length co18 k_) ∧ nb Ao23 t706.length co23 k_) ∧ nb Ao31 t719.length co31 k_)) (n := t731.length) (c := co39) ?_).2.2; exact (frN (Kd.R_types HO733.out BK743.out (by decide)))); (case side2 => exact (Kd.R_reads' HO733.out).2.1); (case side3 => refine (Kd.R_reads' (e := 3) (base := w.heap.size) (ok := fun k_ => ((((((nb Ao45 t739.length co45 k_ ∧ nb Ao19 t698.length co19 k_) ∧ nb Ao20 t703.length co20 k_) ∧ nb Ao26 t709.length co26 k_) ∧ nb Ao27 t714.length co27 k_) ∧ nb Ao35 t722.length co35 k_) ∧ nb Ao36 t727.length co36 k_)) (n := t734.length) (c := co44) ?_).2.2; exact (frN (Kd.R_types HO736.out BK743.out (by decide)))); (case side4 => exact (Kd.R_reads' HO736.out).2.1); (case side5 => refine (Kd.R_reads' (e := 3) (base := w.heap.size) (ok := fun k_ => ((((((nb Ao44 t734.length co44 k_ ∧ nb Ao19 t698.length co19 k_) ∧ nb Ao20 t703.length co20 k_) ∧ nb Ao26 t709.length co26 k_) ∧ nb Ao27 t714.length co27 k_) ∧ nb Ao35 t722.length co35 k_) ∧ nb Ao36 t727.length co36 k_)) (n := t739.length) (c := co45) ?_).2.2; exact (frN (Kd.R_types HO741.out BK743.out (by decide)))); (case side6 => exact (Kd.R_reads' HO741.out).2.1); (case side7 => refine (Kd.R_reads' (e := 53) (base := w.heap.size) (ok := fun k_ => (((True ∧ nb Ao18 t695.length co18 k_) ∧ nb Ao31 t719.length co31 k_) ∧ nb Ao39 t731.length co39 k_)) (n := t706.length) (c := co23) ?_).2.2; exact (frN (Kd.R_types HO708.out BK743.out (by decide)))); (case side8 => exact (Kd.R_reads' HO708.out).2.1); (case side9 => refine (Kd.R_reads' (e := 3) (base := w.heap.size) (ok := fun k_ => ((((((nb Ao27 t714.length co27 k_ ∧ nb Ao19 t698.length co19 k_) ∧ nb Ao20 t703.length co20 k_) ∧ nb Ao35 t722.length co35 k_) ∧ nb Ao36 t727.length co36 k_) ∧ nb Ao44 t734.length co44 k_) ∧ nb Ao45 t739.length co45 k_)) (n := t709.length) (c := co26) ?_).2.2; exact (frN (Kd.R_types HO711.out BK743.out (by decide)))); (case side10 => exact (Kd.R_reads' HO711.out).2.1); (case side11 => refine (Kd.R_reads' (e := 3) (base := w.heap.size) (ok := fun k_ => ((((((nb Ao26 t709.length co26 k_ ∧ nb Ao19 t698.length co19 k_) ∧ nb Ao20 t703.length co20 k_) ∧ nb Ao35 t722.length co35 k_) ∧ nb Ao36 t727.length co36 k_) ∧ nb Ao44 t734.length co44 k_) ∧ nb Ao45 t739.length co45 k_)) (n := t714.length) (c := co27) ?_).2.2; exact (frN (Kd.R_types HO716.out BK743.out (by decide)))); (case side12 => exact (Kd.R_reads' HO716.out).2.1); rintro e w63 ⟨rfl, hb⟩; refine ⟨_, rfl, ?_⟩; have n0_ := m_ (Kd.R_below (frN (Kd.R_types HO697.out BK743.out (by decide))) hb); have n1_ := m_ (Kd.R_below (frN (Kd.R_types HO700.out BK743.out (by decide))) hb); have n2_ := m_ (Kd.R_below (frN (Kd.R_types HO705.out BK743.out (by decide))) hb); have n3_ := m_ (Kd.R_below (frN (Kd.R_types HO708.out BK743.out (by decide))) hb); have n4_ := m_ (Kd.R_below (frN (Kd.R_types HO711.out BK743.out (by decide))) hb); have n5_ := m_ (Kd.R_below (frN (Kd.R_types HO716.out BK743.out (by decide))) hb); have n6_ := m_ (Kd.R_below (frN (Kd.R_types HO721.out BK743.out (by decide))) hb); have n7_ := m_ (Kd.R_below (frN (Kd.R_types HO724.out BK743.out (by decide))) hb); have n8_ := m_ (Kd.R_below (frN (Kd.R_types HO729.out BK743.out (by decide))) hb); have n9_ := m_ (Kd.R_below (frN (Kd.R_types HO733.out BK743.out (by decide))) hb); have n10_ := m_ (Kd.R_below (frN (Kd.R_types HO736.out BK743.out (by decide))) hb); have n11_ := m_ (Kd.R_below (frN (Kd.R_types HO741.out BK743.out (by decide))) hb); have n12_ := m_ (blk_below (g := gb693) (o := .cells #[.slice A0_0 l0_0.length c0_0, .slice A0_1 l0_1.length c0_1, .int .i64 a0_2, .bool a0_3, .slice A0_4 l0_4.length c0_4] 39 (0, 0)) (kF BK693.out NB693_743.out) hb); have n13_ := m_ (blk_below (g := gb718) (o := .cells #[.slice Ao23 t706.length co23, .slice Ao26 t709.length co26, .int .i64 t712, .bool t713, .slice Ao27 t714.length co27] 33 (0, 0)) (kF BK718.out NB718_743.out) hb); have n14_ := m_ (blk_below (g := gb730) (o := .cells #[.slice Ao31 t719.length co31, .slice Ao35 t722.length co35, .int .i64 t725, .bool t726, .slice Ao36 t727.length co36] 33 (0, 0)) (kF BK730.out NB730_743.out) hb); have n15_ := m_ (blk_below (g := gb743) (o := .cells #[.slice Ao39 t731.length co39, .slice Ao44 t734.length co44, .int .i64 t737, .bool t738, .slice Ao45 t739.length co45] 33 (0, 0)) (by (with_reducible repeat (first | refine blk_drewN ?_ _ | refine blk_drew ?_ | refine blk_alloc ?_ _)); refine blk_put (cs := #[.slice Ao39 t731.length co39, .slice Ao44 t734.length co44, .int .i64 t737, .bool t738, .slice none 0 0]) ?_ 4 _ rfl; (with_reducible repeat (first | refine blk_drewN ?_ _ | refine blk_drew ?_ | refine blk_alloc ?_ _)); refine blk_put (cs := #[.slice Ao39 t731.length co39, .slice Ao44 t734.length co44, .int .i64 t737, .bool false, .slice none 0 0]) ?_ 3 _ rfl; (with_reducible repeat (first | refine blk_drewN ?_ _ | refine blk_drew ?_ | refine blk_alloc ?_ _)); refine blk_put (cs := #[.slice Ao39 t731.length co39, .slice Ao44 t734.length co44, .int .i64 0, .bool false, .slice none 0 0]) ?_ 2 _ rfl; (with_reducible repeat (first | refine blk_drewN ?_ _ | refine blk_drew ?_ | refine blk_alloc ?_ _)); refine blk_put (cs := #[.slice Ao39 t731.length co39, .slice none 0 0, .int .i64 0, .bool false, .slice none 0 0]) ?_ 1 _ rfl; (with_reducible repeat (first | refine blk_drewN ?_ _ | refine blk_drew ?_ | refine blk_alloc ?_ _)); refine blk_put (cs := #[.slice none 0 0, .slice none 0 0, .int .i64 0, .bool false, .slice none 0 0]) ?_ 0 _ rfl; (with_reducible repeat (first | refine blk_drewN ?_ _ | refine blk_drew ?_ | refine blk_alloc ?_ _)); exact BK743.out) hb); have n16_ := m_ (below_step (bN HB.out) hb); clear HO697; clear HO700; clear HO705; clear HO708; clear HO711; clear HO716; clear HO721; clear HO724; clear HO729; clear HO733; clear HO736; clear HO741; clear BK693; clear BK718; clear BK730; clear BK743; clear HB; have HO697 := n0_; have HO700 := n1_; have HO705 := n2_; have HO708 := n3_; have HO711 := n4_; have HO716 := n5_; have HO721 := n6_; have HO724 := n7_; have HO729 := n8_; have HO733 := n9_; have HO736 := n10_; have HO741 := n11_; have BK693 := n12_; have BK718 := n13_; have BK730 := n14_; have BK743 := n15_; have HB := n16_; clear n0_ n1_ n2_ n3_ n4_ n5_ n6_ n7_ n8_ n9_ n10_ n11_ n12_ n13_ n14_ n15_ n16_; (try clear hb); (try clear hb2); (try clear hk); (try clear hi)))
    go_meet
    case rel => exact ⟨_, (true), (by first | rfl | (simp; done) | (simp [*]; done)), H', ⟨by first | omega | exact Nat.le_refl _⟩, ⟨by (with_reducible repeat (first | apply Kd.R_alloc | apply Kd.R_drewN | apply Kd.R_drew)); exact Kd.R_mono HO708.out (fun _ hk => ⟨hk.1.2, hk.2⟩)⟩, ⟨by (with_reducible repeat (first | apply Kd.R_alloc | apply Kd.R_drewN | apply Kd.R_drew)); exact Kd.R_mono HO711.out (fun _ hk => ⟨hk.1.1.1.1.1.1, ⟨hk.1.1.1.2, ⟨hk.1.1.2, ⟨hk.1.2, hk.2⟩⟩⟩⟩)⟩, ⟨by (with_reducible repeat (first | apply Kd.R_alloc | apply Kd.R_drewN | apply Kd.R_drew)); exact Kd.R_mono HO716.out (fun _ hk => ⟨hk.1.1.1.1.1.1, ⟨hk.1.1.1.2, ⟨hk.1.1.2, ⟨hk.1.2, hk.2⟩⟩⟩⟩)⟩, ⟨by (with_reducible repeat (first | apply Kd.R_alloc | apply Kd.R_drewN | apply Kd.R_drew)); exact Kd.R_mono HO721.out (fun _ hk => ⟨hk.1.2, hk.2⟩)⟩, ⟨by (with_reducible repeat (first | apply Kd.R_alloc | apply Kd.R_drewN | apply Kd.R_drew)); exact Kd.R_mono HO724.out (fun _ hk => ⟨hk.1.1.1.2, ⟨hk.1.1.2, ⟨hk.1.1.1.1.1.1, ⟨hk.1.2, hk.2⟩⟩⟩⟩)⟩, ⟨by (with_reducible repeat (first | apply Kd.R_alloc | apply Kd.R_drewN | apply Kd.R_drew)); exact Kd.R_mono HO729.out (fun _ hk => ⟨hk.1.1.1.2, ⟨hk.1.1.2, ⟨hk.1.1.1.1.1.1, ⟨hk.1.2, hk.2⟩⟩⟩⟩)⟩, ⟨by (with_reducible repeat (first | apply Kd.R_alloc | apply Kd.R_drewN | apply Kd.R_drew)); exact Kd.R_mono HO733.out (fun _ hk => ⟨hk.1.2, hk.2⟩)⟩, ⟨by (with_reducible repeat (first | apply Kd.R_alloc | apply Kd.R_drewN | apply Kd.R_drew)); exact Kd.R_mono HO736.out (fun _ hk => ⟨hk.1.1.1.2, ⟨hk.1.1.2, ⟨hk.1.2, ⟨hk.2, hk.1.1.1.1.1.1⟩⟩⟩⟩)⟩, ⟨by (with_reducible repeat (first | apply Kd.R_alloc | apply Kd.R_drewN | apply Kd.R_drew)); exact Kd.R_mono HO741.out (fun _ hk => ⟨hk.1.1.1.2, ⟨hk.1.1.2, ⟨hk.1.2, ⟨hk.2, hk.1.1.1.1.1.1⟩⟩⟩⟩)⟩, ⟨by (with_reducible repeat (first | refine blk_drewN ?_ _ | refine blk_drew ?_ | refine blk_alloc ?_ _)); exact BK693.out⟩, ⟨by (with_reducible repeat (first | refine blk_drewN ?_ _ | refine blk_drew ?_ | refine blk_alloc ?_ _)); exact BK718.out⟩, ⟨by (with_reducible repeat (first | refine blk_drewN ?_ _ | refine blk_drew ?_ | refine blk_alloc ?_ _)); exact BK730.out⟩, ⟨by (with_reducible repeat (first | refine blk_drewN ?_ _ | refine blk_drew ?_ | refine blk_alloc ?_ _)); exact BK743.out⟩, ⟨by repeat (first | (with_reducible first | exact HB.out | apply below_alloc | apply pw_below_drewN | apply below_drew1 | refine below_set ?_ GE693.out | refine below_set ?_ GE718.out | refine below_set ?_ GE730.out | refine below_set ?_ GE743.out) | exact HB.out)⟩⟩
  case rest =>
   clear HC12
   try clear c1
   try clear c2
   try clear p2
   try clear c3
   try clear c4
   try clear c4b0
   try clear c5
   try clear c6
   try clear c8
   try clear c19
   try clear c21
   try clear c22
   try clear c24
   try clear c27
   try clear c28
   try clear c32
   try clear c33
   try clear c40
   try clear c41
   try clear c42
   try clear c47
   try clear c48
   try clear c49
   try clear c50
   try clear c52
   try clear c53
   try clear c56
   try clear c57
   try clear c58
   try clear c60
   try clear c61
   try clear hcz14_0
   try clear hcz14_1
   try clear hcz14_2
   try clear hcz14_3
   try clear hcz14_4
   try clear hcz16_0
   try clear hcz16_1
   try clear hcz16_2
   try clear hcz16_3
   try clear hcz16_4
   try clear hcz25_0
   try clear hcz25_1
   try clear hcz25_2
   try clear hcz25_3
   try clear hcz25_4
   try clear hcz28_0
   try clear hcz28_1
   try clear hcz28_2
   try clear hcz28_3
   try clear hcz28_4
   try clear hcz34_0
   try clear hcz34_1
   try clear hcz34_2
   try clear hcz34_3
   try clear hcz34_4
   try clear hcz43_0
   try clear hcz43_1
   try clear hcz43_2
   try clear hcz43_3
   try clear hcz43_4
   try clear hcz51_0
   try clear hcz51_1
   try clear hcz51_2
   try clear hcz51_3
   try clear hcz51_4
   try clear hcz54_0
   try clear hcz54_1
   try clear hcz54_2
   try clear hcz54_3
   try clear hcz54_4
   try clear hcz59_0
   try clear hcz59_1
   try clear hcz59_2
   try clear hcz59_3
   try clear hcz59_4
   try clear hcz62_0
   try clear hcz62_1
   try clear hcz62_2
   try clear hcz62_3
   try clear hcz62_4
   try clear hcz6_0
   try clear hcz6_1
   try clear hcz6_2
   try clear hcz6_3
   try clear hcz6_4
   try clear hfz14_0
   try clear hfz14_1
   try clear hfz14_2
   try clear hfz14_3
   try clear hfz14_4
   try clear hfz16_0
   try clear hfz16_1
   try clear hfz16_2
   try clear hfz16_3
   try clear hfz16_4
   try clear hfz25_0
   try clear hfz25_1
   try clear hfz25_2
   try clear hfz25_3
   try clear hfz25_4
   try clear hfz28_0
   try clear hfz28_1
   try clear hfz28_2
   try clear hfz28_3
   try clear hfz28_4
   try clear hfz34_0
   try clear hfz34_1
   try clear hfz34_2
   try clear hfz34_3
   try clear hfz34_4
   try clear hfz43_0
   try clear hfz43_1
   try clear hfz43_2
   try clear hfz43_3
   try clear hfz43_4
   try clear hfz51_0
   try clear hfz51_1
   try clear hfz51_2
   try clear hfz51_3
   try clear hfz51_4
   try clear hfz54_0
   try clear hfz54_1
   try clear hfz54_2
   try clear hfz54_3
   try clear hfz54_4
   try clear hfz59_0
   try clear hfz59_1
   try clear hfz59_2
   try clear hfz59_3
   try clear hfz59_4
   try clear hfz62_0
   try clear hfz62_1
   try clear hfz62_2
   try clear hfz62_3
   try clear hfz62_4
   try clear hfz6_0
   try clear hfz6_1
   try clear hfz6_2
   try clear hfz6_3
   try clear hfz6_4
   obtain ⟨kq, x44_11, rfl, HA, HJ11, HO_719000, HO_719001, HO_719004, HO_731000, HO_731001, HO_731004, HO_744000, HO_744001, HO_744004, BK693, BK718, BK730, BK743, HB⟩ := hcut
   cases kq with
   | zero => exact absurd HA.out (by simp [laws_FnExactPartSend.j0])
   | succ kj11 =>
    have H := HA.out
    clear HA
    simp only [laws_FnExactPartSend.j0] at H
    by_cases c64 : x44_11 = true
    ·subst c64
     have H1 : (some false) = some r := by rw [if_pos rfl] at H; exact H
     clear H
     have H := H1
     clear H1
     obtain rfl := Option.some.inj H
     go_wp2
     go_ret
     exact ⟨by first | rfl | (simp [errW_none, errW_some] <;> rfl) | (simp [*, errW_none, errW_some] <;> rfl), by repeat (first | (with_reducible first | exact HB.out | apply below_alloc | apply pw_below_drewN | apply below_drew1 | refine below_set ?_ GE693.out | refine below_set ?_ GE718.out | refine below_set ?_ GE730.out | refine below_set ?_ GE743.out) | exact HB.out)⟩
    ·replace c64 := Bool.eq_false_iff.mpr c64
     subst c64
     have H1 : ((laws_toPart.f kj11 l0_0 l0_1 a0_2 a0_3 l0_4).bind fun bt745 => ((laws_eqPart.f kj11 t719 t722 t725 t726 t727 bt745.1 bt745.2.1 bt745.2.2.1 bt745.2.2.2.1 bt745.2.2.2.2).bind fun t756 => (if t756 = true then ((laws_markPart.f kj11 t719 t722 t725 t726 t727 1).bind fun bt757 => (if bt757.1 < 0 then (laws_FnExactPartSend.j1 kj11 a1 t717 true l0_0 l0_1 a0_2 a0_3 l0_4 t706 t709 t712 t713 t714 t731 t734 t737 t738 t739) else ((laws_eqPart.f kj11 t731 t734 t737 t738 t739 t706 t709 t712 t713 t714).bind fun t761 => (if t761 = true then (laws_FnExactPartSend.j1 kj11 a1 t717 (t742 != t717) l0_0 l0_1 a0_2 a0_3 l0_4 t706 t709 t712 t713 t714 t731 t734 t737 t738 t739) else (laws_FnExactPartSend.j1 kj11 a1 t717 true l0_0 l0_1 a0_2 a0_3 l0_4 t706 t709 t712 t713 t714 t731 t734 t737 t738 t739))))) else (some false)))) = some r := by rw [if_neg (show ¬ (false = true) by decide)] at H; exact H
     clear H
     have H := H1
     clear H1
     replace H := Option.bind_eq_some_iff.mp H
     obtain ⟨⟨t745, t748, t751, t752, t753⟩, A650, H⟩ := H
     replace H : ((laws_eqPart.f kj11 t719 t722 t725 t726 t727 t745 t748 t751 t752 t753).bind fun t756 => (if t756 = true then ((laws_markPart.f kj11 t719 t722 t725 t726 t727 1).bind fun bt757 => (if bt757.1 < 0 then (laws_FnExactPartSend.j1 kj11 a1 t717 true l0_0 l0_1 a0_2 a0_3 l0_4 t706 t709 t712 t713 t714 t731 t734 t737 t738 t739) else ((laws_eqPart.f kj11 t731 t734 t737 t738 t739 t706 t709 t712 t713 t714).bind fun t761 => (if t761 = true then (laws_FnExactPartSend.j1 kj11 a1 t717 (t742 != t717) l0_0 l0_1 a0_2 a0_3 l0_4 t706 t709 t712 t713 t714 t731 t734 t737 t738 t739) else (laws_FnExactPartSend.j1 kj11 a1 t717 true l0_0 l0_1 a0_2 a0_3 l0_4 t706 t709 t712 t713 t714 t731 t734 t737 t738 t739))))) else (some false))) = some r := H
     have A65 := Aside0.mk A650
     clear A650
     replace H := Option.bind_eq_some_iff.mp H
     obtain ⟨t756, A660, H⟩ := H
     replace H : (if t756 = true then ((laws_markPart.f kj11 t719 t722 t725 t726 t727 1).bind fun bt757 => (if bt757.1 < 0 then (laws_FnExactPartSend.j1 kj11 a1 t717 true l0_0 l0_1 a0_2 a0_3 l0_4 t706 t709 t712 t713 t714 t731 t734 t737 t738 t739) else ((laws_eqPart.f kj11 t731 t734 t737 t738 t739 t706 t709 t712 t713 t714).bind fun t761 => (if t761 = true then (laws_FnExactPartSend.j1 kj11 a1 t717 (t742 != t717) l0_0 l0_1 a0_2 a0_3 l0_4 t706 t709 t712 t713 t714 t731 t734 t737 t738 t739) else (laws_FnExactPartSend.j1 kj11 a1 t717 true l0_0 l0_1 a0_2 a0_3 l0_4 t706 t709 t712 t713 t714 t731 t734 t737 t738 t739))))) else (some false)) = some r := H
     have A66 := Aside0.mk A660
     clear A660
     by_cases c67 : t756 = true
     ·subst c67
      have H1 : ((laws_markPart.f kj11 t719 t722 t725 t726 t727 1).bind fun bt757 => (if bt757.1 < 0 then (laws_FnExactPartSend.j1 kj11 a1 t717 true l0_0 l0_1 a0_2 a0_3 l0_4 t706 t709 t712 t713 t714 t731 t734 t737 t738 t739) else ((laws_eqPart.f kj11 t731 t734 t737 t738 t739 t706 t709 t712 t713 t714).bind fun t761 => (if t761 = true then (laws_FnExactPartSend.j1 kj11 a1 t717 (t742 != t717) l0_0 l0_1 a0_2 a0_3 l0_4 t706 t709 t712 t713 t714 t731 t734 t737 t738 t739) else (laws_FnExactPartSend.j1 kj11 a1 t717 true l0_0 l0_1 a0_2 a0_3 l0_4 t706 t709 t712 t713 t714 t731 t734 t737 t738 t739))))) = some r := by rw [if_pos rfl] at H; exact H
      clear H
      have H := H1
      clear H1
      replace H := Option.bind_eq_some_iff.mp H
      obtain ⟨⟨t757, t758, t759, t760⟩, A680, H⟩ := H
      replace H : (if t757 < 0 then (laws_FnExactPartSend.j1 kj11 a1 t717 true l0_0 l0_1 a0_2 a0_3 l0_4 t706 t709 t712 t713 t714 t731 t734 t737 t738 t739) else ((laws_eqPart.f kj11 t731 t734 t737 t738 t739 t706 t709 t712 t713 t714).bind fun t761 => (if t761 = true then (laws_FnExactPartSend.j1 kj11 a1 t717 (t742 != t717) l0_0 l0_1 a0_2 a0_3 l0_4 t706 t709 t712 t713 t714 t731 t734 t737 t738 t739) else (laws_FnExactPartSend.j1 kj11 a1 t717 true l0_0 l0_1 a0_2 a0_3 l0_4 t706 t709 t712 t713 t714 t731 t734 t737 t738 t739)))) = some r := H
      have A68 := Aside0.mk A680
      clear A680
      have HC69 := Aside0.mk H
      clear H
      try go_wp2
      have n0_ := m_ (Kd.R_drew HO_719000.out)
      have n1_ := m_ (Kd.R_drew HO_719001.out)
      have n2_ := m_ (Kd.R_drew HO_719004.out)
      have n3_ := m_ (Kd.R_drew HO_731000.out)
      have n4_ := m_ (Kd.R_drew HO_731001.out)
      have n5_ := m_ (Kd.R_drew HO_731004.out)
      have n6_ := m_ (Kd.R_drew HO_744000.out)
      have n7_ := m_ (Kd.R_drew HO_744001.out)
      have n8_ := m_ (Kd.R_drew HO_744004.out)
      have n9_ := m_ (blk_drew BK693.out)
      have n10_ := m_ (blk_drew BK718.out)
      have n11_ := m_ (blk_drew BK730.out)
      have n12_ := m_ (blk_drew BK743.out)
      have n13_ := m_ (below_drew1 HB.out)
      clear HO_719000
      clear HO_719001
      clear HO_719004
      clear HO_731000
      clear HO_731001
      clear HO_731004
      clear HO_744000
      clear HO_744001
      clear HO_744004
      clear BK693
      clear BK718
      clear BK730
      clear BK743
      clear HB
      have HO_719000 := n0_
      have HO_719001 := n1_
      have HO_719004 := n2_
      have HO_731000 := n3_
      have HO_731001 := n4_
      have HO_731004 := n5_
      have HO_744000 := n6_
      have HO_744001 := n7_
      have HO_744004 := n8_
      have BK693 := n9_
      have BK718 := n10_
      have BK730 := n11_
      have BK743 := n12_
      have HB := n13_
      clear n0_ n1_ n2_ n3_ n4_ n5_ n6_ n7_ n8_ n9_ n10_ n11_ n12_ n13_
      refine start_ (n := 5) (S := fun w' => w'.cell? ⟨gb730, 0, none⟩ = some (.slice Ao31 t719.length co31) ∧ w'.cell? ⟨gb730, 1, none⟩ = some (.slice Ao35 t722.length co35) ∧ w'.cell? ⟨gb730, 2, none⟩ = some (.int .i64 t725) ∧ w'.cell? ⟨gb730, 3, none⟩ = some (.bool t726) ∧ w'.cell? ⟨gb730, 4, none⟩ = some (.slice Ao36 t727.length co36) ∧ w'.cell? ⟨gb693, 0, none⟩ = some (.slice A0_0 l0_0.length c0_0) ∧ w'.cell? ⟨gb693, 1, none⟩ = some (.slice A0_1 l0_1.length c0_1) ∧ w'.cell? ⟨gb693, 2, none⟩ = some (.int .i64 a0_2) ∧ w'.cell? ⟨gb693, 3, none⟩ = some (.bool a0_3) ∧ w'.cell? ⟨gb693, 4, none⟩ = some (.slice A0_4 l0_4.length c0_4)) (ds := []) #[false, false, false, false, false] (by kernel_rfl) rfl rfl ⟨(blk_cell BK730.out 0).trans rfl, (blk_cell BK730.out 1).trans rfl, (blk_cell BK730.out 2).trans rfl, (blk_cell BK730.out 3).trans rfl, (blk_cell BK730.out 4).trans rfl, (blk_cell BK693.out 0).trans rfl, (blk_cell BK693.out 1).trans rfl, (blk_cell BK693.out 2).trans rfl, (blk_cell BK693.out 3).trans rfl, (blk_cell BK693.out 4).trans rfl⟩ (fun hHeld => ?_)
      generalize wc.drew = w70 at HO_719000 HO_719001 HO_719004 HO_731000 HO_731001 HO_731004 HO_744000 HO_744001 HO_744004 BK693 BK718 BK730 BK743 HB hHeld ⊢
      refine take_ (i := 0) (N := some 45) (v := ?_) (a' := ?_) #[true, false, false, false, false] rfl rfl (by kernel_rfl) (fun _ _ _ h => h) (Or.inl ⟨by rfl, ?_⟩) hHeld ?_ ?_
      rotate_left
      ·rintro w' ⟨s0, s1, s2, s3, s4, s5, s6, s7, s8, s9⟩
       go_simp
       with_reducible rfl
      rotate_left
      ·simp only [Act.put, List.setIfInBounds_toArray, List.set_cons_zero, List.set_cons_succ, i64_w, i32_w]
       rfl
      refine take_ (i := 1) (N := some 46) (v := ?_) (a' := ?_) #[true, true, false, false, false] rfl rfl (by kernel_rfl) (fun _ _ _ h => h) (Or.inl ⟨by rfl, ?_⟩) hHeld ?_ ?_
      rotate_left
      ·rintro w' ⟨s0, s1, s2, s3, s4, s5, s6, s7, s8, s9⟩
       go_simp
       with_reducible rfl
      rotate_left
      ·simp only [Act.put, List.setIfInBounds_toArray, List.set_cons_zero, List.set_cons_succ, i64_w, i32_w]
       rfl
      refine one_ (i := 2) (N := some 47) #[true, true, true, false, false] rfl rfl (by kernel_rfl) (by decide) (fun K hK => ?_)
      refine goes_ Try.func21 (by kernel_rfl) rfl #[.agg #[.slice A0_0 l0_0.length c0_0, .slice A0_1 l0_1.length c0_1, .int .i64 a0_2, .bool a0_3, .slice A0_4 l0_4.length c0_4]] (by rfl) rfl rfl gl_ ?_
      with_reducible refine (laws_toPart.calls kj11 _ _ l0_0 _ _ l0_1 a0_2 a0_3 _ _ l0_4 t745 t748 t751 t752 t753 _ ?side1 ?side2 ?side3 ?side4 ?side5 ?side6 A65.out).mono ?_
      (case side1 => exact cN (Kd.C_below HR0_0.out HB.out))
      (case side2 => exact HC0_0.out)
      (case side3 => exact cN (Kd.C_below HR0_1.out HB.out))
      (case side4 => exact HC0_1.out)
      (case side5 => exact cN (Kd.C_below HR0_4.out HB.out))
      (case side6 => exact HC0_4.out)
      rintro e w71 ⟨v746, v749, v754, rfl, ho0, ho1, ho2, hb⟩
      refine ⟨_, rfl, ?_⟩
      have n0_ := m_ (Kd.R_elder' (rN HO_719000.out) (Kd.R_base ho0) hb)
      have n1_ := m_ (Kd.R_mono (Kd.R_told (Kd.R_told (Kd.R_old (rN HO_719001.out) hb) (Kd.R_base ho1)) (Kd.R_base ho2)) (fun _ h_ => h_.1))
      have n2_ := m_ (Kd.R_mono (Kd.R_told (Kd.R_told (Kd.R_old (rN HO_719004.out) hb) (Kd.R_base ho1)) (Kd.R_base ho2)) (fun _ h_ => h_.1))
      have n3_ := m_ (Kd.R_elder' (rN HO_731000.out) (Kd.R_base ho0) hb)
      have n4_ := m_ (Kd.R_mono (Kd.R_told (Kd.R_told (Kd.R_old (rN HO_731001.out) hb) (Kd.R_base ho1)) (Kd.R_base ho2)) (fun _ h_ => h_.1))
      have n5_ := m_ (Kd.R_mono (Kd.R_told (Kd.R_told (Kd.R_old (rN HO_731004.out) hb) (Kd.R_base ho1)) (Kd.R_base ho2)) (fun _ h_ => h_.1))
      have n6_ := m_ (Kd.R_elder' (rN HO_744000.out) (Kd.R_base ho0) hb)
      have n7_ := m_ (Kd.R_mono (Kd.R_told (Kd.R_told (Kd.R_old (rN HO_744001.out) hb) (Kd.R_base ho1)) (Kd.R_base ho2)) (fun _ h_ => h_.1))
      have n8_ := m_ (Kd.R_mono (Kd.R_told (Kd.R_told (Kd.R_old (rN HO_744004.out) hb) (Kd.R_base ho1)) (Kd.R_base ho2)) (fun _ h_ => h_.1))
      have n9_ := m_ (Kd.R_lower (Kd.R_new' (Kd.R_new' (Kd.R_new' ho0 (Kd.R_lt (rN HO_719000.out))) (Kd.R_lt (rN HO_731000.out))) (Kd.R_lt (rN HO_744000.out))) (below_size (bN HB.out)))
      have n10_ := m_ (Kd.R_lower (Kd.R_new' (Kd.R_new' (Kd.R_new' (Kd.R_new' (Kd.R_new' (Kd.R_new' ho1 (Kd.R_lt (rN HO_719001.out))) (Kd.R_lt (rN HO_719004.out))) (Kd.R_lt (rN HO_731001.out))) (Kd.R_lt (rN HO_731004.out))) (Kd.R_lt (rN HO_744001.out))) (Kd.R_lt (rN HO_744004.out))) (below_size (bN HB.out)))
      have n11_ := m_ (Kd.R_lower (Kd.R_new' (Kd.R_new' (Kd.R_new' (Kd.R_new' (Kd.R_new' (Kd.R_new' ho2 (Kd.R_lt (rN HO_719001.out))) (Kd.R_lt (rN HO_719004.out))) (Kd.R_lt (rN HO_731001.out))) (Kd.R_lt (rN HO_731004.out))) (Kd.R_lt (rN HO_744001.out))) (Kd.R_lt (rN HO_744004.out))) (below_size (bN HB.out)))
      have n12_ := m_ (blk_below (kN BK693.out) hb)
      have n13_ := m_ (blk_below (kN BK718.out) hb)
      have n14_ := m_ (blk_below (kN BK730.out) hb)
      have n15_ := m_ (blk_below (kN BK743.out) hb)
      have n16_ := m_ (below_step (bN HB.out) hb)
      clear HO_719000
      clear HO_719001
      clear HO_719004
      clear HO_731000
      clear HO_731001
      clear HO_731004
      clear HO_744000
      clear HO_744001
      clear HO_744004
      clear BK693
      clear BK718
      clear BK730
      clear BK743
      clear HB
      have HO_719000 := n0_
      have HO_719001 := n1_
      have HO_719004 := n2_
      have HO_731000 := n3_
      have HO_731001 := n4_
      have HO_731004 := n5_
      have HO_744000 := n6_
      have HO_744001 := n7_
      have HO_744004 := n8_
      have HO747 := n9_
      have HO750 := n10_
      have HO755 := n11_
      have BK693 := n12_
      have BK718 := n13_
      have BK730 := n14_
      have BK743 := n15_
      have HB := n16_
      clear n0_ n1_ n2_ n3_ n4_ n5_ n6_ n7_ n8_ n9_ n10_ n11_ n12_ n13_ n14_ n15_ n16_
      (try clear hb)
      (try clear hb2)
      (try clear hk)
      (try clear hi)
      (try clear ho0)
      (try clear ho1)
      (try clear ho2)
      obtain ⟨Ao72, co72, eo72⟩ := Kd.R_slice HO747.out
      (first | subst eo72 | (injection eo72 with f1_ f2_ f3_; have f4_ := f1_.symm; have f5_ := f3_.symm; clear f1_ f2_ f3_; subst f4_; subst f5_))
      obtain ⟨Ao73, co73, eo73⟩ := Kd.R_slice HO750.out
      (first | subst eo73 | (injection eo73 with f1_ f2_ f3_; have f4_ := f1_.symm; have f5_ := f3_.symm; clear f1_ f2_ f3_; subst f4_; subst f5_))
      obtain ⟨Ao74, co74, eo74⟩ := Kd.R_slice HO755.out
      (first | subst eo74 | (injection eo74 with f1_ f2_ f3_; have f4_ := f1_.symm; have f5_ := f3_.symm; clear f1_ f2_ f3_; subst f4_; subst f5_))
      refine hK.out _ _ ⟨(blk_cell BK730.out 0).trans rfl, (blk_cell BK730.out 1).trans rfl, (blk_cell BK730.out 2).trans rfl, (blk_cell BK730.out 3).trans rfl, (blk_cell BK730.out 4).trans rfl, (blk_cell BK693.out 0).trans rfl, (blk_cell BK693.out 1).trans rfl, (blk_cell BK693.out 2).trans rfl, (blk_cell BK693.out 3).trans rfl, (blk_cell BK693.out 4).trans rfl⟩ (fun hHeld => ?_)
      clear hK K
      refine norm_ (a' := ?_) ?_ ?_
      rotate_left
      ·show Act.put _ (some 47) _ = _
       simp only [Act.put, List.setIfInBounds_toArray, List.set_cons_zero, List.set_cons_succ, i64_w, i32_w]
       rfl
      refine one_ (i := 3) (N := some 48) #[true, true, true, true, false] rfl rfl (by kernel_rfl) (by decide) (fun K hK => ?_)
      refine goes_ Try.func22 (by kernel_rfl) rfl #[.agg #[.slice Ao31 t719.length co31, .slice Ao35 t722.length co35, .int .i64 t725, .bool t726, .slice Ao36 t727.length co36], .agg #[.slice Ao72 t745.length co72, .slice Ao73 t748.length co73, .int .i64 t751, .bool t752, .slice Ao74 t753.length co74]] (by rfl) rfl rfl gl_ ?_
      with_reducible refine (laws_eqPart.calls kj11 _ _ t719 _ _ t722 t725 t726 _ _ t727 _ _ t745 _ _ t748 t751 t752 _ _ t753 true _ ?side1 ?side2 ?side3 ?side4 ?side5 ?side6 ?side7 ?side8 ?side9 ?side10 ?side11 ?side12 A66.out).mono ?_
      (case side1 => exact cN (Kd.R_reads' HO_731000.out).2.2)
      (case side2 => exact (Kd.R_reads' HO_731000.out).2.1)
      (case side3 => exact cN (Kd.R_reads' HO_731001.out).2.2)
      (case side4 => exact (Kd.R_reads' HO_731001.out).2.1)
      (case side5 => exact cN (Kd.R_reads' HO_731004.out).2.2)
      (case side6 => exact (Kd.R_reads' HO_731004.out).2.1)
      (case side7 => exact cN (Kd.R_reads' HO747.out).2.2)
      (case side8 => exact (Kd.R_reads' HO747.out).2.1)
      (case side9 => exact cN (Kd.R_reads' HO750.out).2.2)
      (case side10 => exact (Kd.R_reads' HO750.out).2.1)
      (case side11 => exact cN (Kd.R_reads' HO755.out).2.2)
      (case side12 => exact (Kd.R_reads' HO755.out).2.1)
      rintro e w75 ⟨rfl, hb⟩
      refine ⟨_, rfl, ?_⟩
      have n0_ := m_ (Kd.R_below (rN HO_719000.out) hb)
      have n1_ := m_ (Kd.R_below (rN HO_719001.out) hb)
      have n2_ := m_ (Kd.R_below (rN HO_719004.out) hb)
      have n3_ := m_ (Kd.R_below (rN HO_731000.out) hb)
      have n4_ := m_ (Kd.R_below (rN HO_731001.out) hb)
      have n5_ := m_ (Kd.R_below (rN HO_731004.out) hb)
      have n6_ := m_ (Kd.R_below (rN HO_744000.out) hb)
      have n7_ := m_ (Kd.R_below (rN HO_744001.out) hb)
      have n8_ := m_ (Kd.R_below (rN HO_744004.out) hb)
      have n9_ := m_ (Kd.R_below (rN HO747.out) hb)
      have n10_ := m_ (Kd.R_below (rN HO750.out) hb)
      have n11_ := m_ (Kd.R_below (rN HO755.out) hb)
      have n12_ := m_ (blk_below (kN BK693.out) hb)
      have n13_ := m_ (blk_below (kN BK718.out) hb)
      have n14_ := m_ (blk_below (kN BK730.out) hb)
      have n15_ := m_ (blk_below (kN BK743.out) hb)
      have n16_ := m_ (below_step (bN HB.out) hb)
      clear HO_719000
      clear HO_719001
      clear HO_719004
      clear HO_731000
      clear HO_731001
      clear HO_731004
      clear HO_744000
      clear HO_744001
      clear HO_744004
      clear HO747
      clear HO750
      clear HO755
      clear BK693
      clear BK718
      clear BK730
      clear BK743
      clear HB
      have HO_719000 := n0_
      have HO_719001 := n1_
      have HO_719004 := n2_
      have HO_731000 := n3_
      have HO_731001 := n4_
      have HO_731004 := n5_
      have HO_744000 := n6_
      have HO_744001 := n7_
      have HO_744004 := n8_
      have HO747 := n9_
      have HO750 := n10_
      have HO755 := n11_
      have BK693 := n12_
      have BK718 := n13_
      have BK730 := n14_
      have BK743 := n15_
      have HB := n16_
      clear n0_ n1_ n2_ n3_ n4_ n5_ n6_ n7_ n8_ n9_ n10_ n11_ n12_ n13_ n14_ n15_ n16_
      (try clear hb)
      (try clear hb2)
      (try clear hk)
      (try clear hi)
      refine hK.out _ _ ⟨(blk_cell BK730.out 0).trans rfl, (blk_cell BK730.out 1).trans rfl, (blk_cell BK730.out 2).trans rfl, (blk_cell BK730.out 3).trans rfl, (blk_cell BK730.out 4).trans rfl, (blk_cell BK693.out 0).trans rfl, (blk_cell BK693.out 1).trans rfl, (blk_cell BK693.out 2).trans rfl, (blk_cell BK693.out 3).trans rfl, (blk_cell BK693.out 4).trans rfl⟩ (fun hHeld => ?_)
      clear hK K
      refine norm_ (a' := ?_) ?_ ?_
      rotate_left
      ·show Act.put _ (some 48) _ = _
       simp only [Act.put, List.setIfInBounds_toArray, List.set_cons_zero, List.set_cons_succ, i64_w, i32_w]
       rfl
      refine pure_ (i := 4) (N := some 49) (v := ?_) (a' := ?_) #[true, true, true, true, true] rfl rfl (by kernel_rfl) (fun _ _ _ h => h) (Or.inl ⟨by rfl, ?_⟩) ?_ ?_
      rotate_left
      ·intro w'
       go_simp
       with_reducible rfl
      rotate_left
      ·simp only [Act.put, List.setIfInBounds_toArray, List.set_cons_zero, List.set_cons_succ, i64_w, i32_w]
       rfl
      refine done_ (by kernel_rfl) ?_
      have hnb76 := NB730_693.out
      have hnc76 := NB693_730.out
      have hnb77 := NB730_718.out
      have hnc77 := NB718_730.out
      have hnb78 := NB730_743.out
      have hnc78 := NB743_730.out
      have hcz79_0 : w75.cell? ⟨gb730, 0, none⟩ = some (.slice Ao31 t719.length co31) := (blk_cell BK730.out 0).trans rfl
      have hcz79_1 : w75.cell? ⟨gb730, 1, none⟩ = some (.slice Ao35 t722.length co35) := (blk_cell BK730.out 1).trans rfl
      have hcz79_2 : w75.cell? ⟨gb730, 2, none⟩ = some (.int .i64 t725) := (blk_cell BK730.out 2).trans rfl
      have hcz79_3 : w75.cell? ⟨gb730, 3, none⟩ = some (.bool t726) := (blk_cell BK730.out 3).trans rfl
      have hcz79_4 : w75.cell? ⟨gb730, 4, none⟩ = some (.slice Ao36 t727.length co36) := (blk_cell BK730.out 4).trans rfl
      have hfz79_0 := blk_frozen BK730.out 0
      have hfz79_1 := blk_frozen BK730.out 1
      have hfz79_2 := blk_frozen BK730.out 2
      have hfz79_3 := blk_frozen BK730.out 3
      have hfz79_4 := blk_frozen BK730.out 4
      go_upto_region 14 with (first | ((with_reducible refine gate_callee (f := 24) rfl ?_); refine goesL_ (some 52) rfl rfl Try.func24 (by kernel_rfl) rfl #[.agg #[.slice Ao31 t719.length co31, .slice Ao35 t722.length co35, .int .i64 t725, .bool t726, .slice Ao36 t727.length co36], .int .i64 1] rfl gl_ ?_; (with_reducible refine (laws_markPart.calls kj11 (fun k_ => some k_ = (.slice Ao31 t719.length co31 : Value).ownBlock) (.slice Ao31 t719.length co31) t719 (fun k_ => some k_ = (.slice Ao35 t722.length co35 : Value).ownBlock) (.slice Ao35 t722.length co35) t722 t725 t726 (fun k_ => some k_ = (.slice Ao36 t727.length co36 : Value).ownBlock) (.slice Ao36 t727.length co36) t727 1 t757 t758 t759 t760 w _ ?side1 ?side2 ?side3 ?side4 ?side5 ?side6 A68.out).mono ?_); (case side1 => repeat (first | (with_reducible first | exact HB.out | apply below_alloc | apply pw_below_drewN | apply below_drew1 | refine below_set ?_ GE693.out | refine below_set ?_ GE718.out | refine below_set ?_ GE730.out | refine below_set ?_ GE743.out) | exact HB.out)); (case side2 => exact Kd.R_tight rfl HO_731000.out); (case side3 => exact Kd.R_tight rfl HO_731001.out); (case side4 => exact fun k_ e_ => (HO_731001.out.1 k_ e_.symm).1.1.2.2.1); (case side5 => exact Kd.R_tight rfl HO_731004.out); (case side6 => exact fun k_ e_ => (HO_731004.out.1 k_ e_.symm).1.1.2.2.1); rintro e w80 ⟨rfl, hy0, hy1, hy2, hb, hkp⟩; refine ⟨_, rfl, ?_⟩; have n0_ := m_ (Kd.R_mono (ok' := fun k_ => nb Ao31 t719.length co31 k_ ∧ nb Ao39 t731.length co39 k_ ∧ nb Ao72 t745.length co72 k_) (Kd.R_keptB ((Kd.R_apart' (Kd.R_apart' HO_719000.out (Kd.R_typed HO_731001.out) (by decide)) (Kd.R_typed HO_731004.out) (by decide))) hkp (fun k_ hk_ hs_ => Or.elim hs_ (fun e_ => (hk_.1.1.1.1) e_) (fun e_ => Or.elim e_ (fun e_ => (hk_.1.2) e_) (fun e_ => (hk_.2) e_)))) (fun k_ hk_ => ⟨hk_.1.1.1.1.1, hk_.1.1.1.1.2, hk_.1.1.1.2⟩)); have n1_ := m_ (Kd.R_mono (ok' := fun k_ => nb Ao27 t714.length co27 k_ ∧ nb Ao35 t722.length co35 k_ ∧ nb Ao36 t727.length co36 k_ ∧ nb Ao44 t734.length co44 k_ ∧ nb Ao45 t739.length co45 k_ ∧ nb Ao73 t748.length co73 k_ ∧ nb Ao74 t753.length co74 k_) (Kd.R_keptB ((Kd.R_apart' HO_719001.out (Kd.R_typed HO_731000.out) (by decide))) hkp (fun k_ hk_ hs_ => Or.elim hs_ (fun e_ => (hk_.2) e_) (fun e_ => Or.elim e_ (fun e_ => (hk_.1.1.1.2.1) e_) (fun e_ => (hk_.1.1.1.2.2.1) e_)))) (fun k_ hk_ => ⟨hk_.1.1.1.1.1, hk_.1.1.1.1.2.1, hk_.1.1.1.1.2.2.1, hk_.1.1.1.1.2.2.2.1, hk_.1.1.1.1.2.2.2.2, hk_.1.1.1.2, hk_.1.1.2⟩)); have n2_ := m_ (Kd.R_mono (ok' := fun k_ => nb Ao26 t709.length co26 k_ ∧ nb Ao35 t722.length co35 k_ ∧ nb Ao36 t727.length co36 k_ ∧ nb Ao44 t734.length co44 k_ ∧ nb Ao45 t739.length co45 k_ ∧ nb Ao73 t748.length co73 k_ ∧ nb Ao74 t753.length co74 k_) (Kd.R_keptB ((Kd.R_apart' HO_719004.out (Kd.R_typed HO_731000.out) (by decide))) hkp (fun k_ hk_ hs_ => Or.elim hs_ (fun e_ => (hk_.2) e_) (fun e_ => Or.elim e_ (fun e_ => (hk_.1.1.1.2.1) e_) (fun e_ => (hk_.1.1.1.2.2.1) e_)))) (fun k_ hk_ => ⟨hk_.1.1.1.1.1, hk_.1.1.1.1.2.1, hk_.1.1.1.1.2.2.1, hk_.1.1.1.1.2.2.2.1, hk_.1.1.1.1.2.2.2.2, hk_.1.1.1.2, hk_.1.1.2⟩)); have n3_ := m_ (Kd.R_reok rfl hy0 (fun k_ e_ => HO_731000.out.1 k_ e_)); have n4_ := m_ (Kd.R_reok rfl hy1 (fun k_ e_ => HO_731001.out.1 k_ e_)); have n5_ := m_ (Kd.R_reok rfl hy2 (fun k_ e_ => HO_731004.out.1 k_ e_)); have n6_ := m_ (Kd.R_mono (ok' := fun k_ => nb Ao23 t706.length co23 k_ ∧ nb Ao31 t719.length co31 k_ ∧ nb Ao72 t745.length co72 k_) (Kd.R_keptB ((Kd.R_apart' (Kd.R_apart' HO_744000.out (Kd.R_typed HO_731001.out) (by decide)) (Kd.R_typed HO_731004.out) (by decide))) hkp (fun k_ hk_ hs_ => Or.elim hs_ (fun e_ => (hk_.1.1.1.2) e_) (fun e_ => Or.elim e_ (fun e_ => (hk_.1.2) e_) (fun e_ => (hk_.2) e_)))) (fun k_ hk_ => ⟨hk_.1.1.1.1.1, hk_.1.1.1.1.2, hk_.1.1.1.2⟩)); have n7_ := m_ (Kd.R_mono (ok' := fun k_ => nb Ao26 t709.length co26 k_ ∧ nb Ao27 t714.length co27 k_ ∧ nb Ao35 t722.length co35 k_ ∧ nb Ao36 t727.length co36 k_ ∧ nb Ao45 t739.length co45 k_ ∧ nb Ao73 t748.length co73 k_ ∧ nb Ao74 t753.length co74 k_) (Kd.R_keptB ((Kd.R_apart' HO_744001.out (Kd.R_typed HO_731000.out) (by decide))) hkp (fun k_ hk_ hs_ => Or.elim hs_ (fun e_ => (hk_.2) e_) (fun e_ => Or.elim e_ (fun e_ => (hk_.1.1.1.2.2.1) e_) (fun e_ => (hk_.1.1.1.2.2.2.1) e_)))) (fun k_ hk_ => ⟨hk_.1.1.1.1.1, hk_.1.1.1.1.2.1, hk_.1.1.1.1.2.2.1, hk_.1.1.1.1.2.2.2.1, hk_.1.1.1.1.2.2.2.2, hk_.1.1.1.2, hk_.1.1.2⟩)); have n8_ := m_ (Kd.R_mono (ok' := fun k_ => nb Ao26 t709.length co26 k_ ∧ nb Ao27 t714.length co27 k_ ∧ nb Ao35 t722.length co35 k_ ∧ nb Ao36 t727.length co36 k_ ∧ nb Ao44 t734.length co44 k_ ∧ nb Ao73 t748.length co73 k_ ∧ nb Ao74 t753.length co74 k_) (Kd.R_keptB ((Kd.R_apart' HO_744004.out (Kd.R_typed HO_731000.out) (by decide))) hkp (fun k_ hk_ hs_ => Or.elim hs_ (fun e_ => (hk_.2) e_) (fun e_ => Or.elim e_ (fun e_ => (hk_.1.1.1.2.2.1) e_) (fun e_ => (hk_.1.1.1.2.2.2.1) e_)))) (fun k_ hk_ => ⟨hk_.1.1.1.1.1, hk_.1.1.1.1.2.1, hk_.1.1.1.1.2.2.1, hk_.1.1.1.1.2.2.2.1, hk_.1.1.1.1.2.2.2.2, hk_.1.1.1.2, hk_.1.1.2⟩)); have n9_ := m_ (blk_kept (kN BK693.out) hkp (fun hs_ => Or.elim hs_ (fun e_ => (fun e_ => (Kd.R_ne HO_731000.out BK693.out (by decide)) e_) e_) (fun e_ => Or.elim e_ (fun e_ => (fun e_ => (Kd.R_ne HO_731001.out BK693.out (by decide)) e_) e_) (fun e_ => (fun e_ => (Kd.R_ne HO_731004.out BK693.out (by decide)) e_) e_)))); have n10_ := m_ (blk_kept (kN BK718.out) hkp (fun hs_ => Or.elim hs_ (fun e_ => (fun e_ => (Kd.R_ne HO_731000.out BK718.out (by decide)) e_) e_) (fun e_ => Or.elim e_ (fun e_ => (fun e_ => (Kd.R_ne HO_731001.out BK718.out (by decide)) e_) e_) (fun e_ => (fun e_ => (Kd.R_ne HO_731004.out BK718.out (by decide)) e_) e_)))); have n11_ := m_ (blk_kept (kN BK730.out) hkp (fun hs_ => Or.elim hs_ (fun e_ => (fun e_ => (Kd.R_ne HO_731000.out BK730.out (by decide)) e_) e_) (fun e_ => Or.elim e_ (fun e_ => (fun e_ => (Kd.R_ne HO_731001.out BK730.out (by decide)) e_) e_) (fun e_ => (fun e_ => (Kd.R_ne HO_731004.out BK730.out (by decide)) e_) e_)))); have n12_ := m_ (blk_kept (kN BK743.out) hkp (fun hs_ => Or.elim hs_ (fun e_ => (fun e_ => (Kd.R_ne HO_731000.out BK743.out (by decide)) e_) e_) (fun e_ => Or.elim e_ (fun e_ => (fun e_ => (Kd.R_ne HO_731001.out BK743.out (by decide)) e_) e_) (fun e_ => (fun e_ => (Kd.R_ne HO_731004.out BK743.out (by decide)) e_) e_)))); have n13_ := m_ (Kd.R_mono (ok' := fun k_ => nb Ao23 t706.length co23 k_ ∧ nb Ao31 t719.length co31 k_ ∧ nb Ao39 t731.length co39 k_) (Kd.R_keptB ((Kd.R_apart' (Kd.R_apart' HO747.out (Kd.R_typed HO_731001.out) (by decide)) (Kd.R_typed HO_731004.out) (by decide))) hkp (fun k_ hk_ hs_ => Or.elim hs_ (fun e_ => (hk_.1.1.1.2) e_) (fun e_ => Or.elim e_ (fun e_ => (hk_.1.2) e_) (fun e_ => (hk_.2) e_)))) (fun k_ hk_ => ⟨hk_.1.1.1.1.1.2, hk_.1.1.1.1.2, hk_.1.1.1.2⟩)); have n14_ := m_ (Kd.R_mono (ok' := fun k_ => nb Ao26 t709.length co26 k_ ∧ nb Ao27 t714.length co27 k_ ∧ nb Ao35 t722.length co35 k_ ∧ nb Ao36 t727.length co36 k_ ∧ nb Ao44 t734.length co44 k_ ∧ nb Ao45 t739.length co45 k_ ∧ nb Ao74 t753.length co74 k_) (Kd.R_keptB ((Kd.R_apart' HO750.out (Kd.R_typed HO_731000.out) (by decide))) hkp (fun k_ hk_ hs_ => Or.elim hs_ (fun e_ => (hk_.2) e_) (fun e_ => Or.elim e_ (fun e_ => (hk_.1.1.1.1.2) e_) (fun e_ => (hk_.1.1.1.2) e_)))) (fun k_ hk_ => ⟨hk_.1.1.1.1.1.1.1.2, hk_.1.1.1.1.1.1.2, hk_.1.1.1.1.1.2, hk_.1.1.1.1.2, hk_.1.1.1.2, hk_.1.1.2, hk_.1.1.1.1.1.1.1.1⟩)); have n15_ := m_ (Kd.R_mono (ok' := fun k_ => nb Ao26 t709.length co26 k_ ∧ nb Ao27 t714.length co27 k_ ∧ nb Ao35 t722.length co35 k_ ∧ nb Ao36 t727.length co36 k_ ∧ nb Ao44 t734.length co44 k_ ∧ nb Ao45 t739.length co45 k_ ∧ nb Ao73 t748.length co73 k_) (Kd.R_keptB ((Kd.R_apart' HO755.out (Kd.R_typed HO_731000.out) (by decide))) hkp (fun k_ hk_ hs_ => Or.elim hs_ (fun e_ => (hk_.2) e_) (fun e_ => Or.elim e_ (fun e_ => (hk_.1.1.1.1.2) e_) (fun e_ => (hk_.1.1.1.2) e_)))) (fun k_ hk_ => ⟨hk_.1.1.1.1.1.1.1.2, hk_.1.1.1.1.1.1.2, hk_.1.1.1.1.1.2, hk_.1.1.1.1.2, hk_.1.1.1.2, hk_.1.1.2, hk_.1.1.1.1.1.1.1.1⟩)); have n16_ := m_ (hb); clear HO_719000; clear HO_719001; clear HO_719004; clear HO_731000; clear HO_731001; clear HO_731004; clear HO_744000; clear HO_744001; clear HO_744004; clear BK693; clear BK718; clear BK730; clear BK743; clear HO747; clear HO750; clear HO755; clear HB; have HO_719000 := n0_; have HO_719001 := n1_; have HO_719004 := n2_; have HO_731000 := n3_; have HO_731001 := n4_; have HO_731004 := n5_; have HO_744000 := n6_; have HO_744001 := n7_; have HO_744004 := n8_; have BK693 := n9_; have BK718 := n10_; have BK730 := n11_; have BK743 := n12_; have HO747 := n13_; have HO750 := n14_; have HO755 := n15_; have HB := n16_; clear n0_ n1_ n2_ n3_ n4_ n5_ n6_ n7_ n8_ n9_ n10_ n11_ n12_ n13_ n14_ n15_ n16_; (try clear hb); (try clear hkp); (try clear hy0); (try clear hy1); (try clear hy2)))
      (try simp only [Act.put, List.setIfInBounds_toArray, List.set_cons_zero, List.set_cons_succ])
      go_cut [65] (fun v65 wc => ∃ (kq : Nat) (x65_68 : Bool), v65 = .bool x65_68 ∧ Aside0 (laws_FnExactPartSend.j1 kq a1 t717 x65_68 l0_0 l0_1 a0_2 a0_3 l0_4 t706 t709 t712 t713 t714 t731 t734 t737 t738 t739 = some r) ∧ Aside0 (kq ≤ kj11) ∧ Aside0 (Kd.R k53 53 wc w.heap.size (fun k_ => some k_ ≠ ((.slice Ao31 t719.length co31) : Value).ownBlock ∧ some k_ ≠ ((.slice Ao39 t731.length co39) : Value).ownBlock) (.slice Ao23 t706.length co23) t706) ∧ Aside0 (Kd.R (Kd.int .i64) 3 wc w.heap.size (fun k_ => some k_ ≠ ((.slice Ao27 t714.length co27) : Value).ownBlock ∧ some k_ ≠ ((.slice Ao35 t722.length co35) : Value).ownBlock ∧ some k_ ≠ ((.slice Ao36 t727.length co36) : Value).ownBlock ∧ some k_ ≠ ((.slice Ao44 t734.length co44) : Value).ownBlock ∧ some k_ ≠ ((.slice Ao45 t739.length co45) : Value).ownBlock) (.slice Ao26 t709.length co26) t709) ∧ Aside0 (Kd.R (Kd.int .i64) 3 wc w.heap.size (fun k_ => some k_ ≠ ((.slice Ao26 t709.length co26) : Value).ownBlock ∧ some k_ ≠ ((.slice Ao35 t722.length co35) : Value).ownBlock ∧ some k_ ≠ ((.slice Ao36 t727.length co36) : Value).ownBlock ∧ some k_ ≠ ((.slice Ao44 t734.length co44) : Value).ownBlock ∧ some k_ ≠ ((.slice Ao45 t739.length co45) : Value).ownBlock) (.slice Ao27 t714.length co27) t714) ∧ Aside0 (Kd.R k53 53 wc w.heap.size (fun k_ => some k_ ≠ ((.slice Ao23 t706.length co23) : Value).ownBlock ∧ some k_ ≠ ((.slice Ao39 t731.length co39) : Value).ownBlock) (.slice Ao31 t719.length co31) t758) ∧ Aside0 (Kd.R (Kd.int .i64) 3 wc w.heap.size (fun k_ => some k_ ≠ ((.slice Ao26 t709.length co26) : Value).ownBlock ∧ some k_ ≠ ((.slice Ao27 t714.length co27) : Value).ownBlock ∧ some k_ ≠ ((.slice Ao36 t727.length co36) : Value).ownBlock ∧ some k_ ≠ ((.slice Ao44 t734.length co44) : Value).ownBlock ∧ some k_ ≠ ((.slice Ao45 t739.length co45) : Value).ownBlock) (.slice Ao35 t722.length co35) t759) ∧ Aside0 (Kd.R (Kd.int .i64) 3 wc w.heap.size (fun k_ => some k_ ≠ ((.slice Ao26 t709.length co26) : Value).ownBlock ∧ some k_ ≠ ((.slice Ao27 t714.length co27) : Value).ownBlock ∧ some k_ ≠ ((.slice Ao35 t722.length co35) : Value).ownBlock ∧ some k_ ≠ ((.slice Ao44 t734.length co44) : Value).ownBlock ∧ some k_ ≠ ((.slice Ao45 t739.length co45) : Value).ownBlock) (.slice Ao36 t727.length co36) t760) ∧ Aside0 (Kd.R k53 53 wc w.heap.size (fun k_ => some k_ ≠ ((.slice Ao23 t706.length co23) : Value).ownBlock ∧ some k_ ≠ ((.slice Ao31 t719.length co31) : Value).ownBlock) (.slice Ao39 t731.length co39) t731) ∧ Aside0 (Kd.R (Kd.int .i64) 3 wc w.heap.size (fun k_ => some k_ ≠ ((.slice Ao26 t709.length co26) : Value).ownBlock ∧ some k_ ≠ ((.slice Ao27 t714.length co27) : Value).ownBlock ∧ some k_ ≠ ((.slice Ao35 t722.length co35) : Value).ownBlock ∧ some k_ ≠ ((.slice Ao36 t727.length co36) : Value).ownBlock ∧ some k_ ≠ ((.slice Ao45 t739.length co45) : Value).ownBlock) (.slice Ao44 t734.length co44) t734) ∧ Aside0 (Kd.R (Kd.int .i64) 3 wc w.heap.size (fun k_ => some k_ ≠ ((.slice Ao26 t709.length co26) : Value).ownBlock ∧ some k_ ≠ ((.slice Ao27 t714.length co27) : Value).ownBlock ∧ some k_ ≠ ((.slice Ao35 t722.length co35) : Value).ownBlock ∧ some k_ ≠ ((.slice Ao36 t727.length co36) : Value).ownBlock ∧ some k_ ≠ ((.slice Ao44 t734.length co44) : Value).ownBlock) (.slice Ao45 t739.length co45) t739) ∧ Aside0 (wc.heap[gb693]? = some (.cells #[(.slice A0_0 l0_0.length c0_0), (.slice A0_1 l0_1.length c0_1), .int .i64 a0_2, .bool a0_3, (.slice A0_4 l0_4.length c0_4)] 39 (0, 0))) ∧ Aside0 (wc.heap[gb718]? = some (.cells #[(.slice Ao23 t706.length co23), (.slice Ao26 t709.length co26), .int .i64 t712, .bool t713, (.slice Ao27 t714.length co27)] 33 (0, 0))) ∧ Aside0 (wc.heap[gb730]? = some (.cells #[(.slice Ao31 t719.length co31), (.slice Ao35 t722.length co35), .int .i64 t725, .bool t726, (.slice Ao36 t727.length co36)] 33 (0, 0))) ∧ Aside0 (wc.heap[gb743]? = some (.cells #[(.slice Ao39 t731.length co39), (.slice Ao44 t734.length co44), .int .i64 t737, .bool t738, (.slice Ao45 t739.length co45)] 33 (0, 0))) ∧ Aside0 (Below w.heap.size w wc))
      case first =>
       have H := HC69.out
       clear HC69
       by_cases c81 : t757 < 0
       ·rw [if_pos c81] at H
        have c81b0 : decide (t757 < 0) = true := decide_eq_true c81
        clear c81
        (first | rw [c81b0] | (simp only [i64_w, i32_w]; rw [c81b0]) | skip)
        have H' := Aside0.mk H
        clear H
        go_wp2
        go_meet
        case rel => exact ⟨_, (true), (by first | rfl | (simp; done) | (simp [*]; done)), H', ⟨by have := HJ11.out; first | omega | exact Nat.le_refl _⟩, ⟨by (with_reducible repeat (first | apply Kd.R_alloc | apply Kd.R_drewN | apply Kd.R_drew)); exact Kd.R_mono HO_719000.out (fun _ hk => ⟨hk.1, hk.2.1⟩)⟩, ⟨by (with_reducible repeat (first | apply Kd.R_alloc | apply Kd.R_drewN | apply Kd.R_drew)); exact Kd.R_mono HO_719001.out (fun _ hk => ⟨hk.1, ⟨hk.2.1, ⟨hk.2.2.1, ⟨hk.2.2.2.1, hk.2.2.2.2.1⟩⟩⟩⟩)⟩, ⟨by (with_reducible repeat (first | apply Kd.R_alloc | apply Kd.R_drewN | apply Kd.R_drew)); exact Kd.R_mono HO_719004.out (fun _ hk => ⟨hk.1, ⟨hk.2.1, ⟨hk.2.2.1, ⟨hk.2.2.2.1, hk.2.2.2.2.1⟩⟩⟩⟩)⟩, ⟨by (with_reducible repeat (first | apply Kd.R_alloc | apply Kd.R_drewN | apply Kd.R_drew)); exact Kd.R_mono HO_731000.out (fun _ hk => ⟨hk.1.1, hk.1.2⟩)⟩, ⟨by (with_reducible repeat (first | apply Kd.R_alloc | apply Kd.R_drewN | apply Kd.R_drew)); exact Kd.R_mono HO_731001.out (fun _ hk => ⟨hk.1.1.1, ⟨hk.1.1.2.1, ⟨hk.1.1.2.2.1, ⟨hk.1.1.2.2.2.1, hk.1.1.2.2.2.2⟩⟩⟩⟩)⟩, ⟨by (with_reducible repeat (first | apply Kd.R_alloc | apply Kd.R_drewN | apply Kd.R_drew)); exact Kd.R_mono HO_731004.out (fun _ hk => ⟨hk.1.1.1, ⟨hk.1.1.2.1, ⟨hk.1.1.2.2.1, ⟨hk.1.1.2.2.2.1, hk.1.1.2.2.2.2⟩⟩⟩⟩)⟩, ⟨by (with_reducible repeat (first | apply Kd.R_alloc | apply Kd.R_drewN | apply Kd.R_drew)); exact Kd.R_mono HO_744000.out (fun _ hk => ⟨hk.1, hk.2.1⟩)⟩, ⟨by (with_reducible repeat (first | apply Kd.R_alloc | apply Kd.R_drewN | apply Kd.R_drew)); exact Kd.R_mono HO_744001.out (fun _ hk => ⟨hk.1, ⟨hk.2.1, ⟨hk.2.2.1, ⟨hk.2.2.2.1, hk.2.2.2.2.1⟩⟩⟩⟩)⟩, ⟨by (with_reducible repeat (first | apply Kd.R_alloc | apply Kd.R_drewN | apply Kd.R_drew)); exact Kd.R_mono HO_744004.out (fun _ hk => ⟨hk.1, ⟨hk.2.1, ⟨hk.2.2.1, ⟨hk.2.2.2.1, hk.2.2.2.2.1⟩⟩⟩⟩)⟩, ⟨by (with_reducible repeat (first | refine blk_drewN ?_ _ | refine blk_drew ?_ | refine blk_alloc ?_ _)); exact BK693.out⟩, ⟨by (with_reducible repeat (first | refine blk_drewN ?_ _ | refine blk_drew ?_ | refine blk_alloc ?_ _)); exact BK718.out⟩, ⟨by (with_reducible repeat (first | refine blk_drewN ?_ _ | refine blk_drew ?_ | refine blk_alloc ?_ _)); exact BK730.out⟩, ⟨by (with_reducible repeat (first | refine blk_drewN ?_ _ | refine blk_drew ?_ | refine blk_alloc ?_ _)); exact BK743.out⟩, ⟨by repeat (first | (with_reducible first | exact HB.out | apply below_alloc | apply pw_below_drewN | apply below_drew1 | refine below_set ?_ GE693.out | refine below_set ?_ GE718.out | refine below_set ?_ GE730.out | refine below_set ?_ GE743.out) | exact HB.out)⟩⟩
       ·rw [if_neg c81] at H
        have c81b0 : decide (t757 < 0) = false := decide_eq_false c81
        clear c81
        (first | rw [c81b0] | (simp only [i64_w, i32_w]; rw [c81b0]) | skip)
        replace H := Option.bind_eq_some_iff.mp H
        obtain ⟨t761, A820, H⟩ := H
        replace H : (if t761 = true then (laws_FnExactPartSend.j1 kj11 a1 t717 (t742 != t717) l0_0 l0_1 a0_2 a0_3 l0_4 t706 t709 t712 t713 t714 t731 t734 t737 t738 t739) else (laws_FnExactPartSend.j1 kj11 a1 t717 true l0_0 l0_1 a0_2 a0_3 l0_4 t706 t709 t712 t713 t714 t731 t734 t737 t738 t739)) = some r := H
        have A82 := Aside0.mk A820
        clear A820
        by_cases c83 : t761 = true
        ·subst c83
         have H1 : (laws_FnExactPartSend.j1 kj11 a1 t717 (t742 != t717) l0_0 l0_1 a0_2 a0_3 l0_4 t706 t709 t712 t713 t714 t731 t734 t737 t738 t739) = some r := by rw [if_pos rfl] at H; exact H
         clear H
         have H := H1
         clear H1
         have H' := Aside0.mk H
         clear H
         have hnb84 := NB743_693.out
         have hnc84 := NB693_743.out
         have hnb85 := NB743_718.out
         have hnc85 := NB718_743.out
         have hnb86 := NB743_730.out
         have hnc86 := NB730_743.out
         have hcz87_0 : w80.cell? ⟨gb743, 0, none⟩ = some (.slice Ao39 t731.length co39) := (blk_cell BK743.out 0).trans rfl
         have hcz87_1 : w80.cell? ⟨gb743, 1, none⟩ = some (.slice Ao44 t734.length co44) := (blk_cell BK743.out 1).trans rfl
         have hcz87_2 : w80.cell? ⟨gb743, 2, none⟩ = some (.int .i64 t737) := (blk_cell BK743.out 2).trans rfl
         have hcz87_3 : w80.cell? ⟨gb743, 3, none⟩ = some (.bool t738) := (blk_cell BK743.out 3).trans rfl
         have hcz87_4 : w80.cell? ⟨gb743, 4, none⟩ = some (.slice Ao45 t739.length co45) := (blk_cell BK743.out 4).trans rfl
         have hfz87_0 := blk_frozen BK743.out 0
         have hfz87_1 := blk_frozen BK743.out 1
         have hfz87_2 := blk_frozen BK743.out 2
         have hfz87_3 := blk_frozen BK743.out 3
         have hfz87_4 := blk_frozen BK743.out 4
         have hnb88 := NB718_693.out
         have hnc88 := NB693_718.out
         have hnb89 := NB718_730.out
         have hnc89 := NB730_718.out
         have hcz90_0 : w80.cell? ⟨gb718, 0, none⟩ = some (.slice Ao23 t706.length co23) := (blk_cell BK718.out 0).trans rfl
         have hcz90_1 : w80.cell? ⟨gb718, 1, none⟩ = some (.slice Ao26 t709.length co26) := (blk_cell BK718.out 1).trans rfl
         have hcz90_2 : w80.cell? ⟨gb718, 2, none⟩ = some (.int .i64 t712) := (blk_cell BK718.out 2).trans rfl
         have hcz90_3 : w80.cell? ⟨gb718, 3, none⟩ = some (.bool t713) := (blk_cell BK718.out 3).trans rfl
         have hcz90_4 : w80.cell? ⟨gb718, 4, none⟩ = some (.slice Ao27 t714.length co27) := (blk_cell BK718.out 4).trans rfl
         have hfz90_0 := blk_frozen BK718.out 0
         have hfz90_1 := blk_frozen BK718.out 1
         have hfz90_2 := blk_frozen BK718.out 2
         have hfz90_3 := blk_frozen BK718.out 3
         have hfz90_4 := blk_frozen BK718.out 4
         go_wp2_with (first | (go_at_call 22; (with_reducible refine (laws_eqPart.calls kj11 _ _ t731 _ _ t734 t737 t738 _ _ t739 _ _ t706 _ _ t709 t712 t713 _ _ t714 true _ ?side1 ?side2 ?side3 ?side4 ?side5 ?side6 ?side7 ?side8 ?side9 ?side10 ?side11 ?side12 A82.out).mono ?_); (case side1 => exact cN (Kd.R_reads' HO_744000.out).2.2); (case side2 => exact (Kd.R_reads' HO_744000.out).2.1); (case side3 => exact cN (Kd.R_reads' HO_744001.out).2.2); (case side4 => exact (Kd.R_reads' HO_744001.out).2.1); (case side5 => exact cN (Kd.R_reads' HO_744004.out).2.2); (case side6 => exact (Kd.R_reads' HO_744004.out).2.1); (case side7 => exact cN (Kd.R_reads' HO_719000.out).2.2); (case side8 => exact (Kd.R_reads' HO_719000.out).2.1); (case side9 => exact cN (Kd.R_reads' HO_719001.out).2.2); (case side10 => exact (Kd.R_reads' HO_719001.out).2.1); (case side11 => exact cN (Kd.R_reads' HO_719004.out).2.2); (case side12 => exact (Kd.R_reads' HO_719004.out).2.1); rintro e w91 ⟨rfl, hb⟩; have n0_ := m_ (Kd.R_below (rN HO_719000.out) hb); have n1_ := m_ (Kd.R_below (rN HO_719001.out) hb); have n2_ := m_ (Kd.R_below (rN HO_719004.out) hb); have n3_ := m_ (Kd.R_below (rN HO_731000.out) hb); have n4_ := m_ (Kd.R_below (rN HO_731001.out) hb); have n5_ := m_ (Kd.R_below (rN HO_731004.out) hb); have n6_ := m_ (Kd.R_below (rN HO_744000.out) hb); have n7_ := m_ (Kd.R_below (rN HO_744001.out) hb); have n8_ := m_ (Kd.R_below (rN HO_744004.out) hb); have n9_ := m_ (Kd.R_below (rN HO747.out) hb); have n10_ := m_ (Kd.R_below (rN HO750.out) hb); have n11_ := m_ (Kd.R_below (rN HO755.out) hb); have n12_ := m_ (blk_below (kN BK693.out) hb); have n13_ := m_ (blk_below (kN BK718.out) hb); have n14_ := m_ (blk_below (kN BK730.out) hb); have n15_ := m_ (blk_below (kN BK743.out) hb); have n16_ := m_ (below_step (bN HB.out) hb); clear HO_719000; clear HO_719001; clear HO_719004; clear HO_731000; clear HO_731001; clear HO_731004; clear HO_744000; clear HO_744001; clear HO_744004; clear HO747; clear HO750; clear HO755; clear BK693; clear BK718; clear BK730; clear BK743; clear HB; have HO_719000 := n0_; have HO_719001 := n1_; have HO_719004 := n2_; have HO_731000 := n3_; have HO_731001 := n4_; have HO_731004 := n5_; have HO_744000 := n6_; have HO_744001 := n7_; have HO_744004 := n8_; have HO747 := n9_; have HO750 := n10_; have HO755 := n11_; have BK693 := n12_; have BK718 := n13_; have BK730 := n14_; have BK743 := n15_; have HB := n16_; clear n0_ n1_ n2_ n3_ n4_ n5_ n6_ n7_ n8_ n9_ n10_ n11_ n12_ n13_ n14_ n15_ n16_; (try clear hb); (try clear hb2); (try clear hk); (try clear hi)))
         go_meet
         case rel => exact ⟨_, ((t742 != t717)), (by first | rfl | (simp; done) | (simp [*]; done)), H', ⟨by have := HJ11.out; first | omega | exact Nat.le_refl _⟩, ⟨by (with_reducible repeat (first | apply Kd.R_alloc | apply Kd.R_drewN | apply Kd.R_drew)); exact Kd.R_mono HO_719000.out (fun _ hk => ⟨hk.1, hk.2.1⟩)⟩, ⟨by (with_reducible repeat (first | apply Kd.R_alloc | apply Kd.R_drewN | apply Kd.R_drew)); exact Kd.R_mono HO_719001.out (fun _ hk => ⟨hk.1, ⟨hk.2.1, ⟨hk.2.2.1, ⟨hk.2.2.2.1, hk.2.2.2.2.1⟩⟩⟩⟩)⟩, ⟨by (with_reducible repeat (first | apply Kd.R_alloc | apply Kd.R_drewN | apply Kd.R_drew)); exact Kd.R_mono HO_719004.out (fun _ hk => ⟨hk.1, ⟨hk.2.1, ⟨hk.2.2.1, ⟨hk.2.2.2.1, hk.2.2.2.2.1⟩⟩⟩⟩)⟩, ⟨by (with_reducible repeat (first | apply Kd.R_alloc | apply Kd.R_drewN | apply Kd.R_drew)); exact Kd.R_mono HO_731000.out (fun _ hk => ⟨hk.1.1, hk.1.2⟩)⟩, ⟨by (with_reducible repeat (first | apply Kd.R_alloc | apply Kd.R_drewN | apply Kd.R_drew)); exact Kd.R_mono HO_731001.out (fun _ hk => ⟨hk.1.1.1, ⟨hk.1.1.2.1, ⟨hk.1.1.2.2.1, ⟨hk.1.1.2.2.2.1, hk.1.1.2.2.2.2⟩⟩⟩⟩)⟩, ⟨by (with_reducible repeat (first | apply Kd.R_alloc | apply Kd.R_drewN | apply Kd.R_drew)); exact Kd.R_mono HO_731004.out (fun _ hk => ⟨hk.1.1.1, ⟨hk.1.1.2.1, ⟨hk.1.1.2.2.1, ⟨hk.1.1.2.2.2.1, hk.1.1.2.2.2.2⟩⟩⟩⟩)⟩, ⟨by (with_reducible repeat (first | apply Kd.R_alloc | apply Kd.R_drewN | apply Kd.R_drew)); exact Kd.R_mono HO_744000.out (fun _ hk => ⟨hk.1, hk.2.1⟩)⟩, ⟨by (with_reducible repeat (first | apply Kd.R_alloc | apply Kd.R_drewN | apply Kd.R_drew)); exact Kd.R_mono HO_744001.out (fun _ hk => ⟨hk.1, ⟨hk.2.1, ⟨hk.2.2.1, ⟨hk.2.2.2.1, hk.2.2.2.2.1⟩⟩⟩⟩)⟩, ⟨by (with_reducible repeat (first | apply Kd.R_alloc | apply Kd.R_drewN | apply Kd.R_drew)); exact Kd.R_mono HO_744004.out (fun _ hk => ⟨hk.1, ⟨hk.2.1, ⟨hk.2.2.1, ⟨hk.2.2.2.1, hk.2.2.2.2.1⟩⟩⟩⟩)⟩, ⟨by (with_reducible repeat (first | refine blk_drewN ?_ _ | refine blk_drew ?_ | refine blk_alloc ?_ _)); exact BK693.out⟩, ⟨by (with_reducible repeat (first | refine blk_drewN ?_ _ | refine blk_drew ?_ | refine blk_alloc ?_ _)); exact BK718.out⟩, ⟨by (with_reducible repeat (first | refine blk_drewN ?_ _ | refine blk_drew ?_ | refine blk_alloc ?_ _)); exact BK730.out⟩, ⟨by (with_reducible repeat (first | refine blk_drewN ?_ _ | refine blk_drew ?_ | refine blk_alloc ?_ _)); exact BK743.out⟩, ⟨by repeat (first | (with_reducible first | exact HB.out | apply below_alloc | apply pw_below_drewN | apply below_drew1 | refine below_set ?_ GE693.out | refine below_set ?_ GE718.out | refine below_set ?_ GE730.out | refine below_set ?_ GE743.out) | exact HB.out)⟩⟩
        ·replace c83 := Bool.eq_false_iff.mpr c83
         subst c83
         have H1 : (laws_FnExactPartSend.j1 kj11 a1 t717 true l0_0 l0_1 a0_2 a0_3 l0_4 t706 t709 t712 t713 t714 t731 t734 t737 t738 t739) = some r := by rw [if_neg (show ¬ (false = true) by decide)] at H; exact H
         clear H
         have H := H1
         clear H1
         have H' := Aside0.mk H
         clear H
         have hnb92 := NB743_693.out
         have hnc92 := NB693_743.out
         have hnb93 := NB743_718.out
         have hnc93 := NB718_743.out
         have hnb94 := NB743_730.out
         have hnc94 := NB730_743.out
         have hcz95_0 : w80.cell? ⟨gb743, 0, none⟩ = some (.slice Ao39 t731.length co39) := (blk_cell BK743.out 0).trans rfl
         have hcz95_1 : w80.cell? ⟨gb743, 1, none⟩ = some (.slice Ao44 t734.length co44) := (blk_cell BK743.out 1).trans rfl
         have hcz95_2 : w80.cell? ⟨gb743, 2, none⟩ = some (.int .i64 t737) := (blk_cell BK743.out 2).trans rfl
         have hcz95_3 : w80.cell? ⟨gb743, 3, none⟩ = some (.bool t738) := (blk_cell BK743.out 3).trans rfl
         have hcz95_4 : w80.cell? ⟨gb743, 4, none⟩ = some (.slice Ao45 t739.length co45) := (blk_cell BK743.out 4).trans rfl
         have hfz95_0 := blk_frozen BK743.out 0
         have hfz95_1 := blk_frozen BK743.out 1
         have hfz95_2 := blk_frozen BK743.out 2
         have hfz95_3 := blk_frozen BK743.out 3
         have hfz95_4 := blk_frozen BK743.out 4
         have hnb96 := NB718_693.out
         have hnc96 := NB693_718.out
         have hnb97 := NB718_730.out
         have hnc97 := NB730_718.out
         have hcz98_0 : w80.cell? ⟨gb718, 0, none⟩ = some (.slice Ao23 t706.length co23) := (blk_cell BK718.out 0).trans rfl
         have hcz98_1 : w80.cell? ⟨gb718, 1, none⟩ = some (.slice Ao26 t709.length co26) := (blk_cell BK718.out 1).trans rfl
         have hcz98_2 : w80.cell? ⟨gb718, 2, none⟩ = some (.int .i64 t712) := (blk_cell BK718.out 2).trans rfl
         have hcz98_3 : w80.cell? ⟨gb718, 3, none⟩ = some (.bool t713) := (blk_cell BK718.out 3).trans rfl
         have hcz98_4 : w80.cell? ⟨gb718, 4, none⟩ = some (.slice Ao27 t714.length co27) := (blk_cell BK718.out 4).trans rfl
         have hfz98_0 := blk_frozen BK718.out 0
         have hfz98_1 := blk_frozen BK718.out 1
         have hfz98_2 := blk_frozen BK718.out 2
         have hfz98_3 := blk_frozen BK718.out 3
         have hfz98_4 := blk_frozen BK718.out 4
         go_wp2_with (first | (go_at_call 22; (with_reducible refine (laws_eqPart.calls kj11 _ _ t731 _ _ t734 t737 t738 _ _ t739 _ _ t706 _ _ t709 t712 t713 _ _ t714 false _ ?side1 ?side2 ?side3 ?side4 ?side5 ?side6 ?side7 ?side8 ?side9 ?side10 ?side11 ?side12 A82.out).mono ?_); (case side1 => exact cN (Kd.R_reads' HO_744000.out).2.2); (case side2 => exact (Kd.R_reads' HO_744000.out).2.1); (case side3 => exact cN (Kd.R_reads' HO_744001.out).2.2); (case side4 => exact (Kd.R_reads' HO_744001.out).2.1); (case side5 => exact cN (Kd.R_reads' HO_744004.out).2.2); (case side6 => exact (Kd.R_reads' HO_744004.out).2.1); (case side7 => exact cN (Kd.R_reads' HO_719000.out).2.2); (case side8 => exact (Kd.R_reads' HO_719000.out).2.1); (case side9 => exact cN (Kd.R_reads' HO_719001.out).2.2); (case side10 => exact (Kd.R_reads' HO_719001.out).2.1); (case side11 => exact cN (Kd.R_reads' HO_719004.out).2.2); (case side12 => exact (Kd.R_reads' HO_719004.out).2.1); rintro e w99 ⟨rfl, hb⟩; have n0_ := m_ (Kd.R_below (rN HO_719000.out) hb); have n1_ := m_ (Kd.R_below (rN HO_719001.out) hb); have n2_ := m_ (Kd.R_below (rN HO_719004.out) hb); have n3_ := m_ (Kd.R_below (rN HO_731000.out) hb); have n4_ := m_ (Kd.R_below (rN HO_731001.out) hb); have n5_ := m_ (Kd.R_below (rN HO_731004.out) hb); have n6_ := m_ (Kd.R_below (rN HO_744000.out) hb); have n7_ := m_ (Kd.R_below (rN HO_744001.out) hb); have n8_ := m_ (Kd.R_below (rN HO_744004.out) hb); have n9_ := m_ (Kd.R_below (rN HO747.out) hb); have n10_ := m_ (Kd.R_below (rN HO750.out) hb); have n11_ := m_ (Kd.R_below (rN HO755.out) hb); have n12_ := m_ (blk_below (kN BK693.out) hb); have n13_ := m_ (blk_below (kN BK718.out) hb); have n14_ := m_ (blk_below (kN BK730.out) hb); have n15_ := m_ (blk_below (kN BK743.out) hb); have n16_ := m_ (below_step (bN HB.out) hb); clear HO_719000; clear HO_719001; clear HO_719004; clear HO_731000; clear HO_731001; clear HO_731004; clear HO_744000; clear HO_744001; clear HO_744004; clear HO747; clear HO750; clear HO755; clear BK693; clear BK718; clear BK730; clear BK743; clear HB; have HO_719000 := n0_; have HO_719001 := n1_; have HO_719004 := n2_; have HO_731000 := n3_; have HO_731001 := n4_; have HO_731004 := n5_; have HO_744000 := n6_; have HO_744001 := n7_; have HO_744004 := n8_; have HO747 := n9_; have HO750 := n10_; have HO755 := n11_; have BK693 := n12_; have BK718 := n13_; have BK730 := n14_; have BK743 := n15_; have HB := n16_; clear n0_ n1_ n2_ n3_ n4_ n5_ n6_ n7_ n8_ n9_ n10_ n11_ n12_ n13_ n14_ n15_ n16_; (try clear hb); (try clear hb2); (try clear hk); (try clear hi)))
         go_meet
         case rel => exact ⟨_, (true), (by first | rfl | (simp; done) | (simp [*]; done)), H', ⟨by have := HJ11.out; first | omega | exact Nat.le_refl _⟩, ⟨by (with_reducible repeat (first | apply Kd.R_alloc | apply Kd.R_drewN | apply Kd.R_drew)); exact Kd.R_mono HO_719000.out (fun _ hk => ⟨hk.1, hk.2.1⟩)⟩, ⟨by (with_reducible repeat (first | apply Kd.R_alloc | apply Kd.R_drewN | apply Kd.R_drew)); exact Kd.R_mono HO_719001.out (fun _ hk => ⟨hk.1, ⟨hk.2.1, ⟨hk.2.2.1, ⟨hk.2.2.2.1, hk.2.2.2.2.1⟩⟩⟩⟩)⟩, ⟨by (with_reducible repeat (first | apply Kd.R_alloc | apply Kd.R_drewN | apply Kd.R_drew)); exact Kd.R_mono HO_719004.out (fun _ hk => ⟨hk.1, ⟨hk.2.1, ⟨hk.2.2.1, ⟨hk.2.2.2.1, hk.2.2.2.2.1⟩⟩⟩⟩)⟩, ⟨by (with_reducible repeat (first | apply Kd.R_alloc | apply Kd.R_drewN | apply Kd.R_drew)); exact Kd.R_mono HO_731000.out (fun _ hk => ⟨hk.1.1, hk.1.2⟩)⟩, ⟨by (with_reducible repeat (first | apply Kd.R_alloc | apply Kd.R_drewN | apply Kd.R_drew)); exact Kd.R_mono HO_731001.out (fun _ hk => ⟨hk.1.1.1, ⟨hk.1.1.2.1, ⟨hk.1.1.2.2.1, ⟨hk.1.1.2.2.2.1, hk.1.1.2.2.2.2⟩⟩⟩⟩)⟩, ⟨by (with_reducible repeat (first | apply Kd.R_alloc | apply Kd.R_drewN | apply Kd.R_drew)); exact Kd.R_mono HO_731004.out (fun _ hk => ⟨hk.1.1.1, ⟨hk.1.1.2.1, ⟨hk.1.1.2.2.1, ⟨hk.1.1.2.2.2.1, hk.1.1.2.2.2.2⟩⟩⟩⟩)⟩, ⟨by (with_reducible repeat (first | apply Kd.R_alloc | apply Kd.R_drewN | apply Kd.R_drew)); exact Kd.R_mono HO_744000.out (fun _ hk => ⟨hk.1, hk.2.1⟩)⟩, ⟨by (with_reducible repeat (first | apply Kd.R_alloc | apply Kd.R_drewN | apply Kd.R_drew)); exact Kd.R_mono HO_744001.out (fun _ hk => ⟨hk.1, ⟨hk.2.1, ⟨hk.2.2.1, ⟨hk.2.2.2.1, hk.2.2.2.2.1⟩⟩⟩⟩)⟩, ⟨by (with_reducible repeat (first | apply Kd.R_alloc | apply Kd.R_drewN | apply Kd.R_drew)); exact Kd.R_mono HO_744004.out (fun _ hk => ⟨hk.1, ⟨hk.2.1, ⟨hk.2.2.1, ⟨hk.2.2.2.1, hk.2.2.2.2.1⟩⟩⟩⟩)⟩, ⟨by (with_reducible repeat (first | refine blk_drewN ?_ _ | refine blk_drew ?_ | refine blk_alloc ?_ _)); exact BK693.out⟩, ⟨by (with_reducible repeat (first | refine blk_drewN ?_ _ | refine blk_drew ?_ | refine blk_alloc ?_ _)); exact BK718.out⟩, ⟨by (with_reducible repeat (first | refine blk_drewN ?_ _ | refine blk_drew ?_ | refine blk_alloc ?_ _)); exact BK730.out⟩, ⟨by (with_reducible repeat (first | refine blk_drewN ?_ _ | refine blk_drew ?_ | refine blk_alloc ?_ _)); exact BK743.out⟩, ⟨by repeat (first | (with_reducible first | exact HB.out | apply below_alloc | apply pw_below_drewN | apply below_drew1 | refine below_set ?_ GE693.out | refine below_set ?_ GE718.out | refine below_set ?_ GE730.out | refine below_set ?_ GE743.out) | exact HB.out)⟩⟩
      case rest =>
       clear HC69
       try clear c1
       try clear c2
       try clear p2
       try clear c3
       try clear c4
       try clear c4b0
       try clear c5
       try clear c6
       try clear c7
       try clear c8
       try clear c9
       try clear c19
       try clear c21
       try clear c22
       try clear c24
       try clear c27
       try clear c28
       try clear c32
       try clear c33
       try clear c40
       try clear c41
       try clear c42
       try clear c47
       try clear c48
       try clear c49
       try clear c50
       try clear c52
       try clear c53
       try clear c56
       try clear c57
       try clear c58
       try clear c60
       try clear c61
       try clear c64
       try clear c67
       try clear c76
       try clear c77
       try clear c78
       try clear c81
       try clear c81b0
       try clear c83
       try clear c84
       try clear c85
       try clear c86
       try clear c88
       try clear c89
       try clear c92
       try clear c93
       try clear c94
       try clear c96
       try clear c97
       try clear hcz14_0
       try clear hcz14_1
       try clear hcz14_2
       try clear hcz14_3
       try clear hcz14_4
       try clear hcz16_0
       try clear hcz16_1
       try clear hcz16_2
       try clear hcz16_3
       try clear hcz16_4
       try clear hcz25_0
       try clear hcz25_1
       try clear hcz25_2
       try clear hcz25_3
       try clear hcz25_4
       try clear hcz28_0
       try clear hcz28_1
       try clear hcz28_2
       try clear hcz28_3
       try clear hcz28_4
       try clear hcz34_0
       try clear hcz34_1
       try clear hcz34_2
       try clear hcz34_3
       try clear hcz34_4
       try clear hcz43_0
       try clear hcz43_1
       try clear hcz43_2
       try clear hcz43_3
       try clear hcz43_4
       try clear hcz51_0
       try clear hcz51_1
       try clear hcz51_2
       try clear hcz51_3
       try clear hcz51_4
       try clear hcz54_0
       try clear hcz54_1
       try clear hcz54_2
       try clear hcz54_3
       try clear hcz54_4
       try clear hcz59_0
       try clear hcz59_1
       try clear hcz59_2
       try clear hcz59_3
       try clear hcz59_4
       try clear hcz62_0
       try clear hcz62_1
       try clear hcz62_2
       try clear hcz62_3
       try clear hcz62_4
       try clear hcz6_0
       try clear hcz6_1
       try clear hcz6_2
       try clear hcz6_3
       try clear hcz6_4
       try clear hcz79_0
       try clear hcz79_1
       try clear hcz79_2
       try clear hcz79_3
       try clear hcz79_4
       try clear hcz87_0
       try clear hcz87_1
       try clear hcz87_2
       try clear hcz87_3
       try clear hcz87_4
       try clear hcz90_0
       try clear hcz90_1
       try clear hcz90_2
       try clear hcz90_3
       try clear hcz90_4
       try clear hcz95_0
       try clear hcz95_1
       try clear hcz95_2
       try clear hcz95_3
       try clear hcz95_4
       try clear hcz98_0
       try clear hcz98_1
       try clear hcz98_2
       try clear hcz98_3
       try clear hcz98_4
       try clear hfz14_0
       try clear hfz14_1
       try clear hfz14_2
       try clear hfz14_3
       try clear hfz14_4
       try clear hfz16_0
       try clear hfz16_1
       try clear hfz16_2
       try clear hfz16_3
       try clear hfz16_4
       try clear hfz25_0
       try clear hfz25_1
       try clear hfz25_2
       try clear hfz25_3
       try clear hfz25_4
       try clear hfz28_0
       try clear hfz28_1
       try clear hfz28_2
       try clear hfz28_3
       try clear hfz28_4
       try clear hfz34_0
       try clear hfz34_1
       try clear hfz34_2
       try clear hfz34_3
       try clear hfz34_4
       try clear hfz43_0
       try clear hfz43_1
       try clear hfz43_2
       try clear hfz43_3
       try clear hfz43_4
       try clear hfz51_0
       try clear hfz51_1
       try clear hfz51_2
       try clear hfz51_3
       try clear hfz51_4
       try clear hfz54_0
       try clear hfz54_1
       try clear hfz54_2
       try clear hfz54_3
       try clear hfz54_4
       try clear hfz59_0
       try clear hfz59_1
       try clear hfz59_2
       try clear hfz59_3
       try clear hfz59_4
       try clear hfz62_0
       try clear hfz62_1
       try clear hfz62_2
       try clear hfz62_3
       try clear hfz62_4
       try clear hfz6_0
       try clear hfz6_1
       try clear hfz6_2
       try clear hfz6_3
       try clear hfz6_4
       try clear hfz79_0
       try clear hfz79_1
       try clear hfz79_2
       try clear hfz79_3
       try clear hfz79_4
       try clear hfz87_0
       try clear hfz87_1
       try clear hfz87_2
       try clear hfz87_3
       try clear hfz87_4
       try clear hfz90_0
       try clear hfz90_1
       try clear hfz90_2
       try clear hfz90_3
       try clear hfz90_4
       try clear hfz95_0
       try clear hfz95_1
       try clear hfz95_2
       try clear hfz95_3
       try clear hfz95_4
       try clear hfz98_0
       try clear hfz98_1
       try clear hfz98_2
       try clear hfz98_3
       try clear hfz98_4
       try clear p2
       obtain ⟨kq, x65_68, rfl, HA, HJ68, HO_719000, HO_719001, HO_719004, HO_731000, HO_731001, HO_731004, HO_744000, HO_744001, HO_744004, BK693, BK718, BK730, BK743, HB⟩ := hcut
       have hl731000_68 := (Kd.R_reads' HO_731000.out).1
       rw [hl731000_68] at HO_731000
       (try simp only [hl731000_68])
       (try simp only [hl731000_68] at BK693)
       (try simp only [hl731000_68] at BK718)
       (try simp only [hl731000_68] at BK730)
       (try simp only [hl731000_68] at BK743)
       (try simp only [hl731000_68] at HO_719000)
       (try simp only [hl731000_68] at HO_719001)
       (try simp only [hl731000_68] at HO_719004)
       (try simp only [hl731000_68] at HO_731001)
       (try simp only [hl731000_68] at HO_731004)
       (try simp only [hl731000_68] at HO_744000)
       (try simp only [hl731000_68] at HO_744001)
       (try simp only [hl731000_68] at HO_744004)
       have hl731001_68 := (Kd.R_reads' HO_731001.out).1
       rw [hl731001_68] at HO_731001
       (try simp only [hl731001_68])
       (try simp only [hl731001_68] at BK693)
       (try simp only [hl731001_68] at BK718)
       (try simp only [hl731001_68] at BK730)
       (try simp only [hl731001_68] at BK743)
       (try simp only [hl731001_68] at HO_719000)
       (try simp only [hl731001_68] at HO_719001)
       (try simp only [hl731001_68] at HO_719004)
       (try simp only [hl731001_68] at HO_731000)
       (try simp only [hl731001_68] at HO_731004)
       (try simp only [hl731001_68] at HO_744000)
       (try simp only [hl731001_68] at HO_744001)
       (try simp only [hl731001_68] at HO_744004)
       have hl731004_68 := (Kd.R_reads' HO_731004.out).1
       rw [hl731004_68] at HO_731004
       (try simp only [hl731004_68])
       (try simp only [hl731004_68] at BK693)
       (try simp only [hl731004_68] at BK718)
       (try simp only [hl731004_68] at BK730)
       (try simp only [hl731004_68] at BK743)
       (try simp only [hl731004_68] at HO_719000)
       (try simp only [hl731004_68] at HO_719001)
       (try simp only [hl731004_68] at HO_719004)
       (try simp only [hl731004_68] at HO_731000)
       (try simp only [hl731004_68] at HO_731001)
       (try simp only [hl731004_68] at HO_744000)
       (try simp only [hl731004_68] at HO_744001)
       (try simp only [hl731004_68] at HO_744004)
       cases kq with
       | zero => exact absurd HA.out (by simp [laws_FnExactPartSend.j1])
       | succ kj68 =>
        have H := HA.out
        clear HA
        simp only [laws_FnExactPartSend.j1] at H
        by_cases c100 : x65_68 = true
        ·subst c100
         have H1 : (some false) = some r := by rw [if_pos rfl] at H; exact H
         clear H
         have H := H1
         clear H1
         obtain rfl := Option.some.inj H
         go_wp2
         go_ret
         exact ⟨by first | rfl | (simp [errW_none, errW_some] <;> rfl) | (simp [*, errW_none, errW_some] <;> rfl), by repeat (first | (with_reducible first | exact HB.out | apply below_alloc | apply pw_below_drewN | apply below_drew1 | refine below_set ?_ GE693.out | refine below_set ?_ GE718.out | refine below_set ?_ GE730.out | refine below_set ?_ GE743.out) | exact HB.out)⟩
        ·replace c100 := Bool.eq_false_iff.mpr c100
         subst c100
         have H1 : ((laws_markPart.f kj68 t731 t734 t737 t738 t739 1).bind fun bt762 => ((laws_heldPart.f kj68 bt762.2.1 bt762.2.2.1 t737 t738 bt762.2.2.2 1).bind fun t766 => (if t766 < 0 then (some false) else (if t766 = bt762.1 then ((laws_toPart.f kj68 l0_0 l0_1 a0_2 a0_3 l0_4).bind fun bt767 => ((impl_PartSend.f kj68 bt767.1 bt767.2.1 bt767.2.2.1 bt767.2.2.2.1 bt767.2.2.2.2 a1).bind fun bt778 => ((laws_eqPart.f kj68 bt778.1 bt778.2.1 bt778.2.2.1 bt778.2.2.2.1 bt778.2.2.2.2.1 t706 t709 t712 t713 t714).bind fun t791 => (if t791 = true then (laws_FnExactPartSend.j2 kj68 bt762.1 (bt778.2.2.2.2.2 != t717) bt762.2.1 bt762.2.2.1 t737 t738 bt762.2.2.2) else (laws_FnExactPartSend.j2 kj68 bt762.1 true bt762.2.1 bt762.2.2.1 t737 t738 bt762.2.2.2))))) else (some false))))) = some r := by rw [if_neg (show ¬ (false = true) by decide)] at H; exact H
         clear H
         have H := H1
         clear H1
         replace H := Option.bind_eq_some_iff.mp H
         obtain ⟨⟨t762, t763, t764, t765⟩, A1010, H⟩ := H
         replace H : ((laws_heldPart.f kj68 t763 t764 t737 t738 t765 1).bind fun t766 => (if t766 < 0 then (some false) else (if t766 = t762 then ((laws_toPart.f kj68 l0_0 l0_1 a0_2 a0_3 l0_4).bind fun bt767 => ((impl_PartSend.f kj68 bt767.1 bt767.2.1 bt767.2.2.1 bt767.2.2.2.1 bt767.2.2.2.2 a1).bind fun bt778 => ((laws_eqPart.f kj68 bt778.1 bt778.2.1 bt778.2.2.1 bt778.2.2.2.1 bt778.2.2.2.2.1 t706 t709 t712 t713 t714).bind fun t791 => (if t791 = true then (laws_FnExactPartSend.j2 kj68 t762 (bt778.2.2.2.2.2 != t717) t763 t764 t737 t738 t765) else (laws_FnExactPartSend.j2 kj68 t762 true t763 t764 t737 t738 t765))))) else (some false)))) = some r := H
         have A101 := Aside0.mk A1010
         clear A1010
         replace H := Option.bind_eq_some_iff.mp H
         obtain ⟨t766, A1020, H⟩ := H
         replace H : (if t766 < 0 then (some false) else (if t766 = t762 then ((laws_toPart.f kj68 l0_0 l0_1 a0_2 a0_3 l0_4).bind fun bt767 => ((impl_PartSend.f kj68 bt767.1 bt767.2.1 bt767.2.2.1 bt767.2.2.2.1 bt767.2.2.2.2 a1).bind fun bt778 => ((laws_eqPart.f kj68 bt778.1 bt778.2.1 bt778.2.2.1 bt778.2.2.2.1 bt778.2.2.2.2.1 t706 t709 t712 t713 t714).bind fun t791 => (if t791 = true then (laws_FnExactPartSend.j2 kj68 t762 (bt778.2.2.2.2.2 != t717) t763 t764 t737 t738 t765) else (laws_FnExactPartSend.j2 kj68 t762 true t763 t764 t737 t738 t765))))) else (some false))) = some r := H
         have A102 := Aside0.mk A1020
         clear A1020
         by_cases c103 : t766 < 0
         ·rw [if_pos c103] at H
          have c103b0 : decide (t766 < 0) = true := decide_eq_true c103
          clear c103
          obtain rfl := Option.some.inj H
          have hnb104 := NB743_693.out
          have hnc104 := NB693_743.out
          have hnb105 := NB743_718.out
          have hnc105 := NB718_743.out
          have hnb106 := NB743_730.out
          have hnc106 := NB730_743.out
          have hcz107_0 : wc.cell? ⟨gb743, 0, none⟩ = some (.slice Ao39 t731.length co39) := (blk_cell BK743.out 0).trans rfl
          have hcz107_1 : wc.cell? ⟨gb743, 1, none⟩ = some (.slice Ao44 t734.length co44) := (blk_cell BK743.out 1).trans rfl
          have hcz107_2 : wc.cell? ⟨gb743, 2, none⟩ = some (.int .i64 t737) := (blk_cell BK743.out 2).trans rfl
          have hcz107_3 : wc.cell? ⟨gb743, 3, none⟩ = some (.bool t738) := (blk_cell BK743.out 3).trans rfl
          have hcz107_4 : wc.cell? ⟨gb743, 4, none⟩ = some (.slice Ao45 t739.length co45) := (blk_cell BK743.out 4).trans rfl
          have hfz107_0 := blk_frozen BK743.out 0
          have hfz107_1 := blk_frozen BK743.out 1
          have hfz107_2 := blk_frozen BK743.out 2
          have hfz107_3 := blk_frozen BK743.out 3
          have hfz107_4 := blk_frozen BK743.out 4
          go_wp2_with (first | ((with_reducible refine gate_callee (f := 24) rfl ?_); refine goesL_ (some 68) rfl rfl Try.func24 (by kernel_rfl) rfl #[.agg #[.slice Ao39 t731.length co39, .slice Ao44 t734.length co44, .int .i64 t737, .bool t738, .slice Ao45 t739.length co45], .int .i64 1] rfl gl_ ?_; (with_reducible refine (laws_markPart.calls kj68 (fun k_ => some k_ = (.slice Ao39 t731.length co39 : Value).ownBlock) (.slice Ao39 t731.length co39) t731 (fun k_ => some k_ = (.slice Ao44 t734.length co44 : Value).ownBlock) (.slice Ao44 t734.length co44) t734 t737 t738 (fun k_ => some k_ = (.slice Ao45 t739.length co45 : Value).ownBlock) (.slice Ao45 t739.length co45) t739 1 t762 t763 t764 t765 w _ ?side1 ?side2 ?side3 ?side4 ?side5 ?side6 A101.out).mono ?_); (case side1 => repeat (first | (with_reducible first | exact HB.out | apply below_alloc | apply pw_below_drewN | apply below_drew1 | refine below_set ?_ GE693.out | refine below_set ?_ GE718.out | refine below_set ?_ GE730.out | refine below_set ?_ GE743.out) | exact HB.out)); (case side2 => exact Kd.R_tight rfl HO_744000.out); (case side3 => exact Kd.R_tight rfl HO_744001.out); (case side4 => exact fun k_ e_ => (HO_744001.out.1 k_ e_.symm).2.2.2.2); (case side5 => exact Kd.R_tight rfl HO_744004.out); (case side6 => exact fun k_ e_ => (HO_744004.out.1 k_ e_.symm).2.2.2.2); rintro e w108 ⟨rfl, hy0, hy1, hy2, hb, hkp⟩; refine ⟨_, rfl, ?_⟩; have n0_ := m_ (Kd.R_mono (ok' := fun k_ => nb Ao31 t758.length co31 k_ ∧ nb Ao39 t731.length co39 k_) (Kd.R_keptB ((Kd.R_apart' (Kd.R_apart' HO_719000.out (Kd.R_typed HO_744001.out) (by decide)) (Kd.R_typed HO_744004.out) (by decide))) hkp (fun k_ hk_ hs_ => Or.elim hs_ (fun e_ => (hk_.1.1.2) e_) (fun e_ => Or.elim e_ (fun e_ => (hk_.1.2) e_) (fun e_ => (hk_.2) e_)))) (fun k_ hk_ => ⟨hk_.1.1.1.1, hk_.1.1.1.2⟩)); have n1_ := m_ (Kd.R_mono (ok' := fun k_ => nb Ao27 t714.length co27 k_ ∧ nb Ao35 t759.length co35 k_ ∧ nb Ao36 t760.length co36 k_ ∧ nb Ao44 t734.length co44 k_ ∧ nb Ao45 t739.length co45 k_) (Kd.R_keptB ((Kd.R_apart' HO_719001.out (Kd.R_typed HO_744000.out) (by decide))) hkp (fun k_ hk_ hs_ => Or.elim hs_ (fun e_ => (hk_.2) e_) (fun e_ => Or.elim e_ (fun e_ => (hk_.1.2.2.2.1) e_) (fun e_ => (hk_.1.2.2.2.2) e_)))) (fun k_ hk_ => ⟨hk_.1.1.1, hk_.1.1.2.1, hk_.1.1.2.2.1, hk_.1.1.2.2.2.1, hk_.1.1.2.2.2.2⟩)); have n2_ := m_ (Kd.R_mono (ok' := fun k_ => nb Ao26 t709.length co26 k_ ∧ nb Ao35 t759.length co35 k_ ∧ nb Ao36 t760.length co36 k_ ∧ nb Ao44 t734.length co44 k_ ∧ nb Ao45 t739.length co45 k_) (Kd.R_keptB ((Kd.R_apart' HO_719004.out (Kd.R_typed HO_744000.out) (by decide))) hkp (fun k_ hk_ hs_ => Or.elim hs_ (fun e_ => (hk_.2) e_) (fun e_ => Or.elim e_ (fun e_ => (hk_.1.2.2.2.1) e_) (fun e_ => (hk_.1.2.2.2.2) e_)))) (fun k_ hk_ => ⟨hk_.1.1.1, hk_.1.1.2.1, hk_.1.1.2.2.1, hk_.1.1.2.2.2.1, hk_.1.1.2.2.2.2⟩)); have n3_ := m_ (Kd.R_mono (ok' := fun k_ => nb Ao23 t706.length co23 k_ ∧ nb Ao39 t731.length co39 k_) (Kd.R_keptB ((Kd.R_apart' (Kd.R_apart' HO_731000.out (Kd.R_typed HO_744001.out) (by decide)) (Kd.R_typed HO_744004.out) (by decide))) hkp (fun k_ hk_ hs_ => Or.elim hs_ (fun e_ => (hk_.1.1.2) e_) (fun e_ => Or.elim e_ (fun e_ => (hk_.1.2) e_) (fun e_ => (hk_.2) e_)))) (fun k_ hk_ => ⟨hk_.1.1.1.1, hk_.1.1.1.2⟩)); have n4_ := m_ (Kd.R_mono (ok' := fun k_ => nb Ao26 t709.length co26 k_ ∧ nb Ao27 t714.length co27 k_ ∧ nb Ao36 t760.length co36 k_ ∧ nb Ao44 t734.length co44 k_ ∧ nb Ao45 t739.length co45 k_) (Kd.R_keptB ((Kd.R_apart' HO_731001.out (Kd.R_typed HO_744000.out) (by decide))) hkp (fun k_ hk_ hs_ => Or.elim hs_ (fun e_ => (hk_.2) e_) (fun e_ => Or.elim e_ (fun e_ => (hk_.1.2.2.2.1) e_) (fun e_ => (hk_.1.2.2.2.2) e_)))) (fun k_ hk_ => ⟨hk_.1.1.1, hk_.1.1.2.1, hk_.1.1.2.2.1, hk_.1.1.2.2.2.1, hk_.1.1.2.2.2.2⟩)); have n5_ := m_ (Kd.R_mono (ok' := fun k_ => nb Ao26 t709.length co26 k_ ∧ nb Ao27 t714.length co27 k_ ∧ nb Ao35 t759.length co35 k_ ∧ nb Ao44 t734.length co44 k_ ∧ nb Ao45 t739.length co45 k_) (Kd.R_keptB ((Kd.R_apart' HO_731004.out (Kd.R_typed HO_744000.out) (by decide))) hkp (fun k_ hk_ hs_ => Or.elim hs_ (fun e_ => (hk_.2) e_) (fun e_ => Or.elim e_ (fun e_ => (hk_.1.2.2.2.1) e_) (fun e_ => (hk_.1.2.2.2.2) e_)))) (fun k_ hk_ => ⟨hk_.1.1.1, hk_.1.1.2.1, hk_.1.1.2.2.1, hk_.1.1.2.2.2.1, hk_.1.1.2.2.2.2⟩)); have n6_ := m_ (Kd.R_reok rfl hy0 (fun k_ e_ => HO_744000.out.1 k_ e_)); have n7_ := m_ (Kd.R_reok rfl hy1 (fun k_ e_ => HO_744001.out.1 k_ e_)); have n8_ := m_ (Kd.R_reok rfl hy2 (fun k_ e_ => HO_744004.out.1 k_ e_)); have n9_ := m_ (blk_kept (kN BK693.out) hkp (fun hs_ => Or.elim hs_ (fun e_ => (fun e_ => (Kd.R_ne HO_744000.out BK693.out (by decide)) e_) e_) (fun e_ => Or.elim e_ (fun e_ => (fun e_ => (Kd.R_ne HO_744001.out BK693.out (by decide)) e_) e_) (fun e_ => (fun e_ => (Kd.R_ne HO_744004.out BK693.out (by decide)) e_) e_)))); have n10_ := m_ (blk_kept (kN BK718.out) hkp (fun hs_ => Or.elim hs_ (fun e_ => (fun e_ => (Kd.R_ne HO_744000.out BK718.out (by decide)) e_) e_) (fun e_ => Or.elim e_ (fun e_ => (fun e_ => (Kd.R_ne HO_744001.out BK718.out (by decide)) e_) e_) (fun e_ => (fun e_ => (Kd.R_ne HO_744004.out BK718.out (by decide)) e_) e_)))); have n11_ := m_ (blk_kept (kN BK730.out) hkp (fun hs_ => Or.elim hs_ (fun e_ => (fun e_ => (Kd.R_ne HO_744000.out BK730.out (by decide)) e_) e_) (fun e_ => Or.elim e_ (fun e_ => (fun e_ => (Kd.R_ne HO_744001.out BK730.out (by decide)) e_) e_) (fun e_ => (fun e_ => (Kd.R_ne HO_744004.out BK730.out (by decide)) e_) e_)))); have n12_ := m_ (blk_kept (kN BK743.out) hkp (fun hs_ => Or.elim hs_ (fun e_ => (fun e_ => (Kd.R_ne HO_744000.out BK743.out (by decide)) e_) e_) (fun e_ => Or.elim e_ (fun e_ => (fun e_ => (Kd.R_ne HO_744001.out BK743.out (by decide)) e_) e_) (fun e_ => (fun e_ => (Kd.R_ne HO_744004.out BK743.out (by decide)) e_) e_)))); have n13_ := m_ (hb); clear HO_719000; clear HO_719001; clear HO_719004; clear HO_731000; clear HO_731001; clear HO_731004; clear HO_744000; clear HO_744001; clear HO_744004; clear BK693; clear BK718; clear BK730; clear BK743; clear HB; have HO_719000 := n0_; have HO_719001 := n1_; have HO_719004 := n2_; have HO_731000 := n3_; have HO_731001 := n4_; have HO_731004 := n5_; have HO_744000 := n6_; have HO_744001 := n7_; have HO_744004 := n8_; have BK693 := n9_; have BK718 := n10_; have BK730 := n11_; have BK743 := n12_; have HB := n13_; clear n0_ n1_ n2_ n3_ n4_ n5_ n6_ n7_ n8_ n9_ n10_ n11_ n12_ n13_; (try clear hb); (try clear hkp); (try clear hy0); (try clear hy1); (try clear hy2); have hcz109_0 : w108.cell? ⟨gb743, 0, none⟩ = some (.slice Ao39 t731.length co39) := (blk_cell BK743.out 0).trans rfl; have hcz109_1 : w108.cell? ⟨gb743, 1, none⟩ = some (.slice Ao44 t734.length co44) := (blk_cell BK743.out 1).trans rfl; have hcz109_2 : w108.cell? ⟨gb743, 2, none⟩ = some (.int .i64 t737) := (blk_cell BK743.out 2).trans rfl; have hcz109_3 : w108.cell? ⟨gb743, 3, none⟩ = some (.bool t738) := (blk_cell BK743.out 3).trans rfl; have hcz109_4 : w108.cell? ⟨gb743, 4, none⟩ = some (.slice Ao45 t739.length co45) := (blk_cell BK743.out 4).trans rfl; have hfz109_0 := blk_frozen BK743.out 0; have hfz109_1 := blk_frozen BK743.out 1; have hfz109_2 := blk_frozen BK743.out 2; have hfz109_3 := blk_frozen BK743.out 3; have hfz109_4 := blk_frozen BK743.out 4) | ((with_reducible refine gate_callee (f := 25) rfl ?_); refine goesL_ (some 71) rfl rfl Try.func25 (by kernel_rfl) rfl #[.agg #[.slice Ao39 t763.length co39, .slice Ao44 t764.length co44, .int .i64 t737, .bool t738, .slice Ao45 t765.length co45], .int .i64 1] rfl (by (try simp only [List.map_toArray, List.map_cons, List.map_nil]); first | done | (rw [show t763.length = t731.length from (Kd.R_reads' HO_744000.out).1.symm, show t764.length = t734.length from (Kd.R_reads' HO_744001.out).1.symm, show t765.length = t739.length from (Kd.R_reads' HO_744004.out).1.symm] <;> rfl) | rfl | (simp only [List.length_drop, List.length_take]; rfl)) ?_; (with_reducible refine (laws_heldPart.calls kj68 _ _ t763 _ _ t764 t737 t738 _ _ t765 1 t766 _ ?side1 ?side2 ?side3 ?side4 ?side5 ?side6 A102.out).mono ?_); (case side1 => exact cN (Kd.R_reads' HO_744000.out).2.2); (case side2 => rw [show t763.length = t731.length from (Kd.R_reads' HO_744000.out).1.symm]; exact (Kd.R_reads' HO_744000.out).2.1); (case side3 => exact cN (Kd.R_reads' HO_744001.out).2.2); (case side4 => rw [show t764.length = t734.length from (Kd.R_reads' HO_744001.out).1.symm]; exact (Kd.R_reads' HO_744001.out).2.1); (case side5 => exact cN (Kd.R_reads' HO_744004.out).2.2); (case side6 => rw [show t765.length = t739.length from (Kd.R_reads' HO_744004.out).1.symm]; exact (Kd.R_reads' HO_744004.out).2.1); rintro e w110 ⟨rfl, hb⟩; refine ⟨_, rfl, ?_⟩; have n0_ := m_ (Kd.R_below (rN HO_719000.out) hb); have n1_ := m_ (Kd.R_below (rN HO_719001.out) hb); have n2_ := m_ (Kd.R_below (rN HO_719004.out) hb); have n3_ := m_ (Kd.R_below (rN HO_731000.out) hb); have n4_ := m_ (Kd.R_below (rN HO_731001.out) hb); have n5_ := m_ (Kd.R_below (rN HO_731004.out) hb); have n6_ := m_ (Kd.R_below (rN HO_744000.out) hb); have n7_ := m_ (Kd.R_below (rN HO_744001.out) hb); have n8_ := m_ (Kd.R_below (rN HO_744004.out) hb); have n9_ := m_ (blk_below (kN BK693.out) hb); have n10_ := m_ (blk_below (kN BK718.out) hb); have n11_ := m_ (blk_below (kN BK730.out) hb); have n12_ := m_ (blk_below (kN BK743.out) hb); have n13_ := m_ (below_step (bN HB.out) hb); clear HO_719000; clear HO_719001; clear HO_719004; clear HO_731000; clear HO_731001; clear HO_731004; clear HO_744000; clear HO_744001; clear HO_744004; clear BK693; clear BK718; clear BK730; clear BK743; clear HB; have HO_719000 := n0_; have HO_719001 := n1_; have HO_719004 := n2_; have HO_731000 := n3_; have HO_731001 := n4_; have HO_731004 := n5_; have HO_744000 := n6_; have HO_744001 := n7_; have HO_744004 := n8_; have BK693 := n9_; have BK718 := n10_; have BK730 := n11_; have BK743 := n12_; have HB := n13_; clear n0_ n1_ n2_ n3_ n4_ n5_ n6_ n7_ n8_ n9_ n10_ n11_ n12_ n13_; (try clear hb); (try clear hb2); (try clear hk); (try clear hi)))
          go_ret
          exact ⟨by first | rfl | (simp [errW_none, errW_some] <;> rfl) | (simp [*, errW_none, errW_some] <;> rfl), by repeat (first | (with_reducible first | exact HB.out | apply below_alloc | apply pw_below_drewN | apply below_drew1 | refine below_set ?_ GE693.out | refine below_set ?_ GE718.out | refine below_set ?_ GE730.out | refine below_set ?_ GE743.out) | exact HB.out)⟩
         ·rw [if_neg c103] at H
          have c103b0 : decide (t766 < 0) = false := decide_eq_false c103
          clear c103
          by_cases c111 : t766 = t762
          ·rw [if_pos c111] at H
           have c111b0 : (t766 == t762) = true := beq_iff_eq.mpr c111
           have c111b1 : (t766 != t762) = false := bne_eq_false_iff_eq.mpr c111
           clear c111
           replace H := Option.bind_eq_some_iff.mp H
           obtain ⟨⟨t767, t770, t773, t774, t775⟩, A1120, H⟩ := H
           replace H : ((impl_PartSend.f kj68 t767 t770 t773 t774 t775 a1).bind fun bt778 => ((laws_eqPart.f kj68 bt778.1 bt778.2.1 bt778.2.2.1 bt778.2.2.2.1 bt778.2.2.2.2.1 t706 t709 t712 t713 t714).bind fun t791 => (if t791 = true then (laws_FnExactPartSend.j2 kj68 t762 (bt778.2.2.2.2.2 != t717) t763 t764 t737 t738 t765) else (laws_FnExactPartSend.j2 kj68 t762 true t763 t764 t737 t738 t765)))) = some r := H
           have A112 := Aside0.mk A1120
           clear A1120
           replace H := Option.bind_eq_some_iff.mp H
           obtain ⟨⟨t778, t781, t784, t785, t786, t789⟩, A1130, H⟩ := H
           replace H : ((laws_eqPart.f kj68 t778 t781 t784 t785 t786 t706 t709 t712 t713 t714).bind fun t791 => (if t791 = true then (laws_FnExactPartSend.j2 kj68 t762 (t789 != t717) t763 t764 t737 t738 t765) else (laws_FnExactPartSend.j2 kj68 t762 true t763 t764 t737 t738 t765))) = some r := H
           have A113 := Aside0.mk A1130
           clear A1130
           have HC114 := Aside0.mk H
           clear H
           have hnb115 := NB743_693.out
           have hnc115 := NB693_743.out
           have hnb116 := NB743_718.out
           have hnc116 := NB718_743.out
           have hnb117 := NB743_730.out
           have hnc117 := NB730_743.out
           have hcz118_0 : wc.cell? ⟨gb743, 0, none⟩ = some (.slice Ao39 t731.length co39) := (blk_cell BK743.out 0).trans rfl
           have hcz118_1 : wc.cell? ⟨gb743, 1, none⟩ = some (.slice Ao44 t734.length co44) := (blk_cell BK743.out 1).trans rfl
           have hcz118_2 : wc.cell? ⟨gb743, 2, none⟩ = some (.int .i64 t737) := (blk_cell BK743.out 2).trans rfl
           have hcz118_3 : wc.cell? ⟨gb743, 3, none⟩ = some (.bool t738) := (blk_cell BK743.out 3).trans rfl
           have hcz118_4 : wc.cell? ⟨gb743, 4, none⟩ = some (.slice Ao45 t739.length co45) := (blk_cell BK743.out 4).trans rfl
           have hfz118_0 := blk_frozen BK743.out 0
           have hfz118_1 := blk_frozen BK743.out 1
           have hfz118_2 := blk_frozen BK743.out 2
           have hfz118_3 := blk_frozen BK743.out 3
           have hfz118_4 := blk_frozen BK743.out 4
           go_upto_region 25 with (first | ((with_reducible refine gate_callee (f := 24) rfl ?_); refine goesL_ (some 68) rfl rfl Try.func24 (by kernel_rfl) rfl #[.agg #[.slice Ao39 t731.length co39, .slice Ao44 t734.length co44, .int .i64 t737, .bool t738, .slice Ao45 t739.length co45], .int .i64 1] rfl gl_ ?_; (with_reducible refine (laws_markPart.calls kj68 (fun k_ => some k_ = (.slice Ao39 t731.length co39 : Value).ownBlock) (.slice Ao39 t731.length co39) t731 (fun k_ => some k_ = (.slice Ao44 t734.length co44 : Value).ownBlock) (.slice Ao44 t734.length co44) t734 t737 t738 (fun k_ => some k_ = (.slice Ao45 t739.length co45 : Value).ownBlock) (.slice Ao45 t739.length co45) t739 1 t762 t763 t764 t765 w _ ?side1 ?side2 ?side3 ?side4 ?side5 ?side6 A101.out).mono ?_); (case side1 => repeat (first | (with_reducible first | exact HB.out | apply below_alloc | apply pw_below_drewN | apply below_drew1 | refine below_set ?_ GE693.out | refine below_set ?_ GE718.out | refine below_set ?_ GE730.out | refine below_set ?_ GE743.out) | exact HB.out)); (case side2 => exact Kd.R_tight rfl HO_744000.out); (case side3 => exact Kd.R_tight rfl HO_744001.out); (case side4 => exact fun k_ e_ => (HO_744001.out.1 k_ e_.symm).2.2.2.2); (case side5 => exact Kd.R_tight rfl HO_744004.out); (case side6 => exact fun k_ e_ => (HO_744004.out.1 k_ e_.symm).2.2.2.2); rintro e w119 ⟨rfl, hy0, hy1, hy2, hb, hkp⟩; refine ⟨_, rfl, ?_⟩; have n0_ := m_ (Kd.R_mono (ok' := fun k_ => nb Ao31 t758.length co31 k_ ∧ nb Ao39 t731.length co39 k_) (Kd.R_keptB ((Kd.R_apart' (Kd.R_apart' HO_719000.out (Kd.R_typed HO_744001.out) (by decide)) (Kd.R_typed HO_744004.out) (by decide))) hkp (fun k_ hk_ hs_ => Or.elim hs_ (fun e_ => (hk_.1.1.2) e_) (fun e_ => Or.elim e_ (fun e_ => (hk_.1.2) e_) (fun e_ => (hk_.2) e_)))) (fun k_ hk_ => ⟨hk_.1.1.1.1, hk_.1.1.1.2⟩)); have n1_ := m_ (Kd.R_mono (ok' := fun k_ => nb Ao27 t714.length co27 k_ ∧ nb Ao35 t759.length co35 k_ ∧ nb Ao36 t760.length co36 k_ ∧ nb Ao44 t734.length co44 k_ ∧ nb Ao45 t739.length co45 k_) (Kd.R_keptB ((Kd.R_apart' HO_719001.out (Kd.R_typed HO_744000.out) (by decide))) hkp (fun k_ hk_ hs_ => Or.elim hs_ (fun e_ => (hk_.2) e_) (fun e_ => Or.elim e_ (fun e_ => (hk_.1.2.2.2.1) e_) (fun e_ => (hk_.1.2.2.2.2) e_)))) (fun k_ hk_ => ⟨hk_.1.1.1, hk_.1.1.2.1, hk_.1.1.2.2.1, hk_.1.1.2.2.2.1, hk_.1.1.2.2.2.2⟩)); have n2_ := m_ (Kd.R_mono (ok' := fun k_ => nb Ao26 t709.length co26 k_ ∧ nb Ao35 t759.length co35 k_ ∧ nb Ao36 t760.length co36 k_ ∧ nb Ao44 t734.length co44 k_ ∧ nb Ao45 t739.length co45 k_) (Kd.R_keptB ((Kd.R_apart' HO_719004.out (Kd.R_typed HO_744000.out) (by decide))) hkp (fun k_ hk_ hs_ => Or.elim hs_ (fun e_ => (hk_.2) e_) (fun e_ => Or.elim e_ (fun e_ => (hk_.1.2.2.2.1) e_) (fun e_ => (hk_.1.2.2.2.2) e_)))) (fun k_ hk_ => ⟨hk_.1.1.1, hk_.1.1.2.1, hk_.1.1.2.2.1, hk_.1.1.2.2.2.1, hk_.1.1.2.2.2.2⟩)); have n3_ := m_ (Kd.R_mono (ok' := fun k_ => nb Ao23 t706.length co23 k_ ∧ nb Ao39 t731.length co39 k_) (Kd.R_keptB ((Kd.R_apart' (Kd.R_apart' HO_731000.out (Kd.R_typed HO_744001.out) (by decide)) (Kd.R_typed HO_744004.out) (by decide))) hkp (fun k_ hk_ hs_ => Or.elim hs_ (fun e_ => (hk_.1.1.2) e_) (fun e_ => Or.elim e_ (fun e_ => (hk_.1.2) e_) (fun e_ => (hk_.2) e_)))) (fun k_ hk_ => ⟨hk_.1.1.1.1, hk_.1.1.1.2⟩)); have n4_ := m_ (Kd.R_mono (ok' := fun k_ => nb Ao26 t709.length co26 k_ ∧ nb Ao27 t714.length co27 k_ ∧ nb Ao36 t760.length co36 k_ ∧ nb Ao44 t734.length co44 k_ ∧ nb Ao45 t739.length co45 k_) (Kd.R_keptB ((Kd.R_apart' HO_731001.out (Kd.R_typed HO_744000.out) (by decide))) hkp (fun k_ hk_ hs_ => Or.elim hs_ (fun e_ => (hk_.2) e_) (fun e_ => Or.elim e_ (fun e_ => (hk_.1.2.2.2.1) e_) (fun e_ => (hk_.1.2.2.2.2) e_)))) (fun k_ hk_ => ⟨hk_.1.1.1, hk_.1.1.2.1, hk_.1.1.2.2.1, hk_.1.1.2.2.2.1, hk_.1.1.2.2.2.2⟩)); have n5_ := m_ (Kd.R_mono (ok' := fun k_ => nb Ao26 t709.length co26 k_ ∧ nb Ao27 t714.length co27 k_ ∧ nb Ao35 t759.length co35 k_ ∧ nb Ao44 t734.length co44 k_ ∧ nb Ao45 t739.length co45 k_) (Kd.R_keptB ((Kd.R_apart' HO_731004.out (Kd.R_typed HO_744000.out) (by decide))) hkp (fun k_ hk_ hs_ => Or.elim hs_ (fun e_ => (hk_.2) e_) (fun e_ => Or.elim e_ (fun e_ => (hk_.1.2.2.2.1) e_) (fun e_ => (hk_.1.2.2.2.2) e_)))) (fun k_ hk_ => ⟨hk_.1.1.1, hk_.1.1.2.1, hk_.1.1.2.2.1, hk_.1.1.2.2.2.1, hk_.1.1.2.2.2.2⟩)); have n6_ := m_ (Kd.R_reok rfl hy0 (fun k_ e_ => HO_744000.out.1 k_ e_)); have n7_ := m_ (Kd.R_reok rfl hy1 (fun k_ e_ => HO_744001.out.1 k_ e_)); have n8_ := m_ (Kd.R_reok rfl hy2 (fun k_ e_ => HO_744004.out.1 k_ e_)); have n9_ := m_ (blk_kept (kN BK693.out) hkp (fun hs_ => Or.elim hs_ (fun e_ => (fun e_ => (Kd.R_ne HO_744000.out BK693.out (by decide)) e_) e_) (fun e_ => Or.elim e_ (fun e_ => (fun e_ => (Kd.R_ne HO_744001.out BK693.out (by decide)) e_) e_) (fun e_ => (fun e_ => (Kd.R_ne HO_744004.out BK693.out (by decide)) e_) e_)))); have n10_ := m_ (blk_kept (kN BK718.out) hkp (fun hs_ => Or.elim hs_ (fun e_ => (fun e_ => (Kd.R_ne HO_744000.out BK718.out (by decide)) e_) e_) (fun e_ => Or.elim e_ (fun e_ => (fun e_ => (Kd.R_ne HO_744001.out BK718.out (by decide)) e_) e_) (fun e_ => (fun e_ => (Kd.R_ne HO_744004.out BK718.out (by decide)) e_) e_)))); have n11_ := m_ (blk_kept (kN BK730.out) hkp (fun hs_ => Or.elim hs_ (fun e_ => (fun e_ => (Kd.R_ne HO_744000.out BK730.out (by decide)) e_) e_) (fun e_ => Or.elim e_ (fun e_ => (fun e_ => (Kd.R_ne HO_744001.out BK730.out (by decide)) e_) e_) (fun e_ => (fun e_ => (Kd.R_ne HO_744004.out BK730.out (by decide)) e_) e_)))); have n12_ := m_ (blk_kept (kN BK743.out) hkp (fun hs_ => Or.elim hs_ (fun e_ => (fun e_ => (Kd.R_ne HO_744000.out BK743.out (by decide)) e_) e_) (fun e_ => Or.elim e_ (fun e_ => (fun e_ => (Kd.R_ne HO_744001.out BK743.out (by decide)) e_) e_) (fun e_ => (fun e_ => (Kd.R_ne HO_744004.out BK743.out (by decide)) e_) e_)))); have n13_ := m_ (hb); clear HO_719000; clear HO_719001; clear HO_719004; clear HO_731000; clear HO_731001; clear HO_731004; clear HO_744000; clear HO_744001; clear HO_744004; clear BK693; clear BK718; clear BK730; clear BK743; clear HB; have HO_719000 := n0_; have HO_719001 := n1_; have HO_719004 := n2_; have HO_731000 := n3_; have HO_731001 := n4_; have HO_731004 := n5_; have HO_744000 := n6_; have HO_744001 := n7_; have HO_744004 := n8_; have BK693 := n9_; have BK718 := n10_; have BK730 := n11_; have BK743 := n12_; have HB := n13_; clear n0_ n1_ n2_ n3_ n4_ n5_ n6_ n7_ n8_ n9_ n10_ n11_ n12_ n13_; (try clear hb); (try clear hkp); (try clear hy0); (try clear hy1); (try clear hy2); have hcz120_0 : w119.cell? ⟨gb743, 0, none⟩ = some (.slice Ao39 t731.length co39) := (blk_cell BK743.out 0).trans rfl; have hcz120_1 : w119.cell? ⟨gb743, 1, none⟩ = some (.slice Ao44 t734.length co44) := (blk_cell BK743.out 1).trans rfl; have hcz120_2 : w119.cell? ⟨gb743, 2, none⟩ = some (.int .i64 t737) := (blk_cell BK743.out 2).trans rfl; have hcz120_3 : w119.cell? ⟨gb743, 3, none⟩ = some (.bool t738) := (blk_cell BK743.out 3).trans rfl; have hcz120_4 : w119.cell? ⟨gb743, 4, none⟩ = some (.slice Ao45 t739.length co45) := (blk_cell BK743.out 4).trans rfl; have hfz120_0 := blk_frozen BK743.out 0; have hfz120_1 := blk_frozen BK743.out 1; have hfz120_2 := blk_frozen BK743.out 2; have hfz120_3 := blk_frozen BK743.out 3; have hfz120_4 := blk_frozen BK743.out 4) | ((with_reducible refine gate_callee (f := 25) rfl ?_); refine goesL_ (some 71) rfl rfl Try.func25 (by kernel_rfl) rfl #[.agg #[.slice Ao39 t763.length co39, .slice Ao44 t764.length co44, .int .i64 t737, .bool t738, .slice Ao45 t765.length co45], .int .i64 1] rfl (by (try simp only [List.map_toArray, List.map_cons, List.map_nil]); first | done | (rw [show t763.length = t731.length from (Kd.R_reads' HO_744000.out).1.symm, show t764.length = t734.length from (Kd.R_reads' HO_744001.out).1.symm, show t765.length = t739.length from (Kd.R_reads' HO_744004.out).1.symm] <;> rfl) | rfl | (simp only [List.length_drop, List.length_take]; rfl)) ?_; (with_reducible refine (laws_heldPart.calls kj68 _ _ t763 _ _ t764 t737 t738 _ _ t765 1 t766 _ ?side1 ?side2 ?side3 ?side4 ?side5 ?side6 A102.out).mono ?_); (case side1 => exact cN (Kd.R_reads' HO_744000.out).2.2); (case side2 => rw [show t763.length = t731.length from (Kd.R_reads' HO_744000.out).1.symm]; exact (Kd.R_reads' HO_744000.out).2.1); (case side3 => exact cN (Kd.R_reads' HO_744001.out).2.2); (case side4 => rw [show t764.length = t734.length from (Kd.R_reads' HO_744001.out).1.symm]; exact (Kd.R_reads' HO_744001.out).2.1); (case side5 => exact cN (Kd.R_reads' HO_744004.out).2.2); (case side6 => rw [show t765.length = t739.length from (Kd.R_reads' HO_744004.out).1.symm]; exact (Kd.R_reads' HO_744004.out).2.1); rintro e w121 ⟨rfl, hb⟩; refine ⟨_, rfl, ?_⟩; have n0_ := m_ (Kd.R_below (rN HO_719000.out) hb); have n1_ := m_ (Kd.R_below (rN HO_719001.out) hb); have n2_ := m_ (Kd.R_below (rN HO_719004.out) hb); have n3_ := m_ (Kd.R_below (rN HO_731000.out) hb); have n4_ := m_ (Kd.R_below (rN HO_731001.out) hb); have n5_ := m_ (Kd.R_below (rN HO_731004.out) hb); have n6_ := m_ (Kd.R_below (rN HO_744000.out) hb); have n7_ := m_ (Kd.R_below (rN HO_744001.out) hb); have n8_ := m_ (Kd.R_below (rN HO_744004.out) hb); have n9_ := m_ (blk_below (kN BK693.out) hb); have n10_ := m_ (blk_below (kN BK718.out) hb); have n11_ := m_ (blk_below (kN BK730.out) hb); have n12_ := m_ (blk_below (kN BK743.out) hb); have n13_ := m_ (below_step (bN HB.out) hb); clear HO_719000; clear HO_719001; clear HO_719004; clear HO_731000; clear HO_731001; clear HO_731004; clear HO_744000; clear HO_744001; clear HO_744004; clear BK693; clear BK718; clear BK730; clear BK743; clear HB; have HO_719000 := n0_; have HO_719001 := n1_; have HO_719004 := n2_; have HO_731000 := n3_; have HO_731001 := n4_; have HO_731004 := n5_; have HO_744000 := n6_; have HO_744001 := n7_; have HO_744004 := n8_; have BK693 := n9_; have BK718 := n10_; have BK730 := n11_; have BK743 := n12_; have HB := n13_; clear n0_ n1_ n2_ n3_ n4_ n5_ n6_ n7_ n8_ n9_ n10_ n11_ n12_ n13_; (try clear hb); (try clear hb2); (try clear hk); (try clear hi); have hnb122 := NB693_718.out; have hnc122 := NB718_693.out; have hnb123 := NB693_730.out; have hnc123 := NB730_693.out; have hcz124_0 : w121.cell? ⟨gb693, 0, none⟩ = some (.slice A0_0 l0_0.length c0_0) := (blk_cell BK693.out 0).trans rfl; have hcz124_1 : w121.cell? ⟨gb693, 1, none⟩ = some (.slice A0_1 l0_1.length c0_1) := (blk_cell BK693.out 1).trans rfl; have hcz124_2 : w121.cell? ⟨gb693, 2, none⟩ = some (.int .i64 a0_2) := (blk_cell BK693.out 2).trans rfl; have hcz124_3 : w121.cell? ⟨gb693, 3, none⟩ = some (.bool a0_3) := (blk_cell BK693.out 3).trans rfl; have hcz124_4 : w121.cell? ⟨gb693, 4, none⟩ = some (.slice A0_4 l0_4.length c0_4) := (blk_cell BK693.out 4).trans rfl; have hfz124_0 := blk_frozen BK693.out 0; have hfz124_1 := blk_frozen BK693.out 1; have hfz124_2 := blk_frozen BK693.out 2; have hfz124_3 := blk_frozen BK693.out 3; have hfz124_4 := blk_frozen BK693.out 4) | ((with_reducible refine gate_callee (f := 21) rfl ?_); refine goesL_ (some 79) rfl rfl Try.func21 (by kernel_rfl) rfl #[.agg #[.slice A0_0 l0_0.length c0_0, .slice A0_1 l0_1.length c0_1, .int .i64 a0_2, .bool a0_3, .slice A0_4 l0_4.length c0_4]] rfl gl_ ?_; (with_reducible refine (laws_toPart.calls kj68 _ _ l0_0 _ _ l0_1 a0_2 a0_3 _ _ l0_4 t767 t770 t773 t774 t775 _ ?side1 ?side2 ?side3 ?side4 ?side5 ?side6 A112.out).mono ?_); (case side1 => exact cN (Kd.C_below HR0_0.out HB.out)); (case side2 => exact HC0_0.out); (case side3 => exact cN (Kd.C_below HR0_1.out HB.out)); (case side4 => exact HC0_1.out); (case side5 => exact cN (Kd.C_below HR0_4.out HB.out)); (case side6 => exact HC0_4.out); rintro e w125 ⟨v768, v771, v776, rfl, ho0, ho1, ho2, hb⟩; refine ⟨_, rfl, ?_⟩; have n0_ := m_ (Kd.R_elder' (rN HO_719000.out) (Kd.R_base ho0) hb); have n1_ := m_ (Kd.R_mono (Kd.R_told (Kd.R_told (Kd.R_old (rN HO_719001.out) hb) (Kd.R_base ho1)) (Kd.R_base ho2)) (fun _ h_ => h_.1)); have n2_ := m_ (Kd.R_mono (Kd.R_told (Kd.R_told (Kd.R_old (rN HO_719004.out) hb) (Kd.R_base ho1)) (Kd.R_base ho2)) (fun _ h_ => h_.1)); have n3_ := m_ (Kd.R_elder' (rN HO_731000.out) (Kd.R_base ho0) hb); have n4_ := m_ (Kd.R_mono (Kd.R_told (Kd.R_told (Kd.R_old (rN HO_731001.out) hb) (Kd.R_base ho1)) (Kd.R_base ho2)) (fun _ h_ => h_.1)); have n5_ := m_ (Kd.R_mono (Kd.R_told (Kd.R_told (Kd.R_old (rN HO_731004.out) hb) (Kd.R_base ho1)) (Kd.R_base ho2)) (fun _ h_ => h_.1)); have n6_ := m_ (Kd.R_elder' (rN HO_744000.out) (Kd.R_base ho0) hb); have n7_ := m_ (Kd.R_mono (Kd.R_told (Kd.R_told (Kd.R_old (rN HO_744001.out) hb) (Kd.R_base ho1)) (Kd.R_base ho2)) (fun _ h_ => h_.1)); have n8_ := m_ (Kd.R_mono (Kd.R_told (Kd.R_told (Kd.R_old (rN HO_744004.out) hb) (Kd.R_base ho1)) (Kd.R_base ho2)) (fun _ h_ => h_.1)); have n9_ := m_ (Kd.R_lower (Kd.R_new' (Kd.R_new' (Kd.R_new' ho0 (Kd.R_lt (rN HO_719000.out))) (Kd.R_lt (rN HO_731000.out))) (Kd.R_lt (rN HO_744000.out))) (below_size (bN HB.out))); have n10_ := m_ (Kd.R_lower (Kd.R_new' (Kd.R_new' (Kd.R_new' (Kd.R_new' (Kd.R_new' (Kd.R_new' ho1 (Kd.R_lt (rN HO_719001.out))) (Kd.R_lt (rN HO_719004.out))) (Kd.R_lt (rN HO_731001.out))) (Kd.R_lt (rN HO_731004.out))) (Kd.R_lt (rN HO_744001.out))) (Kd.R_lt (rN HO_744004.out))) (below_size (bN HB.out))); have n11_ := m_ (Kd.R_lower (Kd.R_new' (Kd.R_new' (Kd.R_new' (Kd.R_new' (Kd.R_new' (Kd.R_new' ho2 (Kd.R_lt (rN HO_719001.out))) (Kd.R_lt (rN HO_719004.out))) (Kd.R_lt (rN HO_731001.out))) (Kd.R_lt (rN HO_731004.out))) (Kd.R_lt (rN HO_744001.out))) (Kd.R_lt (rN HO_744004.out))) (below_size (bN HB.out))); have n12_ := m_ (blk_below (kN BK693.out) hb); have n13_ := m_ (blk_below (kN BK718.out) hb); have n14_ := m_ (blk_below (kN BK730.out) hb); have n15_ := m_ (blk_below (kN BK743.out) hb); have n16_ := m_ (below_step (bN HB.out) hb); clear HO_719000; clear HO_719001; clear HO_719004; clear HO_731000; clear HO_731001; clear HO_731004; clear HO_744000; clear HO_744001; clear HO_744004; clear BK693; clear BK718; clear BK730; clear BK743; clear HB; have HO_719000 := n0_; have HO_719001 := n1_; have HO_719004 := n2_; have HO_731000 := n3_; have HO_731001 := n4_; have HO_731004 := n5_; have HO_744000 := n6_; have HO_744001 := n7_; have HO_744004 := n8_; have HO769 := n9_; have HO772 := n10_; have HO777 := n11_; have BK693 := n12_; have BK718 := n13_; have BK730 := n14_; have BK743 := n15_; have HB := n16_; clear n0_ n1_ n2_ n3_ n4_ n5_ n6_ n7_ n8_ n9_ n10_ n11_ n12_ n13_ n14_ n15_ n16_; (try clear hb); (try clear hb2); (try clear hk); (try clear hi); (try clear ho0); (try clear ho1); (try clear ho2); obtain ⟨Ao126, co126, eo126⟩ := Kd.R_slice HO769.out; subst eo126; obtain ⟨Ao127, co127, eo127⟩ := Kd.R_slice HO772.out; subst eo127; obtain ⟨Ao128, co128, eo128⟩ := Kd.R_slice HO777.out; subst eo128) | ((with_reducible refine gate_callee (f := 27) rfl ?_); refine goesL_ (some 81) rfl rfl Try.func27 (by kernel_rfl) rfl #[.agg #[.slice Ao126 t767.length co126, .slice Ao127 t770.length co127, .int .i64 t773, .bool t774, .slice Ao128 t775.length co128], .int .i64 a1] rfl gl_ ?_; (with_reducible refine (impl_PartSend.calls kj68 _ _ t767 _ _ t770 t773 t774 _ _ t775 a1 t778 t781 t784 t785 t786 t789 _ ?side1 ?side2 ?side3 ?side4 ?side5 ?side6 A113.out).mono ?_); (case side1 => exact cN (Kd.R_reads' HO769.out).2.2); (case side2 => exact (Kd.R_reads' HO769.out).2.1); (case side3 => exact cN (Kd.R_reads' HO772.out).2.2); (case side4 => exact (Kd.R_reads' HO772.out).2.1); (case side5 => exact cN (Kd.R_reads' HO777.out).2.2); (case side6 => exact (Kd.R_reads' HO777.out).2.1); rintro e w129 ⟨v779, v782, v787, rfl, ho0, ho1, ho2, hb⟩; refine ⟨_, rfl, ?_⟩; have n0_ := m_ (Kd.R_elder' (rN HO_719000.out) (Kd.R_base ho0) hb); have n1_ := m_ (Kd.R_mono (Kd.R_told (Kd.R_told (Kd.R_old (rN HO_719001.out) hb) (Kd.R_base ho1)) (Kd.R_base ho2)) (fun _ h_ => h_.1)); have n2_ := m_ (Kd.R_mono (Kd.R_told (Kd.R_told (Kd.R_old (rN HO_719004.out) hb) (Kd.R_base ho1)) (Kd.R_base ho2)) (fun _ h_ => h_.1)); have n3_ := m_ (Kd.R_elder' (rN HO_731000.out) (Kd.R_base ho0) hb); have n4_ := m_ (Kd.R_mono (Kd.R_told (Kd.R_told (Kd.R_old (rN HO_731001.out) hb) (Kd.R_base ho1)) (Kd.R_base ho2)) (fun _ h_ => h_.1)); have n5_ := m_ (Kd.R_mono (Kd.R_told (Kd.R_told (Kd.R_old (rN HO_731004.out) hb) (Kd.R_base ho1)) (Kd.R_base ho2)) (fun _ h_ => h_.1)); have n6_ := m_ (Kd.R_elder' (rN HO_744000.out) (Kd.R_base ho0) hb); have n7_ := m_ (Kd.R_mono (Kd.R_told (Kd.R_told (Kd.R_old (rN HO_744001.out) hb) (Kd.R_base ho1)) (Kd.R_base ho2)) (fun _ h_ => h_.1)); have n8_ := m_ (Kd.R_mono (Kd.R_told (Kd.R_told (Kd.R_old (rN HO_744004.out) hb) (Kd.R_base ho1)) (Kd.R_base ho2)) (fun _ h_ => h_.1)); have n9_ := m_ (Kd.R_elder' (rN HO769.out) (Kd.R_base ho0) hb); have n10_ := m_ (Kd.R_mono (Kd.R_told (Kd.R_told (Kd.R_old (rN HO772.out) hb) (Kd.R_base ho1)) (Kd.R_base ho2)) (fun _ h_ => h_.1)); have n11_ := m_ (Kd.R_mono (Kd.R_told (Kd.R_told (Kd.R_old (rN HO777.out) hb) (Kd.R_base ho1)) (Kd.R_base ho2)) (fun _ h_ => h_.1)); have n12_ := m_ (Kd.R_lower (Kd.R_new' (Kd.R_new' (Kd.R_new' (Kd.R_new' ho0 (Kd.R_lt (rN HO_719000.out))) (Kd.R_lt (rN HO_731000.out))) (Kd.R_lt (rN HO_744000.out))) (Kd.R_lt (rN HO769.out))) (below_size (bN HB.out))); have n13_ := m_ (Kd.R_lower (Kd.R_new' (Kd.R_new' (Kd.R_new' (Kd.R_new' (Kd.R_new' (Kd.R_new' (Kd.R_new' (Kd.R_new' ho1 (Kd.R_lt (rN HO_719001.out))) (Kd.R_lt (rN HO_719004.out))) (Kd.R_lt (rN HO_731001.out))) (Kd.R_lt (rN HO_731004.out))) (Kd.R_lt (rN HO_744001.out))) (Kd.R_lt (rN HO_744004.out))) (Kd.R_lt (rN HO772.out))) (Kd.R_lt (rN HO777.out))) (below_size (bN HB.out))); have n14_ := m_ (Kd.R_lower (Kd.R_new' (Kd.R_new' (Kd.R_new' (Kd.R_new' (Kd.R_new' (Kd.R_new' (Kd.R_new' (Kd.R_new' ho2 (Kd.R_lt (rN HO_719001.out))) (Kd.R_lt (rN HO_719004.out))) (Kd.R_lt (rN HO_731001.out))) (Kd.R_lt (rN HO_731004.out))) (Kd.R_lt (rN HO_744001.out))) (Kd.R_lt (rN HO_744004.out))) (Kd.R_lt (rN HO772.out))) (Kd.R_lt (rN HO777.out))) (below_size (bN HB.out))); have n15_ := m_ (blk_below (kN BK693.out) hb); have n16_ := m_ (blk_below (kN BK718.out) hb); have n17_ := m_ (blk_below (kN BK730.out) hb); have n18_ := m_ (blk_below (kN BK743.out) hb); have n19_ := m_ (below_step (bN HB.out) hb); clear HO_719000; clear HO_719001; clear HO_719004; clear HO_731000; clear HO_731001; clear HO_731004; clear HO_744000; clear HO_744001; clear HO_744004; clear HO769; clear HO772; clear HO777; clear BK693; clear BK718; clear BK730; clear BK743; clear HB; have HO_719000 := n0_; have HO_719001 := n1_; have HO_719004 := n2_; have HO_731000 := n3_; have HO_731001 := n4_; have HO_731004 := n5_; have HO_744000 := n6_; have HO_744001 := n7_; have HO_744004 := n8_; have HO769 := n9_; have HO772 := n10_; have HO777 := n11_; have HO780 := n12_; have HO783 := n13_; have HO788 := n14_; have BK693 := n15_; have BK718 := n16_; have BK730 := n17_; have BK743 := n18_; have HB := n19_; clear n0_ n1_ n2_ n3_ n4_ n5_ n6_ n7_ n8_ n9_ n10_ n11_ n12_ n13_ n14_ n15_ n16_ n17_ n18_ n19_; (try clear hb); (try clear hb2); (try clear hk); (try clear hi); (try clear ho0); (try clear ho1); (try clear ho2)) | ((with_reducible refine gate_dst (N := 14) rfl ?_); refine box_event ?hg (N := 14) ?hd (cs := #[.slice none 0 0, .slice none 0 0, .int .i64 0, .bool false, .slice none 0 0]) (t := 33) ?hr ?_; (case hd => rfl); (case hg => rfl); (case hr => first | (go_simp; done) | (go_simp; rfl)); intro gb790 hg w130 hbox hb; have n0_ := m_ (Kd.R_below (rN HO_719000.out) hb); have n1_ := m_ (Kd.R_below (rN HO_719001.out) hb); have n2_ := m_ (Kd.R_below (rN HO_719004.out) hb); have n3_ := m_ (Kd.R_below (rN HO_731000.out) hb); have n4_ := m_ (Kd.R_below (rN HO_731001.out) hb); have n5_ := m_ (Kd.R_below (rN HO_731004.out) hb); have n6_ := m_ (Kd.R_below (rN HO_744000.out) hb); have n7_ := m_ (Kd.R_below (rN HO_744001.out) hb); have n8_ := m_ (Kd.R_below (rN HO_744004.out) hb); have n9_ := m_ (Kd.R_below (rN HO769.out) hb); have n10_ := m_ (Kd.R_below (rN HO772.out) hb); have n11_ := m_ (Kd.R_below (rN HO777.out) hb); have n12_ := m_ (Kd.R_below (rN HO780.out) hb); have n13_ := m_ (Kd.R_below (rN HO783.out) hb); have n14_ := m_ (Kd.R_below (rN HO788.out) hb); have n15_ := m_ (blk_below (kN BK693.out) hb); have n16_ := m_ (blk_below (kN BK718.out) hb); have n17_ := m_ (blk_below (kN BK730.out) hb); have n18_ := m_ (blk_below (kN BK743.out) hb); have n19_ := m_ (below_step (bN HB.out) hb); have n20_ := m_ (hbox); have n21_ := m_ ((by rw [hg]; exact (below_size (bN HB.out)) : w.heap.size ≤ gb790)); have n22_ := m_ ((by rw [hg]; exact (below_size (bN HB.out)) : w.heap.size ≤ gb790)); have n23_ := m_ ((by rw [hg]; exact Nat.ne_of_lt (blk_lt (g := gb693) (o := .cells #[.slice A0_0 l0_0.length c0_0, .slice A0_1 l0_1.length c0_1, .int .i64 a0_2, .bool a0_3, .slice A0_4 l0_4.length c0_4] 39 (0, 0)) (kN BK693.out)) : gb693 ≠ gb790)); have n24_ := m_ ((by rw [hg]; exact Nat.ne_of_gt (blk_lt (g := gb693) (o := .cells #[.slice A0_0 l0_0.length c0_0, .slice A0_1 l0_1.length c0_1, .int .i64 a0_2, .bool a0_3, .slice A0_4 l0_4.length c0_4] 39 (0, 0)) (kN BK693.out)) : gb790 ≠ gb693)); have n25_ := m_ ((by rw [hg]; exact Nat.ne_of_lt (blk_lt (g := gb718) (o := .cells #[.slice Ao23 t706.length co23, .slice Ao26 t709.length co26, .int .i64 t712, .bool t713, .slice Ao27 t714.length co27] 33 (0, 0)) (kN BK718.out)) : gb718 ≠ gb790)); have n26_ := m_ ((by rw [hg]; exact Nat.ne_of_gt (blk_lt (g := gb718) (o := .cells #[.slice Ao23 t706.length co23, .slice Ao26 t709.length co26, .int .i64 t712, .bool t713, .slice Ao27 t714.length co27] 33 (0, 0)) (kN BK718.out)) : gb790 ≠ gb718)); have n27_ := m_ ((by rw [hg]; exact Nat.ne_of_lt (blk_lt (g := gb730) (o := .cells #[.slice Ao31 t758.length co31, .slice Ao35 t759.length co35, .int .i64 t725, .bool t726, .slice Ao36 t760.length co36] 33 (0, 0)) (kN BK730.out)) : gb730 ≠ gb790)); have n28_ := m_ ((by rw [hg]; exact Nat.ne_of_gt (blk_lt (g := gb730) (o := .cells #[.slice Ao31 t758.length co31, .slice Ao35 t759.length co35, .int .i64 t725, .bool t726, .slice Ao36 t760.length co36] 33 (0, 0)) (kN BK730.out)) : gb790 ≠ gb730)); have n29_ := m_ ((by rw [hg]; exact Nat.ne_of_lt (blk_lt (g := gb743) (o := .cells #[.slice Ao39 t731.length co39, .slice Ao44 t734.length co44, .int .i64 t737, .bool t738, .slice Ao45 t739.length co45] 33 (0, 0)) (kN BK743.out)) : gb743 ≠ gb790)); have n30_ := m_ ((by rw [hg]; exact Nat.ne_of_gt (blk_lt (g := gb743) (o := .cells #[.slice Ao39 t731.length co39, .slice Ao44 t734.length co44, .int .i64 t737, .bool t738, .slice Ao45 t739.length co45] 33 (0, 0)) (kN BK743.out)) : gb790 ≠ gb743)); clear HO_719000; clear HO_719001; clear HO_719004; clear HO_731000; clear HO_731001; clear HO_731004; clear HO_744000; clear HO_744001; clear HO_744004; clear HO769; clear HO772; clear HO777; clear HO780; clear HO783; clear HO788; clear BK693; clear BK718; clear BK730; clear BK743; clear HB; have HO_719000 := n0_; have HO_719001 := n1_; have HO_719004 := n2_; have HO_731000 := n3_; have HO_731001 := n4_; have HO_731004 := n5_; have HO_744000 := n6_; have HO_744001 := n7_; have HO_744004 := n8_; have HO769 := n9_; have HO772 := n10_; have HO777 := n11_; have HO780 := n12_; have HO783 := n13_; have HO788 := n14_; have BK693 := n15_; have BK718 := n16_; have BK730 := n17_; have BK743 := n18_; have HB := n19_; have BK790 := n20_; have GW790 := n21_; have GE790 := n22_; have NB693_790 := n23_; have NB790_693 := n24_; have NB718_790 := n25_; have NB790_718 := n26_; have NB730_790 := n27_; have NB790_730 := n28_; have NB743_790 := n29_; have NB790_743 := n30_; clear n0_ n1_ n2_ n3_ n4_ n5_ n6_ n7_ n8_ n9_ n10_ n11_ n12_ n13_ n14_ n15_ n16_ n17_ n18_ n19_ n20_ n21_ n22_ n23_ n24_ n25_ n26_ n27_ n28_ n29_ n30_; clear hb hbox hg; obtain ⟨Ao131, co131, eo131⟩ := Kd.R_slice HO780.out; subst eo131; have hnb132 := NB790_693.out; have hnc132 := NB693_790.out; have hnb133 := NB790_718.out; have hnc133 := NB718_790.out; have hnb134 := NB790_730.out; have hnc134 := NB730_790.out; have hnb135 := NB790_743.out; have hnc135 := NB743_790.out; have hcz136_0 : w130.cell? ⟨gb790, 0, none⟩ = some (.slice none 0 0) := (blk_cell BK790.out 0).trans rfl; have hcz136_1 : w130.cell? ⟨gb790, 1, none⟩ = some (.slice none 0 0) := (blk_cell BK790.out 1).trans rfl; have hcz136_2 : w130.cell? ⟨gb790, 2, none⟩ = some (.int .i64 0) := (blk_cell BK790.out 2).trans rfl; have hcz136_3 : w130.cell? ⟨gb790, 3, none⟩ = some (.bool false) := (blk_cell BK790.out 3).trans rfl; have hcz136_4 : w130.cell? ⟨gb790, 4, none⟩ = some (.slice none 0 0) := (blk_cell BK790.out 4).trans rfl; have hfz136_0 := blk_frozen BK790.out 0; have hfz136_1 := blk_frozen BK790.out 1; have hfz136_2 := blk_frozen BK790.out 2; have hfz136_3 := blk_frozen BK790.out 3; have hfz136_4 := blk_frozen BK790.out 4; obtain ⟨Ao137, co137, eo137⟩ := Kd.R_slice HO783.out; subst eo137; obtain ⟨Ao138, co138, eo138⟩ := Kd.R_slice HO788.out; subst eo138))
           (try simp only [Act.put, List.setIfInBounds_toArray, List.set_cons_zero, List.set_cons_succ])
           go_cut [92] (fun v92 wc => ∃ (kq : Nat) (x92_113 : Bool), v92 = .bool x92_113 ∧ Aside0 (laws_FnExactPartSend.j2 kq t762 x92_113 t763 t764 t737 t738 t765 = some r) ∧ Aside0 (kq ≤ kj68) ∧ Aside0 (Kd.R k53 53 wc w.heap.size (fun k_ => some k_ ≠ ((.slice Ao31 t758.length co31) : Value).ownBlock ∧ some k_ ≠ ((.slice Ao39 t731.length co39) : Value).ownBlock ∧ some k_ ≠ ((.slice Ao131 t778.length co131) : Value).ownBlock) (.slice Ao23 t706.length co23) t706) ∧ Aside0 (Kd.R (Kd.int .i64) 3 wc w.heap.size (fun k_ => some k_ ≠ ((.slice Ao27 t714.length co27) : Value).ownBlock ∧ some k_ ≠ ((.slice Ao35 t759.length co35) : Value).ownBlock ∧ some k_ ≠ ((.slice Ao36 t760.length co36) : Value).ownBlock ∧ some k_ ≠ ((.slice Ao44 t734.length co44) : Value).ownBlock ∧ some k_ ≠ ((.slice Ao45 t739.length co45) : Value).ownBlock ∧ some k_ ≠ ((.slice Ao137 t781.length co137) : Value).ownBlock ∧ some k_ ≠ ((.slice Ao138 t786.length co138) : Value).ownBlock) (.slice Ao26 t709.length co26) t709) ∧ Aside0 (Kd.R (Kd.int .i64) 3 wc w.heap.size (fun k_ => some k_ ≠ ((.slice Ao26 t709.length co26) : Value).ownBlock ∧ some k_ ≠ ((.slice Ao35 t759.length co35) : Value).ownBlock ∧ some k_ ≠ ((.slice Ao36 t760.length co36) : Value).ownBlock ∧ some k_ ≠ ((.slice Ao44 t734.length co44) : Value).ownBlock ∧ some k_ ≠ ((.slice Ao45 t739.length co45) : Value).ownBlock ∧ some k_ ≠ ((.slice Ao137 t781.length co137) : Value).ownBlock ∧ some k_ ≠ ((.slice Ao138 t786.length co138) : Value).ownBlock) (.slice Ao27 t714.length co27) t714) ∧ Aside0 (Kd.R k53 53 wc w.heap.size (fun k_ => some k_ ≠ ((.slice Ao23 t706.length co23) : Value).ownBlock ∧ some k_ ≠ ((.slice Ao39 t731.length co39) : Value).ownBlock ∧ some k_ ≠ ((.slice Ao131 t778.length co131) : Value).ownBlock) (.slice Ao31 t758.length co31) t758) ∧ Aside0 (Kd.R (Kd.int .i64) 3 wc w.heap.size (fun k_ => some k_ ≠ ((.slice Ao26 t709.length co26) : Value).ownBlock ∧ some k_ ≠ ((.slice Ao27 t714.length co27) : Value).ownBlock ∧ some k_ ≠ ((.slice Ao36 t760.length co36) : Value).ownBlock ∧ some k_ ≠ ((.slice Ao44 t734.length co44) : Value).ownBlock ∧ some k_ ≠ ((.slice Ao45 t739.length co45) : Value).ownBlock ∧ some k_ ≠ ((.slice Ao137 t781.length co137) : Value).ownBlock ∧ some k_ ≠ ((.slice Ao138 t786.length co138) : Value).ownBlock) (.slice Ao35 t759.length co35) t759) ∧ Aside0 (Kd.R (Kd.int .i64) 3 wc w.heap.size (fun k_ => some k_ ≠ ((.slice Ao26 t709.length co26) : Value).ownBlock ∧ some k_ ≠ ((.slice Ao27 t714.length co27) : Value).ownBlock ∧ some k_ ≠ ((.slice Ao35 t759.length co35) : Value).ownBlock ∧ some k_ ≠ ((.slice Ao44 t734.length co44) : Value).ownBlock ∧ some k_ ≠ ((.slice Ao45 t739.length co45) : Value).ownBlock ∧ some k_ ≠ ((.slice Ao137 t781.length co137) : Value).ownBlock ∧ some k_ ≠ ((.slice Ao138 t786.length co138) : Value).ownBlock) (.slice Ao36 t760.length co36) t760) ∧ Aside0 (Kd.R k53 53 wc w.heap.size (fun k_ => some k_ ≠ ((.slice Ao23 t706.length co23) : Value).ownBlock ∧ some k_ ≠ ((.slice Ao31 t758.length co31) : Value).ownBlock ∧ some k_ ≠ ((.slice Ao131 t778.length co131) : Value).ownBlock) (.slice Ao39 t731.length co39) t763) ∧ Aside0 (Kd.R (Kd.int .i64) 3 wc w.heap.size (fun k_ => some k_ ≠ ((.slice Ao26 t709.length co26) : Value).ownBlock ∧ some k_ ≠ ((.slice Ao27 t714.length co27) : Value).ownBlock ∧ some k_ ≠ ((.slice Ao35 t759.length co35) : Value).ownBlock ∧ some k_ ≠ ((.slice Ao36 t760.length co36) : Value).ownBlock ∧ some k_ ≠ ((.slice Ao45 t739.length co45) : Value).ownBlock ∧ some k_ ≠ ((.slice Ao137 t781.length co137) : Value).ownBlock ∧ some k_ ≠ ((.slice Ao138 t786.length co138) : Value).ownBlock) (.slice Ao44 t734.length co44) t764) ∧ Aside0 (Kd.R (Kd.int .i64) 3 wc w.heap.size (fun k_ => some k_ ≠ ((.slice Ao26 t709.length co26) : Value).ownBlock ∧ some k_ ≠ ((.slice Ao27 t714.length co27) : Value).ownBlock ∧ some k_ ≠ ((.slice Ao35 t759.length co35) : Value).ownBlock ∧ some k_ ≠ ((.slice Ao36 t760.length co36) : Value).ownBlock ∧ some k_ ≠ ((.slice Ao44 t734.length co44) : Value).ownBlock ∧ some k_ ≠ ((.slice Ao137 t781.length co137) : Value).ownBlock ∧ some k_ ≠ ((.slice Ao138 t786.length co138) : Value).ownBlock) (.slice Ao45 t739.length co45) t765) ∧ Aside0 (Kd.R k53 53 wc w.heap.size (fun k_ => some k_ ≠ ((.slice Ao23 t706.length co23) : Value).ownBlock ∧ some k_ ≠ ((.slice Ao31 t758.length co31) : Value).ownBlock ∧ some k_ ≠ ((.slice Ao39 t731.length co39) : Value).ownBlock) (.slice Ao131 t778.length co131) t778) ∧ Aside0 (Kd.R (Kd.int .i64) 3 wc w.heap.size (fun k_ => some k_ ≠ ((.slice Ao26 t709.length co26) : Value).ownBlock ∧ some k_ ≠ ((.slice Ao27 t714.length co27) : Value).ownBlock ∧ some k_ ≠ ((.slice Ao35 t759.length co35) : Value).ownBlock ∧ some k_ ≠ ((.slice Ao36 t760.length co36) : Value).ownBlock ∧ some k_ ≠ ((.slice Ao44 t734.length co44) : Value).ownBlock ∧ some k_ ≠ ((.slice Ao45 t739.length co45) : Value).ownBlock ∧ some k_ ≠ ((.slice Ao138 t786.length co138) : Value).ownBlock) (.slice Ao137 t781.length co137) t781) ∧ Aside0 (Kd.R (Kd.int .i64) 3 wc w.heap.size (fun k_ => some k_ ≠ ((.slice Ao26 t709.length co26) : Value).ownBlock ∧ some k_ ≠ ((.slice Ao27 t714.length co27) : Value).ownBlock ∧ some k_ ≠ ((.slice Ao35 t759.length co35) : Value).ownBlock ∧ some k_ ≠ ((.slice Ao36 t760.length co36) : Value).ownBlock ∧ some k_ ≠ ((.slice Ao44 t734.length co44) : Value).ownBlock ∧ some k_ ≠ ((.slice Ao45 t739.length co45) : Value).ownBlock ∧ some k_ ≠ ((.slice Ao137 t781.length co137) : Value).ownBlock) (.slice Ao138 t786.length co138) t786) ∧ Aside0 (wc.heap[gb693]? = some (.cells #[(.slice A0_0 l0_0.length c0_0), (.slice A0_1 l0_1.length c0_1), .int .i64 a0_2, .bool a0_3, (.slice A0_4 l0_4.length c0_4)] 39 (0, 0))) ∧ Aside0 (wc.heap[gb718]? = some (.cells #[(.slice Ao23 t706.length co23), (.slice Ao26 t709.length co26), .int .i64 t712, .bool t713, (.slice Ao27 t714.length co27)] 33 (0, 0))) ∧ Aside0 (wc.heap[gb730]? = some (.cells #[(.slice Ao31 t758.length co31), (.slice Ao35 t759.length co35), .int .i64 t725, .bool t726, (.slice Ao36 t760.length co36)] 33 (0, 0))) ∧ Aside0 (wc.heap[gb743]? = some (.cells #[(.slice Ao39 t731.length co39), (.slice Ao44 t734.length co44), .int .i64 t737, .bool t738, (.slice Ao45 t739.length co45)] 33 (0, 0))) ∧ Aside0 (wc.heap[gb790]? = some (.cells #[(.slice Ao131 t778.length co131), (.slice Ao137 t781.length co137), .int .i64 t784, .bool t785, (.slice Ao138 t786.length co138)] 33 (0, 0))) ∧ Aside0 (Below w.heap.size w wc))
           case first =>
            have H := HC114.out
            clear HC114
            replace H := Option.bind_eq_some_iff.mp H
            obtain ⟨t791, A1390, H⟩ := H
            replace H : (if t791 = true then (laws_FnExactPartSend.j2 kj68 t762 (t789 != t717) t763 t764 t737 t738 t765) else (laws_FnExactPartSend.j2 kj68 t762 true t763 t764 t737 t738 t765)) = some r := H
            have A139 := Aside0.mk A1390
            clear A1390
            by_cases c140 : t791 = true
            ·subst c140
             have H1 : (laws_FnExactPartSend.j2 kj68 t762 (t789 != t717) t763 t764 t737 t738 t765) = some r := by rw [if_pos rfl] at H; exact H
             clear H
             have H := H1
             clear H1
             have H' := Aside0.mk H
             clear H
             have hnb141 := NB790_693.out
             have hnc141 := NB693_790.out
             have hnb142 := NB790_718.out
             have hnc142 := NB718_790.out
             have hnb143 := NB790_730.out
             have hnc143 := NB730_790.out
             have hnb144 := NB790_743.out
             have hnc144 := NB743_790.out
             have hcz145_0 : w130.cell? ⟨gb790, 0, none⟩ = some (.slice none 0 0) := (blk_cell BK790.out 0).trans rfl
             have hcz145_1 : w130.cell? ⟨gb790, 1, none⟩ = some (.slice none 0 0) := (blk_cell BK790.out 1).trans rfl
             have hcz145_2 : w130.cell? ⟨gb790, 2, none⟩ = some (.int .i64 0) := (blk_cell BK790.out 2).trans rfl
             have hcz145_3 : w130.cell? ⟨gb790, 3, none⟩ = some (.bool false) := (blk_cell BK790.out 3).trans rfl
             have hcz145_4 : w130.cell? ⟨gb790, 4, none⟩ = some (.slice none 0 0) := (blk_cell BK790.out 4).trans rfl
             have hfz145_0 := blk_frozen BK790.out 0
             have hfz145_1 := blk_frozen BK790.out 1
             have hfz145_2 := blk_frozen BK790.out 2
             have hfz145_3 := blk_frozen BK790.out 3
             have hfz145_4 := blk_frozen BK790.out 4
             have hnb146 := NB718_693.out
             have hnc146 := NB693_718.out
             have hnb147 := NB718_730.out
             have hnc147 := NB730_718.out
             have hnb148 := NB718_743.out
             have hnc148 := NB743_718.out
             have hcz149_0 : w130.cell? ⟨gb718, 0, none⟩ = some (.slice Ao23 t706.length co23) := (blk_cell BK718.out 0).trans rfl
             have hcz149_1 : w130.cell? ⟨gb718, 1, none⟩ = some (.slice Ao26 t709.length co26) := (blk_cell BK718.out 1).trans rfl
             have hcz149_2 : w130.cell? ⟨gb718, 2, none⟩ = some (.int .i64 t712) := (blk_cell BK718.out 2).trans rfl
             have hcz149_3 : w130.cell? ⟨gb718, 3, none⟩ = some (.bool t713) := (blk_cell BK718.out 3).trans rfl
             have hcz149_4 : w130.cell? ⟨gb718, 4, none⟩ = some (.slice Ao27 t714.length co27) := (blk_cell BK718.out 4).trans rfl
             have hfz149_0 := blk_frozen BK718.out 0
             have hfz149_1 := blk_frozen BK718.out 1
             have hfz149_2 := blk_frozen BK718.out 2
             have hfz149_3 := blk_frozen BK718.out 3
             have hfz149_4 := blk_frozen BK718.out 4
             go_wp2_with (first | ((with_reducible refine gate_callee (f := 22) rfl ?_); refine goesL_ (some 86) rfl rfl Try.func22 (by kernel_rfl) rfl #[.agg #[.slice Ao131 t778.length co131, .slice Ao137 t781.length co137, .int .i64 t784, .bool t785, .slice Ao138 t786.length co138], .agg #[.slice Ao23 t706.length co23, .slice Ao26 t709.length co26, .int .i64 t712, .bool t713, .slice Ao27 t714.length co27]] rfl gl_ ?_; (with_reducible refine (laws_eqPart.calls kj68 _ _ t778 _ _ t781 t784 t785 _ _ t786 _ _ t706 _ _ t709 t712 t713 _ _ t714 true _ ?side1 ?side2 ?side3 ?side4 ?side5 ?side6 ?side7 ?side8 ?side9 ?side10 ?side11 ?side12 A139.out).mono ?_); (case side1 => refine (Kd.R_reads' (e := 53) (base := w.heap.size) (ok := fun k_ => ((((True ∧ nb Ao23 t706.length co23 k_) ∧ nb Ao31 t758.length co31 k_) ∧ nb Ao39 t731.length co39 k_) ∧ nb Ao126 t767.length co126 k_)) (n := t778.length) (c := co131) ?_).2.2; exact (frN (Kd.R_types HO780.out BK790.out (by decide)))); (case side2 => exact (Kd.R_reads' HO780.out).2.1); (case side3 => refine (Kd.R_reads' (e := 3) (base := w.heap.size) (ok := fun k_ => ((((((((nb Ao138 t786.length co138 k_ ∧ nb Ao26 t709.length co26 k_) ∧ nb Ao27 t714.length co27 k_) ∧ nb Ao35 t759.length co35 k_) ∧ nb Ao36 t760.length co36 k_) ∧ nb Ao44 t734.length co44 k_) ∧ nb Ao45 t739.length co45 k_) ∧ nb Ao127 t770.length co127 k_) ∧ nb Ao128 t775.length co128 k_)) (n := t781.length) (c := co137) ?_).2.2; exact (frN (Kd.R_types HO783.out BK790.out (by decide)))); (case side4 => exact (Kd.R_reads' HO783.out).2.1); (case side5 => refine (Kd.R_reads' (e := 3) (base := w.heap.size) (ok := fun k_ => ((((((((nb Ao137 t781.length co137 k_ ∧ nb Ao26 t709.length co26 k_) ∧ nb Ao27 t714.length co27 k_) ∧ nb Ao35 t759.length co35 k_) ∧ nb Ao36 t760.length co36 k_) ∧ nb Ao44 t734.length co44 k_) ∧ nb Ao45 t739.length co45 k_) ∧ nb Ao127 t770.length co127 k_) ∧ nb Ao128 t775.length co128 k_)) (n := t786.length) (c := co138) ?_).2.2; exact (frN (Kd.R_types HO788.out BK790.out (by decide)))); (case side6 => exact (Kd.R_reads' HO788.out).2.1); (case side7 => refine (Kd.R_reads' (e := 53) (base := w.heap.size) (ok := fun k_ => (((nb Ao31 t758.length co31 k_ ∧ nb Ao39 t731.length co39 k_) ∧ nb Ao126 t767.length co126 k_) ∧ nb Ao131 t778.length co131 k_)) (n := t706.length) (c := co23) ?_).2.2; exact (frN (Kd.R_types HO_719000.out BK790.out (by decide)))); (case side8 => exact (Kd.R_reads' HO_719000.out).2.1); (case side9 => refine (Kd.R_reads' (e := 3) (base := w.heap.size) (ok := fun k_ => (((((nb Ao27 t714.length co27 k_ ∧ (nb Ao35 t759.length co35 k_ ∧ (nb Ao36 t760.length co36 k_ ∧ (nb Ao44 t734.length co44 k_ ∧ nb Ao45 t739.length co45 k_)))) ∧ nb Ao127 t770.length co127 k_) ∧ nb Ao128 t775.length co128 k_) ∧ nb Ao137 t781.length co137 k_) ∧ nb Ao138 t786.length co138 k_)) (n := t709.length) (c := co26) ?_).2.2; exact (frN (Kd.R_types HO_719001.out BK790.out (by decide)))); (case side10 => exact (Kd.R_reads' HO_719001.out).2.1); (case side11 => refine (Kd.R_reads' (e := 3) (base := w.heap.size) (ok := fun k_ => (((((nb Ao26 t709.length co26 k_ ∧ (nb Ao35 t759.length co35 k_ ∧ (nb Ao36 t760.length co36 k_ ∧ (nb Ao44 t734.length co44 k_ ∧ nb Ao45 t739.length co45 k_)))) ∧ nb Ao127 t770.length co127 k_) ∧ nb Ao128 t775.length co128 k_) ∧ nb Ao137 t781.length co137 k_) ∧ nb Ao138 t786.length co138 k_)) (n := t714.length) (c := co27) ?_).2.2; exact (frN (Kd.R_types HO_719004.out BK790.out (by decide)))); (case side12 => exact (Kd.R_reads' HO_719004.out).2.1); rintro e w150 ⟨rfl, hb⟩; refine ⟨_, rfl, ?_⟩; have n0_ := m_ (Kd.R_below (frN (Kd.R_types HO_719000.out BK790.out (by decide))) hb); have n1_ := m_ (Kd.R_below (frN (Kd.R_types HO_719001.out BK790.out (by decide))) hb); have n2_ := m_ (Kd.R_below (frN (Kd.R_types HO_719004.out BK790.out (by decide))) hb); have n3_ := m_ (Kd.R_below (frN (Kd.R_types HO_731000.out BK790.out (by decide))) hb); have n4_ := m_ (Kd.R_below (frN (Kd.R_types HO_731001.out BK790.out (by decide))) hb); have n5_ := m_ (Kd.R_below (frN (Kd.R_types HO_731004.out BK790.out (by decide))) hb); have n6_ := m_ (Kd.R_below (frN (Kd.R_types HO_744000.out BK790.out (by decide))) hb); have n7_ := m_ (Kd.R_below (frN (Kd.R_types HO_744001.out BK790.out (by decide))) hb); have n8_ := m_ (Kd.R_below (frN (Kd.R_types HO_744004.out BK790.out (by decide))) hb); have n9_ := m_ (Kd.R_below (frN (Kd.R_types HO769.out BK790.out (by decide))) hb); have n10_ := m_ (Kd.R_below (frN (Kd.R_types HO772.out BK790.out (by decide))) hb); have n11_ := m_ (Kd.R_below (frN (Kd.R_types HO777.out BK790.out (by decide))) hb); have n12_ := m_ (Kd.R_below (frN (Kd.R_types HO780.out BK790.out (by decide))) hb); have n13_ := m_ (Kd.R_below (frN (Kd.R_types HO783.out BK790.out (by decide))) hb); have n14_ := m_ (Kd.R_below (frN (Kd.R_types HO788.out BK790.out (by decide))) hb); have n15_ := m_ (blk_below (g := gb693) (o := .cells #[.slice A0_0 l0_0.length c0_0, .slice A0_1 l0_1.length c0_1, .int .i64 a0_2, .bool a0_3, .slice A0_4 l0_4.length c0_4] 39 (0, 0)) (kF BK693.out NB693_790.out) hb); have n16_ := m_ (blk_below (g := gb718) (o := .cells #[.slice Ao23 t706.length co23, .slice Ao26 t709.length co26, .int .i64 t712, .bool t713, .slice Ao27 t714.length co27] 33 (0, 0)) (kF BK718.out NB718_790.out) hb); have n17_ := m_ (blk_below (g := gb730) (o := .cells #[.slice Ao31 t758.length co31, .slice Ao35 t759.length co35, .int .i64 t725, .bool t726, .slice Ao36 t760.length co36] 33 (0, 0)) (kF BK730.out NB730_790.out) hb); have n18_ := m_ (blk_below (g := gb743) (o := .cells #[.slice Ao39 t731.length co39, .slice Ao44 t734.length co44, .int .i64 t737, .bool t738, .slice Ao45 t739.length co45] 33 (0, 0)) (kF BK743.out NB743_790.out) hb); have n19_ := m_ (blk_below (g := gb790) (o := .cells #[.slice Ao131 t778.length co131, .slice Ao137 t781.length co137, .int .i64 t784, .bool t785, .slice Ao138 t786.length co138] 33 (0, 0)) (by (with_reducible repeat (first | refine blk_drewN ?_ _ | refine blk_drew ?_ | refine blk_alloc ?_ _)); refine blk_put (cs := #[.slice Ao131 t778.length co131, .slice Ao137 t781.length co137, .int .i64 t784, .bool t785, .slice none 0 0]) ?_ 4 _ rfl; (with_reducible repeat (first | refine blk_drewN ?_ _ | refine blk_drew ?_ | refine blk_alloc ?_ _)); refine blk_put (cs := #[.slice Ao131 t778.length co131, .slice Ao137 t781.length co137, .int .i64 t784, .bool false, .slice none 0 0]) ?_ 3 _ rfl; (with_reducible repeat (first | refine blk_drewN ?_ _ | refine blk_drew ?_ | refine blk_alloc ?_ _)); refine blk_put (cs := #[.slice Ao131 t778.length co131, .slice Ao137 t781.length co137, .int .i64 0, .bool false, .slice none 0 0]) ?_ 2 _ rfl; (with_reducible repeat (first | refine blk_drewN ?_ _ | refine blk_drew ?_ | refine blk_alloc ?_ _)); refine blk_put (cs := #[.slice Ao131 t778.length co131, .slice none 0 0, .int .i64 0, .bool false, .slice none 0 0]) ?_ 1 _ rfl; (with_reducible repeat (first | refine blk_drewN ?_ _ | refine blk_drew ?_ | refine blk_alloc ?_ _)); refine blk_put (cs := #[.slice none 0 0, .slice none 0 0, .int .i64 0, .bool false, .slice none 0 0]) ?_ 0 _ rfl; (with_reducible repeat (first | refine blk_drewN ?_ _ | refine blk_drew ?_ | refine blk_alloc ?_ _)); exact BK790.out) hb); have n20_ := m_ (below_step (bN HB.out) hb); clear HO_719000; clear HO_719001; clear HO_719004; clear HO_731000; clear HO_731001; clear HO_731004; clear HO_744000; clear HO_744001; clear HO_744004; clear HO769; clear HO772; clear HO777; clear HO780; clear HO783; clear HO788; clear BK693; clear BK718; clear BK730; clear BK743; clear BK790; clear HB; have HO_719000 := n0_; have HO_719001 := n1_; have HO_719004 := n2_; have HO_731000 := n3_; have HO_731001 := n4_; have HO_731004 := n5_; have HO_744000 := n6_; have HO_744001 := n7_; have HO_744004 := n8_; have HO769 := n9_; have HO772 := n10_; have HO777 := n11_; have HO780 := n12_; have HO783 := n13_; have HO788 := n14_; have BK693 := n15_; have BK718 := n16_; have BK730 := n17_; have BK743 := n18_; have BK790 := n19_; have HB := n20_; clear n0_ n1_ n2_ n3_ n4_ n5_ n6_ n7_ n8_ n9_ n10_ n11_ n12_ n13_ n14_ n15_ n16_ n17_ n18_ n19_ n20_; (try clear hb); (try clear hb2); (try clear hk); (try clear hi)))
             go_meet
             case rel => exact ⟨_, ((t789 != t717)), (by first | rfl | (simp; done) | (simp [*]; done)), H', ⟨by have := HJ11.out; have := HJ68.out; first | omega | exact Nat.le_refl _⟩, ⟨by (try simp only [hl731000_68]); (try simp only [hl731001_68]); (try simp only [hl731004_68]); (with_reducible repeat (first | apply Kd.R_alloc | apply Kd.R_drewN | apply Kd.R_drew)); exact Kd.R_mono HO_719000.out (fun _ hk => ⟨hk.1.1.1, ⟨hk.1.1.2, hk.2⟩⟩)⟩, ⟨by (try simp only [hl731000_68]); (try simp only [hl731001_68]); (try simp only [hl731004_68]); (with_reducible repeat (first | apply Kd.R_alloc | apply Kd.R_drewN | apply Kd.R_drew)); exact Kd.R_mono HO_719001.out (fun _ hk => ⟨hk.1.1.1.1.1, ⟨hk.1.1.1.1.2.1, ⟨hk.1.1.1.1.2.2.1, ⟨hk.1.1.1.1.2.2.2.1, ⟨hk.1.1.1.1.2.2.2.2, ⟨hk.1.2, hk.2⟩⟩⟩⟩⟩⟩)⟩, ⟨by (try simp only [hl731000_68]); (try simp only [hl731001_68]); (try simp only [hl731004_68]); (with_reducible repeat (first | apply Kd.R_alloc | apply Kd.R_drewN | apply Kd.R_drew)); exact Kd.R_mono HO_719004.out (fun _ hk => ⟨hk.1.1.1.1.1, ⟨hk.1.1.1.1.2.1, ⟨hk.1.1.1.1.2.2.1, ⟨hk.1.1.1.1.2.2.2.1, ⟨hk.1.1.1.1.2.2.2.2, ⟨hk.1.2, hk.2⟩⟩⟩⟩⟩⟩)⟩, ⟨by (try simp only [hl731000_68]); (try simp only [hl731001_68]); (try simp only [hl731004_68]); (with_reducible repeat (first | apply Kd.R_alloc | apply Kd.R_drewN | apply Kd.R_drew)); exact Kd.R_mono HO_731000.out (fun _ hk => ⟨hk.1.1.1, ⟨hk.1.1.2, hk.2⟩⟩)⟩, ⟨by (try simp only [hl731000_68]); (try simp only [hl731001_68]); (try simp only [hl731004_68]); (with_reducible repeat (first | apply Kd.R_alloc | apply Kd.R_drewN | apply Kd.R_drew)); exact Kd.R_mono HO_731001.out (fun _ hk => ⟨hk.1.1.1.1.1, ⟨hk.1.1.1.1.2.1, ⟨hk.1.1.1.1.2.2.1, ⟨hk.1.1.1.1.2.2.2.1, ⟨hk.1.1.1.1.2.2.2.2, ⟨hk.1.2, hk.2⟩⟩⟩⟩⟩⟩)⟩, ⟨by (try simp only [hl731000_68]); (try simp only [hl731001_68]); (try simp only [hl731004_68]); (with_reducible repeat (first | apply Kd.R_alloc | apply Kd.R_drewN | apply Kd.R_drew)); exact Kd.R_mono HO_731004.out (fun _ hk => ⟨hk.1.1.1.1.1, ⟨hk.1.1.1.1.2.1, ⟨hk.1.1.1.1.2.2.1, ⟨hk.1.1.1.1.2.2.2.1, ⟨hk.1.1.1.1.2.2.2.2, ⟨hk.1.2, hk.2⟩⟩⟩⟩⟩⟩)⟩, ⟨by (try simp only [hl731000_68]); (try simp only [hl731001_68]); (try simp only [hl731004_68]); (with_reducible repeat (first | apply Kd.R_alloc | apply Kd.R_drewN | apply Kd.R_drew)); exact Kd.R_mono HO_744000.out (fun _ hk => ⟨hk.1.1.1, ⟨hk.1.1.2, hk.2⟩⟩)⟩, ⟨by (try simp only [hl731000_68]); (try simp only [hl731001_68]); (try simp only [hl731004_68]); (with_reducible repeat (first | apply Kd.R_alloc | apply Kd.R_drewN | apply Kd.R_drew)); exact Kd.R_mono HO_744001.out (fun _ hk => ⟨hk.1.1.1.1.1, ⟨hk.1.1.1.1.2.1, ⟨hk.1.1.1.1.2.2.1, ⟨hk.1.1.1.1.2.2.2.1, ⟨hk.1.1.1.1.2.2.2.2, ⟨hk.1.2, hk.2⟩⟩⟩⟩⟩⟩)⟩, ⟨by (try simp only [hl731000_68]); (try simp only [hl731001_68]); (try simp only [hl731004_68]); (with_reducible repeat (first | apply Kd.R_alloc | apply Kd.R_drewN | apply Kd.R_drew)); exact Kd.R_mono HO_744004.out (fun _ hk => ⟨hk.1.1.1.1.1, ⟨hk.1.1.1.1.2.1, ⟨hk.1.1.1.1.2.2.1, ⟨hk.1.1.1.1.2.2.2.1, ⟨hk.1.1.1.1.2.2.2.2, ⟨hk.1.2, hk.2⟩⟩⟩⟩⟩⟩)⟩, ⟨by (try simp only [hl731000_68]); (try simp only [hl731001_68]); (try simp only [hl731004_68]); (with_reducible repeat (first | apply Kd.R_alloc | apply Kd.R_drewN | apply Kd.R_drew)); exact Kd.R_mono HO780.out (fun _ hk => ⟨hk.1.1.1.2, ⟨hk.1.1.2, hk.1.2⟩⟩)⟩, ⟨by (try simp only [hl731000_68]); (try simp only [hl731001_68]); (try simp only [hl731004_68]); (with_reducible repeat (first | apply Kd.R_alloc | apply Kd.R_drewN | apply Kd.R_drew)); exact Kd.R_mono HO783.out (fun _ hk => ⟨hk.1.1.1.1.1.1.1.2, ⟨hk.1.1.1.1.1.1.2, ⟨hk.1.1.1.1.1.2, ⟨hk.1.1.1.1.2, ⟨hk.1.1.1.2, ⟨hk.1.1.2, hk.1.1.1.1.1.1.1.1⟩⟩⟩⟩⟩⟩)⟩, ⟨by (try simp only [hl731000_68]); (try simp only [hl731001_68]); (try simp only [hl731004_68]); (with_reducible repeat (first | apply Kd.R_alloc | apply Kd.R_drewN | apply Kd.R_drew)); exact Kd.R_mono HO788.out (fun _ hk => ⟨hk.1.1.1.1.1.1.1.2, ⟨hk.1.1.1.1.1.1.2, ⟨hk.1.1.1.1.1.2, ⟨hk.1.1.1.1.2, ⟨hk.1.1.1.2, ⟨hk.1.1.2, hk.1.1.1.1.1.1.1.1⟩⟩⟩⟩⟩⟩)⟩, ⟨by (try simp only [hl731000_68]); (try simp only [hl731001_68]); (try simp only [hl731004_68]); (with_reducible repeat (first | refine blk_drewN ?_ _ | refine blk_drew ?_ | refine blk_alloc ?_ _)); exact BK693.out⟩, ⟨by (try simp only [hl731000_68]); (try simp only [hl731001_68]); (try simp only [hl731004_68]); (with_reducible repeat (first | refine blk_drewN ?_ _ | refine blk_drew ?_ | refine blk_alloc ?_ _)); exact BK718.out⟩, ⟨by (try simp only [hl731000_68]); (try simp only [hl731001_68]); (try simp only [hl731004_68]); (with_reducible repeat (first | refine blk_drewN ?_ _ | refine blk_drew ?_ | refine blk_alloc ?_ _)); exact BK730.out⟩, ⟨by (try simp only [hl731000_68]); (try simp only [hl731001_68]); (try simp only [hl731004_68]); (with_reducible repeat (first | refine blk_drewN ?_ _ | refine blk_drew ?_ | refine blk_alloc ?_ _)); exact BK743.out⟩, ⟨by (try simp only [hl731000_68]); (try simp only [hl731001_68]); (try simp only [hl731004_68]); (with_reducible repeat (first | refine blk_drewN ?_ _ | refine blk_drew ?_ | refine blk_alloc ?_ _)); exact BK790.out⟩, ⟨by repeat (first | (with_reducible first | exact HB.out | apply below_alloc | apply pw_below_drewN | apply below_drew1 | refine below_set ?_ GE693.out | refine below_set ?_ GE718.out | refine below_set ?_ GE730.out | refine below_set ?_ GE743.out | refine below_set ?_ GE790.out) | exact HB.out)⟩⟩
            ·replace c140 := Bool.eq_false_iff.mpr c140
             subst c140
             have H1 : (laws_FnExactPartSend.j2 kj68 t762 true t763 t764 t737 t738 t765) = some r := by rw [if_neg (show ¬ (false = true) by decide)] at H; exact H
             clear H
             have H := H1
             clear H1
             have H' := Aside0.mk H
             clear H
             have hnb151 := NB790_693.out
             have hnc151 := NB693_790.out
             have hnb152 := NB790_718.out
             have hnc152 := NB718_790.out
             have hnb153 := NB790_730.out
             have hnc153 := NB730_790.out
             have hnb154 := NB790_743.out
             have hnc154 := NB743_790.out
             have hcz155_0 : w130.cell? ⟨gb790, 0, none⟩ = some (.slice none 0 0) := (blk_cell BK790.out 0).trans rfl
             have hcz155_1 : w130.cell? ⟨gb790, 1, none⟩ = some (.slice none 0 0) := (blk_cell BK790.out 1).trans rfl
             have hcz155_2 : w130.cell? ⟨gb790, 2, none⟩ = some (.int .i64 0) := (blk_cell BK790.out 2).trans rfl
             have hcz155_3 : w130.cell? ⟨gb790, 3, none⟩ = some (.bool false) := (blk_cell BK790.out 3).trans rfl
             have hcz155_4 : w130.cell? ⟨gb790, 4, none⟩ = some (.slice none 0 0) := (blk_cell BK790.out 4).trans rfl
             have hfz155_0 := blk_frozen BK790.out 0
             have hfz155_1 := blk_frozen BK790.out 1
             have hfz155_2 := blk_frozen BK790.out 2
             have hfz155_3 := blk_frozen BK790.out 3
             have hfz155_4 := blk_frozen BK790.out 4
             have hnb156 := NB718_693.out
             have hnc156 := NB693_718.out
             have hnb157 := NB718_730.out
             have hnc157 := NB730_718.out
             have hnb158 := NB718_743.out
             have hnc158 := NB743_718.out
             have hcz159_0 : w130.cell? ⟨gb718, 0, none⟩ = some (.slice Ao23 t706.length co23) := (blk_cell BK718.out 0).trans rfl
             have hcz159_1 : w130.cell? ⟨gb718, 1, none⟩ = some (.slice Ao26 t709.length co26) := (blk_cell BK718.out 1).trans rfl
             have hcz159_2 : w130.cell? ⟨gb718, 2, none⟩ = some (.int .i64 t712) := (blk_cell BK718.out 2).trans rfl
             have hcz159_3 : w130.cell? ⟨gb718, 3, none⟩ = some (.bool t713) := (blk_cell BK718.out 3).trans rfl
             have hcz159_4 : w130.cell? ⟨gb718, 4, none⟩ = some (.slice Ao27 t714.length co27) := (blk_cell BK718.out 4).trans rfl
             have hfz159_0 := blk_frozen BK718.out 0
             have hfz159_1 := blk_frozen BK718.out 1
             have hfz159_2 := blk_frozen BK718.out 2
             have hfz159_3 := blk_frozen BK718.out 3
             have hfz159_4 := blk_frozen BK718.out 4
             go_wp2_with (first | ((with_reducible refine gate_callee (f := 22) rfl ?_); refine goesL_ (some 86) rfl rfl Try.func22 (by kernel_rfl) rfl #[.agg #[.slice Ao131 t778.length co131, .slice Ao137 t781.length co137, .int .i64 t784, .bool t785, .slice Ao138 t786.length co138], .agg #[.slice Ao23 t706.length co23, .slice Ao26 t709.length co26, .int .i64 t712, .bool t713, .slice Ao27 t714.length co27]] rfl gl_ ?_; (with_reducible refine (laws_eqPart.calls kj68 _ _ t778 _ _ t781 t784 t785 _ _ t786 _ _ t706 _ _ t709 t712 t713 _ _ t714 false _ ?side1 ?side2 ?side3 ?side4 ?side5 ?side6 ?side7 ?side8 ?side9 ?side10 ?side11 ?side12 A139.out).mono ?_); (case side1 => refine (Kd.R_reads' (e := 53) (base := w.heap.size) (ok := fun k_ => ((((True ∧ nb Ao23 t706.length co23 k_) ∧ nb Ao31 t758.length co31 k_) ∧ nb Ao39 t731.length co39 k_) ∧ nb Ao126 t767.length co126 k_)) (n := t778.length) (c := co131) ?_).2.2; exact (frN (Kd.R_types HO780.out BK790.out (by decide)))); (case side2 => exact (Kd.R_reads' HO780.out).2.1); (case side3 => refine (Kd.R_reads' (e := 3) (base := w.heap.size) (ok := fun k_ => ((((((((nb Ao138 t786.length co138 k_ ∧ nb Ao26 t709.length co26 k_) ∧ nb Ao27 t714.length co27 k_) ∧ nb Ao35 t759.length co35 k_) ∧ nb Ao36 t760.length co36 k_) ∧ nb Ao44 t734.length co44 k_) ∧ nb Ao45 t739.length co45 k_) ∧ nb Ao127 t770.length co127 k_) ∧ nb Ao128 t775.length co128 k_)) (n := t781.length) (c := co137) ?_).2.2; exact (frN (Kd.R_types HO783.out BK790.out (by decide)))); (case side4 => exact (Kd.R_reads' HO783.out).2.1); (case side5 => refine (Kd.R_reads' (e := 3) (base := w.heap.size) (ok := fun k_ => ((((((((nb Ao137 t781.length co137 k_ ∧ nb Ao26 t709.length co26 k_) ∧ nb Ao27 t714.length co27 k_) ∧ nb Ao35 t759.length co35 k_) ∧ nb Ao36 t760.length co36 k_) ∧ nb Ao44 t734.length co44 k_) ∧ nb Ao45 t739.length co45 k_) ∧ nb Ao127 t770.length co127 k_) ∧ nb Ao128 t775.length co128 k_)) (n := t786.length) (c := co138) ?_).2.2; exact (frN (Kd.R_types HO788.out BK790.out (by decide)))); (case side6 => exact (Kd.R_reads' HO788.out).2.1); (case side7 => refine (Kd.R_reads' (e := 53) (base := w.heap.size) (ok := fun k_ => (((nb Ao31 t758.length co31 k_ ∧ nb Ao39 t731.length co39 k_) ∧ nb Ao126 t767.length co126 k_) ∧ nb Ao131 t778.length co131 k_)) (n := t706.length) (c := co23) ?_).2.2; exact (frN (Kd.R_types HO_719000.out BK790.out (by decide)))); (case side8 => exact (Kd.R_reads' HO_719000.out).2.1); (case side9 => refine (Kd.R_reads' (e := 3) (base := w.heap.size) (ok := fun k_ => (((((nb Ao27 t714.length co27 k_ ∧ (nb Ao35 t759.length co35 k_ ∧ (nb Ao36 t760.length co36 k_ ∧ (nb Ao44 t734.length co44 k_ ∧ nb Ao45 t739.length co45 k_)))) ∧ nb Ao127 t770.length co127 k_) ∧ nb Ao128 t775.length co128 k_) ∧ nb Ao137 t781.length co137 k_) ∧ nb Ao138 t786.length co138 k_)) (n := t709.length) (c := co26) ?_).2.2; exact (frN (Kd.R_types HO_719001.out BK790.out (by decide)))); (case side10 => exact (Kd.R_reads' HO_719001.out).2.1); (case side11 => refine (Kd.R_reads' (e := 3) (base := w.heap.size) (ok := fun k_ => (((((nb Ao26 t709.length co26 k_ ∧ (nb Ao35 t759.length co35 k_ ∧ (nb Ao36 t760.length co36 k_ ∧ (nb Ao44 t734.length co44 k_ ∧ nb Ao45 t739.length co45 k_)))) ∧ nb Ao127 t770.length co127 k_) ∧ nb Ao128 t775.length co128 k_) ∧ nb Ao137 t781.length co137 k_) ∧ nb Ao138 t786.length co138 k_)) (n := t714.length) (c := co27) ?_).2.2; exact (frN (Kd.R_types HO_719004.out BK790.out (by decide)))); (case side12 => exact (Kd.R_reads' HO_719004.out).2.1); rintro e w160 ⟨rfl, hb⟩; refine ⟨_, rfl, ?_⟩; have n0_ := m_ (Kd.R_below (frN (Kd.R_types HO_719000.out BK790.out (by decide))) hb); have n1_ := m_ (Kd.R_below (frN (Kd.R_types HO_719001.out BK790.out (by decide))) hb); have n2_ := m_ (Kd.R_below (frN (Kd.R_types HO_719004.out BK790.out (by decide))) hb); have n3_ := m_ (Kd.R_below (frN (Kd.R_types HO_731000.out BK790.out (by decide))) hb); have n4_ := m_ (Kd.R_below (frN (Kd.R_types HO_731001.out BK790.out (by decide))) hb); have n5_ := m_ (Kd.R_below (frN (Kd.R_types HO_731004.out BK790.out (by decide))) hb); have n6_ := m_ (Kd.R_below (frN (Kd.R_types HO_744000.out BK790.out (by decide))) hb); have n7_ := m_ (Kd.R_below (frN (Kd.R_types HO_744001.out BK790.out (by decide))) hb); have n8_ := m_ (Kd.R_below (frN (Kd.R_types HO_744004.out BK790.out (by decide))) hb); have n9_ := m_ (Kd.R_below (frN (Kd.R_types HO769.out BK790.out (by decide))) hb); have n10_ := m_ (Kd.R_below (frN (Kd.R_types HO772.out BK790.out (by decide))) hb); have n11_ := m_ (Kd.R_below (frN (Kd.R_types HO777.out BK790.out (by decide))) hb); have n12_ := m_ (Kd.R_below (frN (Kd.R_types HO780.out BK790.out (by decide))) hb); have n13_ := m_ (Kd.R_below (frN (Kd.R_types HO783.out BK790.out (by decide))) hb); have n14_ := m_ (Kd.R_below (frN (Kd.R_types HO788.out BK790.out (by decide))) hb); have n15_ := m_ (blk_below (g := gb693) (o := .cells #[.slice A0_0 l0_0.length c0_0, .slice A0_1 l0_1.length c0_1, .int .i64 a0_2, .bool a0_3, .slice A0_4 l0_4.length c0_4] 39 (0, 0)) (kF BK693.out NB693_790.out) hb); have n16_ := m_ (blk_below (g := gb718) (o := .cells #[.slice Ao23 t706.length co23, .slice Ao26 t709.length co26, .int .i64 t712, .bool t713, .slice Ao27 t714.length co27] 33 (0, 0)) (kF BK718.out NB718_790.out) hb); have n17_ := m_ (blk_below (g := gb730) (o := .cells #[.slice Ao31 t758.length co31, .slice Ao35 t759.length co35, .int .i64 t725, .bool t726, .slice Ao36 t760.length co36] 33 (0, 0)) (kF BK730.out NB730_790.out) hb); have n18_ := m_ (blk_below (g := gb743) (o := .cells #[.slice Ao39 t731.length co39, .slice Ao44 t734.length co44, .int .i64 t737, .bool t738, .slice Ao45 t739.length co45] 33 (0, 0)) (kF BK743.out NB743_790.out) hb); have n19_ := m_ (blk_below (g := gb790) (o := .cells #[.slice Ao131 t778.length co131, .slice Ao137 t781.length co137, .int .i64 t784, .bool t785, .slice Ao138 t786.length co138] 33 (0, 0)) (by (with_reducible repeat (first | refine blk_drewN ?_ _ | refine blk_drew ?_ | refine blk_alloc ?_ _)); refine blk_put (cs := #[.slice Ao131 t778.length co131, .slice Ao137 t781.length co137, .int .i64 t784, .bool t785, .slice none 0 0]) ?_ 4 _ rfl; (with_reducible repeat (first | refine blk_drewN ?_ _ | refine blk_drew ?_ | refine blk_alloc ?_ _)); refine blk_put (cs := #[.slice Ao131 t778.length co131, .slice Ao137 t781.length co137, .int .i64 t784, .bool false, .slice none 0 0]) ?_ 3 _ rfl; (with_reducible repeat (first | refine blk_drewN ?_ _ | refine blk_drew ?_ | refine blk_alloc ?_ _)); refine blk_put (cs := #[.slice Ao131 t778.length co131, .slice Ao137 t781.length co137, .int .i64 0, .bool false, .slice none 0 0]) ?_ 2 _ rfl; (with_reducible repeat (first | refine blk_drewN ?_ _ | refine blk_drew ?_ | refine blk_alloc ?_ _)); refine blk_put (cs := #[.slice Ao131 t778.length co131, .slice none 0 0, .int .i64 0, .bool false, .slice none 0 0]) ?_ 1 _ rfl; (with_reducible repeat (first | refine blk_drewN ?_ _ | refine blk_drew ?_ | refine blk_alloc ?_ _)); refine blk_put (cs := #[.slice none 0 0, .slice none 0 0, .int .i64 0, .bool false, .slice none 0 0]) ?_ 0 _ rfl; (with_reducible repeat (first | refine blk_drewN ?_ _ | refine blk_drew ?_ | refine blk_alloc ?_ _)); exact BK790.out) hb); have n20_ := m_ (below_step (bN HB.out) hb); clear HO_719000; clear HO_719001; clear HO_719004; clear HO_731000; clear HO_731001; clear HO_731004; clear HO_744000; clear HO_744001; clear HO_744004; clear HO769; clear HO772; clear HO777; clear HO780; clear HO783; clear HO788; clear BK693; clear BK718; clear BK730; clear BK743; clear BK790; clear HB; have HO_719000 := n0_; have HO_719001 := n1_; have HO_719004 := n2_; have HO_731000 := n3_; have HO_731001 := n4_; have HO_731004 := n5_; have HO_744000 := n6_; have HO_744001 := n7_; have HO_744004 := n8_; have HO769 := n9_; have HO772 := n10_; have HO777 := n11_; have HO780 := n12_; have HO783 := n13_; have HO788 := n14_; have BK693 := n15_; have BK718 := n16_; have BK730 := n17_; have BK743 := n18_; have BK790 := n19_; have HB := n20_; clear n0_ n1_ n2_ n3_ n4_ n5_ n6_ n7_ n8_ n9_ n10_ n11_ n12_ n13_ n14_ n15_ n16_ n17_ n18_ n19_ n20_; (try clear hb); (try clear hb2); (try clear hk); (try clear hi)))
             go_meet
             case rel => exact ⟨_, (true), (by first | rfl | (simp; done) | (simp [*]; done)), H', ⟨by have := HJ11.out; have := HJ68.out; first | omega | exact Nat.le_refl _⟩, ⟨by (try simp only [hl731000_68]); (try simp only [hl731001_68]); (try simp only [hl731004_68]); (with_reducible repeat (first | apply Kd.R_alloc | apply Kd.R_drewN | apply Kd.R_drew)); exact Kd.R_mono HO_719000.out (fun _ hk => ⟨hk.1.1.1, ⟨hk.1.1.2, hk.2⟩⟩)⟩, ⟨by (try simp only [hl731000_68]); (try simp only [hl731001_68]); (try simp only [hl731004_68]); (with_reducible repeat (first | apply Kd.R_alloc | apply Kd.R_drewN | apply Kd.R_drew)); exact Kd.R_mono HO_719001.out (fun _ hk => ⟨hk.1.1.1.1.1, ⟨hk.1.1.1.1.2.1, ⟨hk.1.1.1.1.2.2.1, ⟨hk.1.1.1.1.2.2.2.1, ⟨hk.1.1.1.1.2.2.2.2, ⟨hk.1.2, hk.2⟩⟩⟩⟩⟩⟩)⟩, ⟨by (try simp only [hl731000_68]); (try simp only [hl731001_68]); (try simp only [hl731004_68]); (with_reducible repeat (first | apply Kd.R_alloc | apply Kd.R_drewN | apply Kd.R_drew)); exact Kd.R_mono HO_719004.out (fun _ hk => ⟨hk.1.1.1.1.1, ⟨hk.1.1.1.1.2.1, ⟨hk.1.1.1.1.2.2.1, ⟨hk.1.1.1.1.2.2.2.1, ⟨hk.1.1.1.1.2.2.2.2, ⟨hk.1.2, hk.2⟩⟩⟩⟩⟩⟩)⟩, ⟨by (try simp only [hl731000_68]); (try simp only [hl731001_68]); (try simp only [hl731004_68]); (with_reducible repeat (first | apply Kd.R_alloc | apply Kd.R_drewN | apply Kd.R_drew)); exact Kd.R_mono HO_731000.out (fun _ hk => ⟨hk.1.1.1, ⟨hk.1.1.2, hk.2⟩⟩)⟩, ⟨by (try simp only [hl731000_68]); (try simp only [hl731001_68]); (try simp only [hl731004_68]); (with_reducible repeat (first | apply Kd.R_alloc | apply Kd.R_drewN | apply Kd.R_drew)); exact Kd.R_mono HO_731001.out (fun _ hk => ⟨hk.1.1.1.1.1, ⟨hk.1.1.1.1.2.1, ⟨hk.1.1.1.1.2.2.1, ⟨hk.1.1.1.1.2.2.2.1, ⟨hk.1.1.1.1.2.2.2.2, ⟨hk.1.2, hk.2⟩⟩⟩⟩⟩⟩)⟩, ⟨by (try simp only [hl731000_68]); (try simp only [hl731001_68]); (try simp only [hl731004_68]); (with_reducible repeat (first | apply Kd.R_alloc | apply Kd.R_drewN | apply Kd.R_drew)); exact Kd.R_mono HO_731004.out (fun _ hk => ⟨hk.1.1.1.1.1, ⟨hk.1.1.1.1.2.1, ⟨hk.1.1.1.1.2.2.1, ⟨hk.1.1.1.1.2.2.2.1, ⟨hk.1.1.1.1.2.2.2.2, ⟨hk.1.2, hk.2⟩⟩⟩⟩⟩⟩)⟩, ⟨by (try simp only [hl731000_68]); (try simp only [hl731001_68]); (try simp only [hl731004_68]); (with_reducible repeat (first | apply Kd.R_alloc | apply Kd.R_drewN | apply Kd.R_drew)); exact Kd.R_mono HO_744000.out (fun _ hk => ⟨hk.1.1.1, ⟨hk.1.1.2, hk.2⟩⟩)⟩, ⟨by (try simp only [hl731000_68]); (try simp only [hl731001_68]); (try simp only [hl731004_68]); (with_reducible repeat (first | apply Kd.R_alloc | apply Kd.R_drewN | apply Kd.R_drew)); exact Kd.R_mono HO_744001.out (fun _ hk => ⟨hk.1.1.1.1.1, ⟨hk.1.1.1.1.2.1, ⟨hk.1.1.1.1.2.2.1, ⟨hk.1.1.1.1.2.2.2.1, ⟨hk.1.1.1.1.2.2.2.2, ⟨hk.1.2, hk.2⟩⟩⟩⟩⟩⟩)⟩, ⟨by (try simp only [hl731000_68]); (try simp only [hl731001_68]); (try simp only [hl731004_68]); (with_reducible repeat (first | apply Kd.R_alloc | apply Kd.R_drewN | apply Kd.R_drew)); exact Kd.R_mono HO_744004.out (fun _ hk => ⟨hk.1.1.1.1.1, ⟨hk.1.1.1.1.2.1, ⟨hk.1.1.1.1.2.2.1, ⟨hk.1.1.1.1.2.2.2.1, ⟨hk.1.1.1.1.2.2.2.2, ⟨hk.1.2, hk.2⟩⟩⟩⟩⟩⟩)⟩, ⟨by (try simp only [hl731000_68]); (try simp only [hl731001_68]); (try simp only [hl731004_68]); (with_reducible repeat (first | apply Kd.R_alloc | apply Kd.R_drewN | apply Kd.R_drew)); exact Kd.R_mono HO780.out (fun _ hk => ⟨hk.1.1.1.2, ⟨hk.1.1.2, hk.1.2⟩⟩)⟩, ⟨by (try simp only [hl731000_68]); (try simp only [hl731001_68]); (try simp only [hl731004_68]); (with_reducible repeat (first | apply Kd.R_alloc | apply Kd.R_drewN | apply Kd.R_drew)); exact Kd.R_mono HO783.out (fun _ hk => ⟨hk.1.1.1.1.1.1.1.2, ⟨hk.1.1.1.1.1.1.2, ⟨hk.1.1.1.1.1.2, ⟨hk.1.1.1.1.2, ⟨hk.1.1.1.2, ⟨hk.1.1.2, hk.1.1.1.1.1.1.1.1⟩⟩⟩⟩⟩⟩)⟩, ⟨by (try simp only [hl731000_68]); (try simp only [hl731001_68]); (try simp only [hl731004_68]); (with_reducible repeat (first | apply Kd.R_alloc | apply Kd.R_drewN | apply Kd.R_drew)); exact Kd.R_mono HO788.out (fun _ hk => ⟨hk.1.1.1.1.1.1.1.2, ⟨hk.1.1.1.1.1.1.2, ⟨hk.1.1.1.1.1.2, ⟨hk.1.1.1.1.2, ⟨hk.1.1.1.2, ⟨hk.1.1.2, hk.1.1.1.1.1.1.1.1⟩⟩⟩⟩⟩⟩)⟩, ⟨by (try simp only [hl731000_68]); (try simp only [hl731001_68]); (try simp only [hl731004_68]); (with_reducible repeat (first | refine blk_drewN ?_ _ | refine blk_drew ?_ | refine blk_alloc ?_ _)); exact BK693.out⟩, ⟨by (try simp only [hl731000_68]); (try simp only [hl731001_68]); (try simp only [hl731004_68]); (with_reducible repeat (first | refine blk_drewN ?_ _ | refine blk_drew ?_ | refine blk_alloc ?_ _)); exact BK718.out⟩, ⟨by (try simp only [hl731000_68]); (try simp only [hl731001_68]); (try simp only [hl731004_68]); (with_reducible repeat (first | refine blk_drewN ?_ _ | refine blk_drew ?_ | refine blk_alloc ?_ _)); exact BK730.out⟩, ⟨by (try simp only [hl731000_68]); (try simp only [hl731001_68]); (try simp only [hl731004_68]); (with_reducible repeat (first | refine blk_drewN ?_ _ | refine blk_drew ?_ | refine blk_alloc ?_ _)); exact BK743.out⟩, ⟨by (try simp only [hl731000_68]); (try simp only [hl731001_68]); (try simp only [hl731004_68]); (with_reducible repeat (first | refine blk_drewN ?_ _ | refine blk_drew ?_ | refine blk_alloc ?_ _)); exact BK790.out⟩, ⟨by repeat (first | (with_reducible first | exact HB.out | apply below_alloc | apply pw_below_drewN | apply below_drew1 | refine below_set ?_ GE693.out | refine below_set ?_ GE718.out | refine below_set ?_ GE730.out | refine below_set ?_ GE743.out | refine below_set ?_ GE790.out) | exact HB.out)⟩⟩
           case rest =>
            clear HC114
            try clear c1
            try clear c2
            try clear p2
            try clear c3
            try clear c4
            try clear c4b0
            try clear c5
            try clear c6
            try clear c7
            try clear c8
            try clear c9
            try clear c10
            try clear c11
            try clear c12
            try clear c13
            try clear c14
            try clear c15
            try clear c19
            try clear c21
            try clear c22
            try clear c24
            try clear c25
            try clear c27
            try clear c28
            try clear c32
            try clear c33
            try clear c40
            try clear c41
            try clear c42
            try clear c47
            try clear c48
            try clear c49
            try clear c50
            try clear c52
            try clear c53
            try clear c56
            try clear c57
            try clear c58
            try clear c60
            try clear c61
            try clear c64
            try clear c67
            try clear c76
            try clear c77
            try clear c78
            try clear c81
            try clear c81b0
            try clear c83
            try clear c84
            try clear c85
            try clear c86
            try clear c88
            try clear c89
            try clear c92
            try clear c93
            try clear c94
            try clear c96
            try clear c97
            try clear c100
            try clear c103
            try clear c103b0
            try clear c104
            try clear c105
            try clear c106
            try clear c111
            try clear c111b0
            try clear c111b1
            try clear c115
            try clear c116
            try clear c117
            try clear c122
            try clear c123
            try clear c132
            try clear c133
            try clear c134
            try clear c135
            try clear c140
            try clear c141
            try clear c142
            try clear c143
            try clear c144
            try clear c146
            try clear c147
            try clear c148
            try clear c151
            try clear c152
            try clear c153
            try clear c154
            try clear c156
            try clear c157
            try clear c158
            try clear hcz107_0
            try clear hcz107_1
            try clear hcz107_2
            try clear hcz107_3
            try clear hcz107_4
            try clear hcz109_0
            try clear hcz109_1
            try clear hcz109_2
            try clear hcz109_3
            try clear hcz109_4
            try clear hcz118_0
            try clear hcz118_1
            try clear hcz118_2
            try clear hcz118_3
            try clear hcz118_4
            try clear hcz120_0
            try clear hcz120_1
            try clear hcz120_2
            try clear hcz120_3
            try clear hcz120_4
            try clear hcz124_0
            try clear hcz124_1
            try clear hcz124_2
            try clear hcz124_3
            try clear hcz124_4
            try clear hcz136_0
            try clear hcz136_1
            try clear hcz136_2
            try clear hcz136_3
            try clear hcz136_4
            try clear hcz145_0
            try clear hcz145_1
            try clear hcz145_2
            try clear hcz145_3
            try clear hcz145_4
            try clear hcz149_0
            try clear hcz149_1
            try clear hcz149_2
            try clear hcz149_3
            try clear hcz149_4
            try clear hcz14_0
            try clear hcz14_1
            try clear hcz14_2
            try clear hcz14_3
            try clear hcz14_4
            try clear hcz155_0
            try clear hcz155_1
            try clear hcz155_2
            try clear hcz155_3
            try clear hcz155_4
            try clear hcz159_0
            try clear hcz159_1
            try clear hcz159_2
            try clear hcz159_3
            try clear hcz159_4
            try clear hcz16_0
            try clear hcz16_1
            try clear hcz16_2
            try clear hcz16_3
            try clear hcz16_4
            try clear hcz25_0
            try clear hcz25_1
            try clear hcz25_2
            try clear hcz25_3
            try clear hcz25_4
            try clear hcz28_0
            try clear hcz28_1
            try clear hcz28_2
            try clear hcz28_3
            try clear hcz28_4
            try clear hcz34_0
            try clear hcz34_1
            try clear hcz34_2
            try clear hcz34_3
            try clear hcz34_4
            try clear hcz43_0
            try clear hcz43_1
            try clear hcz43_2
            try clear hcz43_3
            try clear hcz43_4
            try clear hcz51_0
            try clear hcz51_1
            try clear hcz51_2
            try clear hcz51_3
            try clear hcz51_4
            try clear hcz54_0
            try clear hcz54_1
            try clear hcz54_2
            try clear hcz54_3
            try clear hcz54_4
            try clear hcz59_0
            try clear hcz59_1
            try clear hcz59_2
            try clear hcz59_3
            try clear hcz59_4
            try clear hcz62_0
            try clear hcz62_1
            try clear hcz62_2
            try clear hcz62_3
            try clear hcz62_4
            try clear hcz6_0
            try clear hcz6_1
            try clear hcz6_2
            try clear hcz6_3
            try clear hcz6_4
            try clear hcz79_0
            try clear hcz79_1
            try clear hcz79_2
            try clear hcz79_3
            try clear hcz79_4
            try clear hcz87_0
            try clear hcz87_1
            try clear hcz87_2
            try clear hcz87_3
            try clear hcz87_4
            try clear hcz90_0
            try clear hcz90_1
            try clear hcz90_2
            try clear hcz90_3
            try clear hcz90_4
            try clear hcz95_0
            try clear hcz95_1
            try clear hcz95_2
            try clear hcz95_3
            try clear hcz95_4
            try clear hcz98_0
            try clear hcz98_1
            try clear hcz98_2
            try clear hcz98_3
            try clear hcz98_4
            try clear hfz107_0
            try clear hfz107_1
            try clear hfz107_2
            try clear hfz107_3
            try clear hfz107_4
            try clear hfz109_0
            try clear hfz109_1
            try clear hfz109_2
            try clear hfz109_3
            try clear hfz109_4
            try clear hfz118_0
            try clear hfz118_1
            try clear hfz118_2
            try clear hfz118_3
            try clear hfz118_4
            try clear hfz120_0
            try clear hfz120_1
            try clear hfz120_2
            try clear hfz120_3
            try clear hfz120_4
            try clear hfz124_0
            try clear hfz124_1
            try clear hfz124_2
            try clear hfz124_3
            try clear hfz124_4
            try clear hfz136_0
            try clear hfz136_1
            try clear hfz136_2
            try clear hfz136_3
            try clear hfz136_4
            try clear hfz145_0
            try clear hfz145_1
            try clear hfz145_2
            try clear hfz145_3
            try clear hfz145_4
            try clear hfz149_0
            try clear hfz149_1
            try clear hfz149_2
            try clear hfz149_3
            try clear hfz149_4
            try clear hfz14_0
            try clear hfz14_1
            try clear hfz14_2
            try clear hfz14_3
            try clear hfz14_4
            try clear hfz155_0
            try clear hfz155_1
            try clear hfz155_2
            try clear hfz155_3
            try clear hfz155_4
            try clear hfz159_0
            try clear hfz159_1
            try clear hfz159_2
            try clear hfz159_3
            try clear hfz159_4
            try clear hfz16_0
            try clear hfz16_1
            try clear hfz16_2
            try clear hfz16_3
            try clear hfz16_4
            try clear hfz25_0
            try clear hfz25_1
            try clear hfz25_2
            try clear hfz25_3
            try clear hfz25_4
            try clear hfz28_0
            try clear hfz28_1
            try clear hfz28_2
            try clear hfz28_3
            try clear hfz28_4
            try clear hfz34_0
            try clear hfz34_1
            try clear hfz34_2
            try clear hfz34_3
            try clear hfz34_4
            try clear hfz43_0
            try clear hfz43_1
            try clear hfz43_2
            try clear hfz43_3
            try clear hfz43_4
            try clear hfz51_0
            try clear hfz51_1
            try clear hfz51_2
            try clear hfz51_3
            try clear hfz51_4
            try clear hfz54_0
            try clear hfz54_1
            try clear hfz54_2
            try clear hfz54_3
            try clear hfz54_4
            try clear hfz59_0
            try clear hfz59_1
            try clear hfz59_2
            try clear hfz59_3
            try clear hfz59_4
            try clear hfz62_0
            try clear hfz62_1
            try clear hfz62_2
            try clear hfz62_3
            try clear hfz62_4
            try clear hfz6_0
            try clear hfz6_1
            try clear hfz6_2
            try clear hfz6_3
            try clear hfz6_4
            try clear hfz79_0
            try clear hfz79_1
            try clear hfz79_2
            try clear hfz79_3
            try clear hfz79_4
            try clear hfz87_0
            try clear hfz87_1
            try clear hfz87_2
            try clear hfz87_3
            try clear hfz87_4
            try clear hfz90_0
            try clear hfz90_1
            try clear hfz90_2
            try clear hfz90_3
            try clear hfz90_4
            try clear hfz95_0
            try clear hfz95_1
            try clear hfz95_2
            try clear hfz95_3
            try clear hfz95_4
            try clear hfz98_0
            try clear hfz98_1
            try clear hfz98_2
            try clear hfz98_3
            try clear hfz98_4
            try clear p2
            obtain ⟨kq, x92_113, rfl, HA, HJ113, HO_719000, HO_719001, HO_719004, HO_731000, HO_731001, HO_731004, HO_744000, HO_744001, HO_744004, HO_791000, HO_791001, HO_791004, BK693, BK718, BK730, BK743, BK790, HB⟩ := hcut
            have hl744000_113 := (Kd.R_reads' HO_744000.out).1
            rw [hl744000_113] at HO_744000
            (try simp only [hl744000_113])
            (try simp only [hl744000_113] at BK693)
            (try simp only [hl744000_113] at BK718)
            (try simp only [hl744000_113] at BK730)
            (try simp only [hl744000_113] at BK743)
            (try simp only [hl744000_113] at BK790)
            (try simp only [hl744000_113] at HO_719000)
            (try simp only [hl744000_113] at HO_719001)
            (try simp only [hl744000_113] at HO_719004)
            (try simp only [hl744000_113] at HO_731000)
            (try simp only [hl744000_113] at HO_731001)
            (try simp only [hl744000_113] at HO_731004)
            (try simp only [hl744000_113] at HO_744001)
            (try simp only [hl744000_113] at HO_744004)
            (try simp only [hl744000_113] at HO_791000)
            (try simp only [hl744000_113] at HO_791001)
            (try simp only [hl744000_113] at HO_791004)
            have hl744001_113 := (Kd.R_reads' HO_744001.out).1
            rw [hl744001_113] at HO_744001
            (try simp only [hl744001_113])
            (try simp only [hl744001_113] at BK693)
            (try simp only [hl744001_113] at BK718)
            (try simp only [hl744001_113] at BK730)
            (try simp only [hl744001_113] at BK743)
            (try simp only [hl744001_113] at BK790)
            (try simp only [hl744001_113] at HO_719000)
            (try simp only [hl744001_113] at HO_719001)
            (try simp only [hl744001_113] at HO_719004)
            (try simp only [hl744001_113] at HO_731000)
            (try simp only [hl744001_113] at HO_731001)
            (try simp only [hl744001_113] at HO_731004)
            (try simp only [hl744001_113] at HO_744000)
            (try simp only [hl744001_113] at HO_744004)
            (try simp only [hl744001_113] at HO_791000)
            (try simp only [hl744001_113] at HO_791001)
            (try simp only [hl744001_113] at HO_791004)
            have hl744004_113 := (Kd.R_reads' HO_744004.out).1
            rw [hl744004_113] at HO_744004
            (try simp only [hl744004_113])
            (try simp only [hl744004_113] at BK693)
            (try simp only [hl744004_113] at BK718)
            (try simp only [hl744004_113] at BK730)
            (try simp only [hl744004_113] at BK743)
            (try simp only [hl744004_113] at BK790)
            (try simp only [hl744004_113] at HO_719000)
            (try simp only [hl744004_113] at HO_719001)
            (try simp only [hl744004_113] at HO_719004)
            (try simp only [hl744004_113] at HO_731000)
            (try simp only [hl744004_113] at HO_731001)
            (try simp only [hl744004_113] at HO_731004)
            (try simp only [hl744004_113] at HO_744000)
            (try simp only [hl744004_113] at HO_744001)
            (try simp only [hl744004_113] at HO_791000)
            (try simp only [hl744004_113] at HO_791001)
            (try simp only [hl744004_113] at HO_791004)
            cases kq with
            | zero => exact absurd HA.out (by simp [laws_FnExactPartSend.j2])
            | succ kj113 =>
             have H := HA.out
             clear HA
             simp only [laws_FnExactPartSend.j2] at H
             by_cases c161 : x92_113 = true
             ·subst c161
              have H1 : (some false) = some r := by rw [if_pos rfl] at H; exact H
              clear H
              have H := H1
              clear H1
              obtain rfl := Option.some.inj H
              go_wp2
              go_ret
              exact ⟨by first | rfl | (simp [errW_none, errW_some] <;> rfl) | (simp [*, errW_none, errW_some] <;> rfl), by repeat (first | (with_reducible first | exact HB.out | apply below_alloc | apply pw_below_drewN | apply below_drew1 | refine below_set ?_ GE693.out | refine below_set ?_ GE718.out | refine below_set ?_ GE730.out | refine below_set ?_ GE743.out | refine below_set ?_ GE790.out) | exact HB.out)⟩
             ·replace c161 := Bool.eq_false_iff.mpr c161
              subst c161
              have H1 : ((laws_heldPart.f kj113 t763 t764 t737 t738 t765 1).bind fun t792 => (if t792 < 0 then (some false) else (if t792 = t762 then (some true) else (some false)))) = some r := by rw [if_neg (show ¬ (false = true) by decide)] at H; exact H
              clear H
              have H := H1
              clear H1
              replace H := Option.bind_eq_some_iff.mp H
              obtain ⟨t792, A1620, H⟩ := H
              replace H : (if t792 < 0 then (some false) else (if t792 = t762 then (some true) else (some false))) = some r := H
              have A162 := Aside0.mk A1620
              clear A1620
              by_cases c163 : t792 < 0
              ·rw [if_pos c163] at H
               have c163b0 : decide (t792 < 0) = true := decide_eq_true c163
               clear c163
               obtain rfl := Option.some.inj H
               have hnb164 := NB743_693.out
               have hnc164 := NB693_743.out
               have hnb165 := NB743_718.out
               have hnc165 := NB718_743.out
               have hnb166 := NB743_730.out
               have hnc166 := NB730_743.out
               have hnb167 := NB743_790.out
               have hnc167 := NB790_743.out
               have hcz168_0 : wc.cell? ⟨gb743, 0, none⟩ = some (.slice Ao39 t763.length co39) := (blk_cell BK743.out 0).trans rfl
               have hcz168_1 : wc.cell? ⟨gb743, 1, none⟩ = some (.slice Ao44 t764.length co44) := (blk_cell BK743.out 1).trans rfl
               have hcz168_2 : wc.cell? ⟨gb743, 2, none⟩ = some (.int .i64 t737) := (blk_cell BK743.out 2).trans rfl
               have hcz168_3 : wc.cell? ⟨gb743, 3, none⟩ = some (.bool t738) := (blk_cell BK743.out 3).trans rfl
               have hcz168_4 : wc.cell? ⟨gb743, 4, none⟩ = some (.slice Ao45 t765.length co45) := (blk_cell BK743.out 4).trans rfl
               have hfz168_0 := blk_frozen BK743.out 0
               have hfz168_1 := blk_frozen BK743.out 1
               have hfz168_2 := blk_frozen BK743.out 2
               have hfz168_3 := blk_frozen BK743.out 3
               have hfz168_4 := blk_frozen BK743.out 4
               go_wp2_with (first | ((with_reducible refine gate_callee (f := 25) rfl ?_); refine goesL_ (some 95) rfl rfl Try.func25 (by kernel_rfl) rfl #[.agg #[.slice Ao39 t763.length co39, .slice Ao44 t764.length co44, .int .i64 t737, .bool t738, .slice Ao45 t765.length co45], .int .i64 1] rfl gl_ ?_; (with_reducible refine (laws_heldPart.calls kj113 _ _ t763 _ _ t764 t737 t738 _ _ t765 1 t792 _ ?side1 ?side2 ?side3 ?side4 ?side5 ?side6 A162.out).mono ?_); (case side1 => exact cN (Kd.R_reads' HO_744000.out).2.2); (case side2 => exact (Kd.R_reads' HO_744000.out).2.1); (case side3 => exact cN (Kd.R_reads' HO_744001.out).2.2); (case side4 => exact (Kd.R_reads' HO_744001.out).2.1); (case side5 => exact cN (Kd.R_reads' HO_744004.out).2.2); (case side6 => exact (Kd.R_reads' HO_744004.out).2.1); rintro e w169 ⟨rfl, hb⟩; refine ⟨_, rfl, ?_⟩; have n0_ := m_ (Kd.R_below (rN HO_719000.out) hb); have n1_ := m_ (Kd.R_below (rN HO_719001.out) hb); have n2_ := m_ (Kd.R_below (rN HO_719004.out) hb); have n3_ := m_ (Kd.R_below (rN HO_731000.out) hb); have n4_ := m_ (Kd.R_below (rN HO_731001.out) hb); have n5_ := m_ (Kd.R_below (rN HO_731004.out) hb); have n6_ := m_ (Kd.R_below (rN HO_744000.out) hb); have n7_ := m_ (Kd.R_below (rN HO_744001.out) hb); have n8_ := m_ (Kd.R_below (rN HO_744004.out) hb); have n9_ := m_ (Kd.R_below (rN HO_791000.out) hb); have n10_ := m_ (Kd.R_below (rN HO_791001.out) hb); have n11_ := m_ (Kd.R_below (rN HO_791004.out) hb); have n12_ := m_ (blk_below (kN BK693.out) hb); have n13_ := m_ (blk_below (kN BK718.out) hb); have n14_ := m_ (blk_below (kN BK730.out) hb); have n15_ := m_ (blk_below (kN BK743.out) hb); have n16_ := m_ (blk_below (kN BK790.out) hb); have n17_ := m_ (below_step (bN HB.out) hb); clear HO_719000; clear HO_719001; clear HO_719004; clear HO_731000; clear HO_731001; clear HO_731004; clear HO_744000; clear HO_744001; clear HO_744004; clear HO_791000; clear HO_791001; clear HO_791004; clear BK693; clear BK718; clear BK730; clear BK743; clear BK790; clear HB; have HO_719000 := n0_; have HO_719001 := n1_; have HO_719004 := n2_; have HO_731000 := n3_; have HO_731001 := n4_; have HO_731004 := n5_; have HO_744000 := n6_; have HO_744001 := n7_; have HO_744004 := n8_; have HO_791000 := n9_; have HO_791001 := n10_; have HO_791004 := n11_; have BK693 := n12_; have BK718 := n13_; have BK730 := n14_; have BK743 := n15_; have BK790 := n16_; have HB := n17_; clear n0_ n1_ n2_ n3_ n4_ n5_ n6_ n7_ n8_ n9_ n10_ n11_ n12_ n13_ n14_ n15_ n16_ n17_; (try clear hb); (try clear hb2); (try clear hk); (try clear hi)))
               go_ret
               exact ⟨by first | rfl | (simp [errW_none, errW_some] <;> rfl) | (simp [*, errW_none, errW_some] <;> rfl), by repeat (first | (with_reducible first | exact HB.out | apply below_alloc | apply pw_below_drewN | apply below_drew1 | refine below_set ?_ GE693.out | refine below_set ?_ GE718.out | refine below_set ?_ GE730.out | refine below_set ?_ GE743.out | refine below_set ?_ GE790.out) | exact HB.out)⟩
              ·rw [if_neg c163] at H
               have c163b0 : decide (t792 < 0) = false := decide_eq_false c163
               clear c163
               by_cases c170 : t792 = t762
               ·rw [if_pos c170] at H
                have c170b0 : (t792 == t762) = true := beq_iff_eq.mpr c170
                have c170b1 : (t792 != t762) = false := bne_eq_false_iff_eq.mpr c170
                clear c170
                obtain rfl := Option.some.inj H
                have hnb171 := NB743_693.out
                have hnc171 := NB693_743.out
                have hnb172 := NB743_718.out
                have hnc172 := NB718_743.out
                have hnb173 := NB743_730.out
                have hnc173 := NB730_743.out
                have hnb174 := NB743_790.out
                have hnc174 := NB790_743.out
                have hcz175_0 : wc.cell? ⟨gb743, 0, none⟩ = some (.slice Ao39 t763.length co39) := (blk_cell BK743.out 0).trans rfl
                have hcz175_1 : wc.cell? ⟨gb743, 1, none⟩ = some (.slice Ao44 t764.length co44) := (blk_cell BK743.out 1).trans rfl
                have hcz175_2 : wc.cell? ⟨gb743, 2, none⟩ = some (.int .i64 t737) := (blk_cell BK743.out 2).trans rfl
                have hcz175_3 : wc.cell? ⟨gb743, 3, none⟩ = some (.bool t738) := (blk_cell BK743.out 3).trans rfl
                have hcz175_4 : wc.cell? ⟨gb743, 4, none⟩ = some (.slice Ao45 t765.length co45) := (blk_cell BK743.out 4).trans rfl
                have hfz175_0 := blk_frozen BK743.out 0
                have hfz175_1 := blk_frozen BK743.out 1
                have hfz175_2 := blk_frozen BK743.out 2
                have hfz175_3 := blk_frozen BK743.out 3
                have hfz175_4 := blk_frozen BK743.out 4
                go_wp2_with (first | ((with_reducible refine gate_callee (f := 25) rfl ?_); refine goesL_ (some 95) rfl rfl Try.func25 (by kernel_rfl) rfl #[.agg #[.slice Ao39 t763.length co39, .slice Ao44 t764.length co44, .int .i64 t737, .bool t738, .slice Ao45 t765.length co45], .int .i64 1] rfl gl_ ?_; (with_reducible refine (laws_heldPart.calls kj113 _ _ t763 _ _ t764 t737 t738 _ _ t765 1 t792 _ ?side1 ?side2 ?side3 ?side4 ?side5 ?side6 A162.out).mono ?_); (case side1 => exact cN (Kd.R_reads' HO_744000.out).2.2); (case side2 => exact (Kd.R_reads' HO_744000.out).2.1); (case side3 => exact cN (Kd.R_reads' HO_744001.out).2.2); (case side4 => exact (Kd.R_reads' HO_744001.out).2.1); (case side5 => exact cN (Kd.R_reads' HO_744004.out).2.2); (case side6 => exact (Kd.R_reads' HO_744004.out).2.1); rintro e w176 ⟨rfl, hb⟩; refine ⟨_, rfl, ?_⟩; have n0_ := m_ (Kd.R_below (rN HO_719000.out) hb); have n1_ := m_ (Kd.R_below (rN HO_719001.out) hb); have n2_ := m_ (Kd.R_below (rN HO_719004.out) hb); have n3_ := m_ (Kd.R_below (rN HO_731000.out) hb); have n4_ := m_ (Kd.R_below (rN HO_731001.out) hb); have n5_ := m_ (Kd.R_below (rN HO_731004.out) hb); have n6_ := m_ (Kd.R_below (rN HO_744000.out) hb); have n7_ := m_ (Kd.R_below (rN HO_744001.out) hb); have n8_ := m_ (Kd.R_below (rN HO_744004.out) hb); have n9_ := m_ (Kd.R_below (rN HO_791000.out) hb); have n10_ := m_ (Kd.R_below (rN HO_791001.out) hb); have n11_ := m_ (Kd.R_below (rN HO_791004.out) hb); have n12_ := m_ (blk_below (kN BK693.out) hb); have n13_ := m_ (blk_below (kN BK718.out) hb); have n14_ := m_ (blk_below (kN BK730.out) hb); have n15_ := m_ (blk_below (kN BK743.out) hb); have n16_ := m_ (blk_below (kN BK790.out) hb); have n17_ := m_ (below_step (bN HB.out) hb); clear HO_719000; clear HO_719001; clear HO_719004; clear HO_731000; clear HO_731001; clear HO_731004; clear HO_744000; clear HO_744001; clear HO_744004; clear HO_791000; clear HO_791001; clear HO_791004; clear BK693; clear BK718; clear BK730; clear BK743; clear BK790; clear HB; have HO_719000 := n0_; have HO_719001 := n1_; have HO_719004 := n2_; have HO_731000 := n3_; have HO_731001 := n4_; have HO_731004 := n5_; have HO_744000 := n6_; have HO_744001 := n7_; have HO_744004 := n8_; have HO_791000 := n9_; have HO_791001 := n10_; have HO_791004 := n11_; have BK693 := n12_; have BK718 := n13_; have BK730 := n14_; have BK743 := n15_; have BK790 := n16_; have HB := n17_; clear n0_ n1_ n2_ n3_ n4_ n5_ n6_ n7_ n8_ n9_ n10_ n11_ n12_ n13_ n14_ n15_ n16_ n17_; (try clear hb); (try clear hb2); (try clear hk); (try clear hi)))
                go_ret
                exact ⟨by first | rfl | (simp [errW_none, errW_some] <;> rfl) | (simp [*, errW_none, errW_some] <;> rfl), by repeat (first | (with_reducible first | exact HB.out | apply below_alloc | apply pw_below_drewN | apply below_drew1 | refine below_set ?_ GE693.out | refine below_set ?_ GE718.out | refine below_set ?_ GE730.out | refine below_set ?_ GE743.out | refine below_set ?_ GE790.out) | exact HB.out)⟩
               ·rw [if_neg c170] at H
                have c170b0 : (t792 == t762) = false := beq_eq_false_iff_ne.mpr c170
                have c170b1 : (t792 != t762) = true := bne_iff_ne.mpr c170
                obtain rfl := Option.some.inj H
                have hnb177 := NB743_693.out
                have hnc177 := NB693_743.out
                have hnb178 := NB743_718.out
                have hnc178 := NB718_743.out
                have hnb179 := NB743_730.out
                have hnc179 := NB730_743.out
                have hnb180 := NB743_790.out
                have hnc180 := NB790_743.out
                have hcz181_0 : wc.cell? ⟨gb743, 0, none⟩ = some (.slice Ao39 t763.length co39) := (blk_cell BK743.out 0).trans rfl
                have hcz181_1 : wc.cell? ⟨gb743, 1, none⟩ = some (.slice Ao44 t764.length co44) := (blk_cell BK743.out 1).trans rfl
                have hcz181_2 : wc.cell? ⟨gb743, 2, none⟩ = some (.int .i64 t737) := (blk_cell BK743.out 2).trans rfl
                have hcz181_3 : wc.cell? ⟨gb743, 3, none⟩ = some (.bool t738) := (blk_cell BK743.out 3).trans rfl
                have hcz181_4 : wc.cell? ⟨gb743, 4, none⟩ = some (.slice Ao45 t765.length co45) := (blk_cell BK743.out 4).trans rfl
                have hfz181_0 := blk_frozen BK743.out 0
                have hfz181_1 := blk_frozen BK743.out 1
                have hfz181_2 := blk_frozen BK743.out 2
                have hfz181_3 := blk_frozen BK743.out 3
                have hfz181_4 := blk_frozen BK743.out 4
                go_wp2_with (first | ((with_reducible refine gate_callee (f := 25) rfl ?_); refine goesL_ (some 95) rfl rfl Try.func25 (by kernel_rfl) rfl #[.agg #[.slice Ao39 t763.length co39, .slice Ao44 t764.length co44, .int .i64 t737, .bool t738, .slice Ao45 t765.length co45], .int .i64 1] rfl gl_ ?_; (with_reducible refine (laws_heldPart.calls kj113 _ _ t763 _ _ t764 t737 t738 _ _ t765 1 t792 _ ?side1 ?side2 ?side3 ?side4 ?side5 ?side6 A162.out).mono ?_); (case side1 => exact cN (Kd.R_reads' HO_744000.out).2.2); (case side2 => exact (Kd.R_reads' HO_744000.out).2.1); (case side3 => exact cN (Kd.R_reads' HO_744001.out).2.2); (case side4 => exact (Kd.R_reads' HO_744001.out).2.1); (case side5 => exact cN (Kd.R_reads' HO_744004.out).2.2); (case side6 => exact (Kd.R_reads' HO_744004.out).2.1); rintro e w182 ⟨rfl, hb⟩; refine ⟨_, rfl, ?_⟩; have n0_ := m_ (Kd.R_below (rN HO_719000.out) hb); have n1_ := m_ (Kd.R_below (rN HO_719001.out) hb); have n2_ := m_ (Kd.R_below (rN HO_719004.out) hb); have n3_ := m_ (Kd.R_below (rN HO_731000.out) hb); have n4_ := m_ (Kd.R_below (rN HO_731001.out) hb); have n5_ := m_ (Kd.R_below (rN HO_731004.out) hb); have n6_ := m_ (Kd.R_below (rN HO_744000.out) hb); have n7_ := m_ (Kd.R_below (rN HO_744001.out) hb); have n8_ := m_ (Kd.R_below (rN HO_744004.out) hb); have n9_ := m_ (Kd.R_below (rN HO_791000.out) hb); have n10_ := m_ (Kd.R_below (rN HO_791001.out) hb); have n11_ := m_ (Kd.R_below (rN HO_791004.out) hb); have n12_ := m_ (blk_below (kN BK693.out) hb); have n13_ := m_ (blk_below (kN BK718.out) hb); have n14_ := m_ (blk_below (kN BK730.out) hb); have n15_ := m_ (blk_below (kN BK743.out) hb); have n16_ := m_ (blk_below (kN BK790.out) hb); have n17_ := m_ (below_step (bN HB.out) hb); clear HO_719000; clear HO_719001; clear HO_719004; clear HO_731000; clear HO_731001; clear HO_731004; clear HO_744000; clear HO_744001; clear HO_744004; clear HO_791000; clear HO_791001; clear HO_791004; clear BK693; clear BK718; clear BK730; clear BK743; clear BK790; clear HB; have HO_719000 := n0_; have HO_719001 := n1_; have HO_719004 := n2_; have HO_731000 := n3_; have HO_731001 := n4_; have HO_731004 := n5_; have HO_744000 := n6_; have HO_744001 := n7_; have HO_744004 := n8_; have HO_791000 := n9_; have HO_791001 := n10_; have HO_791004 := n11_; have BK693 := n12_; have BK718 := n13_; have BK730 := n14_; have BK743 := n15_; have BK790 := n16_; have HB := n17_; clear n0_ n1_ n2_ n3_ n4_ n5_ n6_ n7_ n8_ n9_ n10_ n11_ n12_ n13_ n14_ n15_ n16_ n17_; (try clear hb); (try clear hb2); (try clear hk); (try clear hi)))
                go_ret
                exact ⟨by first | rfl | (simp [errW_none, errW_some] <;> rfl) | (simp [*, errW_none, errW_some] <;> rfl), by repeat (first | (with_reducible first | exact HB.out | apply below_alloc | apply pw_below_drewN | apply below_drew1 | refine below_set ?_ GE693.out | refine below_set ?_ GE718.out | refine below_set ?_ GE730.out | refine below_set ?_ GE743.out | refine below_set ?_ GE790.out) | exact HB.out)⟩
          ·rw [if_neg c111] at H
           have c111b0 : (t766 == t762) = false := beq_eq_false_iff_ne.mpr c111
           have c111b1 : (t766 != t762) = true := bne_iff_ne.mpr c111
           obtain rfl := Option.some.inj H
           have hnb183 := NB743_693.out
           have hnc183 := NB693_743.out
           have hnb184 := NB743_718.out
           have hnc184 := NB718_743.out
           have hnb185 := NB743_730.out
           have hnc185 := NB730_743.out
           have hcz186_0 : wc.cell? ⟨gb743, 0, none⟩ = some (.slice Ao39 t731.length co39) := (blk_cell BK743.out 0).trans rfl
           have hcz186_1 : wc.cell? ⟨gb743, 1, none⟩ = some (.slice Ao44 t734.length co44) := (blk_cell BK743.out 1).trans rfl
           have hcz186_2 : wc.cell? ⟨gb743, 2, none⟩ = some (.int .i64 t737) := (blk_cell BK743.out 2).trans rfl
           have hcz186_3 : wc.cell? ⟨gb743, 3, none⟩ = some (.bool t738) := (blk_cell BK743.out 3).trans rfl
           have hcz186_4 : wc.cell? ⟨gb743, 4, none⟩ = some (.slice Ao45 t739.length co45) := (blk_cell BK743.out 4).trans rfl
           have hfz186_0 := blk_frozen BK743.out 0
           have hfz186_1 := blk_frozen BK743.out 1
           have hfz186_2 := blk_frozen BK743.out 2
           have hfz186_3 := blk_frozen BK743.out 3
           have hfz186_4 := blk_frozen BK743.out 4
           go_wp2_with (first | ((with_reducible refine gate_callee (f := 24) rfl ?_); refine goesL_ (some 68) rfl rfl Try.func24 (by kernel_rfl) rfl #[.agg #[.slice Ao39 t731.length co39, .slice Ao44 t734.length co44, .int .i64 t737, .bool t738, .slice Ao45 t739.length co45], .int .i64 1] rfl gl_ ?_; (with_reducible refine (laws_markPart.calls kj68 (fun k_ => some k_ = (.slice Ao39 t731.length co39 : Value).ownBlock) (.slice Ao39 t731.length co39) t731 (fun k_ => some k_ = (.slice Ao44 t734.length co44 : Value).ownBlock) (.slice Ao44 t734.length co44) t734 t737 t738 (fun k_ => some k_ = (.slice Ao45 t739.length co45 : Value).ownBlock) (.slice Ao45 t739.length co45) t739 1 t762 t763 t764 t765 w _ ?side1 ?side2 ?side3 ?side4 ?side5 ?side6 A101.out).mono ?_); (case side1 => repeat (first | (with_reducible first | exact HB.out | apply below_alloc | apply pw_below_drewN | apply below_drew1 | refine below_set ?_ GE693.out | refine below_set ?_ GE718.out | refine below_set ?_ GE730.out | refine below_set ?_ GE743.out) | exact HB.out)); (case side2 => exact Kd.R_tight rfl HO_744000.out); (case side3 => exact Kd.R_tight rfl HO_744001.out); (case side4 => exact fun k_ e_ => (HO_744001.out.1 k_ e_.symm).2.2.2.2); (case side5 => exact Kd.R_tight rfl HO_744004.out); (case side6 => exact fun k_ e_ => (HO_744004.out.1 k_ e_.symm).2.2.2.2); rintro e w187 ⟨rfl, hy0, hy1, hy2, hb, hkp⟩; refine ⟨_, rfl, ?_⟩; have n0_ := m_ (Kd.R_mono (ok' := fun k_ => nb Ao31 t758.length co31 k_ ∧ nb Ao39 t731.length co39 k_) (Kd.R_keptB ((Kd.R_apart' (Kd.R_apart' HO_719000.out (Kd.R_typed HO_744001.out) (by decide)) (Kd.R_typed HO_744004.out) (by decide))) hkp (fun k_ hk_ hs_ => Or.elim hs_ (fun e_ => (hk_.1.1.2) e_) (fun e_ => Or.elim e_ (fun e_ => (hk_.1.2) e_) (fun e_ => (hk_.2) e_)))) (fun k_ hk_ => ⟨hk_.1.1.1.1, hk_.1.1.1.2⟩)); have n1_ := m_ (Kd.R_mono (ok' := fun k_ => nb Ao27 t714.length co27 k_ ∧ nb Ao35 t759.length co35 k_ ∧ nb Ao36 t760.length co36 k_ ∧ nb Ao44 t734.length co44 k_ ∧ nb Ao45 t739.length co45 k_) (Kd.R_keptB ((Kd.R_apart' HO_719001.out (Kd.R_typed HO_744000.out) (by decide))) hkp (fun k_ hk_ hs_ => Or.elim hs_ (fun e_ => (hk_.2) e_) (fun e_ => Or.elim e_ (fun e_ => (hk_.1.2.2.2.1) e_) (fun e_ => (hk_.1.2.2.2.2) e_)))) (fun k_ hk_ => ⟨hk_.1.1.1, hk_.1.1.2.1, hk_.1.1.2.2.1, hk_.1.1.2.2.2.1, hk_.1.1.2.2.2.2⟩)); have n2_ := m_ (Kd.R_mono (ok' := fun k_ => nb Ao26 t709.length co26 k_ ∧ nb Ao35 t759.length co35 k_ ∧ nb Ao36 t760.length co36 k_ ∧ nb Ao44 t734.length co44 k_ ∧ nb Ao45 t739.length co45 k_) (Kd.R_keptB ((Kd.R_apart' HO_719004.out (Kd.R_typed HO_744000.out) (by decide))) hkp (fun k_ hk_ hs_ => Or.elim hs_ (fun e_ => (hk_.2) e_) (fun e_ => Or.elim e_ (fun e_ => (hk_.1.2.2.2.1) e_) (fun e_ => (hk_.1.2.2.2.2) e_)))) (fun k_ hk_ => ⟨hk_.1.1.1, hk_.1.1.2.1, hk_.1.1.2.2.1, hk_.1.1.2.2.2.1, hk_.1.1.2.2.2.2⟩)); have n3_ := m_ (Kd.R_mono (ok' := fun k_ => nb Ao23 t706.length co23 k_ ∧ nb Ao39 t731.length co39 k_) (Kd.R_keptB ((Kd.R_apart' (Kd.R_apart' HO_731000.out (Kd.R_typed HO_744001.out) (by decide)) (Kd.R_typed HO_744004.out) (by decide))) hkp (fun k_ hk_ hs_ => Or.elim hs_ (fun e_ => (hk_.1.1.2) e_) (fun e_ => Or.elim e_ (fun e_ => (hk_.1.2) e_) (fun e_ => (hk_.2) e_)))) (fun k_ hk_ => ⟨hk_.1.1.1.1, hk_.1.1.1.2⟩)); have n4_ := m_ (Kd.R_mono (ok' := fun k_ => nb Ao26 t709.length co26 k_ ∧ nb Ao27 t714.length co27 k_ ∧ nb Ao36 t760.length co36 k_ ∧ nb Ao44 t734.length co44 k_ ∧ nb Ao45 t739.length co45 k_) (Kd.R_keptB ((Kd.R_apart' HO_731001.out (Kd.R_typed HO_744000.out) (by decide))) hkp (fun k_ hk_ hs_ => Or.elim hs_ (fun e_ => (hk_.2) e_) (fun e_ => Or.elim e_ (fun e_ => (hk_.1.2.2.2.1) e_) (fun e_ => (hk_.1.2.2.2.2) e_)))) (fun k_ hk_ => ⟨hk_.1.1.1, hk_.1.1.2.1, hk_.1.1.2.2.1, hk_.1.1.2.2.2.1, hk_.1.1.2.2.2.2⟩)); have n5_ := m_ (Kd.R_mono (ok' := fun k_ => nb Ao26 t709.length co26 k_ ∧ nb Ao27 t714.length co27 k_ ∧ nb Ao35 t759.length co35 k_ ∧ nb Ao44 t734.length co44 k_ ∧ nb Ao45 t739.length co45 k_) (Kd.R_keptB ((Kd.R_apart' HO_731004.out (Kd.R_typed HO_744000.out) (by decide))) hkp (fun k_ hk_ hs_ => Or.elim hs_ (fun e_ => (hk_.2) e_) (fun e_ => Or.elim e_ (fun e_ => (hk_.1.2.2.2.1) e_) (fun e_ => (hk_.1.2.2.2.2) e_)))) (fun k_ hk_ => ⟨hk_.1.1.1, hk_.1.1.2.1, hk_.1.1.2.2.1, hk_.1.1.2.2.2.1, hk_.1.1.2.2.2.2⟩)); have n6_ := m_ (Kd.R_reok rfl hy0 (fun k_ e_ => HO_744000.out.1 k_ e_)); have n7_ := m_ (Kd.R_reok rfl hy1 (fun k_ e_ => HO_744001.out.1 k_ e_)); have n8_ := m_ (Kd.R_reok rfl hy2 (fun k_ e_ => HO_744004.out.1 k_ e_)); have n9_ := m_ (blk_kept (kN BK693.out) hkp (fun hs_ => Or.elim hs_ (fun e_ => (fun e_ => (Kd.R_ne HO_744000.out BK693.out (by decide)) e_) e_) (fun e_ => Or.elim e_ (fun e_ => (fun e_ => (Kd.R_ne HO_744001.out BK693.out (by decide)) e_) e_) (fun e_ => (fun e_ => (Kd.R_ne HO_744004.out BK693.out (by decide)) e_) e_)))); have n10_ := m_ (blk_kept (kN BK718.out) hkp (fun hs_ => Or.elim hs_ (fun e_ => (fun e_ => (Kd.R_ne HO_744000.out BK718.out (by decide)) e_) e_) (fun e_ => Or.elim e_ (fun e_ => (fun e_ => (Kd.R_ne HO_744001.out BK718.out (by decide)) e_) e_) (fun e_ => (fun e_ => (Kd.R_ne HO_744004.out BK718.out (by decide)) e_) e_)))); have n11_ := m_ (blk_kept (kN BK730.out) hkp (fun hs_ => Or.elim hs_ (fun e_ => (fun e_ => (Kd.R_ne HO_744000.out BK730.out (by decide)) e_) e_) (fun e_ => Or.elim e_ (fun e_ => (fun e_ => (Kd.R_ne HO_744001.out BK730.out (by decide)) e_) e_) (fun e_ => (fun e_ => (Kd.R_ne HO_744004.out BK730.out (by decide)) e_) e_)))); have n12_ := m_ (blk_kept (kN BK743.out) hkp (fun hs_ => Or.elim hs_ (fun e_ => (fun e_ => (Kd.R_ne HO_744000.out BK743.out (by decide)) e_) e_) (fun e_ => Or.elim e_ (fun e_ => (fun e_ => (Kd.R_ne HO_744001.out BK743.out (by decide)) e_) e_) (fun e_ => (fun e_ => (Kd.R_ne HO_744004.out BK743.out (by decide)) e_) e_)))); have n13_ := m_ (hb); clear HO_719000; clear HO_719001; clear HO_719004; clear HO_731000; clear HO_731001; clear HO_731004; clear HO_744000; clear HO_744001; clear HO_744004; clear BK693; clear BK718; clear BK730; clear BK743; clear HB; have HO_719000 := n0_; have HO_719001 := n1_; have HO_719004 := n2_; have HO_731000 := n3_; have HO_731001 := n4_; have HO_731004 := n5_; have HO_744000 := n6_; have HO_744001 := n7_; have HO_744004 := n8_; have BK693 := n9_; have BK718 := n10_; have BK730 := n11_; have BK743 := n12_; have HB := n13_; clear n0_ n1_ n2_ n3_ n4_ n5_ n6_ n7_ n8_ n9_ n10_ n11_ n12_ n13_; (try clear hb); (try clear hkp); (try clear hy0); (try clear hy1); (try clear hy2); have hcz188_0 : w187.cell? ⟨gb743, 0, none⟩ = some (.slice Ao39 t731.length co39) := (blk_cell BK743.out 0).trans rfl; have hcz188_1 : w187.cell? ⟨gb743, 1, none⟩ = some (.slice Ao44 t734.length co44) := (blk_cell BK743.out 1).trans rfl; have hcz188_2 : w187.cell? ⟨gb743, 2, none⟩ = some (.int .i64 t737) := (blk_cell BK743.out 2).trans rfl; have hcz188_3 : w187.cell? ⟨gb743, 3, none⟩ = some (.bool t738) := (blk_cell BK743.out 3).trans rfl; have hcz188_4 : w187.cell? ⟨gb743, 4, none⟩ = some (.slice Ao45 t739.length co45) := (blk_cell BK743.out 4).trans rfl; have hfz188_0 := blk_frozen BK743.out 0; have hfz188_1 := blk_frozen BK743.out 1; have hfz188_2 := blk_frozen BK743.out 2; have hfz188_3 := blk_frozen BK743.out 3; have hfz188_4 := blk_frozen BK743.out 4) | ((with_reducible refine gate_callee (f := 25) rfl ?_); refine goesL_ (some 71) rfl rfl Try.func25 (by kernel_rfl) rfl #[.agg #[.slice Ao39 t763.length co39, .slice Ao44 t764.length co44, .int .i64 t737, .bool t738, .slice Ao45 t765.length co45], .int .i64 1] rfl (by (try simp only [List.map_toArray, List.map_cons, List.map_nil]); first | done | (rw [show t763.length = t731.length from (Kd.R_reads' HO_744000.out).1.symm, show t764.length = t734.length from (Kd.R_reads' HO_744001.out).1.symm, show t765.length = t739.length from (Kd.R_reads' HO_744004.out).1.symm] <;> rfl) | rfl | (simp only [List.length_drop, List.length_take]; rfl)) ?_; (with_reducible refine (laws_heldPart.calls kj68 _ _ t763 _ _ t764 t737 t738 _ _ t765 1 t766 _ ?side1 ?side2 ?side3 ?side4 ?side5 ?side6 A102.out).mono ?_); (case side1 => exact cN (Kd.R_reads' HO_744000.out).2.2); (case side2 => rw [show t763.length = t731.length from (Kd.R_reads' HO_744000.out).1.symm]; exact (Kd.R_reads' HO_744000.out).2.1); (case side3 => exact cN (Kd.R_reads' HO_744001.out).2.2); (case side4 => rw [show t764.length = t734.length from (Kd.R_reads' HO_744001.out).1.symm]; exact (Kd.R_reads' HO_744001.out).2.1); (case side5 => exact cN (Kd.R_reads' HO_744004.out).2.2); (case side6 => rw [show t765.length = t739.length from (Kd.R_reads' HO_744004.out).1.symm]; exact (Kd.R_reads' HO_744004.out).2.1); rintro e w189 ⟨rfl, hb⟩; refine ⟨_, rfl, ?_⟩; have n0_ := m_ (Kd.R_below (rN HO_719000.out) hb); have n1_ := m_ (Kd.R_below (rN HO_719001.out) hb); have n2_ := m_ (Kd.R_below (rN HO_719004.out) hb); have n3_ := m_ (Kd.R_below (rN HO_731000.out) hb); have n4_ := m_ (Kd.R_below (rN HO_731001.out) hb); have n5_ := m_ (Kd.R_below (rN HO_731004.out) hb); have n6_ := m_ (Kd.R_below (rN HO_744000.out) hb); have n7_ := m_ (Kd.R_below (rN HO_744001.out) hb); have n8_ := m_ (Kd.R_below (rN HO_744004.out) hb); have n9_ := m_ (blk_below (kN BK693.out) hb); have n10_ := m_ (blk_below (kN BK718.out) hb); have n11_ := m_ (blk_below (kN BK730.out) hb); have n12_ := m_ (blk_below (kN BK743.out) hb); have n13_ := m_ (below_step (bN HB.out) hb); clear HO_719000; clear HO_719001; clear HO_719004; clear HO_731000; clear HO_731001; clear HO_731004; clear HO_744000; clear HO_744001; clear HO_744004; clear BK693; clear BK718; clear BK730; clear BK743; clear HB; have HO_719000 := n0_; have HO_719001 := n1_; have HO_719004 := n2_; have HO_731000 := n3_; have HO_731001 := n4_; have HO_731004 := n5_; have HO_744000 := n6_; have HO_744001 := n7_; have HO_744004 := n8_; have BK693 := n9_; have BK718 := n10_; have BK730 := n11_; have BK743 := n12_; have HB := n13_; clear n0_ n1_ n2_ n3_ n4_ n5_ n6_ n7_ n8_ n9_ n10_ n11_ n12_ n13_; (try clear hb); (try clear hb2); (try clear hk); (try clear hi)))
           go_ret
           exact ⟨by first | rfl | (simp [errW_none, errW_some] <;> rfl) | (simp [*, errW_none, errW_some] <;> rfl), by repeat (first | (with_reducible first | exact HB.out | apply below_alloc | apply pw_below_drewN | apply below_drew1 | refine below_set ?_ GE693.out | refine below_set ?_ GE718.out | refine below_set ?_ GE730.out | refine below_set ?_ GE743.out) | exact HB.out)⟩
     ·replace c67 := Bool.eq_false_iff.mpr c67
      subst c67
      have H1 : (some false) = some r := by rw [if_neg (show ¬ (false = true) by decide)] at H; exact H
      clear H
      have H := H1
      clear H1
      obtain rfl := Option.some.inj H
      try go_wp2
      have n0_ := m_ (Kd.R_drew HO_719000.out)
      have n1_ := m_ (Kd.R_drew HO_719001.out)
      have n2_ := m_ (Kd.R_drew HO_719004.out)
      have n3_ := m_ (Kd.R_drew HO_731000.out)
      have n4_ := m_ (Kd.R_drew HO_731001.out)
      have n5_ := m_ (Kd.R_drew HO_731004.out)
      have n6_ := m_ (Kd.R_drew HO_744000.out)
      have n7_ := m_ (Kd.R_drew HO_744001.out)
      have n8_ := m_ (Kd.R_drew HO_744004.out)
      have n9_ := m_ (blk_drew BK693.out)
      have n10_ := m_ (blk_drew BK718.out)
      have n11_ := m_ (blk_drew BK730.out)
      have n12_ := m_ (blk_drew BK743.out)
      have n13_ := m_ (below_drew1 HB.out)
      clear HO_719000
      clear HO_719001
      clear HO_719004
      clear HO_731000
      clear HO_731001
      clear HO_731004
      clear HO_744000
      clear HO_744001
      clear HO_744004
      clear BK693
      clear BK718
      clear BK730
      clear BK743
      clear HB
      have HO_719000 := n0_
      have HO_719001 := n1_
      have HO_719004 := n2_
      have HO_731000 := n3_
      have HO_731001 := n4_
      have HO_731004 := n5_
      have HO_744000 := n6_
      have HO_744001 := n7_
      have HO_744004 := n8_
      have BK693 := n9_
      have BK718 := n10_
      have BK730 := n11_
      have BK743 := n12_
      have HB := n13_
      clear n0_ n1_ n2_ n3_ n4_ n5_ n6_ n7_ n8_ n9_ n10_ n11_ n12_ n13_
      refine start_ (n := 5) (S := fun w' => w'.cell? ⟨gb730, 0, none⟩ = some (.slice Ao31 t719.length co31) ∧ w'.cell? ⟨gb730, 1, none⟩ = some (.slice Ao35 t722.length co35) ∧ w'.cell? ⟨gb730, 2, none⟩ = some (.int .i64 t725) ∧ w'.cell? ⟨gb730, 3, none⟩ = some (.bool t726) ∧ w'.cell? ⟨gb730, 4, none⟩ = some (.slice Ao36 t727.length co36) ∧ w'.cell? ⟨gb693, 0, none⟩ = some (.slice A0_0 l0_0.length c0_0) ∧ w'.cell? ⟨gb693, 1, none⟩ = some (.slice A0_1 l0_1.length c0_1) ∧ w'.cell? ⟨gb693, 2, none⟩ = some (.int .i64 a0_2) ∧ w'.cell? ⟨gb693, 3, none⟩ = some (.bool a0_3) ∧ w'.cell? ⟨gb693, 4, none⟩ = some (.slice A0_4 l0_4.length c0_4)) (ds := []) #[false, false, false, false, false] (by kernel_rfl) rfl rfl ⟨(blk_cell BK730.out 0).trans rfl, (blk_cell BK730.out 1).trans rfl, (blk_cell BK730.out 2).trans rfl, (blk_cell BK730.out 3).trans rfl, (blk_cell BK730.out 4).trans rfl, (blk_cell BK693.out 0).trans rfl, (blk_cell BK693.out 1).trans rfl, (blk_cell BK693.out 2).trans rfl, (blk_cell BK693.out 3).trans rfl, (blk_cell BK693.out 4).trans rfl⟩ (fun hHeld => ?_)
      generalize wc.drew = w190 at HO_719000 HO_719001 HO_719004 HO_731000 HO_731001 HO_731004 HO_744000 HO_744001 HO_744004 BK693 BK718 BK730 BK743 HB hHeld ⊢
      refine take_ (i := 0) (N := some 45) (v := ?_) (a' := ?_) #[true, false, false, false, false] rfl rfl (by kernel_rfl) (fun _ _ _ h => h) (Or.inl ⟨by rfl, ?_⟩) hHeld ?_ ?_
      rotate_left
      ·rintro w' ⟨s0, s1, s2, s3, s4, s5, s6, s7, s8, s9⟩
       go_simp
       with_reducible rfl
      rotate_left
      ·simp only [Act.put, List.setIfInBounds_toArray, List.set_cons_zero, List.set_cons_succ, i64_w, i32_w]
       rfl
      refine take_ (i := 1) (N := some 46) (v := ?_) (a' := ?_) #[true, true, false, false, false] rfl rfl (by kernel_rfl) (fun _ _ _ h => h) (Or.inl ⟨by rfl, ?_⟩) hHeld ?_ ?_
      rotate_left
      ·rintro w' ⟨s0, s1, s2, s3, s4, s5, s6, s7, s8, s9⟩
       go_simp
       with_reducible rfl
      rotate_left
      ·simp only [Act.put, List.setIfInBounds_toArray, List.set_cons_zero, List.set_cons_succ, i64_w, i32_w]
       rfl
      refine one_ (i := 2) (N := some 47) #[true, true, true, false, false] rfl rfl (by kernel_rfl) (by decide) (fun K hK => ?_)
      refine goes_ Try.func21 (by kernel_rfl) rfl #[.agg #[.slice A0_0 l0_0.length c0_0, .slice A0_1 l0_1.length c0_1, .int .i64 a0_2, .bool a0_3, .slice A0_4 l0_4.length c0_4]] (by rfl) rfl rfl gl_ ?_
      with_reducible refine (laws_toPart.calls kj11 _ _ l0_0 _ _ l0_1 a0_2 a0_3 _ _ l0_4 t745 t748 t751 t752 t753 _ ?side1 ?side2 ?side3 ?side4 ?side5 ?side6 A65.out).mono ?_
      (case side1 => exact cN (Kd.C_below HR0_0.out HB.out))
      (case side2 => exact HC0_0.out)
      (case side3 => exact cN (Kd.C_below HR0_1.out HB.out))
      (case side4 => exact HC0_1.out)
      (case side5 => exact cN (Kd.C_below HR0_4.out HB.out))
      (case side6 => exact HC0_4.out)
      rintro e w191 ⟨v746, v749, v754, rfl, ho0, ho1, ho2, hb⟩
      refine ⟨_, rfl, ?_⟩
      have n0_ := m_ (Kd.R_elder' (rN HO_719000.out) (Kd.R_base ho0) hb)
      have n1_ := m_ (Kd.R_mono (Kd.R_told (Kd.R_told (Kd.R_old (rN HO_719001.out) hb) (Kd.R_base ho1)) (Kd.R_base ho2)) (fun _ h_ => h_.1))
      have n2_ := m_ (Kd.R_mono (Kd.R_told (Kd.R_told (Kd.R_old (rN HO_719004.out) hb) (Kd.R_base ho1)) (Kd.R_base ho2)) (fun _ h_ => h_.1))
      have n3_ := m_ (Kd.R_elder' (rN HO_731000.out) (Kd.R_base ho0) hb)
      have n4_ := m_ (Kd.R_mono (Kd.R_told (Kd.R_told (Kd.R_old (rN HO_731001.out) hb) (Kd.R_base ho1)) (Kd.R_base ho2)) (fun _ h_ => h_.1))
      have n5_ := m_ (Kd.R_mono (Kd.R_told (Kd.R_told (Kd.R_old (rN HO_731004.out) hb) (Kd.R_base ho1)) (Kd.R_base ho2)) (fun _ h_ => h_.1))
      have n6_ := m_ (Kd.R_elder' (rN HO_744000.out) (Kd.R_base ho0) hb)
      have n7_ := m_ (Kd.R_mono (Kd.R_told (Kd.R_told (Kd.R_old (rN HO_744001.out) hb) (Kd.R_base ho1)) (Kd.R_base ho2)) (fun _ h_ => h_.1))
      have n8_ := m_ (Kd.R_mono (Kd.R_told (Kd.R_told (Kd.R_old (rN HO_744004.out) hb) (Kd.R_base ho1)) (Kd.R_base ho2)) (fun _ h_ => h_.1))
      have n9_ := m_ (Kd.R_lower (Kd.R_new' (Kd.R_new' (Kd.R_new' ho0 (Kd.R_lt (rN HO_719000.out))) (Kd.R_lt (rN HO_731000.out))) (Kd.R_lt (rN HO_744000.out))) (below_size (bN HB.out)))
      have n10_ := m_ (Kd.R_lower (Kd.R_new' (Kd.R_new' (Kd.R_new' (Kd.R_new' (Kd.R_new' (Kd.R_new' ho1 (Kd.R_lt (rN HO_719001.out))) (Kd.R_lt (rN HO_719004.out))) (Kd.R_lt (rN HO_731001.out))) (Kd.R_lt (rN HO_731004.out))) (Kd.R_lt (rN HO_744001.out))) (Kd.R_lt (rN HO_744004.out))) (below_size (bN HB.out)))
      have n11_ := m_ (Kd.R_lower (Kd.R_new' (Kd.R_new' (Kd.R_new' (Kd.R_new' (Kd.R_new' (Kd.R_new' ho2 (Kd.R_lt (rN HO_719001.out))) (Kd.R_lt (rN HO_719004.out))) (Kd.R_lt (rN HO_731001.out))) (Kd.R_lt (rN HO_731004.out))) (Kd.R_lt (rN HO_744001.out))) (Kd.R_lt (rN HO_744004.out))) (below_size (bN HB.out)))
      have n12_ := m_ (blk_below (kN BK693.out) hb)
      have n13_ := m_ (blk_below (kN BK718.out) hb)
      have n14_ := m_ (blk_below (kN BK730.out) hb)
      have n15_ := m_ (blk_below (kN BK743.out) hb)
      have n16_ := m_ (below_step (bN HB.out) hb)
      clear HO_719000
      clear HO_719001
      clear HO_719004
      clear HO_731000
      clear HO_731001
      clear HO_731004
      clear HO_744000
      clear HO_744001
      clear HO_744004
      clear BK693
      clear BK718
      clear BK730
      clear BK743
      clear HB
      have HO_719000 := n0_
      have HO_719001 := n1_
      have HO_719004 := n2_
      have HO_731000 := n3_
      have HO_731001 := n4_
      have HO_731004 := n5_
      have HO_744000 := n6_
      have HO_744001 := n7_
      have HO_744004 := n8_
      have HO747 := n9_
      have HO750 := n10_
      have HO755 := n11_
      have BK693 := n12_
      have BK718 := n13_
      have BK730 := n14_
      have BK743 := n15_
      have HB := n16_
      clear n0_ n1_ n2_ n3_ n4_ n5_ n6_ n7_ n8_ n9_ n10_ n11_ n12_ n13_ n14_ n15_ n16_
      (try clear hb)
      (try clear hb2)
      (try clear hk)
      (try clear hi)
      (try clear ho0)
      (try clear ho1)
      (try clear ho2)
      obtain ⟨Ao192, co192, eo192⟩ := Kd.R_slice HO747.out
      (first | subst eo192 | (injection eo192 with f1_ f2_ f3_; have f4_ := f1_.symm; have f5_ := f3_.symm; clear f1_ f2_ f3_; subst f4_; subst f5_))
      obtain ⟨Ao193, co193, eo193⟩ := Kd.R_slice HO750.out
      (first | subst eo193 | (injection eo193 with f1_ f2_ f3_; have f4_ := f1_.symm; have f5_ := f3_.symm; clear f1_ f2_ f3_; subst f4_; subst f5_))
      obtain ⟨Ao194, co194, eo194⟩ := Kd.R_slice HO755.out
      (first | subst eo194 | (injection eo194 with f1_ f2_ f3_; have f4_ := f1_.symm; have f5_ := f3_.symm; clear f1_ f2_ f3_; subst f4_; subst f5_))
      refine hK.out _ _ ⟨(blk_cell BK730.out 0).trans rfl, (blk_cell BK730.out 1).trans rfl, (blk_cell BK730.out 2).trans rfl, (blk_cell BK730.out 3).trans rfl, (blk_cell BK730.out 4).trans rfl, (blk_cell BK693.out 0).trans rfl, (blk_cell BK693.out 1).trans rfl, (blk_cell BK693.out 2).trans rfl, (blk_cell BK693.out 3).trans rfl, (blk_cell BK693.out 4).trans rfl⟩ (fun hHeld => ?_)
      clear hK K
      refine norm_ (a' := ?_) ?_ ?_
      rotate_left
      ·show Act.put _ (some 47) _ = _
       simp only [Act.put, List.setIfInBounds_toArray, List.set_cons_zero, List.set_cons_succ, i64_w, i32_w]
       rfl
      refine one_ (i := 3) (N := some 48) #[true, true, true, true, false] rfl rfl (by kernel_rfl) (by decide) (fun K hK => ?_)
      refine goes_ Try.func22 (by kernel_rfl) rfl #[.agg #[.slice Ao31 t719.length co31, .slice Ao35 t722.length co35, .int .i64 t725, .bool t726, .slice Ao36 t727.length co36], .agg #[.slice Ao192 t745.length co192, .slice Ao193 t748.length co193, .int .i64 t751, .bool t752, .slice Ao194 t753.length co194]] (by rfl) rfl rfl gl_ ?_
      with_reducible refine (laws_eqPart.calls kj11 _ _ t719 _ _ t722 t725 t726 _ _ t727 _ _ t745 _ _ t748 t751 t752 _ _ t753 false _ ?side1 ?side2 ?side3 ?side4 ?side5 ?side6 ?side7 ?side8 ?side9 ?side10 ?side11 ?side12 A66.out).mono ?_
      (case side1 => exact cN (Kd.R_reads' HO_731000.out).2.2)
      (case side2 => exact (Kd.R_reads' HO_731000.out).2.1)
      (case side3 => exact cN (Kd.R_reads' HO_731001.out).2.2)
      (case side4 => exact (Kd.R_reads' HO_731001.out).2.1)
      (case side5 => exact cN (Kd.R_reads' HO_731004.out).2.2)
      (case side6 => exact (Kd.R_reads' HO_731004.out).2.1)
      (case side7 => exact cN (Kd.R_reads' HO747.out).2.2)
      (case side8 => exact (Kd.R_reads' HO747.out).2.1)
      (case side9 => exact cN (Kd.R_reads' HO750.out).2.2)
      (case side10 => exact (Kd.R_reads' HO750.out).2.1)
      (case side11 => exact cN (Kd.R_reads' HO755.out).2.2)
      (case side12 => exact (Kd.R_reads' HO755.out).2.1)
      rintro e w195 ⟨rfl, hb⟩
      refine ⟨_, rfl, ?_⟩
      have n0_ := m_ (Kd.R_below (rN HO_719000.out) hb)
      have n1_ := m_ (Kd.R_below (rN HO_719001.out) hb)
      have n2_ := m_ (Kd.R_below (rN HO_719004.out) hb)
      have n3_ := m_ (Kd.R_below (rN HO_731000.out) hb)
      have n4_ := m_ (Kd.R_below (rN HO_731001.out) hb)
      have n5_ := m_ (Kd.R_below (rN HO_731004.out) hb)
      have n6_ := m_ (Kd.R_below (rN HO_744000.out) hb)
      have n7_ := m_ (Kd.R_below (rN HO_744001.out) hb)
      have n8_ := m_ (Kd.R_below (rN HO_744004.out) hb)
      have n9_ := m_ (Kd.R_below (rN HO747.out) hb)
      have n10_ := m_ (Kd.R_below (rN HO750.out) hb)
      have n11_ := m_ (Kd.R_below (rN HO755.out) hb)
      have n12_ := m_ (blk_below (kN BK693.out) hb)
      have n13_ := m_ (blk_below (kN BK718.out) hb)
      have n14_ := m_ (blk_below (kN BK730.out) hb)
      have n15_ := m_ (blk_below (kN BK743.out) hb)
      have n16_ := m_ (below_step (bN HB.out) hb)
      clear HO_719000
      clear HO_719001
      clear HO_719004
      clear HO_731000
      clear HO_731001
      clear HO_731004
      clear HO_744000
      clear HO_744001
      clear HO_744004
      clear HO747
      clear HO750
      clear HO755
      clear BK693
      clear BK718
      clear BK730
      clear BK743
      clear HB
      have HO_719000 := n0_
      have HO_719001 := n1_
      have HO_719004 := n2_
      have HO_731000 := n3_
      have HO_731001 := n4_
      have HO_731004 := n5_
      have HO_744000 := n6_
      have HO_744001 := n7_
      have HO_744004 := n8_
      have HO747 := n9_
      have HO750 := n10_
      have HO755 := n11_
      have BK693 := n12_
      have BK718 := n13_
      have BK730 := n14_
      have BK743 := n15_
      have HB := n16_
      clear n0_ n1_ n2_ n3_ n4_ n5_ n6_ n7_ n8_ n9_ n10_ n11_ n12_ n13_ n14_ n15_ n16_
      (try clear hb)
      (try clear hb2)
      (try clear hk)
      (try clear hi)
      refine hK.out _ _ ⟨(blk_cell BK730.out 0).trans rfl, (blk_cell BK730.out 1).trans rfl, (blk_cell BK730.out 2).trans rfl, (blk_cell BK730.out 3).trans rfl, (blk_cell BK730.out 4).trans rfl, (blk_cell BK693.out 0).trans rfl, (blk_cell BK693.out 1).trans rfl, (blk_cell BK693.out 2).trans rfl, (blk_cell BK693.out 3).trans rfl, (blk_cell BK693.out 4).trans rfl⟩ (fun hHeld => ?_)
      clear hK K
      refine norm_ (a' := ?_) ?_ ?_
      rotate_left
      ·show Act.put _ (some 48) _ = _
       simp only [Act.put, List.setIfInBounds_toArray, List.set_cons_zero, List.set_cons_succ, i64_w, i32_w]
       rfl
      refine pure_ (i := 4) (N := some 49) (v := ?_) (a' := ?_) #[true, true, true, true, true] rfl rfl (by kernel_rfl) (fun _ _ _ h => h) (Or.inl ⟨by rfl, ?_⟩) ?_ ?_
      rotate_left
      ·intro w'
       go_simp
       with_reducible rfl
      rotate_left
      ·simp only [Act.put, List.setIfInBounds_toArray, List.set_cons_zero, List.set_cons_succ, i64_w, i32_w]
       rfl
      refine done_ (by kernel_rfl) ?_
      try go_wp2
      go_ret
      exact ⟨by first | rfl | (simp [errW_none, errW_some] <;> rfl) | (simp [*, errW_none, errW_some] <;> rfl), by repeat (first | (with_reducible first | exact HB.out | apply below_alloc | apply pw_below_drewN | apply below_drew1 | refine below_set ?_ GE693.out | refine below_set ?_ GE718.out | refine below_set ?_ GE730.out | refine below_set ?_ GE743.out) | exact HB.out)⟩

end Go.Proofs.Ytmhdphohhheoaaa.P
